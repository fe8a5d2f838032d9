import PyProof.Rows.All
import Wide.All
import OpenK.AllK
import Wide.FinOn
import HandS.ForMost
import HandS.Wide
import HandS.IsInst
import HandS.TryOnly
import HandS.ExcOwn
import HandS.WordsExc
import HandS.Lambda
import HandS.TupAny
import HandS.TupMul
import HandS.TupLen
import HandS.Conv
import KE.KDictWalk
import HandS.DictTup
import KE.SortData
import KE.KDictSum
import KE.KDictList
import HandS.FStr
import HandS.Text
import KE.SortKeyHeap
import HandS.More
import HandS.Ends
import HandS.EndTab
import HandS.HeadHook3
import PySem.Challenge.RW_snapshelf_k79_what_is_sent
set_option Elab.async false
set_option linter.all false
set_option maxRecDepth 100000
set_option maxHeartbeats 4000000
/-! FA: values without addresses, and how they lie in the abstract heap. -/
namespace FL
open PySem PySem.Spec PyProof.Rows L2
/-- the code objects' tables that the law's lambdas write: where, and the lambdas' names -/
class TabT where
  T : List (Addr × Str)
variable [TabT]

/-- a dict's key: an int, a text, a row of such -/
abbrev K2 := Sum Key (List Key)
/-- values: a list is what it holds, a dict its pairs in order (t: its keys are rows); ob n: the object made as number n -/
inductive D where
  | non | bl (b : Bool) | int (i : Int) | str (x : Str) | ty (n : String) | ob (n : Nat)
  | tup (ds : List D) | fl (ds : List D) | fd (t : Bool) (kvs : List (K2 × D))
instance : Inhabited D := ⟨.non⟩

/-- a row that may be a dict's key -/
def kl : List D → Bool
  | [] => false
  | ds => ds.all fun d => match d with
    | .int _ => true
    | .str _ => true
    | .ty _ => true
    | _ => false
def Per : HO → Prop
  | .tup _ => True
  | .frz _ _ => True
  | .ext _ => True
  | _ => False
/-- .. or a table -/
def PerT : HO → Prop
  | .tup _ => True
  | .frz _ _ => True
  | .ext _ => True
  | .tbl _ => True
  | _ => False
theorem PerT.of {o : HO} (h : Per o) : PerT o := by cases o <;> first | exact h.elim | trivial
/-- the world: where the objects made lie, the abstract heap, what is locked for a while -/
structure Wd where
  ρ : List Addr
  H : Hp
  lk : Addr → Prop
/-- the tables stand -/
def TbOk (H : Hp) : Prop := LamX.Tabs TabT.T H ∧ ∀ P ps, H P = some (.tbl ps) → ∃ x ∈ TabT.T, x.1 = P
/-- not a table -/
abbrev NoTb (o : HO) : Prop := ∀ ps, o ≠ .tbl ps
/-- from w to w': at most what f allows is written -/
structure Gr (f : Addr → Prop) (w w' : Wd) : Prop where
  per : ∀ a o, Per o → w.H a = some o → w'.H a = some o
  keep : ∀ a o, ¬ f a → (∀ ps, o ≠ .tbl ps) → w.H a = some o → w'.H a = some o
  ob : ∀ (n : Nat) (a : Addr), w.ρ[n]? = some a → w'.ρ[n]? = some a
  lk : ∀ a, w'.lk a ↔ w.lk a
  dm : ∀ a, ¬ f a → w'.H a = none → w.H a = none
  tab : TbOk w.H → TbOk w'.H
abbrev no : Addr → Prop := fun _ => False
theorem Gr.refl {f} (w : Wd) : Gr f w w := ⟨fun _ _ _ h => h, fun _ _ _ _ h => h, fun _ _ h => h, fun _ => Iff.rfl, fun _ _ h => h, fun h => h⟩
theorem Gr.trans {f} {w w1 w2 : Wd} (a : Gr f w w1) (b : Gr f w1 w2) : Gr f w w2 :=
  ⟨fun c o p h => b.per c o p (a.per c o p h), fun c o n t h => b.keep c o n t (a.keep c o n t h), fun n c h => b.ob n c (a.ob n c h), fun c => (b.lk c).trans (a.lk c), fun c n h => a.dm c n (b.dm c n h), fun h => b.tab (a.tab h)⟩
theorem Gr.mono {f g : Addr → Prop} {w w' : Wd} (h : Gr f w w') (i : ∀ a, f a → g a) : Gr g w w' := ⟨h.per, fun a o n => h.keep a o fun z => n (i a z), h.ob, h.lk, fun a n => h.dm a fun z => n (i a z), h.tab⟩
theorem Gr.any {f : Addr → Prop} {w w' : Wd} (h : Gr no w w') : Gr f w w' := h.mono fun _ z => z.elim
/-- the world with another object -/
abbrev Wd.up (w : Wd) (p : Addr) (o : HO) : Wd := ⟨w.ρ, upd w.H p o, w.lk⟩
theorem up_dm {H : Hp} {p a : Addr} {o : HO} (h : upd H p o a = none) : H a = none := by
  by_cases c : a = p
  · subst c; rw [upd_same] at h; cases h
  · rwa [upd_ne c] at h
theorem tab_new {H : Hp} {p : Addr} {o : HO} (h : H p = none) (ho : NoTb o) (t : TbOk H) : TbOk (upd H p o) := ⟨t.1.ext fun b u q => by rw [upd_ne (ne_of_none q h)]; exact q, fun P ps e => by
  by_cases c : P = p
  · subst c; rw [upd_same] at e; exact absurd (Option.some.inj e) (ho ps)
  · rw [upd_ne c] at e; exact t.2 P ps e⟩
theorem tab_mut' {H : Hp} {p : Addr} {o u : HO} (h : H p = some u) (n1 : NoTb u) (n2 : ∀ x, u ≠ .ext x) (ho : NoTb o) (t : TbOk H) : TbOk (upd H p o) := ⟨fun x hx => by
  obtain ⟨ps, h1, h2, h3⟩ := t.1 x hx
  refine ⟨ps, by rw [upd_ne (fun z => by rw [z, h] at h1; cases h1; exact n1 _ rfl)]; exact h1, h2, fun pos cv hc => ?_⟩
  obtain ⟨c, e1, e2⟩ := h3 pos cv hc
  exact ⟨c, e1, by rw [upd_ne (fun z => by rw [z, h] at e2; cases e2; exact n2 _ rfl)]; exact e2⟩, fun P ps e => by
  by_cases c : P = p
  · subst c; rw [upd_same] at e; exact absurd (Option.some.inj e) (ho ps)
  · rw [upd_ne c] at e; exact t.2 P ps e⟩
theorem tab_mut {H : Hp} {p : Addr} {o u : HO} (h : H p = some u) (hu : ¬ PerT u) (ho : NoTb o) (t : TbOk H) : TbOk (upd H p o) := tab_mut' h (fun _ z => by subst z; exact hu trivial) (fun _ z => by subst z; exact hu trivial) ho t
theorem Gr.new {f} {w : Wd} {p : Addr} {o : HO} (h : w.H p = none) (ho : NoTb o := by intro _ z; cases z) : Gr f w (w.up p o) :=
  ⟨fun b u _ q => by show upd w.H p o b = _; rw [upd_ne (ne_of_none q h)]; exact q, fun b u _ _ q => by show upd w.H p o b = _; rw [upd_ne (ne_of_none q h)]; exact q, fun _ _ h => h, fun _ => Iff.rfl, fun _ _ h => up_dm h, tab_new h ho⟩
theorem Gr.mut {f : Addr → Prop} {w : Wd} {p : Addr} {o u : HO} (h : w.H p = some u) (hu : ¬ PerT u) (hf : f p) (ho : NoTb o := by intro _ z; cases z) : Gr f w (w.up p o) :=
  ⟨fun a v pv e => by
    show upd w.H p o a = _
    by_cases c : a = p
    · subst c; rw [h] at e; cases e; exact absurd (PerT.of pv) hu
    · rw [upd_ne c]; exact e, fun a v n _ e => by
    show upd w.H p o a = _
    rw [upd_ne (fun (z : a = p) => n (by rw [z]; exact hf))]; exact e, fun _ _ h => h, fun _ => Iff.rfl, fun _ _ h => up_dm h, tab_mut h hu ho⟩
theorem Gr.nn {f} {w w' : Wd} (g : Gr f w w') {a : Addr} (h : w'.H a = .none) (hf : ¬ f a) : w.H a = .none := g.dm a hf h
theorem Gr.nn0 {w w' : Wd} (g : Gr no w w') {a : Addr} (h : w'.H a = .none) : w.H a = .none := g.nn h id

/-- a list of the written part -/
def SqK (K : PySem.W.Frag) (a : Addr) (xs : List V) : Prop := ∃ (its : Array Value) (n : Nat), K.lookup a = some { cls := .type "list", data := .seq its n } ∧ its.size ≤ sizeLine ∧ Vals xs its.toList
/-- a list that nobody writes -/
def SqF (K : PySem.W.Frag) (H : Hp) (a : Addr) (xs : List V) : Prop := (∃ o, H a = some (.frz o (.lst xs))) ∨ SqK K a xs
/-- a list that may be read -/
def SqR (K : PySem.W.Frag) (H : Hp) (a : Addr) (xs : List V) : Prop := Rd H a (.lst xs) ∨ SqK K a xs
theorem SqR.l {K : PySem.W.Frag} {H : Hp} {a : Addr} {xs : List V} (h : SqR K H a xs) : SqL K H a xs := by
  rcases h with h | ⟨its, n, h1, h2, h3⟩
  · exact .inl h
  · exact .inr ⟨_, its, n, h1, rfl, rfl, rfl, h2, h3⟩
theorem SqF.r {K : PySem.W.Frag} {H : Hp} {a : Addr} {xs : List V} (h : SqF K H a xs) : SqR K H a xs := by
  rcases h with ⟨o, h⟩ | h
  · exact .inl (.inr ⟨o, h⟩)
  · exact .inr h
theorem SqF.l {K : PySem.W.Frag} {H : Hp} {a : Addr} {xs : List V} (h : SqF K H a xs) : SqL K H a xs := h.r.l
/-- as it lies in the heap -/
theorem SqR.at {X : Cx} {pins : List (Addr × Obj)} {σ : L2.St} {H : Hp} {s : Shared} {a : Addr} {xs : List V} (I : Inv X pins σ H s) (h : SqR X.K H a xs) : xs.length ≤ sizeLine ∧ ∃ (its : List Value) (n : Nat), Vals xs its ∧ xs.length = its.length ∧ s.heap.get? a = some { cls := .type "list", data := .seq its.toArray n } := by
  rcases h with h | ⟨its, n, h1, h2, h3⟩
  · obtain ⟨z, its, n, r, e⟩ := h.ok I.hok
    exact ⟨z, its, n, r, r.length, e⟩
  · have e := h3.length
    simp only [Array.length_toList] at e
    exact ⟨by omega, its.toList, n, h3, by simpa using e, by simpa using I.kIn a _ h1⟩
section
variable {K : PySem.W.Frag} {f : Addr → Prop} {w w' : Wd}
theorem SqF.gr {a : Addr} {xs : List V} (e : Gr f w w') (h : SqF K w.H a xs) : SqF K w'.H a xs := by
  rcases h with ⟨o, h⟩ | h
  · exact .inl ⟨o, e.per _ _ trivial h⟩
  · exact .inr h
theorem sqT_gr {a : Addr} {xs : List V} (e : Gr f w w') (h : SqT K w.H a xs) : SqT K w'.H a xs := by
  rcases h with (h | ⟨o, h⟩) | h
  · exact .inl (.inl (e.per _ _ trivial h))
  · exact .inl (.inr ⟨o, e.per _ _ trivial h⟩)
  · exact .inr h
end

/-! ### values that nobody writes -/
def kD : Key → D
  | .inl i => .int i
  | .inr x => .str x
/-- what lies as a dict, its keys as such -/
inductive DictIs : Bool → HO → List (K2 × V) → Prop
  | k (vs : List (Key × V)) : DictIs false (.dK vs) (vs.map fun p => (.inl p.1, p.2))
  | t (vs : List (List Key × V)) : DictIs true (.dT vs) (vs.map fun p => (.inr p.1, p.2))
mutual
/-- the value v is d, and nobody writes it -/
def RD (K : PySem.W.Frag) (w : Wd) : D → V → Prop
  | .non, v => v = .non
  | .bl b, v => v = .bl b
  | .int i, v => v = .int i
  | .str x, v => v = .str x
  | .ty n, v => v = .ty n
  | .ob n, v => ∃ a, w.ρ[n]? = some a ∧ v = .ref a
  | .tup ds, v => ∃ a vs, v = .ref a ∧ SqT K w.H a vs ∧ RDs K w ds vs ∧ (kl ds = true → w.H a = some (.tup vs))
  | .fl ds, v => ∃ a vs, v = .ref a ∧ SqF K w.H a vs ∧ RDs K w ds vs
  | .fd t kvs, v => ∃ a o u vs, v = .ref a ∧ w.H a = some (.frz o u) ∧ DictIs t u vs ∧ ¬ w.lk a ∧ RKs K w kvs vs
def RDs (K : PySem.W.Frag) (w : Wd) : List D → List V → Prop
  | [], vs => vs = []
  | d :: ds, vs => ∃ v r, vs = v :: r ∧ RD K w d v ∧ RDs K w ds r
def RKs (K : PySem.W.Frag) (w : Wd) : List (K2 × D) → List (K2 × V) → Prop
  | [], vs => vs = []
  | kd :: ds, vs => ∃ v r, vs = (kd.1, v) :: r ∧ RK K w kd v ∧ RKs K w ds r
def RK (K : PySem.W.Frag) (w : Wd) : K2 × D → V → Prop
  | (_, d), v => RD K w d v
end
section
variable {K : PySem.W.Frag} {f : Addr → Prop} {w w' : Wd}
mutual
theorem RD.gr (e : Gr f w w') : ∀ {d : D} {v : V}, RD K w d v → RD K w' d v
  | .non, v, h => h
  | .bl _, v, h => h
  | .int _, v, h => h
  | .str _, v, h => h
  | .ty _, v, h => h
  | .ob n, v, ⟨a, h1, h2⟩ => ⟨a, e.ob _ _ h1, h2⟩
  | .tup ds, v, ⟨a, vs, e1, e2, e3, e4⟩ => ⟨a, vs, e1, sqT_gr e e2, RDs.gr e e3, fun k => e.per _ _ trivial (e4 k)⟩
  | .fl ds, v, ⟨a, vs, e1, e2, e3⟩ => ⟨a, vs, e1, e2.gr e, RDs.gr e e3⟩
  | .fd _ kvs, v, ⟨a, o, u, vs, e1, e2, e3, e4, e5⟩ => ⟨a, o, u, vs, e1, e.per _ _ trivial e2, e3, fun z => e4 ((e.lk a).mp z), RKs.gr e e5⟩
theorem RDs.gr (e : Gr f w w') : ∀ {ds : List D} {vs : List V}, RDs K w ds vs → RDs K w' ds vs
  | [], _, h => h
  | _ :: _, _, ⟨v, r, e1, e2, e3⟩ => ⟨v, r, e1, RD.gr e e2, RDs.gr e e3⟩
theorem RKs.gr (e : Gr f w w') : ∀ {ds : List (K2 × D)} {vs : List (K2 × V)}, RKs K w ds vs → RKs K w' ds vs
  | [], _, h => h
  | _ :: _, _, ⟨v, r, e1, e2, e3⟩ => ⟨v, r, e1, RK.gr e e2, RKs.gr e e3⟩
theorem RK.gr (e : Gr f w w') : ∀ {d : K2 × D} {v : V}, RK K w d v → RK K w' d v
  | (_, _), v, h => RD.gr e (v := v) h
end
end

/-! ### values with owners -/
/-- how a value lies: p: nobody writes it; l: a list that is written; mK, mT: a dict that is written, its keys ints and texts, or rows; hl: a list of unlike things, not written itself -/
inductive Tag where
  | p | l (t : Tag) | mK (t : Tag) | mT (t : Tag) | hl (ts : List Tag)
mutual
def Tag.beq : Tag → Tag → Bool
  | .p, .p => true
  | .l a, .l b => a.beq b
  | .mK a, .mK b => a.beq b
  | .mT a, .mT b => a.beq b
  | .hl a, .hl b => Tag.beqs a b
  | _, _ => false
def Tag.beqs : List Tag → List Tag → Bool
  | [], [] => true
  | a :: as, b :: bs => a.beq b && Tag.beqs as bs
  | _, _ => false
end
mutual
theorem Tag.eq_of : ∀ {a b : Tag}, a.beq b = true → a = b
  | .p, .p, _ => rfl
  | .l a, .l b, h => by rw [Tag.eq_of (a := a) (b := b) (by simpa [Tag.beq] using h)]
  | .mK a, .mK b, h => by rw [Tag.eq_of (a := a) (b := b) (by simpa [Tag.beq] using h)]
  | .mT a, .mT b, h => by rw [Tag.eq_of (a := a) (b := b) (by simpa [Tag.beq] using h)]
  | .hl a, .hl b, h => by rw [Tag.eqs_of (a := a) (b := b) (by simpa [Tag.beq] using h)]
  | .p, .l _, h | .p, .mK _, h | .p, .mT _, h | .p, .hl _, h | .l _, .p, h | .l _, .mK _, h | .l _, .mT _, h | .l _, .hl _, h => by simp [Tag.beq] at h
  | .mK _, .p, h | .mK _, .l _, h | .mK _, .mT _, h | .mK _, .hl _, h | .mT _, .p, h | .mT _, .l _, h | .mT _, .mK _, h | .mT _, .hl _, h => by simp [Tag.beq] at h
  | .hl _, .p, h | .hl _, .l _, h | .hl _, .mK _, h | .hl _, .mT _, h => by simp [Tag.beq] at h
theorem Tag.eqs_of : ∀ {a b : List Tag}, Tag.beqs a b = true → a = b
  | [], [], _ => rfl
  | a :: as, b :: bs, h => by
    have h' : a.beq b = true ∧ Tag.beqs as bs = true := by simpa [Tag.beqs] using h
    rw [Tag.eq_of h'.1, Tag.eqs_of h'.2]
  | [], _ :: _, h | _ :: _, [], h => by simp [Tag.beqs] at h
end
/-- a list lies at a; m: as one that is written; A0: what is to stay for it -/
def Seq (m : Bool) (K : PySem.W.Frag) (H : Hp) (a : Addr) (vs : List V) (A : List Addr) : Prop := (H a = some (.lst vs) ∧ A = [a]) ∨ (m = false ∧ SqF K H a vs ∧ A = [])
def Dic (m : Bool) (H : Hp) (a : Addr) (u : HO) (A : List Addr) : Prop := (H a = some u ∧ A = [a]) ∨ (m = false ∧ (∃ o, H a = some (.frz o u)) ∧ A = [])
/-- each of a list's items -/
def All3 (P : D → V → List Addr → Prop) : List D → List V → List Addr → Prop
  | [], vs, A => vs = [] ∧ A = []
  | d :: ds, vs, A => ∃ v r A1 A2, vs = v :: r ∧ A = A1 ++ A2 ∧ P d v A1 ∧ All3 P ds r A2
def AllK (P : D → V → List Addr → Prop) : List (K2 × D) → List (K2 × V) → List Addr → Prop
  | [], vs, A => vs = [] ∧ A = []
  | kd :: ds, vs, A => ∃ v r A1 A2, vs = (kd.1, v) :: r ∧ A = A1 ++ A2 ∧ P kd.2 v A1 ∧ AllK P ds r A2
mutual
/-- the value v is d, lies as the tag says (m = false: or nobody writes it), at the addresses A of its own -/
def Rp (m : Bool) (K : PySem.W.Frag) (w : Wd) : Tag → D → V → List Addr → Prop
  | .p, d, v, A => RD K w d v ∧ A = []
  | .l t, d, v, A => (m = false ∧ RD K w d v ∧ A = []) ∨ ∃ ds a vs A0 A1, d = .fl ds ∧ v = .ref a ∧ Seq m K w.H a vs A0 ∧ All3 (Rp m K w t) ds vs A1 ∧ A = A0 ++ A1
  | .mK t, d, v, A => (m = false ∧ RD K w d v ∧ A = []) ∨ ∃ kvs a vs A0 A1, d = .fd false kvs ∧ v = .ref a ∧ Dic m w.H a (.dK vs) A0 ∧ AllK (Rp m K w t) kvs (vs.map fun p => (.inl p.1, p.2)) A1 ∧ A = A0 ++ A1
  | .mT t, d, v, A => (m = false ∧ RD K w d v ∧ A = []) ∨ ∃ kvs a vs A0 A1, d = .fd true kvs ∧ v = .ref a ∧ Dic m w.H a (.dT vs) A0 ∧ AllK (Rp m K w t) kvs (vs.map fun p => (.inr p.1, p.2)) A1 ∧ A = A0 ++ A1
  | .hl ts, d, v, A => (m = false ∧ RD K w d v ∧ A = []) ∨ ∃ ds a vs A0 A1, d = .fl ds ∧ v = .ref a ∧ Seq m K w.H a vs A0 ∧ Rps m K w ts ds vs A1 ∧ A = A0 ++ A1
def Rps (m : Bool) (K : PySem.W.Frag) (w : Wd) : List Tag → List D → List V → List Addr → Prop
  | [], ds, vs, A => ds = [] ∧ vs = [] ∧ A = []
  | t :: ts, ds, vs, A => ∃ d es v r A1 A2, ds = d :: es ∧ vs = v :: r ∧ A = A1 ++ A2 ∧ Rp m K w t d v A1 ∧ Rps m K w ts es r A2
end
section
variable {K : PySem.W.Frag} {f : Addr → Prop} {w w' : Wd} {m : Bool}
theorem Seq.gr {a : Addr} {vs : List V} {A : List Addr} (e : Gr f w w') (hA : ∀ x ∈ A, ¬ f x) (h : Seq m K w.H a vs A) : Seq m K w'.H a vs A := by
  rcases h with ⟨h, rfl⟩ | ⟨h1, h2, h3⟩
  · exact .inl ⟨e.keep _ _ (hA a (by simp)) (fun _ z => nomatch z) h, rfl⟩
  · exact .inr ⟨h1, h2.gr e, h3⟩
theorem Dic.gr {a : Addr} {u : HO} {A : List Addr} (e : Gr f w w') (hA : ∀ x ∈ A, ¬ f x) (h : Dic m w.H a u A) (hu : ∀ ps, u ≠ .tbl ps := by intro _ z; cases z) : Dic m w'.H a u A := by
  rcases h with ⟨h, rfl⟩ | ⟨h1, ⟨o, h2⟩, h3⟩
  · exact .inl ⟨e.keep _ _ (hA a (by simp)) hu h, rfl⟩
  · exact .inr ⟨h1, ⟨o, e.per _ _ trivial h2⟩, h3⟩
theorem All3.imp {P Q : D → V → List Addr → Prop} : ∀ {ds : List D} {vs : List V} {A : List Addr}, (∀ d v B, (∀ x ∈ B, x ∈ A) → P d v B → Q d v B) → All3 P ds vs A → All3 Q ds vs A
  | [], _, _, _, h => h
  | _ :: _, _, A, i, ⟨v, r, A1, A2, e1, e2, e3, e4⟩ => ⟨v, r, A1, A2, e1, e2, i _ _ _ (fun x hx => by rw [e2]; exact List.mem_append_left _ hx) e3,
    All3.imp (fun d v B hB => i d v B fun x hx => by rw [e2]; exact List.mem_append_right _ (hB x hx)) e4⟩
theorem AllK.imp {P Q : D → V → List Addr → Prop} : ∀ {ds : List (K2 × D)} {vs : List (K2 × V)} {A : List Addr}, (∀ d v B, (∀ x ∈ B, x ∈ A) → P d v B → Q d v B) → AllK P ds vs A → AllK Q ds vs A
  | [], _, _, _, h => h
  | _ :: _, _, A, i, ⟨v, r, A1, A2, e1, e2, e3, e4⟩ => ⟨v, r, A1, A2, e1, e2, i _ _ _ (fun x hx => by rw [e2]; exact List.mem_append_left _ hx) e3,
    AllK.imp (fun d v B hB => i d v B fun x hx => by rw [e2]; exact List.mem_append_right _ (hB x hx)) e4⟩
mutual
theorem Rp.gr (e : Gr f w w') : ∀ {t : Tag} {d : D} {v : V} {A : List Addr}, (∀ x ∈ A, ¬ f x) → Rp m K w t d v A → Rp m K w' t d v A
  | .p, _, _, _, _, ⟨h1, h2⟩ => ⟨h1.gr e, h2⟩
  | .l t, _, _, _, _, .inl ⟨h1, h2, h3⟩ => .inl ⟨h1, h2.gr e, h3⟩
  | .l t, _, _, _, hA, .inr ⟨ds, a, vs, A0, A1, e1, e2, e3, e4, e5⟩ => .inr ⟨ds, a, vs, A0, A1, e1, e2, e3.gr e (fun x hx => hA x (by rw [e5]; exact List.mem_append_left _ hx)),
    e4.imp (fun _ _ B hB h => Rp.gr e (fun x hx => hA x (by rw [e5]; exact List.mem_append_right _ (hB x hx))) h), e5⟩
  | .mK t, _, _, _, _, .inl ⟨h1, h2, h3⟩ => .inl ⟨h1, h2.gr e, h3⟩
  | .mK t, _, _, _, hA, .inr ⟨ds, a, vs, A0, A1, e1, e2, e3, e4, e5⟩ => .inr ⟨ds, a, vs, A0, A1, e1, e2, e3.gr e (fun x hx => hA x (by rw [e5]; exact List.mem_append_left _ hx)),
    e4.imp (fun _ _ B hB h => Rp.gr e (fun x hx => hA x (by rw [e5]; exact List.mem_append_right _ (hB x hx))) h), e5⟩
  | .mT t, _, _, _, _, .inl ⟨h1, h2, h3⟩ => .inl ⟨h1, h2.gr e, h3⟩
  | .mT t, _, _, _, hA, .inr ⟨ds, a, vs, A0, A1, e1, e2, e3, e4, e5⟩ => .inr ⟨ds, a, vs, A0, A1, e1, e2, e3.gr e (fun x hx => hA x (by rw [e5]; exact List.mem_append_left _ hx)),
    e4.imp (fun _ _ B hB h => Rp.gr e (fun x hx => hA x (by rw [e5]; exact List.mem_append_right _ (hB x hx))) h), e5⟩
  | .hl ts, _, _, _, _, .inl ⟨h1, h2, h3⟩ => .inl ⟨h1, h2.gr e, h3⟩
  | .hl ts, _, _, _, hA, .inr ⟨ds, a, vs, A0, A1, e1, e2, e3, e4, e5⟩ => .inr ⟨ds, a, vs, A0, A1, e1, e2, e3.gr e (fun x hx => hA x (by rw [e5]; exact List.mem_append_left _ hx)),
    Rps.gr e (fun x hx => hA x (by rw [e5]; exact List.mem_append_right _ hx)) e4, e5⟩
theorem Rps.gr (e : Gr f w w') : ∀ {t : List Tag} {d : List D} {v : List V} {A : List Addr}, (∀ x ∈ A, ¬ f x) → Rps m K w t d v A → Rps m K w' t d v A
  | [], _, _, _, _, h => h
  | _ :: _, _, _, _, hA, ⟨d, es, v, r, A1, A2, e1, e2, e3, e4, e5⟩ => ⟨d, es, v, r, A1, A2, e1, e2, e3, Rp.gr e (fun x hx => hA x (by rw [e3]; exact List.mem_append_left _ hx)) e4,
    Rps.gr e (fun x hx => hA x (by rw [e3]; exact List.mem_append_right _ hx)) e5⟩
end
theorem Rp.gr0 {t : Tag} {d : D} {v : V} {A : List Addr} (e : Gr no w w') (h : Rp m K w t d v A) : Rp m K w' t d v A := h.gr e fun _ _ => id
mutual
/-- what is written may be read -/
theorem Rp.weak : ∀ {t : Tag} {d : D} {v : V} {A : List Addr}, Rp true K w t d v A → Rp false K w t d v A
  | .p, _, _, _, h => h
  | .l t, _, _, _, .inl ⟨h, _⟩ => nomatch h
  | .l t, _, _, _, .inr ⟨ds, a, vs, A0, A1, e1, e2, e3, e4, e5⟩ => .inr ⟨ds, a, vs, A0, A1, e1, e2, .inl (e3.resolve_right fun z => nomatch z.1), e4.imp (fun _ _ _ _ h => Rp.weak h), e5⟩
  | .mK t, _, _, _, .inl ⟨h, _⟩ => nomatch h
  | .mK t, _, _, _, .inr ⟨ds, a, vs, A0, A1, e1, e2, e3, e4, e5⟩ => .inr ⟨ds, a, vs, A0, A1, e1, e2, .inl (e3.resolve_right fun z => nomatch z.1), e4.imp (fun _ _ _ _ h => Rp.weak h), e5⟩
  | .mT t, _, _, _, .inl ⟨h, _⟩ => nomatch h
  | .mT t, _, _, _, .inr ⟨ds, a, vs, A0, A1, e1, e2, e3, e4, e5⟩ => .inr ⟨ds, a, vs, A0, A1, e1, e2, .inl (e3.resolve_right fun z => nomatch z.1), e4.imp (fun _ _ _ _ h => Rp.weak h), e5⟩
  | .hl ts, _, _, _, .inl ⟨h, _⟩ => nomatch h
  | .hl ts, _, _, _, .inr ⟨ds, a, vs, A0, A1, e1, e2, e3, e4, e5⟩ => .inr ⟨ds, a, vs, A0, A1, e1, e2, .inl (e3.resolve_right fun z => nomatch z.1), Rps.weak e4, e5⟩
theorem Rps.weak : ∀ {t : List Tag} {d : List D} {v : List V} {A : List Addr}, Rps true K w t d v A → Rps false K w t d v A
  | [], _, _, _, h => h
  | _ :: _, _, _, _, ⟨d, es, v, r, A1, A2, e1, e2, e3, e4, e5⟩ => ⟨d, es, v, r, A1, A2, e1, e2, e3, Rp.weak e4, Rps.weak e5⟩
end
/-- what nobody writes may be read as whatever -/
theorem RD.bor {t : Tag} {d : D} {v : V} (h : RD K w d v) : Rp false K w t d v [] := by
  cases t <;> first | exact ⟨h, rfl⟩ | exact .inl ⟨rfl, h, rfl⟩
theorem All3.al {P : D → V → List Addr → Prop} {Z : Addr → Prop} : ∀ {ds : List D} {vs : List V} {A : List Addr}, (∀ d v B, P d v B → ∀ a ∈ B, Z a) → All3 P ds vs A → ∀ a ∈ A, Z a
  | [], _, _, _, ⟨_, h⟩ => by subst h; intro a h; cases h
  | _ :: _, _, A, i, ⟨v, r, A1, A2, e1, e2, e3, e4⟩ => fun a ha => by
    rw [e2] at ha
    rcases List.mem_append.mp ha with h | h
    · exact i _ _ _ e3 a h
    · exact All3.al i e4 a h
theorem AllK.al {P : D → V → List Addr → Prop} {Z : Addr → Prop} : ∀ {ds : List (K2 × D)} {vs : List (K2 × V)} {A : List Addr}, (∀ d v B, P d v B → ∀ a ∈ B, Z a) → AllK P ds vs A → ∀ a ∈ A, Z a
  | [], _, _, _, ⟨_, h⟩ => by subst h; intro a h; cases h
  | _ :: _, _, A, i, ⟨v, r, A1, A2, e1, e2, e3, e4⟩ => fun a ha => by
    rw [e2] at ha
    rcases List.mem_append.mp ha with h | h
    · exact i _ _ _ e3 a h
    · exact AllK.al i e4 a h
theorem Seq.al {a : Addr} {vs : List V} {A : List Addr} {H : Hp} (h : Seq m K H a vs A) : ∀ x ∈ A, H x ≠ none := by
  rcases h with ⟨h, rfl⟩ | ⟨_, _, rfl⟩
  · intro x hx; rw [List.mem_singleton.mp hx, h]; simp
  · intro x hx; cases hx
theorem Dic.al {a : Addr} {u : HO} {A : List Addr} {H : Hp} (h : Dic m H a u A) : ∀ x ∈ A, H x ≠ none := by
  rcases h with ⟨h, rfl⟩ | ⟨_, _, rfl⟩
  · intro x hx; rw [List.mem_singleton.mp hx, h]; simp
  · intro x hx; cases hx
mutual
/-- what is its own is there -/
theorem Rp.al : ∀ {t : Tag} {d : D} {v : V} {A : List Addr}, Rp m K w t d v A → ∀ x ∈ A, w.H x ≠ none
  | .p, _, _, _, ⟨_, h⟩ => by subst h; intro x hx; cases hx
  | .l t, _, _, _, .inl ⟨_, _, h⟩ => by subst h; intro x hx; cases hx
  | .mK t, _, _, _, .inl ⟨_, _, h⟩ => by subst h; intro x hx; cases hx
  | .mT t, _, _, _, .inl ⟨_, _, h⟩ => by subst h; intro x hx; cases hx
  | .hl ts, _, _, _, .inl ⟨_, _, h⟩ => by subst h; intro x hx; cases hx
  | .l t, _, _, _, .inr ⟨ds, a, vs, A0, A1, e1, e2, e3, e4, e5⟩ => fun x hx => by
    rw [e5] at hx
    exact (List.mem_append.mp hx).elim (e3.al x) (All3.al (Z := fun x => w.H x ≠ none) (fun _ _ _ h => Rp.al h) e4 x)
  | .mK t, _, _, _, .inr ⟨ds, a, vs, A0, A1, e1, e2, e3, e4, e5⟩ => fun x hx => by
    rw [e5] at hx
    exact (List.mem_append.mp hx).elim (e3.al x) (AllK.al (Z := fun x => w.H x ≠ none) (fun _ _ _ h => Rp.al h) e4 x)
  | .mT t, _, _, _, .inr ⟨ds, a, vs, A0, A1, e1, e2, e3, e4, e5⟩ => fun x hx => by
    rw [e5] at hx
    exact (List.mem_append.mp hx).elim (e3.al x) (AllK.al (Z := fun x => w.H x ≠ none) (fun _ _ _ h => Rp.al h) e4 x)
  | .hl ts, _, _, _, .inr ⟨ds, a, vs, A0, A1, e1, e2, e3, e4, e5⟩ => fun x hx => by
    rw [e5] at hx
    exact (List.mem_append.mp hx).elim (e3.al x) (Rps.al e4 x)
theorem Rps.al : ∀ {t : List Tag} {d : List D} {v : List V} {A : List Addr}, Rps m K w t d v A → ∀ x ∈ A, w.H x ≠ none
  | [], _, _, _, ⟨_, _, h⟩ => by subst h; intro x hx; cases hx
  | _ :: _, _, _, _, ⟨d, es, v, r, A1, A2, e1, e2, e3, e4, e5⟩ => fun x hx => by
    rw [e3] at hx
    exact (List.mem_append.mp hx).elim (Rp.al e4 x) (Rps.al e5 x)
end
end
end FL

/-! FB: states, judgements, the rules of expressions that change nothing. -/
namespace FL
open PySem PySem.Spec PyProof.Rows L2
variable [TabT]

/-- what is known of a slot -/
inductive Sl where
  | no | own (t : Tag) | bor (t : Tag) | io (t : Tag) | lk (t : Bool)
abbrev Th := List Sl
abbrev Sl.p : Sl := .own .p
def Sl.beq : Sl → Sl → Bool
  | .no, .no => true
  | .own a, .own b => a.beq b
  | .bor a, .bor b => a.beq b
  | .io a, .io b => a.beq b
  | .lk a, .lk b => a == b
  | _, _ => false
theorem Sl.eq_of {a b : Sl} (h : a.beq b = true) : a = b := by
  cases a <;> cases b <;> first | rfl | (simp [Sl.beq] at h; done) | (congr 1; first | exact Tag.eq_of h | exact eq_of_beq h)
/-- less is known -/
def Th.le : Th → Th → Bool
  | [], [] => true
  | a :: as, b :: bs => (b.beq .no || a.beq b) && Th.le as bs
  | _, _ => false

inductive Out (α : Type) where
  | ok (a : α) | exc (c : Str) | stuck
/-- the values at the slots; h: the objects -/
structure St (η : Type) where
  s : List (Option D)
  h : η
inductive Eff (η α : Type) where
  | ok (a : α) (s : St η) | exc (c : Str) (s : St η) | stuck
/-- how a statement ends -/
inductive Fl where
  | nx | rt (d : D) | bk | ct
def Out.bind {α β : Type} : Out α → (α → Out β) → Out β
  | .ok a, k => k a
  | .exc c, _ => .exc c
  | .stuck, _ => .stuck
def Eff.bind {η α β : Type} : Eff η α → (α → St η → Eff η β) → Eff η β
  | .ok a s, k => k a s
  | .exc c s, _ => .exc c s
  | .stuck, _ => .stuck
def Out.of {α : Type} : Option α → Out α
  | some a => .ok a
  | none => .stuck
def Out.eff {η α : Type} (s : St η) : Out α → Eff η α
  | .ok a => .ok a s
  | .exc c => .exc c s
  | .stuck => .stuck
@[simp] theorem Out.bind_ok {α β : Type} {a : α} {k : α → Out β} : (Out.ok a).bind k = k a := rfl
@[simp] theorem Out.bind_exc {α β : Type} {c : Str} {k : α → Out β} : (Out.exc c : Out α).bind k = .exc c := rfl
@[simp] theorem Out.bind_stuck {α β : Type} {k : α → Out β} : (Out.stuck : Out α).bind k = .stuck := rfl
@[simp] theorem Eff.bind_ok {η α β : Type} {a : α} {s : St η} {k : α → St η → Eff η β} : (Eff.ok a s).bind k = k a s := rfl
@[simp] theorem Eff.bind_exc {η α β : Type} {c : Str} {s : St η} {k : α → St η → Eff η β} : (Eff.exc c s : Eff η α).bind k = .exc c s := rfl
@[simp] theorem Eff.bind_stuck {η α β : Type} {k : α → St η → Eff η β} : (Eff.stuck : Eff η α).bind k = .stuck := rfl
@[simp] theorem Out.eff_ok {η α : Type} {s : St η} {a : α} : (Out.ok a).eff s = .ok a s := rfl
@[simp] theorem Out.eff_exc {η α : Type} {s : St η} {c : Str} : (Out.exc c : Out α).eff s = .exc c s := rfl
@[simp] theorem Out.eff_stuck {η α : Type} {s : St η} : (Out.stuck : Out α).eff s = .stuck := rfl
@[simp] theorem Out.of_some {α : Type} {a : α} : Out.of (some a) = .ok a := rfl
@[simp] theorem Out.of_none {α : Type} : Out.of (none : Option α) = .stuck := rfl

/-- how the objects lie -/
class HR (η : Type) where
  rep : PySem.W.Frag → Wd → η → (Addr → Prop) → Prop
  gr : ∀ {K : PySem.W.Frag} {f : Addr → Prop} {w w' : Wd} {h : η} {G : Addr → Prop}, rep K w h G → Gr f w w' → (∀ a, G a → ¬ f a) → rep K w' h G
instance : HR Unit := ⟨fun _ _ _ _ => True, fun _ _ _ => trivial⟩
/-- what may be written; what is read alone (b); where the arguments that are written lie -/
structure Fm where
  f : Addr → Prop
  b : Addr → Prop
  π : Nat → V
  δ : Nat → D
instance : CoeFun Fm (fun _ => Addr → Prop) := ⟨Fm.f⟩
instance : Coe Fm (Addr → Prop) := ⟨Fm.f⟩
structure Fp where
  fp : Nat → List Addr
  G : Addr → Prop
def Fp.all (φ : Fp) (a : Addr) : Prop := φ.G a ∨ ∃ i, a ∈ φ.fp i

structure OwnS {η : Type} [HR η] (K : PySem.W.Frag) (f : Fm) (w : Wd) (Θ : Th) (σ : L2.St) (s : St η) (φ : Fp) : Prop where
  len1 : σ.length = Θ.length
  len2 : s.s.length = Θ.length
  own : ∀ (i : Nat) t, Θ[i]? = some (.own t) → ∃ d v, s.s[i]? = some (some d) ∧ σ[i]? = some (some v) ∧ Rp true K w t d v (φ.fp i)
  bor : ∀ (i : Nat) t, Θ[i]? = some (.bor t) → ∃ A, s.s[i]? = some (some (f.δ i)) ∧ σ[i]? = some (some (f.π i)) ∧ Rp false K w t (f.δ i) (f.π i) A ∧ ∀ a ∈ A, f.b a
  lks : ∀ (i : Nat) t, Θ[i]? = some (.lk t) → ∃ kvs a o u vs, f.δ i = .fd t kvs ∧ f.π i = .ref a ∧ s.s[i]? = some (some (f.δ i)) ∧ σ[i]? = some (some (f.π i)) ∧ w.H a = some (.frz o u) ∧ DictIs t u vs ∧ RKs K w kvs vs
  bf : ∀ a, f.b a → ¬ f a
  io : ∀ (i : Nat) t, Θ[i]? = some (.io t) → ∃ d, s.s[i]? = some (some d) ∧ σ[i]? = some (some (f.π i)) ∧ Rp true K w t d (f.π i) (φ.fp i)
  nd : ∀ i, (φ.fp i).Nodup
  sep : ∀ i j a, a ∈ φ.fp i → a ∈ φ.fp j → i = j
  inF : ∀ i a, a ∈ φ.fp i → f a
  new : ∀ a, w.H a = none → f a
  lkd : ∀ a, w.lk a → ∃ o u, w.H a = some (.frz o u)
  tab : TbOk w.H
  al : ∀ a, φ.all a → w.H a ≠ none
  heap : HR.rep K w s.h φ.G
  hF : ∀ a, φ.G a → f a
  hsep : ∀ i a, a ∈ φ.fp i → ¬ φ.G a

/-- a value behind an expression that changes nothing -/
def RP (K : PySem.W.Frag) (w w' : Wd) : Sl → D → V → Prop
  | .own t, d, v => ∃ A, Rp true K w' t d v A ∧ A.Nodup ∧ ∀ a ∈ A, w.H a = none
  | .bor t, d, v => ∃ A, Rp false K w' t d v A
  | _, _, _ => False
/-- a value behind an expression -/
def RE (K : PySem.W.Frag) (f : Fm) (w' : Wd) (φ : Fp) : Sl → D → V → Prop
  | .own t, d, v => ∃ A, Rp true K w' t d v A ∧ A.Nodup ∧ ∀ a ∈ A, f a ∧ ¬ φ.all a
  | .bor t, d, v => ∃ A, Rp false K w' t d v A
  | _, _, _ => False
abbrev PR (η : Type) := St η → Out D
abbrev PB (η : Type) := St η → Out Bool
abbrev PRs (η : Type) := St η → Out (List D)
abbrev ER (η : Type) := St η → Eff η D
abbrev SR (η : Type) := St η → Eff η Fl

section
variable {η : Type} [HR η]
def Cls (mg : Str → Option Value) (c : Str) (C : Addr) : Prop := mg c = some (.ref C)
/-- what is wanted of an exception -/
def XP (mg : Str → Option Value) (W : WX) (w : Wd) (σ : L2.St) (c : Str) : Prop := ∀ C w', Cls mg c C → Gr no w w' → W (.ref C) none σ w'.H
def lP (K : PySem.W.Frag) (mg : Str → Option Value) (f : Fm) (W : WX) (Θ : Th) (t : PR η) (κ : Sl) : TE := fun σ H Q => ∃ w s φ, w.H = H ∧ OwnS K f w Θ σ s φ ∧
  match t s with
  | .ok d => ∀ v w', Gr no w w' → RP K w w' κ d v → Q v w'.H
  | .exc c => XP mg W w σ c
  | .stuck => False
def lB (K : PySem.W.Frag) (mg : Str → Option Value) (f : Fm) (W : WX) (Θ : Th) (t : PB η) : TT := fun σ H Q => ∃ w s φ, w.H = H ∧ OwnS K f w Θ σ s φ ∧
  match t s with
  | .ok b => ∀ w', Gr no w w' → Q b w'.H
  | .exc c => XP mg W w σ c
  | .stuck => False
def RPs (K : PySem.W.Frag) (w w' : Wd) : List Sl → List D → List V → Prop
  | [], ds, vs => ds = [] ∧ vs = []
  | κ :: κs, ds, vs => ∃ d es v r, ds = d :: es ∧ vs = v :: r ∧ RP K w w' κ d v ∧ RPs K w w' κs es r
def lPs (K : PySem.W.Frag) (mg : Str → Option Value) (f : Fm) (W : WX) (Θ : Th) (t : PRs η) (κs : List Sl) : TA := fun σ H Q => ∃ w s φ, w.H = H ∧ OwnS K f w Θ σ s φ ∧
  match t s with
  | .ok ds => ∀ vs w', Gr no w w' → RPs K w w' κs ds vs → Q vs w'.H
  | .exc c => XP mg W w σ c
  | .stuck => False
structure QP (X : Cx) (f : Fm) (W : WX) (Θ : Th) (e : Expr) (t : PR η) (κ : Sl) : Prop where
  r : PE X e (lP X.K X.mg f W Θ t κ)
structure QB (X : Cx) (f : Fm) (W : WX) (Θ : Th) (e : Expr) (t : PB η) : Prop where
  r : PT X e (lB X.K X.mg f W Θ t)
structure QW (X : Cx) (f : Fm) (W : WX) (Θ : Th) (e : Expr) (t : PB η) : Prop where
  r : PW X e (lB X.K X.mg f W Θ t)
structure QPs (X : Cx) (f : Fm) (W : WX) (Θ : Th) (es : List Expr) (t : PRs η) (κs : List Sl) : Prop where
  r : PA X es (lPs X.K X.mg f W Θ t κs)
end
theorem PE.imp {X : Cx} {e : Expr} {t t' : TE} (h : PE X e t) (i : ∀ σ H Q, t' σ H Q → t σ H Q) : PE X e t' := ⟨fun pins s σ H Q I q => h.run pins s σ H Q I (i _ _ _ q)⟩
theorem PT.imp {X : Cx} {e : Expr} {t t' : TT} (h : PT X e t) (i : ∀ σ H Q, t' σ H Q → t σ H Q) : PT X e t' := ⟨fun pins s σ H Q I q => h.run pins s σ H Q I (i _ _ _ q)⟩
theorem PW.imp {X : Cx} {e : Expr} {t t' : TT} (h : PW X e t) (i : ∀ σ H Q, t' σ H Q → t σ H Q) : PW X e t' := ⟨fun w pins s σ H Q I q => h.run w pins s σ H Q I (i _ _ _ q)⟩
theorem PA.imp {X : Cx} {e : List Expr} {t t' : TA} (h : PA X e t) (i : ∀ σ H Q, t' σ H Q → t σ H Q) : PA X e t' := ⟨fun p pins s σ H Q I q => h.run p pins s σ H Q I (i _ _ _ q)⟩
theorem PS.imp {X : Cx} {e : Stmt} {t t' : TS} (h : PS X e t) (i : ∀ D σ H, t' D σ H → t D σ H) : PS X e t' := ⟨fun pins s σ H Q I q => h.run pins s σ H Q I (i _ _ _ q)⟩
theorem PSs.imp {X : Cx} {e : List Stmt} {t t' : TS} (h : PSs X e t) (i : ∀ D σ H, t' D σ H → t D σ H) : PSs X e t' := ⟨fun pins s σ H Q I q => h.run pins s σ H Q I (i _ _ _ q)⟩
theorem PG.imp {X : Cx} {e : Expr} {t t' : TG} (h : PG X e t) (i : ∀ v σ H Q, t' v σ H Q → t v σ H Q) : PG X e t' := ⟨fun pins s σ H v u Q I r q => h.run pins s σ H v u Q I r (i _ _ _ _ q)⟩
theorem PGs.imp {X : Cx} {e : List Expr} {t t' : TGs} (h : PGs X e t) (i : ∀ v σ H Q, t' v σ H Q → t v σ H Q) : PGs X e t' := ⟨fun pins s σ H v u Q I r q => h.run pins s σ H v u Q I r (i _ _ _ _ q)⟩
theorem PI.imp {X : Cx} {tg iter : Expr} {t t' : TI} (h : PI X tg iter t) (i : ∀ σ H R, t' σ H R → t σ H R) : PI X tg iter t' := ⟨fun pins s σ H Q I q => h.run pins s σ H Q I (i _ _ _ q)⟩

section
variable {η : Type} [HR η] {K : PySem.W.Frag} {f : Fm} {w w' w1 w2 : Wd} {Θ : Th} {σ : L2.St} {s : St η} {φ : Fp} {mg : Str → Option Value} {W : WX}
theorem OwnS.gr0 (h : OwnS K f w Θ σ s φ) (g : Gr no w w') : OwnS K f w' Θ σ s φ where
  len1 := h.len1
  len2 := h.len2
  own i t e := by obtain ⟨d, v, h1, h2, h3⟩ := h.own i t e; exact ⟨d, v, h1, h2, h3.gr0 g⟩
  bor i t e := by obtain ⟨A, h1, h2, h3, h4⟩ := h.bor i t e; exact ⟨A, h1, h2, h3.gr0 g, h4⟩
  lks i t e := by obtain ⟨kvs, a, o, u, vs, h1, h2, h3, h4, h5, h6, h7⟩ := h.lks i t e; exact ⟨kvs, a, o, u, vs, h1, h2, h3, h4, g.per _ (.frz o u) trivial h5, h6, h7.gr g⟩
  bf := h.bf
  io i t e := by obtain ⟨d, h1, h2, h3⟩ := h.io i t e; exact ⟨d, h1, h2, h3.gr0 g⟩
  nd := h.nd
  sep := h.sep
  inF := h.inF
  new a e := h.new a (g.nn0 e)
  al a e n := h.al a e (g.nn0 n)
  tab := g.tab h.tab
  lkd a e := by obtain ⟨o, u, z⟩ := h.lkd a ((g.lk a).mp e); exact ⟨o, u, g.per _ (.frz o u) trivial z⟩
  heap := HR.gr h.heap g fun _ _ => id
  hF := h.hF
  hsep := h.hsep
theorem XP.gr {c : Str} (h : XP mg W w σ c) (g : Gr no w w') : XP mg W w' σ c := fun C w2 hc g2 => h C w2 hc (g.trans g2)
theorem RP.gr {κ : Sl} {d : D} {v : V} (h : RP K w w1 κ d v) (g : Gr no w1 w2) : RP K w w2 κ d v := by
  cases κ with
  | no => exact h
  | io => exact h
  | lk => exact h
  | own t => obtain ⟨A, h1, h2, h3⟩ := h; exact ⟨A, h1.gr0 g, h2, h3⟩
  | bor t => obtain ⟨A, h1⟩ := h; exact ⟨A, h1.gr0 g⟩
/-- seen from an earlier world -/
theorem RP.back {κ : Sl} {d : D} {v : V} (h : RP K w1 w2 κ d v) (g : Gr no w w1) : RP K w w2 κ d v := by
  cases κ with
  | no => exact h
  | io => exact h
  | lk => exact h
  | own t => obtain ⟨A, h1, h2, h3⟩ := h; exact ⟨A, h1, h2, fun a ha => g.nn0 (h3 a ha)⟩
  | bor t => exact h
theorem RP.p {d : D} {v : V} (h : RD K w' d v) : RP K w w' .p d v := ⟨[], ⟨h, rfl⟩, List.nodup_nil, fun _ z => by cases z⟩
theorem RP.rd {d : D} {v : V} (h : RP K w w' .p d v) : RD K w' d v := let ⟨_, ⟨h, _⟩, _⟩ := h; h
theorem RPs.gr : ∀ {κs : List Sl} {ds : List D} {vs : List V}, RPs K w w1 κs ds vs → Gr no w1 w2 → RPs K w w2 κs ds vs
  | [], _, _, h, _ => h
  | _ :: _, _, _, ⟨d, es, v, r, e1, e2, h1, h2⟩, g => ⟨d, es, v, r, e1, e2, h1.gr g, RPs.gr h2 g⟩
theorem RPs.back : ∀ {κs : List Sl} {ds : List D} {vs : List V}, RPs K w1 w2 κs ds vs → Gr no w w1 → RPs K w w2 κs ds vs
  | [], _, _, h, _ => h
  | _ :: _, _, _, ⟨d, es, v, r, e1, e2, h1, h2⟩, g => ⟨d, es, v, r, e1, e2, h1.back g, RPs.back h2 g⟩

/-! ### what may be read: a value by itself, or a list or a dict of such -/
def Fv (K : PySem.W.Frag) (w : Wd) (d : D) (v : V) : Prop := match d with
  | .fl ds => ∃ a vs, v = .ref a ∧ SqR K w.H a vs ∧ RDs K w ds vs
  | .fd t kvs => ∃ a u vs, v = .ref a ∧ Rd w.H a u ∧ DictIs t u vs ∧ RKs K w kvs vs
  | d => RD K w d v
theorem RD.fv {d : D} {v : V} (h : RD K w d v) : Fv K w d v := by
  cases d with
  | fl ds => obtain ⟨a, vs, e1, e2, e3⟩ := h; exact ⟨a, vs, e1, e2.r, e3⟩
  | fd t kvs => obtain ⟨a, o, u, vs, e1, e2, e3, _, e4⟩ := h; exact ⟨a, u, vs, e1, .inr ⟨o, e2⟩, e3, e4⟩
  | _ => exact h
def flat : Tag → Bool
  | .p => true
  | .l .p => true
  | .mK .p => true
  | .mT .p => true
  | _ => false
def Sl.flat : Sl → Bool
  | .own t => FL.flat t
  | .bor t => FL.flat t
  | _ => false
theorem All3.rds {m : Bool} : ∀ {ds : List D} {vs : List V} {A : List Addr}, All3 (Rp m K w .p) ds vs A → RDs K w ds vs ∧ A = []
  | [], _, _, ⟨h, e⟩ => ⟨h, e⟩
  | _ :: _, _, _, ⟨v, r, A1, A2, e1, e2, ⟨h1, e3⟩, h2⟩ => by
    obtain ⟨h3, e4⟩ := All3.rds h2
    exact ⟨⟨v, r, e1, h1, h3⟩, by rw [e2, e3, e4]; rfl⟩
theorem AllK.rks {m : Bool} : ∀ {ds : List (K2 × D)} {vs : List (K2 × V)} {A : List Addr}, AllK (Rp m K w .p) ds vs A → RKs K w ds vs ∧ A = []
  | [], _, _, ⟨h, e⟩ => ⟨h, e⟩
  | (k, d) :: _, _, _, ⟨v, r, A1, A2, e1, e2, ⟨h1, e3⟩, h2⟩ => by
    obtain ⟨h3, e4⟩ := AllK.rks h2
    exact ⟨⟨v, r, e1, h1, h3⟩, by rw [e2, e3, e4]; rfl⟩
theorem RDs.all3 {m : Bool} : ∀ {ds : List D} {vs : List V}, RDs K w ds vs → All3 (Rp m K w .p) ds vs []
  | [], _, h => ⟨h, rfl⟩
  | _ :: _, _, ⟨v, r, e1, h1, h2⟩ => ⟨v, r, [], [], e1, rfl, ⟨h1, rfl⟩, RDs.all3 h2⟩
theorem RKs.allK {m : Bool} : ∀ {ds : List (K2 × D)} {vs : List (K2 × V)}, RKs K w ds vs → AllK (Rp m K w .p) ds vs []
  | [], _, h => ⟨h, rfl⟩
  | (k, d) :: _, _, ⟨v, r, e1, h1, h2⟩ => ⟨v, r, [], [], e1, rfl, ⟨h1, rfl⟩, RKs.allK h2⟩
theorem Seq.sql {m : Bool} {H : Hp} {a : Addr} {vs : List V} {A : List Addr} (h : Seq m K H a vs A) : SqR K H a vs := by
  rcases h with ⟨h, _⟩ | ⟨_, h, _⟩
  · exact .inl (.inl h)
  · exact h.r
theorem Dic.rd {m : Bool} {H : Hp} {a : Addr} {u : HO} {A : List Addr} (h : Dic m H a u A) : Rd H a u := by
  rcases h with ⟨h, _⟩ | ⟨_, h, _⟩
  · exact .inl h
  · exact .inr h
theorem Rp.fv {m : Bool} {t : Tag} {d : D} {v : V} {A : List Addr} (hf : FL.flat t = true) (h : Rp m K w t d v A) : Fv K w d v := by
  cases t with
  | p => exact h.1.fv
  | l t =>
    cases t with
    | p => rcases h with ⟨_, h, _⟩ | ⟨ds, a, vs, A0, A1, rfl, e2, e3, e4, e5⟩; exact h.fv; exact ⟨a, vs, e2, e3.sql, e4.rds.1⟩
    | _ => cases hf
  | mK t =>
    cases t with
    | p => rcases h with ⟨_, h, _⟩ | ⟨ds, a, vs, A0, A1, rfl, e2, e3, e4, e5⟩; exact h.fv; exact ⟨a, _, _, e2, e3.rd, .k vs, e4.rks.1⟩
    | _ => cases hf
  | mT t =>
    cases t with
    | p => rcases h with ⟨_, h, _⟩ | ⟨ds, a, vs, A0, A1, rfl, e2, e3, e4, e5⟩; exact h.fv; exact ⟨a, _, _, e2, e3.rd, .t vs, e4.rks.1⟩
    | _ => cases hf
  | hl ts => cases hf
theorem RP.fv {κ : Sl} {d : D} {v : V} (hf : κ.flat = true) (h : RP K w w' κ d v) : Fv K w' d v := by
  cases κ with
  | no => exact h.elim
  | io => exact h.elim
  | lk => exact h.elim
  | own t => obtain ⟨A, h1, _⟩ := h; exact h1.fv hf
  | bor t => obtain ⟨A, h1⟩ := h; exact h1.fv hf
end

/-! ### names and constants -/
section
variable {η : Type} [HR η] {X : Cx} {f : Fm} {W : WX} {Θ : Th} {e a b : Expr} {pos : Pos}
def fVar (i : Nat) : PR η := fun s => match s.s[i]? with
  | some (some d) => .ok d
  | _ => .stuck
/-- what a slot gives, read -/
def Sl.rd : Sl → Sl
  | .own .p => .own .p
  | .own t => .bor t
  | .bor t => .bor t
  | .io t => .bor t
  | .lk false => .bor (.mK .p)
  | .lk true => .bor (.mT .p)
  | .no => .no
theorem qp_v (i : Nat) {x : Str} {pos : Pos} {κ : Sl} (hi : Θ[i]? = some κ := by rfl) (hk : κ.beq .no = false := by rfl) (hN : X.N[i]? = some x := by rfl) (hv : Vis X.env.scope x := by first | exact Or.inl rfl | exact Or.inr (Or.inl rfl) | exact Or.inr (Or.inr rfl)) (hd : (x == ("__debug__" : Str)) = false := by decide)
    (hcd : (x == ("__classdict__" : Str)) = false := by decide) : QP (η := η) X f W Θ (.Name x pos) (fVar i) κ.rd := ⟨PE.imp (pe_var hN hv hd hcd) fun σ H Q ⟨w, s, φ, hw, hs, h⟩ => by
  subst hw
  unfold fVar at h
  cases κ with
  | no => cases hk
  | own t =>
    obtain ⟨d, v, h1, h2, h3⟩ := hs.own i t hi
    rw [h1] at h
    refine ⟨v, h2, h v w (.refl w) ?_⟩
    cases t with
    | p => exact .p h3.1
    | _ => exact ⟨_, h3.weak⟩
  | bor t =>
    obtain ⟨A, h1, h2, h3, _⟩ := hs.bor i t hi
    rw [h1] at h
    exact ⟨_, h2, h _ w (.refl w) ⟨A, h3⟩⟩
  | lk t =>
    obtain ⟨kvs, a, o, u, vs, e1, e2, h1, h2, h3, h4, h5⟩ := hs.lks i t hi
    rw [h1] at h
    refine ⟨_, h2, h _ w (.refl w) ?_⟩
    rw [e1, e2]
    cases h4 with
    | k us => exact ⟨[], .inr ⟨kvs, a, us, [], [], rfl, rfl, .inr ⟨rfl, ⟨o, h3⟩, rfl⟩, h5.allK, rfl⟩⟩
    | t us => exact ⟨[], .inr ⟨kvs, a, us, [], [], rfl, rfl, .inr ⟨rfl, ⟨o, h3⟩, rfl⟩, h5.allK, rfl⟩⟩
  | io t =>
    obtain ⟨d, h1, h2, h3⟩ := hs.io i t hi
    rw [h1] at h
    exact ⟨_, h2, h _ w (.refl w) ⟨_, h3.weak⟩⟩⟩
def fC (d : D) : PR η := fun _ => .ok d
theorem qp_c {t : TE} {d : D} {v : V} (h : PE X e t) (ht : ∀ σ H Q, Q v H → t σ H Q) (hr : ∀ w, RD X.K w d v) : QP (η := η) X f W Θ e (fC d) .p := ⟨PE.imp h fun σ H Q ⟨w, s, φ, hw, hs, h⟩ => by
  subst hw
  exact ht _ _ _ (h v w (.refl w) (.p (hr w)))⟩
theorem qp_int {i : Int} {j} : QP (η := η) X f W Θ (.Constant (.int i) j pos) (fC (.int i)) .p := qp_c pe_int (fun _ _ _ h => h) fun _ => rfl
theorem qp_bl {i : Bool} {j} : QP (η := η) X f W Θ (.Constant (.bool i) j pos) (fC (.bl i)) .p := qp_c pe_bl (fun _ _ _ h => h) fun _ => rfl
theorem qp_non {j} : QP (η := η) X f W Θ (.Constant .none j pos) (fC .non) .p := qp_c pe_non (fun _ _ _ h => h) fun _ => rfl
theorem qp_str {i : Str} {j} : QP (η := η) X f W Θ (.Constant (.str i) j pos) (fC (.str i)) .p := qp_c pe_str (fun _ _ _ h => h) fun _ => rfl
/-- a constant of the module -/
theorem qp_glob {x : Str} {u : Value} {v : V} {d : D} (hg : Gl X x) (hm : X.mg x = some u) (r : RelV v u) (hr : ∀ w, RD X.K w d v) (h1 : (x == ("__debug__" : Str)) = false := by decide) : QP (η := η) X f W Θ (.Name x pos) (fC d) .p := qp_c (pe_glob hg hm r h1) (fun _ _ _ h => h) hr
theorem qp_globI {x : Str} {i : Int} {t : Tok} (hg : Gl X x) (hm : X.mg x = some (.int i t)) (h1 : (x == ("__debug__" : Str)) = false := by decide) : QP (η := η) X f W Θ (.Name x pos) (fC (.int i)) .p := qp_glob (v := .int i) (d := .int i) hg hm ⟨t, rfl⟩ (fun _ => rfl) h1
theorem qp_globS {x : Str} {i : Str} {t : Tok} (hg : Gl X x) (hm : X.mg x = some (.str i t)) (h1 : (x == ("__debug__" : Str)) = false := by decide) : QP (η := η) X f W Θ (.Name x pos) (fC (.str i)) .p := qp_glob (v := .str i) (d := .str i) hg hm ⟨t, rfl⟩ (fun _ => rfl) h1

/-! ### operations -/
def LP2 (K : PySem.W.Frag) (r : R2) (g : D → D → Option D) (κ : Sl) : Prop := ∀ x y w Q dx dy d, Fv K w dx x → Fv K w dy y → g dx dy = some d → (∀ v w', Gr no w w' → RP K w w' κ d v → Q v w'.H) → r x y w.H Q
def LP1 (K : PySem.W.Frag) (r : V → Hp → VK → Prop) (g : D → Option D) (κ : Sl) : Prop := ∀ x w Q dx d, Fv K w dx x → g dx = some d → (∀ v w', Gr no w w' → RP K w w' κ d v → Q v w'.H) → r x w.H Q
def fOp (g : D → D → Option D) (ta tb : PR η) : PR η := fun s => (ta s).bind fun x => (tb s).bind fun y => .of (g x y)
def fUn (g : D → Option D) (ta : PR η) : PR η := fun s => (ta s).bind fun x => .of (g x)
variable {κ κ1 κ2 : Sl} {ta tb : PR η}
theorem lop {K : PySem.W.Frag} {mg : Str → Option Value} {r : R2} {g : D → D → Option D} (hr : LP2 K r g κ) (f1 : κ1.flat = true) (f2 : κ2.flat = true) {σ : L2.St} {H : Hp} {Q : VK} (h : lP K mg f W Θ (fOp g ta tb) κ σ H Q) : tOp r (lP K mg f W Θ ta κ1) (lP K mg f W Θ tb κ2) σ H Q := by
  obtain ⟨w, s, φ, rfl, hs, h⟩ := h
  refine ⟨w, s, φ, rfl, hs, ?_⟩
  unfold fOp at h
  cases ha : ta s with
  | stuck => rw [ha] at h; exact h
  | exc c => rw [ha] at h; exact h
  | ok x =>
    rw [ha] at h
    intro u w1 g1 r1
    refine ⟨w1, s, φ, rfl, hs.gr0 g1, ?_⟩
    cases hb : tb s with
    | stuck => rw [hb] at h; exact h
    | exc c => rw [hb] at h; exact h.gr g1
    | ok y =>
      rw [hb] at h
      intro u2 w2 g2 r2
      cases hg : g x y with
      | none => simp [hg] at h
      | some d =>
        simp only [Out.bind_ok, hg, Out.of_some] at h
        exact hr _ _ w2 Q x y d ((r1.gr g2).fv f1) (r2.fv f2) hg fun v w3 g3 r3 => h v w3 ((g1.trans g2).trans g3) (r3.back (g1.trans g2))
theorem lun {K : PySem.W.Frag} {mg : Str → Option Value} {r : V → Hp → VK → Prop} {g : D → Option D} (hr : LP1 K r g κ) (f1 : κ1.flat = true) {σ : L2.St} {H : Hp} {Q : VK} (h : lP K mg f W Θ (fUn g ta) κ σ H Q) : tUn r (lP K mg f W Θ ta κ1) σ H Q := by
  obtain ⟨w, s, φ, rfl, hs, h⟩ := h
  refine ⟨w, s, φ, rfl, hs, ?_⟩
  unfold fUn at h
  cases ha : ta s with
  | stuck => rw [ha] at h; exact h
  | exc c => rw [ha] at h; exact h
  | ok x =>
    rw [ha] at h
    intro u w1 g1 r1
    cases hg : g x with
    | none => simp [hg] at h
    | some d =>
      simp only [Out.bind_ok, hg, Out.of_some] at h
      exact hr _ w1 Q x d (r1.fv f1) hg fun v w3 g3 r3 => h v w3 (g1.trans g3) (r3.back g1)
theorem qp_op {op : Operator} {r : R2} {g : D → D → Option D} (ho : OpR X (binaryOp op) r) (hr : LP2 X.K r g κ) (ha : QP X f W Θ a ta κ1) (hb : QP X f W Θ b tb κ2) (f1 : κ1.flat = true := by rfl) (f2 : κ2.flat = true := by rfl) : QP X f W Θ (.BinOp a op b pos) (fOp g ta tb) κ :=
  ⟨PE.imp (pe_op ho ha.r hb.r) fun _ _ _ h => lop hr f1 f2 h⟩
theorem qp_un {op : UnaryOp} {r : V → Hp → VK → Prop} {g : D → Option D} (ho : UnR X (unaryOp op) r) (hr : LP1 X.K r g κ) (ha : QP X f W Θ a ta κ1) (f1 : κ1.flat = true := by rfl) : QP X f W Θ (.UnaryOp op a pos) (fUn g ta) κ :=
  ⟨PE.imp (pe_un ho ha.r) fun _ _ _ h => lun hr f1 h⟩
theorem qp_cmp {op : CmpOp} {r : R2} {g : D → D → Option D} (ho : OpR X (compareOp op) r) (hr : LP2 X.K r g κ) (ha : QP X f W Θ a ta κ1) (hb : QP X f W Θ b tb κ2) (hm : behindInMarks op b = false) (f1 : κ1.flat = true := by rfl) (f2 : κ2.flat = true := by rfl) : QP X f W Θ (.Compare a [op] [b] pos) (fOp g ta tb) κ :=
  ⟨PE.imp (pe_cmpR ho ha.r hb.r hm) fun _ _ _ h => lop hr f1 f2 h⟩
end
end FL

/-! FC: tests, rows, lists, arguments; expressions that change something. -/
namespace FL
open PySem PySem.Spec PyProof.Rows L2
variable [TabT]
section
variable {η : Type} [HR η] {X : Cx} {f : Fm} {W : WX} {Θ : Th} {e a b : Expr} {pos : Pos} {rest : List Expr}
variable {κ κ1 κ2 : Sl} {ta tb : PR η}
def asB : D → Out Bool
  | .bl b => .ok b
  | _ => .stuck
@[simp] theorem asB_bl {b : Bool} : asB (.bl b) = .ok b := rfl
def fTest (t : PR η) : PB η := fun s => (t s).bind asB
theorem ltest {K : PySem.W.Frag} {mg : Str → Option Value} {t : TE} (ht : ∀ σ H Q, lP K mg f W Θ ta .p σ H Q → t σ H Q) {σ : L2.St} {H : Hp} {Q : Bool → Hp → Prop} (h : lB K mg f W Θ (fTest ta) σ H Q) : t σ H fun x H1 => ∃ c, x = .bl c ∧ Q c H1 := by
  obtain ⟨w, s, φ, rfl, hs, h⟩ := h
  refine ht _ _ _ ⟨w, s, φ, rfl, hs, ?_⟩
  unfold fTest at h
  cases ha : ta s with
  | stuck => rw [ha] at h; exact h
  | exc c => rw [ha] at h; exact h
  | ok x =>
    rw [ha] at h
    intro u w1 g1 r1
    have r := r1.rd
    cases x with
    | bl c => exact ⟨c, r, h w1 g1⟩
    | _ => exact h.elim
theorem qb_cmp {op : CmpOp} {r : R2} {g : D → D → Option D} (ho : OpR X (compareOp op) r) (hr : LP2 X.K r g .p) (ha : QP X f W Θ a ta κ1) (hb : QP X f W Θ b tb κ2) (hm : behindInMarks op b = false) (f1 : κ1.flat = true := by rfl) (f2 : κ2.flat = true := by rfl) : QB X f W Θ (.Compare a [op] [b] pos) (fTest (fOp g ta tb)) :=
  ⟨PT.imp (pt_cmpR ho ha.r hb.r hm) fun σ H Q h => ltest (ta := fOp g ta tb) (t := tOp r (lP X.K X.mg f W Θ ta κ1) (lP X.K X.mg f W Θ tb κ2)) (fun _ _ _ h => lop hr f1 f2 h) h⟩
theorem qb_val {t : PR η} (h : QP X f W Θ e t .p) (he : ∀ whole, isTrue e X.env whole = (do let v ← whole; standAt e.pos; holding [v] (truthy v)) := by intro _; rfl) : QB X f W Θ e (fTest t) :=
  ⟨PT.imp (pt_val h.r he) fun _ _ _ h => ltest (fun _ _ _ h => h) h⟩
def fAnd (t u : PB η) : PB η := fun s => (t s).bind fun c => if c = true then u s else .ok false
def fOr (t u : PB η) : PB η := fun s => (t s).bind fun c => if c = true then .ok true else u s
def fNot (t : PB η) : PB η := fun s => (t s).bind fun c => .ok (!c)
theorem QW.t {t : PB η} (h : QW X f W Θ e t) : QB X f W Θ e t := ⟨PW.pt h.r⟩
theorem qw_and1 {t : PB η} (h : QB X f W Θ a t) : QW X f W Θ (.BoolOp .And [a] pos) t := ⟨pw_and1 h.r⟩
theorem qw_or1 {t : PB η} (h : QB X f W Θ a t) : QW X f W Θ (.BoolOp .Or [a] pos) t := ⟨pw_or1 h.r⟩
theorem lb_bind {K : PySem.W.Frag} {mg : Str → Option Value} {t : PB η} {k : Bool → PB η} {σ : L2.St} {H : Hp} {Q : Bool → Hp → Prop} (h : lB K mg f W Θ (fun s => (t s).bind fun c => k c s) σ H Q) : lB K mg f W Θ t σ H fun c H1 => lB K mg f W Θ (k c) σ H1 Q := by
  obtain ⟨w, s, φ, rfl, hs, h⟩ := h
  refine ⟨w, s, φ, rfl, hs, ?_⟩
  cases ha : t s with
  | stuck => simp only [ha] at h; exact h
  | exc c => simp only [ha] at h; exact h
  | ok x =>
    simp only [ha, Out.bind_ok] at h
    intro w1 g1
    refine ⟨w1, s, φ, rfl, hs.gr0 g1, ?_⟩
    cases hb : k x s with
    | stuck => rw [hb] at h; exact h
    | exc c => rw [hb] at h; exact h.gr g1
    | ok y => rw [hb] at h; exact fun w2 g2 => h w2 (g1.trans g2)
theorem lb_ok {K : PySem.W.Frag} {mg : Str → Option Value} {c : Bool} {σ : L2.St} {H : Hp} {Q : Bool → Hp → Prop} (h : lB (η := η) K mg f W Θ (fun _ => .ok c) σ H Q) : Q c H := by
  obtain ⟨w, s, φ, rfl, hs, h⟩ := h
  exact h w (.refl w)
theorem lB.mono {K : PySem.W.Frag} {mg : Str → Option Value} {t : PB η} {σ : L2.St} {H : Hp} {Q Q' : Bool → Hp → Prop} (h : lB K mg f W Θ t σ H Q) (i : ∀ b H, Q b H → Q' b H) : lB K mg f W Θ t σ H Q' := by
  obtain ⟨w, s, φ, rfl, hs, h⟩ := h
  refine ⟨w, s, φ, rfl, hs, ?_⟩
  cases ha : t s with
  | stuck => rw [ha] at h; exact h
  | exc c => rw [ha] at h; exact h
  | ok x => rw [ha] at h; exact fun w1 g1 => i _ _ (h w1 g1)
theorem qw_and {t u : PB η} (ha : QB X f W Θ a t) (hb : QW X f W Θ (.BoolOp .And (b :: rest) pos) u) : QW X f W Θ (.BoolOp .And (a :: b :: rest) pos) (fAnd t u) := ⟨PW.imp (pw_and ha.r hb.r) fun σ H Q h =>
  (lb_bind (k := fun c s => if c = true then u s else .ok false) h).mono fun c H1 h => by
    cases c with
    | true => exact h
    | false => exact lb_ok (η := η) h⟩
theorem qw_or {t u : PB η} (ha : QB X f W Θ a t) (hb : QW X f W Θ (.BoolOp .Or (b :: rest) pos) u) : QW X f W Θ (.BoolOp .Or (a :: b :: rest) pos) (fOr t u) := ⟨PW.imp (pw_or ha.r hb.r) fun σ H Q h =>
  (lb_bind (k := fun c s => if c = true then .ok true else u s) h).mono fun c H1 h => by
    cases c with
    | true => exact lb_ok (η := η) h
    | false => exact h⟩
theorem qb_not {t : PB η} (ha : QB X f W Θ a t) : QB X f W Θ (.UnaryOp .Not a pos) (fNot t) := ⟨PT.imp (pt_not ha.r) fun σ H Q h =>
  (lb_bind (k := fun c _ => .ok (!c)) h).mono fun c H1 h => lb_ok (η := η) h⟩
/-- .. as values -/
def fAndV (ta tb : PR η) : PR η := fun s => (ta s).bind fun x => (asB x).bind fun c => if c = true then tb s else .ok (.bl false)
def fOrV (ta tb : PR η) : PR η := fun s => (ta s).bind fun x => (asB x).bind fun c => if c = true then .ok (.bl true) else tb s
def fNotV (ta : PR η) : PR η := fun s => (ta s).bind fun x => (asB x).bind fun c => .ok (.bl (!c))
theorem lp_bindB {K : PySem.W.Frag} {mg : Str → Option Value} {k : Bool → PR η} {σ : L2.St} {H : Hp} {Q : VK} (h : lP K mg f W Θ (fun s => (ta s).bind fun x => (asB x).bind fun c => k c s) κ σ H Q) :
    lP K mg f W Θ ta .p σ H fun x H1 => ∃ c, x = .bl c ∧ lP K mg f W Θ (k c) κ σ H1 Q := by
  obtain ⟨w, s, φ, rfl, hs, h⟩ := h
  refine ⟨w, s, φ, rfl, hs, ?_⟩
  cases ha : ta s with
  | stuck => simp only [ha] at h; exact h
  | exc c => simp only [ha] at h; exact h
  | ok x =>
    simp only [ha, Out.bind_ok] at h
    intro u w1 g1 r1
    have r := r1.rd
    cases x with
    | bl c =>
      refine ⟨c, r, w1, s, φ, rfl, hs.gr0 g1, ?_⟩
      simp only [asB_bl, Out.bind_ok] at h
      cases hb : k c s with
      | stuck => rw [hb] at h; exact h
      | exc c => rw [hb] at h; exact h.gr g1
      | ok y => rw [hb] at h; exact fun v w2 g2 r2 => h v w2 (g1.trans g2) (r2.back g1)
    | _ => exact h.elim
theorem lp_ok {K : PySem.W.Frag} {mg : Str → Option Value} {d : D} {v : V} {σ : L2.St} {H : Hp} {Q : VK} (hr : ∀ w, RD K w d v) (h : lP (η := η) K mg f W Θ (fun _ => .ok d) .p σ H Q) : Q v H := by
  obtain ⟨w, s, φ, rfl, hs, h⟩ := h
  exact h v w (.refl w) (.p (hr w))
theorem lP.mono {K : PySem.W.Frag} {mg : Str → Option Value} {t : PR η} {σ : L2.St} {H : Hp} {Q Q' : VK} (h : lP K mg f W Θ t κ σ H Q) (i : ∀ b H, Q b H → Q' b H) : lP K mg f W Θ t κ σ H Q' := by
  obtain ⟨w, s, φ, rfl, hs, h⟩ := h
  refine ⟨w, s, φ, rfl, hs, ?_⟩
  cases ha : t s with
  | stuck => rw [ha] at h; exact h
  | exc c => rw [ha] at h; exact h
  | ok x => rw [ha] at h; exact fun v w1 g1 r1 => i _ _ (h v w1 g1 r1)
theorem qp_one {op} {t : PR η} (h : QP X f W Θ a t κ) : QP X f W Θ (.BoolOp op [a] pos) t κ := ⟨pe_one h.r⟩
theorem qp_and (ha : QP X f W Θ a ta .p) (hb : QP X f W Θ (.BoolOp .And (b :: rest) pos) tb .p) : QP X f W Θ (.BoolOp .And (a :: b :: rest) pos) (fAndV ta tb) .p := ⟨PE.imp (pe_and ha.r hb.r) fun σ H Q h =>
  (lp_bindB (k := fun c s => if c = true then tb s else .ok (.bl false)) h).mono fun x H1 ⟨c, e, h⟩ => ⟨c, e, by
    cases c with
    | true => exact h
    | false => exact lp_ok (η := η) (d := .bl false) (v := .bl false) (fun _ => rfl) h⟩⟩
theorem qp_or (ha : QP X f W Θ a ta .p) (hb : QP X f W Θ (.BoolOp .Or (b :: rest) pos) tb .p) : QP X f W Θ (.BoolOp .Or (a :: b :: rest) pos) (fOrV ta tb) .p := ⟨PE.imp (pe_or ha.r hb.r) fun σ H Q h =>
  (lp_bindB (k := fun c s => if c = true then .ok (.bl true) else tb s) h).mono fun x H1 ⟨c, e, h⟩ => ⟨c, e, by
    cases c with
    | true => exact lp_ok (η := η) (d := .bl true) (v := .bl true) (fun _ => rfl) h
    | false => exact h⟩⟩
theorem qp_not (ha : QP X f W Θ a ta .p) : QP X f W Θ (.UnaryOp .Not a pos) (fNotV ta) .p := ⟨PE.imp (pe_not ha.r) fun σ H Q h =>
  (lp_bindB (k := fun c _ => .ok (.bl (!c))) h).mono fun x H1 ⟨c, e, h⟩ => ⟨c, e, lp_ok (η := η) (d := .bl (!c)) (v := .bl (!c)) (fun _ => rfl) h⟩⟩
/-- a if c else b -/
def fIf (t : PB η) (ta tb : PR η) : PR η := fun s => (t s).bind fun c => if c = true then ta s else tb s
theorem lbp_bind {K : PySem.W.Frag} {mg : Str → Option Value} {t : PB η} {k : Bool → PR η} {σ : L2.St} {H : Hp} {Q : VK} (h : lP K mg f W Θ (fun s => (t s).bind fun c => k c s) κ σ H Q) : lB K mg f W Θ t σ H fun c H1 => lP K mg f W Θ (k c) κ σ H1 Q := by
  obtain ⟨w, s, φ, rfl, hs, h⟩ := h
  refine ⟨w, s, φ, rfl, hs, ?_⟩
  cases ha : t s with
  | stuck => simp only [ha] at h; exact h
  | exc c => simp only [ha] at h; exact h
  | ok x =>
    simp only [ha, Out.bind_ok] at h
    intro w1 g1
    refine ⟨w1, s, φ, rfl, hs.gr0 g1, ?_⟩
    cases hb : k x s with
    | stuck => rw [hb] at h; exact h
    | exc c => rw [hb] at h; exact h.gr g1
    | ok y => rw [hb] at h; exact fun v w2 g2 r2 => h v w2 (g1.trans g2) (r2.back g1)
theorem qp_if {c : Expr} {t : PB η} (hc : QB X f W Θ c t) (ha : QP X f W Θ a ta κ) (hb : QP X f W Θ b tb κ) : QP X f W Θ (.IfExp c a b pos) (fIf t ta tb) κ := ⟨PE.imp (pe_ifExp hc.r ha.r hb.r) fun σ H Q h =>
  (lbp_bind (k := fun c s => if c = true then ta s else tb s) h).mono fun c H1 h => by
    cases c with
    | true => exact h
    | false => exact h⟩

/-! ### arguments, rows, lists -/
def fNil : PRs η := fun _ => .ok []
def fCons (t : PR η) (ts : PRs η) : PRs η := fun s => (t s).bind fun x => (ts s).bind fun xs => .ok (x :: xs)
theorem qps_nil : QPs (η := η) X f W Θ [] fNil [] := ⟨PA.imp pa_nil fun σ H Q ⟨w, s, φ, hw, hs, h⟩ => by subst hw; exact h [] w (.refl w) ⟨rfl, rfl⟩⟩
theorem qps_cons {es : List Expr} {t : PR η} {ts : PRs η} {κs : List Sl} (ha : QP X f W Θ e t κ) (hr : QPs X f W Θ es ts κs) (hs : starEach (e :: es) X.env = (false, eval e X.env) :: starEach es X.env := by rfl) : QPs X f W Θ (e :: es) (fCons t ts) (κ :: κs) := ⟨PA.imp (pa_cons ha.r hr.r hs) fun σ H Q h => by
  obtain ⟨w, s, φ, rfl, hs, h⟩ := h
  refine ⟨w, s, φ, rfl, hs, ?_⟩
  unfold fCons at h
  cases ha : t s with
  | stuck => rw [ha] at h; exact h
  | exc c => rw [ha] at h; exact h
  | ok x =>
    rw [ha] at h
    intro u w1 g1 r1
    refine ⟨w1, s, φ, rfl, hs.gr0 g1, ?_⟩
    cases hb : ts s with
    | stuck => rw [hb] at h; exact h
    | exc c => rw [hb] at h; exact h.gr g1
    | ok xs =>
      rw [hb] at h
      exact fun us w2 g2 r2 => h _ w2 (g1.trans g2) ⟨x, xs, u, us, rfl, rfl, r1.gr g2, r2.back g1⟩⟩
def allP (κs : List Sl) : Bool := κs.all fun κ => κ.beq .p
theorem RPs.rds {K : PySem.W.Frag} {w w' : Wd} : ∀ {κs : List Sl} {ds : List D} {vs : List V}, allP κs = true → RPs K w w' κs ds vs → RDs K w' ds vs
  | [], _, _, _, ⟨h1, h2⟩ => by subst h1 h2; rfl
  | κ :: κs, _, _, hp, ⟨d, es, v, r, h1, h2, h3, h4⟩ => by
    subst h1 h2
    have hp : (κ.beq .p && allP κs) = true := hp
    rw [Bool.and_eq_true] at hp
    rw [Sl.eq_of hp.1] at h3
    exact ⟨v, r, rfl, h3.rd, RPs.rds hp.2 h4⟩
theorem RDs.len {K : PySem.W.Frag} {w : Wd} : ∀ {ds : List D} {vs : List V}, RDs K w ds vs → vs.length = ds.length
  | [], _, h => by cases h; rfl
  | _ :: _, _, ⟨v, r, e1, _, e3⟩ => by subst e1; rw [List.length_cons, List.length_cons, RDs.len e3]
theorem RD.newT {K : PySem.W.Frag} {w : Wd} {ds : List D} {vs : List V} {p : Addr} (hp : w.H p = none) (r : RDs K w ds vs) : RD K (w.up p (.tup vs)) (.tup ds) (.ref p) := ⟨p, vs, rfl, .of upd_same, r.gr (f := no) (.new hp), fun _ => upd_same⟩
def tupO (ds : List D) : Out D := if ds.length ≤ sizeLine then .ok (.tup ds) else .stuck
def lstO (ds : List D) : Out D := if ds.length ≤ sizeLine then .ok (.fl ds) else .stuck
/-- a written row -/
def fTup (t : PRs η) : PR η := fun s => (t s).bind tupO
theorem qp_tup {es : List Expr} {x1} {t : PRs η} {κs : List Sl} (h : QPs X f W Θ es t κs) (hp : allP κs = true := by rfl) : QP X f W Θ (.Tuple es x1 pos) (fTup t) .p := ⟨PE.imp (pe_tup h.r) fun σ H Q h => by
  obtain ⟨w, s, φ, rfl, hs, h⟩ := h
  refine ⟨w, s, φ, rfl, hs, ?_⟩
  unfold fTup tupO at h
  cases ha : t s with
  | stuck => rw [ha] at h; exact h
  | exc c => rw [ha] at h; exact h
  | ok ds =>
    rw [ha] at h
    intro vs w1 g1 r1
    have r := r1.rds hp
    rw [Out.bind_ok] at h
    by_cases z : ds.length ≤ sizeLine
    · rw [if_pos z] at h
      exact ⟨by rw [r.len]; exact z, fun p np => h (.ref p) (w1.up p (.tup vs)) (g1.trans (.new np)) (.p (.newT np r))⟩
    · rw [if_neg z] at h
      exact h.elim⟩
/-- a written list, new, its own -/
def fLst (t : PRs η) : PR η := fun s => (t s).bind lstO
theorem RP.newL {K : PySem.W.Frag} {w w1 : Wd} {ds : List D} {vs : List V} {p : Addr} (g : Gr no w w1) (hp : w1.H p = none) (r : RDs K w1 ds vs) : RP K w (w1.up p (.lst vs)) (.own (.l .p)) (.fl ds) (.ref p) :=
  ⟨[p], .inr ⟨ds, p, vs, [p], [], rfl, rfl, .inl ⟨upd_same, rfl⟩, (r.gr (f := no) (.new hp)).all3, rfl⟩, by simp, fun a ha => by rw [List.mem_singleton.mp ha]; exact g.nn0 hp⟩
theorem qp_lst {es : List Expr} {t : PRs η} {κs : List Sl} (h : QPs X f W Θ es t κs) (hp : allP κs = true := by rfl) : QP X f W Θ (.List es pos) (fLst t) (.own (.l .p)) := ⟨PE.imp (pe_lst h.r) fun σ H Q h => by
  obtain ⟨w, s, φ, rfl, hs, h⟩ := h
  refine ⟨w, s, φ, rfl, hs, ?_⟩
  unfold fLst lstO at h
  cases ha : t s with
  | stuck => rw [ha] at h; exact h
  | exc c => rw [ha] at h; exact h
  | ok ds =>
    rw [ha] at h
    intro vs w1 g1 r1
    have r := r1.rds hp
    rw [Out.bind_ok] at h
    by_cases z : ds.length ≤ sizeLine
    · rw [if_pos z] at h
      exact ⟨by rw [r.len]; exact z, fun p np => h (.ref p) (w1.up p (.lst vs)) (g1.trans (.new np)) (.newL g1 np r)⟩
    · rw [if_neg z] at h
      exact h.elim⟩
/-- a list, a dict that is its own is not written any more -/
theorem pe_fz {t : TE} (h : PE X e t) : PE X e (fun σ H Q => t σ H fun v H1 => ∃ a u, v = .ref a ∧ H1 a = some u ∧ Mut (some u) ∧ ∀ o, Q v (upd H1 a (.frz o u))) := by
  refine ⟨fun pins s σ H Q I hw => ?_⟩
  refine thn (h.run pins s σ H _ I hw) fun v s1 ⟨x, H1, I1, r1, a, u, ex, ha, mu, q⟩ => ?_
  obtain ⟨od, I2⟩ := I1.lock ha mu
  exact ⟨x, _, I2, r1, q od⟩
def fzT : Tag → Bool
  | .l .p => true
  | .mK .p => true
  | .mT .p => true
  | _ => false
theorem Rp.fz {K : PySem.W.Frag} {w : Wd} {t : Tag} {d : D} {v : V} {A : List Addr} (ht : fzT t = true) (h : Rp true K w t d v A) : ∃ a u, v = .ref a ∧ A = [a] ∧ w.H a = some u ∧ Mut (some u) ∧ ¬ PerT u ∧ ∀ (f : Addr → Prop) o, f a → ¬ w.lk a → RD K (w.up a (.frz o u)) d v := by
  cases t with
  | l t =>
    cases t with
    | p =>
      obtain ⟨ds, a, vs, A0, A1, rfl, rfl, e3, e4, e5⟩ := h.resolve_left fun z => nomatch z.1
      obtain ⟨e4, e6⟩ := e4.rds
      rcases e3 with ⟨e3, e7⟩ | ⟨z, _⟩
      · exact ⟨a, _, rfl, by rw [e5, e6, e7]; rfl, e3, trivial, id, fun f o hf _ => ⟨a, vs, rfl, .inl ⟨o, upd_same⟩, e4.gr (f := f) (.mut e3 id hf)⟩⟩
      · cases z
    | _ => cases ht
  | mK t =>
    cases t with
    | p =>
      obtain ⟨ds, a, vs, A0, A1, rfl, rfl, e3, e4, e5⟩ := h.resolve_left fun z => nomatch z.1
      obtain ⟨e4, e6⟩ := e4.rks
      rcases e3 with ⟨e3, e7⟩ | ⟨z, _⟩
      · exact ⟨a, _, rfl, by rw [e5, e6, e7]; rfl, e3, trivial, id, fun f o hf hl => ⟨a, o, _, _, rfl, upd_same, .k vs, hl, e4.gr (f := f) (.mut e3 id hf)⟩⟩
      · cases z
    | _ => cases ht
  | mT t =>
    cases t with
    | p =>
      obtain ⟨ds, a, vs, A0, A1, rfl, rfl, e3, e4, e5⟩ := h.resolve_left fun z => nomatch z.1
      obtain ⟨e4, e6⟩ := e4.rks
      rcases e3 with ⟨e3, e7⟩ | ⟨z, _⟩
      · exact ⟨a, _, rfl, by rw [e5, e6, e7]; rfl, e3, trivial, id, fun f o hf hl => ⟨a, o, _, _, rfl, upd_same, .t vs, hl, e4.gr (f := f) (.mut e3 id hf)⟩⟩
      · cases z
    | _ => cases ht
  | _ => cases ht
/-- what was new may change -/
theorem Gr.upNew {w w1 : Wd} {a : Addr} {o u : HO} (g : Gr no w w1) (h : w.H a = none) (h1 : w1.H a = some u) (hu : ¬ PerT u) (ho : NoTb o := by intro _ z; cases z) : Gr no w (w1.up a o) :=
  ⟨fun b u p e => by show upd w1.H a o b = _; rw [upd_ne (ne_of_none e h)]; exact g.per _ _ p e, fun b u n t e => by show upd w1.H a o b = _; rw [upd_ne (ne_of_none e h)]; exact g.keep _ _ n t e, g.ob, g.lk, fun b n e => g.dm b n (up_dm e), fun t => tab_mut h1 hu ho (g.tab t)⟩
theorem qp_fz {t : PR η} {τ : Tag} (h : QP X f W Θ e t (.own τ)) (ht : fzT τ = true := by rfl) : QP X f W Θ e t .p := ⟨PE.imp (pe_fz h.r) fun σ H Q h => by
  obtain ⟨w, s, φ, rfl, hs, h⟩ := h
  refine ⟨w, s, φ, rfl, hs, ?_⟩
  cases ha : t s with
  | stuck => rw [ha] at h; exact h
  | exc c => rw [ha] at h; exact h
  | ok d =>
    rw [ha] at h
    intro v w1 g1 ⟨A, r1, nd, nw⟩
    obtain ⟨a, u, rfl, rfl, hu, mu, np, k⟩ := r1.fz ht
    have hl : ¬ w1.lk a := fun z => by obtain ⟨o, u', z⟩ := (hs.gr0 g1).lkd a z; rw [hu] at z; cases z; exact np trivial
    exact ⟨a, u, rfl, hu, mu, fun o => h (.ref a) (w1.up a (.frz o u)) (g1.upNew (nw a (by simp)) hu np) (.p (k (fun _ => True) o trivial hl))⟩⟩
end
end FL

/-! FD: states that change. -/
namespace FL
open PySem PySem.Spec PyProof.Rows L2
variable [TabT]
section
variable {η : Type} [HR η] {K : PySem.W.Frag} {f : Fm} {g : Addr → Prop} {w w' w1 w2 : Wd} {Θ Θ1 Θ2 : Th} {σ : L2.St} {s : St η} {φ : Fp} {mg : Str → Option Value} {W : WX}
theorem Th.le_get : ∀ {A B : Th} {i : Nat} {κ : Sl}, Th.le A B = true → B[i]? = some κ → κ ≠ .no → A[i]? = some κ
  | [], [], _, _, _, e, _ => by simp at e
  | [], _ :: _, _, _, h, _, _ => by simp [Th.le] at h
  | _ :: _, [], _, _, _, e, _ => by simp at e
  | a :: as, b :: bs, 0, κ, h, e, n => by
    cases e
    have h : (b.beq .no || a.beq b) = true ∧ Th.le as bs = true := by simpa [Th.le] using h
    rcases Bool.or_eq_true _ _ |>.mp h.1 with z | z
    · exact absurd (Sl.eq_of z) n
    · show some a = some b; rw [Sl.eq_of z]
  | a :: as, b :: bs, i + 1, κ, h, e, n => by
    have h : (b.beq .no || a.beq b) = true ∧ Th.le as bs = true := by simpa [Th.le] using h
    exact Th.le_get (i := i) h.2 e n
theorem Th.le_len : ∀ {A B : Th}, Th.le A B = true → A.length = B.length
  | [], [], _ => rfl
  | [], _ :: _, h => by simp [Th.le] at h
  | _ :: _, [], h => by simp [Th.le] at h
  | a :: as, b :: bs, h => by
    have h : (b.beq .no || a.beq b) = true ∧ Th.le as bs = true := by simpa [Th.le] using h
    rw [List.length_cons, List.length_cons, Th.le_len h.2]
theorem OwnS.le (h : OwnS K f w Θ σ s φ) (l : Th.le Θ Θ1 = true) : OwnS K f w Θ1 σ s φ where
  len1 := h.len1.trans (Th.le_len l)
  len2 := h.len2.trans (Th.le_len l)
  own i t e := h.own i t (Th.le_get l e (fun z => nomatch z))
  bor i t e := h.bor i t (Th.le_get l e (fun z => nomatch z))
  io i t e := h.io i t (Th.le_get l e (fun z => nomatch z))
  lks i t e := h.lks i t (Th.le_get l e (fun z => nomatch z))
  nd := h.nd
  bf := h.bf
  sep := h.sep
  inF := h.inF
  new := h.new
  lkd := h.lkd
  al := h.al
  tab := h.tab
  heap := h.heap
  hF := h.hF
  hsep := h.hsep
theorem OwnS.gr (h : OwnS K f w Θ σ s φ) (e : Gr g w w') (hd : ∀ a, g a → ¬ φ.all a) (hf : ∀ a, g a → f a) : OwnS K f w' Θ σ s φ where
  len1 := h.len1
  len2 := h.len2
  own i t z := by obtain ⟨d, v, h1, h2, h3⟩ := h.own i t z; exact ⟨d, v, h1, h2, h3.gr e fun x hx hg => hd x hg (.inr ⟨i, hx⟩)⟩
  lks i t z := by obtain ⟨kvs, a, o, u, vs, h1, h2, h3, h4, h5, h6, h7⟩ := h.lks i t z; exact ⟨kvs, a, o, u, vs, h1, h2, h3, h4, e.per _ (.frz o u) trivial h5, h6, h7.gr e⟩
  bor i t z := by obtain ⟨A, h1, h2, h3, h4⟩ := h.bor i t z; exact ⟨A, h1, h2, h3.gr e (fun x hx hg => h.bf x (h4 x hx) (hf x hg)), h4⟩
  io i t z := by obtain ⟨d, h1, h2, h3⟩ := h.io i t z; exact ⟨d, h1, h2, h3.gr e fun x hx hg => hd x hg (.inr ⟨i, hx⟩)⟩
  nd := h.nd
  bf := h.bf
  sep := h.sep
  inF := h.inF
  new a n := by
    by_cases c : g a
    · exact hf a c
    · exact h.new a (e.nn n c)
  al a z n := h.al a z (e.nn n fun c => hd a c z)
  tab := e.tab h.tab
  lkd a z := by obtain ⟨o, u, y⟩ := h.lkd a ((e.lk a).mp z); exact ⟨o, u, e.per _ (.frz o u) trivial y⟩
  heap := HR.gr h.heap e fun a z c => hd a c (.inl z)
  hF := h.hF
  hsep := h.hsep
abbrev St.set (s : St η) (i : Nat) (d : D) : St η := ⟨s.s.set i (some d), s.h⟩
def Fp.set (φ : Fp) (i : Nat) (A : List Addr) : Fp := ⟨fun j => if j = i then A else φ.fp j, φ.G⟩
theorem Fp.set_all {i : Nat} {A : List Addr} {a : Addr} (h : (φ.set i A).all a) : a ∈ A ∨ φ.all a := by
  rcases h with h | ⟨j, h⟩
  · exact .inr (.inl h)
  · unfold Fp.set at h
    dsimp only at h
    by_cases c : j = i
    · rw [if_pos c] at h; exact .inl h
    · rw [if_neg c] at h; exact .inr (.inr ⟨j, h⟩)
/-- a slot is stored -/
theorem OwnS.set (h : OwnS K f w Θ σ s φ) (i : Nat) {t : Tag} {d : D} {v : V} {A : List Addr} (r : Rp true K w t d v A) (nd : A.Nodup) (hA : ∀ a ∈ A, f a ∧ ¬ φ.all a) : OwnS K f w (Θ.set i (.own t)) (σ.set i (some v)) (s.set i d) (φ.set i A) where
  len1 := by simpa using h.len1
  len2 := by simpa using h.len2
  own j u e := by
    by_cases c : i = j
    · subst c
      have hl : i < Θ.length := by
        by_cases z : i < Θ.length
        · exact z
        · rw [List.getElem?_eq_none (by simpa using z)] at e; cases e
      rw [List.getElem?_set_self hl] at e
      cases e
      refine ⟨d, v, List.getElem?_set_self (by rw [h.len2]; exact hl), List.getElem?_set_self (by rw [h.len1]; exact hl), ?_⟩
      unfold Fp.set; dsimp only; rw [if_pos rfl]; exact r
    · rw [List.getElem?_set_ne c] at e
      obtain ⟨d', v', h1, h2, h3⟩ := h.own j u e
      refine ⟨d', v', by show (s.s.set i _)[j]? = _; rw [List.getElem?_set_ne c]; exact h1, by rw [List.getElem?_set_ne c]; exact h2, ?_⟩
      unfold Fp.set; dsimp only; rw [if_neg (fun z => c z.symm)]; exact h3
  lks j u e := by
    by_cases c : i = j
    · subst c
      have hl : i < Θ.length := by
        by_cases z : i < Θ.length
        · exact z
        · rw [List.getElem?_eq_none (by simpa using z)] at e; cases e
      rw [List.getElem?_set_self hl] at e
      cases e
    · rw [List.getElem?_set_ne c] at e
      obtain ⟨kvs, a, o, u, vs, h1, h2, h3, h4, h5⟩ := h.lks j u e
      exact ⟨kvs, a, o, u, vs, h1, h2, by show (s.s.set i _)[j]? = _; rw [List.getElem?_set_ne c]; exact h3, by rw [List.getElem?_set_ne c]; exact h4, h5⟩
  bor j u e := by
    by_cases c : i = j
    · subst c
      have hl : i < Θ.length := by
        by_cases z : i < Θ.length
        · exact z
        · rw [List.getElem?_eq_none (by simpa using z)] at e; cases e
      rw [List.getElem?_set_self hl] at e
      cases e
    · rw [List.getElem?_set_ne c] at e
      obtain ⟨B, h1, h2, h3⟩ := h.bor j u e
      exact ⟨B, by show (s.s.set i _)[j]? = _; rw [List.getElem?_set_ne c]; exact h1, by rw [List.getElem?_set_ne c]; exact h2, h3⟩
  io j u e := by
    by_cases c : i = j
    · subst c
      have hl : i < Θ.length := by
        by_cases z : i < Θ.length
        · exact z
        · rw [List.getElem?_eq_none (by simpa using z)] at e; cases e
      rw [List.getElem?_set_self hl] at e
      cases e
    · rw [List.getElem?_set_ne c] at e
      obtain ⟨d', h1, h2, h3⟩ := h.io j u e
      refine ⟨d', by show (s.s.set i _)[j]? = _; rw [List.getElem?_set_ne c]; exact h1, by rw [List.getElem?_set_ne c]; exact h2, ?_⟩
      unfold Fp.set; dsimp only; rw [if_neg (fun z => c z.symm)]; exact h3
  nd j := by
    unfold Fp.set; dsimp only
    by_cases c : j = i
    · rw [if_pos c]; exact nd
    · rw [if_neg c]; exact h.nd j
  sep j k a hj hk := by
    unfold Fp.set at hj hk; dsimp only at hj hk
    by_cases c : j = i
    · by_cases c2 : k = i
      · rw [c, c2]
      · rw [if_pos c] at hj; rw [if_neg c2] at hk
        exact absurd (.inr ⟨k, hk⟩) (hA a hj).2
    · by_cases c2 : k = i
      · rw [if_neg c] at hj; rw [if_pos c2] at hk
        exact absurd (.inr ⟨j, hj⟩) (hA a hk).2
      · rw [if_neg c] at hj; rw [if_neg c2] at hk; exact h.sep j k a hj hk
  inF j a hj := by
    unfold Fp.set at hj; dsimp only at hj
    by_cases c : j = i
    · rw [if_pos c] at hj; exact (hA a hj).1
    · rw [if_neg c] at hj; exact h.inF j a hj
  bf := h.bf
  new := h.new
  lkd := h.lkd
  tab := h.tab
  al a z := by
    rcases Fp.set_all z with z | z
    · exact r.al a z
    · exact h.al a z
  heap := h.heap
  hF := h.hF
  hsep j a hj hG := by
    unfold Fp.set at hj; dsimp only at hj
    by_cases c : j = i
    · rw [if_pos c] at hj; exact (hA a hj).2 (.inl hG)
    · rw [if_neg c] at hj; exact h.hsep j a hj hG
/-- a slot is not known any more; what it held is free -/
theorem OwnS.drop (h : OwnS K f w Θ σ s φ) (i : Nat) : OwnS K f w (Θ.set i .no) σ s (φ.set i []) where
  len1 := by simpa using h.len1
  len2 := by simpa using h.len2
  own j u e := by
    by_cases c : i = j
    · subst c
      have hl : i < Θ.length := by
        by_cases z : i < Θ.length
        · exact z
        · rw [List.getElem?_eq_none (by simpa using z)] at e; cases e
      rw [List.getElem?_set_self hl] at e
      cases e
    · rw [List.getElem?_set_ne c] at e
      obtain ⟨d', v', h1, h2, h3⟩ := h.own j u e
      refine ⟨d', v', h1, h2, ?_⟩
      unfold Fp.set; dsimp only; rw [if_neg (fun z => c z.symm)]; exact h3
  lks j u e := by
    by_cases c : i = j
    · subst c
      have hl : i < Θ.length := by
        by_cases z : i < Θ.length
        · exact z
        · rw [List.getElem?_eq_none (by simpa using z)] at e; cases e
      rw [List.getElem?_set_self hl] at e
      cases e
    · rw [List.getElem?_set_ne c] at e
      exact h.lks j u e
  bor j u e := by
    by_cases c : i = j
    · subst c
      have hl : i < Θ.length := by
        by_cases z : i < Θ.length
        · exact z
        · rw [List.getElem?_eq_none (by simpa using z)] at e; cases e
      rw [List.getElem?_set_self hl] at e
      cases e
    · rw [List.getElem?_set_ne c] at e
      exact h.bor j u e
  io j u e := by
    by_cases c : i = j
    · subst c
      have hl : i < Θ.length := by
        by_cases z : i < Θ.length
        · exact z
        · rw [List.getElem?_eq_none (by simpa using z)] at e; cases e
      rw [List.getElem?_set_self hl] at e
      cases e
    · rw [List.getElem?_set_ne c] at e
      obtain ⟨d', h1, h2, h3⟩ := h.io j u e
      refine ⟨d', h1, h2, ?_⟩
      unfold Fp.set; dsimp only; rw [if_neg (fun z => c z.symm)]; exact h3
  nd j := by
    unfold Fp.set; dsimp only
    by_cases c : j = i
    · rw [if_pos c]; exact List.nodup_nil
    · rw [if_neg c]; exact h.nd j
  sep j k a hj hk := by
    unfold Fp.set at hj hk; dsimp only at hj hk
    by_cases c : j = i
    · rw [if_pos c] at hj; cases hj
    · by_cases c2 : k = i
      · rw [if_pos c2] at hk; cases hk
      · rw [if_neg c] at hj; rw [if_neg c2] at hk; exact h.sep j k a hj hk
  inF j a hj := by
    unfold Fp.set at hj; dsimp only at hj
    by_cases c : j = i
    · rw [if_pos c] at hj; cases hj
    · rw [if_neg c] at hj; exact h.inF j a hj
  bf := h.bf
  new := h.new
  lkd := h.lkd
  tab := h.tab
  al a z := by
    rcases Fp.set_all z with z | z
    · cases z
    · exact h.al a z
  heap := h.heap
  hF := h.hF
  hsep j a hj hG := by
    unfold Fp.set at hj; dsimp only at hj
    by_cases c : j = i
    · rw [if_pos c] at hj; cases hj
    · rw [if_neg c] at hj; exact h.hsep j a hj hG
theorem Fp.drop_all {i : Nat} {a : Addr} (h : (φ.set i []).all a) : φ.all a := (Fp.set_all h).resolve_left fun z => by cases z
/-- what was there is away from what a dropped slot held -/
theorem OwnS.drop_sep (h : OwnS K f w Θ σ s φ) (i : Nat) {a : Addr} (ha : a ∈ φ.fp i) : ¬ (φ.set i []).all a := by
  rintro (z | ⟨j, z⟩)
  · exact h.hsep i a ha z
  · unfold Fp.set at z; dsimp only at z
    by_cases c : j = i
    · rw [if_pos c] at z; cases z
    · rw [if_neg c] at z; exact c (h.sep j i a z ha)

/-! ### what an expression, a test, arguments leave -/
def XE (K : PySem.W.Frag) (mg : Str → Option Value) (f : Fm) (W : WX) (w : Wd) (σ : L2.St) (Θx : Th) (c : Str) (s : St η) : Prop := ∀ C w' φ, Cls mg c C → Gr f w w' → OwnS K f w' Θx σ s φ → W (.ref C) none σ w'.H
def Ef {α β : Type} (K : PySem.W.Frag) (mg : Str → Option Value) (f : Fm) (W : WX) (w : Wd) (σ : L2.St) (Θ' Θx : Th) (R : Wd → Fp → α → β → Prop) (o : Eff η α) (Q : β → Hp → Prop) : Prop := match o with
  | .ok a s => ∀ b w' φ, Gr f w w' → OwnS K f w' Θ' σ s φ → R w' φ a b → Q b w'.H
  | .exc c s => XE K mg f W w σ Θx c s
  | .stuck => False
def lE {α β : Type} (K : PySem.W.Frag) (mg : Str → Option Value) (f : Fm) (W : WX) (Θ Θ' Θx : Th) (R : Wd → Fp → α → β → Prop) (t : St η → Eff η α) (σ : L2.St) (H : Hp) (Q : β → Hp → Prop) : Prop :=
  ∃ w s φ, w.H = H ∧ OwnS K f w Θ σ s φ ∧ Ef K mg f W w σ Θ' Θx R (t s) Q
end
abbrev rB : Wd → Fp → Bool → Bool → Prop := fun _ _ a b => a = b
abbrev rDs (K : PySem.W.Frag) : Wd → Fp → List D → List V → Prop := fun w _ ds vs => RDs K w ds vs
section
variable {η : Type} [HR η]
structure QE (X : Cx) (f : Fm) (W : WX) (Θ : Th) (e : Expr) (t : ER η) (κ : Sl) (Θ' Θx : Th) : Prop where
  r : PE X e (lE X.K X.mg f W Θ Θ' Θx (fun w φ d v => RE X.K f w φ κ d v) t)
structure QT (X : Cx) (f : Fm) (W : WX) (Θ : Th) (e : Expr) (t : St η → Eff η Bool) (Θ' Θx : Th) : Prop where
  r : PT X e (lE X.K X.mg f W Θ Θ' Θx rB t)
structure QTw (X : Cx) (f : Fm) (W : WX) (Θ : Th) (e : Expr) (t : St η → Eff η Bool) (Θ' Θx : Th) : Prop where
  r : PW X e (lE X.K X.mg f W Θ Θ' Θx rB t)
/-- arguments, all by themselves -/
structure QAs (X : Cx) (f : Fm) (W : WX) (Θ : Th) (es : List Expr) (t : St η → Eff η (List D)) (Θ' Θx : Th) : Prop where
  r : PA X es (lE X.K X.mg f W Θ Θ' Θx (rDs X.K) t)
variable {K : PySem.W.Frag} {f : Fm} {w w' w1 w2 : Wd} {Θ Θ1 Θ2 Θx : Th} {σ : L2.St} {s : St η} {φ : Fp} {mg : Str → Option Value} {W : WX}
theorem XE.gr {c : Str} (h : XE K mg f W w σ Θx c s) (g : Gr f w w1) : XE K mg f W w1 σ Θx c s := fun C w2 φ hc g2 => h C w2 φ hc (g.trans g2)
theorem Ef.gr {α β : Type} {R : Wd → Fp → α → β → Prop} {o : Eff η α} {Q : β → Hp → Prop} (h : Ef K mg f W w σ Θ1 Θx R o Q) (g : Gr f w w1) : Ef K mg f W w1 σ Θ1 Θx R o Q := by
  cases o with
  | ok a s => exact fun b w2 φ g2 => h b w2 φ (g.trans g2)
  | exc c s => exact XE.gr (η := η) h g
  | stuck => exact h
theorem Ef.bind {α β γ δ : Type} {R : Wd → Fp → α → β → Prop} {R2 : Wd → Fp → γ → δ → Prop} {o : Eff η α} {k : α → St η → Eff η γ} {Q : δ → Hp → Prop} (h : Ef K mg f W w σ Θ2 Θx R2 (o.bind k) Q) :
    Ef K mg f W w σ Θ1 Θx R o fun b H => ∃ w1 x s1 φ1, w1.H = H ∧ Gr f w w1 ∧ OwnS K f w1 Θ1 σ s1 φ1 ∧ R w1 φ1 x b ∧ Ef K mg f W w1 σ Θ2 Θx R2 (k x s1) Q := by
  cases o with
  | ok a s => exact fun b w1 φ1 g1 o1 r1 => ⟨w1, a, s, φ1, rfl, g1, o1, r1, h.gr g1⟩
  | exc c s => exact h
  | stuck => exact h
theorem Ef.mono {α β : Type} {R : Wd → Fp → α → β → Prop} {o : Eff η α} {Q Q' : β → Hp → Prop} (h : Ef K mg f W w σ Θ1 Θx R o Q) (i : ∀ b H, Q b H → Q' b H) : Ef K mg f W w σ Θ1 Θx R o Q' := by
  cases o with
  | ok a s => exact fun b w1 φ g1 o1 r1 => i _ _ (h b w1 φ g1 o1 r1)
  | exc c s => exact h
  | stuck => exact h
theorem lE.bind {α β γ δ : Type} {R : Wd → Fp → α → β → Prop} {R2 : Wd → Fp → γ → δ → Prop} {t : St η → Eff η α} {k : α → St η → Eff η γ} {H : Hp} {Q : δ → Hp → Prop} (h : lE K mg f W Θ Θ2 Θx R2 (fun s => (t s).bind k) σ H Q) :
    lE K mg f W Θ Θ1 Θx R t σ H fun b H => ∃ w1 x s1 φ1, w1.H = H ∧ OwnS K f w1 Θ1 σ s1 φ1 ∧ R w1 φ1 x b ∧ Ef K mg f W w1 σ Θ2 Θx R2 (k x s1) Q := by
  obtain ⟨w, s, φ, rfl, hs, h⟩ := h
  exact ⟨w, s, φ, rfl, hs, h.bind.mono fun b H ⟨w1, x, s1, φ1, e, _, o, r, h⟩ => ⟨w1, x, s1, φ1, e, o, r, h⟩⟩
theorem RP.re {κ : Sl} {d : D} {v : V} (hs : OwnS K f w Θ σ s φ) (g : Gr no w w') (h : RP K w w' κ d v) : RE K f w' φ κ d v := by
  cases κ with
  | no => exact h
  | io => exact h
  | lk => exact h
  | own t => obtain ⟨A, h1, h2, h3⟩ := h; exact ⟨A, h1, h2, fun a ha => ⟨hs.new a (h3 a ha), fun z => hs.al a z (h3 a ha)⟩⟩
  | bor t => exact h
theorem RE.rd {d : D} {v : V} (h : RE K f w' φ .p d v) : RD K w' d v := let ⟨_, ⟨h, _⟩, _⟩ := h; h
theorem RE.p {d : D} {v : V} (h : RD K w' d v) : RE K f w' φ .p d v := ⟨[], ⟨h, rfl⟩, List.nodup_nil, fun _ z => by cases z⟩
theorem XP.xe {c : Str} (hs : OwnS K f w Θ σ s φ) (l : Th.le Θ Θx = true) (h : XE K mg f W w σ Θx c s) : XP mg W w σ c := fun C w' hc g => h C w' φ hc g.any ((hs.gr0 g).le l)
variable {X : Cx} {e a b : Expr} {pos : Pos} {rest : List Expr} {κ κ1 κ2 : Sl}
def liftP {α : Type} (t : St η → Out α) : St η → Eff η α := fun s => (t s).eff s
theorem qe_p {t : PR η} (h : QP X f W Θ e t κ) (l : Th.le Θ Θx = true := by rfl) : QE X f W Θ e (liftP t) κ Θ Θx := ⟨PE.imp h.r fun σ H Q ⟨w, s, φ, hw, hs, h⟩ => by
  subst hw
  refine ⟨w, s, φ, rfl, hs, ?_⟩
  unfold liftP at h
  cases ht : t s with
  | ok d => rw [ht] at h; exact fun v w1 g1 r1 => h v w1 φ g1.any (hs.gr0 g1) (r1.re hs g1)
  | exc c => rw [ht] at h; exact XP.xe hs l h
  | stuck => rw [ht] at h; exact h⟩
theorem qt_b {t : PB η} (h : QB X f W Θ e t) (l : Th.le Θ Θx = true := by rfl) : QT X f W Θ e (liftP t) Θ Θx := ⟨PT.imp h.r fun σ H Q ⟨w, s, φ, hw, hs, h⟩ => by
  subst hw
  refine ⟨w, s, φ, rfl, hs, ?_⟩
  unfold liftP at h
  cases ht : t s with
  | ok d => rw [ht] at h; exact fun w1 g1 => h d w1 φ g1.any (hs.gr0 g1) rfl
  | exc c => rw [ht] at h; exact XP.xe hs l h
  | stuck => rw [ht] at h; exact h⟩
theorem qas_p {es : List Expr} {t : PRs η} {κs : List Sl} (h : QPs X f W Θ es t κs) (hp : allP κs = true := by rfl) (l : Th.le Θ Θx = true := by rfl) : QAs X f W Θ es (liftP t) Θ Θx := ⟨PA.imp h.r fun σ H Q ⟨w, s, φ, hw, hs, h⟩ => by
  subst hw
  refine ⟨w, s, φ, rfl, hs, ?_⟩
  unfold liftP at h
  cases ht : t s with
  | ok d => rw [ht] at h; exact fun vs w1 g1 r1 => h vs w1 φ g1.any (hs.gr0 g1) (r1.rds hp)
  | exc c => rw [ht] at h; exact XP.xe hs l h
  | stuck => rw [ht] at h; exact h⟩
/-- operations whose parts change something -/
def eOp (g : D → D → Option D) (ta tb : ER η) : ER η := fun s => (ta s).bind fun x s1 => (tb s1).bind fun y s2 => (Out.of (g x y)).eff s2
theorem leop {r : R2} {gg : D → D → Option D} {ta tb : ER η} (hr : LP2 K r gg κ) {H : Hp} {Q : VK} (h : lE K mg f W Θ Θ2 Θx (fun w φ d v => RE K f w φ κ d v) (eOp gg ta tb) σ H Q) :
    tOp r (lE K mg f W Θ Θ1 Θx (fun w φ d v => RE K f w φ .p d v) ta) (lE K mg f W Θ1 Θ2 Θx (fun w φ d v => RE K f w φ .p d v) tb) σ H Q := by
  obtain ⟨w, s, φ, rfl, hs, h⟩ := h
  refine ⟨w, s, φ, rfl, hs, Ef.mono (Ef.bind h) ?_⟩
  rintro x H1 ⟨w1, dx, s1, φ1, rfl, g1, o1, r1, h⟩
  refine ⟨w1, s1, φ1, rfl, o1, Ef.mono (Ef.bind h) ?_⟩
  rintro y H2 ⟨w2, dy, s2, φ2, rfl, g2, o2, r2, h⟩
  cases hg : gg dx dy with
  | none => rw [hg] at h; exact h.elim
  | some d =>
    rw [hg] at h
    exact hr _ _ w2 Q dx dy d (r1.rd.gr g2).fv r2.rd.fv hg fun v w3 g3 r3 => h v w3 φ2 g3.any (o2.gr0 g3) (r3.re o2 g3)
theorem qe_op {op : Operator} {r : R2} {gg : D → D → Option D} {ta tb : ER η} (ho : OpR X (binaryOp op) r) (hr : LP2 X.K r gg κ) (ha : QE X f W Θ a ta .p Θ1 Θx) (hb : QE X f W Θ1 b tb .p Θ2 Θx) : QE X f W Θ (.BinOp a op b pos) (eOp gg ta tb) κ Θ2 Θx :=
  ⟨PE.imp (pe_op ho ha.r hb.r) fun _ _ _ h => leop hr h⟩
theorem qe_cmp {op : CmpOp} {r : R2} {gg : D → D → Option D} {ta tb : ER η} (ho : OpR X (compareOp op) r) (hr : LP2 X.K r gg κ) (ha : QE X f W Θ a ta .p Θ1 Θx) (hb : QE X f W Θ1 b tb .p Θ2 Θx) (hm : behindInMarks op b = false) : QE X f W Θ (.Compare a [op] [b] pos) (eOp gg ta tb) κ Θ2 Θx :=
  ⟨PE.imp (pe_cmpR ho ha.r hb.r hm) fun _ _ _ h => leop hr h⟩
def eTest (t : ER η) : St η → Eff η Bool := fun s => (t s).bind fun d s1 => (asB d).eff s1
theorem letest {t : ER η} {te : TE} (ht : ∀ σ H Q, lE K mg f W Θ Θ1 Θx (fun w φ d v => RE K f w φ .p d v) t σ H Q → te σ H Q) {H : Hp} {Q : Bool → Hp → Prop} (h : lE K mg f W Θ Θ1 Θx rB (eTest t) σ H Q) : te σ H fun x H1 => ∃ c, x = .bl c ∧ Q c H1 := by
  obtain ⟨w, s, φ, rfl, hs, h⟩ := h
  refine ht _ _ _ ⟨w, s, φ, rfl, hs, Ef.mono (Ef.bind h) ?_⟩
  rintro x H1 ⟨w1, dx, s1, φ1, rfl, g1, o1, r1, h⟩
  have r := r1.rd
  cases dx with
  | bl c => exact ⟨c, r, h c w1 φ1 (.refl w1) o1 rfl⟩
  | _ => exact h.elim
theorem qt_cmp {op : CmpOp} {r : R2} {gg : D → D → Option D} {ta tb : ER η} (ho : OpR X (compareOp op) r) (hr : LP2 X.K r gg .p) (ha : QE X f W Θ a ta .p Θ1 Θx) (hb : QE X f W Θ1 b tb .p Θ2 Θx) (hm : behindInMarks op b = false) : QT X f W Θ (.Compare a [op] [b] pos) (eTest (eOp gg ta tb)) Θ2 Θx :=
  ⟨PT.imp (pt_cmpR ho ha.r hb.r hm) fun σ H Q h => letest (t := eOp gg ta tb) (te := tOp r _ _) (fun _ _ _ h => leop (Θ1 := Θ1) hr h) h⟩
theorem qt_val {t : ER η} (h : QE X f W Θ e t .p Θ1 Θx) (he : ∀ whole, isTrue e X.env whole = (do let v ← whole; standAt e.pos; holding [v] (truthy v)) := by intro _; rfl) : QT X f W Θ e (eTest t) Θ1 Θx :=
  ⟨PT.imp (pt_val h.r he) fun _ _ _ h => letest (fun _ _ _ h => h) h⟩
def eNot (t : St η → Eff η Bool) : St η → Eff η Bool := fun s => (t s).bind fun c s1 => .ok (!c) s1
def eAnd (t u : St η → Eff η Bool) : St η → Eff η Bool := fun s => (t s).bind fun c s1 => if c = true then u s1 else .ok false s1
def eOr (t u : St η → Eff η Bool) : St η → Eff η Bool := fun s => (t s).bind fun c s1 => if c = true then .ok true s1 else u s1
theorem qt_not {t : St η → Eff η Bool} (ha : QT X f W Θ a t Θ1 Θx) : QT X f W Θ (.UnaryOp .Not a pos) (eNot t) Θ1 Θx := ⟨PT.imp (pt_not ha.r) fun σ H Q h => by
  obtain ⟨w, s, φ, hw, hs, h⟩ := h
  subst hw
  refine ⟨w, s, φ, rfl, hs, Ef.mono (Ef.bind h) ?_⟩
  rintro x H1 ⟨w1, dx, s1, φ1, rfl, g1, o1, r1, h⟩
  cases r1
  exact h _ w1 φ1 (.refl w1) o1 rfl⟩
theorem QTw.t {t : St η → Eff η Bool} (h : QTw X f W Θ e t Θ1 Θx) : QT X f W Θ e t Θ1 Θx := ⟨PW.pt h.r⟩
theorem qtw_and1 {t : St η → Eff η Bool} (h : QT X f W Θ a t Θ1 Θx) : QTw X f W Θ (.BoolOp .And [a] pos) t Θ1 Θx := ⟨pw_and1 h.r⟩
theorem qtw_or1 {t : St η → Eff η Bool} (h : QT X f W Θ a t Θ1 Θx) : QTw X f W Θ (.BoolOp .Or [a] pos) t Θ1 Θx := ⟨pw_or1 h.r⟩
theorem qtw_and {t u : St η → Eff η Bool} (ha : QT X f W Θ a t Θ Θx) (hb : QTw X f W Θ (.BoolOp .And (b :: rest) pos) u Θ Θx) : QTw X f W Θ (.BoolOp .And (a :: b :: rest) pos) (eAnd t u) Θ Θx := ⟨PW.imp (pw_and ha.r hb.r) fun σ H Q h => by
  obtain ⟨w, s, φ, hw, hs, h⟩ := h
  subst hw
  refine ⟨w, s, φ, rfl, hs, Ef.mono (Ef.bind h) ?_⟩
  rintro x H1 ⟨w1, dx, s1, φ1, rfl, g1, o1, r1, h⟩
  cases r1
  cases x with
  | true => exact ⟨w1, s1, φ1, rfl, o1, h⟩
  | false => exact h _ w1 φ1 (.refl w1) o1 rfl⟩
theorem qtw_or {t u : St η → Eff η Bool} (ha : QT X f W Θ a t Θ Θx) (hb : QTw X f W Θ (.BoolOp .Or (b :: rest) pos) u Θ Θx) : QTw X f W Θ (.BoolOp .Or (a :: b :: rest) pos) (eOr t u) Θ Θx := ⟨PW.imp (pw_or ha.r hb.r) fun σ H Q h => by
  obtain ⟨w, s, φ, hw, hs, h⟩ := h
  subst hw
  refine ⟨w, s, φ, rfl, hs, Ef.mono (Ef.bind h) ?_⟩
  rintro x H1 ⟨w1, dx, s1, φ1, rfl, g1, o1, r1, h⟩
  cases r1
  cases x with
  | true => exact h _ w1 φ1 (.refl w1) o1 rfl
  | false => exact ⟨w1, s1, φ1, rfl, o1, h⟩⟩
/-- arguments that change something -/
def eNil : St η → Eff η (List D) := fun s => .ok [] s
def eCons (t : ER η) (ts : St η → Eff η (List D)) : St η → Eff η (List D) := fun s => (t s).bind fun x s1 => (ts s1).bind fun xs s2 => .ok (x :: xs) s2
theorem qas_nil : QAs (η := η) X f W Θ [] eNil Θ Θx := ⟨PA.imp pa_nil fun σ H Q ⟨w, s, φ, hw, hs, h⟩ => by subst hw; exact h [] w φ (.refl w) hs rfl⟩
theorem qas_cons {es : List Expr} {t : ER η} {ts : St η → Eff η (List D)} (ha : QE X f W Θ e t .p Θ1 Θx) (hr : QAs X f W Θ1 es ts Θ2 Θx) (hs : starEach (e :: es) X.env = (false, eval e X.env) :: starEach es X.env := by rfl) : QAs X f W Θ (e :: es) (eCons t ts) Θ2 Θx := ⟨PA.imp (pa_cons ha.r hr.r hs) fun σ H Q h => by
  obtain ⟨w, s, φ, hw, hs, h⟩ := h
  subst hw
  refine ⟨w, s, φ, rfl, hs, Ef.mono (Ef.bind h) ?_⟩
  rintro x H1 ⟨w1, dx, s1, φ1, rfl, g1, o1, r1, h⟩
  refine ⟨w1, s1, φ1, rfl, o1, Ef.mono (Ef.bind h) ?_⟩
  rintro xs H2 ⟨w2, ds, s2, φ2, rfl, g2, o2, r2, h⟩
  exact h _ w2 φ2 (.refl w2) o2 ⟨x, xs, rfl, r1.rd.gr g2, r2⟩⟩
def eTup (t : St η → Eff η (List D)) : ER η := fun s => (t s).bind fun ds s1 => (tupO ds).eff s1
theorem qe_tup {es : List Expr} {x1} {t : St η → Eff η (List D)} (h : QAs X f W Θ es t Θ1 Θx) : QE X f W Θ (.Tuple es x1 pos) (eTup t) .p Θ1 Θx := ⟨PE.imp (pe_tup h.r) fun σ H Q h => by
  obtain ⟨w, s, φ, hw, hs, h⟩ := h
  subst hw
  refine ⟨w, s, φ, rfl, hs, Ef.mono (Ef.bind h) ?_⟩
  rintro vs H1 ⟨w1, ds, s1, φ1, rfl, g1, o1, r1, h⟩
  have r : RDs X.K w1 ds vs := r1
  unfold tupO at h
  by_cases z : ds.length ≤ sizeLine
  · rw [if_pos z] at h
    exact ⟨by rw [r.len]; exact z, fun p np => h (.ref p) (w1.up p (.tup vs)) φ1 (.new np) (o1.gr0 (.new np)) (.p (.newT np r))⟩
  · rw [if_neg z] at h
    exact h.elim⟩
def eLst (t : St η → Eff η (List D)) : ER η := fun s => (t s).bind fun ds s1 => (lstO ds).eff s1
theorem qe_lst {es : List Expr} {t : St η → Eff η (List D)} (h : QAs X f W Θ es t Θ1 Θx) : QE X f W Θ (.List es pos) (eLst t) (.own (.l .p)) Θ1 Θx := ⟨PE.imp (pe_lst h.r) fun σ H Q h => by
  obtain ⟨w, s, φ, hw, hs, h⟩ := h
  subst hw
  refine ⟨w, s, φ, rfl, hs, Ef.mono (Ef.bind h) ?_⟩
  rintro vs H1 ⟨w1, ds, s1, φ1, rfl, g1, o1, r1, h⟩
  have r : RDs X.K w1 ds vs := r1
  unfold lstO at h
  by_cases z : ds.length ≤ sizeLine
  · rw [if_pos z] at h
    exact ⟨by rw [r.len]; exact z, fun p np => h (.ref p) (w1.up p (.lst vs)) φ1 (.new np) (o1.gr0 (.new np)) ((RP.newL (.refl w1) np r).re o1 (.new np))⟩
  · rw [if_neg z] at h
    exact h.elim⟩
theorem qe_fz {t : ER η} {τ : Tag} (h : QE X f W Θ e t (.own τ) Θ1 Θx) (ht : fzT τ = true := by rfl) : QE X f W Θ e t .p Θ1 Θx := ⟨PE.imp (pe_fz h.r) fun σ H Q ⟨w, s, φ, hw, hs, h⟩ => by
  subst hw
  refine ⟨w, s, φ, rfl, hs, ?_⟩
  cases hh : t s with
  | stuck => rw [hh] at h; exact h
  | exc c s1 => rw [hh] at h; exact h
  | ok d s1 =>
    rw [hh] at h
    intro v w1 φ1 g1 o1 ⟨A, r1, nd, ha⟩
    obtain ⟨a, u, rfl, rfl, hu, mu, np, k⟩ := r1.fz ht
    have hfa := ha a (by simp)
    refine ⟨a, u, rfl, hu, mu, fun o => h (.ref a) (w1.up a (.frz o u)) φ1 (g1.trans (.mut hu np hfa.1)) (o1.gr (g := fun b => b = a) (.mut hu np rfl) (fun b e => by subst e; exact hfa.2) (fun b e => by subst e; exact hfa.1)) (.p (k f o hfa.1 fun z => by obtain ⟨o, u', z⟩ := o1.lkd a z; rw [hu] at z; cases z; exact np trivial))⟩⟩
end
end FL

/-! FE: calls of the text's own defs. -/
namespace FL
open PySem PySem.Spec PyProof.Rows L2
variable [TabT]
/-- how a call ends: its value, what the arguments that are written hold then -/
inductive Rs where
  | ok (d : D) (outs : List D) | exc (c : Str) (outs : List D) | stuck
abbrev FR := List D → Rs
def Sl.isIo : Sl → Bool
  | .io _ => true
  | _ => false
section
variable {K : PySem.W.Frag} {mg : Str → Option Value}
/-- arguments as they lie: A: what the def may write; g: what it writes -/
def Args (K : PySem.W.Frag) (w : Wd) (g : Addr → Prop) : List Sl → List D → List V → List Addr → Prop
  | [], ds, vs, A => ds = [] ∧ vs = [] ∧ A = []
  | .own t :: κs, ds, vs, A => ∃ d es v r A1 A2, ds = d :: es ∧ vs = v :: r ∧ A = A1 ++ A2 ∧ Rp true K w t d v A1 ∧ Args K w g κs es r A2
  | .bor t :: κs, ds, vs, A => ∃ d es v r B, ds = d :: es ∧ vs = v :: r ∧ Rp false K w t d v B ∧ (∀ b ∈ B, ¬ g b) ∧ Args K w g κs es r A
  | .io t :: κs, ds, vs, A => ∃ d es v r A1 A2, ds = d :: es ∧ vs = v :: r ∧ A = A1 ++ A2 ∧ Rp true K w t d v A1 ∧ Args K w g κs es r A2
  | _ :: _, _, _, _ => False
/-- the written ones behind -/
def Outs (K : PySem.W.Frag) (w : Wd) : List Sl → List V → List D → List Addr → Prop
  | [], _, ds, A => ds = [] ∧ A = []
  | _ :: _, [], _, _ => False
  | .io t :: κs, v :: vs, ds, A => ∃ d es A1 A2, ds = d :: es ∧ A = A1 ++ A2 ∧ Rp true K w t d v A1 ∧ Outs K w κs vs es A2
  | _ :: κs, _ :: vs, ds, A => Outs K w κs vs ds A
/-- a def's promise; rz: it may raise -/
def CF (K : PySem.W.Frag) (mg : Str → Option Value) (rz : Bool) (ms : List Sl) (τ : Tag) (F : FR) : Sp := fun vs H Q E => ∃ w ds A, w.H = H ∧ ((∀ a, w.lk a → ∃ o u, w.H a = some (.frz o u)) ∧ TbOk w.H) ∧ Args K w (· ∈ A) ms ds vs A ∧ A.Nodup ∧
  match F ds with
  | .ok d outs => ∀ v w' B A', Gr (· ∈ A) w w' → Outs K w' ms vs outs A' → Rp true K w' τ d v B → (B ++ A').Nodup → (∀ a ∈ B ++ A', a ∈ A ∨ w.H a = none) → Q v w'.H
  | .exc c outs => rz = true ∧ ∀ C w' A', Cls mg c C → Gr (· ∈ A) w w' → Outs K w' ms vs outs A' → A'.Nodup → (∀ a ∈ A', a ∈ A ∨ w.H a = none) → E (.ref C) none w'.H
  | .stuck => False
theorem Args.len {w : Wd} {g : Addr → Prop} : ∀ {ms : List Sl} {ds : List D} {vs : List V} {A : List Addr}, Args K w g ms ds vs A → vs.length = ms.length ∧ ds.length = ms.length
  | [], _, _, _, ⟨h1, h2, _⟩ => by subst h1 h2; exact ⟨rfl, rfl⟩
  | .own t :: ms, _, _, _, ⟨d, es, v, r, A1, A2, h1, h2, h3, h4, h5⟩ => by subst h1 h2; obtain ⟨q1, q2⟩ := Args.len h5; exact ⟨by rw [List.length_cons, List.length_cons, q1], by rw [List.length_cons, List.length_cons, q2]⟩
  | .bor t :: ms, _, _, _, ⟨d, es, v, r, B, h1, h2, h3, h4, h5⟩ => by subst h1 h2; obtain ⟨q1, q2⟩ := Args.len h5; exact ⟨by rw [List.length_cons, List.length_cons, q1], by rw [List.length_cons, List.length_cons, q2]⟩
  | .io t :: ms, _, _, _, ⟨d, es, v, r, A1, A2, h1, h2, h3, h4, h5⟩ => by subst h1 h2; obtain ⟨q1, q2⟩ := Args.len h5; exact ⟨by rw [List.length_cons, List.length_cons, q1], by rw [List.length_cons, List.length_cons, q2]⟩
  | .no :: _, _, _, _, h => h.elim
  | .lk _ :: _, _, _, _, h => h.elim
theorem Args.al {w : Wd} {g : Addr → Prop} : ∀ {ms : List Sl} {ds : List D} {vs : List V} {A : List Addr}, Args K w g ms ds vs A → ∀ a ∈ A, w.H a ≠ none
  | [], _, _, _, ⟨_, _, h⟩ => by subst h; intro a h; cases h
  | .own t :: ms, _, _, _, ⟨d, es, v, r, A1, A2, h1, h2, h3, h4, h5⟩ => fun a ha => by
    rw [h3] at ha
    exact (List.mem_append.mp ha).elim (h4.al a) (Args.al h5 a)
  | .bor t :: ms, _, _, _, ⟨d, es, v, r, B, h1, h2, h3, h4, h5⟩ => Args.al h5
  | .io t :: ms, _, _, _, ⟨d, es, v, r, A1, A2, h1, h2, h3, h4, h5⟩ => fun a ha => by
    rw [h3] at ha
    exact (List.mem_append.mp ha).elim (h4.al a) (Args.al h5 a)
  | .no :: _, _, _, _, h => h.elim
  | .lk _ :: _, _, _, _, h => h.elim

/-! ### calls that write no argument -/
def Rs.out : Rs → Out D
  | .ok d _ => .ok d
  | .exc c _ => .exc c
  | .stuck => .stuck
/-- of a def that raises nothing -/
def Rs.out0 : Rs → Out D
  | .ok d _ => .ok d
  | _ => .stuck
@[simp] theorem Rs.out0_ok {d : D} {o : List D} : (Rs.ok d o).out0 = .ok d := rfl
@[simp] theorem Rs.out_ok {d : D} {o : List D} : (Rs.ok d o).out = .ok d := rfl
@[simp] theorem Rs.out_exc {c : Str} {o : List D} : (Rs.exc c o).out = .exc c := rfl
/-- an argument for a parameter that is not written -/
def fit : Sl → Sl → Bool
  | .own .p, .own .p => true
  | .own .p, .bor _ => true
  | .own a, .bor b => a.beq b
  | .bor a, .bor b => a.beq b
  | _, _ => false
def fits : List Sl → List Sl → Bool
  | [], [] => true
  | a :: as, b :: bs => fit a b && fits as bs
  | _, _ => false
theorem fit_ok {w w' : Wd} {κ m : Sl} {d : D} {v : V} (h : fit κ m = true) (r : RP K w w' κ d v) : (m = .p ∧ RD K w' d v) ∨ ∃ t B, m = .bor t ∧ Rp false K w' t d v B := by
  cases m with
  | no => cases κ with
    | own t => cases t <;> cases h
    | _ => cases h
  | io => cases κ with
    | own t => cases t <;> cases h
    | _ => cases h
  | lk => cases κ with
    | own t => cases t <;> cases h
    | _ => cases h
  | own t =>
    cases κ with
    | own u => cases u <;> cases t <;> first | (cases h; done) | exact .inl ⟨rfl, r.rd⟩
    | _ => cases h
  | bor t =>
    refine .inr ⟨t, ?_⟩
    cases κ with
    | own u =>
      cases u with
      | p => exact ⟨[], rfl, r.rd.bor⟩
      | _ =>
        have e := Tag.eq_of (show Tag.beq _ t = true from h)
        subst e
        obtain ⟨A, h1, _⟩ := r
        exact ⟨A, rfl, h1.weak⟩
    | bor u =>
      have e := Tag.eq_of (show Tag.beq _ t = true from h)
      subst e
      obtain ⟨A, h1⟩ := r
      exact ⟨A, rfl, h1⟩
    | io => cases h
    | lk => cases h
    | no => cases h
theorem fits_args {w w' : Wd} : ∀ {κs ms : List Sl} {ds : List D} {vs : List V}, fits κs ms = true → RPs K w w' κs ds vs → Args K w' (· ∈ ([] : List Addr)) ms ds vs []
  | [], [], _, _, _, ⟨h1, h2⟩ => ⟨h1, h2, rfl⟩
  | κ :: κs, m :: ms, _, _, h, ⟨d, es, v, r, e1, e2, h1, h2⟩ => by
    have h : fit κ m = true ∧ fits κs ms = true := by simpa [fits] using h
    have ih := fits_args h.2 h2
    rcases fit_ok h.1 h1 with ⟨rfl, q⟩ | ⟨t, B, rfl, q⟩
    · exact ⟨d, es, v, r, [], [], e1, e2, rfl, ⟨q, rfl⟩, ih⟩
    · exact ⟨d, es, v, r, B, e1, e2, q, (fun _ _ z => nomatch z), ih⟩
  | [], _ :: _, _, _, h, _ => by cases h
  | _ :: _, [], _, _, h, _ => by cases h
end
section
variable {η : Type} [HR η] {f : Fm} {w w' w1 w2 : Wd} {Θ Θ1 Θ2 Θx : Th} {σ : L2.St} {s : St η} {φ : Fp} {W : WX} {X : Cx} {a b e : Expr} {pos p : Pos} {es : List Expr}
def fCall (F : FR) (ts : PRs η) : PR η := fun s => (ts s).bind fun ds => (F ds).out
def fCall0 (F : FR) (ts : PRs η) : PR η := fun s => (ts s).bind fun ds => (F ds).out0
variable {k : Nat} {fa : Addr} {fd : FuncData} {ps : List Str} {ms κs : List Sl} {τ : Tag} {F : FR} {x : Str} {ts : PRs η}
theorem lcall {K : PySem.W.Frag} {mg : Str → Option Value} {rz : Bool} {E : L2.St → XK} (hE : rz = true → E = WE W) (hf : fits κs ms = true) {H : Hp} {Q : VK} (h : lP K mg f W Θ (fCall F ts) (.own τ) σ H Q) : lPs K mg f W Θ ts κs σ H fun vs H1 => CF K mg rz ms τ F vs H1 Q (E σ) ∨ (rz = false ∧ CF K mg true ms τ F vs H1 Q (WE W σ)) := by
  obtain ⟨w, s, φ, rfl, hs, h⟩ := h
  refine ⟨w, s, φ, rfl, hs, ?_⟩
  unfold fCall at h
  cases ha : ts s with
  | stuck => rw [ha] at h; exact h
  | exc c => rw [ha] at h; exact h
  | ok ds =>
    rw [ha] at h
    intro vs w1 g1 r1
    have go : CF K mg true ms τ F vs w1.H Q (WE W σ) := by
      refine ⟨w1, ds, [], rfl, ⟨(hs.gr0 g1).lkd, (hs.gr0 g1).tab⟩, fits_args hf r1, List.nodup_nil, ?_⟩
      simp only [Out.bind_ok] at h
      cases hF : F ds with
      | stuck => rw [hF] at h; exact h
      | exc c outs => rw [hF] at h; exact ⟨rfl, fun C w2 A' hc g2 _ _ _ => h C w2 hc (g1.trans (g2.mono fun _ z => by cases z))⟩
      | ok d outs =>
        rw [hF] at h
        intro v w2 B A' g2 ho r2 nd nw
        have g2' : Gr no w1 w2 := g2.mono fun _ z => by cases z
        refine h v w2 (g1.trans g2') ⟨B, r2, (List.nodup_append.mp nd).1, fun a ha => ?_⟩
        rcases nw a (List.mem_append_left _ ha) with z | z
        · cases z
        · exact g1.nn0 z
    cases rz with
    | true => rw [hE rfl]; exact .inl go
    | false => exact .inr ⟨rfl, go⟩
/-- a call of a def that may raise -/
theorem qp_callX (tk : Takes X W) (FO : FnOk X.prog X.w X.K X.mg X.base (L2.CX X.prog X.w) k fa fd ps (CF X.K X.mg true ms τ F)) (hr : Room k X.A) (hg : Gl X x) (hm : X.mg x = some (.ref fa)) (hk : PySem.W.keepIn X.K (.ref fa) = true) (hb : Binds X.K fd ps [])
    (ha : QPs X f W Θ (e :: es) ts κs) (hf : fits κs ms = true := by rfl) (hdb : (x == ("__debug__" : Str)) = false := by decide) (he : starEach (e :: es) X.env = (false, eval e X.env) :: starEach es X.env := by rfl) (hpl : (backTo pos (starEach es X.env)).any (·.1) = false := by rfl) :
    QP X f W Θ (.Call (.Name x p) (e :: es) [] pos) (fCall F ts) (.own τ) := ⟨PE.imp (pe_callS FO hr hg hm hk hb (E := WE W) (passAt tk) ha.r hdb he hpl) fun σ H Q h => by
  have q := lcall (rz := true) (E := WE W) (fun _ => rfl) hf h
  obtain ⟨w, s, φ, e1, hs, q⟩ := q
  refine ⟨w, s, φ, e1, hs, ?_⟩
  cases hh : ts s with
  | stuck => rw [hh] at q; exact q
  | exc c => rw [hh] at q; exact q
  | ok ds => rw [hh] at q; exact fun vs w1 g1 r1 => (q vs w1 g1 r1).resolve_right fun z => nomatch z.1⟩
/-- .. that raises nothing -/
theorem qp_call (FO : FnOk X.prog X.w X.K X.mg X.base CX0 k fa fd ps (CF X.K X.mg false ms τ F)) (hr : Room k X.A) (hg : Gl X x) (hm : X.mg x = some (.ref fa)) (hk : PySem.W.keepIn X.K (.ref fa) = true) (hb : Binds X.K fd ps [])
    (ha : QPs X f W Θ (e :: es) ts κs) (hf : fits κs ms = true := by rfl) (hdb : (x == ("__debug__" : Str)) = false := by decide) (he : starEach (e :: es) X.env = (false, eval e X.env) :: starEach es X.env := by rfl) (hpl : (backTo pos (starEach es X.env)).any (·.1) = false := by rfl) :
    QP X f W Θ (.Call (.Name x p) (e :: es) [] pos) (fCall0 F ts) (.own τ) := ⟨PE.imp (pe_call FO hr hg hm hk hb .nil (E := L2.E0) pass0 ha.r hdb he hpl) fun σ H Q h => by
  obtain ⟨w, s, φ, rfl, hs, h⟩ := h
  refine ⟨w, s, φ, rfl, hs, ?_⟩
  unfold fCall0 at h
  cases hh : ts s with
  | stuck => rw [hh] at h; exact h
  | exc c => rw [hh] at h; exact h
  | ok ds =>
    rw [hh] at h
    intro vs w1 g1 r1
    rw [List.append_nil]
    refine ⟨w1, ds, [], rfl, ⟨(hs.gr0 g1).lkd, (hs.gr0 g1).tab⟩, fits_args hf r1, List.nodup_nil, ?_⟩
    simp only [Out.bind_ok] at h
    cases hF : F ds with
    | stuck => rw [hF] at h; exact h
    | exc c outs => rw [hF] at h; exact h.elim
    | ok d outs =>
      rw [hF] at h
      intro v w2 B A' g2 ho r2 nd nw
      have g2' : Gr no w1 w2 := g2.mono fun _ z => by cases z
      refine h v w2 (g1.trans g2') ⟨B, r2, (List.nodup_append.mp nd).1, fun a ha => ?_⟩
      rcases nw a (List.mem_append_left _ ha) with z | z
      · cases z
      · exact g1.nn0 z⟩
end
end FL

/-! FF: statements. -/
namespace FL
open PySem PySem.Spec PyProof.Rows L2
variable [TabT]
/-- what is kept at an exception, at a return, at a loop's break or continue; how what is returned lies -/
structure SC where
  x : Th
  r : Th
  l : Th
  k : Tag
section
variable {η : Type} [HR η] {K : PySem.W.Frag} {f : Fm} {w w' w1 w2 : Wd} {Θ Θ1 Θ2 Θ3 Θx : Th} {σ : L2.St} {s : St η} {φ : Fp} {mg : Str → Option Value} {W : WX} {C : SC}
def Sf (K : PySem.W.Frag) (mg : Str → Option Value) (f : Fm) (W : WX) (w : Wd) (Θ' : Th) (C : SC) (o : Eff η Fl) (D : Ends) : Prop := match o with
  | .ok .nx s => ∀ σ' w' φ, Gr f w w' → OwnS K f w' Θ' σ' s φ → D.nx σ' w'.H
  | .ok (.rt d) s => ∀ v σ' w' φ, Gr f w w' → OwnS K f w' C.r σ' s φ → RE K f w' φ (.own C.k) d v → D.rt v w'.H
  | .ok .bk s => ∀ σ' w' φ, Gr f w w' → OwnS K f w' C.l σ' s φ → D.bk σ' w'.H
  | .ok .ct s => ∀ σ' w' φ, Gr f w w' → OwnS K f w' C.l σ' s φ → D.ct σ' w'.H
  | .exc c s => ∀ A σ' w' φ, Cls mg c A → Gr f w w' → OwnS K f w' C.x σ' s φ → W (.ref A) none σ' w'.H
  | .stuck => False
theorem Sf.gr {o : Eff η Fl} {D : Ends} (h : Sf K mg f W w Θ1 C o D) (g : Gr f w w1) : Sf K mg f W w1 Θ1 C o D := by
  cases o with
  | ok a s => cases a with
    | nx => exact fun σ' w' φ g2 => h σ' w' φ (g.trans g2)
    | rt d => exact fun v σ' w' φ g2 => h v σ' w' φ (g.trans g2)
    | bk => exact fun σ' w' φ g2 => h σ' w' φ (g.trans g2)
    | ct => exact fun σ' w' φ g2 => h σ' w' φ (g.trans g2)
  | exc c s => exact fun A σ' w' φ hc g2 => h A σ' w' φ hc (g.trans g2)
  | stuck => exact h
def lS (K : PySem.W.Frag) (mg : Str → Option Value) (f : Fm) (W : WX) (Θ Θ' : Th) (C : SC) (t : SR η) : TS := fun D σ H => ∃ w s φ, w.H = H ∧ OwnS K f w Θ σ s φ ∧ Sf K mg f W w Θ' C (t s) D
end
section
variable {η : Type} [HR η]
structure QS (X : Cx) (f : Fm) (W : WX) (C : SC) (Θ : Th) (st : Stmt) (t : SR η) (Θ' : Th) : Prop where
  r : PS X st (lS X.K X.mg f W Θ Θ' C t)
structure QSs (X : Cx) (f : Fm) (W : WX) (C : SC) (Θ : Th) (st : List Stmt) (t : SR η) (Θ' : Th) : Prop where
  r : PSs X st (lS X.K X.mg f W Θ Θ' C t)
variable {K : PySem.W.Frag} {f : Fm} {w w' w1 w2 : Wd} {Θ Θ1 Θ2 Θ3 Θx : Th} {σ : L2.St} {s : St η} {φ : Fp} {mg : Str → Option Value} {W : WX} {C : SC} {X : Cx} {e : Expr} {pos : Pos} {st : Stmt} {sts : List Stmt} {κ : Sl}
theorem Sf.le {o : Eff η Fl} {D : Ends} (h : Sf K mg f W w Θ2 C o D) (l : Th.le Θ1 Θ2 = true) : Sf K mg f W w Θ1 C o D := by
  cases o with
  | ok a s => cases a with
    | nx => exact fun σ' w' φ g2 o2 => h σ' w' φ g2 (o2.le l)
    | _ => exact h
  | exc c s => exact h
  | stuck => exact h
theorem QSs.le {t : SR η} (h : QSs X f W C Θ sts t Θ1) (l : Th.le Θ1 Θ2 = true := by rfl) : QSs X f W C Θ sts t Θ2 := ⟨PSs.imp h.r fun D σ H ⟨w, s, φ, e, o, h⟩ => ⟨w, s, φ, e, o, h.le l⟩⟩
theorem QS.le {t : SR η} (h : QS X f W C Θ st t Θ1) (l : Th.le Θ1 Θ2 = true := by rfl) : QS X f W C Θ st t Θ2 := ⟨PS.imp h.r fun D σ H ⟨w, s, φ, e, o, h⟩ => ⟨w, s, φ, e, o, h.le l⟩⟩
/-- behind an expression -/
theorem Ef.to {α β : Type} {R : Wd → Fp → α → β → Prop} {o : Eff η α} {k : α → St η → Eff η Fl} {D : Ends} (h : Sf K mg f W w Θ2 C (o.bind k) D) :
    Ef K mg f W w σ Θ1 C.x R o fun b H => ∃ w1 x s1 φ1, w1.H = H ∧ Gr f w w1 ∧ OwnS K f w1 Θ1 σ s1 φ1 ∧ R w1 φ1 x b ∧ Sf K mg f W w1 Θ2 C (k x s1) D := by
  cases o with
  | ok a s => exact fun b w1 φ1 g1 o1 r1 => ⟨w1, a, s, φ1, rfl, g1, o1, r1, h.gr g1⟩
  | exc c s => exact fun A w' φ hc g2 o2 => h A σ w' φ hc g2 o2
  | stuck => exact h
def fNext : SR η := fun s => .ok .nx s
def fSeq (t u : SR η) : SR η := fun s => (t s).bind fun fl s1 => match fl with
  | .nx => u s1
  | fl => .ok fl s1
theorem qss_nil : QSs (η := η) X f W C Θ [] fNext Θ := ⟨PSs.imp pss_nil fun D σ H ⟨w, s, φ, e, o, h⟩ => by subst e; exact h σ w φ (.refl w) o⟩
theorem qss_cons {t u : SR η} (h1 : QS X f W C Θ st t Θ1) (h2 : QSs X f W C Θ1 sts u Θ2) : QSs X f W C Θ (st :: sts) (fSeq t u) Θ2 := ⟨PSs.imp (pss_cons h1.r h2.r) fun D σ H ⟨w, s, φ, e, o, h⟩ => by
  subst e
  refine ⟨w, s, φ, rfl, o, ?_⟩
  unfold fSeq at h
  cases ht : t s with
  | stuck => rw [ht] at h; exact h
  | exc c s1 => rw [ht] at h; exact h
  | ok fl s1 =>
    rw [ht] at h
    cases fl with
    | nx => exact fun σ' w1 φ1 g1 o1 => ⟨w1, s1, φ1, rfl, o1, Sf.gr (η := η) h g1⟩
    | rt d => exact h
    | bk => exact h
    | ct => exact h⟩
theorem qss_one {t : SR η} (h1 : QS X f W C Θ st t Θ1) : QSs X f W C Θ [st] t Θ1 := ⟨pss_one h1.r⟩
def fBreak : SR η := fun s => .ok .bk s
def fCont : SR η := fun s => .ok .ct s
theorem qs_pass : QS (η := η) X f W C Θ (.Pass pos) fNext Θ := ⟨PS.imp ps_pass fun D σ H ⟨w, s, φ, e, o, h⟩ => by subst e; exact h σ w φ (.refl w) o⟩
theorem qs_break (l : Th.le Θ C.l = true := by rfl) : QS (η := η) X f W C Θ (.Break pos) fBreak Θ1 := ⟨PS.imp ps_break fun D σ H ⟨w, s, φ, e, o, h⟩ => by subst e; exact h σ w φ (.refl w) (o.le l)⟩
theorem qs_cont (l : Th.le Θ C.l = true := by rfl) : QS (η := η) X f W C Θ (.Continue pos) fCont Θ1 := ⟨PS.imp ps_continue fun D σ H ⟨w, s, φ, e, o, h⟩ => by subst e; exact h σ w φ (.refl w) (o.le l)⟩
theorem qs_doc {x j pos'} : QS (η := η) X f W C Θ (.Expr (.Constant (.str x) j pos) pos') fNext Θ := ⟨PS.imp ps_doc fun D σ H ⟨w, s, φ, e, o, h⟩ => by subst e; exact h σ w φ (.refl w) o⟩
def fNever : SR η := fun _ => .stuck
theorem qs_never : QS (η := η) X f W C Θ st fNever Θ1 := ⟨PS.imp ps_never fun D σ H ⟨w, s, φ, e, o, h⟩ => h⟩
theorem qss_never : QSs (η := η) X f W C Θ sts fNever Θ1 := ⟨PSs.imp pss_never fun D σ H ⟨w, s, φ, e, o, h⟩ => h⟩
def fExpr (t : ER η) : SR η := fun s => (t s).bind fun _ s1 => .ok .nx s1
theorem qs_expr {t : ER η} (he : QE X f W Θ e t κ Θ1 C.x) (hs : swapsWith e none pos.line X.env = pure false := by rfl) : QS X f W C Θ (.Expr e pos) (fExpr t) Θ1 := ⟨PS.imp (ps_expr he.r hs) fun D σ H ⟨w, s, φ, e, o, h⟩ => by
  subst e
  refine ⟨w, s, φ, rfl, o, (Ef.to (σ := σ) h).mono ?_⟩
  rintro v H1 ⟨w1, d, s1, φ1, rfl, g1, o1, r1, h⟩
  exact h σ w1 φ1 (.refl w1) o1⟩
def fRet (t : ER η) : SR η := fun s => (t s).bind fun d s1 => .ok (.rt d) s1
theorem qs_ret {t : ER η} (he : QE X f W Θ e t (.own C.k) Θ1 C.x) (l : Th.le Θ1 C.r = true := by rfl) : QS X f W C Θ (.Return (some e) pos) (fRet t) Θ2 := ⟨PS.imp (ps_ret he.r) fun D σ H ⟨w, s, φ, e, o, h⟩ => by
  subst e
  refine ⟨w, s, φ, rfl, o, (Ef.to (σ := σ) h).mono ?_⟩
  rintro v H1 ⟨w1, d, s1, φ1, rfl, g1, o1, r1, h⟩
  exact h v σ w1 φ1 (.refl w1) (o1.le l) r1⟩
def fRetN : SR η := fun s => .ok (.rt .non) s
theorem qs_retN (hk : C.k = .p := by rfl) (l : Th.le Θ C.r = true := by rfl) : QS (η := η) X f W C Θ (.Return none pos) fRetN Θ2 := ⟨PS.imp ps_retN fun D σ H ⟨w, s, φ, e, o, h⟩ => by
  subst e
  exact h .non σ w φ (.refl w) (o.le l) (by rw [hk]; exact .p rfl)⟩
def fIfS (c : St η → Eff η Bool) (t u : SR η) : SR η := fun s => (c s).bind fun b s1 => if b = true then t s1 else u s1
theorem qs_if {c : Expr} {a b : List Stmt} {tc : St η → Eff η Bool} {t u : SR η} (hc : QT X f W Θ c tc Θ1 C.x) (ha : QSs X f W C Θ1 a t Θ2) (hb : QSs X f W C Θ1 b u Θ2) : QS X f W C Θ (.If c a b pos) (fIfS tc t u) Θ2 := ⟨PS.imp (ps_if hc.r ha.r hb.r) fun D σ H ⟨w, s, φ, e, o, h⟩ => by
  subst e
  refine ⟨w, s, φ, rfl, o, (Ef.to (σ := σ) h).mono ?_⟩
  rintro v H1 ⟨w1, d, s1, φ1, rfl, g1, o1, r1, h⟩
  cases r1
  cases v with
  | true => exact ⟨w1, s1, φ1, rfl, o1, h⟩
  | false => exact ⟨w1, s1, φ1, rfl, o1, h⟩⟩

/-! ### targets -/
abbrev GR (η : Type) := D → St η → Option (St η)
def gName (i : Nat) : GR η := fun d s => some (s.set i d)
/-- a value by itself is assigned -/
structure QG (X : Cx) (f : Fm) (Θ : Th) (tg : Expr) (g : GR η) (Θ' : Th) : Prop where
  r : PG X tg fun v σ H Q => ∃ w s φ d s', w.H = H ∧ OwnS X.K f w Θ σ s φ ∧ RD X.K w d v ∧ g d s = some s' ∧ ∀ σ' φ', OwnS X.K f w Θ' σ' s' φ' → Q σ' w.H
structure QGs (X : Cx) (f : Fm) (Θ : Th) (tgs : List Expr) (g : List D → St η → Option (St η)) (Θ' : Th) : Prop where
  r : PGs X tgs fun vs σ H Q => ∃ w s φ ds s', w.H = H ∧ OwnS X.K f w Θ σ s φ ∧ RDs X.K w ds vs ∧ g ds s = some s' ∧ ∀ σ' φ', OwnS X.K f w Θ' σ' s' φ' → Q σ' w.H
theorem OwnS.setP (h : OwnS K f w Θ σ s φ) (i : Nat) {d : D} {v : V} (r : RD K w d v) : OwnS K f w (Θ.set i .p) (σ.set i (some v)) (s.set i d) (φ.set i []) := h.set i ⟨r, rfl⟩ List.nodup_nil fun _ z => by cases z
theorem qg_name {i : Nat} {x : Str} (hN : X.N.Nodup) (hi : X.N[i]? = some x := by rfl) (hx : Loc X.env.scope x := by first | exact Or.inl rfl | exact Or.inr rfl) (hf : X.fn x = true ∨ X.env.scope.names.lookup x = some .local := by first | exact .inl rfl | exact .inr rfl) : QG (η := η) X f Θ (.Name x pos) (gName i) (Θ.set i .p) :=
  ⟨PG.imp (pg_name hN hi hx hf) fun v σ H Q ⟨w, s, φ, d, s', e, o, r, hg, h⟩ => by subst e; cases hg; exact h _ _ (o.setP i r)⟩
def gNil : List D → St η → Option (St η)
  | [], s => some s
  | _, _ => none
def gCons (g : GR η) (gs : List D → St η → Option (St η)) : List D → St η → Option (St η)
  | d :: ds, s => (g d s).bind (gs ds)
  | [], _ => none
theorem qgs_nil : QGs (η := η) X f Θ [] gNil Θ := ⟨PGs.imp pgs_nil fun vs σ H Q ⟨w, s, φ, ds, s', e, o, r, hg, h⟩ => by
  subst e
  cases ds with
  | nil => cases hg; exact ⟨r, h σ φ o⟩
  | cons d ds => cases hg⟩
theorem qgs_cons {es : List Expr} {g : GR η} {gs : List D → St η → Option (St η)} (h1 : QG X f Θ e g Θ1) (h2 : QGs X f Θ1 es gs Θ2) (hs : (assignEach (e :: es) X.env).map (·.2) = assign e X.env :: (assignEach es X.env).map (·.2) := by rfl) : QGs X f Θ (e :: es) (gCons g gs) Θ2 :=
  ⟨PGs.imp (pgs_cons h1.r h2.r hs) fun vs σ H Q ⟨w, s, φ, ds, s', e, o, r, hg, h⟩ => by
    subst e
    cases ds with
    | nil => cases hg
    | cons d ds =>
      obtain ⟨v, u, rfl, r1, r2⟩ := r
      obtain ⟨s1, e1, e2⟩ := Option.bind_eq_some_iff.mp hg
      exact ⟨v, u, rfl, w, s, φ, d, s1, rfl, o, r1, e1, fun σ' φ' o' => ⟨w, s1, φ', ds, s', rfl, o', r2, e2, h⟩⟩⟩
/-- a, b = a row -/
def gTup (n : Nat) (gs : List D → St η → Option (St η)) : GR η := fun d s => match d with
  | .tup ds => if ds.length = n then gs ds s else none
  | _ => none
theorem qg_tup {es : List Expr} {k : Nat} {gs : List D → St η → Option (St η)} {n : Nat} (hc : X.calm = true) (h : QGs X f Θ es gs Θ1) (hn : (assignEach es X.env).length = n := by rfl) (hst : (assignEach es X.env).findIdx? (·.1) = none := by rfl) : QG X f Θ (.Tuple es k pos) (gTup n gs) Θ1 :=
  ⟨PG.imp (pg_tup hc h.r hn hst) fun v σ H Q ⟨w, s, φ, d, s', e, o, r, hg, h⟩ => by
    subst e
    cases d with
    | tup ds =>
      obtain ⟨a, vs, rfl, ht, rv, _⟩ := r
      unfold gTup at hg
      by_cases z : ds.length = n
      · simp only [z, if_true] at hg
        exact ⟨a, vs, rfl, ht, by rw [rv.len]; exact z, w, s, φ, ds, s', rfl, o, rv, hg, h⟩
      · simp only [if_neg z] at hg; cases hg
    | _ => cases hg⟩
/-- .. = a list -/
def gTupL (n : Nat) (gs : List D → St η → Option (St η)) : GR η := fun d s => match d with
  | .fl ds => if ds.length = n then gs ds s else none
  | _ => none
theorem qg_tupL {es : List Expr} {k : Nat} {gs : List D → St η → Option (St η)} {n : Nat} (hc : X.calm = true) (h : QGs X f Θ es gs Θ1) (hn : (assignEach es X.env).length = n := by rfl) (hst : (assignEach es X.env).findIdx? (·.1) = none := by rfl) : QG X f Θ (.Tuple es k pos) (gTupL n gs) Θ1 :=
  ⟨PG.imp (pg_lst hc h.r hn hst) fun v σ H Q ⟨w, s, φ, d, s', e, o, r, hg, h⟩ => by
    subst e
    cases d with
    | fl ds =>
      obtain ⟨a, vs, rfl, ht, rv⟩ := r
      unfold gTupL at hg
      by_cases z : ds.length = n
      · simp only [z, if_true] at hg
        exact ⟨a, vs, rfl, ht.l, by rw [rv.len]; exact z, w, s, φ, ds, s', rfl, o, rv, hg, h⟩
      · simp only [if_neg z] at hg; cases hg
    | _ => cases hg⟩
/-- target = a value by itself -/
def fAsgG (t : ER η) (g : GR η) : SR η := fun s => (t s).bind fun d s1 => match g d s1 with
  | some s2 => .ok .nx s2
  | none => .stuck
theorem qs_asg {tg : Expr} {g : GR η} {t : ER η} (he : QE X f W Θ e t .p Θ1 C.x) (hg : QG X f Θ1 tg g Θ2) (hs : swapsWithSole [tg] e pos.line X.env = pure false := by rfl) (hw : swappedStores [tg] e X.env = pure none := by rfl)
    (h1 : (assignEach [tg] X.env).map (·.2) = [assign tg X.env] := by rfl) : QS X f W C Θ (.Assign [tg] e pos) (fAsgG t g) Θ2 :=
  ⟨PS.imp (ps_asg he.r hg.r hs hw h1) fun D σ H ⟨w, s, φ, e, o, h⟩ => by
    subst e
    refine ⟨w, s, φ, rfl, o, (Ef.to (σ := σ) h).mono ?_⟩
    rintro v H1 ⟨w1, d, s1, φ1, rfl, g1, o1, r1, h⟩
    cases hh : g d s1 with
    | none => simp only [hh] at h; exact h.elim
    | some s2 =>
      simp only [hh] at h
      exact ⟨w1, s1, φ1, d, s2, rfl, o1, r1.rd, hh, fun σ' φ' o' => h σ' w1 φ' (.refl w1) o'⟩⟩
/-- name = e -/
def fSet (i : Nat) (t : ER η) : SR η := fun s => (t s).bind fun d s1 => .ok .nx (s1.set i d)
theorem qs_set {i : Nat} {x : Str} {pos' : Pos} {t : ER η} {τ : Tag} (hN : X.N.Nodup) (he : QE X f W Θ e t (.own τ) Θ1 C.x) (hi : X.N[i]? = some x := by rfl) (hx : Loc X.env.scope x := by first | exact Or.inl rfl | exact Or.inr rfl) (hs : swapsWith e (some (.Name x pos')) pos.line X.env = pure false := by rfl)
    (hf : X.fn x = true ∨ X.env.scope.names.lookup x = some .local := by first | exact .inl rfl | exact .inr rfl) : QS X f W C Θ (.Assign [.Name x pos'] e pos) (fSet i t) (Θ1.set i (.own τ)) :=
  ⟨PS.imp (ps_set hN hi hx he.r hs hf) fun D σ H ⟨w, s, φ, e, o, h⟩ => by
    subst e
    refine ⟨w, s, φ, rfl, o, (Ef.to (σ := σ) h).mono ?_⟩
    rintro v H1 ⟨w1, d, s1, φ1, rfl, g1, o1, ⟨A, r1, nd, ha⟩, h⟩
    exact h _ w1 _ (.refl w1) (o1.set i r1 nd ha)⟩

/-! ### while -/
/-- slots that are forgotten -/
def wipeL (l : List (Option D)) : List Nat → List (Option D)
  | [] => l
  | i :: is => (wipeL l is).set i none
abbrev St.wipe (s : St η) (ws : List Nat) : St η := ⟨wipeL s.s ws, s.h⟩
def noAt (Θ : Th) (ws : List Nat) : Bool := ws.all fun i => match Θ[i]? with
  | some .no => true
  | _ => false
theorem wipeL_len {l : List (Option D)} : ∀ ws : List Nat, (wipeL l ws).length = l.length
  | [] => rfl
  | i :: is => by unfold wipeL; rw [List.length_set, wipeL_len is]
theorem wipeL_get {l : List (Option D)} {j : Nat} : ∀ {ws : List Nat}, j ∉ ws → (wipeL l ws)[j]? = l[j]?
  | [], _ => rfl
  | i :: is, h => by
    unfold wipeL
    rw [List.getElem?_set_ne (fun (z : i = j) => h (by rw [z]; exact List.mem_cons_self))]
    exact wipeL_get fun z => h (List.mem_cons_of_mem _ z)
theorem OwnS.wipe (h : OwnS K f w Θ σ s φ) {ws : List Nat} (hn : noAt Θ ws = true) : OwnS K f w Θ σ (s.wipe ws) φ := by
  have key : ∀ {i : Nat} {κ : Sl}, Θ[i]? = some κ → κ ≠ .no → i ∉ ws := fun {i κ} e n hi => by
    have := List.all_eq_true.mp hn i hi
    rw [e] at this
    cases κ <;> first | exact n rfl | cases this
  exact { h with
    len2 := (wipeL_len ws).trans h.len2
    own := fun i t e => by obtain ⟨d, v, h1, h2, h3⟩ := h.own i t e; exact ⟨d, v, (wipeL_get (key e fun z => nomatch z)).trans h1, h2, h3⟩
    bor := fun i t e => by obtain ⟨A, h1, h2, h3⟩ := h.bor i t e; exact ⟨A, (wipeL_get (key e fun z => nomatch z)).trans h1, h2, h3⟩
    lks := fun i t e => by obtain ⟨kvs, a, o, u, vs, h1, h2, h3, h4, h5⟩ := h.lks i t e; exact ⟨kvs, a, o, u, vs, h1, h2, (wipeL_get (key e fun z => nomatch z)).trans h3, h4, h5⟩
    io := fun i t e => by obtain ⟨d, h1, h2, h3⟩ := h.io i t e; exact ⟨d, (wipeL_get (key e fun z => nomatch z)).trans h1, h2, h3⟩ }
def whileF (c : St η → Eff η Bool) (tb : SR η) (ws : List Nat) : Nat → SR η
  | 0, _ => .stuck
  | n + 1, s => (c s).bind fun b s1 => if b = true then (tb s1).bind fun fl s2 => match fl with
      | .nx => whileF c tb ws n (s2.wipe ws)
      | .ct => whileF c tb ws n (s2.wipe ws)
      | .bk => .ok .nx (s2.wipe ws)
      | .rt d => .ok (.rt d) s2
    else .ok .nx s1
def fWhile (n : Nat) (c : St η → Eff η Bool) (tb : SR η) (ws : List Nat) : SR η := whileF c tb ws n
theorem qs_while {n : Nat} {ws : List Nat} {c : Expr} {body : List Stmt} {tc : St η → Eff η Bool} {tb : SR η} (hp : PassesOwn (model X.prog X.w) X.A X.env X.xe) (hc : QT X f W Θ c tc Θ C.x) (hb : QSs X f W { C with l := Θ } Θ body tb Θ1) (l : Th.le Θ1 Θ = true := by rfl) (hn : noAt Θ ws = true := by rfl) :
    QS X f W C Θ (.While c body [] pos) (fWhile n tc tb ws) Θ :=
  ⟨PS.imp (ps_while hp hc.r hb.r) fun D σ H ⟨w, s, φ, e, o, h⟩ => by
    subst e
    refine ⟨fun m σ' H' => ∃ w' s' φ', w'.H = H' ∧ Gr f w w' ∧ OwnS X.K f w' Θ σ' s' φ' ∧ Sf X.K X.mg f W w' Θ C (whileF tc tb ws m s') D, ⟨n, w, s, φ, rfl, .refl w, o, h⟩, ?_⟩
    rintro m σ1 H1 ⟨w1, s1, φ1, rfl, g1, o1, h1⟩
    cases m with
    | zero => exact h1.elim
    | succ m =>
      refine ⟨w1, s1, φ1, rfl, o1, (Ef.to (σ := σ1) h1).mono ?_⟩
      rintro b H2 ⟨w2, b', s2, φ2, rfl, g2, o2, r2, h2⟩
      cases r2
      cases b with
      | false => exact h2 σ1 w2 φ2 (.refl w2) o2
      | true =>
        refine ⟨fun σ' H' => ∃ w' s' φ', w'.H = H' ∧ Gr f w w' ∧ OwnS X.K f w' Θ σ' s' φ' ∧ Sf X.K X.mg f W w' Θ C (whileF tc tb ws m s') D, fun σ' H' h => ⟨m, Nat.lt_succ_self m, h⟩, ?_⟩
        refine ⟨w2, s2, φ2, rfl, o2, ?_⟩
        have h2 : Sf X.K X.mg f W w2 Θ C ((tb s2).bind fun fl s2 => match fl with
            | .nx => whileF tc tb ws m (s2.wipe ws)
            | .ct => whileF tc tb ws m (s2.wipe ws)
            | .bk => .ok .nx (s2.wipe ws)
            | .rt d => .ok (.rt d) s2) D := h2
        cases hb' : tb s2 with
        | stuck => rw [hb'] at h2; exact h2
        | exc c s3 => rw [hb'] at h2; exact h2
        | ok fl s3 =>
          rw [hb'] at h2
          cases fl with
          | nx => exact fun σ' w3 φ3 g3 o3 => ⟨w3, _, φ3, rfl, (g1.trans g2).trans g3, (o3.le l).wipe hn, Sf.gr (η := η) h2 g3⟩
          | ct => exact fun σ' w3 φ3 g3 o3 => ⟨w3, _, φ3, rfl, (g1.trans g2).trans g3, o3.wipe hn, Sf.gr (η := η) h2 g3⟩
          | bk => exact fun σ' w3 φ3 g3 o3 => h2 σ' w3 φ3 g3 (o3.wipe hn)
          | rt d => exact h2⟩

/-! ### for -/
def ItOk (K : PySem.W.Frag) (J : It) (items : List D) (w : Wd) : Prop := ∀ (i : Nat) (g : Addr → Prop) w1, Gr g w w1 →
  (i = items.length → J.stop i w1.H) ∧ ∀ d, items[i]? = some d → J.go i w1.H ∧ ∀ x H2, J.yld i w1.H x H2 → ∃ w2, w2.H = H2 ∧ Gr no w1 w2 ∧ RD K w2 d x
/-- what is walked -/
structure QI (X : Cx) (f : Fm) (W : WX) (Θ : Th) (tg iter : Expr) (t : St η → Eff η (List D)) (Θ' Θx : Th) : Prop where
  r : PI X tg iter (lE X.K X.mg f W Θ Θ' Θx (fun w _ items J => ItOk X.K J items w) t)
def forF (g : GR η) (tb : SR η) (ws : List Nat) : List D → SR η
  | [], s => .ok .nx s
  | x :: xs, s => match g x s with
    | none => .stuck
    | some s1 => (tb s1).bind fun fl s2 => match fl with
      | .nx => forF g tb ws xs (s2.wipe ws)
      | .ct => forF g tb ws xs (s2.wipe ws)
      | .bk => .ok .nx (s2.wipe ws)
      | .rt d => .ok (.rt d) s2
def fFor (ti : St η → Eff η (List D)) (g : GR η) (tb : SR η) (ws : List Nat) : SR η := fun s => (ti s).bind fun items s1 => forF g tb ws items s1
theorem qs_for {ws : List Nat} {tg iter : Expr} {body : List Stmt} {ti : St η → Eff η (List D)} {g : GR η} {tb : SR η} (hp : PassesOwn (model X.prog X.w) X.A X.env X.xe) (hc : X.calm = true) (hi : QI X f W Θ tg iter ti Θ1 C.x) (hg : QG X f Θ1 tg g Θ2) (hb : QSs X f W { C with l := Θ1 } Θ2 body tb Θ3) (l : Th.le Θ3 Θ1 = true := by rfl) (hn : noAt Θ1 ws = true := by rfl)
    (hs : ∀ x, foldedSetIterable iter X.env x = pure x := by intro _; rfl) : QS X f W C Θ (.For tg iter body [] pos) (fFor ti g tb ws) Θ1 :=
  ⟨PS.imp (ps_for hp hc hi.r hg.r hb.r hs) fun D σ H ⟨w, s, φ, e, o, h⟩ => by
    subst e
    refine ⟨w, s, φ, rfl, o, (Ef.to (σ := σ) h).mono ?_⟩
    rintro J H1 ⟨w1, items, s1, φ1, rfl, g1, o1, iok, h1⟩
    refine ⟨fun i m σ' H' => ∃ w' s' φ', w'.H = H' ∧ Gr f w1 w' ∧ OwnS X.K f w' Θ1 σ' s' φ' ∧ i ≤ items.length ∧ m = items.length - i ∧ Sf X.K X.mg f W w' Θ1 C (forF g tb ws (items.drop i) s') D,
      ⟨items.length, w1, s1, φ1, rfl, .refl w1, o1, Nat.zero_le _, rfl, by simpa using h1⟩, ?_⟩
    rintro i m σ2 H2 ⟨w2, s2, φ2, rfl, g2, o2, hi, rfl, h2⟩
    obtain ⟨k1, k2⟩ := iok i f w2 g2
    by_cases hlt : i < items.length
    · rw [List.drop_eq_getElem_cons hlt] at h2
      obtain ⟨go, yl⟩ := k2 _ (List.getElem?_eq_getElem hlt)
      refine .inr ⟨go, fun σ' H' => ∃ w' s' φ', w'.H = H' ∧ Gr f w1 w' ∧ OwnS X.K f w' Θ1 σ' s' φ' ∧ Sf X.K X.mg f W w' Θ1 C (forF g tb ws (items.drop (i + 1)) s') D, fun σ' H' ⟨w', s', φ', x1, x2, x3, x4⟩ =>
        ⟨items.length - (i + 1), by omega, w', s', φ', x1, x2, x3, hlt, rfl, x4⟩, fun x H3 y => ?_⟩
      obtain ⟨w3, rfl, g3, r3⟩ := yl x H3 y
      unfold forF at h2
      cases hgx : g items[i] s2 with
      | none => simp only [hgx] at h2; exact h2.elim
      | some s3 =>
        simp only [hgx] at h2
        refine ⟨w3, s2, φ2, items[i], s3, rfl, o2.gr0 g3, r3, hgx, fun σ4 φ4 o4 => ⟨w3, s3, φ4, rfl, o4, ?_⟩⟩
        have h3 := h2.gr (g3.any (f := f))
        cases hb' : tb s3 with
        | stuck => rw [hb'] at h3; exact h3
        | exc c s4 => rw [hb'] at h3; exact h3
        | ok fl s4 =>
          rw [hb'] at h3
          cases fl with
          | nx => exact fun σ' w5 φ5 g5 o5 => ⟨w5, _, φ5, rfl, (g2.trans g3.any).trans g5, (o5.le l).wipe hn, Sf.gr (η := η) h3 g5⟩
          | ct => exact fun σ' w5 φ5 g5 o5 => ⟨w5, _, φ5, rfl, (g2.trans g3.any).trans g5, o5.wipe hn, Sf.gr (η := η) h3 g5⟩
          | bk => exact fun σ' w5 φ5 g5 o5 => h3 σ' w5 φ5 g5 (o5.wipe hn)
          | rt d => exact h3
    · have hl : i = items.length := by omega
      subst hl
      rw [List.drop_length] at h2
      exact .inl ⟨k1 rfl, h2 σ2 w2 φ2 (.refl w2) o2⟩⟩
end
end FL

/-! FG: a def keeps its promise; calls that write arguments. -/
namespace FL
open PySem PySem.Spec PyProof.Rows L2
variable [TabT]
/-- what the written parameters hold -/
def outsS : List Sl → List (Option D) → List D
  | [], _ => []
  | .io _ :: κs, x :: xs => x.getD .non :: outsS κs xs
  | _ :: κs, _ :: xs => outsS κs xs
  | _ :: _, [] => []
def startS (n : Nat) (ds : List D) : St Unit := ⟨ds.map some ++ List.replicate (n - ds.length) none, ()⟩
def startT (n : Nat) (ms : List Sl) : Th := ms ++ List.replicate (n - ms.length) .no
def outK : Sl → Sl
  | .io t => .io t
  | _ => .no
def outT (n : Nat) (ms : List Sl) : Th := ms.map outK ++ List.replicate (n - ms.length) .no
/-- a def's meaning by its body's -/
def runF (n : Nat) (ms : List Sl) (τ : Tag) (t : SR Unit) : FR := fun ds => match t (startS n ds) with
  | .ok (.rt d) s => .ok d (outsS ms s.s)
  | .ok .nx s => if τ.beq .p = true then .ok .non (outsS ms s.s) else .stuck
  | .ok _ _ => .stuck
  | .exc c s => .exc c (outsS ms s.s)
  | .stuck => .stuck
section
variable {K : PySem.W.Frag} {mg : Str → Option Value} {w w' : Wd}
theorem Args.fp {g : Addr → Prop} : ∀ {ms : List Sl} {ds : List D} {vs : List V} {A : List Addr}, Args K w g ms ds vs A → ∃ L : List (List Addr), L.flatten = A ∧ L.length = ms.length ∧
    (∀ (i : Nat) t, ms[i]? = some (.own t) → ∃ d v, ds[i]? = some d ∧ vs[i]? = some v ∧ Rp true K w t d v (L.getD i [])) ∧
    (∀ (i : Nat) t, ms[i]? = some (.io t) → ∃ d v, ds[i]? = some d ∧ vs[i]? = some v ∧ Rp true K w t d v (L.getD i [])) ∧
    (∀ (i : Nat) t, ms[i]? = some (.bor t) → ∃ d v B, ds[i]? = some d ∧ vs[i]? = some v ∧ Rp false K w t d v B ∧ ∀ b ∈ B, ¬ g b)
  | [], _, _, _, ⟨h1, h2, h3⟩ => ⟨[], by rw [h3]; rfl, rfl, fun _ _ e => by simp at e, fun _ _ e => by simp at e, fun _ _ e => by simp at e⟩
  | .own t :: ms, _, _, _, ⟨d, es, v, r, A1, A2, h1, h2, h3, h4, h5⟩ => by
    obtain ⟨L, l1, l2, l3, l4, l5⟩ := Args.fp h5
    subst h1 h2
    refine ⟨A1 :: L, by rw [h3, ← l1]; rfl, by rw [List.length_cons, List.length_cons, l2], fun i u e => ?_, fun i u e => ?_, fun i u e => ?_⟩ <;> cases i with
    | zero => first | (cases e; exact ⟨d, v, rfl, rfl, h4⟩) | cases e
    | succ i => first | exact l3 i u e | exact l4 i u e | exact l5 i u e
  | .io t :: ms, _, _, _, ⟨d, es, v, r, A1, A2, h1, h2, h3, h4, h5⟩ => by
    obtain ⟨L, l1, l2, l3, l4, l5⟩ := Args.fp h5
    subst h1 h2
    refine ⟨A1 :: L, by rw [h3, ← l1]; rfl, by rw [List.length_cons, List.length_cons, l2], fun i u e => ?_, fun i u e => ?_, fun i u e => ?_⟩ <;> cases i with
    | zero => first | (cases e; exact ⟨d, v, rfl, rfl, h4⟩) | cases e
    | succ i => first | exact l3 i u e | exact l4 i u e | exact l5 i u e
  | .bor t :: ms, _, _, _, ⟨d, es, v, r, B, h1, h2, h4, h6, h5⟩ => by
    obtain ⟨L, l1, l2, l3, l4, l5⟩ := Args.fp h5
    subst h1 h2
    refine ⟨[] :: L, by rw [← l1]; rfl, by rw [List.length_cons, List.length_cons, l2], fun i u e => ?_, fun i u e => ?_, fun i u e => ?_⟩ <;> cases i with
    | zero => first | (cases e; exact ⟨d, v, B, rfl, rfl, h4, h6⟩) | cases e
    | succ i => first | exact l3 i u e | exact l4 i u e | exact l5 i u e
  | .no :: _, _, _, _, h => h.elim
  | .lk _ :: _, _, _, _, h => h.elim
theorem Args.nolk {g : Addr → Prop} : ∀ {ms : List Sl} {ds : List D} {vs : List V} {A : List Addr} {i : Nat} {t : Bool}, Args K w g ms ds vs A → ms[i]? = some (.lk t) → False ∧ False
  | [], _, _, _, _, _, _, e => by simp at e
  | .own t :: ms, _, _, _, 0, _, _, e => by cases e
  | .io t :: ms, _, _, _, 0, _, _, e => by cases e
  | .bor t :: ms, _, _, _, 0, _, _, e => by cases e
  | .own t :: ms, _, _, _, i + 1, _, ⟨d, es, v, r, A1, A2, h1, h2, h3, h4, h5⟩, e => Args.nolk (i := i) h5 e
  | .io t :: ms, _, _, _, i + 1, _, ⟨d, es, v, r, A1, A2, h1, h2, h3, h4, h5⟩, e => Args.nolk (i := i) h5 e
  | .bor t :: ms, _, _, _, i + 1, _, ⟨d, es, v, r, B, h1, h2, h4, h6, h5⟩, e => Args.nolk (i := i) h5 e
  | .no :: _, _, _, _, _, _, h, _ => h.elim
  | .lk _ :: _, _, _, _, _, _, h, _ => h.elim
theorem flat_mem {α : Type} {L : List (List α)} {i : Nat} {a : α} (h : a ∈ L.getD i []) : a ∈ L.flatten := by
  rw [List.getD_eq_getElem?_getD] at h
  cases e : L[i]? with
  | none => rw [e] at h; cases h
  | some l => rw [e] at h; exact List.mem_flatten.mpr ⟨l, List.mem_of_getElem? e, h⟩
theorem flat_nd {α : Type} : ∀ {L : List (List α)}, L.flatten.Nodup → (∀ i, (L.getD i []).Nodup) ∧ ∀ i j a, a ∈ L.getD i [] → a ∈ L.getD j [] → i = j
  | [], _ => ⟨fun _ => by simp, fun _ _ _ h => by simp at h⟩
  | l :: L, h => by
    rw [List.flatten_cons] at h
    obtain ⟨h1, h2, h3⟩ := List.nodup_append.mp h
    obtain ⟨k1, k2⟩ := flat_nd h2
    refine ⟨fun i => ?_, fun i j a hi hj => ?_⟩
    · cases i with
      | zero => exact h1
      | succ i => exact k1 i
    · cases i with
      | zero => cases j with
        | zero => rfl
        | succ j => exact absurd rfl (h3 a hi a (flat_mem (i := j) hj))
      | succ i => cases j with
        | zero => exact absurd rfl (h3 a hj a (flat_mem (i := i) hi))
        | succ j => rw [k2 i j a hi hj]
/-- the footprints of written parameters -/
def ioFp (φ : Fp) : List Sl → Nat → List Addr
  | [], _ => []
  | .io _ :: κs, j => φ.fp j ++ ioFp φ κs (j + 1)
  | _ :: κs, j => ioFp φ κs (j + 1)
theorem ioFp_mem {φ : Fp} : ∀ {ms : List Sl} {j : Nat} {a : Addr}, a ∈ ioFp φ ms j → ∃ i, j ≤ i ∧ a ∈ φ.fp i
  | [], _, _, h => by cases h
  | .io _ :: ms, j, a, h => by
    rcases List.mem_append.mp (show a ∈ φ.fp j ++ ioFp φ ms (j + 1) from h) with h | h
    · exact ⟨j, Nat.le_refl _, h⟩
    · obtain ⟨i, h1, h2⟩ := ioFp_mem h; exact ⟨i, by omega, h2⟩
  | .no :: ms, j, a, h => by obtain ⟨i, h1, h2⟩ := ioFp_mem (ms := ms) (j := j + 1) h; exact ⟨i, by omega, h2⟩
  | .own _ :: ms, j, a, h => by obtain ⟨i, h1, h2⟩ := ioFp_mem (ms := ms) (j := j + 1) h; exact ⟨i, by omega, h2⟩
  | .bor _ :: ms, j, a, h => by obtain ⟨i, h1, h2⟩ := ioFp_mem (ms := ms) (j := j + 1) h; exact ⟨i, by omega, h2⟩
  | .lk _ :: ms, j, a, h => by obtain ⟨i, h1, h2⟩ := ioFp_mem (ms := ms) (j := j + 1) h; exact ⟨i, by omega, h2⟩
theorem ioFp_nd {φ : Fp} (nd : ∀ i, (φ.fp i).Nodup) (sep : ∀ i j a, a ∈ φ.fp i → a ∈ φ.fp j → i = j) : ∀ (ms : List Sl) (j : Nat), (ioFp φ ms j).Nodup
  | [], _ => List.nodup_nil
  | .io _ :: ms, j => by
    refine List.nodup_append.mpr ⟨nd j, ioFp_nd nd sep ms (j + 1), fun a ha b hb e => ?_⟩
    subst e
    obtain ⟨i, h1, h2⟩ := ioFp_mem hb
    have := sep j i a ha h2
    omega
  | .no :: ms, j => ioFp_nd nd sep ms (j + 1)
  | .own _ :: ms, j => ioFp_nd nd sep ms (j + 1)
  | .bor _ :: ms, j => ioFp_nd nd sep ms (j + 1)
  | .lk _ :: ms, j => ioFp_nd nd sep ms (j + 1)
theorem outs_of {φ : Fp} {π : Nat → V} {s : List (Option D)} : ∀ (ms : List Sl) (vs : List V) (j : Nat), vs.length = ms.length → j + ms.length ≤ s.length → (∀ i, vs[i]?.getD .non = π (j + i)) →
    (∀ (i : Nat) t, ms[i]? = some (.io t) → ∃ d, s[j + i]? = some (some d) ∧ Rp true K w t d (π (j + i)) (φ.fp (j + i))) → Outs K w ms vs (outsS ms (s.drop j)) (ioFp φ ms j)
  | [], vs, j, _, _, _, _ => ⟨rfl, rfl⟩
  | κ :: ms, [], j, h, _, _, _ => by cases h
  | κ :: ms, v :: vs, j, hl, hj, hv, h => by
    have hj' : j + (ms.length + 1) ≤ s.length := hj
    have hd : s.drop j = s[j]'(by omega) :: s.drop (j + 1) := List.drop_eq_getElem_cons (by omega)
    have ih := outs_of (φ := φ) (π := π) (s := s) ms vs (j + 1) (by simpa using hl) (by omega) (fun i => by have := hv (i + 1); rw [show j + 1 + i = j + (i + 1) by omega]; exact this) (fun i t e => by
      obtain ⟨d, h1, h2⟩ := h (i + 1) t e
      rw [show j + 1 + i = j + (i + 1) by omega]
      exact ⟨d, h1, h2⟩)
    rw [hd]
    cases κ with
    | io t =>
      obtain ⟨d, h1, h2⟩ := h 0 t rfl
      have e : s[j]'(by omega) = some d := by
        have : s[j]? = some (some d) := h1
        rw [List.getElem?_eq_getElem (by omega)] at this
        exact Option.some.inj this
      have hv0 : v = π j := hv 0
      exact ⟨d, outsS ms (s.drop (j + 1)), φ.fp j, _, by rw [e]; rfl, rfl, by rw [hv0]; exact h2, ih⟩
    | no => exact ih
    | own t => exact ih
    | bor t => exact ih
    | lk t => exact ih
/-- where a def's body begins -/
theorem OwnS.begin {ms : List Sl} {ds : List D} {vs : List V} {A : List Addr} {N : List Str} (lkd : (∀ a, w.lk a → ∃ o u, w.H a = some (.frz o u)) ∧ TbOk w.H) (h : Args K w (· ∈ A) ms ds vs A) (nd : A.Nodup) (hn : ms.length ≤ N.length) :
    ∃ φ, OwnS (η := Unit) K ⟨fun a => a ∈ A ∨ w.H a = none, fun a => a ∉ A ∧ w.H a ≠ none, fun i => vs[i]?.getD .non, fun i => ds[i]?.getD .non⟩ w (startT N.length ms) (start N vs) (startS N.length ds) φ := by
  obtain ⟨L, l1, l2, l3, l4, l5⟩ := h.fp
  obtain ⟨hv, hd⟩ := h.len
  obtain ⟨nd1, nd2⟩ := flat_nd (L := L) (by rw [l1]; exact nd)
  have al := h.al
  have get : ∀ {i : Nat} {κ : Sl}, (startT N.length ms)[i]? = some κ → κ ≠ .no → ms[i]? = some κ := fun {i κ} e n => by
    unfold startT at e
    by_cases c : i < ms.length
    · rw [List.getElem?_append_left c] at e; exact e
    · rw [List.getElem?_append_right (by omega), List.getElem?_replicate] at e
      split at e
      · cases e; exact absurd rfl n
      · cases e
  have gv : ∀ {i : Nat} {v : V}, vs[i]? = some v → (start N vs)[i]? = some (some v) := fun {i v} e => by
    have : i < vs.length := (List.getElem?_eq_some_iff.mp e).1
    unfold L2.start
    rw [List.getElem?_append_left (by simpa using this), List.getElem?_map, e]
    rfl
  have gd : ∀ {i : Nat} {d : D}, ds[i]? = some d → (startS N.length ds).s[i]? = some (some d) := fun {i d} e => by
    have : i < ds.length := (List.getElem?_eq_some_iff.mp e).1
    unfold startS
    dsimp only
    rw [List.getElem?_append_left (by simpa using this), List.getElem?_map, e]
    rfl
  refine ⟨⟨fun i => L.getD i [], fun _ => False⟩, ?_⟩
  exact {
    len1 := by unfold L2.start startT; simp [hv]
    len2 := by unfold startS startT; simp [hd]
    own := fun i t e => by obtain ⟨d, v, h1, h2, h3⟩ := l3 i t (get e fun z => nomatch z); exact ⟨d, v, gd h1, gv h2, h3⟩
    bor := fun i t e => by
      obtain ⟨d, v, B, h1, h2, h3, h4⟩ := l5 i t (get e fun z => nomatch z)
      exact ⟨B, by dsimp only; rw [h1]; exact gd h1, by dsimp only; rw [h2]; exact gv h2, by dsimp only; rw [h1, h2]; exact h3, fun a ha => ⟨h4 a ha, h3.al a ha⟩⟩
    lks := fun i t e => by
      have e := get e fun z => nomatch z
      exact (Args.nolk h e).1.elim
    bf := fun a hb z => z.elim hb.1 hb.2
    io := fun i t e => by obtain ⟨d, v, h1, h2, h3⟩ := l4 i t (get e fun z => nomatch z); exact ⟨d, gd h1, by dsimp only; rw [h2]; exact gv h2, by dsimp only; rw [h2]; exact h3⟩
    nd := nd1
    sep := nd2
    inF := fun i a ha => .inl (l1 ▸ flat_mem ha)
    new := fun a ha => .inr ha
    lkd := lkd.1
    tab := lkd.2
    al := fun a ha => by
      rcases ha with ha | ⟨i, ha⟩
      · exact ha.elim
      · exact al a (l1 ▸ flat_mem ha)
    heap := trivial
    hF := fun _ z => z.elim
    hsep := fun _ _ _ z => z }
/-- what is known of the written parameters behind a body -/
theorem OwnS.outs {f : Fm} {ms : List Sl} {vs : List V} {N : List Str} {σ : L2.St} {s : St Unit} {φ : Fp} (h : OwnS K f w (outT N.length ms) σ s φ) (hv : vs.length = ms.length) (hn : ms.length ≤ N.length) (hπ : f.π = fun i => vs[i]?.getD .non) :
    Outs K w ms vs (outsS ms s.s) (ioFp φ ms 0) := by
  have hs : s.s.length = N.length := by rw [h.len2]; unfold outT; simp; omega
  have := outs_of (K := K) (w := w) (φ := φ) (π := f.π) (s := s.s) ms vs 0 hv (by omega) (fun i => by rw [hπ, Nat.zero_add]) (fun i t e => by
    rw [Nat.zero_add]
    have hi : i < ms.length := (List.getElem?_eq_some_iff.mp e).1
    obtain ⟨d, h1, _, h3⟩ := h.io i t (by unfold outT; rw [List.getElem?_append_left (by simpa using hi), List.getElem?_map, e]; rfl)
    exact ⟨d, h1, h3⟩)
  rwa [List.drop_zero] at this
end
section
variable {P : Program} {w : World} {K : PySem.W.Frag} {mg : Str → Option Value} {base : Heap}
abbrev scOf (n : Nat) (ms : List Sl) (τ : Tag) : SC := ⟨outT n ms, outT n ms, outT n ms, τ⟩
/-- from a body's reading to the def's promise -/
theorem body_ok {rz : Bool} {N : List Str} {ms : List Sl} {τ : Tag} {t : SR Unit} {Θe : Th} {vs : List V} {H : Hp} {Q : VK} {E : XK} {W : WX} (hW : rz = true → W = fun cls d _ H => E cls d H) (hn : ms.length ≤ N.length) (he : Th.le Θe (outT N.length ms) = true)
    (h : CF K mg rz ms τ (runF N.length ms τ t) vs H Q E) : ∃ f, ((rz = false → W = fun _ _ _ _ => False) → lS K mg f W (startT N.length ms) Θe (scOf N.length ms τ) t { nx := fun _ H' => Q .non H', rt := Q } (start N vs) H) := by
  obtain ⟨wd, ds, A, rfl, lkd, ha, nd, h⟩ := h
  obtain ⟨φ, o⟩ := OwnS.begin (N := N) lkd ha nd hn
  refine ⟨_, fun hW0 => ⟨wd, startS N.length ds, φ, rfl, o, ?_⟩⟩
  unfold runF at h
  have hl := ha.len.1
  have gg : ∀ {w' : Wd}, Gr (fun a => a ∈ A ∨ wd.H a = none) wd w' → Gr (· ∈ A) wd w' := fun {w'} g => ⟨g.per, fun a o n t e => g.keep a o (fun z => z.elim n fun z => by rw [z] at e; cases e) t e, g.ob, g.lk, fun a n z => Classical.byContradiction fun c => c (g.dm a (fun y => y.elim n c) z), g.tab⟩
  cases ht : t (startS N.length ds) with
  | stuck => rw [ht] at h; exact h
  | exc c s =>
    rw [ht] at h
    obtain ⟨e, h⟩ := h
    rw [hW e]
    intro C σ' w' φ' hc g o'
    exact h C w' _ hc (gg g) (o'.outs hl hn rfl) (ioFp_nd o'.nd o'.sep ms 0) fun a ha => by obtain ⟨i, _, hi⟩ := ioFp_mem ha; exact o'.inF i a hi
  | ok fl s =>
    rw [ht] at h
    cases fl with
    | nx =>
      dsimp only at h
      by_cases c : τ.beq .p = true
      · rw [if_pos c] at h
        have c := Tag.eq_of c
        subst c
        intro σ' w' φ' g o'
        have o' := o'.le he
        exact h .non w' [] _ (gg g) (o'.outs hl hn rfl) ⟨rfl, rfl⟩ (by simpa using ioFp_nd o'.nd o'.sep ms 0) fun a ha => by obtain ⟨i, _, hi⟩ := ioFp_mem (show a ∈ ioFp φ' ms 0 from by simpa using ha); exact o'.inF i a hi
      · rw [if_neg c] at h; exact h.elim
    | rt d =>
      intro v σ' w' φ' g o' ⟨B, r, ndB, hB⟩
      refine h v w' B _ (gg g) (o'.outs hl hn rfl) r (List.nodup_append.mpr ⟨ndB, ioFp_nd o'.nd o'.sep ms 0, fun a ha b hb e => ?_⟩) fun a ha => ?_
      · subst e
        obtain ⟨i, _, hi⟩ := ioFp_mem hb
        exact (hB a ha).2 (.inr ⟨i, hi⟩)
      · rcases List.mem_append.mp ha with ha | ha
        · exact (hB a ha).1
        · obtain ⟨i, _, hi⟩ := ioFp_mem ha; exact o'.inF i a hi
    | bk => exact h.elim
    | ct => exact h.elim
/-- THE RULE for a def that raises nothing -/
theorem okF {x qual : Str} {st : Stmt} {fa : Addr} {fd : FuncData} {N ps : List Str} {k : Nat} {ms : List Sl} {τ : Tag} {t : SR Unit} {Θe : Th} (F : L2.Fun K x qual st fa fd) (S : FnScope N ps (defScope st)) (hl : ms.length = ps.length) (hn : ms.length ≤ N.length) (he : Th.le Θe (outT N.length ms) = true)
    (hbody : ∀ (f : Fm) (cdv : Value) (A : Around) (outer : List Env) (s : Shared) (H : Hp) (E : XK), Room k (A.deeper (envOfC qual (defScope st) s.heap.objs.size fa cdv)) →
      QSs (cxOf CX0 P w K mg base N qual (defScope st) fa cdv A outer s H E).nox f (fun _ _ _ _ => False) (scOf N.length ms τ) (startT N.length ms) (defBody st) t Θe) : FnOk P w K mg base CX0 (k + 1) fa fd ps (CF K mg false ms τ (runF N.length ms τ t)) := by
  refine F.ok S (fun vs H Q E h => ?_) (fun cdv A outer s H vs Q E hr h => ?_)
  · obtain ⟨_, _, _, _, _, ha, _⟩ := h
    rw [ha.len.1, hl]
  · obtain ⟨f, hf⟩ := body_ok (rz := false) (E := E) (W := fun _ _ _ _ => False) (fun z => Bool.noConfusion z) hn he h
    exact ⟨_, (hbody f cdv A outer s H E hr).r, hf fun _ => rfl⟩
/-- .. that may raise -/
theorem okFX {x qual : Str} {st : Stmt} {fa : Addr} {fd : FuncData} {N ps : List Str} {k : Nat} {ms : List Sl} {τ : Tag} {t : SR Unit} {Θe : Th} (F : L2.Fun K x qual st fa fd) (S : FnScope N ps (defScope st)) (hl : ms.length = ps.length) (hn : ms.length ≤ N.length) (he : Th.le Θe (outT N.length ms) = true)
    (hbody : ∀ (f : Fm) (cdv : Value) (A : Around) (outer : List Env) (s : Shared) (H : Hp) (E : XK), Room k (A.deeper (envOfC qual (defScope st) s.heap.objs.size fa cdv)) →
      Takes (cxOf (L2.CX P w) P w K mg base N qual (defScope st) fa cdv A outer s H E) (fun cls d _ H => E cls d H) → PassesOwn (model P w) (cxOf (L2.CX P w) P w K mg base N qual (defScope st) fa cdv A outer s H E).A (cxOf (L2.CX P w) P w K mg base N qual (defScope st) fa cdv A outer s H E).env (cxOf (L2.CX P w) P w K mg base N qual (defScope st) fa cdv A outer s H E).xe →
      QSs (cxOf (L2.CX P w) P w K mg base N qual (defScope st) fa cdv A outer s H E) f (fun cls d _ H => E cls d H) (scOf N.length ms τ) (startT N.length ms) (defBody st) t Θe) : FnOk P w K mg base (L2.CX P w) (k + 1) fa fd ps (CF K mg true ms τ (runF N.length ms τ t)) := by
  refine F.okX S (fun vs H Q E h => ?_) (fun cdv A outer s H vs Q E hr h => ?_)
  · obtain ⟨_, _, _, _, _, ha, _⟩ := h
    rw [ha.len.1, hl]
  · obtain ⟨f, hf⟩ := body_ok (rz := true) (E := E) (W := fun cls d _ H => E cls d H) (fun _ => rfl) hn he h
    exact ⟨_, (hbody f cdv A outer s H E hr (takes_of rfl rfl rfl rfl) (passes_of rfl)).r, hf fun z => Bool.noConfusion z⟩
end
end FL

/-! FH: operations. -/
namespace FL
open PySem PySem.Spec PyProof.Rows L2
variable [TabT]
section
variable {K : PySem.W.Frag} {w w' : Wd}
theorem RDs.get : ∀ {ds : List D} {vs : List V} {i : Nat} {d : D}, RDs K w ds vs → ds[i]? = some d → ∃ v, vs[i]? = some v ∧ RD K w d v
  | [], _, _, _, _, e => by simp at e
  | _ :: _, _, 0, _, ⟨v, r, e1, e2, _⟩, e => by subst e1; cases e; exact ⟨v, rfl, e2⟩
  | _ :: _, _, i + 1, _, ⟨v, r, e1, _, e3⟩, e => by subst e1; exact RDs.get (i := i) e3 (by simpa using e)
theorem RDs.app : ∀ {ds es : List D} {vs us : List V}, RDs K w ds vs → RDs K w es us → RDs K w (ds ++ es) (vs ++ us)
  | [], _, _, _, h, h' => by cases h; exact h'
  | _ :: _, _, _, _, ⟨v, r, e1, e2, e3⟩, h' => by subst e1; exact ⟨v, r ++ _, rfl, e2, RDs.app e3 h'⟩
theorem RDs.one {d : D} {v : V} (h : RD K w d v) : RDs K w [d] [v] := ⟨v, [], rfl, h, rfl⟩
theorem RDs.snoc {ds : List D} {vs : List V} {d : D} {v : V} (h : RDs K w ds vs) (h' : RD K w d v) : RDs K w (ds ++ [d]) (vs ++ [v]) := h.app (.one h')
theorem RDs.set : ∀ {ds : List D} {vs : List V} {d : D} {v : V} (i : Nat), RDs K w ds vs → RD K w d v → RDs K w (ds.set i d) (vs.set i v)
  | [], _, _, _, _, h, _ => by cases h; rfl
  | _ :: _, _, _, _, 0, ⟨v, r, e1, e2, e3⟩, h' => by subst e1; exact ⟨_, r, rfl, h', e3⟩
  | _ :: _, _, _, _, i + 1, ⟨v, r, e1, e2, e3⟩, h' => by subst e1; exact ⟨v, _, rfl, e2, RDs.set i e3 h'⟩
theorem RDs.drop : ∀ {ds : List D} {vs : List V} (n : Nat), RDs K w ds vs → RDs K w (ds.drop n) (vs.drop n)
  | _, _, 0, h => h
  | [], _, n + 1, h => by cases h; rfl
  | _ :: _, _, n + 1, ⟨v, r, e1, e2, e3⟩ => by subst e1; exact RDs.drop n e3
theorem RDs.take : ∀ {ds : List D} {vs : List V} (n : Nat), RDs K w ds vs → RDs K w (ds.take n) (vs.take n)
  | _, _, 0, _ => rfl
  | [], _, n + 1, h => by cases h; rfl
  | _ :: _, _, n + 1, ⟨v, r, e1, e2, e3⟩ => by subst e1; exact ⟨v, _, rfl, e2, RDs.take n e3⟩
theorem RDs.erase : ∀ {ds : List D} {vs : List V} (n : Nat), RDs K w ds vs → RDs K w (ds.eraseIdx n) (vs.eraseIdx n)
  | [], _, n, h => by cases h; simp; rfl
  | _ :: _, _, 0, ⟨v, r, e1, e2, e3⟩ => by subst e1; exact e3
  | _ :: _, _, n + 1, ⟨v, r, e1, e2, e3⟩ => by subst e1; exact ⟨v, _, rfl, e2, RDs.erase n e3⟩
theorem RDs.rev {ds : List D} {vs : List V} (h : RDs K w ds vs) : RDs K w ds.reverse vs.reverse := by
  induction ds generalizing vs with
  | nil => cases h; rfl
  | cons d ds ih =>
    obtain ⟨v, r, e1, e2, e3⟩ := h
    subst e1
    rw [List.reverse_cons, List.reverse_cons]
    exact (ih e3).snoc e2
theorem RDs.map {α : Type} {f : α → D} {g : α → V} : ∀ {xs : List α}, (∀ x ∈ xs, RD K w (f x) (g x)) → RDs K w (xs.map f) (xs.map g)
  | [], _ => rfl
  | x :: xs, h => ⟨_, _, rfl, h x List.mem_cons_self, RDs.map fun y hy => h y (List.mem_cons_of_mem _ hy)⟩
theorem RDs.ints {xs : List Int} : RDs K w (xs.map D.int) (xs.map V.int) := .map fun _ _ => rfl
theorem RDs.of_ints : ∀ {xs : List Int} {vs : List V}, RDs K w (xs.map D.int) vs → vs = xs.map V.int
  | [], _, h => h
  | x :: xs, _, ⟨v, r, e1, e2, e3⟩ => by subst e1; rw [RDs.of_ints e3, show v = .int x from e2]; rfl
theorem RDs.of_bls : ∀ {xs : List Bool} {vs : List V}, RDs K w (xs.map D.bl) vs → vs = xs.map V.bl
  | [], _, h => h
  | x :: xs, _, ⟨v, r, e1, e2, e3⟩ => by subst e1; rw [RDs.of_bls e3, show v = .bl x from e2]; rfl
theorem RDs.of_texts : ∀ {xs : List Str} {vs : List V}, RDs K w (xs.map D.str) vs → vs = xs.map V.str
  | [], _, h => h
  | x :: xs, _, ⟨v, r, e1, e2, e3⟩ => by subst e1; rw [RDs.of_texts e3, show v = .str x from e2]; rfl
end
section
variable {X : Cx}
/-! ### ints -/
def iiO (c : Int → Int → Bool) (g : Int → Int → D) : D → D → Option D
  | .int i, .int j => if c i j = true then some (g i j) else none
  | _, _ => none
def ii0 (g : Int → Int → D) : D → D → Option D
  | .int i, .int j => some (g i j)
  | _, _ => none
@[simp] theorem ii0_ii {g : Int → Int → D} {i j : Int} : ii0 g (.int i) (.int j) = some (g i j) := rfl
@[simp] theorem iiO_ii {c : Int → Int → Bool} {g : Int → Int → D} {i j : Int} : iiO c g (.int i) (.int j) = if c i j = true then some (g i j) else none := rfl
theorem l_iiO {c : Int → Int → Bool} {C : Int → Int → Prop} {g : Int → Int → V} {gd : Int → Int → D} (hc : ∀ i j, c i j = true → C i j) (hg : ∀ i j w, RD X.K w (gd i j) (g i j)) : LP2 X.K (rI C g) (iiO c gd) .p := by
  intro x y w Q dx dy d rx ry h k
  cases dx <;> cases dy <;> first | (cases h; done) | skip
  rename_i i j
  have h : (if c i j = true then some (gd i j) else none) = some d := h
  by_cases z : c i j = true
  · rw [if_pos z] at h
    cases h
    exact ⟨_, _, rx, ry, hc _ _ z, k _ w (.refl w) (.p (hg _ _ _))⟩
  · rw [if_neg z] at h; cases h
theorem l_ii0 {g : Int → Int → V} {gd : Int → Int → D} (hg : ∀ i j w, RD X.K w (gd i j) (g i j)) : LP2 X.K (rI0 g) (ii0 gd) .p := by
  intro x y w Q dx dy d rx ry h k
  cases dx <;> cases dy <;> first | (cases h; done) | skip
  rename_i i j
  cases h
  exact ⟨_, _, rx, ry, k _ w (.refl w) (.p (hg _ _ _))⟩
abbrev addI : D → D → Option D := ii0 fun i j => .int (i + j)
theorem l_addI : LP2 X.K (rI0 fun i j => .int (i + j)) addI .p := l_ii0 fun _ _ _ => rfl
abbrev subI : D → D → Option D := ii0 fun i j => .int (i - j)
theorem l_subI : LP2 X.K (rI0 fun i j => .int (i - j)) subI .p := l_ii0 fun _ _ _ => rfl
abbrev ltI : D → D → Option D := ii0 fun i j => .bl (decide (i < j))
theorem l_ltI : LP2 X.K (rI0 fun i j => .bl (decide (i < j))) ltI .p := l_ii0 fun _ _ _ => rfl
abbrev leI : D → D → Option D := ii0 fun i j => .bl (decide (i ≤ j))
theorem l_leI : LP2 X.K (rI0 fun i j => .bl (decide (i ≤ j))) leI .p := l_ii0 fun _ _ _ => rfl
abbrev gtI : D → D → Option D := ii0 fun i j => .bl (decide (j < i))
theorem l_gtI : LP2 X.K (rI0 fun i j => .bl (decide (j < i))) gtI .p := l_ii0 fun _ _ _ => rfl
abbrev geI : D → D → Option D := ii0 fun i j => .bl (decide (j ≤ i))
theorem l_geI : LP2 X.K (rI0 fun i j => .bl (decide (j ≤ i))) geI .p := l_ii0 fun _ _ _ => rfl
def negI : D → Option D
  | .int i => some (.int (-i))
  | _ => none
@[simp] theorem negI_i {i : Int} : negI (.int i) = some (.int (-i)) := rfl
theorem l_negI : LP1 X.K (rU fun i => .int (-i)) negI .p := by
  intro x w Q dx d rx h k
  cases dx <;> first | (cases h; done) | skip
  cases h
  exact ⟨_, rx, k _ w (.refl w) (.p rfl)⟩
/-- numbers whose product is small enough -/
def mulC (i j : Int) : Bool := decide (i.natAbs < 2 ^ 128) && decide (j.natAbs < 2 ^ 128)
def divC (_ j : Int) : Bool := decide (0 < j) && decide (j.natAbs < 2 ^ 128)
def modC (_ j : Int) : Bool := decide (0 < j)
def powC (i j : Int) : Bool := decide (0 ≤ j) && decide (j ≤ 4096) && decide (i.natAbs < 2 ^ 64)
abbrev mulI : D → D → Option D := iiO mulC fun i j => .int (i * j)
theorem l_mulI : LP2 X.K (rI CMulW fun i j => .int (i * j)) mulI .p := l_iiO (fun i j h => by
  have h : decide (i.natAbs < 2 ^ 128) = true ∧ decide (j.natAbs < 2 ^ 128) = true := by rw [← Bool.and_eq_true]; exact h
  exact wide_mul (of_decide_eq_true h.1) (of_decide_eq_true h.2) (by decide) (by decide) (by decide)) fun _ _ _ => rfl
abbrev divI : D → D → Option D := iiO divC fun i j => .int (i / j)
theorem l_divI : LP2 X.K (rI CDivW fun i j => .int (i / j)) divI .p := l_iiO (fun i j h => by
  have h : decide (0 < j) = true ∧ decide (j.natAbs < 2 ^ 128) = true := by rw [← Bool.and_eq_true]; exact h
  exact wide_div (of_decide_eq_true h.1) (of_decide_eq_true h.2) (by decide) (by decide)) fun _ _ _ => rfl
abbrev modI : D → D → Option D := iiO modC fun i j => .int (i % j)
theorem l_modI : LP2 X.K (rI (fun _ j => 0 < j) fun i j => .int (i % j)) modI .p := l_iiO (fun i j h => of_decide_eq_true h) fun _ _ _ => rfl
abbrev powI : D → D → Option D := iiO powC fun i j => .int (i ^ j.toNat)
theorem l_powI : LP2 X.K (rI CPow fun i j => .int (i ^ j.toNat)) powI .p := l_iiO (fun i j h => by
  have h : (decide (0 ≤ j) && decide (j ≤ 4096)) = true ∧ decide (i.natAbs < 2 ^ 64) = true := by rw [← Bool.and_eq_true]; exact h
  have h1 : decide (0 ≤ j) = true ∧ decide (j ≤ 4096) = true := by rw [← Bool.and_eq_true]; exact h.1
  have h2 := of_decide_eq_true h1.2
  exact ⟨of_decide_eq_true h1.1, by omega, of_decide_eq_true h.2⟩) fun _ _ _ => rfl

/-! ### == -/
mutual
def pyD : D → PyData
  | .bl b => .bool b
  | .int i => .int i
  | .str x => .str x
  | .tup ds => .tuple (pyDs ds)
  | .fl ds => .list (pyDs ds)
  | _ => .none
def pyDs : List D → List PyData
  | [] => []
  | d :: ds => pyD d :: pyDs ds
end
mutual
def pln : D → Bool
  | .non => true
  | .bl _ => true
  | .int _ => true
  | .str x => PyData.strOk x
  | .tup ds => plns ds
  | .fl ds => plns ds
  | _ => false
def plns : List D → Bool
  | [] => true
  | d :: ds => pln d && plns ds
end
mutual
theorem dp_of {K : PySem.W.Frag} {w : Wd} : ∀ {d : D} {v : V}, RD K w d v → pln d = true → Dp K w.H v (pyD d)
  | .non, v, r, _ => by rw [show v = .non from r]; unfold pyD; exact .non
  | .bl b, v, r, _ => by rw [show v = .bl b from r]; unfold pyD; exact .bl b
  | .int i, v, r, _ => by rw [show v = .int i from r]; unfold pyD; exact .int i
  | .str x, v, r, _ => by rw [show v = .str x from r]; unfold pyD; exact .str x
  | .ty _, v, _, p => by simp [pln] at p
  | .ob _, v, _, p => by simp [pln] at p
  | .fd _ _, v, _, p => by simp [pln] at p
  | .tup ds, v, ⟨a, vs, e1, e2, e3, _⟩, p => by
    rw [e1]
    unfold pyD
    exact .tup e2 (dps_of e3 (by simpa [pln] using p))
  | .fl ds, v, ⟨a, vs, e1, e2, e3⟩, p => by
    rw [e1]
    unfold pyD
    exact .lst e2.l (dps_of e3 (by simpa [pln] using p))
theorem dps_of {K : PySem.W.Frag} {w : Wd} : ∀ {ds : List D} {vs : List V}, RDs K w ds vs → plns ds = true → DpAll K w.H vs (pyDs ds)
  | [], _, r, _ => by rw [show _ = [] from r]; unfold pyDs; exact .nil
  | d :: ds, _, ⟨v, w', e1, e2, e3⟩, p => by
    have p' : pln d = true ∧ plns ds = true := by simpa [plns] using p
    rw [e1]
    unfold pyDs
    exact .cons (dp_of e2 p'.1) (dps_of e3 p'.2)
end
theorem fv_dp {K : PySem.W.Frag} {w : Wd} {d : D} {v : V} (r : Fv K w d v) (p : pln d = true) : Dp K w.H v (pyD d) := by
  cases d with
  | fl ds => obtain ⟨a, vs, rfl, e2, e3⟩ := r; unfold pyD; exact .lst e2.l (dps_of e3 (by simpa [pln] using p))
  | fd _ _ => simp [pln] at p
  | _ => exact dp_of r p
def shp (d : D) : Bool := pln d && SeqAt.shaped (pyD d)
/-- == of two scalars -/
def eqS : D → D → Option Bool
  | .non, .non => some true
  | .non, .int _ => some false
  | .int _, .non => some false
  | .non, .bl _ => some false
  | .bl _, .non => some false
  | .non, .str _ => some false
  | .str _, .non => some false
  | .int i, .int j => some (decide (i = j))
  | .bl i, .bl j => some (decide (i = j))
  | .str i, .str j => some (decide (i = j))
  | .int _, .str _ => some false
  | .str _, .int _ => some false
  | .bl _, .str _ => some false
  | .str _, .bl _ => some false
  | _, _ => none
theorem eqS_ok {K : PySem.W.Frag} {w : Wd} {x y : D} {v u : V} {b : Bool} (e : eqS x y = some b) (rx : Fv K w x v) (ry : Fv K w y u) : scal v u = true ∧ decide (v = u) = b := by
  cases x <;> cases y <;> simp only [eqS, reduceCtorEq] at e <;> (cases (show v = _ from rx); cases (show u = _ from ry); cases e; refine ⟨rfl, ?_⟩; simp)
def eqO (x y : D) : Option Bool := match eqS x y with
  | some b => some b
  | none => if (shp x && shp y) = true then some (PyData.eqv (pyD x) (pyD y)) else none
def eqD (x y : D) : Option D := (eqO x y).map D.bl
def neD (x y : D) : Option D := (eqO x y).map fun b => D.bl !b
theorem op_eqA (hu : X.A.units + 64 < cLine) : OpR X (compareOp .Eq) (fun x y H Q => rEq x y H Q ∨ rEqD X.K x y H Q) := op_eq.or (op_eqD hu)
theorem op_neA (hu : X.A.units + 64 < cLine) : OpR X (compareOp .NotEq) (fun x y H Q => rNe x y H Q ∨ rNeD X.K x y H Q) := op_ne.or (op_neD hu)
theorem eqO_ok {w : Wd} {x y : V} {dx dy : D} {b : Bool} (rx : Fv X.K w dx x) (ry : Fv X.K w dy y) (h : eqO dx dy = some b) : (scal x y = true ∧ decide (x = y) = b) ∨ (Dp X.K w.H x (pyD dx) ∧ Dp X.K w.H y (pyD dy) ∧ SeqAt.shaped (pyD dx) = true ∧ SeqAt.shaped (pyD dy) = true ∧ PyData.eqv (pyD dx) (pyD dy) = b) := by
  unfold eqO at h
  cases e : eqS dx dy with
  | some c => rw [e] at h; cases h; exact .inl (eqS_ok e rx ry)
  | none =>
    rw [e] at h
    dsimp only at h
    by_cases c : (shp dx && shp dy) = true
    · rw [if_pos c] at h
      cases h
      simp only [shp, Bool.and_eq_true] at c
      exact .inr ⟨fv_dp rx c.1.1, fv_dp ry c.2.1, c.1.2, c.2.2, rfl⟩
    · rw [if_neg c] at h; cases h
theorem l_eqD : LP2 X.K (fun x y H Q => rEq x y H Q ∨ rEqD X.K x y H Q) eqD .p := by
  intro x y w Q dx dy d rx ry h k
  obtain ⟨b, hb, rfl⟩ := Option.map_eq_some_iff.mp h
  have q : Q (.bl b) w.H := k (.bl b) w (.refl w) (.p rfl)
  rcases eqO_ok rx ry hb with ⟨h1, h2⟩ | ⟨h1, h2, h3, h4, h5⟩
  · exact .inl ⟨h1, by rw [h2]; exact q⟩
  · exact .inr ⟨_, _, h1, h2, h3, h4, by rw [h5]; exact q⟩
theorem l_neD : LP2 X.K (fun x y H Q => rNe x y H Q ∨ rNeD X.K x y H Q) neD .p := by
  intro x y w Q dx dy d rx ry h k
  obtain ⟨b, hb, rfl⟩ := Option.map_eq_some_iff.mp h
  have q : Q (.bl !b) w.H := k (.bl !b) w (.refl w) (.p rfl)
  rcases eqO_ok rx ry hb with ⟨h1, h2⟩ | ⟨h1, h2, h3, h4, h5⟩
  · exact .inl ⟨h1, by rw [h2]; exact q⟩
  · exact .inr ⟨_, _, h1, h2, h3, h4, by rw [h5]; exact q⟩
def isNon : D → Bool
  | .non => true
  | _ => false
theorem isNon_ok {K : PySem.W.Frag} {w : Wd} {d : D} {v : V} (r : Fv K w d v) : decide (v = .non) = isNon d := by
  cases d with
  | non => rw [show v = .non from r]; rfl
  | bl _ => rw [show v = _ from r]; rfl
  | int _ => rw [show v = _ from r]; rfl
  | str _ => rw [show v = _ from r]; rfl
  | ty _ => rw [show v = _ from r]; rfl
  | ob _ => obtain ⟨a, _, rfl⟩ := r; rfl
  | tup _ => obtain ⟨a, _, rfl, _⟩ := r; rfl
  | fl _ => obtain ⟨a, _, rfl, _⟩ := r; rfl
  | fd _ _ => obtain ⟨a, _, _, rfl, _⟩ := r; rfl
def isNO (x y : D) : Option D := match y with
  | .non => some (.bl (isNon x))
  | _ => none
def notNO (x y : D) : Option D := match y with
  | .non => some (.bl (!isNon x))
  | _ => none
@[simp] theorem isNO_n {x : D} : isNO x .non = some (.bl (isNon x)) := rfl
@[simp] theorem notNO_n {x : D} : notNO x .non = some (.bl (!isNon x)) := rfl
theorem l_isNO : LP2 X.K (fun x y H Q => y = .non ∧ Q (.bl (decide (x = .non))) H) isNO .p := by
  intro x y w Q dx dy d rx ry h k
  cases dy <;> first | (cases h; done) | skip
  cases h
  exact ⟨ry, by rw [isNon_ok rx]; exact k _ w (.refl w) (.p rfl)⟩
theorem l_notNO : LP2 X.K (fun x y H Q => y = .non ∧ Q (.bl (!decide (x = .non))) H) notNO .p := by
  intro x y w Q dx dy d rx ry h k
  cases dy <;> first | (cases h; done) | skip
  cases h
  exact ⟨ry, by rw [isNon_ok rx]; exact k _ w (.refl w) (.p rfl)⟩
end
end FL

/-! FI: lists, rows, dicts, texts read. -/
namespace FL
open PySem PySem.Spec PyProof.Rows L2
variable [TabT]
section
variable {K : PySem.W.Frag} {w w' : Wd}
theorem fv_seq {ds : List D} {v : V} (r : Fv K w (.fl ds) v) : ∃ a vs, v = .ref a ∧ SqR K w.H a vs ∧ RDs K w ds vs := r
theorem atI_ok {ds : List D} {vs : List V} {i : Int} {d : D} (r : RDs K w ds vs) (e : atI ds i = some d) : ∃ v, atI vs i = some v ∧ RD K w d v := by
  unfold atI at e ⊢
  rw [r.len]
  cases h : ixN ds.length i with
  | none => rw [h] at e; cases e
  | some j =>
    rw [h] at e
    obtain ⟨v, h1, h2⟩ := r.get (i := j) e
    exact ⟨v, h1, h2⟩
/-! ### keys -/
def keyOf : D → Option Key
  | .int i => some (.inl i)
  | .str x => some (.inr x)
  | _ => none
def keyAll : List D → Option (List Key)
  | [] => some []
  | d :: ds => match keyOf d, keyAll ds with
    | some k, some ks => some (k :: ks)
    | _, _ => none
def key2 : Bool → D → Option K2
  | false, .int i => some (.inl (.inl i))
  | false, .str x => some (.inl (.inr x))
  | true, .tup (d :: ds) => (keyAll (d :: ds)).map .inr
  | _, _ => none
/-- a key as a value -/
def dK2 : K2 → D
  | .inl k => kD k
  | .inr ks => .tup (ks.map kD)
def valD (kvs : List (K2 × D)) (k : K2) : Option D := (kvs.find? fun kv => decide (kv.1 = k)).map (·.2)
def putD (kvs : List (K2 × D)) (k : K2) (v : D) : List (K2 × D) := if (kvs.any fun kv => decide (kv.1 = k)) = true then kvs.map fun kv => if kv.1 = k then (kv.1, v) else kv else kvs ++ [(k, v)]
def dropD (kvs : List (K2 × D)) (k : K2) : List (K2 × D) := kvs.filter fun kv => decide (kv.1 ≠ k)
theorem keyOf_ok {d : D} {v : V} {k : Key} (r : RD K w d v) (e : keyOf d = some k) : v = kV k := by
  cases d with
  | int i => cases e; exact r
  | str i => cases e; exact r
  | _ => cases e
theorem keyAll_ok : ∀ {ds : List D} {vs : List V} {ks : List Key}, RDs K w ds vs → keyAll ds = some ks → vs = ks.map kV
  | [], _, ks, r, e => by cases e; exact r
  | d :: ds, _, ks, ⟨v, w', e0, r1, r2⟩, e => by
    subst e0
    unfold keyAll at e
    split at e
    · rename_i k ks' e1 e2
      cases e
      rw [keyOf_ok r1 e1, keyAll_ok r2 e2]
      rfl
    · cases e
theorem keyAll_kl : ∀ {ds : List D} {ks : List Key}, keyAll ds = some ks → (ds.all fun d => match d with
    | .int _ => true
    | .str _ => true
    | .ty _ => true
    | _ => false) = true
  | [], ks, e => rfl
  | d :: ds, ks, e => by
    unfold keyAll at e
    split at e
    · rename_i k ks' e1 e2
      rw [List.all_cons, keyAll_kl e2, Bool.and_true]
      cases d <;> first | rfl | cases e1
    · cases e
/-- a key lies so -/
inductive KeyIs (H : Hp) : Bool → K2 → V → Prop
  | k (k : Key) : KeyIs H false (.inl k) (kV k)
  | t (ks : List Key) (b : Addr) : H b = some (.tup (ks.map kV)) → KeyIs H true (.inr ks) (.ref b)
theorem key2_ok {t : Bool} {d : D} {v : V} {k : K2} (r : Fv K w d v) (e : key2 t d = some k) : KeyIs w.H t k v := by
  cases t with
  | false => cases d with
    | int i => cases e; cases (show v = _ from r); exact .k (.inl i)
    | str i => cases e; cases (show v = _ from r); exact .k (.inr i)
    | _ => cases e
  | true => cases d with
    | tup ds =>
      cases ds with
      | nil => cases e
      | cons d ds =>
        obtain ⟨ks, ek, rfl⟩ := Option.map_eq_some_iff.mp (show (keyAll (d :: ds)).map Sum.inr = some k from e)
        obtain ⟨a, vs, rfl, _, rv, hk⟩ := r
        exact .t ks a (by rw [hk (keyAll_kl ek), keyAll_ok rv ek])
    | _ => cases e
theorem valD_ok : ∀ {kvs : List (K2 × D)} {vs : List (K2 × V)} (k : K2), RKs K w kvs vs → (∀ d, valD kvs k = some d → ∃ v, valV vs k = some v ∧ RD K w d v) ∧ (valD kvs k = none → valV vs k = none)
  | [], _, k, r => by cases r; exact ⟨fun d e => (by cases e), fun _ => rfl⟩
  | (k0, d0) :: kvs, _, k, ⟨v, w', e0, r1, r2⟩ => by
    subst e0
    have ih := valD_ok k r2
    unfold valD valV at *
    by_cases c : k0 = k
    · rw [List.find?_cons_of_pos (by simpa using c), List.find?_cons_of_pos (by simpa using c)]
      exact ⟨fun d e => (by cases e; exact ⟨v, rfl, r1⟩), fun e => (by cases e)⟩
    · rw [List.find?_cons_of_neg (by simpa using c), List.find?_cons_of_neg (by simpa using c)]
      exact ih
theorem valV_map {κ : Type} [DecidableEq κ] (g : κ → K2) (hg : ∀ a b, g a = g b → a = b) (k : κ) : ∀ vs : List (κ × V), valV (vs.map fun p => (g p.1, p.2)) (g k) = valV vs k
  | [] => rfl
  | p :: vs => by
    have ih := valV_map g hg k vs
    unfold valV at *
    rw [List.map_cons]
    by_cases c : p.1 = k
    · rw [List.find?_cons_of_pos (by simp [c]), List.find?_cons_of_pos (by simpa using c)]
      rfl
    · rw [List.find?_cons_of_neg (by simpa using fun z => c (hg _ _ z)), List.find?_cons_of_neg (by simpa using c)]
      exact ih
theorem dget_ok {H : Hp} {a : Addr} {u : HO} {t : Bool} {vs : List (K2 × V)} {k : K2} {y : V} (hr : Rd H a u) (hd : DictIs t u vs) (hk : KeyIs H t k y) : DGet H a y (valV vs k) := by
  cases hd with
  | k us =>
    cases hk with
    | k k => exact .inl ⟨us, k, hr, rfl, valV_map Sum.inl (fun _ _ z => Sum.inl.inj z) k us⟩
  | t us =>
    cases hk with
    | t ks b hb => exact .inr ⟨us, ks, b, hr, rfl, hb, valV_map Sum.inr (fun _ _ z => Sum.inr.inj z) ks us⟩
end
section
variable {X : Cx}
/-! ### items -/
def szS : D → Bool
  | .str z => decide (z.length ≤ sizeLine)
  | _ => true
def ixO : D → D → Option D
  | .str z, .int i => if z.length ≤ sizeLine then (atI z.cps.toList i).map fun c => .str ⟨#[c]⟩ else none
  | .tup xs, .int i => atI xs i
  | .fl xs, .int i => atI xs i
  | .fd t kvs, y => (key2 t y).bind fun k => valD kvs k
  | _, _ => none
def rIxDt : R2 := fun x y H Q => ∃ a v, x = .ref a ∧ DGet H a y (some v) ∧ Q v H
theorem ix_dict (hu : X.A.units + 1 < cLine) : IxR X rIxDt := by
  intro value slice pins s σ H x y v u Q I rx ry h hs
  obtain ⟨a, z, rfl, g, q⟩ := h
  obtain rfl : v = Value.ref a := rx
  have hT := dict_typeIs I g
  unfold subscriptTail
  refine wpAny_bind ?_
  rw [getitemInPython_of_ne hT.not_modules]
  refine wpAny_bind (wpAny_specialOf hT PySem.F.slot_dict_getitem.lookup ?_)
  have fin : wpAny (model X.prog X.w) X.A (subscripted slice false (.ref a) u) (fun r s₃ => wpAny (model X.prog X.w) X.A (letTemporaryGo value (.ref a) r >>= fun _ => pure r) (EP X pins σ Q) X.xe s₃) X.xe s := by
    rw [hs]
    refine wpAny_operating (d_getItem hu I g ry fun w' s3 I3 rw' => wpAny_bind (wpAny_letTemporaryGo (wpAny_pure ⟨z, H, I3, rw', q⟩)))
  first
    | exact wpAny_pure (wpAny_bind fin)
    | exact wpAny_bind (wpAny_pure (wpAny_bind fin))
    | exact wpAny_bind fin
def rIxA (K : PySem.W.Frag) : R2 := fun x y H Q => rIx K x y H Q ∨ rIxDt x y H Q
theorem ix_any (hu : X.A.units + 1 < cLine) : IxR X (rIxA X.K) := ix_seq.or (ix_dict hu)
theorem l_ixO : LP2 X.K (rIxA X.K) ixO .p := by
  intro x y w Q dx dy d rx ry h k
  have go : ∀ {v : V}, RD X.K w d v → Q v w.H := fun r => k _ w (.refl w) (.p r)
  cases dx with
  | str z =>
    cases dy <;> first | (cases h; done) | skip
    rename_i i
    have h : (if z.length ≤ sizeLine then (atI z.cps.toList i).map fun c => D.str ⟨#[c]⟩ else none) = some d := h
    by_cases c : z.length ≤ sizeLine
    · rw [if_pos c] at h
      cases (show x = .str z from rx)
      cases (show y = .int i from ry)
      obtain ⟨n, e, rfl⟩ := Option.map_eq_some_iff.mp h
      exact .inl (.inr (.inr ⟨z, i, n, rfl, rfl, c, e, go rfl⟩))
    · rw [if_neg c] at h; cases h
  | tup xs =>
    cases dy <;> first | (cases h; done) | skip
    rename_i i
    obtain ⟨a, vs, rfl, ht, rv, _⟩ := rx
    cases (show y = .int i from ry)
    obtain ⟨v, e1, r1⟩ := atI_ok rv (show atI xs i = some d from h)
    exact .inl (.inr (.inl ⟨a, vs, i, v, rfl, rfl, ht, e1, go r1⟩))
  | fl xs =>
    cases dy <;> first | (cases h; done) | skip
    rename_i i
    obtain ⟨a, vs, rfl, ht, rv⟩ := rx
    cases (show y = .int i from ry)
    obtain ⟨v, e1, r1⟩ := atI_ok rv (show atI xs i = some d from h)
    exact .inl (.inl ⟨a, vs, i, v, rfl, rfl, ht.l, e1, go r1⟩)
  | fd t kvs =>
    obtain ⟨kk, hk, e⟩ := Option.bind_eq_some_iff.mp (show (key2 t dy).bind (fun k => valD kvs k) = some d from h)
    obtain ⟨a, u, vs, rfl, hr, hd, rk⟩ := rx
    obtain ⟨v, e1, r1⟩ := (valD_ok kk rk).1 d e
    have g := dget_ok hr hd (key2_ok ry hk)
    rw [e1] at g
    exact .inr ⟨a, v, rfl, g, go r1⟩
  | _ => cases h
section
variable {η : Type} [HR η] {f : Fm} {W : WX} {Θ Θ1 Θ2 Θx : Th} {a b : Expr} {pos : Pos} {κ1 κ2 : Sl}
theorem qp_ix {ta tb : PR η} (hu : X.A.units + 1 < cLine) (ha : QP X f W Θ a ta κ1) (hb : QP X f W Θ b tb κ2) (hs : PlainIx b := by exact fun _ _ => rfl) (f1 : κ1.flat = true := by rfl) (f2 : κ2.flat = true := by rfl) : QP X f W Θ (.Subscript a b pos) (fOp ixO ta tb) .p :=
  ⟨PE.imp (pe_ix (ix_any hu) ha.r hb.r hs) fun _ _ _ h => lop l_ixO f1 f2 h⟩
theorem qe_ix {ta tb : ER η} (hu : X.A.units + 1 < cLine) (ha : QE X f W Θ a ta .p Θ1 Θx) (hb : QE X f W Θ1 b tb .p Θ2 Θx) (hs : PlainIx b := by exact fun _ _ => rfl) : QE X f W Θ (.Subscript a b pos) (eOp ixO ta tb) .p Θ2 Θx :=
  ⟨PE.imp (pe_ix (ix_any hu) ha.r hb.r hs) fun _ _ _ h => leop l_ixO h⟩
end

/-! ### in -/
def flD : D → Bool
  | .non => true
  | .bl _ => true
  | .int _ => true
  | .str _ => true
  | _ => false
def eqF : D → D → Bool
  | .non, .non => true
  | .bl a, .bl b => a == b
  | .bl a, .int b => (if a then 1 else 0) == b
  | .int a, .bl b => a == (if b then 1 else 0)
  | .int a, .int b => a == b
  | .str a, .str b => a == b
  | _, _ => false
def inSeq (x : D) (ys : List D) : Option Bool := if flD x = true ∧ ys.all flD = true then some (ys.any fun y => eqF y x) else none
def inB : D → D → Option Bool
  | .str c, .str z => match c.cps.toList with
    | [n] => some (decide (n ∈ z.cps.toList))
    | _ => none
  | x, .tup ys => inSeq x ys
  | x, .fl ys => inSeq x ys
  | x, .fd t kvs => (key2 t x).map fun k => (valD kvs k).isSome
  | _, _ => none
def inO (x y : D) : Option D := (inB x y).map D.bl
def ninO (x y : D) : Option D := (inB x y).map fun b => D.bl !b
def rInA (K : PySem.W.Frag) (n : Bool) : R2 := fun x y H Q =>
  (∃ (c : Nat) (z : Str), x = .str ⟨#[c]⟩ ∧ y = .str z ∧ Q (.bl (if n then !decide (c ∈ z.cps.toList) else decide (c ∈ z.cps.toList))) H) ∨
  (rIn K n x y H Q ∨ ∃ a o, y = .ref a ∧ DGet H a x o ∧ Q (.bl (if n then !o.isSome else o.isSome)) H)
theorem op_in_d (hu : X.A.units + 1 < cLine) : OpR X (compareOp .In) (fun x y H Q => ∃ a o, y = .ref a ∧ DGet H a x o ∧ Q (.bl o.isSome) H) := by
  intro pins s σ H x y v u Q I rx ry h
  obtain ⟨a, o, rfl, g, q⟩ := h
  obtain rfl : u = Value.ref a := ry
  exact d_in hu I g rx fun s3 I3 => ⟨.bl o.isSome, H, I3, rfl, q⟩
theorem op_nin_d (hu : X.A.units + 1 < cLine) : OpR X (compareOp .NotIn) (fun x y H Q => ∃ a o, y = .ref a ∧ DGet H a x o ∧ Q (.bl (!o.isSome)) H) := by
  intro pins s σ H x y v u Q I rx ry h
  obtain ⟨a, o, rfl, g, q⟩ := h
  obtain rfl : u = Value.ref a := ry
  exact d_notIn hu I g rx fun s3 I3 => ⟨.bl (!o.isSome), H, I3, rfl, q⟩
theorem op_inA (hu : X.A.units + 1 < cLine) : OpR X (compareOp .In) (rInA X.K false) := op_in_sign.or (op_in_seq.or (op_in_d hu))
theorem op_ninA (hu : X.A.units + 1 < cLine) : OpR X (compareOp .NotIn) (rInA X.K true) := op_notIn_sign.or (op_notIn_seq.or (op_nin_d hu))
def flV : D → V
  | .bl b => .bl b
  | .int i => .int i
  | .str x => .str x
  | _ => .non
section
variable {K : PySem.W.Frag} {w : Wd}
theorem flV_ok {d : D} {v : V} (r : Fv K w d v) (h : flD d = true) : v = flV d := by
  cases d with
  | non => exact r
  | bl b => exact r
  | int b => exact r
  | str b => exact r
  | _ => cases h
theorem flD_ok {d : D} {v : V} (r : Fv K w d v) (h : flD d = true) : flatV v = true := by
  rw [flV_ok r h]
  cases d <;> first | rfl | cases h
theorem flDs_ok : ∀ {ds : List D} {vs : List V}, RDs K w ds vs → ds.all flD = true → vs.all flatV = true
  | [], _, r, _ => by cases r; rfl
  | d :: ds, _, ⟨v, w', e0, r1, r2⟩, h => by
    subst e0
    rw [List.all_cons, Bool.and_eq_true] at h ⊢
    exact ⟨flD_ok r1.fv h.1, flDs_ok r2 h.2⟩
theorem eqF_ok {x y : D} {v u : V} (rx : Fv K w x v) (ry : Fv K w y u) (hx : flD x = true) (hy : flD y = true) : eqV v u = eqF x y := by
  rw [flV_ok rx hx, flV_ok ry hy]
  cases x <;> cases y <;> first
    | rfl
    | (simp [flD] at hx; done)
    | (simp [flD] at hy; done)
theorem inSeq_ok {x : D} {v : V} {ys : List D} {us : List V} {b : Bool} (rx : Fv K w x v) (ry : RDs K w ys us) (h : inSeq x ys = some b) : flatV v = true ∧ us.all flatV = true ∧ inV v us = b := by
  unfold inSeq at h
  by_cases c : flD x = true ∧ ys.all flD = true
  · rw [if_pos c] at h
    cases h
    refine ⟨flD_ok rx c.1, flDs_ok ry c.2, ?_⟩
    unfold inV
    have go : ∀ {ys : List D} {us : List V}, RDs K w ys us → ys.all flD = true → (us.any fun y => eqV y v) = ys.any fun y => eqF y x := by
      intro ys
      induction ys with
      | nil => intro us r _; cases r; rfl
      | cons d ds ih =>
        intro us r hd
        obtain ⟨w', ws, rfl, r1, r2⟩ := r
        rw [List.all_cons, Bool.and_eq_true] at hd
        rw [List.any_cons, List.any_cons, eqF_ok r1.fv rx hd.1 c.1, ih r2 hd.2]
    exact go ry c.2
  · rw [if_neg c] at h; cases h
end
theorem l_inN (n : Bool) {x y : V} {w : Wd} {Q : VK} {dx dy : D} {b : Bool} (rx : Fv X.K w dx x) (ry : Fv X.K w dy y) (e : inB dx dy = some b) (hq : Q (.bl (if n then !b else b)) w.H) : rInA X.K n x y w.H Q := by
  have sq : ∀ {a : Addr} {ys : List D} {us : List V}, (SqL X.K w.H a us ∨ SqT X.K w.H a us) → RDs X.K w ys us → inSeq dx ys = some b → y = .ref a → rInA X.K n x y w.H Q := fun {a ys us} hs r e ey => by
    obtain ⟨h1, h2, h3⟩ := inSeq_ok rx r e
    refine .inr (.inl ⟨a, us, ey, hs, h1, h2, ?_⟩)
    rw [h3]
    exact hq
  unfold inB at e
  split at e
  · rename_i c z
    cases (show x = .str c from rx)
    cases (show y = .str z from ry)
    split at e
    · rename_i k hc
      cases e
      have : c = ⟨#[k]⟩ := by
        cases c with
        | mk a =>
          have : a.toList = [k] := hc
          congr 1
          rw [← Array.toArray_toList (xs := a), this]
      subst this
      exact .inl ⟨k, z, rfl, rfl, hq⟩
    · cases e
  · obtain ⟨a, vs, rfl, ht, rv, _⟩ := ry
    exact sq (.inr ht) rv e rfl
  · obtain ⟨a, vs, rfl, ht, rv⟩ := ry
    exact sq (.inl ht.l) rv e rfl
  · rename_i t kvs
    obtain ⟨a, u, vs, rfl, hr, hd, rk⟩ := ry
    obtain ⟨k, hk, rfl⟩ := Option.map_eq_some_iff.mp e
    have g := dget_ok hr hd (key2_ok rx hk)
    refine .inr (.inr ⟨a, _, rfl, g, ?_⟩)
    obtain ⟨h1, h2⟩ := valD_ok k rk
    have so : (valV vs k).isSome = (valD kvs k).isSome := by
      cases e : valD kvs k with
      | none => rw [h2 e]; rfl
      | some d => obtain ⟨v, hv, _⟩ := h1 d e; rw [hv]; rfl
    rw [so]
    exact hq
  · cases e
theorem l_inO : LP2 X.K (rInA X.K false) inO .p := fun x y w Q dx dy d rx ry h k => by
  obtain ⟨b, hb, rfl⟩ := Option.map_eq_some_iff.mp h
  exact l_inN false rx ry hb (k _ w (.refl w) (.p rfl))
theorem l_ninO : LP2 X.K (rInA X.K true) ninO .p := fun x y w Q dx dy d rx ry h k => by
  obtain ⟨b, hb, rfl⟩ := Option.map_eq_some_iff.mp h
  exact l_inN true rx ry hb (k _ w (.refl w) (.p rfl))

/-! ### slices, sums: what is made is not written later -/
def cutD (xs : List D) (lo hi : Option Int) : List D := (xs.drop (HT.sIx xs.length 0 lo)).take (HT.sIx xs.length xs.length hi - HT.sIx xs.length 0 lo)
theorem cutD_ok {K : PySem.W.Frag} {w : Wd} {ds : List D} {vs : List V} (r : RDs K w ds vs) (lo hi : Option Int) : RDs K w (cutD ds lo hi) (cutV vs lo hi) := by
  unfold cutD cutV
  rw [r.len]
  exact (r.drop _).take _
/-- behind an expression: the object it gives may be frozen -/
theorem pe_fzo {e : Expr} {t : TE} (h : PE X e t) : PE X e (fun σ H Q => t σ H fun v H1 => Q v H1 ∨ ∃ a u, v = .ref a ∧ H1 a = some u ∧ Mut (some u) ∧ ∀ o, Q v (upd H1 a (.frz o u))) := by
  refine ⟨fun pins s σ H Q I hw => ?_⟩
  refine thn (h.run pins s σ H _ I hw) fun v s1 ⟨x, H1, I1, r1, q⟩ => ?_
  rcases q with q | ⟨a, u, ex, ha, mu, q⟩
  · exact ⟨x, H1, I1, r1, q⟩
  · obtain ⟨od, I2⟩ := I1.lock ha mu
    exact ⟨x, _, I2, r1, q od⟩
/-- .. or kept -/
abbrev Fz (Q : VK) : VK := fun v H1 => Q v H1 ∨ ∃ a u, v = .ref a ∧ H1 a = some u ∧ Mut (some u) ∧ ∀ o, Q v (upd H1 a (.frz o u))
theorem fz_new {K : PySem.W.Frag} {w : Wd} {ds : List D} {vs : List V} {p : Addr} {Q : VK} (hp : w.H p = none) (r : RDs K w ds vs) (k : ∀ v w', Gr no w w' → RP K w w' .p (.fl ds) v → Q v w'.H) : Fz Q (.ref p) (upd w.H p (.lst vs)) :=
  .inr ⟨p, _, rfl, upd_same, trivial, fun o => k (.ref p) ((w.up p (.lst vs)).up p (.frz o (.lst vs))) (Gr.upNew (.new hp) hp (u := .lst vs) upd_same id) (.p ⟨p, vs, rfl, .inl ⟨o, upd_same⟩, r.gr (f := no) (Gr.upNew (.new hp) hp (u := .lst vs) upd_same id)⟩)⟩
/-- operations whose answer may be a new list, frozen -/
def LP2z (K : PySem.W.Frag) (r : R2) (g : D → D → Option D) : Prop := ∀ x y w Q dx dy d, Fv K w dx x → Fv K w dy y → g dx dy = some d → (∀ v w', Gr no w w' → RP K w w' .p d v → Q v w'.H) → r x y w.H (Fz Q)
theorem LP2z.l {K : PySem.W.Frag} {r : R2} {g : D → D → Option D} (h : LP2z K r g) : LP2 K (fun x y H Q => r x y H (Fz Q)) g .p := h
section
variable {η : Type} [HR η] {f : Fm} {W : WX} {Θ Θ1 Θ2 Θx : Th} {a b : Expr} {pos : Pos} {κ1 κ2 : Sl}
theorem top_fz {r : R2} {ta tb : TE} {σ : L2.St} {H : Hp} {Q : VK} (h : tOp (fun x y H Q => r x y H (Fz Q)) ta tb σ H Q) : tOp r ta tb σ H (Fz Q) := h
theorem qp_opz {op : Operator} {r : R2} {g : D → D → Option D} {ta tb : PR η} (ho : OpR X (binaryOp op) r) (hr : LP2z X.K r g) (ha : QP X f W Θ a ta κ1) (hb : QP X f W Θ b tb κ2) (f1 : κ1.flat = true := by rfl) (f2 : κ2.flat = true := by rfl) : QP X f W Θ (.BinOp a op b pos) (fOp g ta tb) .p :=
  ⟨PE.imp (pe_fzo (pe_op ho ha.r hb.r)) fun _ _ _ h => top_fz (lop hr.l f1 f2 h)⟩
theorem qe_opz {op : Operator} {r : R2} {g : D → D → Option D} {ta tb : ER η} (ho : OpR X (binaryOp op) r) (hr : LP2z X.K r g) (ha : QE X f W Θ a ta .p Θ1 Θx) (hb : QE X f W Θ1 b tb .p Θ2 Θx) : QE X f W Θ (.BinOp a op b pos) (eOp g ta tb) .p Θ2 Θx :=
  ⟨PE.imp (pe_fzo (pe_op ho ha.r hb.r)) fun _ _ _ h => top_fz (leop hr.l h)⟩
end
/-! ### + -/
def rCatL (K : PySem.W.Frag) : R2 := fun x y H Q => ∃ l b xs zs, x = .ref l ∧ y = .ref b ∧ SqR K H l xs ∧ SqR K H b zs ∧ xs.length + zs.length ≤ sizeLine ∧ ∀ p, H p = none → Q (.ref p) (upd H p (.lst (xs ++ zs)))
theorem op_catL : OpR X (binaryOp .Add) (rCatL X.K) := by
  intro pins s σ H x y v u Q I rx ry h
  obtain ⟨l, b, xs, zs, rfl, rfl, hH, hB, hz, q⟩ := h
  cases rx
  cases ry
  obtain ⟨z, its, n, r, hl, e⟩ := hH.at I
  obtain ⟨z2, its2, n2, r2, hl2, e2⟩ := hB.at I
  refine PySem.P.add_list e e2 ?_ (by rw [List.size_toArray, List.size_toArray]; omega)
  have ea : its.toArray ++ its2.toArray = (its ++ its2).toArray := by simp
  rw [ea]
  exact ⟨.ref _, _, I.lnew (t' := s.toks) (r.append r2) (by rw [List.length_append]; omega), rfl, q _ I.fresh⟩
def addO : D → D → Option D
  | .int i, .int j => some (.int (i + j))
  | .str a, .str b => if a.length + b.length ≤ sizeLine then some (.str (a ++ b)) else none
  | .tup xs, .tup ys => if xs.length + ys.length ≤ sizeLine then some (.tup (xs ++ ys)) else none
  | .fl xs, .fl ys => if xs.length + ys.length ≤ sizeLine then some (.fl (xs ++ ys)) else none
  | _, _ => none
def rAddA (K : PySem.W.Frag) : R2 := fun x y H Q => ((rI0 fun i j => .int (i + j)) x y H Q ∨ (∃ i j, x = .str i ∧ y = .str j ∧ i.length + j.length ≤ sizeLine ∧ Q (.str (i ++ j)) H)) ∨ (rCatA K x y H Q ∨ rCatL K x y H Q)
theorem op_addA : OpR X (binaryOp .Add) (rAddA X.K) := (op_add.or op_add_str).or (op_catA.or op_catL)
theorem l_addO : LP2z X.K (rAddA X.K) addO := by
  intro x y w Q dx dy d rx ry h k
  cases dx <;> cases dy <;> first | (cases h; done) | skip
  · rename_i i j
    cases h
    exact .inl (.inl ⟨i, j, rx, ry, .inl (k _ w (.refl w) (.p rfl))⟩)
  · rename_i i j
    have h : (if i.length + j.length ≤ sizeLine then some (D.str (i ++ j)) else none) = some d := h
    by_cases z : i.length + j.length ≤ sizeLine
    · rw [if_pos z] at h; cases h
      exact .inl (.inr ⟨i, j, rx, ry, z, .inl (k _ w (.refl w) (.p rfl))⟩)
    · rw [if_neg z] at h; cases h
  · rename_i xs ys
    have h : (if xs.length + ys.length ≤ sizeLine then some (D.tup (xs ++ ys)) else none) = some d := h
    by_cases z : xs.length + ys.length ≤ sizeLine
    · rw [if_pos z] at h; cases h
      obtain ⟨a, vs, rfl, ha, rv, ka⟩ := rx
      obtain ⟨b, us, rfl, hb, ru, kb⟩ := ry
      refine .inr (.inl ⟨a, b, vs, us, rfl, rfl, ha, hb, by rw [rv.len, ru.len]; exact z, fun e => ?_, fun e1 e => ?_, fun e1 e2 p hp => ?_⟩)
      · have : xs = [] := List.eq_nil_of_length_eq_zero (by rw [← rv.len, e]; rfl)
        subst this
        exact .inl (k _ w (.refl w) (.p ⟨b, us, rfl, hb, ru, kb⟩))
      · have : ys = [] := List.eq_nil_of_length_eq_zero (by rw [← ru.len, e]; rfl)
        subst this
        rw [List.append_nil] at k
        exact .inl (k _ w (.refl w) (.p ⟨a, vs, rfl, ha, rv, ka⟩))
      · exact .inl (k _ (w.up p _) (.new hp) (.p (.newT hp (rv.app ru))))
    · rw [if_neg z] at h; cases h
  · rename_i xs ys
    have h : (if xs.length + ys.length ≤ sizeLine then some (D.fl (xs ++ ys)) else none) = some d := h
    by_cases z : xs.length + ys.length ≤ sizeLine
    · rw [if_pos z] at h; cases h
      obtain ⟨a, vs, rfl, ha, rv⟩ := rx
      obtain ⟨b, us, rfl, hb, ru⟩ := ry
      exact .inr (.inr ⟨a, b, vs, us, rfl, rfl, ha, hb, by rw [rv.len, ru.len]; exact z, fun p hp => fz_new hp (rv.app ru) k⟩)
    · rw [if_neg z] at h; cases h
/-- lists joined, the new one its own -/
def addL : D → D → Option D
  | .fl xs, .fl ys => if xs.length + ys.length ≤ sizeLine then some (.fl (xs ++ ys)) else none
  | _, _ => none
theorem l_addL : LP2 X.K (rCatL X.K) addL (.own (.l .p)) := by
  intro x y w Q dx dy d rx ry h k
  cases dx <;> cases dy <;> first | (cases h; done) | skip
  rename_i xs ys
  have h : (if xs.length + ys.length ≤ sizeLine then some (D.fl (xs ++ ys)) else none) = some d := h
  by_cases z : xs.length + ys.length ≤ sizeLine
  · rw [if_pos z] at h; cases h
    obtain ⟨a, vs, rfl, ha, rv⟩ := rx
    obtain ⟨b, us, rfl, hb, ru⟩ := ry
    exact ⟨a, b, vs, us, rfl, rfl, ha, hb, by rw [rv.len, ru.len]; exact z, fun p hp => k _ (w.up p _) (.new hp) (.newL (.refl w) hp (rv.app ru))⟩
  · rw [if_neg z] at h; cases h

/-! ### slices -/
abbrev PO2 (η : Type) := St η → Out (Option Int)
section
variable {η : Type} [HR η] {f : Fm} {W : WX} {Θ Θ1 Θ2 Θx : Th} {e : Expr} {pos : Pos} {κ : Sl}
def lO (K : PySem.W.Frag) (mg : Str → Option Value) (f : Fm) (W : WX) (Θ : Th) (t : PO2 η) : TO := fun σ H Q => ∃ w s φ, w.H = H ∧ OwnS K f w Θ σ s φ ∧
  match t s with
  | .ok o => ∀ w', Gr no w w' → Q o w'.H
  | .exc c => XP mg W w σ c
  | .stuck => False
structure QO (X : Cx) (f : Fm) (W : WX) (Θ : Th) (e : Option Expr) (t : PO2 η) : Prop where
  r : PO X e (lO X.K X.mg f W Θ t)
def fNoPart : PO2 η := fun _ => .ok none
def asI : D → Out (Option Int)
  | .int i => .ok (some i)
  | _ => .stuck
@[simp] theorem asI_i {i : Int} : asI (.int i) = .ok (some i) := rfl
def fPart (t : PR η) : PO2 η := fun s => (t s).bind asI
theorem qo_none : QO (η := η) X f W Θ none fNoPart := ⟨⟨fun pins s σ H Q I ⟨w, s', φ, e, o, h⟩ => (po_none (X := X)).run pins s σ H Q I (by subst e; exact h w (.refl w))⟩⟩
theorem qo_some {t : PR η} (h : QP X f W Θ e t .p) : QO X f W Θ (some e) (fPart t) := ⟨⟨fun pins s σ H Q I ⟨w, s', φ, e, o, hh⟩ => (po_some h.r).run pins s σ H Q I (by
  subst e
  refine ⟨w, s', φ, rfl, o, ?_⟩
  unfold fPart at hh
  cases ht : t s' with
  | stuck => rw [ht] at hh; exact hh
  | exc c => rw [ht] at hh; exact hh
  | ok d =>
    rw [ht] at hh
    intro v w1 g1 r1
    have r := r1.rd
    cases d with
    | int i => exact ⟨i, r, hh w1 g1⟩
    | _ => exact hh.elim)⟩⟩
def slO (x : D) (lo hi : Option Int) : Option D := match x with
  | .tup xs => some (.tup (cutD xs lo hi))
  | .str z => if z.length ≤ sizeLine then some (.str (cutS z lo hi)) else none
  | .fl xs => some (.fl (cutD xs lo hi))
  | _ => none
def rSlAll (K : PySem.W.Frag) : V → Option Int → Option Int → Hp → VK → Prop := fun x lo hi H Q => rSlA K x lo hi H Q ∨ (rSlL K x lo hi H Q ∨ rSlS x lo hi H Q)
theorem sl_all : SlR X (rSlAll X.K) := sl_tupA.or (sl_list.or sl_str)
theorem l_sl {x : V} {lo hi : Option Int} {w : Wd} {Q : VK} {dx d : D} (rx : Fv X.K w dx x) (h : slO dx lo hi = some d) (k : ∀ v w', Gr no w w' → RP X.K w w' .p d v → Q v w'.H) : rSlAll X.K x lo hi w.H (Fz Q) := by
  cases dx <;> first | (cases h; done) | skip
  · rename_i z
    have h : (if z.length ≤ sizeLine then some (D.str (cutS z lo hi)) else none) = some d := h
    by_cases c : z.length ≤ sizeLine
    · rw [if_pos c] at h; cases h
      exact .inr (.inr ⟨_, rx, c, .inl (k _ w (.refl w) (.p rfl))⟩)
    · rw [if_neg c] at h; cases h
  · rename_i xs
    cases h
    obtain ⟨a, vs, rfl, ht, rv, hk⟩ := rx
    refine .inl ⟨a, vs, rfl, ht, fun e => ?_, fun _ p hp => .inl (k _ (w.up p _) (.new hp) (.p (.newT hp (cutD_ok rv lo hi))))⟩
    have e2 : cutD xs lo hi = xs := by
      unfold cutD
      rw [← rv.len, e.1, e.2, List.drop_zero, Nat.sub_zero, rv.len, List.take_length]
    rw [e2] at k
    exact .inl (k _ w (.refl w) (.p ⟨a, vs, rfl, ht, rv, hk⟩))
  · rename_i xs
    cases h
    obtain ⟨a, vs, rfl, hl, rv⟩ := rx
    exact .inr (.inl ⟨a, vs, rfl, hl.l, fun p hp => fz_new hp (cutD_ok rv lo hi) k⟩)
def fSl (t : PR η) (tl th : PO2 η) : PR η := fun s => (t s).bind fun x => (tl s).bind fun lo => (th s).bind fun hi => .of (slO x lo hi)
theorem qp_slice {lo hi : Option Expr} {p2 : Pos} {t : PR η} {tl th : PO2 η} (he : QP X f W Θ e t κ) (hl : QO X f W Θ lo tl) (hh : QO X f W Θ hi th) (f1 : κ.flat = true := by rfl) : QP X f W Θ (.Subscript e (.Slice lo hi none p2) pos) (fSl t tl th) .p :=
  ⟨PE.imp (pe_fzo (pe_slice sl_all he.r hl.r hh.r)) fun σ H Q ⟨w, s, φ, e, o, h⟩ => by
    subst e
    refine ⟨w, s, φ, rfl, o, ?_⟩
    unfold fSl at h
    cases ht : t s with
    | stuck => rw [ht] at h; exact h
    | exc c => rw [ht] at h; exact h
    | ok x =>
      rw [ht] at h
      intro v w1 g1 r1
      refine ⟨w1, s, φ, rfl, o.gr0 g1, ?_⟩
      simp only [Out.bind_ok] at h
      cases htl : tl s with
      | stuck => rw [htl] at h; exact h
      | exc c => rw [htl] at h; exact XP.gr h g1
      | ok lo =>
        rw [htl] at h
        intro w2 g2
        refine ⟨w2, s, φ, rfl, o.gr0 (g1.trans g2), ?_⟩
        simp only [Out.bind_ok] at h
        cases hth : th s with
        | stuck => rw [hth] at h; exact h
        | exc c => rw [hth] at h; exact XP.gr h (g1.trans g2)
        | ok hi =>
          rw [hth] at h
          intro w3 g3
          simp only [Out.bind_ok] at h
          cases hs : slO x lo hi with
          | none => rw [hs] at h; exact h.elim
          | some d =>
            rw [hs] at h
            exact l_sl ((r1.gr (g2.trans g3)).fv f1) hs fun v w4 g4 r4 => h v w4 ((g1.trans (g2.trans g3)).trans g4) (r4.back (g1.trans (g2.trans g3)))⟩
end
end
end FL

/-! FJ: built-ins called; what is written in place. -/
namespace FL
open PySem PySem.Spec PyProof.Rows L2
variable [TabT]
def Fvs (K : PySem.W.Frag) (w : Wd) : List D → List V → Prop
  | [], vs => vs = []
  | d :: ds, vs => ∃ v r, vs = v :: r ∧ Fv K w d v ∧ Fvs K w ds r
section
variable {K : PySem.W.Frag} {w w' : Wd}
theorem RDs.fvs : ∀ {ds : List D} {vs : List V}, RDs K w ds vs → Fvs K w ds vs
  | [], _, h => h
  | _ :: _, _, ⟨v, r, e, h1, h2⟩ => ⟨v, r, e, h1.fv, RDs.fvs h2⟩
def allFl (κs : List Sl) : Bool := κs.all Sl.flat
theorem RPs.fvs : ∀ {κs : List Sl} {ds : List D} {vs : List V}, allFl κs = true → RPs K w w' κs ds vs → Fvs K w' ds vs
  | [], _, _, _, ⟨h1, h2⟩ => by subst h1 h2; rfl
  | κ :: κs, _, _, hp, ⟨d, es, v, r, h1, h2, h3, h4⟩ => by
    subst h1 h2
    have hp : (κ.flat && allFl κs) = true := hp
    rw [Bool.and_eq_true] at hp
    exact ⟨v, r, rfl, h3.fv hp.1, RPs.fvs hp.2 h4⟩
end
def LPA (K : PySem.W.Frag) (r : List V → Hp → VK → Prop) (g : List D → Option D) (κ : Sl) : Prop := ∀ xs w Q ds d, Fvs K w ds xs → g ds = some d → (∀ v w', Gr no w w' → RP K w w' κ d v → Q v w'.H) → r xs w.H Q
section
variable {η : Type} [HR η] {X : Cx} {f : Fm} {W : WX} {Θ Θ1 Θ2 Θx : Th} {e : Expr} {es : List Expr} {pos p : Pos} {κ : Sl} {κs : List Sl}
def fCB (g : List D → Option D) (ts : PRs η) : PR η := fun s => (ts s).bind fun ds => .of (g ds)
def eCB (g : List D → Option D) (ts : St η → Eff η (List D)) : ER η := fun s => (ts s).bind fun ds s1 => (Out.of (g ds)).eff s1
variable {r : List V → Hp → VK → Prop} {g : List D → Option D} {ts : PRs η} {te : St η → Eff η (List D)} {x : Str} {id T : String}
theorem lcb {K : PySem.W.Frag} {mg : Str → Option Value} (hr : LPA K r g κ) (hf : allFl κs = true) {σ : L2.St} {H : Hp} {Q : VK} (h : lP K mg f W Θ (fCB g ts) κ σ H Q) : tCB r (lPs K mg f W Θ ts κs) σ H Q := by
  obtain ⟨w, s, φ, rfl, hs, h⟩ := h
  refine ⟨w, s, φ, rfl, hs, ?_⟩
  unfold fCB at h
  cases ha : ts s with
  | stuck => rw [ha] at h; exact h
  | exc c => rw [ha] at h; exact h
  | ok ds =>
    rw [ha] at h
    intro vs w1 g1 r1
    simp only [Out.bind_ok] at h
    cases hg : g ds with
    | none => rw [hg] at h; exact h.elim
    | some d =>
      rw [hg] at h
      exact hr vs w1 Q ds d (r1.fvs hf) hg fun v w2 g2 r2 => h v w2 (g1.trans g2) (r2.back g1)
theorem lecb {K : PySem.W.Frag} {mg : Str → Option Value} (hr : LPA K r g κ) {σ : L2.St} {H : Hp} {Q : VK} (h : lE K mg f W Θ Θ1 Θx (fun w φ d v => RE K f w φ κ d v) (eCB g te) σ H Q) : tCB r (lE K mg f W Θ Θ1 Θx (rDs K) te) σ H Q := by
  obtain ⟨w, s, φ, rfl, hs, h⟩ := h
  refine ⟨w, s, φ, rfl, hs, Ef.mono (Ef.bind h) ?_⟩
  rintro vs H1 ⟨w1, ds, s1, φ1, rfl, g1, o1, r1, h⟩
  cases hg : g ds with
  | none => rw [hg] at h; exact h.elim
  | some d =>
    rw [hg] at h
    exact hr vs w1 Q ds d (RDs.fvs r1) hg fun v w2 g2 r2 => h v w2 φ1 g2.any (o1.gr0 g2) (r2.re o1 g2)
theorem qp_callB (hc : CallR X (.builtin id) r) (hl : LPA X.K r g κ) (hg : Gl X x) (hm : X.mg x = none) (hv : bootBuiltins x = some (.builtin id)) (ha : QPs X f W Θ (e :: es) ts κs) (hf : allFl κs = true := by rfl) (hn : x ≠ "__name__" := by decide) (hdb : (x == ("__debug__" : Str)) = false := by decide)
    (he : starEach (e :: es) X.env = (false, eval e X.env) :: starEach es X.env := by rfl) (hpl : (backTo pos (starEach es X.env)).any (·.1) = false := by rfl) : QP X f W Θ (.Call (.Name x p) (e :: es) [] pos) (fCB g ts) κ :=
  ⟨PE.imp (pe_callB hc hg hm hv ha.r hn hdb he hpl) fun _ _ _ h => lcb hl hf h⟩
theorem qp_callTy (hc : CallR X (.type T) r) (hl : LPA X.K r g κ) (hg : Gl X x) (hm : X.mg x = none) (hv : bootBuiltins x = some (.type T)) (ha : QPs X f W Θ (e :: es) ts κs) (hf : allFl κs = true := by rfl) (hn : x ≠ "__name__" := by decide) (hdb : (x == ("__debug__" : Str)) = false := by decide)
    (he : starEach (e :: es) X.env = (false, eval e X.env) :: starEach es X.env := by rfl) (hpl : (backTo pos (starEach es X.env)).any (·.1) = false := by rfl) : QP X f W Θ (.Call (.Name x p) (e :: es) [] pos) (fCB g ts) κ :=
  ⟨PE.imp (pe_callTy hc hg hm hv ha.r hn hdb he hpl) fun _ _ _ h => lcb hl hf h⟩
theorem qe_callB (hc : CallR X (.builtin id) r) (hl : LPA X.K r g κ) (hg : Gl X x) (hm : X.mg x = none) (hv : bootBuiltins x = some (.builtin id)) (ha : QAs X f W Θ (e :: es) te Θ1 Θx) (hn : x ≠ "__name__" := by decide) (hdb : (x == ("__debug__" : Str)) = false := by decide)
    (he : starEach (e :: es) X.env = (false, eval e X.env) :: starEach es X.env := by rfl) (hpl : (backTo pos (starEach es X.env)).any (·.1) = false := by rfl) : QE X f W Θ (.Call (.Name x p) (e :: es) [] pos) (eCB g te) κ Θ1 Θx :=
  ⟨PE.imp (pe_callB hc hg hm hv ha.r hn hdb he hpl) fun _ _ _ h => lecb hl h⟩
theorem qe_callTy (hc : CallR X (.type T) r) (hl : LPA X.K r g κ) (hg : Gl X x) (hm : X.mg x = none) (hv : bootBuiltins x = some (.type T)) (ha : QAs X f W Θ (e :: es) te Θ1 Θx) (hn : x ≠ "__name__" := by decide) (hdb : (x == ("__debug__" : Str)) = false := by decide)
    (he : starEach (e :: es) X.env = (false, eval e X.env) :: starEach es X.env := by rfl) (hpl : (backTo pos (starEach es X.env)).any (·.1) = false := by rfl) : QE X f W Θ (.Call (.Name x p) (e :: es) [] pos) (eCB g te) κ Θ1 Θx :=
  ⟨PE.imp (pe_callTy hc hg hm hv ha.r hn hdb he hpl) fun _ _ _ h => lecb hl h⟩
/-- a built-in class as a value -/
theorem qp_ty {n : String} (hg : Gl X x) (hm : X.mg x = none) (hv : bootBuiltins x = some (.type n)) (h1 : x ≠ "__name__" := by decide) (h2 : (x == ("__debug__" : Str)) = false := by decide) : QP (η := η) X f W Θ (.Name x pos) (fC (.ty n)) .p :=
  qp_c (pe_bltn (v := .ty n) hg hm hv rfl h1 h2) (fun _ _ _ h => h) fun _ => rfl
end
section
variable {X : Cx}
/-! ### len, isinstance -/
def lenD : D → Option Nat
  | .tup xs => some xs.length
  | .fl xs => some xs.length
  | .str z => if z.length ≤ sizeLine then some z.length else none
  | _ => none
def lenO : List D → Option D
  | [d] => (lenD d).map fun (n : Nat) => .int (n : Int)
  | _ => none
theorem RKs.len {K : PySem.W.Frag} {w : Wd} : ∀ {ds : List (K2 × D)} {vs : List (K2 × V)}, RKs K w ds vs → vs.length = ds.length
  | [], _, h => by cases h; rfl
  | (_, _) :: _, _, ⟨v, r, e1, _, e3⟩ => by subst e1; rw [List.length_cons, List.length_cons, RKs.len e3]
def rLenA (K : PySem.W.Frag) : List V → Hp → VK → Prop := fun xs H Q => (∃ x n, xs = [x] ∧ LenV K x H n ∧ Q (.int n) H) ∨ ((∃ a kvs, xs = [V.ref a] ∧ H a = some (.dK kvs) ∧ Q (.int kvs.length) H) ∨ rLenT xs H Q)
theorem call_lenA : CallR X (.builtin "len") (rLenA X.K) := call_len.or (call_lenD.or call_len_dT)
theorem l_lenO : LPA X.K (rLenA X.K) lenO .p := by
  intro xs w Q ds d r h k
  match ds, h with
  | [dx], h =>
    obtain ⟨n, hn, rfl⟩ := Option.map_eq_some_iff.mp (show (lenD dx).map (fun (n : Nat) => D.int (n : Int)) = some d from h)
    obtain ⟨v, _, rfl, r1, rfl⟩ := r
    cases dx with
    | tup ys =>
      cases hn
      obtain ⟨a, vs, rfl, ht, rv, _⟩ := r1
      exact .inl ⟨_, ys.length, rfl, .inr ⟨vs, ht, rv.len.symm⟩, k _ w (.refl w) (.p rfl)⟩
    | fl ys =>
      cases hn
      obtain ⟨a, vs, rfl, ht, rv⟩ := r1
      exact .inl ⟨_, ys.length, rfl, .inl ⟨vs, ht.l, rv.len.symm⟩, k _ w (.refl w) (.p rfl)⟩
    | str z =>
      have hn : (if z.length ≤ sizeLine then some z.length else none) = some n := hn
      by_cases c : z.length ≤ sizeLine
      · rw [if_pos c] at hn; cases hn
        cases (show v = .str z from r1)
        exact .inl ⟨_, z.length, rfl, ⟨c, rfl⟩, k _ w (.refl w) (.p rfl)⟩
      · rw [if_neg c] at hn; cases hn
    | _ => cases hn
/-- the kind of a value -/
def tyD : D → Option String
  | .non => some "NoneType"
  | .bl _ => some "bool"
  | .int _ => some "int"
  | .str _ => some "str"
  | .tup _ => some "tuple"
  | .fl _ => some "list"
  | .fd false _ => some "dict"
  | _ => none
def isK (t T : String) : Bool := t == T || (t == "bool" && T == "int")
def kinds : List String := ["NoneType", "bool", "int", "str", "tuple", "list", "dict"]
theorem tyD_mem {d : D} {t : String} (e : tyD d = some t) : t ∈ kinds := by
  cases d with
  | fd b _ => cases b <;> cases e; decide
  | ty _ => cases e
  | ob _ => cases e
  | _ => cases e; decide
theorem isK_ok {t T : String} (ht : t ∈ kinds) (hT : T ∈ kinds) : kitB t T = some (isK t T) := by
  have h : ∀ t ∈ kinds, ∀ T ∈ kinds, kitB t T = some (isK t T) := by decide +kernel
  exact h t ht T hT
theorem tyD_ok {K : PySem.W.Frag} {w : Wd} {d : D} {v : V} {t : String} (r : Fv K w d v) (e : tyD d = some t) : TyX K w.H v (.type t) := by
  cases d with
  | non => cases e; rw [show v = _ from r]; exact .base .non
  | bl b => cases e; rw [show v = _ from r]; exact .base (.bl b)
  | int b => cases e; rw [show v = _ from r]; exact .base (.int b)
  | str b => cases e; rw [show v = _ from r]; exact .base (.str b)
  | ty b => cases e
  | ob b => cases e
  | tup ds =>
    cases e
    obtain ⟨a, vs, rfl, h, _⟩ := r
    rcases h with (h | ⟨o, h⟩) | ⟨o, its, n, h, hc, _⟩
    · exact .base (.tup h)
    · exact .fTuple h
    · exact .kTuple h hc
  | fl ds =>
    cases e
    obtain ⟨a, vs, rfl, h, _⟩ := r
    rcases h with (h | ⟨o, h⟩) | ⟨its, n, h, _⟩
    · exact .base (.lst h)
    · exact .base (.frz h)
    · exact .kList h rfl
  | fd b kvs =>
    cases b with
    | true => cases e
    | false =>
      cases e
      obtain ⟨a, u, vs, rfl, hr, hd, _⟩ := r
      cases hd
      rcases hr with h | ⟨o, h⟩
      · exact .base (.dK h)
      · exact .fDict h
def isiO : List D → Option D
  | [d, .ty T] => if T ∈ kinds then (tyD d).map fun t => .bl (isK t T) else none
  | _ => none
theorem l_isiO : LPA X.K (rIsi X.K) isiO .p := by
  intro xs w Q ds d r h k
  match ds, h with
  | [dx, .ty T], h =>
    have h : (if T ∈ kinds then (tyD dx).map (fun t => D.bl (isK t T)) else none) = some d := h
    by_cases c : T ∈ kinds
    · rw [if_pos c] at h
      obtain ⟨t, ht, rfl⟩ := Option.map_eq_some_iff.mp h
      obtain ⟨v, w1, rfl, r1, v2, w2, rfl, r2, rfl⟩ := r
      cases (show v2 = .ty T from r2)
      exact ⟨v, .ty T, .type t, .type T, isK t T, rfl, .ty T, tyD_ok r1 ht, kit_ty (isK_ok (tyD_mem ht) c), k _ w (.refl w) (.p rfl)⟩
    · rw [if_neg c] at h; cases h

/-! ### numbers, texts, lists by built-ins -/
def absO : List D → Option D
  | [.int i] => some (.int (if i < 0 then -i else i))
  | _ => none
theorem l_absO : LPA X.K (fun xs H Q => ∃ i, xs = [.int i] ∧ Q (.int (if i < 0 then -i else i)) H) absO .p := by
  intro xs w Q ds d r h k
  match ds, h with
  | [.int i], h =>
    cases h
    obtain ⟨v, _, rfl, r1, rfl⟩ := r
    cases (show v = .int i from r1)
    exact ⟨i, rfl, k _ w (.refl w) (.p rfl)⟩
def max2O : List D → Option D
  | [.int i, .int j] => some (.int (if j > i then j else i))
  | _ => none
theorem l_max2O : LPA X.K (fun xs H Q => ∃ i j, xs = [.int i, .int j] ∧ Q (.int (if j > i then j else i)) H) max2O .p := by
  intro xs w Q ds d r h k
  match ds, h with
  | [.int i, .int j], h =>
    cases h
    obtain ⟨v, _, rfl, r1, v2, _, rfl, r2, rfl⟩ := r
    cases (show v = .int i from r1)
    cases (show v2 = .int j from r2)
    exact ⟨i, j, rfl, k _ w (.refl w) (.p rfl)⟩
def min2O : List D → Option D
  | [.int i, .int j] => some (.int (if j < i then j else i))
  | _ => none
theorem l_min2O : LPA X.K (fun xs H Q => ∃ i j, xs = [.int i, .int j] ∧ Q (.int (if j < i then j else i)) H) min2O .p := by
  intro xs w Q ds d r h k
  match ds, h with
  | [.int i, .int j], h =>
    cases h
    obtain ⟨v, _, rfl, r1, v2, _, rfl, r2, rfl⟩ := r
    cases (show v = .int i from r1)
    cases (show v2 = .int j from r2)
    exact ⟨i, j, rfl, k _ w (.refl w) (.p rfl)⟩
def intO : List D → Option D
  | [.int i] => some (.int i)
  | [.bl b] => some (.int (if b then 1 else 0))
  | [.str z] => if z.length ≤ 640 then (PySem.intText? z).map .int else none
  | _ => none
theorem call_intA : CallR X (.type "int") (fun xs H Q => ((∃ i, xs = [.int i] ∧ Q (.int i) H) ∨ ∃ k, xs = [.bl k] ∧ Q (.int (if k then 1 else 0)) H) ∨ ∃ a n, xs = [.str a] ∧ PySem.intText? a = some n ∧ a.length ≤ 640 ∧ Q (.int n) H) := call_int1.or call_int_str
theorem l_intO : LPA X.K (fun xs H Q => ((∃ i, xs = [.int i] ∧ Q (.int i) H) ∨ ∃ k, xs = [.bl k] ∧ Q (.int (if k then 1 else 0)) H) ∨ ∃ a n, xs = [.str a] ∧ PySem.intText? a = some n ∧ a.length ≤ 640 ∧ Q (.int n) H) intO .p := by
  intro xs w Q ds d r h k
  match ds, h with
  | [.int i], h => cases h; obtain ⟨v, _, rfl, r1, rfl⟩ := r; cases (show v = .int i from r1); exact .inl (.inl ⟨i, rfl, k _ w (.refl w) (.p rfl)⟩)
  | [.bl i], h => cases h; obtain ⟨v, _, rfl, r1, rfl⟩ := r; cases (show v = .bl i from r1); exact .inl (.inr ⟨i, rfl, k _ w (.refl w) (.p rfl)⟩)
  | [.str z], h =>
    have h : (if z.length ≤ 640 then (PySem.intText? z).map D.int else none) = some d := h
    by_cases c : z.length ≤ 640
    · rw [if_pos c] at h
      obtain ⟨n, hn, rfl⟩ := Option.map_eq_some_iff.mp h
      obtain ⟨v, _, rfl, r1, rfl⟩ := r; cases (show v = .str z from r1); exact .inr ⟨z, n, rfl, hn, c, k _ w (.refl w) (.p rfl)⟩
    · rw [if_neg c] at h; cases h
def strO : List D → Option D
  | [.int i] => if i.natAbs.log2 < 1920 then some (.str (toString i)) else none
  | _ => none
theorem l_strO : LPA X.K (fun xs H Q => ∃ i, xs = [.int i] ∧ i.natAbs.log2 < 1920 ∧ Q (.str (toString i)) H) strO .p := by
  intro xs w Q ds d r h k
  match ds, h with
  | [.int i], h =>
    have h : (if i.natAbs.log2 < 1920 then some (D.str (toString i)) else none) = some d := h
    by_cases c : i.natAbs.log2 < 1920
    · rw [if_pos c] at h; cases h
      obtain ⟨v, _, rfl, r1, rfl⟩ := r; cases (show v = .int i from r1); exact ⟨i, rfl, c, k _ w (.refl w) (.p rfl)⟩
    · rw [if_neg c] at h; cases h
def ordO : List D → Option D
  | [.str z] => if z.length = 1 then some (.int (z.cps.getD 0 0 : Nat)) else none
  | _ => none
theorem l_ordO : LPA X.K (fun xs H Q => ∃ x, xs = [.str x] ∧ x.length = 1 ∧ Q (.int (x.cps.getD 0 0 : Nat)) H) ordO .p := by
  intro xs w Q ds d r h k
  match ds, h with
  | [.str z], h =>
    have h : (if z.length = 1 then some (D.int (z.cps.getD 0 0 : Nat)) else none) = some d := h
    by_cases c : z.length = 1
    · rw [if_pos c] at h; cases h
      obtain ⟨v, _, rfl, r1, rfl⟩ := r; cases (show v = .str z from r1); exact ⟨z, rfl, c, k _ w (.refl w) (.p rfl)⟩
    · rw [if_neg c] at h; cases h
/-- a list of ints, of bools, of texts -/
def asInts : List D → Option (List Int)
  | [] => some []
  | .int i :: ds => (asInts ds).map (i :: ·)
  | _ => none
def asBls : List D → Option (List Bool)
  | [] => some []
  | .bl i :: ds => (asBls ds).map (i :: ·)
  | _ => none
def asStrs : List D → Option (List Str)
  | [] => some []
  | .str i :: ds => (asStrs ds).map (i :: ·)
  | _ => none
theorem asInts_ok : ∀ {ds : List D} {ns : List Int}, asInts ds = some ns → ds = ns.map D.int
  | [], _, h => by cases h; rfl
  | .int i :: ds, _, h => by
    obtain ⟨ns, h1, rfl⟩ := Option.map_eq_some_iff.mp (show (asInts ds).map (i :: ·) = some _ from h)
    rw [asInts_ok h1]; rfl
theorem asBls_ok : ∀ {ds : List D} {ns : List Bool}, asBls ds = some ns → ds = ns.map D.bl
  | [], _, h => by cases h; rfl
  | .bl i :: ds, _, h => by
    obtain ⟨ns, h1, rfl⟩ := Option.map_eq_some_iff.mp (show (asBls ds).map (i :: ·) = some _ from h)
    rw [asBls_ok h1]; rfl
theorem asStrs_ok : ∀ {ds : List D} {ns : List Str}, asStrs ds = some ns → ds = ns.map D.str
  | [], _, h => by cases h; rfl
  | .str i :: ds, _, h => by
    obtain ⟨ns, h1, rfl⟩ := Option.map_eq_some_iff.mp (show (asStrs ds).map (i :: ·) = some _ from h)
    rw [asStrs_ok h1]; rfl
@[simp] theorem asInts_map : ∀ (ns : List Int), asInts (ns.map D.int) = some ns
  | [] => rfl
  | i :: ns => by show (asInts (ns.map D.int)).map (i :: ·) = _; rw [asInts_map]; rfl
@[simp] theorem asBls_map : ∀ (ns : List Bool), asBls (ns.map D.bl) = some ns
  | [] => rfl
  | i :: ns => by show (asBls (ns.map D.bl)).map (i :: ·) = _; rw [asBls_map]; rfl
@[simp] theorem asStrs_map : ∀ (ns : List Str), asStrs (ns.map D.str) = some ns
  | [] => rfl
  | i :: ns => by show (asStrs (ns.map D.str)).map (i :: ·) = _; rw [asStrs_map]; rfl
def sumO : List D → Option D
  | [.fl ds] => (asInts ds).map fun ns => .int ns.sum
  | _ => none
theorem l_sumO : LPA X.K (rSum X.K) sumO .p := by
  intro xs w Q ds d r h k
  match ds, h with
  | [.fl es], h =>
    obtain ⟨ns, hn, rfl⟩ := Option.map_eq_some_iff.mp (show (asInts es).map (fun ns => D.int ns.sum) = some d from h)
    cases asInts_ok hn
    obtain ⟨v, _, rfl, ⟨a, vs, rfl, hs, rv⟩, rfl⟩ := r
    cases RDs.of_ints rv
    exact ⟨a, ns, rfl, hs.l, k _ w (.refl w) (.p rfl)⟩
def allO : List D → Option D
  | [.fl ds] => (asBls ds).map fun bs => .bl (bs.all _root_.id)
  | _ => none
theorem l_allO : LPA X.K (rAll X.K) allO .p := by
  intro xs w Q ds d r h k
  match ds, h with
  | [.fl es], h =>
    obtain ⟨ns, hn, rfl⟩ := Option.map_eq_some_iff.mp (show (asBls es).map (fun ns => D.bl (ns.all _root_.id)) = some d from h)
    cases asBls_ok hn
    obtain ⟨v, _, rfl, ⟨a, vs, rfl, hs, rv⟩, rfl⟩ := r
    cases RDs.of_bls rv
    exact ⟨a, ns, rfl, hs.l, k _ w (.refl w) (.p rfl)⟩
def anyO : List D → Option D
  | [.fl ds] => (asBls ds).map fun bs => .bl (bs.any _root_.id)
  | _ => none
theorem l_anyO : LPA X.K (rAny X.K) anyO .p := by
  intro xs w Q ds d r h k
  match ds, h with
  | [.fl es], h =>
    obtain ⟨ns, hn, rfl⟩ := Option.map_eq_some_iff.mp (show (asBls es).map (fun ns => D.bl (ns.any _root_.id)) = some d from h)
    cases asBls_ok hn
    obtain ⟨v, _, rfl, ⟨a, vs, rfl, hs, rv⟩, rfl⟩ := r
    cases RDs.of_bls rv
    exact ⟨a, ns, rfl, hs.l, k _ w (.refl w) (.p rfl)⟩
/-- the greatest -/
def maxN : Int → List Int → Int
  | m, [] => m
  | m, n :: ns => maxN (if n > m then n else m) ns
theorem maxN_ge : ∀ (ns : List Int) (m : Int), m ≤ maxN m ns ∧ (∀ y ∈ ns, y ≤ maxN m ns) ∧ (maxN m ns = m ∨ maxN m ns ∈ ns)
  | [], m => ⟨Int.le_refl _, (fun _ h => by cases h), Or.inl rfl⟩
  | n :: ns, m => by
    obtain ⟨h1, h2, h3⟩ := maxN_ge ns (if n > m then n else m)
    refine ⟨?_, fun y hy => ?_, ?_⟩
    · refine Int.le_trans ?_ h1; split <;> omega
    · rcases List.mem_cons.mp hy with rfl | hy
      · refine Int.le_trans ?_ h1; split <;> omega
      · exact h2 y hy
    · rcases h3 with h3 | h3
      · show maxN (if n > m then n else m) ns = m ∨ _
        rw [show maxN m (n :: ns) = maxN (if n > m then n else m) ns from rfl, h3]
        split
        · exact .inr List.mem_cons_self
        · exact .inl rfl
      · exact .inr (List.mem_cons_of_mem _ h3)
def maxLO : List D → Option D
  | [.fl ds] => match asInts ds with
    | some (n :: ns) => some (.int (maxN n ns))
    | _ => none
  | _ => none
theorem l_maxLO : LPA X.K (rMax X.K) maxLO .p := by
  intro xs w Q ds d r h k
  match ds, h with
  | [.fl es], h =>
    have h : (match asInts es with | some (n :: ns) => some (D.int (maxN n ns)) | _ => none) = some d := h
    cases e : asInts es with
    | none => rw [e] at h; cases h
    | some l =>
      rw [e] at h
      cases l with
      | nil => cases h
      | cons n ns =>
        cases h
        cases asInts_ok e
        obtain ⟨v, _, rfl, ⟨a, vs, rfl, hs, rv⟩, rfl⟩ := r
        cases RDs.of_ints rv
        refine ⟨a, n :: ns, rfl, hs.l, by simp, fun m hm hy => ?_⟩
        obtain ⟨h1, h2, h3⟩ := maxN_ge ns n
        have h4 : maxN n ns ∈ n :: ns := h3.elim (fun z => by rw [z]; exact List.mem_cons_self) fun z => List.mem_cons_of_mem _ z
        have h5 : m ≤ maxN n ns := (List.mem_cons.mp hm).elim (fun z => by rw [z]; exact h1) fun z => h2 m z
        have : m = maxN n ns := Int.le_antisymm h5 (hy _ h4)
        subst this
        exact k _ w (.refl w) (.p rfl)
def tupC : List D → Option D
  | [.tup xs] => some (.tup xs)
  | [.fl xs] => some (.tup xs)
  | _ => none
def rTupC (K : PySem.W.Frag) : List V → Hp → VK → Prop := fun xs H Q => ∃ p ys, xs = [.ref p] ∧ ((SqL K H p ys ∧ ∀ l, H l = none → Q (.ref l) (upd H l (.tup ys))) ∨ (SqT K H p ys ∧ Q (.ref p) H))
theorem l_tupC : LPA X.K (rTupC X.K) tupC .p := by
  intro xs w Q ds d r h k
  match ds, h with
  | [.tup ys], h =>
    cases h
    obtain ⟨v, _, rfl, ⟨a, vs, rfl, ht, rv, hk⟩, rfl⟩ := r
    exact ⟨a, vs, rfl, .inr ⟨ht, k _ w (.refl w) (.p ⟨a, vs, rfl, ht, rv, hk⟩)⟩⟩
  | [.fl ys], h =>
    cases h
    obtain ⟨v, _, rfl, ⟨a, vs, rfl, hs, rv⟩, rfl⟩ := r
    exact ⟨a, vs, rfl, .inl ⟨hs.l, fun p hp => k _ (w.up p _) (.new hp) (.p (.newT hp rv))⟩⟩
def lstC : List D → Option D
  | [.tup xs] => some (.fl xs)
  | [.fl xs] => some (.fl xs)
  | _ => none
theorem l_lstC : LPA X.K (fun xs H Q => ∃ p ys, xs = [.ref p] ∧ (SqL X.K H p ys ∨ SqT X.K H p ys) ∧ ∀ l, H l = none → Q (.ref l) (upd H l (.lst ys))) lstC (.own (.l .p)) := by
  intro xs w Q ds d r h k
  match ds, h with
  | [.tup ys], h =>
    cases h
    obtain ⟨v, _, rfl, ⟨a, vs, rfl, ht, rv, hk⟩, rfl⟩ := r
    exact ⟨a, vs, rfl, .inr ht, fun p hp => k _ (w.up p _) (.new hp) (.newL (.refl w) hp rv)⟩
  | [.fl ys], h =>
    cases h
    obtain ⟨v, _, rfl, ⟨a, vs, rfl, hs, rv⟩, rfl⟩ := r
    exact ⟨a, vs, rfl, .inl hs.l, fun p hp => k _ (w.up p _) (.new hp) (.newL (.refl w) hp rv)⟩
end
end FL

/-! FK: what is written in place; calls that write arguments. -/
namespace FL
open PySem PySem.Spec PyProof.Rows L2
variable [TabT]
section
variable {η : Type} [HR η] {K : PySem.W.Frag} {f : Fm} {w w' w1 w2 : Wd} {Θ Θ1 Θ2 Θx : Th} {σ : L2.St} {s : St η} {φ : Fp} {mg : Str → Option Value} {W : WX}
/-- a slot that is its own -/
def Sl.ow : Sl → Option Tag
  | .own t => some t
  | .io t => some t
  | _ => none
theorem OwnS.ow (h : OwnS K f w Θ σ s φ) {i : Nat} {κ : Sl} {t : Tag} (hi : Θ[i]? = some κ) (hk : κ.ow = some t) : ∃ d v, s.s[i]? = some (some d) ∧ σ[i]? = some (some v) ∧ Rp true K w t d v (φ.fp i) ∧ (∀ u, κ = .io u → v = f.π i) := by
  cases κ with
  | own u => cases hk; obtain ⟨d, v, h1, h2, h3⟩ := h.own i _ hi; exact ⟨d, v, h1, h2, h3, fun _ z => nomatch z⟩
  | io u => cases hk; obtain ⟨d, h1, h2, h3⟩ := h.io i _ hi; exact ⟨d, _, h1, h2, h3, fun _ _ => rfl⟩
  | _ => cases hk
/-- the object of a slot is written -/
theorem OwnS.edit (h : OwnS K f w Θ σ s φ) {i : Nat} {κ : Sl} {t : Tag} {d' : D} {v : V} {g : Addr → Prop} {A : List Addr} (hi : Θ[i]? = some κ) (hk : κ.ow = some t) (hv : σ[i]? = some (some v)) (e : Gr g w w') (hg : ∀ a, g a → a ∈ φ.fp i)
    (r : Rp true K w' t d' v A) (nd : A.Nodup) (hA : ∀ a ∈ A, a ∈ φ.fp i ∨ (f a ∧ ¬ φ.all a)) : OwnS K f w' Θ σ (s.set i d') (φ.set i A) := by
  have hl : i < Θ.length := (List.getElem?_eq_some_iff.mp hi).1
  have away : ∀ {a : Addr}, a ∈ A → ¬ (φ.set i []).all a := fun {a} ha => by
    rcases hA a ha with z | z
    · exact h.drop_sep i z
    · exact fun y => z.2 (Fp.drop_all y)
  have gs : ∀ {j : Nat}, j ≠ i → ∀ x ∈ φ.fp j, ¬ g x := fun {j} c x hx z => c (h.sep j i x hx (hg x z))
  have gf : ∀ a, g a → f a := fun a z => h.inF i a (hg a z)
  exact {
    len1 := h.len1
    len2 := by simpa using h.len2
    own := fun j u ej => by
      by_cases c : j = i
      · subst c
        rw [hi] at ej; cases ej
        cases hk
        refine ⟨d', v, List.getElem?_set_self (by rw [h.len2]; exact hl), hv, ?_⟩
        unfold Fp.set; dsimp only; rw [if_pos rfl]; exact r
      · obtain ⟨d, v, h1, h2, h3⟩ := h.own j u ej
        refine ⟨d, v, by show (s.s.set i _)[j]? = _; rw [List.getElem?_set_ne (fun z => c z.symm)]; exact h1, h2, ?_⟩
        unfold Fp.set; dsimp only; rw [if_neg c]; exact h3.gr e (gs c)
    bor := fun j u ej => by
      have c : j ≠ i := fun z => by subst z; rw [hi] at ej; cases ej; cases hk
      obtain ⟨B, h1, h2, h3, h4⟩ := h.bor j u ej
      exact ⟨B, by show (s.s.set i _)[j]? = _; rw [List.getElem?_set_ne (fun z => c z.symm)]; exact h1, h2, h3.gr e (fun x hx z => h.bf x (h4 x hx) (gf x z)), h4⟩
    bf := h.bf
    lks := fun j u ej => by
      have c : j ≠ i := fun z => by subst z; rw [hi] at ej; cases ej; cases hk
      obtain ⟨kvs, a, o, u, vs, h1, h2, h3, h4, h5, h6, h7⟩ := h.lks j u ej
      exact ⟨kvs, a, o, u, vs, h1, h2, by show (s.s.set i _)[j]? = _; rw [List.getElem?_set_ne (fun z => c z.symm)]; exact h3, h4, e.per _ (.frz o u) trivial h5, h6, h7.gr e⟩
    io := fun j u ej => by
      by_cases c : j = i
      · subst c
        rw [hi] at ej; cases ej
        cases hk
        have hv2 : σ[j]? = some (some (f.π j)) := by obtain ⟨_, _, h2, _⟩ := h.io j _ hi; exact h2
        rw [hv] at hv2
        cases hv2
        refine ⟨d', List.getElem?_set_self (by rw [h.len2]; exact hl), hv, ?_⟩
        unfold Fp.set; dsimp only; rw [if_pos rfl]; exact r
      · obtain ⟨d, h1, h2, h3⟩ := h.io j u ej
        refine ⟨d, by show (s.s.set i _)[j]? = _; rw [List.getElem?_set_ne (fun z => c z.symm)]; exact h1, h2, ?_⟩
        unfold Fp.set; dsimp only; rw [if_neg c]; exact h3.gr e (gs c)
    nd := fun j => by
      unfold Fp.set; dsimp only
      by_cases c : j = i
      · rw [if_pos c]; exact nd
      · rw [if_neg c]; exact h.nd j
    sep := fun j k a hj hk' => by
      unfold Fp.set at hj hk'; dsimp only at hj hk'
      by_cases c : j = i
      · by_cases c2 : k = i
        · rw [c, c2]
        · rw [if_pos c] at hj; rw [if_neg c2] at hk'
          exact absurd (.inr ⟨k, by unfold Fp.set; dsimp only; rw [if_neg c2]; exact hk'⟩) (away hj)
      · by_cases c2 : k = i
        · rw [if_neg c] at hj; rw [if_pos c2] at hk'
          exact absurd (.inr ⟨j, by unfold Fp.set; dsimp only; rw [if_neg c]; exact hj⟩) (away hk')
        · rw [if_neg c] at hj; rw [if_neg c2] at hk'; exact h.sep j k a hj hk'
    inF := fun j a hj => by
      unfold Fp.set at hj; dsimp only at hj
      by_cases c : j = i
      · rw [if_pos c] at hj; exact (hA a hj).elim (h.inF i a) (·.1)
      · rw [if_neg c] at hj; exact h.inF j a hj
    new := fun a n => by
      by_cases c : g a
      · exact gf a c
      · exact h.new a (e.nn n c)
    tab := e.tab h.tab
    al := fun a z n => by
      rcases z with z | ⟨j, z⟩
      · exact h.al a (.inl z) (e.nn n fun c => h.hsep i a (hg a c) z)
      · unfold Fp.set at z; dsimp only at z
        by_cases c : j = i
        · rw [if_pos c] at z; exact r.al a z n
        · rw [if_neg c] at z; exact h.al a (.inr ⟨j, z⟩) (e.nn n (gs c a z))
    lkd := fun a z => by obtain ⟨o, u, y⟩ := h.lkd a ((e.lk a).mp z); exact ⟨o, u, e.per _ (.frz o u) trivial y⟩
    heap := HR.gr h.heap e fun a z c => h.hsep i a (hg a c) z
    hF := h.hF
    hsep := fun j a hj hG => by
      unfold Fp.set at hj; dsimp only at hj
      by_cases c : j = i
      · rw [if_pos c] at hj; exact away hj (.inl hG)
      · rw [if_neg c] at hj; exact h.hsep j a hj hG }
end
/-- a method that writes its object; what it answers lies by itself -/
def LPM (K : PySem.W.Frag) (T : String) (r : V → List V → Hp → VK → Prop) (t : Tag) (m : D → List D → Option (D × D)) : Prop :=
  (∀ d v w A, Rp true K w t d v A → tyV K T v w.H) ∧ ∀ x xs w Q dx ds A dr d', Rp true K w t dx x A → RDs K w ds xs → m dx ds = some (dr, d') →
    (∀ v w', Gr (· ∈ A) w w' → Rp true K w' t d' x A → RD K w' dr v → Q v w'.H) → r x xs w.H Q
section
variable {η : Type} [HR η] {X : Cx} {f : Fm} {W : WX} {Θ Θ1 Θ2 Θx : Th} {e : Expr} {es : List Expr} {p apos cpos : Pos} {x name : Str} {T id : String} {r : V → List V → Hp → VK → Prop} {t : Tag} {m : D → List D → Option (D × D)} {te : St η → Eff η (List D)} {i : Nat} {κ : Sl}
def mutS (i : Nat) (m : D → List D → Option (D × D)) (ds : List D) (s : St η) : Eff η D := match s.s[i]? with
  | some (some d) => match m d ds with
    | some (r, d') => .ok r (s.set i d')
    | none => .stuck
  | _ => .stuck
def eMut (i : Nat) (m : D → List D → Option (D × D)) (ts : St η → Eff η (List D)) : ER η := fun s => (ts s).bind fun ds s1 => mutS i m ds s1
def eMut0 (i : Nat) (m : D → List D → Option (D × D)) : ER η := fun s => mutS i m [] s
theorem lmut {K : PySem.W.Frag} {mg : Str → Option Value} (hl : LPM K T r t m) (hk : κ.ow = some t) (hi : Θ[i]? = some κ) {w : Wd} {s : St η} {φ : Fp} {σ : L2.St} {v : V} {xs : List V} {ds : List D} {Q : VK} (o : OwnS K f w Θ σ s φ) (hv : σ[i]? = some (some v)) (rv : RDs K w ds xs)
    (h : Ef K mg f W w σ Θ Θx (fun w φ d v => RE K f w φ .p d v) (mutS i m ds s) Q) : r v xs w.H Q := by
  obtain ⟨d, v', h1, h2, h3, _⟩ := o.ow hi hk
  rw [hv] at h2
  cases h2
  unfold mutS at h
  rw [h1] at h
  dsimp only at h
  cases hm : m d ds with
  | none => rw [hm] at h; exact h.elim
  | some q =>
    obtain ⟨dr, d'⟩ := q
    rw [hm] at h
    exact hl.2 v xs w Q d ds _ dr d' h3 rv hm fun u w' g r1 r2 => h u w' _ (g.mono fun a ha => o.inF i a ha) (o.edit hi hk hv g (fun a ha => ha) r1 (o.nd i) fun a ha => .inl ha) (.p r2)
theorem qe_mut (pa : PlainAttrs T) (slot : Slot T name id) (hty : typeOf (.builtin id) = pure (.type "method_descriptor")) (hm : MtR X id r) (hl : LPM X.K T r t m) (i : Nat) (hi : Θ[i]? = some κ) (hk : κ.ow = some t) (hi1 : Θ1[i]? = some κ) (ha : QAs X f W Θ (e :: es) te Θ1 Θx)
    (hN : X.N[i]? = some x := by rfl) (hv : Vis X.env.scope x := by first | exact Or.inl rfl | exact Or.inr (Or.inl rfl) | exact Or.inr (Or.inr rfl)) (hd : (x == ("__debug__" : Str)) = false := by decide) (hcd : (x == ("__classdict__" : Str)) = false := by decide)
    (hbase : attributeBase (.Name x p) name X.env (eval (.Name x p) X.env) = eval (.Name x p) X.env := by rfl)
    (hfew : ((backTo cpos (starEach (e :: es) X.env)).all (fun x => !x.1) && (backToKw cpos (keywordEach [] X.env)).all (fun x => x.1.isSome)
      && decide ((e :: es).length + ([] : List Keyword).length + (if ([] : List Keyword).isEmpty then 0 else 1) < 30)) = true := by rfl)
    (hline : (apos.endLine == cpos.line) = true := by rfl) (hs : starEach (e :: es) X.env = (false, eval e X.env) :: starEach es X.env := by rfl) (hplain : (backTo cpos (starEach es X.env)).any (·.1) = false := by rfl) :
    QE X f W Θ (.Call (.Attribute (.Name x p) name apos) (e :: es) [] cpos) (eMut i m te) .p Θ1 Θx :=
  ⟨PE.imp (pe_bm pa slot hty hm (pe_var hN hv hd hcd) ha.r hbase hfew hline hs hplain) fun σ H Q ⟨w, s, φ, e1, o, h⟩ => by
    subst e1
    obtain ⟨d, v, h1, h2, h3, _⟩ := o.ow hi hk
    refine ⟨v, h2, hl.1 _ _ _ _ h3, w, s, φ, rfl, o, Ef.mono (Ef.bind h) ?_⟩
    rintro xs H1 ⟨w1, ds, s1, φ1, rfl, g1, o1, r1, h⟩
    exact lmut hl hk hi1 o1 h2 r1 h⟩
theorem qe_mut0 (pa : PlainAttrs T) (slot : Slot T name id) (hty : typeOf (.builtin id) = pure (.type "method_descriptor")) (hm : MtR X id r) (hl : LPM X.K T r t m) (i : Nat) (hi : Θ[i]? = some κ) (hk : κ.ow = some t)
    (hN : X.N[i]? = some x := by rfl) (hv : Vis X.env.scope x := by first | exact Or.inl rfl | exact Or.inr (Or.inl rfl) | exact Or.inr (Or.inr rfl)) (hd : (x == ("__debug__" : Str)) = false := by decide) (hcd : (x == ("__classdict__" : Str)) = false := by decide)
    (hbase : attributeBase (.Name x p) name X.env (eval (.Name x p) X.env) = eval (.Name x p) X.env := by rfl) (hline : (apos.endLine == cpos.line) = true := by rfl) : QE (η := η) X f W Θ (.Call (.Attribute (.Name x p) name apos) [] [] cpos) (eMut0 i m) .p Θ Θx :=
  ⟨PE.imp (pe_bm0 pa slot hty hm (pe_var hN hv hd hcd) hbase hline) fun σ H Q ⟨w, s, φ, e1, o, h⟩ => by
    subst e1
    obtain ⟨d, v, h1, h2, h3, _⟩ := o.ow hi hk
    exact ⟨v, h2, hl.1 _ _ _ _ h3, lmut (xs := []) (ds := []) hl hk hi o h2 rfl h⟩⟩
end
section
variable {X : Cx}
theorem Rp.lst {K : PySem.W.Frag} {w : Wd} {d : D} {v : V} {A : List Addr} (h : Rp true K w (.l .p) d v A) : ∃ ds a vs, d = .fl ds ∧ v = .ref a ∧ w.H a = some (.lst vs) ∧ RDs K w ds vs ∧ A = [a] := by
  obtain ⟨ds, a, vs, A0, A1, rfl, rfl, e3, e4, e5⟩ := h.resolve_left fun z => nomatch z.1
  obtain ⟨e3, e6⟩ := e3.resolve_right fun z => nomatch z.1
  obtain ⟨e4, e7⟩ := e4.rds
  exact ⟨ds, a, vs, rfl, rfl, e3, e4, by rw [e5, e6, e7]; rfl⟩
theorem Rp.lst_of {K : PySem.W.Frag} {w : Wd} {ds : List D} {a : Addr} {vs : List V} (h : w.H a = some (.lst vs)) (r : RDs K w ds vs) : Rp true K w (.l .p) (.fl ds) (.ref a) [a] :=
  .inr ⟨ds, a, vs, [a], [], rfl, rfl, .inl ⟨h, rfl⟩, r.all3, rfl⟩
/-- a tracked list is written -/
theorem Rp.lst_up {K : PySem.W.Frag} {w : Wd} {ds : List D} {a : Addr} {us vs : List V} (h : w.H a = some (.lst us)) (r : RDs K w ds vs) : Gr (· ∈ [a]) w (w.up a (.lst vs)) ∧ Rp true K (w.up a (.lst vs)) (.l .p) (.fl ds) (.ref a) [a] := by
  have g : Gr (· ∈ [a]) w (w.up a (.lst vs)) := .mut h id (by simp)
  exact ⟨g, Rp.lst_of upd_same (r.gr g)⟩
def appendM : D → List D → Option (D × D)
  | .fl ds, [y] => if ds.length < sizeLine then some (.non, .fl (ds ++ [y])) else none
  | _, _ => none
theorem l_tyL {K : PySem.W.Frag} : ∀ (d : D) (v : V) (w : Wd) (A : List Addr), Rp true K w (.l .p) d v A → tyV K "list" v w.H := fun d v w A h => by
  obtain ⟨ds, a, vs, rfl, rfl, h1, _⟩ := h.lst
  exact .inl ⟨rfl, vs, .of h1⟩
theorem l_appendM : LPM X.K "list" rAppend (.l .p) appendM := ⟨l_tyL, by
  intro x xs w Q dx ds A dr d' r rv h k
  obtain ⟨es, a, vs, rfl, rfl, h1, h2, rfl⟩ := r.lst
  match ds, h with
  | [y], h =>
    have h : (if es.length < sizeLine then some (D.non, D.fl (es ++ [y])) else none) = some (dr, d') := h
    by_cases c : es.length < sizeLine
    · rw [if_pos c] at h; cases h
      obtain ⟨v, _, rfl, r1, rfl⟩ := rv
      obtain ⟨g, q⟩ := Rp.lst_up h1 (h2.snoc r1)
      exact ⟨a, vs, v, rfl, rfl, h1, by rw [h2.len]; exact c, k .non _ g q rfl⟩
    · rw [if_neg c] at h; cases h⟩
/-- extend by a list -/
def rExtL (K : PySem.W.Frag) : V → List V → Hp → VK → Prop := fun x vs H Q => ∃ l b xs zs, x = .ref l ∧ vs = [.ref b] ∧ H l = some (.lst xs) ∧ SqR K H b zs ∧ xs.length + zs.length ≤ sizeLine ∧ Q .non (upd H l (.lst (xs ++ zs)))
theorem mt_extL : MtR X "list.extend" (rExtL X.K) := by
  intro pins s σ H x v vs us Q I rx rv h
  obtain ⟨l, b, xs, zs, rfl, rfl, hH, hB, hz, q⟩ := h
  cases rx
  obtain ⟨u, rfl, ru⟩ := vals1 rv
  cases ru
  obtain ⟨z, its, n, r, hl, e⟩ := I.lstM hH
  obtain ⟨z2, its2, n2, r2, hl2, e2⟩ := hB.at I
  have hsz : its.toArray.size + its2.toArray.size ≤ sizeLine := by rw [List.size_toArray, List.size_toArray]; omega
  have hlong : ¬ (!its.toArray.isEmpty && Builtin.List.listTooLong (its.toArray.size + its2.toArray.size)) = true := by
    rw [notLongL hsz, Bool.and_false]
    exact Bool.false_ne_true
  refine call_meets PySem.F.slot_list_extend ⟨_, e, rfl⟩ PySem.F.entry_list_extend (PySem.F.args_list_extend_2 _ _)
    (AutoSeq1.list_extend_list_list_0 l its.toArray n b its2.toArray n2 hlong (by rw [List.size_toArray]; omega) (by omega)) ⟨e, e2, ?_⟩
  refine ⟨.non, _, I.lset (its' := its ++ its2) hH e (by simp) (r.append r2) ?_, rfl, q⟩
  rw [List.length_append]
  omega
def extendM : D → List D → Option (D × D)
  | .fl ds, [.fl es] => if ds.length + es.length ≤ sizeLine then some (.non, .fl (ds ++ es)) else none
  | _, _ => none
theorem l_extendM : LPM X.K "list" (rExtL X.K) (.l .p) extendM := ⟨l_tyL, by
  intro x xs w Q dx ds A dr d' r rv h k
  obtain ⟨es, a, vs, rfl, rfl, h1, h2, rfl⟩ := r.lst
  match ds, h with
  | [.fl ys], h =>
    have h : (if es.length + ys.length ≤ sizeLine then some (D.non, D.fl (es ++ ys)) else none) = some (dr, d') := h
    by_cases c : es.length + ys.length ≤ sizeLine
    · rw [if_pos c] at h; cases h
      obtain ⟨v, _, rfl, ⟨b, us, rfl, hb, ru⟩, rfl⟩ := rv
      obtain ⟨g, q⟩ := Rp.lst_up h1 (h2.app ru)
      exact ⟨a, b, vs, us, rfl, rfl, h1, hb.r, by rw [h2.len, ru.len]; exact c, k .non _ g q rfl⟩
    · rw [if_neg c] at h; cases h⟩
/-- the last one goes -/
def popM : D → List D → Option (D × D)
  | .fl ds, [] => (ds[ds.length - 1]?).map fun d => (d, .fl ds.dropLast)
  | _, _ => none
theorem RDs.dropLast {K : PySem.W.Frag} {w : Wd} {ds : List D} {vs : List V} (h : RDs K w ds vs) : RDs K w ds.dropLast vs.dropLast := by
  rw [List.dropLast_eq_take, List.dropLast_eq_take, h.len]
  exact h.take _
theorem l_popM : LPM X.K "list" rPop (.l .p) popM := ⟨l_tyL, by
  intro x xs w Q dx ds A dr d' r rv h k
  obtain ⟨es, a, vs, rfl, rfl, h1, h2, rfl⟩ := r.lst
  match ds, h with
  | [], h =>
    obtain ⟨d, hd, e⟩ := Option.map_eq_some_iff.mp (show (es[es.length - 1]?).map (fun d => (d, D.fl es.dropLast)) = some (dr, d') from h)
    cases e
    cases rv
    obtain ⟨v, hv, rv⟩ := h2.get hd
    obtain ⟨g, q⟩ := Rp.lst_up h1 h2.dropLast
    exact ⟨a, vs, v, rfl, rfl, h1, by rw [h2.len]; exact hv, k v _ g q (rv.gr g)⟩⟩
/-- number i goes -/
def popAtM : D → List D → Option (D × D)
  | .fl ds, [.int i] => if -(2 ^ 63) ≤ i ∧ i < 2 ^ 63 then (seqIndex? i ds.length).bind fun k => (ds[k]?).map fun d => (d, .fl (ds.eraseIdx k)) else none
  | _, _ => none
theorem l_popAtM : LPM X.K "list" rPopAt (.l .p) popAtM := ⟨l_tyL, by
  intro x xs w Q dx ds A dr d' r rv h k
  obtain ⟨es, a, vs, rfl, rfl, h1, h2, rfl⟩ := r.lst
  match ds, h with
  | [.int i], h =>
    have h : (if -(2 ^ 63) ≤ i ∧ i < 2 ^ 63 then (seqIndex? i es.length).bind fun k => (es[k]?).map fun d => (d, D.fl (es.eraseIdx k)) else none) = some (dr, d') := h
    by_cases c : -(2 ^ 63) ≤ i ∧ i < 2 ^ 63
    · rw [if_pos c] at h
      obtain ⟨j, hj, h⟩ := Option.bind_eq_some_iff.mp h
      obtain ⟨d, hd, e⟩ := Option.map_eq_some_iff.mp h
      cases e
      obtain ⟨v, _, rfl, r1, rfl⟩ := rv
      cases (show v = .int i from r1)
      obtain ⟨y, hy, ry⟩ := h2.get hd
      obtain ⟨g, q⟩ := Rp.lst_up h1 (h2.erase j)
      exact ⟨a, vs, i, j, y, rfl, rfl, h1, c.1, c.2, by rw [h2.len]; exact hj, hy, k y _ g q (ry.gr g)⟩
    · rw [if_neg c] at h; cases h⟩
end
end FL

/-! FM: places written; calls that write arguments. -/
namespace FL
open PySem PySem.Spec PyProof.Rows L2
variable [TabT]
section
variable {K : PySem.W.Frag} {w w' : Wd}
theorem RKs.keys : ∀ {ds : List (K2 × D)} {vs : List (K2 × V)}, RKs K w ds vs → vs.map (·.1) = ds.map (·.1)
  | [], _, h => by cases h; rfl
  | (_, _) :: _, _, ⟨v, r, e1, _, e3⟩ => by subst e1; rw [List.map_cons, List.map_cons, RKs.keys e3]
theorem RKs.any {kvs : List (K2 × D)} {vs : List (K2 × V)} (k : K2) (r : RKs K w kvs vs) : (vs.any fun kv => decide (kv.1 = k)) = kvs.any fun kv => decide (kv.1 = k) := by
  have h := r.keys
  have e1 : ∀ l : List (K2 × V), (l.any fun kv => decide (kv.1 = k)) = (l.map (·.1)).any fun x => decide (x = k) := fun l => by rw [List.any_map]; rfl
  have e2 : ∀ l : List (K2 × D), (l.any fun kv => decide (kv.1 = k)) = (l.map (·.1)).any fun x => decide (x = k) := fun l => by rw [List.any_map]; rfl
  rw [e1, e2, h]
theorem RKs.repl : ∀ {kvs : List (K2 × D)} {vs : List (K2 × V)} {d : D} {v : V} (k : K2), RKs K w kvs vs → RD K w d v → RKs K w (kvs.map fun kv => if kv.1 = k then (kv.1, d) else kv) (vs.map fun kv => if kv.1 = k then (kv.1, v) else kv)
  | [], _, d, v, k, r, _ => by cases r; rfl
  | (k0, d0) :: kvs, _, d, v, k, ⟨u, w', e0, r1, r2⟩, rd => by
    subst e0
    have ih := RKs.repl (v := v) k r2 rd
    rw [List.map_cons, List.map_cons]
    by_cases c : k0 = k
    · simp only [c, if_true]; exact ⟨v, _, rfl, rd, ih⟩
    · simp only [if_neg c]; exact ⟨u, _, rfl, r1, ih⟩
theorem RKs.snoc : ∀ {kvs : List (K2 × D)} {vs : List (K2 × V)} {d : D} {v : V} {k : K2}, RKs K w kvs vs → RD K w d v → RKs K w (kvs ++ [(k, d)]) (vs ++ [(k, v)])
  | [], _, d, v, k, r, rd => by cases r; exact ⟨v, [], rfl, rd, rfl⟩
  | (k0, d0) :: kvs, _, d, v, k, ⟨u, w', e0, r1, r2⟩, rd => by subst e0; exact ⟨u, _, rfl, r1, RKs.snoc r2 rd⟩
theorem RKs.put {kvs : List (K2 × D)} {vs : List (K2 × V)} {d : D} {v : V} (k : K2) (r : RKs K w kvs vs) (rd : RD K w d v) : RKs K w (putD kvs k d) (putK vs k v) := by
  unfold putD putK
  rw [r.any k]
  by_cases c : (kvs.any fun kv => decide (kv.1 = k)) = true
  · rw [if_pos c, if_pos c]; exact r.repl k rd
  · rw [if_neg c, if_neg c]; exact r.snoc rd
theorem RKs.drop : ∀ {kvs : List (K2 × D)} {vs : List (K2 × V)} (k : K2), RKs K w kvs vs → RKs K w (dropD kvs k) (dropK vs k)
  | [], _, k, r => by cases r; rfl
  | (k0, d0) :: kvs, _, k, ⟨u, w', e0, r1, r2⟩ => by
    subst e0
    have ih := RKs.drop k r2
    unfold dropD dropK at *
    by_cases c : k0 ≠ k
    · rw [List.filter_cons_of_pos (by simpa using c), List.filter_cons_of_pos (by simpa using c)]; exact ⟨u, _, rfl, r1, ih⟩
    · rw [List.filter_cons_of_neg (by simpa using c), List.filter_cons_of_neg (by simpa using c)]; exact ih
section
variable {κ : Type} [DecidableEq κ] (g : κ → K2) (hg : ∀ a b, g a = g b → a = b)
include hg
theorem any_map (k : κ) : ∀ vs : List (κ × V), ((vs.map fun p => (g p.1, p.2)).any fun kv => decide (kv.1 = g k)) = vs.any fun kv => decide (kv.1 = k)
  | [] => rfl
  | p :: vs => by
    rw [List.map_cons, List.any_cons, List.any_cons, any_map k vs]
    by_cases c : p.1 = k
    · simp [c]
    · have c2 : ¬ g p.1 = g k := fun z => c (hg _ _ z)
      simp [c, c2]
theorem putK_map (k : κ) (v : V) (vs : List (κ × V)) : (putK vs k v).map (fun p => (g p.1, p.2)) = putK (vs.map fun p => (g p.1, p.2)) (g k) v := by
  unfold putK
  rw [any_map g hg k vs]
  by_cases c : (vs.any fun kv => decide (kv.1 = k)) = true
  · rw [if_pos c, if_pos c, List.map_map, List.map_map]
    refine List.map_congr_left fun p _ => ?_
    by_cases c : p.1 = k
    · simp [c]
    · have c2 : ¬ g p.1 = g k := fun z => c (hg _ _ z)
      simp [c, c2]
  · rw [if_neg c, if_neg c, List.map_append]
    rfl
theorem dropK_map (k : κ) : ∀ vs : List (κ × V), (dropK vs k).map (fun p => (g p.1, p.2)) = dropK (vs.map fun p => (g p.1, p.2)) (g k)
  | [] => rfl
  | p :: vs => by
    have ih := dropK_map k vs
    unfold dropK at *
    rw [List.map_cons]
    by_cases c : p.1 ≠ k
    · rw [List.filter_cons_of_pos (by simpa using c), List.filter_cons_of_pos (by simpa using fun z => c (hg _ _ z)), List.map_cons, ih]
    · have c2 : p.1 = k := Decidable.not_not.mp c
      rw [List.filter_cons_of_neg (by simpa using c), List.filter_cons_of_neg (by simp [c2]), ih]
end
/-- a dict that is written -/
def mTag : Bool → Tag
  | false => .mK .p
  | true => .mT .p
theorem Rp.dct {t : Bool} {d : D} {v : V} {A : List Addr} (h : Rp true K w (mTag t) d v A) : ∃ kvs a u vs, d = .fd t kvs ∧ v = .ref a ∧ w.H a = some u ∧ DictIs t u vs ∧ RKs K w kvs vs ∧ A = [a] := by
  cases t with
  | false =>
    obtain ⟨ds, a, vs, A0, A1, rfl, rfl, e3, e4, e5⟩ := h.resolve_left fun z => nomatch z.1
    obtain ⟨e3, e6⟩ := e3.resolve_right fun z => nomatch z.1
    obtain ⟨e4, e7⟩ := e4.rks
    exact ⟨ds, a, _, _, rfl, rfl, e3, .k vs, e4, by rw [e5, e6, e7]; rfl⟩
  | true =>
    obtain ⟨ds, a, vs, A0, A1, rfl, rfl, e3, e4, e5⟩ := h.resolve_left fun z => nomatch z.1
    obtain ⟨e3, e6⟩ := e3.resolve_right fun z => nomatch z.1
    obtain ⟨e4, e7⟩ := e4.rks
    exact ⟨ds, a, _, _, rfl, rfl, e3, .t vs, e4, by rw [e5, e6, e7]; rfl⟩
theorem DictIs.notb {t : Bool} {u : HO} {vs : List (K2 × V)} (h : DictIs t u vs) : NoTb u := by cases h <;> exact fun _ z => nomatch z
theorem Rp.dct_up {t : Bool} {kvs : List (K2 × D)} {a : Addr} {o u : HO} {vs : List (K2 × V)} (h : w.H a = some o) (ho : ¬ PerT o) (hd : DictIs t u vs) (r : RKs K w kvs vs) : Gr (· ∈ [a]) w (w.up a u) ∧ Rp true K (w.up a u) (mTag t) (.fd t kvs) (.ref a) [a] := by
  have g : Gr (· ∈ [a]) w (w.up a u) := .mut h ho (by simp) hd.notb
  refine ⟨g, ?_⟩
  cases hd with
  | k vs => exact .inr ⟨kvs, a, vs, [a], [], rfl, rfl, .inl ⟨upd_same, rfl⟩, (r.gr g).allK, rfl⟩
  | t vs => exact .inr ⟨kvs, a, vs, [a], [], rfl, rfl, .inl ⟨upd_same, rfl⟩, (r.gr g).allK, rfl⟩
end
/-! ### o[i] = v -/
section
variable {X : Cx}
def rSetA : TSet := fun o i v H Q => rSetL o i v H Q ∨ ∃ a H', o = .ref a ∧ DPut H a i v H' ∧ Q H'
theorem set_any (hu : X.A.units + 1 < cLine) : PSet X rSetA := by
  intro pins s σ H o i v ov iv u Q I ro ri rv h
  rcases h with h | ⟨a, H', rfl, g, q⟩
  · exact set_list pins s σ H o i v ov iv u Q I ro ri rv h
  · obtain rfl : ov = Value.ref a := ro
    exact d_setItem hu I g ri rv fun s' I' => ⟨H', I', q⟩
def LPS (K : PySem.W.Frag) (t : Tag) (g : D → D → D → Option D) : Prop := ∀ o i v w (Q : Hp → Prop) dl dj dv A d', Rp true K w t dl o A → RD K w dj i → RD K w dv v → g dl dj dv = some d' → (∀ w', Gr (· ∈ A) w w' → Rp true K w' t d' o A → Q w'.H) → rSetA o i v w.H Q
def setL : D → D → D → Option D
  | .fl xs, .int k, v => (ixN xs.length k).map fun j => .fl (xs.set j v)
  | _, _, _ => none
theorem l_setL : LPS X.K (.l .p) setL := by
  intro o i v w Q dl dj dv A d' ro ri rv h k
  obtain ⟨ds, a, vs, rfl, rfl, h1, h2, rfl⟩ := ro.lst
  cases dj <;> first | (cases h; done) | skip
  rename_i n
  cases (show i = .int n from ri)
  obtain ⟨j, hj, rfl⟩ := Option.map_eq_some_iff.mp (show (ixN ds.length n).map (fun j => D.fl (ds.set j dv)) = some d' from h)
  obtain ⟨g, q⟩ := Rp.lst_up h1 (h2.set j rv)
  exact .inl ⟨a, vs, n, j, rfl, rfl, h1, by rw [h2.len]; exact hj, k _ g q⟩
def setM (t : Bool) : D → D → D → Option D
  | .fd u kvs, i, v => if u = t ∧ kvs.length < sizeLine then (key2 t i).map fun k => .fd t (putD kvs k v) else none
  | _, _, _ => none
theorem l_setM {t : Bool} : LPS X.K (mTag t) (setM t) := by
  intro o i v w Q dl dj dv A d' ro ri rv h k
  obtain ⟨kvs, a, u, vs, rfl, rfl, h1, hd, h2, rfl⟩ := ro.dct
  have h : (if t = t ∧ kvs.length < sizeLine then (key2 t dj).map fun k => D.fd t (putD kvs k dv) else none) = some d' := h
  by_cases c : t = t ∧ kvs.length < sizeLine
  · rw [if_pos c] at h
    obtain ⟨kk, hk, rfl⟩ := Option.map_eq_some_iff.mp h
    have hl := h2.len
    have ki := key2_ok ri.fv hk
    cases hd with
    | k us =>
      cases ki with
      | k k0 =>
        obtain ⟨g, q⟩ := Rp.dct_up (u := .dK (putK us k0 v)) h1 id (.k _) (by rw [putK_map Sum.inl (fun _ _ z => Sum.inl.inj z)]; exact h2.put (.inl k0) rv)
        exact .inr ⟨a, _, rfl, .inl ⟨us, k0, h1, rfl, by rw [List.length_map] at hl; omega, rfl⟩, k _ g q⟩
    | t us =>
      cases ki with
      | t ks b hb =>
        obtain ⟨g, q⟩ := Rp.dct_up (u := .dT (putK us ks v)) h1 id (.t _) (by rw [putK_map Sum.inr (fun _ _ z => Sum.inr.inj z)]; exact h2.put (.inr ks) rv)
        exact .inr ⟨a, _, rfl, .inr ⟨us, ks, b, h1, rfl, hb, by rw [List.length_map] at hl; omega, rfl⟩, k _ g q⟩
  · rw [if_neg c] at h; cases h
variable {η : Type} [HR η] {f : Fm} {W : WX} {C : SC} {Θ Θ1 Θ2 : Th} {e i : Expr} {pos p pos' : Pos} {x : Str} {κ : Sl} {t : Tag} {g : D → D → D → Option D}
def setS (i : Nat) (g : D → D → D → Option D) (k v : D) (s : St η) : Eff η Fl := match s.s[i]? with
  | some (some d) => match g d k v with
    | some d' => .ok .nx (s.set i d')
    | none => .stuck
  | _ => .stuck
def fSetIx (j : Nat) (g : D → D → D → Option D) (te ti : ER η) : SR η := fun s => (te s).bind fun v s1 => (ti s1).bind fun k s2 => setS j g k v s2
theorem qs_setIx {te ti : ER η} (hl : LPS X.K t g) (hu : X.A.units + 1 < cLine) (j : Nat) (he : QE X f W Θ e te .p Θ1 C.x) (hj : Θ1[j]? = some κ) (hk : κ.ow = some t) (hi : QE X f W Θ1 i ti .p Θ2 C.x) (hj2 : Θ2[j]? = some κ)
    (hN : X.N[j]? = some x := by rfl) (hv : Vis X.env.scope x := by first | exact Or.inl rfl | exact Or.inr (Or.inl rfl) | exact Or.inr (Or.inr rfl)) (hd : (x == ("__debug__" : Str)) = false := by decide) (hcd : (x == ("__classdict__" : Str)) = false := by decide)
    (ha : ∀ v, assign (.Subscript (.Name x p) i pos) X.env v = (do
      let ov ← holding [v] (eval (.Name x p) X.env)
      let iv ← holding [v, ov] (eval i X.env)
      standAt pos
      holding [v, ov, iv] (setItem ov iv v)
      release [v, ov, iv] []) := by intro _; rfl) (hs : swapsWithSole [.Subscript (.Name x p) i pos] e pos'.line X.env = pure false := by rfl) (hw : swappedStores [.Subscript (.Name x p) i pos] e X.env = pure none := by rfl)
    (h1 : (assignEach [.Subscript (.Name x p) i pos] X.env).map (·.2) = [assign (.Subscript (.Name x p) i pos) X.env] := by rfl) : QS X f W C Θ (.Assign [.Subscript (.Name x p) i pos] e pos') (fSetIx j g te ti) Θ2 :=
  ⟨PS.imp (ps_asg he.r (pg_sub (pe_var hN hv hd hcd) hi.r (set_any hu) ha) hs hw h1) fun D σ H ⟨w, s, φ, e1, o, h⟩ => by
    subst e1
    refine ⟨w, s, φ, rfl, o, (Ef.to (σ := σ) h).mono ?_⟩
    rintro v H1 ⟨w1, dv, s1, φ1, rfl, g1, o1, r1, h⟩
    obtain ⟨d0, v0, _, hv0, _, _⟩ := o1.ow hj hk
    refine ⟨v0, hv0, w1, s1, φ1, rfl, o1, (Ef.to (σ := σ) h).mono ?_⟩
    rintro iv H2 ⟨w2, dk, s2, φ2, rfl, g2, o2, r2, h⟩
    obtain ⟨d, v', q1, q2, q3, _⟩ := o2.ow hj2 hk
    rw [hv0] at q2
    cases q2
    unfold setS at h
    rw [q1] at h
    dsimp only at h
    cases hg : g d dk dv with
    | none => rw [hg] at h; exact h.elim
    | some d' =>
      rw [hg] at h
      exact hl _ _ _ w2 _ d dk dv _ d' q3 r2.rd (r1.rd.gr g2) hg fun w3 g3 r3 => h σ w3 _ (g3.mono fun a ha => o2.inF j a ha) (o2.edit hj2 hk hv0 g3 (fun a ha => ha) r3 (o2.nd j) fun a ha => .inl ha)⟩
end
end FL

/-! FN: calls that write arguments, calls whose arguments change something. -/
namespace FL
open PySem PySem.Spec PyProof.Rows L2
variable [TabT]
/-- an argument: a slot's name, or a value by itself -/
inductive Ax where
  | sl (i : Nat) | v
def RXs (K : PySem.W.Frag) (w : Wd) (σ : L2.St) : List Ax → List D → List V → Prop
  | [], ds, vs => ds = [] ∧ vs = []
  | .v :: ax, ds, vs => ∃ d es v r, ds = d :: es ∧ vs = v :: r ∧ RD K w d v ∧ RXs K w σ ax es r
  | .sl i :: ax, ds, vs => ∃ v r, vs = v :: r ∧ σ[i]? = some (some v) ∧ RXs K w σ ax ds r
def fillA : List Ax → List D → List (Option D) → Option (List D)
  | [], [], _ => some []
  | .v :: ax, d :: ds, l => (fillA ax ds l).map (d :: ·)
  | .sl i :: ax, ds, l => match l[i]? with
    | some (some d) => (fillA ax ds l).map (d :: ·)
    | _ => none
  | _, _, _ => none
def iosOf : List Ax → List Sl → List Nat
  | .sl i :: ax, .io _ :: ms => i :: iosOf ax ms
  | _ :: ax, _ :: ms => iosOf ax ms
  | _, _ => []
/-- an argument for a parameter -/
def fit1 (Θ : Th) (ios : List Nat) : Ax → Sl → Bool
  | .v, .own .p => true
  | .v, .bor _ => true
  | .sl i, .io t => match Θ[i]? with
    | some (.own u) => u.beq t
    | some (.io u) => u.beq t
    | _ => false
  | .sl i, .bor t => !ios.contains i && match Θ[i]? with
    | some (.own u) => u.beq t
    | some (.io u) => u.beq t
    | some (.bor u) => u.beq t
    | _ => false
  | _, _ => false
def fitX (Θ : Th) (ios : List Nat) : List Ax → List Sl → Bool
  | [], [] => true
  | a :: ax, m :: ms => fit1 Θ ios a m && fitX Θ ios ax ms
  | _, _ => false
def ndup : List Nat → Bool
  | [] => true
  | i :: is => !is.contains i && ndup is
def wb : List Nat → List D → List (Option D) → List (Option D)
  | i :: is, d :: ds, l => wb is ds (l.set i (some d))
  | _, _, l => l
def callX (F : FR) (ax : List Ax) (ios : List Nat) (ts : St η → Eff η (List D)) : ER η := fun s => (ts s).bind fun ps s1 => match fillA ax ps s1.s with
  | some ds => match F ds with
    | .ok d outs => .ok d ⟨wb ios outs s1.s, s1.h⟩
    | .exc c outs => .exc c ⟨wb ios outs s1.s, s1.h⟩
    | .stuck => .stuck
  | none => .stuck
section
variable {η : Type} [HR η] {K : PySem.W.Frag} {f : Fm} {w w' w1 w2 : Wd} {Θ Θ1 Θ2 Θx : Th} {σ : L2.St} {s : St η} {φ : Fp} {mg : Str → Option Value} {W : WX}
def maskT (Θ : Th) : List Nat → Th
  | [] => Θ
  | i :: is => (maskT Θ is).set i .no
theorem maskT_get {i : Nat} : ∀ {is : List Nat}, i ∉ is → (maskT Θ is)[i]? = Θ[i]?
  | [], _ => rfl
  | j :: is, h => by
    unfold maskT
    rw [List.getElem?_set_ne (fun (z : j = i) => h (by rw [z]; exact List.mem_cons_self))]
    exact maskT_get fun z => h (List.mem_cons_of_mem _ z)
theorem OwnS.drops (h : OwnS K f w Θ σ s φ) : ∀ is : List Nat, OwnS K f w (maskT Θ is) σ s ⟨fun j => if j ∈ is then [] else φ.fp j, φ.G⟩
  | [] => by simpa [maskT] using h
  | i :: is => by
    have ih := (OwnS.drops h is).drop i
    have e : (⟨fun j => if j ∈ is then [] else φ.fp j, φ.G⟩ : Fp).set i [] = ⟨fun j => if j ∈ i :: is then [] else φ.fp j, φ.G⟩ := by
      unfold Fp.set
      congr 1
      funext j
      by_cases c : j = i
      · simp [c]
      · simp [c]
    rw [e] at ih
    exact ih
/-- a slot is known again -/
theorem OwnS.put (h : OwnS K f w Θ σ s φ) {i : Nat} {κ : Sl} {t : Tag} {d : D} {v : V} {A : List Addr} (hk : κ.ow = some t) (hv : σ[i]? = some (some v)) (hπ : ∀ u, κ = .io u → v = f.π i) (r : Rp true K w t d v A) (nd : A.Nodup) (hA : ∀ a ∈ A, f a ∧ ¬ φ.all a) :
    OwnS K f w (Θ.set i κ) σ (s.set i d) (φ.set i A) := by
  have h1 := h.set i r nd hA
  have hσ : σ.set i (some v) = σ := by
    refine List.ext_getElem? fun j => ?_
    by_cases c : i = j
    · subst c; rw [hv, List.getElem?_set_self (List.getElem?_eq_some_iff.mp hv).1]
    · rw [List.getElem?_set_ne c]
  rw [hσ] at h1
  have hl : i < Θ.length := by rw [← h.len1]; exact (List.getElem?_eq_some_iff.mp hv).1
  cases κ with
  | own u => cases hk; exact h1
  | io u =>
    cases hk
    have ne : ∀ {j : Nat} {x y : Sl}, i ≠ j → (Θ.set i x)[j]? = (Θ.set i y)[j]? := fun c => by rw [List.getElem?_set_ne c, List.getElem?_set_ne c]
    exact { h1 with
      len1 := by simpa using h.len1
      len2 := by simpa using h.len2
      own := fun j u e => by
        by_cases c : i = j
        · subst c; rw [List.getElem?_set_self hl] at e; cases e
        · exact h1.own j u ((ne c).trans e)
      bor := fun j u e => by
        by_cases c : i = j
        · subst c; rw [List.getElem?_set_self hl] at e; cases e
        · exact h1.bor j u ((ne c).trans e)
      lks := fun j u e => by
        by_cases c : i = j
        · subst c; rw [List.getElem?_set_self hl] at e; cases e
        · exact h1.lks j u ((ne c).trans e)
      io := fun j u e => by
        by_cases c : i = j
        · subst c
          rw [List.getElem?_set_self hl] at e
          cases e
          have e := hπ _ rfl
          subst e
          refine ⟨d, List.getElem?_set_self (by rw [h.len2]; exact hl), hv, ?_⟩
          unfold Fp.set; dsimp only; rw [if_pos rfl]; exact r
        · exact h1.io j u ((ne c).trans e) }
  | _ => cases hk
theorem fit1_io {ios : List Nat} {i : Nat} {t : Tag} (h : fit1 Θ ios (.sl i) (.io t) = true) : ∃ κ, Θ[i]? = some κ ∧ κ.ow = some t := by
  change (match Θ[i]? with | some (.own u) => u.beq t | some (.io u) => u.beq t | _ => false) = true at h
  cases e : Θ[i]? with
  | none => rw [e] at h; cases h
  | some κ =>
    rw [e] at h
    cases κ with
    | own u => exact ⟨_, rfl, by rw [Tag.eq_of (show u.beq t = true from h)]; rfl⟩
    | io u => exact ⟨_, rfl, by rw [Tag.eq_of (show u.beq t = true from h)]; rfl⟩
    | _ => cases h
theorem wb_ok {s1 : St η} {φ0 : Fp} (ios0 : List Nat) (h0 : OwnS K f w1 Θ σ s1 φ0) : ∀ {ax : List Ax} {ms : List Sl} {ds : List D} {vs : List V} {outs : List D} {A' : List Addr} {s : St η} {φ : Fp}, RXs K w2 σ ax ds vs → fitX Θ ios0 ax ms = true → Outs K w' ms vs outs A' → OwnS K f w' (maskT Θ (iosOf ax ms)) σ s φ →
    A'.Nodup → (∀ a ∈ A', f a ∧ ¬ φ.all a) → ndup (iosOf ax ms) = true → ∃ φ', OwnS K f w' Θ σ ⟨wb (iosOf ax ms) outs s.s, s.h⟩ φ' ∧ ∀ a, φ'.all a → a ∈ A' ∨ φ.all a
  | [], [], _, _, _, _, s, φ, _, _, _, o, _, _, _ => ⟨φ, o, fun _ h => .inr h⟩
  | .sl i :: ax, .io t :: ms, _, _, _, A', s, φ, ⟨v, r, e1, hv, rx⟩, hf, ho, o, nd, hA, hn => by
    subst e1
    have hf : fit1 Θ ios0 (.sl i) (.io t) = true ∧ fitX Θ ios0 ax ms = true := by simpa [fitX] using hf
    obtain ⟨d, es, A1, A2, rfl, rfl, r1, ho⟩ := ho
    obtain ⟨κ, hi, hk⟩ := fit1_io hf.1
    obtain ⟨_, v', _, hv', _, hπ⟩ := h0.ow hi hk
    rw [hv] at hv'; cases hv'
    have hn : (!(iosOf ax ms).contains i && ndup (iosOf ax ms)) = true := hn
    rw [Bool.and_eq_true, Bool.not_eq_true'] at hn
    have ni : i ∉ iosOf ax ms := fun z => by rw [List.contains_iff_mem.mpr z] at hn; cases hn.1
    obtain ⟨n1, n2, n3⟩ := List.nodup_append.mp nd
    have o2 := OwnS.put (Θ := maskT Θ (iosOf (.sl i :: ax) (.io t :: ms))) (κ := κ) o hk hv hπ r1 n1 fun a ha => hA a (List.mem_append_left _ ha)
    have e2 : (maskT Θ (iosOf (.sl i :: ax) (.io t :: ms))).set i κ = maskT Θ (iosOf ax ms) := by
      show ((maskT Θ (iosOf ax ms)).set i .no).set i κ = _
      rw [List.set_set]
      refine List.ext_getElem? fun j => ?_
      by_cases c : i = j
      · subst c
        rw [maskT_get ni, hi]
        have hl : i < (maskT Θ (iosOf ax ms)).length := by
          have := (List.getElem?_eq_some_iff.mp ((maskT_get (Θ := Θ) ni).trans hi)).1
          exact this
        rw [List.getElem?_set_self hl]
      · rw [List.getElem?_set_ne c]
    rw [e2] at o2
    obtain ⟨φ', o3, k⟩ := wb_ok ios0 h0 rx hf.2 ho o2 n2 (fun a ha => ⟨(hA a (List.mem_append_right _ ha)).1, fun z => by
      rcases Fp.set_all z with z | z
      · exact n3 a z a ha rfl
      · exact (hA a (List.mem_append_right _ ha)).2 z⟩) hn.2
    refine ⟨φ', o3, fun a ha => ?_⟩
    rcases k a ha with z | z
    · exact .inl (List.mem_append_right _ z)
    · rcases Fp.set_all z with z | z
      · exact .inl (List.mem_append_left _ z)
      · exact .inr z
  | .v :: ax, .own t :: ms, _, _, _, A', s, φ, ⟨d, es, v, r, e0, e1, _, rx⟩, hf, ho, o, nd, hA, hn => by
    subst e1
    have hf : fit1 Θ ios0 .v (.own t) = true ∧ fitX Θ ios0 ax ms = true := by simpa [fitX] using hf
    exact wb_ok ios0 h0 (ax := ax) (ms := ms) rx hf.2 ho o nd hA hn
  | .v :: ax, .bor t :: ms, _, _, _, A', s, φ, ⟨d, es, v, r, e0, e1, _, rx⟩, hf, ho, o, nd, hA, hn => by
    subst e1
    have hf : fit1 Θ ios0 .v (.bor t) = true ∧ fitX Θ ios0 ax ms = true := by simpa [fitX] using hf
    exact wb_ok ios0 h0 (ax := ax) (ms := ms) rx hf.2 ho o nd hA hn
  | .sl i :: ax, .bor t :: ms, _, _, _, A', s, φ, ⟨v, r, e1, hv, rx⟩, hf, ho, o, nd, hA, hn => by
    subst e1
    have hf : fit1 Θ ios0 (.sl i) (.bor t) = true ∧ fitX Θ ios0 ax ms = true := by simpa [fitX] using hf
    exact wb_ok ios0 h0 (ax := ax) (ms := ms) rx hf.2 ho o nd hA hn
  | .v :: ax, .no :: ms, _, _, _, _, _, _, _, hf, _, _, _, _, _ => by simp [fitX, fit1] at hf
  | .v :: ax, .lk _ :: ms, _, _, _, _, _, _, _, hf, _, _, _, _, _ => by simp [fitX, fit1] at hf
  | .sl _ :: ax, .lk _ :: ms, _, _, _, _, _, _, _, hf, _, _, _, _, _ => by simp [fitX, fit1] at hf
  | .v :: ax, .io _ :: ms, _, _, _, _, _, _, _, hf, _, _, _, _, _ => by simp [fitX, fit1] at hf
  | .sl _ :: ax, .no :: ms, _, _, _, _, _, _, _, hf, _, _, _, _, _ => by simp [fitX, fit1] at hf
  | .sl _ :: ax, .own _ :: ms, _, _, _, _, _, _, _, hf, _, _, _, _, _ => by simp [fitX, fit1] at hf
  | [], _ :: _, _, _, _, _, _, _, _, hf, _, _, _, _, _ => by simp [fitX] at hf
  | _ :: _, [], _, _, _, _, _, _, _, hf, _, _, _, _, _ => by simp [fitX] at hf
/-- the addresses of the written arguments -/
def ioA (φ : Fp) (is : List Nat) : List Addr := (is.map φ.fp).flatten
theorem ioA_mem {a : Addr} {is : List Nat} : a ∈ ioA φ is ↔ ∃ i ∈ is, a ∈ φ.fp i := by
  unfold ioA
  rw [List.mem_flatten]
  constructor
  · rintro ⟨l, hl, ha⟩
    obtain ⟨i, hi, rfl⟩ := List.mem_map.mp hl
    exact ⟨i, hi, ha⟩
  · rintro ⟨i, hi, ha⟩
    exact ⟨_, List.mem_map.mpr ⟨i, hi, rfl⟩, ha⟩
theorem ioA_nd (h : OwnS K f w Θ σ s φ) : ∀ {is : List Nat}, ndup is = true → (ioA φ is).Nodup
  | [], _ => List.nodup_nil
  | i :: is, hn => by
    have hn : (!is.contains i && ndup is) = true := hn
    rw [Bool.and_eq_true, Bool.not_eq_true'] at hn
    have ni : i ∉ is := fun z => by rw [List.contains_iff_mem.mpr z] at hn; cases hn.1
    refine List.nodup_append.mpr ⟨h.nd i, ioA_nd h hn.2, fun a ha b hb e => ?_⟩
    subst e
    obtain ⟨j, hj, hb⟩ := ioA_mem.mp hb
    rw [h.sep i j a ha hb] at ni
    exact ni hj
theorem args_ok (ios0 : List Nat) (o : OwnS K f w Θ σ s φ) (g : Addr → Prop) (hg : ∀ a, g a → a ∈ ioA φ ios0) : ∀ {ax : List Ax} {ms : List Sl} {ps ds : List D} {vs : List V}, RXs K w σ ax ps vs → fillA ax ps s.s = some ds → fitX Θ ios0 ax ms = true → Args K w g ms ds vs (ioA φ (iosOf ax ms))
  | [], [], ps, ds, vs, ⟨h1, h2⟩, hfi, _ => by
    subst h1 h2
    cases hfi
    exact ⟨rfl, rfl, rfl⟩
  | .v :: ax, m :: ms, ps, ds, vs, ⟨d, es, v, r, e0, e1, rd, rx⟩, hfi, hf => by
    subst e0 e1
    have hf : fit1 Θ ios0 .v m = true ∧ fitX Θ ios0 ax ms = true := by simpa [fitX] using hf
    obtain ⟨ds', hds, rfl⟩ := Option.map_eq_some_iff.mp (show (fillA ax es s.s).map (d :: ·) = some ds from hfi)
    have ih := args_ok ios0 o g hg rx hds hf.2
    cases m with
    | own t =>
      cases t with
      | p => exact ⟨d, ds', v, r, [], _, rfl, rfl, rfl, ⟨rd, rfl⟩, ih⟩
      | _ => simp [fit1] at hf
    | bor t => exact ⟨d, ds', v, r, [], rfl, rfl, rd.bor, (fun _ z => nomatch z), ih⟩
    | no => simp [fit1] at hf
    | io t => simp [fit1] at hf
    | lk t => simp [fit1] at hf
  | .sl i :: ax, m :: ms, ps, ds, vs, ⟨v, r, e1, hv, rx⟩, hfi, hf => by
    subst e1
    have hf : fit1 Θ ios0 (.sl i) m = true ∧ fitX Θ ios0 ax ms = true := by simpa [fitX] using hf
    have hfi : (match s.s[i]? with | some (some d) => (fillA ax ps s.s).map (d :: ·) | _ => none) = some ds := hfi
    cases m with
    | io t =>
      obtain ⟨κ, hi, hk⟩ := fit1_io hf.1
      obtain ⟨d, v', h1, h2, h3, _⟩ := o.ow hi hk
      rw [hv] at h2; cases h2
      rw [h1] at hfi
      obtain ⟨ds', hds, rfl⟩ := Option.map_eq_some_iff.mp hfi
      exact ⟨d, ds', v, r, φ.fp i, _, rfl, rfl, rfl, h3, args_ok ios0 o g hg rx hds hf.2⟩
    | bor t =>
      have h : (!ios0.contains i && (match Θ[i]? with | some (.own u) => u.beq t | some (.io u) => u.beq t | some (.bor u) => u.beq t | _ => false)) = true := hf.1
      rw [Bool.and_eq_true, Bool.not_eq_true'] at h
      have ni : i ∉ ios0 := fun z => by rw [List.contains_iff_mem.mpr z] at h; cases h.1
      have away : ∀ b ∈ φ.fp i, ¬ g b := fun b hb z => by
        obtain ⟨j, hj, z⟩ := ioA_mem.mp (hg b z)
        rw [o.sep i j b hb z] at ni
        exact ni hj
      have fin : ∀ {d : D} {B : List Addr}, s.s[i]? = some (some d) → Rp false K w t d v B → (∀ b ∈ B, ¬ g b) → Args K w g (.bor t :: ms) ds (v :: r) (ioA φ (iosOf (.sl i :: ax) (.bor t :: ms))) := fun {d B} h1 h3 h4 => by
        rw [h1] at hfi
        obtain ⟨ds', hds, rfl⟩ := Option.map_eq_some_iff.mp hfi
        exact ⟨d, ds', v, r, B, rfl, rfl, h3, h4, args_ok ios0 o g hg rx hds hf.2⟩
      have h2 := h.2
      cases e : Θ[i]? with
      | none => rw [e] at h2; cases h2
      | some κ =>
        rw [e] at h2
        cases κ with
        | own u =>
          cases Tag.eq_of (show u.beq t = true from h2)
          obtain ⟨d, v', h1, h5, h3, _⟩ := o.ow e rfl
          rw [hv] at h5; cases h5
          exact fin h1 h3.weak away
        | io u =>
          cases Tag.eq_of (show u.beq t = true from h2)
          obtain ⟨d, v', h1, h5, h3, _⟩ := o.ow e rfl
          rw [hv] at h5; cases h5
          exact fin h1 h3.weak away
        | bor u =>
          cases Tag.eq_of (show u.beq t = true from h2)
          obtain ⟨B, h1, h5, h3, h4⟩ := o.bor i _ e
          rw [hv] at h5
          have h5 := Option.some.inj (Option.some.inj h5)
          rw [← h5] at h3
          exact fin h1 h3 fun b hb z => by
            obtain ⟨j, hj, z⟩ := ioA_mem.mp (hg b z)
            exact o.bf b (h4 b hb) (o.inF j b z)
        | no => cases h2
        | lk => cases h2
    | no => simp [fit1] at hf
    | own t => simp [fit1] at hf
    | lk t => simp [fit1] at hf
  | [], _ :: _, _, _, _, _, _, hf => by simp [fitX] at hf
  | _ :: _, [], _, _, _, _, _, hf => by simp [fitX] at hf
/-- the call itself -/
theorem lcallX {rz : Bool} {ms : List Sl} {τ : Tag} {F : FR} {ax : List Ax} {ps : List D} {vs : List V} {Q : VK} {E : XK} (hE : rz = true → Θ.le Θx = true ∧ E = fun cls d H => W cls d σ H) (o : OwnS K f w Θ σ s φ) (rx : RXs K w σ ax ps vs) (hf : fitX Θ (iosOf ax ms) ax ms = true) (hn : ndup (iosOf ax ms) = true)
    (h : Ef K mg f W w σ Θ Θx (fun w φ d v => RE K f w φ (.own τ) d v) (match fillA ax ps s.s with
      | some ds => match F ds with
        | .ok d outs => .ok d ⟨wb (iosOf ax ms) outs s.s, s.h⟩
        | .exc c outs => if rz = true then .exc c ⟨wb (iosOf ax ms) outs s.s, s.h⟩ else .stuck
        | .stuck => .stuck
      | none => .stuck) Q) : CF K mg rz ms τ F vs w.H Q E := by
  cases hfi : fillA ax ps s.s with
  | none => rw [hfi] at h; exact h.elim
  | some ds =>
    rw [hfi] at h
    dsimp only at h
    refine ⟨w, ds, ioA φ (iosOf ax ms), rfl, ⟨o.lkd, o.tab⟩, args_ok (iosOf ax ms) o _ (fun a ha => ha) rx hfi hf, ioA_nd o hn, ?_⟩
    have inf : ∀ a ∈ ioA φ (iosOf ax ms), f a := fun a ha => by obtain ⟨i, _, ha⟩ := ioA_mem.mp ha; exact o.inF i a ha
    have od := o.drops (iosOf ax ms)
    have sep : ∀ a, a ∈ ioA φ (iosOf ax ms) → ¬ (⟨fun j => if j ∈ iosOf ax ms then [] else φ.fp j, φ.G⟩ : Fp).all a := fun a ha z => by
      obtain ⟨i, hi, ha⟩ := ioA_mem.mp ha
      rcases z with z | ⟨j, z⟩
      · exact o.hsep i a ha z
      · dsimp only at z
        by_cases c : j ∈ iosOf ax ms
        · rw [if_pos c] at z; cases z
        · rw [if_neg c] at z; rw [o.sep i j a ha z] at hi; exact c hi
    have fr : ∀ a, (a ∈ ioA φ (iosOf ax ms) ∨ w.H a = none) → f a ∧ ¬ (⟨fun j => if j ∈ iosOf ax ms then [] else φ.fp j, φ.G⟩ : Fp).all a := fun a ha => ha.elim (fun z => ⟨inf a z, sep a z⟩) fun z => ⟨o.new a z, fun y => od.al a y z⟩
    cases hF : F ds with
    | stuck => rw [hF] at h; exact h
    | ok d outs =>
      rw [hF] at h
      intro v w' B A' g ho r nd nw
      obtain ⟨n1, n2, n3⟩ := List.nodup_append.mp nd
      have o1 := od.gr g sep inf
      obtain ⟨φ', o2, k⟩ := wb_ok (iosOf ax ms) o rx hf ho o1 n2 (fun a ha => fr a (nw a (List.mem_append_right _ ha))) hn
      refine h v w' φ' (g.mono inf) o2 ⟨B, r, n1, fun a ha => ?_⟩
      obtain ⟨q1, q2⟩ := fr a (nw a (List.mem_append_left _ ha))
      refine ⟨q1, fun z => ?_⟩
      rcases k a z with z | z
      · exact n3 a ha a z rfl
      · exact q2 z
    | exc c outs =>
      rw [hF] at h
      cases rz with
      | false => exact h.elim
      | true =>
        obtain ⟨hle, rfl⟩ := hE rfl
        refine ⟨rfl, fun C w' A' hc g ho n2 nw => ?_⟩
        have o1 := od.gr g sep inf
        obtain ⟨φ', o2, k⟩ := wb_ok (iosOf ax ms) o rx hf ho o1 n2 (fun a ha => fr a (nw a ha)) hn
        exact h C w' φ' hc (g.mono inf) (o2.le hle)
end
section
variable {η : Type} [HR η] {X : Cx} {f : Fm} {W : WX} {Θ Θ1 Θ2 Θx : Th} {e : Expr} {es : List Expr} {pos p : Pos} {x : Str}
structure QXs (X : Cx) (f : Fm) (W : WX) (Θ : Th) (es : List Expr) (ax : List Ax) (t : St η → Eff η (List D)) (Θ' Θx : Th) : Prop where
  r : PA X es fun σ H Q => lE X.K X.mg f W Θ Θ' Θx (fun w _ ds vs => RXs X.K w σ ax ds vs) t σ H Q
theorem qxs_nil : QXs (η := η) X f W Θ [] [] eNil Θ Θx := ⟨PA.imp pa_nil fun σ H Q ⟨w, s, φ, hw, hs, h⟩ => by subst hw; exact h [] w φ (.refl w) hs ⟨rfl, rfl⟩⟩
theorem RXs.gr {K : PySem.W.Frag} {g : Addr → Prop} {w w' : Wd} {σ : L2.St} (e : Gr g w w') : ∀ {ax : List Ax} {ds : List D} {vs : List V}, RXs K w σ ax ds vs → RXs K w' σ ax ds vs
  | [], _, _, h => h
  | .v :: _, _, _, ⟨d, es, v, r, e1, e2, h1, h2⟩ => ⟨d, es, v, r, e1, e2, h1.gr e, RXs.gr e h2⟩
  | .sl _ :: _, _, _, ⟨v, r, e1, h1, h2⟩ => ⟨v, r, e1, h1, RXs.gr e h2⟩
theorem qxs_v {ax : List Ax} {t : ER η} {ts : St η → Eff η (List D)} (ha : QE X f W Θ e t .p Θ1 Θx) (hr : QXs X f W Θ1 es ax ts Θ2 Θx) (hs : starEach (e :: es) X.env = (false, eval e X.env) :: starEach es X.env := by rfl) : QXs X f W Θ (e :: es) (.v :: ax) (eCons t ts) Θ2 Θx := ⟨PA.imp (pa_cons ha.r hr.r hs) fun σ H Q h => by
  obtain ⟨w, s, φ, hw, hs, h⟩ := h
  subst hw
  refine ⟨w, s, φ, rfl, hs, Ef.mono (Ef.bind h) ?_⟩
  rintro x H1 ⟨w1, dx, s1, φ1, rfl, g1, o1, r1, h⟩
  refine ⟨w1, s1, φ1, rfl, o1, Ef.mono (Ef.bind h) ?_⟩
  rintro xs H2 ⟨w2, ds, s2, φ2, rfl, g2, o2, r2, h⟩
  exact h _ w2 φ2 (.refl w2) o2 ⟨dx, ds, x, xs, rfl, rfl, r1.rd.gr g2, r2⟩⟩
theorem qxs_sl (i : Nat) {ax : List Ax} {ts : St η → Eff η (List D)} {κ : Sl} {t : Tag} (hi : Θ[i]? = some κ) (hk : κ.ow = some t ∨ κ = .bor t) (hr : QXs X f W Θ es ax ts Θ2 Θx) (hN : X.N[i]? = some x := by rfl) (hv : Vis X.env.scope x := by first | exact Or.inl rfl | exact Or.inr (Or.inl rfl) | exact Or.inr (Or.inr rfl)) (hd : (x == ("__debug__" : Str)) = false := by decide)
    (hcd : (x == ("__classdict__" : Str)) = false := by decide) (hs : starEach (.Name x p :: es) X.env = (false, eval (.Name x p) X.env) :: starEach es X.env := by rfl) : QXs X f W Θ (.Name x p :: es) (.sl i :: ax) ts Θ2 Θx := ⟨PA.imp (pa_cons (pe_var hN hv hd hcd) hr.r hs) fun σ H Q h => by
  obtain ⟨w, s, φ, hw, o, h⟩ := h
  subst hw
  have : ∃ v, σ[i]? = some (some v) := by
    rcases hk with hk | rfl
    · obtain ⟨_, v, _, h2, _⟩ := o.ow hi hk; exact ⟨v, h2⟩
    · obtain ⟨_, _, h2, _⟩ := o.bor i t hi; exact ⟨_, h2⟩
  obtain ⟨v, hv⟩ := this
  refine ⟨v, hv, w, s, φ, rfl, o, ?_⟩
  cases ht : ts s with
  | stuck => rw [ht] at h; exact h
  | exc c s1 => rw [ht] at h; exact h
  | ok ds s1 => rw [ht] at h; exact fun xs w1 φ1 g1 o1 r1 => h _ w1 φ1 g1 o1 ⟨v, xs, rfl, hv, r1⟩⟩
variable {k : Nat} {fa : Addr} {fd : FuncData} {pr : List Str} {ms : List Sl} {τ : Tag} {F : FR} {ax : List Ax} {ts : St η → Eff η (List D)}
/-- as callX, of a def that raises nothing -/
def callX0 (F : FR) (ax : List Ax) (ios : List Nat) (ts : St η → Eff η (List D)) : ER η := fun s => (ts s).bind fun ps s1 => match fillA ax ps s1.s with
  | some ds => match F ds with
    | .ok d outs => .ok d ⟨wb ios outs s1.s, s1.h⟩
    | _ => .stuck
  | none => .stuck
theorem qe_call0 (FO : FnOk X.prog X.w X.K X.mg X.base CX0 k fa fd pr (CF X.K X.mg false ms τ F)) (hr : Room k X.A) (hg : Gl X x) (hm : X.mg x = some (.ref fa)) (hk : PySem.W.keepIn X.K (.ref fa) = true) (hb : Binds X.K fd pr [])
    (ha : QXs X f W Θ (e :: es) ax ts Θ1 Θx) (hf : fitX Θ1 (iosOf ax ms) ax ms = true := by rfl) (hn : ndup (iosOf ax ms) = true := by rfl) (hdb : (x == ("__debug__" : Str)) = false := by decide) (he : starEach (e :: es) X.env = (false, eval e X.env) :: starEach es X.env := by rfl) (hpl : (backTo pos (starEach es X.env)).any (·.1) = false := by rfl) :
    QE X f W Θ (.Call (.Name x p) (e :: es) [] pos) (callX0 F ax (iosOf ax ms) ts) (.own τ) Θ1 Θx := ⟨PE.imp (pe_call FO hr hg hm hk hb .nil (E := L2.E0) pass0 ha.r hdb he hpl) fun σ H Q h => by
  obtain ⟨w, s, φ, rfl, hs, h⟩ := h
  refine ⟨w, s, φ, rfl, hs, Ef.mono (Ef.bind h) ?_⟩
  rintro vs H1 ⟨w1, ps, s1, φ1, rfl, g1, o1, r1, h⟩
  rw [List.append_nil]
  refine lcallX (rz := false) (mg := X.mg) (W := W) (Θx := Θx) (fun z => Bool.noConfusion z) o1 r1 hf hn ?_
  cases hfi : fillA ax ps s1.s with
  | none => rw [hfi] at h; exact h
  | some ds =>
    rw [hfi] at h
    dsimp only at h ⊢
    cases hF : F ds with
    | ok d outs => rw [hF] at h; exact h
    | exc c outs => rw [hF] at h; exact h.elim
    | stuck => rw [hF] at h; exact h⟩
theorem qe_callX (tk : Takes X W) (FO : FnOk X.prog X.w X.K X.mg X.base (L2.CX X.prog X.w) k fa fd pr (CF X.K X.mg true ms τ F)) (hr : Room k X.A) (hg : Gl X x) (hm : X.mg x = some (.ref fa)) (hk : PySem.W.keepIn X.K (.ref fa) = true) (hb : Binds X.K fd pr [])
    (ha : QXs X f W Θ (e :: es) ax ts Θ1 Θx) (hle : Θ1.le Θx = true := by rfl) (hf : fitX Θ1 (iosOf ax ms) ax ms = true := by rfl) (hn : ndup (iosOf ax ms) = true := by rfl) (hdb : (x == ("__debug__" : Str)) = false := by decide) (he : starEach (e :: es) X.env = (false, eval e X.env) :: starEach es X.env := by rfl) (hpl : (backTo pos (starEach es X.env)).any (·.1) = false := by rfl) :
    QE X f W Θ (.Call (.Name x p) (e :: es) [] pos) (callX F ax (iosOf ax ms) ts) (.own τ) Θ1 Θx := ⟨PE.imp (pe_callS FO hr hg hm hk hb (E := WE W) (passAt tk) ha.r hdb he hpl) fun σ H Q h => by
  obtain ⟨w, s, φ, rfl, hs, h⟩ := h
  refine ⟨w, s, φ, rfl, hs, Ef.mono (Ef.bind h) ?_⟩
  rintro vs H1 ⟨w1, ps, s1, φ1, rfl, g1, o1, r1, h⟩
  refine lcallX (rz := true) (mg := X.mg) (W := W) (Θx := Θx) (fun _ => ⟨hle, rfl⟩) o1 r1 hf hn ?_
  cases hfi : fillA ax ps s1.s with
  | none => rw [hfi] at h; exact h
  | some ds =>
    rw [hfi] at h
    dsimp only at h ⊢
    cases hF : F ds with
    | ok d outs => rw [hF] at h; exact h
    | exc c outs => rw [hF] at h; exact h
    | stuck => rw [hF] at h; exact h⟩
end
end FL

/-! FO: list comprehensions. -/
namespace FL
open PySem PySem.Spec PyProof.Rows L2
variable [TabT]
theorem wipe_get {σ : L2.St} {i : Nat} : ∀ {vs : List Nat}, i ∈ vs → i < σ.length → (wipe σ vs)[i]? = some none
  | v :: vs, h, hl => by
    unfold wipe
    by_cases c : v = i
    · subst c; rw [List.getElem?_set_self (by rw [wipe_length]; exact hl)]
    · rw [List.getElem?_set_ne c]
      exact wipe_get ((List.mem_cons.mp h).resolve_left fun z => c z.symm) hl
theorem wipe_not {σ : L2.St} {i : Nat} : ∀ {vs : List Nat}, i ∉ vs → (wipe σ vs)[i]? = σ[i]?
  | [], _ => rfl
  | v :: vs, h => by
    unfold wipe
    rw [List.getElem?_set_ne fun z => h (by rw [z]; exact List.mem_cons_self)]
    exact wipe_not fun z => h (List.mem_cons_of_mem _ z)
theorem wipe_eq {σ τ : L2.St} {vs : List Nat} (hl : σ.length = τ.length) (h : ∀ i, i ∉ vs → σ[i]? = τ[i]?) : wipe σ vs = wipe τ vs := by
  refine List.ext_getElem? fun i => ?_
  by_cases c : i ∈ vs
  · by_cases b : i < σ.length
    · rw [wipe_get c b, wipe_get c (hl ▸ b)]
    · rw [List.getElem?_eq_none (by rw [wipe_length]; omega), List.getElem?_eq_none (by rw [wipe_length]; omega)]
  · rw [wipe_not c, wipe_not c]; exact h i c
theorem wipe_wipe {σ : L2.St} {vs : List Nat} : wipe (wipe σ vs) vs = wipe σ vs := wipe_eq (wipe_length σ vs) fun i h => wipe_not h
theorem wipe_set {σ : L2.St} {vs : List Nat} {i : Nat} {o : Option V} (h : i ∈ vs) : wipe (σ.set i o) vs = wipe σ vs := wipe_eq (by simp) fun j hj => List.getElem?_set_ne fun (z : i = j) => hj (by rw [← z]; exact h)
section
variable {η : Type} [HR η] {K : PySem.W.Frag} {f : Fm} {w w' w1 w2 : Wd} {Θ Θ1 Θ2 Θ3 Θ4 Θx : Th} {σ τ : L2.St} {s : St η} {φ : Fp} {mg : Str → Option Value} {W : WX}
/-- slots of which nothing is known may be other -/
theorem OwnS.slots (h : OwnS K f w Θ σ s φ) (hl : τ.length = σ.length) {vs : List Nat} (hn : noAt Θ vs = true) (he : ∀ i, i ∉ vs → τ[i]? = σ[i]?) : OwnS K f w Θ τ s φ := by
  have key : ∀ {i : Nat} {κ : Sl}, Θ[i]? = some κ → κ ≠ .no → i ∉ vs := fun {i κ} e n hi => by
    have := List.all_eq_true.mp hn i hi
    rw [e] at this
    cases κ <;> first | exact n rfl | cases this
  exact { h with
    len1 := hl.trans h.len1
    own := fun i t e => by obtain ⟨d, v, h1, h2, h3⟩ := h.own i t e; exact ⟨d, v, h1, (he i (key e fun z => nomatch z)).trans h2, h3⟩
    bor := fun i t e => by obtain ⟨A, h1, h2, h3⟩ := h.bor i t e; exact ⟨A, h1, (he i (key e fun z => nomatch z)).trans h2, h3⟩
    lks := fun i t e => by obtain ⟨kvs, a, o, u, vs, h1, h2, h3, h4, h5⟩ := h.lks i t e; exact ⟨kvs, a, o, u, vs, h1, h2, h3, (he i (key e fun z => nomatch z)).trans h4, h5⟩
    io := fun i t e => by obtain ⟨d, h1, h2, h3⟩ := h.io i t e; exact ⟨d, h1, (he i (key e fun z => nomatch z)).trans h2, h3⟩ }
theorem OwnS.gr2 {g : Addr → Prop} (h : OwnS K f w Θ σ s φ) (e : Gr g w w') (hd : ∀ a, g a → ¬ φ.all a) (hb : ∀ a, f.b a → ¬ g a) (hn : ∀ a, w'.H a = none → f a) : OwnS K f w' Θ σ s φ := { h with
  own := fun i t z => by obtain ⟨d, v, h1, h2, h3⟩ := h.own i t z; exact ⟨d, v, h1, h2, h3.gr e fun x hx hg => hd x hg (.inr ⟨i, hx⟩)⟩
  lks := fun i t z => by obtain ⟨kvs, a, o, u, vs, h1, h2, h3, h4, h5, h6, h7⟩ := h.lks i t z; exact ⟨kvs, a, o, u, vs, h1, h2, h3, h4, e.per _ (.frz o u) trivial h5, h6, h7.gr e⟩
  bor := fun i t z => by obtain ⟨A, h1, h2, h3, h4⟩ := h.bor i t z; exact ⟨A, h1, h2, h3.gr e (fun x hx hg => hb x (h4 x hx) hg), h4⟩
  io := fun i t z => by obtain ⟨d, h1, h2, h3⟩ := h.io i t z; exact ⟨d, h1, h2, h3.gr e fun x hx hg => hd x hg (.inr ⟨i, hx⟩)⟩
  new := hn
  tab := e.tab h.tab
  al := fun a z n => h.al a z (e.nn n fun c => hd a c z)
  lkd := fun a z => by obtain ⟨o, u, y⟩ := h.lkd a ((e.lk a).mp z); exact ⟨o, u, e.per _ (.frz o u) trivial y⟩
  heap := HR.gr h.heap e fun a z c => hd a c (.inl z) }
/-- all but one object may be written -/
abbrev Fm.but (f : Fm) (D : Addr) : Fm := ⟨fun a => f a ∧ a ≠ D, f.b, f.π, f.δ⟩
theorem OwnS.narrow (h : OwnS K f w Θ σ s φ) {D : Addr} {o : HO} (hD : w.H D = none) (ho : NoTb o := by intro _ z; cases z) : OwnS K (f.but D) (w.up D o) Θ σ s φ := by
  have h1 := h.gr0 (Gr.new (o := o) hD ho)
  have ne : ∀ a, φ.all a → a ≠ D := fun a ha z => h.al a ha (by rw [z]; exact hD)
  exact { h1 with
    bf := fun a hb z => h.bf a hb z.1
    inF := fun i a ha => ⟨h.inF i a ha, ne a (.inr ⟨i, ha⟩)⟩
    new := fun a ha => ⟨h1.new a ha, fun z => by subst z; rw [show (w.up a o).H a = some o from upd_same] at ha; cases ha⟩
    hF := fun a ha => ⟨h.hF a ha, ne a (.inl ha)⟩ }
theorem OwnS.widen {D : Addr} (h : OwnS K (f.but D) w Θ σ s φ) (bf : ∀ a, f.b a → ¬ f a) : OwnS K f w Θ σ s φ := { h with
  bf := bf
  inF := fun i a ha => (h.inF i a ha).1
  new := fun a ha => (h.new a ha).1
  hF := fun a ha => (h.hF a ha).1 }
def Eff.nox {α : Type} : Eff η α → Eff η α
  | .exc _ _ => .stuck
  | o => o
@[simp] theorem Eff.nox_ok {α : Type} {a : α} {s : St η} : (Eff.ok a s).nox = .ok a s := rfl
def compL (g : GR η) (tt : St η → Eff η Bool) (te : ER η) (vs : List Nat) : List D → St η → Eff η (List D)
  | [], s => .ok [] s
  | x :: xs, s => match g x s with
    | none => .stuck
    | some s1 => (tt s1).nox.bind fun b s2 => if b = true then (te s2).nox.bind fun y s3 => (compL g tt te vs xs (s3.wipe vs)).bind fun ys s4 => .ok (y :: ys) s4
      else compL g tt te vs xs (s2.wipe vs)
def eLc (ti : St η → Eff η (List D)) (g : GR η) (tt : St η → Eff η Bool) (te : ER η) (vs : List Nat) : ER η := fun s => (ti s).bind fun items s1 => (compL g tt te vs items s1).bind fun ys s2 => (lstO ys).eff s2
abbrev W0 : WX := fun _ _ _ _ => False
end
section
variable {η : Type} [HR η] {X : Cx} {f : Fm} {W : WX} {Θ Θ1 Θ2 Θ3 Θ4 Θx : Th} {tg iter elt : Expr} {pos : Pos} {vs : List Nat}
/-- a comprehension's target: its own slots alone are stored -/
structure QC (X : Cx) (f : Fm) (vs : List Nat) (Θ : Th) (tg : Expr) (g : GR η) (Θ' : Th) : Prop where
  r : PG X tg fun v σ H Q => ∃ w s φ d s', w.H = H ∧ OwnS X.K f w Θ σ s φ ∧ RD X.K w d v ∧ g d s = some s' ∧ ∀ σ' φ', OwnS X.K f w Θ' σ' s' φ' → wipe σ' vs = wipe σ vs → Q σ' w.H
structure QCs (X : Cx) (f : Fm) (vs : List Nat) (Θ : Th) (tgs : List Expr) (g : List D → St η → Option (St η)) (Θ' : Th) : Prop where
  r : PGs X tgs fun us σ H Q => ∃ w s φ ds s', w.H = H ∧ OwnS X.K f w Θ σ s φ ∧ RDs X.K w ds us ∧ g ds s = some s' ∧ ∀ σ' φ', OwnS X.K f w Θ' σ' s' φ' → wipe σ' vs = wipe σ vs → Q σ' w.H
theorem qc_name {i : Nat} {x : Str} (hv : i ∈ vs) (hN : X.N.Nodup) (hi : X.N[i]? = some x := by rfl) (hx : Loc X.env.scope x := by first | exact Or.inl rfl | exact Or.inr rfl) (hf : X.fn x = true ∨ X.env.scope.names.lookup x = some .local := by first | exact .inl rfl | exact .inr rfl) : QC (η := η) X f vs Θ (.Name x pos) (gName i) (Θ.set i .p) :=
  ⟨PG.imp (pg_name hN hi hx hf) fun v σ H Q ⟨w, s, φ, d, s', e, o, r, hg, h⟩ => by subst e; cases hg; exact h _ _ (o.setP i r) (wipe_set hv)⟩
theorem qcs_nil : QCs (η := η) X f vs Θ [] gNil Θ := ⟨PGs.imp pgs_nil fun us σ H Q ⟨w, s, φ, ds, s', e, o, r, hg, h⟩ => by
  subst e
  cases ds with
  | nil => cases hg; exact ⟨r, h σ φ o rfl⟩
  | cons d ds => cases hg⟩
theorem qcs_cons {e : Expr} {es : List Expr} {g : GR η} {gs : List D → St η → Option (St η)} (h1 : QC X f vs Θ e g Θ1) (h2 : QCs X f vs Θ1 es gs Θ2) (hs : (assignEach (e :: es) X.env).map (·.2) = assign e X.env :: (assignEach es X.env).map (·.2) := by rfl) : QCs X f vs Θ (e :: es) (gCons g gs) Θ2 :=
  ⟨PGs.imp (pgs_cons h1.r h2.r hs) fun us σ H Q ⟨w, s, φ, ds, s', e, o, r, hg, h⟩ => by
    subst e
    cases ds with
    | nil => cases hg
    | cons d ds =>
      obtain ⟨v, u, rfl, r1, r2⟩ := r
      obtain ⟨s1, e1, e2⟩ := Option.bind_eq_some_iff.mp hg
      exact ⟨v, u, rfl, w, s, φ, d, s1, rfl, o, r1, e1, fun σ' φ' o' w1 => ⟨w, s1, φ', ds, s', rfl, o', r2, e2, fun σ2 φ2 o2 w2 => h σ2 φ2 o2 (w2.trans w1)⟩⟩⟩
theorem qc_tup {es : List Expr} {k : Nat} {gs : List D → St η → Option (St η)} {n : Nat} (hc : X.calm = true) (h : QCs X f vs Θ es gs Θ1) (hn : (assignEach es X.env).length = n := by rfl) (hst : (assignEach es X.env).findIdx? (·.1) = none := by rfl) : QC X f vs Θ (.Tuple es k pos) (gTup n gs) Θ1 :=
  ⟨PG.imp (pg_tup hc h.r hn hst) fun v σ H Q ⟨w, s, φ, d, s', e, o, r, hg, h⟩ => by
    subst e
    cases d with
    | tup ds =>
      obtain ⟨a, us, rfl, ht, rv, _⟩ := r
      unfold gTup at hg
      by_cases z : ds.length = n
      · simp only [z, if_true] at hg
        exact ⟨a, us, rfl, ht, by rw [rv.len]; exact z, w, s, φ, ds, s', rfl, o, rv, hg, h⟩
      · simp only [if_neg z] at hg; cases hg
    | _ => cases hg⟩
structure QTs (X : Cx) (f : Fm) (W : WX) (Θ : Th) (ifs : List Expr) (t : St η → Eff η Bool) (Θ' Θx : Th) : Prop where
  r : PTs X ifs (lE X.K X.mg f W Θ Θ' Θx rB t)
theorem PTs.imp {X : Cx} {e : List Expr} {t t' : TT} (h : PTs X e t) (i : ∀ σ H Q, t' σ H Q → t σ H Q) : PTs X e t' := ⟨fun pins s σ H Q I q => h.run pins s σ H Q I (i _ _ _ q)⟩
def eYes : St η → Eff η Bool := fun s => .ok true s
theorem qts_nil : QTs (η := η) X f W Θ [] eYes Θ Θx := ⟨PTs.imp pts_nil fun σ H Q ⟨w, s, φ, e, o, h⟩ => by subst e; exact h true w φ (.refl w) o rfl⟩
theorem qts_one {c : Expr} {t : St η → Eff η Bool} (h : QT X f W Θ c t Θ1 Θx) : QTs X f W Θ [c] t Θ1 Θx := ⟨pts_one h.r⟩
theorem llc {K : PySem.W.Frag} {mg : Str → Option Value} {ti : St η → Eff η (List D)} {g : GR η} {tt : St η → Eff η Bool} {te : ER η} {σ : L2.St} {H : Hp} {Q : VK} {TGx : TG} {TTx : TT} {TEx : TE}
    (hG : ∀ (g' : Fm) v σ H Q, (∃ w s φ d s', w.H = H ∧ OwnS K g' w Θ1 σ s φ ∧ RD K w d v ∧ g d s = some s' ∧ ∀ σ' φ', OwnS K g' w Θ2 σ' s' φ' → wipe σ' vs = wipe σ vs → Q σ' w.H) → TGx v σ H Q)
    (hT : ∀ (g' : Fm) σ H Q, lE K mg g' W0 Θ2 Θ3 Θx rB tt σ H Q → TTx σ H Q) (hE : ∀ (g' : Fm) σ H Q, lE K mg g' W0 Θ3 Θ4 Θx (fun w φ d v => RE K g' w φ .p d v) te σ H Q → TEx σ H Q)
    (hn : noAt Θ1 vs = true) (l3 : Th.le Θ3 Θ1 = true) (l4 : Th.le Θ4 Θ1 = true)
    (h : lE K mg f W Θ Θ1 Θx (fun w φ d v => RE K f w φ (.own (.l .p)) d v) (eLc ti g tt te vs) σ H Q) : tLc (lE K mg f W Θ Θ1 Θx (fun w _ items J => ItOk K J items w) ti) TGx TTx TEx vs σ H Q := by
  obtain ⟨w, s, φ, rfl, hs, h⟩ := h
  refine ⟨w, s, φ, rfl, hs, Ef.mono (Ef.bind h) ?_⟩
  rintro J H1 ⟨w1, items, s1, φ1, rfl, g1, o1, iok, h1⟩
  intro D hD
  have fD : f D := o1.new D hD
  have bf := o1.bf
  have wl : (wipe σ vs).length = σ.length := wipe_length σ vs
  have o1' : OwnS K (f.but D) (w1.up D (.lst [])) Θ1 (wipe σ vs) s1 φ1 := (o1.slots (τ := wipe σ vs) wl hn fun i hi => wipe_not hi).narrow hD
  refine ⟨fun i m H' => ∃ w' s' φ' acc us, w'.H = H' ∧ Gr f w1 w' ∧ OwnS K (f.but D) w' Θ1 (wipe σ vs) s' φ' ∧ w'.H D = some (.lst us) ∧ RDs K w' acc us ∧ i ≤ items.length ∧ m = items.length - i ∧
    Ef K mg f W w' σ Θ1 Θx (fun w φ d v => RE K f w φ (.own (.l .p)) d v) ((compL g tt te vs (items.drop i) s').bind fun ys s2 => (lstO (acc ++ ys)).eff s2) Q,
    ⟨items.length, w1.up D (.lst []), s1, φ1, [], [], rfl, .new hD, o1', upd_same, rfl, Nat.zero_le _, rfl, by simpa using h1.gr (.new hD)⟩, ?_⟩
  rintro i m H2 ⟨w2, s2, φ2, acc, us, rfl, g2, o2, hD2, ra, hi, rfl, h2⟩
  obtain ⟨k1, k2⟩ := iok i f w2 g2
  by_cases hlt : i < items.length
  · rw [List.drop_eq_getElem_cons hlt] at h2
    obtain ⟨go, yl⟩ := k2 _ (List.getElem?_eq_getElem hlt)
    refine .inr ⟨go, fun H' => ∃ w' s' φ' acc us, w'.H = H' ∧ Gr f w1 w' ∧ OwnS K (f.but D) w' Θ1 (wipe σ vs) s' φ' ∧ w'.H D = some (.lst us) ∧ RDs K w' acc us ∧
      Ef K mg f W w' σ Θ1 Θx (fun w φ d v => RE K f w φ (.own (.l .p)) d v) ((compL g tt te vs (items.drop (i + 1)) s').bind fun ys s2 => (lstO (acc ++ ys)).eff s2) Q,
      fun H' ⟨w', s', φ', acc, us, x1, x2, x3, x4, x5, x6⟩ => ⟨items.length - (i + 1), by omega, w', s', φ', acc, us, x1, x2, x3, x4, x5, hlt, rfl, x6⟩, fun x H3 y => ?_⟩
    obtain ⟨w3, rfl, g3, r3⟩ := yl x H3 y
    unfold compL at h2
    cases hgx : g items[i] s2 with
    | none => simp only [hgx] at h2; exact h2.elim
    | some s3 =>
      simp only [hgx] at h2
      refine hG (f.but D) _ _ _ _ ⟨w3, s2, φ2, items[i], s3, rfl, o2.gr0 g3, r3, hgx, fun σ4 φ4 o4 w4 => ⟨w4.trans wipe_wipe, ?_⟩⟩
      have w4 : wipe σ4 vs = wipe σ vs := w4.trans wipe_wipe
      have sl4 : σ4.length = σ.length := by have := congrArg List.length w4; rw [wipe_length, wipe_length] at this; exact this
      have sg4 : ∀ j, j ∉ vs → (wipe σ vs)[j]? = σ4[j]? := fun j hj => by rw [← w4, wipe_not hj]
      have back : ∀ {w' : Wd} {s' : St η} {φ' : Fp} {Θ' : Th}, Th.le Θ' Θ1 = true → OwnS K (f.but D) w' Θ' σ4 s' φ' → OwnS K (f.but D) w' Θ1 (wipe σ vs) (s'.wipe vs) φ' := fun l o => ((o.le l).wipe hn).slots (wl.trans sl4.symm) hn sg4
      have h3 := h2.gr (g3.any (f := f))
      have hD3 : w3.H D = some (.lst us) := g3.keep D _ id (fun _ z => nomatch z) hD2
      have nf : ¬ (f.but D) D := fun z => z.2 rfl
      refine hT (f.but D) _ _ _ ⟨w3, s3, φ4, rfl, o4, ?_⟩
      cases htt : tt s3 with
      | stuck => rw [htt] at h3; exact h3.elim
      | exc c s4 => rw [htt] at h3; exact h3.elim
      | ok b s4 =>
        rw [htt] at h3
        simp only [Eff.nox_ok, Eff.bind_ok] at h3
        intro b' w5 φ5 g5 o5 rb
        cases rb
        have G5 : Gr f w3 w5 := g5.mono fun a z => z.1
        have hD5 : w5.H D = some (.lst us) := g5.keep D _ nf (fun _ z => nomatch z) hD3
        cases b with
        | false =>
          exact ⟨w5, _, φ5, acc, us, rfl, (g2.trans g3.any).trans G5, back l3 o5, hD5, (ra.gr g3).gr g5, h3.gr G5⟩
        | true =>
          refine hE (f.but D) _ _ _ ⟨w5, s4, φ5, rfl, o5, ?_⟩
          have h5 := h3.gr G5
          cases hte : te s4 with
          | stuck => simp only [if_true] at h5; rw [hte] at h5; exact h5.elim
          | exc c s5 => simp only [if_true] at h5; rw [hte] at h5; exact h5.elim
          | ok y s5 =>
            simp only [if_true] at h5
            rw [hte] at h5
            simp only [Eff.nox_ok, Eff.bind_ok] at h5
            intro v w6 φ6 g6 o6 r6
            have G6 : Gr f w5 w6 := g6.mono fun a z => z.1
            have hD6 : w6.H D = some (.lst us) := g6.keep D _ nf (fun _ z => nomatch z) hD5
            have ra6 := ((ra.gr g3).gr g5).gr g6
            have h6 := h5.gr G6
            have hz : acc.length < sizeLine := by
              cases hc : compL g tt te vs (items.drop (i + 1)) (s5.wipe vs) with
              | stuck => rw [hc] at h6; exact h6.elim
              | exc c s7 =>
                exfalso
                have noexc : ∀ (xs : List FL.D) (s : St η) c s', compL g tt te vs xs s ≠ .exc c s' := by
                  intro xs
                  induction xs with
                  | nil => intro s c s' z; cases z
                  | cons x xs ih =>
                    intro s c s' z
                    unfold compL at z
                    cases q : g x s with
                    | none => simp only [q] at z; cases z
                    | some s1 =>
                      simp only [q] at z
                      cases q2 : tt s1 with
                      | stuck => rw [q2] at z; cases z
                      | exc c s => rw [q2] at z; cases z
                      | ok b s2 =>
                        rw [q2] at z
                        simp only [Eff.nox_ok, Eff.bind_ok] at z
                        cases b with
                        | false => exact ih _ _ _ z
                        | true =>
                          simp only [if_true] at z
                          cases q3 : te s2 with
                          | stuck => rw [q3] at z; cases z
                          | exc c s => rw [q3] at z; cases z
                          | ok y s3 =>
                            rw [q3] at z
                            simp only [Eff.nox_ok, Eff.bind_ok] at z
                            cases q4 : compL g tt te vs xs (s3.wipe vs) with
                            | stuck => rw [q4] at z; cases z
                            | exc c s => exact ih _ _ _ q4
                            | ok ys s4 => rw [q4] at z; cases z
                exact noexc _ _ _ _ hc
              | ok ys s7 =>
                rw [hc] at h6
                simp only [Eff.bind_ok] at h6
                by_cases c : (acc ++ y :: ys).length ≤ sizeLine
                · rw [List.length_append, List.length_cons] at c; omega
                · unfold lstO at h6; rw [if_neg c] at h6; exact h6.elim
            refine ⟨us, hD6, by rw [ra6.len]; exact hz, ?_⟩
            have gd : Gr (fun a => a = D) w6 (w6.up D (.lst (us ++ [v]))) := .mut hD6 id rfl
            have GD : Gr f w6 (w6.up D (.lst (us ++ [v]))) := .mut hD6 id fD
            have nD : ∀ a, a = D → ¬ φ6.all a := fun a e z => by
              subst e
              rcases z with z | ⟨j, z⟩
              · exact (o6.hF _ z).2 rfl
              · exact (o6.inF j _ z).2 rfl
            have o7 := (back l4 o6).gr2 gd nD (fun a hb e => by subst e; exact bf _ hb fD) (fun a hn => by
              have : w6.H a = none := gd.nn hn fun e => by subst e; rw [show (w6.up a (.lst (us ++ [v]))).H a = _ from upd_same] at hn; cases hn
              exact o6.new a this)
            refine ⟨w6.up D (.lst (us ++ [v])), _, φ6, acc ++ [y], us ++ [v], rfl, (((g2.trans g3.any).trans G5).trans G6).trans GD, o7, upd_same, (ra6.snoc r6.rd).gr gd, ?_⟩
            have h7 := h6.gr GD
            have e : ((compL g tt te vs (items.drop (i + 1)) (s5.wipe vs)).bind fun ys s4 => Eff.ok (y :: ys) s4).bind (fun ys s2 => (lstO (acc ++ ys)).eff s2) = (compL g tt te vs (items.drop (i + 1)) (s5.wipe vs)).bind fun ys s2 => (lstO ((acc ++ [y]) ++ ys)).eff s2 := by
              cases compL g tt te vs (items.drop (i + 1)) (s5.wipe vs) with
              | ok ys s => simp
              | exc c s => rfl
              | stuck => rfl
            rw [e] at h7
            exact h7
  · have hl : i = items.length := by omega
    subst hl
    rw [List.drop_length] at h2
    have h3 : Ef K mg f W w2 σ Θ1 Θx (fun w φ d v => RE K f w φ (.own (.l .p)) d v) ((lstO (acc ++ [])).eff s2) Q := h2
    rw [List.append_nil] at h3
    unfold lstO at h3
    by_cases c : acc.length ≤ sizeLine
    · rw [if_pos c] at h3
      refine .inl ⟨k1 rfl, h3 (.ref D) w2 φ2 (.refl w2) ((o2.widen bf).slots (τ := σ) wl.symm hn fun j hj => (wipe_not hj).symm) ⟨[D], Rp.lst_of hD2 ra, by simp, fun a ha => ?_⟩⟩
      rw [List.mem_singleton.mp ha]
      refine ⟨fD, fun z => ?_⟩
      rcases z with z | ⟨j, z⟩
      · exact (o2.hF _ z).2 rfl
      · exact (o2.inF j _ z).2 rfl
    · rw [if_neg c] at h3; exact h3.elim
theorem qe_lc {ifs : List Expr} {scope : Scope} {own : List (Str × Nat)} {ti : St η → Eff η (List D)} {g : GR η} {tt : St η → Eff η Bool} {te : ER η} (hc : X.calm = true) (hN : X.N.Nodup) (hi : QI X f W Θ tg iter ti Θ1 Θx) (ok : BlkOk X.N X.env.scope scope own)
    (hg : ∀ (g' : Fm) (s : Shared) (H : Hp) (C : Addr) (cl : List (Str × Addr)) (fp : List Addr), QC (X.blk s H scope (compEnvC scope cl C X.env) fp) g' (own.map (·.2)) Θ1 tg g Θ2) (ht : ∀ (g' : Fm) (s : Shared) (H : Hp) (C : Addr) (cl : List (Str × Addr)) (fp : List Addr), QTs (X.blk s H scope (compEnvC scope cl C X.env) fp) g' W0 Θ2 ifs tt Θ3 Θx)
    (he : ∀ (g' : Fm) (s : Shared) (H : Hp) (C : Addr) (cl : List (Str × Addr)) (fp : List Addr), QE (X.blk s H scope (compEnvC scope cl C X.env) fp) g' W0 Θ3 elt te .p Θ4 Θx) (hn : noAt Θ1 (own.map (·.2)) = true := by rfl) (l3 : Th.le Θ3 Θ1 = true := by rfl) (l4 : Th.le Θ4 Θ1 = true := by rfl) (hs : ∀ x, foldedSetIterable iter X.env x = pure x := by intro _; rfl) :
    QE X f W Θ (.ListComp elt [⟨tg, iter, ifs, 0⟩] scope pos) (eLc ti g tt te (own.map (·.2))) (.own (.l .p)) Θ1 Θx := by
  refine ⟨PE.imp (pe_lc hc hN hi.r ok (g := fun v σ H Q => ∃ g' : Fm, ∃ w s φ d s', w.H = H ∧ OwnS X.K g' w Θ1 σ s φ ∧ RD X.K w d v ∧ g d s = some s' ∧ ∀ σ' φ', OwnS X.K g' w Θ2 σ' s' φ' → wipe σ' (own.map (·.2)) = wipe σ (own.map (·.2)) → Q σ' w.H)
    (tt := fun σ H Q => ∃ g' : Fm, lE X.K X.mg g' W0 Θ2 Θ3 Θx rB tt σ H Q) (te := fun σ H Q => ∃ g' : Fm, lE X.K X.mg g' W0 Θ3 Θ4 Θx (fun w φ d v => RE X.K g' w φ .p d v) te σ H Q)
    (fun s H C cl fp => ⟨fun pins s1 σ H v u Q I r ⟨g', q⟩ => (hg g' s _ C cl fp).r.run pins s1 σ H v u Q I r q⟩) (fun s H C cl fp => ⟨fun pins s1 σ H Q I ⟨g', q⟩ => (ht g' s _ C cl fp).r.run pins s1 σ H Q I q⟩) (fun s H C cl fp => ⟨fun pins s1 σ H Q I ⟨g', q⟩ => (he g' s _ C cl fp).r.run pins s1 σ H Q I q⟩) hs) fun σ H Q h =>
      llc (fun g' _ _ _ _ q => ⟨g', q⟩) (fun g' _ _ _ q => ⟨g', q⟩) (fun g' _ _ _ q => ⟨g', q⟩) hn l3 l4 h⟩
end
end FL

/-! FP: what is walked. -/
namespace FL
open PySem PySem.Spec PyProof.Rows L2
variable [TabT]
section
variable {X : Cx} {tg : Expr}
/-- the signs of a text -/
def sgn (x : Str) : List D := x.cps.toList.map fun c => D.str ⟨#[c]⟩
def seqO : D → Option (List D)
  | .fl ds => some ds
  | .tup ds => some ds
  | .str z => some (sgn z)
  | _ => none
theorem itok_list {K : PySem.W.Frag} {w : Wd} {a : Addr} {ds : List D} {vs : List V} (h : SqF K w.H a vs) (r : RDs K w ds vs) : ItOk K (Itl K a) ds w := by
  intro i g w1 e
  have hv := (h.gr e).l
  have rv := r.gr e
  refine ⟨fun e => ⟨vs, hv, by rw [rv.len]; omega⟩, fun d hd => ?_⟩
  obtain ⟨v, hv', rd⟩ := rv.get hd
  refine ⟨⟨vs, v, hv, hv'⟩, fun x H2 y => ?_⟩
  obtain ⟨rfl, y⟩ := y
  have := y vs hv
  rw [hv'] at this
  cases this
  exact ⟨w1, rfl, .refl w1, rd⟩
theorem itok_tup {K : PySem.W.Frag} {w : Wd} {a : Addr} {ds : List D} {vs : List V} (h : SqT K w.H a vs) (r : RDs K w ds vs) : ItOk K (Itt K a) ds w := by
  intro i g w1 e
  have hv := sqT_gr e h
  have rv := r.gr e
  refine ⟨fun e => ⟨vs, hv, by rw [rv.len]; omega⟩, fun d hd => ?_⟩
  obtain ⟨v, hv', rd⟩ := rv.get hd
  refine ⟨⟨vs, v, hv, hv'⟩, fun x H2 y => ?_⟩
  obtain ⟨rfl, y⟩ := y
  have := y vs hv
  rw [hv'] at this
  cases this
  exact ⟨w1, rfl, .refl w1, rd⟩
theorem itok_str {K : PySem.W.Frag} {w : Wd} {x : Str} : ItOk K (Its x) (sgn x) w := by
  intro i g w1 _
  have hl : (sgn x).length = x.cps.size := by unfold sgn; simp
  refine ⟨fun e => by show x.cps.size ≤ i; rw [← hl]; exact Nat.le_of_eq e.symm, fun d hd => ?_⟩
  have hi : i < x.cps.size := by
    have := (List.getElem?_eq_some_iff.mp hd).1
    exact hl ▸ this
  refine ⟨hi, fun y H3 yy => ?_⟩
  obtain ⟨rfl, c, hc, rfl⟩ := yy
  refine ⟨w1, rfl, .refl _, ?_⟩
  have : d = .str ⟨#[c]⟩ := by
    have h2 : (sgn x)[i]? = some (.str ⟨#[c]⟩) := by unfold sgn; simp [hc]
    rw [h2] at hd
    cases hd; rfl
  subst this
  rfl
/-- lo, lo + 1, .. -/
def ran (lo : Int) (n : Nat) : List D := (List.range n).map fun (i : Nat) => D.int (lo + i)
theorem itok_range {K : PySem.W.Frag} {w : Wd} {lo : Int} {n : Nat} : ItOk K (Itr lo n) (ran lo n) w := by
  intro i g w1 _
  have hl : (ran lo n).length = n := by unfold ran; simp
  refine ⟨fun e => by show n ≤ i; rw [← hl]; exact Nat.le_of_eq e.symm, fun d hd => ?_⟩
  have hi : i < n := by
    have := (List.getElem?_eq_some_iff.mp hd).1
    exact hl ▸ this
  refine ⟨hi, fun x H2 y => ?_⟩
  obtain ⟨rfl, rfl⟩ := y
  refine ⟨w1, rfl, .refl _, ?_⟩
  have : d = .int (lo + i) := by
    have h2 : (ran lo n)[i]? = some (.int (lo + i)) := by unfold ran; simp [hi]
    rw [h2] at hd
    cases hd; rfl
  subst this
  rfl
/-- a value's items by its rule: what follows the value alone is a choice -/
theorem pi_seq {e : Expr} {te : TE} (he : PE X e te) : PI X tg e (fun σ H R => te σ H fun x H1 =>
    (∃ a, x = .ref a ∧ (∃ xs, SqL X.K H1 a xs) ∧ R (Itl X.K a) H1) ∨ (∃ a, x = .ref a ∧ (∃ xs, SqT X.K H1 a xs) ∧ R (Itt X.K a) H1) ∨ ∃ z, x = .str z ∧ R (Its z) H1) := by
  refine ⟨fun pins s σ H R I h => ?_⟩
  refine thn (he.run pins s σ H _ I h) fun v s1 ⟨x, H1, I1, r1, q1⟩ => ?_
  rcases q1 with ⟨a, rfl, ⟨xs, hq⟩, q⟩ | ⟨a, rfl, ⟨xs, hq⟩, q⟩ | ⟨z, rfl, q⟩
  · cases r1
    obtain ⟨its, rv, p, hz⟩ := I1.list hq
    refine wpAny_pyIter_list p.isList ?_
    refine ⟨s1.heap.objs.size, [s1.heap.objs.size], _, _, H1, rfl, I1.kept (t' := s1.toks) fun b o e => Heap.get?_push_of_some _ e, turn_list a _, ⟨_, Heap.get?_push_size _ rfl, rfl, rfl⟩, fun b hb => ?_, q⟩
    have e : b = s1.heap.objs.size := by simpa using hb
    subst e
    exact I1.fpOk (Nat.le_refl _) (I1.hok.fresh (Nat.le_refl _))
  · cases r1
    obtain ⟨its, rv, p, hz⟩ := I1.tuple hq
    refine wpAny_pyIter_tuple (show s1.heap.IsTuple a its.toArray from p) ?_
    refine ⟨s1.heap.objs.size, [s1.heap.objs.size], _, _, H1, rfl, I1.kept (t' := s1.toks) fun b o e => Heap.get?_push_of_some _ e, turn_tuple a _, ⟨_, Heap.get?_push_size _ rfl, rfl, rfl⟩, fun b hb => ?_, q⟩
    have e : b = s1.heap.objs.size := by simpa using hb
    subst e
    exact I1.fpOk (Nat.le_refl _) (I1.hok.fresh (Nat.le_refl _))
  · obtain ⟨t, rfl⟩ := r1
    cases ha : z.cps.all (· < 128)
    · exact wpAny_pyIter_wide ha (pi_one (tk := s1.toks) I1 _ (turn_str _ z t "str_iterator" (.inr rfl)) ⟨_, Heap.get?_push_size _ rfl, rfl, rfl⟩ q)
    · exact wpAny_pyIter_ascii ha (pi_one (tk := s1.toks) I1 _ (turn_str _ z t "str_ascii_iterator" (.inl rfl)) ⟨_, Heap.get?_push_size _ rfl, rfl, rfl⟩ q)
/-! ### dicts walked -/
theorem frzA {pins : List (Addr × Obj)} {σ : L2.St} {H : Hp} {s : Shared} {d : Addr} {o : Obj} {u : HO} {t : Bool} {vs : List (K2 × V)} (I : Inv X pins σ H s) (h : H d = some (.frz o u)) (hu : DictIs t u vs) :
    (d == sysModules) = false ∧ ∃ (es : Array DictEntry) (ep : Nat), o.data = .dict es ep ∧ s.heap.DictRaw d es ep ∧ es.size = vs.length ∧ ∀ (i : Nat) (hi : i < es.size) k v, vs[i]? = some (k, v) → RelV v es[i].val ∧ ∃ kv, KeyIs H t k kv ∧ RelV kv es[i].key := by
  cases hu with
  | k us =>
    obtain ⟨hs, hd, hx, es, ep, zs, hdt, hsz, kv, o', es', ho', hx', hdt', he, hp, hn⟩ := I.frzK h
    rw [hd] at ho'; cases ho'
    have e := (dict_ep hdt hdt').1
    subst e
    refine ⟨hs, es', ep, hdt, ⟨o, hd, hx, hdt⟩, by rw [List.length_map]; exact hsz, fun i hi k v e => ?_⟩
    rw [List.getElem?_map] at e
    cases e1 : us[i]? with
    | none => rw [e1] at e; cases e
    | some p =>
      rw [e1] at e
      cases e
      obtain ⟨z, hz, rz⟩ := kv_get kv (show us[i]? = some (p.1, p.2) from e1)
      obtain ⟨q1, q2⟩ := hp.get? (e := es'[i]) (by rw [Array.getElem?_toList, Array.getElem?_eq_getElem hi]) hz
      exact ⟨by rw [q2]; exact rz, kV p.1, .k p.1, relV_key (show keyIs p.1 es'[i].key = true from q1)⟩
  | t us =>
    obtain ⟨hd, z, hs, xs, pr, o', es, ep, ho, hx, hdt, he, _⟩ := I.hok d _ h
    rw [hd] at ho
    cases ho
    have l1 : es.size = xs.length := size_of_entries he
    have l2 : us.length = xs.length := Paired.length pr
    refine ⟨hs, es, ep, hdt, ⟨o, hd, hx, hdt⟩, by rw [List.length_map]; omega, fun i hi k v e => ?_⟩
    rw [List.getElem?_map] at e
    cases e1 : us[i]? with
    | none => rw [e1] at e; cases e
    | some p =>
      rw [e1] at e
      cases e
      obtain ⟨b, hb, e2, e3, e4⟩ := L2.paired_get pr e1
      have q := entry_at he i
      rw [hb, Array.getElem?_eq_getElem hi] at q
      have q : es[i] = entryOfKey (tupleKind (mixKind X.prog X.w)) b := Option.some.inj q
      rw [q]
      exact ⟨e4, .ref b.2.1, .t p.1 b.2.1 e3, rfl⟩
def Itk2 (d : Addr) (o : Obj) (u : HO) (t : Bool) (vs : List (K2 × V)) : It :=
  ⟨fun i H => H d = some (.frz o u) ∧ i < vs.length, fun i H x H' => H' = H ∧ ∃ k v, vs[i]? = some (k, v) ∧ KeyIs H t k x, fun i H => H d = some (.frz o u) ∧ vs.length ≤ i⟩
def Itv2 (d : Addr) (o : Obj) (u : HO) (vs : List (K2 × V)) : It :=
  ⟨fun i H => H d = some (.frz o u) ∧ i < vs.length, fun i H x H' => H' = H ∧ ∃ k, vs[i]? = some (k, x), fun i H => H d = some (.frz o u) ∧ vs.length ≤ i⟩
section
variable {P : Program} {w : World} {K : PySem.W.Frag} {d : Addr} {o : Obj} {u : HO} {t : Bool} {vs : List (K2 × V)} {es : Array DictEntry} {ep : Nat}
theorem turn_keys2 (hu : DictIs t u vs) (it : Addr) (hod : o.data = .dict es ep) : Turn P w K tg (Itk2 d o u t vs) [it] it (fun i h => h.IsKeyIter it d i vs.length ep) where
  mem := by simp
  obj := fun i h st b hb => by
    have e : b = it := by simpa using hb
    subst e
    obtain ⟨oi, e, c, dd⟩ := st
    exact ⟨oi, e, fun v z => by rw [dd] at z; cases z⟩
  keep := fun i h h' st k => st.at fun oi e => k it (by simp) oi e
  item := by
    intro X hP hw hK hc i pins s σ H E I hf st hg
    subst hP hw hK
    obtain ⟨hd, hi⟩ := hg
    obtain ⟨f0, f1, f2, f3, f4, f5⟩ := hf it (by simp)
    obtain ⟨hs, es', ep', hdt, hm, hsz, ent⟩ := frzA I hd hu
    obtain ⟨rfl, rfl⟩ := dict_ep hod hdt
    obtain ⟨⟨k, v⟩, hkv⟩ : ∃ p, vs[i]? = some p := ⟨vs[i], List.getElem?_eq_getElem hi⟩
    have hi' : i < es'.size := by rw [hsz]; exact hi
    obtain ⟨_, x, kx, rx⟩ := ent i hi' k v hkv
    rw [← hsz] at st
    refine wpAny_pyNext_keys_item_raw st hm hi' fun h' st' sb => ?_
    have I1 : Inv X pins σ H { s with heap := h' } := I.turned (t' := s.toks) (fun b ob hb e => (sb.2 b hb).trans e) f0 f1 f3 f4 f5
    obtain ⟨oi, e, c, dd⟩ := id st'
    refine ⟨_, rfl, go_of (s := { s with heap := h' }) e c dd (by decide) ⟨x, H, I1, rx, ⟨rfl, k, v, hkv, kx⟩, ?_, fun b hb => (hf b hb).1⟩⟩
    show h'.IsKeyIter it d (i + 1) vs.length _
    rw [← hsz]
    exact st'
  done := by
    intro X hP hw hK hc i pins s σ H E I hf st hg
    subst hP hw hK
    obtain ⟨hd, hi⟩ := hg
    obtain ⟨f0, f1, f2, f3, f4, f5⟩ := hf it (by simp)
    obtain ⟨hs, es', ep', hdt, hm, hsz, ent⟩ := frzA I hd hu
    obtain ⟨rfl, rfl⟩ := dict_ep hod hdt
    rw [← hsz] at st
    exact wpAny_pyNext_keys_end_raw (I.ok.hd hc) st hm (by omega) fun h' eb => ⟨rfl, I.turned (t' := s.toks) (fun b ob hb e => eb b ob hb e) f0 f1 f3 f4 f5⟩
  self := fun A i s Q E st h => wpAny_pyIter_keyiter st h
theorem turn_vals2 (hu : DictIs t u vs) (it : Addr) (hod : o.data = .dict es ep) : Turn P w K tg (Itv2 d o u vs) [it] it (fun i h => h.IsValIter it d i vs.length ep) where
  mem := by simp
  obj := fun i h st b hb => by
    have e : b = it := by simpa using hb
    subst e
    obtain ⟨oi, e, c, dd⟩ := st
    exact ⟨oi, e, fun v z => by rw [dd] at z; cases z⟩
  keep := fun i h h' st k => st.at fun oi e => k it (by simp) oi e
  item := by
    intro X hP hw hK hc i pins s σ H E I hf st hg
    subst hP hw hK
    obtain ⟨hd, hi⟩ := hg
    obtain ⟨f0, f1, f2, f3, f4, f5⟩ := hf it (by simp)
    obtain ⟨hs, es', ep', hdt, hm, hsz, ent⟩ := frzA I hd hu
    obtain ⟨rfl, rfl⟩ := dict_ep hod hdt
    obtain ⟨⟨k, v⟩, hkv⟩ : ∃ p, vs[i]? = some p := ⟨vs[i], List.getElem?_eq_getElem hi⟩
    have hi' : i < es'.size := by rw [hsz]; exact hi
    obtain ⟨rv, _⟩ := ent i hi' k v hkv
    rw [← hsz] at st
    refine wpAny_pyNext_values_item_raw st hm hi' fun h' st' sb => ?_
    have I1 : Inv X pins σ H { s with heap := h' } := I.turned (t' := s.toks) (fun b ob hb e => (sb.2 b hb).trans e) f0 f1 f3 f4 f5
    obtain ⟨oi, e, c, dd⟩ := id st'
    refine ⟨_, rfl, go_of (s := { s with heap := h' }) e c dd (by decide) ⟨v, H, I1, rv, ⟨rfl, k, hkv⟩, ?_, fun b hb => (hf b hb).1⟩⟩
    show h'.IsValIter it d (i + 1) vs.length _
    rw [← hsz]
    exact st'
  done := by
    intro X hP hw hK hc i pins s σ H E I hf st hg
    subst hP hw hK
    obtain ⟨hd, hi⟩ := hg
    obtain ⟨f0, f1, f2, f3, f4, f5⟩ := hf it (by simp)
    obtain ⟨hs, es', ep', hdt, hm, hsz, ent⟩ := frzA I hd hu
    obtain ⟨rfl, rfl⟩ := dict_ep hod hdt
    rw [← hsz] at st
    exact wpAny_pyNext_values_end_raw (I.ok.hd hc) st hm (by omega) fun h' eb => ⟨rfl, I.turned (t' := s.toks) (fun b ob hb e => eb b ob hb e) f0 f1 f3 f4 f5⟩
  self := fun A i s Q E st h => wpAny_pyIter_valiter st h
end
theorem KeyIs.rd {K : PySem.W.Frag} {w : Wd} {t : Bool} {k : K2} {v : V} (h : KeyIs w.H t k v) : RD K w (dK2 k) v := by
  cases h with
  | k k => cases k with
    | inl i => rfl
    | inr x => rfl
  | t ks b hb => exact ⟨b, _, rfl, .of hb, .map fun x _ => by cases x <;> rfl, fun _ => hb⟩
theorem RKs.get {K : PySem.W.Frag} {w : Wd} : ∀ {kvs : List (K2 × D)} {vs : List (K2 × V)} {i : Nat} {k : K2} {d : D}, RKs K w kvs vs → kvs[i]? = some (k, d) → ∃ v, vs[i]? = some (k, v) ∧ RD K w d v
  | [], _, _, _, _, _, e => by simp at e
  | (_, _) :: _, _, 0, _, _, ⟨v, r, e1, e2, _⟩, e => by subst e1; cases e; exact ⟨v, rfl, e2⟩
  | (_, _) :: _, _, i + 1, _, _, ⟨v, r, e1, _, e3⟩, e => by subst e1; exact RKs.get (i := i) e3 (by simpa using e)
def keysD (kvs : List (K2 × D)) : List D := kvs.map fun p => dK2 p.1
def valsD (kvs : List (K2 × D)) : List D := kvs.map (·.2)
theorem itok_keys {K : PySem.W.Frag} {w : Wd} {d : Addr} {o : Obj} {u : HO} {t : Bool} {kvs : List (K2 × D)} {vs : List (K2 × V)} (h : w.H d = some (.frz o u)) (r : RKs K w kvs vs) : ItOk K (Itk2 d o u t vs) (keysD kvs) w := by
  intro i g w1 e
  have h1 := e.per _ (.frz o u) trivial h
  have hl := r.len
  have hk : (keysD kvs).length = kvs.length := by unfold keysD; simp
  refine ⟨fun z => ⟨h1, by omega⟩, fun dd hd => ?_⟩
  have hi : i < kvs.length := by have := (List.getElem?_eq_some_iff.mp hd).1; omega
  refine ⟨⟨h1, by omega⟩, fun x H2 y => ?_⟩
  obtain ⟨rfl, k, v, hkv, kx⟩ := y
  refine ⟨w1, rfl, .refl _, ?_⟩
  obtain ⟨v', hv', _⟩ := r.get (i := i) (k := kvs[i].1) (d := kvs[i].2) (List.getElem?_eq_getElem hi)
  rw [hkv] at hv'
  cases hv'
  have : dd = dK2 kvs[i].1 := by
    unfold keysD at hd
    rw [List.getElem?_map, List.getElem?_eq_getElem hi] at hd
    cases hd; rfl
  rw [this]
  exact kx.rd
theorem itok_vals {K : PySem.W.Frag} {w : Wd} {d : Addr} {o : Obj} {u : HO} {kvs : List (K2 × D)} {vs : List (K2 × V)} (h : w.H d = some (.frz o u)) (r : RKs K w kvs vs) : ItOk K (Itv2 d o u vs) (valsD kvs) w := by
  intro i g w1 e
  have h1 := e.per _ (.frz o u) trivial h
  have hl := r.len
  have hk : (valsD kvs).length = kvs.length := by unfold valsD; simp
  refine ⟨fun z => ⟨h1, by omega⟩, fun dd hd => ?_⟩
  have hi : i < kvs.length := by have := (List.getElem?_eq_some_iff.mp hd).1; omega
  refine ⟨⟨h1, by omega⟩, fun x H2 y => ?_⟩
  obtain ⟨rfl, k, hkv⟩ := y
  refine ⟨w1, rfl, .refl _, ?_⟩
  obtain ⟨v', hv', rv⟩ := (r.gr e).get (i := i) (k := kvs[i].1) (d := kvs[i].2) (List.getElem?_eq_getElem hi)
  rw [hkv] at hv'
  cases hv'
  have : dd = kvs[i].2 := by
    unfold valsD at hd
    rw [List.getElem?_map, List.getElem?_eq_getElem hi] at hd
    cases hd; rfl
  rw [this]
  exact rv
section
variable {e : Expr} {td : TE} {apos cpos : Pos}
/-- for k in d.keys(), d.values(), of a locked dict -/
def iKeys2 (td : TE) : TI := fun σ H R => td σ H fun x H1 => ∃ d o u t vs, x = .ref d ∧ H1 d = some (.frz o u) ∧ DictIs t u vs ∧ R (Itk2 d o u t vs) H1
def iVals2 (td : TE) : TI := fun σ H R => td σ H fun x H1 => ∃ d o u t vs, x = .ref d ∧ H1 d = some (.frz o u) ∧ DictIs t u vs ∧ R (Itv2 d o u vs) H1
theorem pi_keysM2 (he : PE X e td) (hbase : attributeBase e "keys" X.env (eval e X.env) = eval e X.env := by rfl) (hline : (apos.endLine == cpos.line) = true := by rfl) : PI X tg (.Call (.Attribute e "keys" apos) [] [] cpos) (iKeys2 td) := by
  refine ⟨fun pins s σ H R I h => ?_⟩
  refine wpAny_Call_method (T := "dict") (id := "dict.keys") hbase rfl hline F.plainAttrs_dict F.slot_dict_keys F.type_dict_keys (thn (he.run pins s σ H _ I h) fun u s1 ⟨x, H1, I1, rx, d, o, uu, t, vs, ex, hd, hu, q⟩ => ?_)
  subst ex
  obtain rfl : u = Value.ref d := rx
  obtain ⟨hs, es, ep, hdt, hm, hsz, ent⟩ := frzA I1 hd hu
  refine ⟨hm.typeIs, fun a e => by cases e; obtain ⟨o, ho, hx, _⟩ := hm; exact ⟨o, ho, hx.2.1⟩, ?_⟩
  have I2 : Inv X pins σ H1 { s1 with heap := s1.heap.push { cls := .type "dict_keys", data := .fields #[.ref d] } } := I1.kept (t' := s1.toks) fun b ob q => Heap.get?_push_of_some _ q
  have fin : wpAny (model X.prog X.w) X.A (pyIter (.ref s1.heap.objs.size)) (PIE X pins σ tg R) X.xe { s1 with heap := s1.heap.push { cls := .type "dict_keys", data := .fields #[.ref d] } } := by
    refine wpAny_pyIter_keys_raw (d := d) ⟨_, Heap.get?_push_size _ rfl, rfl, rfl⟩ (hm.at fun _ e => Heap.get?_push_of_some _ e) (pi_one (tk := s1.toks) I2 _ (turn_keys2 hu _ hdt) ⟨_, Heap.get?_push_size _ rfl, rfl, ?_⟩ q)
    rw [hsz]
    rfl
  show wpAny _ _ (callWith cpos (.builtin "dict.keys") [.ref d] [] []) _ X.xe s1
  exact method_meetsIn F.slot_dict_keys F.entry_dict_keys rfl (PySem.evalArgs_none ⟨rfl, hm.typeIs, F.args_dict_keys_1 _, _, meets_dict_keys_raw d hs, ⟨es, ep, hm⟩, fin⟩)
theorem pi_valuesM2 (he : PE X e td) (hbase : attributeBase e "values" X.env (eval e X.env) = eval e X.env := by rfl) (hline : (apos.endLine == cpos.line) = true := by rfl) : PI X tg (.Call (.Attribute e "values" apos) [] [] cpos) (iVals2 td) := by
  refine ⟨fun pins s σ H R I h => ?_⟩
  refine wpAny_Call_method (T := "dict") (id := "dict.values") hbase rfl hline F.plainAttrs_dict F.slot_dict_values F.type_dict_values (thn (he.run pins s σ H _ I h) fun u s1 ⟨x, H1, I1, rx, d, o, uu, t, vs, ex, hd, hu, q⟩ => ?_)
  subst ex
  obtain rfl : u = Value.ref d := rx
  obtain ⟨hs, es, ep, hdt, hm, hsz, ent⟩ := frzA I1 hd hu
  refine ⟨hm.typeIs, fun a e => by cases e; obtain ⟨o, ho, hx, _⟩ := hm; exact ⟨o, ho, hx.2.1⟩, ?_⟩
  have I2 : Inv X pins σ H1 { s1 with heap := s1.heap.push { cls := .type "dict_values", data := .fields #[.ref d] } } := I1.kept (t' := s1.toks) fun b ob q => Heap.get?_push_of_some _ q
  have fin : wpAny (model X.prog X.w) X.A (pyIter (.ref s1.heap.objs.size)) (PIE X pins σ tg R) X.xe { s1 with heap := s1.heap.push { cls := .type "dict_values", data := .fields #[.ref d] } } := by
    refine wpAny_pyIter_values_raw (d := d) ⟨_, Heap.get?_push_size _ rfl, rfl, rfl⟩ (hm.at fun _ e => Heap.get?_push_of_some _ e) (pi_one (tk := s1.toks) I2 _ (turn_vals2 hu _ hdt) ⟨_, Heap.get?_push_size _ rfl, rfl, ?_⟩ q)
    rw [hsz]
    rfl
  show wpAny _ _ (callWith cpos (.builtin "dict.values") [.ref d] [] []) _ X.xe s1
  exact method_meetsIn F.slot_dict_values F.entry_dict_values rfl (PySem.evalArgs_none ⟨rfl, hm.typeIs, F.args_dict_values_1 _, _, meets_dict_values_raw d hs, ⟨es, ep, hm⟩, fin⟩)
end
end
section
variable {η : Type} [HR η] {X : Cx} {f : Fm} {W : WX} {Θ Θ1 Θ2 Θx : Th} {tg e : Expr} {pos p apos cpos : Pos}
/-- a value's items -/
def eSeq (t : ER η) : St η → Eff η (List D) := fun s => (t s).bind fun d s1 => (Out.of (seqO d)).eff s1
theorem qi_seq {t : ER η} (h : QE X f W Θ e t .p Θ1 Θx) : QI X f W Θ tg e (eSeq t) Θ1 Θx := ⟨PI.imp (pi_seq h.r) fun σ H R ⟨w, s, φ, e1, o, h⟩ => by
  subst e1
  refine ⟨w, s, φ, rfl, o, Ef.mono (Ef.bind h) ?_⟩
  rintro v H1 ⟨w1, d, s1, φ1, rfl, g1, o1, r1, h⟩
  have r := r1.rd
  cases d with
  | fl ds =>
    obtain ⟨a, vs, rfl, hs, rv⟩ := r
    exact .inl ⟨a, rfl, ⟨vs, hs.l⟩, h _ w1 φ1 (.refl w1) o1 (itok_list hs rv)⟩
  | tup ds =>
    obtain ⟨a, vs, rfl, hs, rv, _⟩ := r
    exact .inr (.inl ⟨a, rfl, ⟨vs, hs⟩, h _ w1 φ1 (.refl w1) o1 (itok_tup hs rv)⟩)
  | str z =>
    obtain rfl := (show v = .str z from r)
    exact .inr (.inr ⟨z, rfl, h _ w1 φ1 (.refl w1) o1 itok_str⟩)
  | _ => exact h.elim⟩
def dictO (g : List (K2 × D) → List D) : D → Option (List D)
  | .fd _ kvs => some (g kvs)
  | _ => none
def eWalk (g : List (K2 × D) → List D) (t : ER η) : St η → Eff η (List D) := fun s => (t s).bind fun d s1 => (Out.of (dictO g d)).eff s1
theorem qi_keys {t : ER η} (h : QE X f W Θ e t .p Θ1 Θx) (hbase : attributeBase e "keys" X.env (eval e X.env) = eval e X.env := by rfl) (hline : (apos.endLine == cpos.line) = true := by rfl) : QI X f W Θ tg (.Call (.Attribute e "keys" apos) [] [] cpos) (eWalk keysD t) Θ1 Θx := ⟨PI.imp (pi_keysM2 h.r hbase hline) fun σ H R ⟨w, s, φ, e1, o, h⟩ => by
  subst e1
  refine ⟨w, s, φ, rfl, o, Ef.mono (Ef.bind h) ?_⟩
  rintro v H1 ⟨w1, d, s1, φ1, rfl, g1, o1, r1, h⟩
  have r := r1.rd
  cases d with
  | fd t kvs =>
    obtain ⟨a, o', u, vs, rfl, hf, hd, _, rk⟩ := r
    exact ⟨a, o', u, t, vs, rfl, hf, hd, h _ w1 φ1 (.refl w1) o1 (itok_keys hf rk)⟩
  | _ => exact h.elim⟩
theorem qi_values {t : ER η} (h : QE X f W Θ e t .p Θ1 Θx) (hbase : attributeBase e "values" X.env (eval e X.env) = eval e X.env := by rfl) (hline : (apos.endLine == cpos.line) = true := by rfl) : QI X f W Θ tg (.Call (.Attribute e "values" apos) [] [] cpos) (eWalk valsD t) Θ1 Θx := ⟨PI.imp (pi_valuesM2 h.r hbase hline) fun σ H R ⟨w, s, φ, e1, o, h⟩ => by
  subst e1
  refine ⟨w, s, φ, rfl, o, Ef.mono (Ef.bind h) ?_⟩
  rintro v H1 ⟨w1, d, s1, φ1, rfl, g1, o1, r1, h⟩
  have r := r1.rd
  cases d with
  | fd t kvs =>
    obtain ⟨a, o', u, vs, rfl, hf, hd, _, rk⟩ := r
    exact ⟨a, o', u, t, vs, rfl, hf, hd, h _ w1 φ1 (.refl w1) o1 (itok_vals hf rk)⟩
  | _ => exact h.elim⟩
def ran1 : List D → Option (List D)
  | [.int j] => if -(2 ^ 62) ≤ j ∧ j < 2 ^ 62 then some (ran 0 j.toNat) else none
  | _ => none
def ran2 : List D → Option (List D)
  | [.int i, .int j] => if -(2 ^ 62) ≤ i ∧ i < 2 ^ 62 ∧ -(2 ^ 62) ≤ j ∧ j < 2 ^ 62 then some (ran i (j - i).toNat) else none
  | _ => none
theorem ran1_ok {ds items : List D} (h : ran1 ds = some items) : ∃ j : Int, ds = [.int j] ∧ (-(2 ^ 62) ≤ j ∧ j < 2 ^ 62) ∧ items = ran 0 j.toNat := by
  unfold ran1 at h
  split at h
  · rename_i j
    by_cases c : -(2 ^ 62) ≤ j ∧ j < 2 ^ 62
    · rw [if_pos c] at h; exact ⟨j, rfl, c, (Option.some.inj h).symm⟩
    · rw [if_neg c] at h; cases h
  · cases h
theorem ran2_ok {ds items : List D} (h : ran2 ds = some items) : ∃ i j : Int, ds = [.int i, .int j] ∧ (-(2 ^ 62) ≤ i ∧ i < 2 ^ 62 ∧ -(2 ^ 62) ≤ j ∧ j < 2 ^ 62) ∧ items = ran i (j - i).toNat := by
  unfold ran2 at h
  split at h
  · rename_i i j
    by_cases c : -(2 ^ 62) ≤ i ∧ i < 2 ^ 62 ∧ -(2 ^ 62) ≤ j ∧ j < 2 ^ 62
    · rw [if_pos c] at h; exact ⟨i, j, rfl, c, (Option.some.inj h).symm⟩
    · rw [if_neg c] at h; cases h
  · cases h
def eRan (g : List D → Option (List D)) (ts : St η → Eff η (List D)) : St η → Eff η (List D) := fun s => (ts s).bind fun ds s1 => (Out.of (g ds)).eff s1
theorem qi_range1 {a : Expr} {ta : St η → Eff η (List D)} (hg : Gl X "range") (hm : X.mg "range" = none) (ha : QAs X f W Θ [a] ta Θ1 Θx) (hs : starEach [a] X.env = [(false, eval a X.env)] := by rfl) : QI X f W Θ tg (.Call (.Name "range" p) [a] [] pos) (eRan ran1 ta) Θ1 Θx :=
  ⟨PI.imp (pi_range1 hg hm ha.r hs) fun σ H R ⟨w, s, φ, e1, o, h⟩ => by
    subst e1
    refine ⟨w, s, φ, rfl, o, Ef.mono (Ef.bind h) ?_⟩
    rintro vs H1 ⟨w1, ds, s1, φ1, rfl, g1, o1, r1, h⟩
    cases hr : ran1 ds with
    | none => rw [hr] at h; exact h.elim
    | some items =>
      rw [hr] at h
      obtain ⟨j, rfl, hj, rfl⟩ := ran1_ok hr
      obtain ⟨v, r, rfl, r2, r3⟩ := r1
      cases (show r = [] from r3)
      cases (show v = .int j from r2)
      exact ⟨j, rfl, hj.1, hj.2, h _ w1 φ1 (.refl w1) o1 itok_range⟩⟩
theorem qi_range2 {a b : Expr} {ta : St η → Eff η (List D)} (hg : Gl X "range") (hm : X.mg "range" = none) (ha : QAs X f W Θ [a, b] ta Θ1 Θx) (hs : starEach [a, b] X.env = [(false, eval a X.env), (false, eval b X.env)] := by rfl) (hs2 : starEach [b] X.env = [(false, eval b X.env)] := by rfl) :
    QI X f W Θ tg (.Call (.Name "range" p) [a, b] [] pos) (eRan ran2 ta) Θ1 Θx :=
  ⟨PI.imp (pi_range2 hg hm ha.r hs hs2) fun σ H R ⟨w, s, φ, e1, o, h⟩ => by
    subst e1
    refine ⟨w, s, φ, rfl, o, Ef.mono (Ef.bind h) ?_⟩
    rintro vs H1 ⟨w1, ds, s1, φ1, rfl, g1, o1, r1, h⟩
    cases hr : ran2 ds with
    | none => rw [hr] at h; exact h.elim
    | some items =>
      rw [hr] at h
      obtain ⟨i, j, rfl, hj, rfl⟩ := ran2_ok hr
      obtain ⟨v, r, rfl, r2, v', r', rfl, r3, r4⟩ := r1
      cases (show r' = [] from r4)
      cases (show v = .int i from r2)
      cases (show v' = .int j from r3)
      exact ⟨i, j, rfl, hj, h _ w1 φ1 (.refl w1) o1 itok_range⟩⟩
end
end FL

/-! FQ: a dict is locked while it is walked. -/
namespace FL
open PySem PySem.Spec PyProof.Rows L2
variable [TabT]
/-- the world while the dict at a is locked -/
abbrev Wd.lock (w : Wd) (a : Addr) (od : Obj) (u : HO) : Wd := ⟨w.ρ, upd w.H a (.frz od u), fun b => w.lk b ∨ b = a⟩
/-- .. and behind it -/
abbrev Wd.unlock (w : Wd) (a : Addr) (u : HO) (lk : Addr → Prop) : Wd := ⟨w.ρ, upd w.H a u, lk⟩
section
variable {K : PySem.W.Frag} {w : Wd} {a : Addr} {od : Obj} {u : HO}
/-- a dict -/
def IsD (u : HO) : Prop := (∃ vs, u = .dK vs) ∨ ∃ vs, u = .dT vs
theorem IsD.noper {u : HO} (h : IsD u) : ¬ Per u := by rcases h with ⟨vs, rfl⟩ | ⟨vs, rfl⟩ <;> exact id
theorem IsD.mut {u : HO} (h : IsD u) : Mut (some u) := by rcases h with ⟨vs, rfl⟩ | ⟨vs, rfl⟩ <;> trivial
theorem DictIs.isD {t : Bool} {vs : List (K2 × V)} (h : DictIs t u vs) : IsD u := by
  cases h with
  | k vs => exact .inl ⟨vs, rfl⟩
  | t vs => exact .inr ⟨vs, rfl⟩
theorem lock_at (ha : w.H a = some u) (hu : IsD u) {b : Addr} {o : HO} (hb : w.H b = some o) (hp : Per o) : (w.lock a od u).H b = some o := by
  show upd w.H a _ b = _
  rw [upd_ne (fun z => by subst z; rw [ha] at hb; cases hb; exact hu.noper hp)]; exact hb
theorem sqT_lock (ha : w.H a = some u) (hu : IsD u) {b : Addr} {xs : List V} (h : SqT K w.H b xs) : SqT K (w.lock a od u).H b xs := by
  rcases h with (h | ⟨o, h⟩) | h
  · exact .inl (.inl (lock_at ha hu h trivial))
  · exact .inl (.inr ⟨o, lock_at ha hu h trivial⟩)
  · exact .inr h
theorem SqF.lock (ha : w.H a = some u) (hu : IsD u) {b : Addr} {xs : List V} (h : SqF K w.H b xs) : SqF K (w.lock a od u).H b xs := by
  rcases h with ⟨o, h⟩ | h
  · exact .inl ⟨o, lock_at ha hu h trivial⟩
  · exact .inr h
mutual
theorem RD.lock (ha : w.H a = some u) (hu : IsD u) : ∀ {d : D} {v : V}, RD K w d v → RD K (w.lock a od u) d v
  | .non, v, h => h
  | .bl _, v, h => h
  | .int _, v, h => h
  | .str _, v, h => h
  | .ty _, v, h => h
  | .ob n, v, h => h
  | .tup ds, v, ⟨b, vs, e1, e2, e3, e4⟩ => ⟨b, vs, e1, sqT_lock ha hu e2, RDs.lock ha hu e3, fun k => lock_at ha hu (e4 k) trivial⟩
  | .fl ds, v, ⟨b, vs, e1, e2, e3⟩ => ⟨b, vs, e1, e2.lock ha hu, RDs.lock ha hu e3⟩
  | .fd _ kvs, v, ⟨b, o, u', vs, e1, e2, e3, e4, e5⟩ => ⟨b, o, u', vs, e1, lock_at ha hu e2 trivial, e3, fun z => z.elim e4 fun z => by subst z; rw [ha] at e2; cases e2; exact hu.noper trivial, RKs.lock ha hu e5⟩
theorem RDs.lock (ha : w.H a = some u) (hu : IsD u) : ∀ {ds : List D} {vs : List V}, RDs K w ds vs → RDs K (w.lock a od u) ds vs
  | [], _, h => h
  | _ :: _, _, ⟨v, r, e1, e2, e3⟩ => ⟨v, r, e1, RD.lock ha hu e2, RDs.lock ha hu e3⟩
theorem RKs.lock (ha : w.H a = some u) (hu : IsD u) : ∀ {ds : List (K2 × D)} {vs : List (K2 × V)}, RKs K w ds vs → RKs K (w.lock a od u) ds vs
  | [], _, h => h
  | _ :: _, _, ⟨v, r, e1, e2, e3⟩ => ⟨v, r, e1, RK.lock ha hu e2, RKs.lock ha hu e3⟩
theorem RK.lock (ha : w.H a = some u) (hu : IsD u) : ∀ {d : K2 × D} {v : V}, RK K w d v → RK K (w.lock a od u) d v
  | (_, _), v, h => RD.lock ha hu (v := v) h
end
theorem All3.exi {P Q : D → V → List Addr → Prop} : ∀ {ds : List D} {vs : List V} {A : List Addr}, (∀ d v B, P d v B → ∃ B', Q d v B' ∧ ∀ x ∈ B', x ∈ B) → All3 P ds vs A → ∃ A', All3 Q ds vs A' ∧ ∀ x ∈ A', x ∈ A
  | [], _, _, _, ⟨h1, h2⟩ => ⟨[], ⟨h1, rfl⟩, fun _ z => by cases z⟩
  | _ :: _, _, A, i, ⟨v, r, A1, A2, e1, e2, e3, e4⟩ => by
    obtain ⟨B1, q1, k1⟩ := i _ _ _ e3
    obtain ⟨B2, q2, k2⟩ := All3.exi i e4
    exact ⟨B1 ++ B2, ⟨v, r, B1, B2, e1, rfl, q1, q2⟩, fun x hx => by rw [e2]; exact (List.mem_append.mp hx).elim (fun z => List.mem_append_left _ (k1 x z)) fun z => List.mem_append_right _ (k2 x z)⟩
theorem AllK.exi {P Q : D → V → List Addr → Prop} : ∀ {ds : List (K2 × D)} {vs : List (K2 × V)} {A : List Addr}, (∀ d v B, P d v B → ∃ B', Q d v B' ∧ ∀ x ∈ B', x ∈ B) → AllK P ds vs A → ∃ A', AllK Q ds vs A' ∧ ∀ x ∈ A', x ∈ A
  | [], _, _, _, ⟨h1, h2⟩ => ⟨[], ⟨h1, rfl⟩, fun _ z => by cases z⟩
  | _ :: _, _, A, i, ⟨v, r, A1, A2, e1, e2, e3, e4⟩ => by
    obtain ⟨B1, q1, k1⟩ := i _ _ _ e3
    obtain ⟨B2, q2, k2⟩ := AllK.exi i e4
    exact ⟨B1 ++ B2, ⟨v, r, B1, B2, e1, rfl, q1, q2⟩, fun x hx => by rw [e2]; exact (List.mem_append.mp hx).elim (fun z => List.mem_append_left _ (k1 x z)) fun z => List.mem_append_right _ (k2 x z)⟩
theorem Seq.lockF (ha : w.H a = some u) (hu : IsD u) {b : Addr} {vs : List V} {A : List Addr} (h : Seq false K w.H b vs A) : Seq false K (w.lock a od u).H b vs A := by
  rcases h with ⟨h, e⟩ | ⟨h1, h2, h3⟩
  · refine .inl ⟨?_, e⟩
    show upd w.H a _ b = _
    rw [upd_ne (fun z => by subst z; rw [ha] at h; cases h; rcases hu with ⟨_, z⟩ | ⟨_, z⟩ <;> cases z)]; exact h
  · exact .inr ⟨h1, h2.lock ha hu, h3⟩
theorem Dic.lockF (ha : w.H a = some u) (hu : IsD u) {b : Addr} {o : HO} {A : List Addr} (h : Dic false w.H b o A) : ∃ A', Dic false (w.lock a od u).H b o A' ∧ ∀ x ∈ A', x ∈ A := by
  rcases h with ⟨h, e⟩ | ⟨h1, ⟨o', h2⟩, h3⟩
  · by_cases c : b = a
    · subst c
      rw [ha] at h
      cases h
      exact ⟨[], .inr ⟨rfl, ⟨od, upd_same⟩, rfl⟩, fun _ z => by cases z⟩
    · exact ⟨A, .inl ⟨by show upd w.H a _ b = _; rw [upd_ne c]; exact h, e⟩, fun _ z => z⟩
  · exact ⟨A, .inr ⟨h1, ⟨o', lock_at ha hu h2 trivial⟩, h3⟩, fun _ z => z⟩
mutual
theorem Rp.lockF (ha : w.H a = some u) (hu : IsD u) : ∀ {t : Tag} {d : D} {v : V} {A : List Addr}, Rp false K w t d v A → ∃ A', Rp false K (w.lock a od u) t d v A' ∧ ∀ x ∈ A', x ∈ A
  | .p, _, _, _, ⟨h1, h2⟩ => ⟨[], ⟨h1.lock ha hu, rfl⟩, fun _ z => by cases z⟩
  | .l t, _, _, _, .inl ⟨h1, h2, h3⟩ => ⟨[], .inl ⟨h1, h2.lock ha hu, rfl⟩, fun _ z => by cases z⟩
  | .mK t, _, _, _, .inl ⟨h1, h2, h3⟩ => ⟨[], .inl ⟨h1, h2.lock ha hu, rfl⟩, fun _ z => by cases z⟩
  | .mT t, _, _, _, .inl ⟨h1, h2, h3⟩ => ⟨[], .inl ⟨h1, h2.lock ha hu, rfl⟩, fun _ z => by cases z⟩
  | .hl ts, _, _, _, .inl ⟨h1, h2, h3⟩ => ⟨[], .inl ⟨h1, h2.lock ha hu, rfl⟩, fun _ z => by cases z⟩
  | .l t, _, _, _, .inr ⟨ds, b, vs, A0, A1, e1, e2, e3, e4, e5⟩ => by
    obtain ⟨B1, q1, k1⟩ := e4.exi fun _ _ _ h => Rp.lockF ha hu h
    exact ⟨A0 ++ B1, .inr ⟨ds, b, vs, A0, B1, e1, e2, e3.lockF ha hu, q1, rfl⟩, fun x hx => by rw [e5]; exact (List.mem_append.mp hx).elim (fun z => List.mem_append_left _ z) fun z => List.mem_append_right _ (k1 x z)⟩
  | .mK t, _, _, _, .inr ⟨ds, b, vs, A0, A1, e1, e2, e3, e4, e5⟩ => by
    obtain ⟨B0, q0, k0⟩ := e3.lockF (od := od) ha hu
    obtain ⟨B1, q1, k1⟩ := e4.exi fun _ _ _ h => Rp.lockF ha hu h
    exact ⟨B0 ++ B1, .inr ⟨ds, b, vs, B0, B1, e1, e2, q0, q1, rfl⟩, fun x hx => by rw [e5]; exact (List.mem_append.mp hx).elim (fun z => List.mem_append_left _ (k0 x z)) fun z => List.mem_append_right _ (k1 x z)⟩
  | .mT t, _, _, _, .inr ⟨ds, b, vs, A0, A1, e1, e2, e3, e4, e5⟩ => by
    obtain ⟨B0, q0, k0⟩ := e3.lockF (od := od) ha hu
    obtain ⟨B1, q1, k1⟩ := e4.exi fun _ _ _ h => Rp.lockF ha hu h
    exact ⟨B0 ++ B1, .inr ⟨ds, b, vs, B0, B1, e1, e2, q0, q1, rfl⟩, fun x hx => by rw [e5]; exact (List.mem_append.mp hx).elim (fun z => List.mem_append_left _ (k0 x z)) fun z => List.mem_append_right _ (k1 x z)⟩
  | .hl ts, _, _, _, .inr ⟨ds, b, vs, A0, A1, e1, e2, e3, e4, e5⟩ => by
    obtain ⟨B1, q1, k1⟩ := Rps.lockF ha hu e4
    exact ⟨A0 ++ B1, .inr ⟨ds, b, vs, A0, B1, e1, e2, e3.lockF ha hu, q1, rfl⟩, fun x hx => by rw [e5]; exact (List.mem_append.mp hx).elim (fun z => List.mem_append_left _ z) fun z => List.mem_append_right _ (k1 x z)⟩
theorem Rps.lockF (ha : w.H a = some u) (hu : IsD u) : ∀ {t : List Tag} {d : List D} {v : List V} {A : List Addr}, Rps false K w t d v A → ∃ A', Rps false K (w.lock a od u) t d v A' ∧ ∀ x ∈ A', x ∈ A
  | [], _, _, _, ⟨h1, h2, h3⟩ => ⟨[], ⟨h1, h2, rfl⟩, fun _ z => by cases z⟩
  | _ :: _, _, _, _, ⟨d, es, v, r, A1, A2, e1, e2, e3, e4, e5⟩ => by
    obtain ⟨B1, q1, k1⟩ := Rp.lockF ha hu e4
    obtain ⟨B2, q2, k2⟩ := Rps.lockF ha hu e5
    exact ⟨B1 ++ B2, ⟨d, es, v, r, B1, B2, e1, e2, rfl, q1, q2⟩, fun x hx => by rw [e3]; exact (List.mem_append.mp hx).elim (fun z => List.mem_append_left _ (k1 x z)) fun z => List.mem_append_right _ (k2 x z)⟩
end
theorem All3.imp0 {P Q : D → V → List Addr → Prop} {Z : Addr → Prop} : ∀ {ds : List D} {vs : List V} {A : List Addr}, (∀ x ∈ A, Z x) → (∀ d v B, (∀ x ∈ B, Z x) → P d v B → Q d v B) → All3 P ds vs A → All3 Q ds vs A := fun hA i h => h.imp fun d v B hB => i d v B fun x hx => hA x (hB x hx)
/-! what is written lies elsewhere -/
mutual
theorem Rp.lockT (ha : w.H a = some u) (hu : IsD u) : ∀ {t : Tag} {d : D} {v : V} {A : List Addr}, a ∉ A → Rp true K w t d v A → Rp true K (w.lock a od u) t d v A
  | .p, _, _, _, _, ⟨h1, h2⟩ => ⟨h1.lock ha hu, h2⟩
  | .l t, _, _, _, _, .inl ⟨h1, _⟩ => nomatch h1
  | .mK t, _, _, _, _, .inl ⟨h1, _⟩ => nomatch h1
  | .mT t, _, _, _, _, .inl ⟨h1, _⟩ => nomatch h1
  | .hl t, _, _, _, _, .inl ⟨h1, _⟩ => nomatch h1
  | .l t, _, _, _, hA, .inr ⟨ds, b, vs, A0, A1, e1, e2, e3, e4, e5⟩ => by
    obtain ⟨e3, e6⟩ := e3.resolve_right fun z => nomatch z.1
    exact .inr ⟨ds, b, vs, A0, A1, e1, e2, .inl ⟨by show upd w.H a _ b = _; rw [upd_ne (fun z => hA (by rw [e5, e6, ← z]; simp))]; exact e3, e6⟩, e4.imp fun d v B hB h => Rp.lockT ha hu (fun z => hA (by rw [e5]; exact List.mem_append_right _ (hB a z))) h, e5⟩
  | .mK t, _, _, _, hA, .inr ⟨ds, b, vs, A0, A1, e1, e2, e3, e4, e5⟩ => by
    obtain ⟨e3, e6⟩ := e3.resolve_right fun z => nomatch z.1
    exact .inr ⟨ds, b, vs, A0, A1, e1, e2, .inl ⟨by show upd w.H a _ b = _; rw [upd_ne (fun z => hA (by rw [e5, e6, ← z]; simp))]; exact e3, e6⟩, e4.imp fun d v B hB h => Rp.lockT ha hu (fun z => hA (by rw [e5]; exact List.mem_append_right _ (hB a z))) h, e5⟩
  | .mT t, _, _, _, hA, .inr ⟨ds, b, vs, A0, A1, e1, e2, e3, e4, e5⟩ => by
    obtain ⟨e3, e6⟩ := e3.resolve_right fun z => nomatch z.1
    exact .inr ⟨ds, b, vs, A0, A1, e1, e2, .inl ⟨by show upd w.H a _ b = _; rw [upd_ne (fun z => hA (by rw [e5, e6, ← z]; simp))]; exact e3, e6⟩, e4.imp fun d v B hB h => Rp.lockT ha hu (fun z => hA (by rw [e5]; exact List.mem_append_right _ (hB a z))) h, e5⟩
  | .hl ts, _, _, _, hA, .inr ⟨ds, b, vs, A0, A1, e1, e2, e3, e4, e5⟩ => by
    obtain ⟨e3, e6⟩ := e3.resolve_right fun z => nomatch z.1
    exact .inr ⟨ds, b, vs, A0, A1, e1, e2, .inl ⟨by show upd w.H a _ b = _; rw [upd_ne (fun z => hA (by rw [e5, e6, ← z]; simp))]; exact e3, e6⟩, Rps.lockT ha hu (fun z => hA (by rw [e5]; exact List.mem_append_right _ z)) e4, e5⟩
theorem Rps.lockT (ha : w.H a = some u) (hu : IsD u) : ∀ {t : List Tag} {d : List D} {v : List V} {A : List Addr}, a ∉ A → Rps true K w t d v A → Rps true K (w.lock a od u) t d v A
  | [], _, _, _, _, h => h
  | _ :: _, _, _, _, hA, ⟨d, es, v, r, A1, A2, e1, e2, e3, e4, e5⟩ => ⟨d, es, v, r, A1, A2, e1, e2, e3, Rp.lockT ha hu (fun z => hA (by rw [e3]; exact List.mem_append_left _ z)) e4, Rps.lockT ha hu (fun z => hA (by rw [e3]; exact List.mem_append_right _ z)) e5⟩
end
/-! ### behind it -/
variable {lk : Addr → Prop}
theorem unlock_at (ha : w.H a = some (.frz od u)) (hu : IsD u) {b : Addr} {o : HO} (hb : w.H b = some o) (ho : o ≠ .frz od u) : (w.unlock a u lk).H b = some o := by
  show upd w.H a _ b = _
  rw [upd_ne (fun z => by subst z; rw [ha] at hb; cases hb; exact ho rfl)]; exact hb
theorem sqT_unlock (ha : w.H a = some (.frz od u)) (hu : IsD u) {b : Addr} {xs : List V} (h : SqT K w.H b xs) : SqT K (w.unlock a u lk).H b xs := by
  rcases h with (h | ⟨o, h⟩) | h
  · exact .inl (.inl (unlock_at ha hu h fun z => nomatch z))
  · exact .inl (.inr ⟨o, unlock_at ha hu h fun z => by cases z; rcases hu with ⟨_, z⟩ | ⟨_, z⟩ <;> cases z⟩)
  · exact .inr h
theorem SqF.unlock (ha : w.H a = some (.frz od u)) (hu : IsD u) {b : Addr} {xs : List V} (h : SqF K w.H b xs) : SqF K (w.unlock a u lk).H b xs := by
  rcases h with ⟨o, h⟩ | h
  · exact .inl ⟨o, unlock_at ha hu h fun z => by cases z; rcases hu with ⟨_, z⟩ | ⟨_, z⟩ <;> cases z⟩
  · exact .inr h
mutual
theorem RD.unlock (ha : w.H a = some (.frz od u)) (hu : IsD u) (hl : w.lk a) (hk : ∀ b, lk b → w.lk b) : ∀ {d : D} {v : V}, RD K w d v → RD K (w.unlock a u lk) d v
  | .non, v, h => h
  | .bl _, v, h => h
  | .int _, v, h => h
  | .str _, v, h => h
  | .ty _, v, h => h
  | .ob n, v, h => h
  | .tup ds, v, ⟨b, vs, e1, e2, e3, e4⟩ => ⟨b, vs, e1, sqT_unlock ha hu e2, RDs.unlock ha hu hl hk e3, fun k => unlock_at ha hu (e4 k) fun z => nomatch z⟩
  | .fl ds, v, ⟨b, vs, e1, e2, e3⟩ => ⟨b, vs, e1, e2.unlock ha hu, RDs.unlock ha hu hl hk e3⟩
  | .fd _ kvs, v, ⟨b, o, u', vs, e1, e2, e3, e4, e5⟩ => ⟨b, o, u', vs, e1, by show upd w.H a _ b = _; rw [upd_ne (fun (z : b = a) => e4 (by rw [z]; exact hl))]; exact e2, e3, fun z => e4 (hk b z), RKs.unlock ha hu hl hk e5⟩
theorem RDs.unlock (ha : w.H a = some (.frz od u)) (hu : IsD u) (hl : w.lk a) (hk : ∀ b, lk b → w.lk b) : ∀ {ds : List D} {vs : List V}, RDs K w ds vs → RDs K (w.unlock a u lk) ds vs
  | [], _, h => h
  | _ :: _, _, ⟨v, r, e1, e2, e3⟩ => ⟨v, r, e1, RD.unlock ha hu hl hk e2, RDs.unlock ha hu hl hk e3⟩
theorem RKs.unlock (ha : w.H a = some (.frz od u)) (hu : IsD u) (hl : w.lk a) (hk : ∀ b, lk b → w.lk b) : ∀ {ds : List (K2 × D)} {vs : List (K2 × V)}, RKs K w ds vs → RKs K (w.unlock a u lk) ds vs
  | [], _, h => h
  | _ :: _, _, ⟨v, r, e1, e2, e3⟩ => ⟨v, r, e1, RK.unlock ha hu hl hk e2, RKs.unlock ha hu hl hk e3⟩
theorem RK.unlock (ha : w.H a = some (.frz od u)) (hu : IsD u) (hl : w.lk a) (hk : ∀ b, lk b → w.lk b) : ∀ {d : K2 × D} {v : V}, RK K w d v → RK K (w.unlock a u lk) d v
  | (_, _), v, h => RD.unlock ha hu hl hk (v := v) h
end
mutual
theorem Rp.unlockT (ha : w.H a = some (.frz od u)) (hu : IsD u) (hl : w.lk a) (hk : ∀ b, lk b → w.lk b) : ∀ {t : Tag} {d : D} {v : V} {A : List Addr}, Rp true K w t d v A → Rp true K (w.unlock a u lk) t d v A
  | .p, _, _, _, ⟨h1, h2⟩ => ⟨h1.unlock ha hu hl hk, h2⟩
  | .l t, _, _, _, .inl ⟨h1, _⟩ => nomatch h1
  | .mK t, _, _, _, .inl ⟨h1, _⟩ => nomatch h1
  | .mT t, _, _, _, .inl ⟨h1, _⟩ => nomatch h1
  | .hl t, _, _, _, .inl ⟨h1, _⟩ => nomatch h1
  | .l t, _, _, _, .inr ⟨ds, b, vs, A0, A1, e1, e2, e3, e4, e5⟩ => by
    obtain ⟨e3, e6⟩ := e3.resolve_right fun z => nomatch z.1
    exact .inr ⟨ds, b, vs, A0, A1, e1, e2, .inl ⟨unlock_at ha hu e3 (fun z => nomatch z), e6⟩, e4.imp fun d v B hB h => Rp.unlockT ha hu hl hk h, e5⟩
  | .mK t, _, _, _, .inr ⟨ds, b, vs, A0, A1, e1, e2, e3, e4, e5⟩ => by
    obtain ⟨e3, e6⟩ := e3.resolve_right fun z => nomatch z.1
    exact .inr ⟨ds, b, vs, A0, A1, e1, e2, .inl ⟨unlock_at ha hu e3 (fun z => nomatch z), e6⟩, e4.imp fun d v B hB h => Rp.unlockT ha hu hl hk h, e5⟩
  | .mT t, _, _, _, .inr ⟨ds, b, vs, A0, A1, e1, e2, e3, e4, e5⟩ => by
    obtain ⟨e3, e6⟩ := e3.resolve_right fun z => nomatch z.1
    exact .inr ⟨ds, b, vs, A0, A1, e1, e2, .inl ⟨unlock_at ha hu e3 (fun z => nomatch z), e6⟩, e4.imp fun d v B hB h => Rp.unlockT ha hu hl hk h, e5⟩
  | .hl ts, _, _, _, .inr ⟨ds, b, vs, A0, A1, e1, e2, e3, e4, e5⟩ => by
    obtain ⟨e3, e6⟩ := e3.resolve_right fun z => nomatch z.1
    exact .inr ⟨ds, b, vs, A0, A1, e1, e2, .inl ⟨unlock_at ha hu e3 (fun z => nomatch z), e6⟩, Rps.unlockT ha hu hl hk e4, e5⟩
theorem Rps.unlockT (ha : w.H a = some (.frz od u)) (hu : IsD u) (hl : w.lk a) (hk : ∀ b, lk b → w.lk b) : ∀ {t : List Tag} {d : List D} {v : List V} {A : List Addr}, Rps true K w t d v A → Rps true K (w.unlock a u lk) t d v A
  | [], _, _, _, h => h
  | _ :: _, _, _, _, ⟨d, es, v, r, A1, A2, e1, e2, e3, e4, e5⟩ => ⟨d, es, v, r, A1, A2, e1, e2, e3, Rp.unlockT ha hu hl hk e4, Rps.unlockT ha hu hl hk e5⟩
end
end
end FL

/-! FR: the rules of locked dicts (for defs that make no objects). -/
namespace FL
open PySem PySem.Spec PyProof.Rows L2
variable [TabT]
section
variable {K : PySem.W.Frag} {f : Fm} {w w' : Wd} {Θ Θ' : Th} {σ σ' : L2.St} {s s' : St Unit} {φ φ' : Fp}
theorem and_l {a b : Bool} (h : (a && b) = true) : a = true := by cases a <;> first | rfl | cases h
theorem and_r {a b : Bool} (h : (a && b) = true) : b = true := by cases a <;> first | exact h | cases h
theorem All3.all {P : D → V → List Addr → Prop} {Z : Addr → Prop} : ∀ {ds : List D} {vs : List V} {A : List Addr}, (∀ d v B, P d v B → ∀ a ∈ B, Z a) → All3 P ds vs A → ∀ a ∈ A, Z a := All3.al
mutual
theorem Rp.trk : ∀ {t : Tag} {d : D} {v : V} {A : List Addr}, Rp true K w t d v A → ∀ x ∈ A, ∀ o u, w.H x ≠ some (.frz o u)
  | .p, _, _, _, ⟨_, h⟩ => by subst h; intro x hx; cases hx
  | .l t, _, _, _, .inl ⟨h, _⟩ => nomatch h
  | .mK t, _, _, _, .inl ⟨h, _⟩ => nomatch h
  | .mT t, _, _, _, .inl ⟨h, _⟩ => nomatch h
  | .hl ts, _, _, _, .inl ⟨h, _⟩ => nomatch h
  | .l t, _, _, _, .inr ⟨ds, a, vs, A0, A1, e1, e2, e3, e4, e5⟩ => fun x hx => by
    rw [e5] at hx
    obtain ⟨e3, e6⟩ := e3.resolve_right fun z => nomatch z.1
    exact (List.mem_append.mp hx).elim (fun z o u y => by rw [e6] at z; rw [List.mem_singleton.mp z, e3] at y; cases y) (All3.al (Z := fun x => ∀ o u, w.H x ≠ some (.frz o u)) (fun _ _ _ h => Rp.trk h) e4 x)
  | .mK t, _, _, _, .inr ⟨ds, a, vs, A0, A1, e1, e2, e3, e4, e5⟩ => fun x hx => by
    rw [e5] at hx
    obtain ⟨e3, e6⟩ := e3.resolve_right fun z => nomatch z.1
    exact (List.mem_append.mp hx).elim (fun z o u y => by rw [e6] at z; rw [List.mem_singleton.mp z, e3] at y; cases y) (AllK.al (Z := fun x => ∀ o u, w.H x ≠ some (.frz o u)) (fun _ _ _ h => Rp.trk h) e4 x)
  | .mT t, _, _, _, .inr ⟨ds, a, vs, A0, A1, e1, e2, e3, e4, e5⟩ => fun x hx => by
    rw [e5] at hx
    obtain ⟨e3, e6⟩ := e3.resolve_right fun z => nomatch z.1
    exact (List.mem_append.mp hx).elim (fun z o u y => by rw [e6] at z; rw [List.mem_singleton.mp z, e3] at y; cases y) (AllK.al (Z := fun x => ∀ o u, w.H x ≠ some (.frz o u)) (fun _ _ _ h => Rp.trk h) e4 x)
  | .hl ts, _, _, _, .inr ⟨ds, a, vs, A0, A1, e1, e2, e3, e4, e5⟩ => fun x hx => by
    rw [e5] at hx
    obtain ⟨e3, e6⟩ := e3.resolve_right fun z => nomatch z.1
    exact (List.mem_append.mp hx).elim (fun z o u y => by rw [e6] at z; rw [List.mem_singleton.mp z, e3] at y; cases y) (Rps.trk e4 x)
theorem Rps.trk : ∀ {t : List Tag} {d : List D} {v : List V} {A : List Addr}, Rps true K w t d v A → ∀ x ∈ A, ∀ o u, w.H x ≠ some (.frz o u)
  | [], _, _, _, ⟨_, _, h⟩ => by subst h; intro x hx; cases hx
  | _ :: _, _, _, _, ⟨d, es, v, r, A1, A2, e1, e2, e3, e4, e5⟩ => fun x hx => by
    rw [e3] at hx
    exact (List.mem_append.mp hx).elim (Rp.trk e4 x) (Rps.trk e5 x)
end
theorem IsD.notb {u : HO} (h : IsD u) : NoTb u := by rcases h with ⟨vs, rfl⟩ | ⟨vs, rfl⟩ <;> exact fun _ z => nomatch z
theorem IsD.nopT {u : HO} (h : IsD u) : ¬ PerT u := by rcases h with ⟨vs, rfl⟩ | ⟨vs, rfl⟩ <;> exact id
/-- footprints of slots that have some alone -/
def Fp.norm (Θ : Th) (φ : Fp) : Fp := ⟨fun j => match Θ[j]? with
  | some (.own _) => φ.fp j
  | some (.io _) => φ.fp j
  | _ => [], fun _ => False⟩
theorem Fp.norm_mem {j : Nat} {a : Addr} (h : a ∈ (φ.norm Θ).fp j) : a ∈ φ.fp j ∧ ∃ κ t, Θ[j]? = some κ ∧ κ.ow = some t := by
  unfold Fp.norm at h
  dsimp only at h
  cases e : Θ[j]? with
  | none => rw [e] at h; cases h
  | some κ =>
    rw [e] at h
    cases κ <;> first | exact ⟨h, _, _, rfl, rfl⟩ | cases h
theorem Fp.norm_own {j : Nat} {t : Tag} (h : Θ[j]? = some (.own t)) : (φ.norm Θ).fp j = φ.fp j := by unfold Fp.norm; dsimp only; rw [h]
theorem Fp.norm_io {j : Nat} {t : Tag} (h : Θ[j]? = some (.io t)) : (φ.norm Θ).fp j = φ.fp j := by unfold Fp.norm; dsimp only; rw [h]
theorem OwnS.norm (h : OwnS K f w Θ σ s φ) : OwnS K f w Θ σ s (φ.norm Θ) := { h with
  own := fun i t e => by rw [Fp.norm_own e]; exact h.own i t e
  io := fun i t e => by rw [Fp.norm_io e]; exact h.io i t e
  nd := fun i => by
    unfold Fp.norm; dsimp only
    split <;> first | exact h.nd i | exact List.nodup_nil
  sep := fun i j a hi hj => h.sep i j a (Fp.norm_mem hi).1 (Fp.norm_mem hj).1
  inF := fun i a ha => h.inF i a (Fp.norm_mem ha).1
  al := fun a ha => by
    rcases ha with ha | ⟨j, ha⟩
    · exact ha.elim
    · exact h.al a (.inr ⟨j, (Fp.norm_mem ha).1⟩)
  heap := trivial
  hF := fun _ z => z.elim
  hsep := fun _ _ _ z => z }
/-- a slot whose dict may be locked -/
def lkOk (t : Bool) : Sl → Bool
  | .own u => u.beq (mTag t)
  | .io u => u.beq (mTag t)
  | .bor u => u.beq (mTag t)
  | _ => false
/-- borrowed and locked slots stay as they were -/
def Sl.sB : Sl → Sl → Bool
  | .bor a, b => (Sl.bor a).beq b
  | .lk a, b => (Sl.lk a).beq b
  | _, _ => true
def sameB : Th → Th → Bool
  | [], B => B.isEmpty
  | a :: as, B => match B with
    | [] => false
    | b :: cs => a.sB b && sameB as cs
theorem sameB_get : ∀ {A B : Th} {j : Nat} {κ : Sl}, sameB A B = true → A[j]? = some κ → (∃ t, κ = .bor t) ∨ (∃ t, κ = .lk t) → B[j]? = some κ := by
  intro A
  induction A with
  | nil => intro B j κ _ e _; cases j <;> cases e
  | cons a as ih =>
    intro B j κ h e k
    cases B with
    | nil => exact nomatch h
    | cons b bs =>
      have h : (a.sB b && sameB as bs) = true := h
      have h1 := and_l h
      have h2 := and_r h
      cases j with
      | zero =>
        have e : some a = some κ := e
        cases e
        rcases k with ⟨t, rfl⟩ | ⟨t, rfl⟩
        · show some b = some _; rw [Sl.eq_of (show (Sl.bor t).beq b = true from h1)]
        · show some b = some _; rw [Sl.eq_of (show (Sl.lk t).beq b = true from h1)]
      | succ j => exact ih (B := bs) (j := j) h2 e k
abbrev Fm.pin (f : Fm) (i : Nat) (v : V) (d : D) : Fm := ⟨f.f, f.b, fun j => if j = i then v else f.π j, fun j => if j = i then d else f.δ j⟩
theorem mTag_bor {t : Bool} {d : D} {v : V} {A : List Addr} (h : Rp false K w (mTag t) d v A) : (RD K w d v ∧ A = []) ∨ ∃ kvs a u vs, d = .fd t kvs ∧ v = .ref a ∧ DictIs t u vs ∧ RKs K w kvs vs ∧ ((w.H a = some u ∧ A = [a]) ∨ ∃ o, w.H a = some (.frz o u)) := by
  cases t with
  | false =>
    rcases h with ⟨_, h, e⟩ | ⟨ds, a, vs, A0, A1, rfl, rfl, e3, e4, e5⟩
    · exact .inl ⟨h, e⟩
    · obtain ⟨e4, e7⟩ := e4.rks
      refine .inr ⟨ds, a, _, _, rfl, rfl, .k vs, e4, ?_⟩
      rcases e3 with ⟨e3, e6⟩ | ⟨_, e3, e6⟩
      · exact .inl ⟨e3, by rw [e5, e6, e7]; rfl⟩
      · exact .inr e3
  | true =>
    rcases h with ⟨_, h, e⟩ | ⟨ds, a, vs, A0, A1, rfl, rfl, e3, e4, e5⟩
    · exact .inl ⟨h, e⟩
    · obtain ⟨e4, e7⟩ := e4.rks
      refine .inr ⟨ds, a, _, _, rfl, rfl, .t vs, e4, ?_⟩
      rcases e3 with ⟨e3, e6⟩ | ⟨_, e3, e6⟩
      · exact .inl ⟨e3, by rw [e5, e6, e7]; rfl⟩
      · exact .inr e3
/-- the slot's dict, and where it lies -/
theorem OwnS.lkAt (h : OwnS K f w Θ σ s φ) {i : Nat} {κ : Sl} {t : Bool} (hi : Θ[i]? = some κ) (hk : lkOk t κ = true) : (∃ d v, s.s[i]? = some (some d) ∧ σ[i]? = some (some v) ∧ (∀ u, κ = .io u → v = f.π i) ∧ (∀ u, κ = .bor u → v = f.π i ∧ d = f.δ i) ∧
    ((∃ kvs a o u vs, d = .fd t kvs ∧ v = .ref a ∧ w.H a = some (.frz o u) ∧ DictIs t u vs ∧ RKs K w kvs vs ∧ ∃ u, κ = .bor u) ∨
      (∃ kvs a u vs, d = .fd t kvs ∧ v = .ref a ∧ w.H a = some u ∧ DictIs t u vs ∧ RKs K w kvs vs ∧ ((∃ τ, κ.ow = some τ ∧ φ.fp i = [a]) ∨ ((∃ u, κ = .bor u) ∧ f.b a))))) ∨ ((∃ u, κ = .bor u) ∧ ∃ d, s.s[i]? = some (some d) ∧ ∀ kvs, d ≠ .fd t kvs) := by
  cases κ with
  | own u =>
    cases Tag.eq_of (show u.beq (mTag t) = true from hk)
    obtain ⟨d, v, h1, h2, h3⟩ := h.own i _ hi
    obtain ⟨kvs, a, u, vs, e1, e2, e3, e4, e5, e6⟩ := h3.dct
    exact .inl ⟨d, v, h1, h2, (fun _ z => nomatch z), (fun _ z => nomatch z), .inr ⟨kvs, a, u, vs, e1, e2, e3, e4, e5, .inl ⟨_, rfl, e6⟩⟩⟩
  | io u =>
    cases Tag.eq_of (show u.beq (mTag t) = true from hk)
    obtain ⟨d, h1, h2, h3⟩ := h.io i _ hi
    obtain ⟨kvs, a, u, vs, e1, e2, e3, e4, e5, e6⟩ := h3.dct
    exact .inl ⟨d, _, h1, h2, (fun _ _ => rfl), (fun _ z => nomatch z), .inr ⟨kvs, a, u, vs, e1, e2, e3, e4, e5, .inl ⟨_, rfl, e6⟩⟩⟩
  | bor u =>
    cases Tag.eq_of (show u.beq (mTag t) = true from hk)
    obtain ⟨A, h1, h2, h3, h4⟩ := h.bor i _ hi
    rcases mTag_bor h3 with ⟨r, _⟩ | ⟨kvs, a, u, vs, e1, e2, e3, e4, ⟨e5, e6⟩ | ⟨o, e5⟩⟩
    · cases ed : f.δ i with
      | fd t' kvs =>
        by_cases c : t' = t
        · subst c
          rw [ed] at r
          obtain ⟨a, o, u, vs, e1, e2, e3, _, e5⟩ := r
          exact .inl ⟨_, _, h1, h2, (fun _ z => nomatch z), (fun _ _ => ⟨rfl, ed⟩), .inl ⟨kvs, a, o, u, vs, ed, e1, e2, e3, e5, _, rfl⟩⟩
        · exact .inr ⟨⟨_, rfl⟩, _, h1, fun kvs z => by rw [ed] at z; cases z; exact c rfl⟩
      | _ => exact .inr ⟨⟨_, rfl⟩, _, h1, fun kvs z => by rw [ed] at z; cases z⟩
    · exact .inl ⟨_, _, h1, h2, (fun _ z => nomatch z), (fun _ _ => ⟨rfl, rfl⟩), .inr ⟨kvs, a, u, vs, e1, e2, e5, e3, e4, .inr ⟨⟨_, rfl⟩, h4 a (by rw [e6]; simp)⟩⟩⟩
    · exact .inl ⟨_, _, h1, h2, (fun _ z => nomatch z), (fun _ _ => ⟨rfl, rfl⟩), .inl ⟨kvs, a, o, u, vs, e1, e2, e5, e3, e4, _, rfl⟩⟩
  | _ => cases hk
/-- into the lock (the dict lies frozen already) -/
theorem OwnS.pin (h : OwnS K f w Θ σ s φ) {i : Nat} {t : Bool} {kvs : List (K2 × D)} {a : Addr} {o : Obj} {u : HO} {vs : List (K2 × V)} (h1 : s.s[i]? = some (some (.fd t kvs))) (h2 : σ[i]? = some (some (.ref a))) (ha : w.H a = some (.frz o u)) (hd : DictIs t u vs) (hr : RKs K w kvs vs) :
    OwnS K (f.pin i (.ref a) (.fd t kvs)) w (Θ.set i (.lk t)) σ s (φ.set i []) := by
  have h0 := h.drop i
  have hl : i < Θ.length := by rw [← h.len1]; exact (List.getElem?_eq_some_iff.mp h2).1
  have ne : ∀ {j : Nat}, i ≠ j → (Θ.set i .no)[j]? = (Θ.set i (.lk t))[j]? := fun c => by rw [List.getElem?_set_ne c, List.getElem?_set_ne c]
  have nx : ∀ {j : Nat} {κ : Sl}, (Θ.set i (.lk t))[j]? = some κ → (∀ b, κ ≠ .lk b) → i ≠ j := fun {j κ} e n c => by
    subst c; rw [List.getElem?_set_self hl] at e; cases e; exact n t rfl
  exact { h0 with
    len1 := by simpa using h.len1
    len2 := by simpa using h.len2
    own := fun j τ e => h0.own j τ ((ne (nx e fun _ z => nomatch z)).trans e)
    bor := fun j τ e => by
      have c := nx e fun _ z => nomatch z
      obtain ⟨A, q1, q2, q3, q4⟩ := h0.bor j τ ((ne c).trans e)
      dsimp only
      rw [if_neg (fun z => c z.symm), if_neg (fun z => c z.symm)]
      exact ⟨A, q1, q2, q3, q4⟩
    io := fun j τ e => by
      have c := nx e fun _ z => nomatch z
      obtain ⟨d, q1, q2, q3⟩ := h0.io j τ ((ne c).trans e)
      dsimp only
      rw [if_neg (fun z => c z.symm)]
      exact ⟨d, q1, q2, q3⟩
    lks := fun j τ e => by
      by_cases c : i = j
      · subst c
        rw [List.getElem?_set_self hl] at e
        cases e
        dsimp only
        rw [if_pos rfl, if_pos rfl]
        exact ⟨kvs, a, o, u, vs, rfl, rfl, h1, h2, ha, hd, hr⟩
      · obtain ⟨kvs', a', o', u', vs', q1, q2, q3, q4, q5⟩ := h0.lks j τ ((ne c).trans e)
        dsimp only
        rw [if_neg (fun z => c z.symm), if_neg (fun z => c z.symm)]
        exact ⟨kvs', a', o', u', vs', q1, q2, q3, q4, q5⟩ }
/-- .. of a dict that is written -/
theorem OwnS.lock (h : OwnS K f w Θ σ s φ) {i : Nat} {κ : Sl} {t : Bool} {kvs : List (K2 × D)} {a : Addr} {od : Obj} {u : HO} {vs : List (K2 × V)} (hi : Θ[i]? = some κ) (h1 : s.s[i]? = some (some (.fd t kvs))) (h2 : σ[i]? = some (some (.ref a))) (ha : w.H a = some u) (hd : DictIs t u vs) (hr : RKs K w kvs vs)
    (hw : (∃ τ, κ.ow = some τ ∧ φ.fp i = [a]) ∨ ((∃ u, κ = .bor u) ∧ f.b a)) : OwnS K (f.pin i (.ref a) (.fd t kvs)) (w.lock a od u) (Θ.set i (.lk t)) σ s ((φ.norm Θ).set i []) := by
  have hu := hd.isD
  have hn := h.norm
  have away : ∀ {j : Nat}, j ≠ i → a ∉ (φ.norm Θ).fp j := fun {j} c hj => by
    have hj := (Fp.norm_mem hj).1
    rcases hw with ⟨_, _, hw⟩ | ⟨_, hw⟩
    · exact c (h.sep j i a hj (by rw [hw]; simp))
    · exact h.bf a hw (h.inF j a hj)
  have h0 := hn.drop i
  have hl : i < Θ.length := by rw [← h.len1]; exact (List.getElem?_eq_some_iff.mp h2).1
  have ne : ∀ {j : Nat}, i ≠ j → (Θ.set i .no)[j]? = (Θ.set i (.lk t))[j]? := fun c => by rw [List.getElem?_set_ne c, List.getElem?_set_ne c]
  have nx : ∀ {j : Nat} {κ : Sl}, (Θ.set i (.lk t))[j]? = some κ → (∀ b, κ ≠ .lk b) → i ≠ j := fun {j κ} e n c => by
    subst c; rw [List.getElem?_set_self hl] at e; cases e; exact n t rfl
  have afp : ∀ {j : Nat}, i ≠ j → a ∉ ((φ.norm Θ).set i []).fp j := fun {j} c z => by
    unfold Fp.set at z; dsimp only at z; rw [if_neg (fun y => c y.symm)] at z; exact away (fun y => c y.symm) z
  exact { h0 with
    len1 := by simpa using h.len1
    len2 := by simpa using h.len2
    own := fun j τ e => by
      have c := nx e fun _ z => nomatch z
      obtain ⟨d, v, q1, q2, q3⟩ := h0.own j τ ((ne c).trans e)
      exact ⟨d, v, q1, q2, q3.lockT ha hu (afp c)⟩
    bor := fun j τ e => by
      have c := nx e fun _ z => nomatch z
      obtain ⟨A, q1, q2, q3, q4⟩ := h0.bor j τ ((ne c).trans e)
      obtain ⟨A', q5, q6⟩ := q3.lockF (od := od) ha hu
      dsimp only
      rw [if_neg (fun z => c z.symm), if_neg (fun z => c z.symm)]
      exact ⟨A', q1, q2, q5, fun x hx => q4 x (q6 x hx)⟩
    io := fun j τ e => by
      have c := nx e fun _ z => nomatch z
      obtain ⟨d, q1, q2, q3⟩ := h0.io j τ ((ne c).trans e)
      dsimp only
      rw [if_neg (fun z => c z.symm)]
      exact ⟨d, q1, q2, q3.lockT ha hu (afp c)⟩
    lks := fun j τ e => by
      by_cases c : i = j
      · subst c
        rw [List.getElem?_set_self hl] at e
        cases e
        dsimp only
        rw [if_pos rfl, if_pos rfl]
        exact ⟨kvs, a, od, u, vs, rfl, rfl, h1, h2, upd_same, hd, hr.lock ha hu⟩
      · obtain ⟨kvs', a', o', u', vs', q1, q2, q3, q4, q5, q6, q7⟩ := h0.lks j τ ((ne c).trans e)
        dsimp only
        rw [if_neg (fun z => c z.symm), if_neg (fun z => c z.symm)]
        exact ⟨kvs', a', o', u', vs', q1, q2, q3, q4, lock_at ha hu q5 trivial, q6, q7.lock ha hu⟩
    new := fun b hb => h.new b (by
      by_cases c : b = a
      · subst c; rw [show (w.lock b od u).H b = _ from upd_same] at hb; cases hb
      · have : upd w.H a (.frz od u) b = none := hb
        rwa [upd_ne c] at this)
    tab := tab_mut ha (IsD.nopT hu) (fun _ z => nomatch z) h.tab
    lkd := fun b hb => by
      by_cases c : b = a
      · subst c; exact ⟨od, u, upd_same⟩
      · obtain ⟨o', u', q⟩ := h.lkd b (hb.resolve_right c)
        exact ⟨o', u', lock_at ha hu q trivial⟩
    al := fun b hb n => h0.al b hb (by
      by_cases c : b = a
      · subst c; rw [show (w.lock b od u).H b = _ from upd_same] at n; cases n
      · have : upd w.H a (.frz od u) b = none := n
        rwa [upd_ne c] at this)
    heap := trivial }
/-- from ahead of the lock to behind it -/
theorem gr_unlock {a : Addr} {od : Obj} {u : HO} {g : Addr → Prop} (ha : w.H a = some u) (hu : IsD u) (e : Gr g (w.lock a od u) w') : Gr g w (w'.unlock a u w.lk) := ⟨fun b o p q => by
    have c : b ≠ a := fun z => by subst z; rw [ha] at q; cases q; exact hu.noper p
    show upd w'.H a u b = _
    rw [upd_ne c]; exact e.per b o p (lock_at ha hu q p), fun b o n t q => by
    show upd w'.H a u b = _
    by_cases c : b = a
    · subst c; rw [upd_same, ← ha]; exact q
    · rw [upd_ne c]; exact e.keep b o n t (by show upd w.H a _ b = _; rw [upd_ne c]; exact q), e.ob, fun _ => Iff.rfl, fun b n z => up_dm (e.dm b n (up_dm z)), fun t => tab_mut' (e.per a (.frz od u) trivial upd_same) (fun _ z => nomatch z) (fun _ z => nomatch z) hu.notb (e.tab (tab_mut ha hu.nopT (fun _ z => nomatch z) t))⟩
/-- out of the lock -/
theorem OwnS.unlock (h : OwnS K f w Θ σ s φ) {i : Nat} {κ : Sl} {t : Bool} {kvs : List (K2 × D)} {a : Addr} {od : Obj} {u : HO} {vs : List (K2 × V)} (hi : Θ[i]? = some κ) (hk : lkOk t κ = true) (ha : w.H a = some u) (hd : DictIs t u vs) (hπ : ∀ τ, κ = .io τ → V.ref a = f.π i) (hδ : ∀ τ, κ = .bor τ → V.ref a = f.π i ∧ D.fd t kvs = f.δ i)
    (hw : (∃ τ, κ.ow = some τ ∧ φ.fp i = [a]) ∨ ((∃ u, κ = .bor u) ∧ f.b a)) (e : Gr f (w.lock a od u) w') (h' : OwnS K (f.pin i (.ref a) (.fd t kvs)) w' Θ' σ' s' φ') (hi' : Θ'[i]? = some (.lk t)) (hb : sameB (Θ'.set i .no) Θ = true) :
    w'.H a = some (.frz od u) ∧ ∃ φ'', OwnS K f (w'.unlock a u w.lk) (Θ'.set i κ) σ' s' φ'' ∧ ∀ b, φ''.all b → φ'.all b ∨ b = a := by
  have hu := hd.isD
  have ha' : w'.H a = some (.frz od u) := e.per a _ trivial upd_same
  have la : w'.lk a := (e.lk a).mpr (.inr rfl)
  have lb : ∀ b, w.lk b → w'.lk b := fun b z => (e.lk b).mpr (.inl z)
  have G := gr_unlock (g := f) ha hu e
  have hn := h'.norm
  have hl : i < Θ'.length := (List.getElem?_eq_some_iff.mp hi').1
  obtain ⟨kvs', a', o', u', vs', q1, q2, q3, q4, q5, q6, q7⟩ := h'.lks i t hi'
  dsimp only at q1 q2 q3 q4
  rw [if_pos rfl] at q1 q2 q3 q4
  cases q1
  cases q2
  rw [ha'] at q5
  cases q5
  have r7 := q7.unlock (lk := w.lk) ha' hu la lb
  have trk : ∀ {j : Nat}, a ∉ (φ'.norm Θ').fp j := fun {j} z => by
    obtain ⟨z, κ', τ, ej, ek⟩ := Fp.norm_mem z
    obtain ⟨_, _, _, _, r, _⟩ := h'.ow ej ek
    exact r.trk a z od u ha'
  have geti : ∀ {j : Nat} {x : Sl}, j ≠ i → (Θ'.set i κ)[j]? = some x → Θ'[j]? = some x := fun c e => by rwa [List.getElem?_set_ne (fun z => c z.symm)] at e
  have atB : ∀ {j : Nat} {x : Sl}, j ≠ i → Θ'[j]? = some x → (∃ τ, x = .bor τ) ∨ (∃ τ, x = .lk τ) → Θ[j]? = some x := fun {j x} c e k => sameB_get hb (by rw [List.getElem?_set_ne (fun z => c z.symm)]; exact e) k
  have bors : ∀ (j : Nat) τ, j ≠ i → Θ'[j]? = some (.bor τ) → ∃ A, s'.s[j]? = some (some (f.δ j)) ∧ σ'[j]? = some (some (f.π j)) ∧ Rp false K (w'.unlock a u w.lk) τ (f.δ j) (f.π j) A ∧ ∀ x ∈ A, f.b x := fun j τ c ej => by
    obtain ⟨_, p1, p2, _⟩ := h'.bor j τ ej
    dsimp only at p1 p2
    rw [if_neg c] at p1 p2
    obtain ⟨A, _, _, p3, p4⟩ := h.bor j τ (atB c ej (.inl ⟨τ, rfl⟩))
    exact ⟨A, p1, p2, p3.gr G (fun x hx z => h.bf x (p4 x hx) z), p4⟩
  have lkss : ∀ (j : Nat) τ, j ≠ i → Θ'[j]? = some (.lk τ) → ∃ kvs a1 o u1 vs, f.δ j = .fd τ kvs ∧ f.π j = .ref a1 ∧ s'.s[j]? = some (some (f.δ j)) ∧ σ'[j]? = some (some (f.π j)) ∧ (w'.unlock a u w.lk).H a1 = some (.frz o u1) ∧ DictIs τ u1 vs ∧ RKs K (w'.unlock a u w.lk) kvs vs := fun j τ c ej => by
    obtain ⟨_, _, _, _, _, _, _, p1, p2, _⟩ := h'.lks j τ ej
    dsimp only at p1 p2
    rw [if_neg c] at p1 p2
    obtain ⟨kvs1, a1, o1, u1, vs1, z1, z2, _, _, z5, z6, z7⟩ := h.lks j τ (atB c ej (.inr ⟨τ, rfl⟩))
    exact ⟨kvs1, a1, o1, u1, vs1, z1, z2, p1, p2, G.per a1 (.frz o1 u1) trivial z5, z6, z7.gr G⟩
  have newU : ∀ b, (w'.unlock a u w.lk).H b = none → f b := fun b z => by
    by_cases c : b = a
    · subst c; rw [show (w'.unlock b u w.lk).H b = _ from upd_same] at z; cases z
    · have z2 : upd w'.H a u b = none := z
      rw [upd_ne c] at z2
      exact h'.new b z2
  have lkdU : ∀ b, w.lk b → ∃ o u', (w'.unlock a u w.lk).H b = some (.frz o u') := fun b z => by
    obtain ⟨o, u', q⟩ := h.lkd b z
    exact ⟨o, u', G.per b (.frz o u') trivial q⟩
  have alU : ∀ b, w'.H b ≠ none → (w'.unlock a u w.lk).H b ≠ none := fun b q z => by
    by_cases c : b = a
    · subst c; rw [show (w'.unlock b u w.lk).H b = _ from upd_same] at z; cases z
    · have z2 : upd w'.H a u b = none := z
      rw [upd_ne c] at z2
      exact q z2
  have base : ∀ (κ0 : Sl), (∀ τ, κ0 ≠ .own τ) → (∀ τ, κ0 ≠ .io τ) → (∀ τ, κ0 ≠ .lk τ) → (∀ τ, κ0 = .bor τ → κ = κ0 ∧ f.b a) → OwnS K f (w'.unlock a u w.lk) (Θ'.set i κ0) σ' s' (φ'.norm Θ') := fun κ0 n1 n2 n3 n4 => by
    have gj : ∀ {j : Nat} {x : Sl}, (Θ'.set i κ0)[j]? = some x → x ≠ κ0 → j ≠ i ∧ Θ'[j]? = some x := fun {j x} e n => by
      have c : j ≠ i := fun z => by subst z; rw [List.getElem?_set_self hl] at e; cases e; exact n rfl
      exact ⟨c, by rwa [List.getElem?_set_ne (fun z => c z.symm)] at e⟩
    exact { hn with
      len1 := by simpa using h'.len1
      len2 := by simpa using h'.len2
      own := fun j τ ej => by
        obtain ⟨c, ej⟩ := gj ej fun z => n1 τ z.symm
        obtain ⟨d, v, p1, p2, p3⟩ := hn.own j τ ej
        exact ⟨d, v, p1, p2, p3.unlockT ha' hu la lb⟩
      bor := fun j τ ej => by
        by_cases c : j = i
        · subst c
          rw [List.getElem?_set_self hl] at ej
          cases ej
          obtain ⟨ek, fb⟩ := n4 τ rfl
          subst ek
          cases Tag.eq_of (show τ.beq (mTag t) = true from hk)
          obtain ⟨e1, e2⟩ := hδ _ rfl
          refine ⟨[a], by rw [← e2]; exact q3, by rw [← e1]; exact q4, ?_, fun x hx => by rw [List.mem_singleton.mp hx]; exact fb⟩
          rw [← e1, ← e2]
          cases hd with
          | k us => exact .inr ⟨_, a, us, [a], [], rfl, rfl, .inl ⟨upd_same, rfl⟩, by cases q6; exact r7.allK, rfl⟩
          | t us => exact .inr ⟨_, a, us, [a], [], rfl, rfl, .inl ⟨upd_same, rfl⟩, by cases q6; exact r7.allK, rfl⟩
        · rw [List.getElem?_set_ne (fun z => c z.symm)] at ej
          exact bors j τ c ej
      io := fun j τ ej => by
        obtain ⟨c, ej⟩ := gj ej fun z => n2 τ z.symm
        obtain ⟨d, p1, p2, p3⟩ := hn.io j τ ej
        dsimp only at p1 p2 p3
        rw [if_neg c] at p2 p3
        exact ⟨d, p1, p2, p3.unlockT ha' hu la lb⟩
      lks := fun j τ ej => by
        obtain ⟨c, ej⟩ := gj ej fun z => n3 τ z.symm
        exact lkss j τ c ej
      bf := h.bf
      new := newU
      lkd := lkdU
      tab := G.tab h.tab
      al := fun b hb => alU b (hn.al b hb)
      heap := trivial }
  refine ⟨ha', ?_⟩
  have alln : ∀ b, (φ'.norm Θ').all b → φ'.all b := fun b z => by
    rcases z with z | ⟨j, z⟩
    · exact z.elim
    · exact .inr ⟨j, (Fp.norm_mem z).1⟩
  rcases hw with ⟨τ, hτ, hφ⟩ | ⟨⟨τ, rfl⟩, fb⟩
  · have o1 := base .no (fun _ z => nomatch z) (fun _ z => nomatch z) (fun _ z => nomatch z) (fun _ z => nomatch z)
    have eτ : τ = mTag t := by
      cases κ with
      | own u => cases hτ; exact Tag.eq_of hk
      | io u => cases hτ; exact Tag.eq_of hk
      | _ => cases hτ
    subst eτ
    have r : Rp true K (w'.unlock a u w.lk) (mTag t) (.fd t kvs) (.ref a) [a] := by
      cases hd with
      | k us => exact .inr ⟨_, a, us, [a], [], rfl, rfl, .inl ⟨upd_same, rfl⟩, by cases q6; exact r7.allK, rfl⟩
      | t us => exact .inr ⟨_, a, us, [a], [], rfl, rfl, .inl ⟨upd_same, rfl⟩, by cases q6; exact r7.allK, rfl⟩
    have o2 := OwnS.put (κ := κ) o1 hτ q4 hπ r (by simp) fun x hx => by
      rw [List.mem_singleton.mp hx]
      refine ⟨h.inF i a (by rw [hφ]; simp), fun z => ?_⟩
      rcases z with z | ⟨j, z⟩
      · exact z
      · exact trk z
    rw [List.set_set] at o2
    have es : s'.set i (.fd t kvs) = s' := by
      have : s'.s.set i (some (.fd t kvs)) = s'.s := by
        refine List.ext_getElem? fun j => ?_
        by_cases c : i = j
        · subst c; rw [q3, List.getElem?_set_self (List.getElem?_eq_some_iff.mp q3).1]
        · rw [List.getElem?_set_ne c]
      show (⟨s'.s.set i _, s'.h⟩ : St Unit) = s'
      rw [this]
    rw [es] at o2
    exact ⟨_, o2, fun b z => by
      rcases Fp.set_all z with z | z
      · exact .inr (List.mem_singleton.mp z)
      · exact .inl (alln b z)⟩
  · exact ⟨_, base (.bor τ) (fun _ z => nomatch z) (fun _ z => nomatch z) (fun _ z => nomatch z) (fun τ' z => ⟨rfl, fb⟩), fun b z => .inl (alln b z)⟩
end
end FL

/-! FS: a dict walked by name. -/
namespace FL
open PySem PySem.Spec PyProof.Rows L2
variable [TabT]
section
variable {K : PySem.W.Frag} {f : Fm} {w w' : Wd} {Θ Θ' : Th} {σ σ' : L2.St} {s s' : St Unit} {φ φ' : Fp} {mg : Str → Option Value} {W : WX}
/-- back from OwnS.pin -/
theorem OwnS.unpin (h : OwnS K f w Θ σ s φ) {i : Nat} {u : Tag} {t : Bool} {v : V} {d : D} (hi : Θ[i]? = some (.bor u)) (e : Gr f w w') (hv : v = f.π i) (hd : d = f.δ i) (h' : OwnS K (f.pin i v d) w' Θ' σ' s' φ') (hi' : Θ'[i]? = some (.lk t)) (hb : sameB (Θ'.set i .no) Θ = true) :
    OwnS K f w' (Θ'.set i (.bor u)) σ' s' (φ'.set i []) := by
  subst hv hd
  have h0 := h'.drop i
  have eπ : (fun j => if j = i then f.π i else f.π j) = f.π := by funext j; by_cases c : j = i <;> simp [c]
  have eδ : (fun j => if j = i then f.δ i else f.δ j) = f.δ := by funext j; by_cases c : j = i <;> simp [c]
  have ef : f.pin i (f.π i) (f.δ i) = f := by show (⟨f.f, f.b, _, _⟩ : Fm) = f; rw [eπ, eδ]
  rw [ef] at h0 h'
  have hl : i < Θ'.length := (List.getElem?_eq_some_iff.mp hi').1
  have ne : ∀ {j : Nat}, i ≠ j → (Θ'.set i .no)[j]? = (Θ'.set i (.bor u))[j]? := fun c => by rw [List.getElem?_set_ne c, List.getElem?_set_ne c]
  have nx : ∀ {j : Nat} {κ : Sl}, (Θ'.set i (.bor u))[j]? = some κ → (∀ b, κ ≠ .bor b) → i ≠ j := fun {j κ} e n c => by
    subst c; rw [List.getElem?_set_self hl] at e; cases e; exact n u rfl
  exact { h0 with
    len1 := by simpa using h'.len1
    len2 := by simpa using h'.len2
    own := fun j τ e => h0.own j τ ((ne (nx e fun _ z => nomatch z)).trans e)
    io := fun j τ e => h0.io j τ ((ne (nx e fun _ z => nomatch z)).trans e)
    lks := fun j τ e => h0.lks j τ ((ne (nx e fun _ z => nomatch z)).trans e)
    bor := fun j τ ej => by
      by_cases c : i = j
      · subst c
        rw [List.getElem?_set_self hl] at ej
        cases ej
        obtain ⟨_, _, _, _, _, _, _, p1, p2, _⟩ := h'.lks i t hi'
        obtain ⟨A, _, _, p3, p4⟩ := h.bor i _ hi
        exact ⟨A, p1, p2, p3.gr e (fun x hx z => h.bf x (p4 x hx) z), p4⟩
      · exact h0.bor j τ ((ne c).trans ej) }
/-! ### the rules -/
/-- what holds at a lock -/
def atD {α : Type} (i : Nat) (t : Bool) (s : St Unit) (o : Eff Unit α) : Eff Unit α := match s.s[i]? with
  | some (some (.fd t' _)) => if t' = t then (match o with
    | .exc _ _ => .stuck
    | o => o) else .stuck
  | _ => .stuck
theorem atD_ok {α : Type} {i : Nat} {t : Bool} {o : Eff Unit α} {a : α} {s1 : St Unit} {kvs : List (K2 × D)} (h : s.s[i]? = some (some (.fd t kvs))) (ho : o = .ok a s1) : atD i t s o = .ok a s1 := by
  unfold atD; rw [h, ho]; simp
theorem atD_exc {α : Type} {i : Nat} {t : Bool} {o : Eff Unit α} {c : Str} {s1 : St Unit} {kvs : List (K2 × D)} (h : s.s[i]? = some (some (.fd t kvs))) (ho : o = .exc c s1) : atD i t s o = .stuck := by
  unfold atD; rw [h, ho]; simp
theorem atD_stuck {α : Type} {i : Nat} {t : Bool} {o : Eff Unit α} {kvs : List (K2 × D)} (h : s.s[i]? = some (some (.fd t kvs))) (ho : o = .stuck) : atD i t s o = .stuck := by
  unfold atD; rw [h, ho]; simp
theorem atD_no {α : Type} {i : Nat} {t : Bool} {o : Eff Unit α} {d : D} (h : s.s[i]? = some (some d)) (hd : ∀ kvs, d ≠ .fd t kvs) : atD i t s o = .stuck := by
  unfold atD; rw [h]
  cases d with
  | fd t' kvs =>
    by_cases c : t' = t
    · subst c; exact absurd rfl (hd kvs)
    · simp [c]
  | _ => rfl
def fLk (i : Nat) (t : Bool) (tr : SR Unit) : SR Unit := fun s => atD i t s (tr s)
def fLkE (i : Nat) (t : Bool) (tr : ER Unit) : ER Unit := fun s => atD i t s (tr s)
/-- a lock's inner ends -/
abbrev SC.lk (C : SC) (i : Nat) (t : Bool) : SC := ⟨C.x, C.r.set i (.lk t), C.l.set i (.lk t), C.k⟩
/-- an outer end may keep what the lock leaves -/
def lkEnd (Θ : Th) (i : Nat) (κ : Sl) (R : Th) : Bool := decide (i < R.length) && (sameB (R.set i .no) Θ && Th.le (R.set i κ) R)
theorem RE.unlock {d : D} {v : V} {τ : Tag} {a : Addr} {od : Obj} {u : HO} {φ2 : Fp} (h : RE K f w' φ' (.own τ) d v) (ha : w'.H a = some (.frz od u)) (hu : IsD u) (hl : w'.lk a) (hk : ∀ b, w.lk b → w'.lk b) (hφ : ∀ b, φ2.all b → φ'.all b ∨ b = a) : RE K f (w'.unlock a u w.lk) φ2 (.own τ) d v := by
  obtain ⟨A, h1, h2, h3⟩ := h
  refine ⟨A, h1.unlockT ha hu hl hk, h2, fun x hx => ⟨(h3 x hx).1, fun z => ?_⟩⟩
  rcases hφ x z with z | z
  · exact (h3 x hx).2 z
  · exact h1.trk x hx od u (by rw [z]; exact ha)
theorem RE.fp {d : D} {v : V} {τ : Tag} {φ2 : Fp} (h : RE K f w' φ' (.own τ) d v) (hφ : ∀ b, φ2.all b → φ'.all b) : RE K f w' φ2 (.own τ) d v := by
  obtain ⟨A, h1, h2, h3⟩ := h
  exact ⟨A, h1, h2, fun x hx => ⟨(h3 x hx).1, fun z => (h3 x hx).2 (hφ x z)⟩⟩
end
section
variable {X : Cx} {st : Stmt} {e : Expr}
theorem PS.or {T1 T2 : TS} (h1 : PS X st T1) (h2 : PS X st T2) : PS X st (fun D σ H => T1 D σ H ∨ T2 D σ H) := ⟨fun pins s σ H D I hw => hw.elim (h1.run pins s σ H D I) (h2.run pins s σ H D I)⟩
theorem PE.or {T1 T2 : TE} (h1 : PE X e T1) (h2 : PE X e T2) : PE X e (fun σ H Q => T1 σ H Q ∨ T2 σ H Q) := ⟨fun pins s σ H D I hw => hw.elim (h1.run pins s σ H D I) (h2.run pins s σ H D I)⟩
theorem PS.ex {α : Type} {T : α → TS} (h : ∀ a, PS X st (T a)) : PS X st (fun D σ H => ∃ a, T a D σ H) := ⟨fun pins s σ H D I ⟨a, hw⟩ => (h a).run pins s σ H D I hw⟩
theorem PE.ex {α : Type} {T : α → TE} (h : ∀ a, PE X e (T a)) : PE X e (fun σ H Q => ∃ a, T a σ H Q) := ⟨fun pins s σ H D I ⟨a, hw⟩ => (h a).run pins s σ H D I hw⟩
variable {K : PySem.W.Frag} {f : Fm} {w w' : Wd} {Θ Θ' Θ1 Θx : Th} {W : WX} {C : SC} {κ : Sl}
theorem lkEnd_of {i : Nat} {R : Th} (h : lkEnd Θ i κ R = true) : i < R.length ∧ sameB (R.set i .no) Θ = true ∧ Th.le (R.set i κ) R = true := by
  have h1 := and_l h
  have h2 := and_r h
  exact ⟨of_decide_eq_true h1, and_l h2, and_r h2⟩
theorem get_lk {Θ : Th} {i : Nat} {t : Bool} (h : i < Θ.length) : (Θ.set i (.lk t))[i]? = some (.lk t) := List.getElem?_set_self h
theorem qs_lock {tr : SR Unit} {t : Bool} (i : Nat) (h : ∀ v d, QS X (f.pin i v d) W (C.lk i t) (Θ.set i (.lk t)) st tr Θ1) (hi : Θ[i]? = some κ := by rfl) (hk : lkOk t κ = true := by rfl) (h1 : Θ1[i]? = some (.lk t) := by rfl) (h2 : sameB (Θ1.set i .no) Θ = true := by rfl)
    (hr : lkEnd Θ i κ C.r = true := by rfl) (hl : lkEnd Θ i κ C.l = true := by rfl) : QS X f W C Θ st (fLk i t tr) (Θ1.set i κ) := by
  have hP : PS X st (fun D σ H => ∃ p : V × FL.D, lS X.K X.mg (f.pin i p.1 p.2) W (Θ.set i (.lk t)) Θ1 (C.lk i t) tr D σ H) := PS.ex fun p => (h p.1 p.2).r
  refine ⟨PS.imp (PS.or hP (ps_lock hP)) fun D σ H ⟨w, s, φ, e, o, q⟩ => ?_⟩
  subst e
  obtain ⟨r1, r2, r3⟩ := lkEnd_of hr
  obtain ⟨l1, l2, l3⟩ := lkEnd_of hl
  unfold fLk at q
  rcases o.lkAt hi hk with ⟨d, v, e1, e2, e3, e4, ⟨kvs, a, od, u, vs, rfl, rfl, ha, hd, hrk, τ, rfl⟩ | ⟨kvs, a, u, vs, rfl, rfl, ha, hd, hrk, hw⟩⟩ | ⟨_, d, e1, e2⟩
  · left
    obtain ⟨hv, hd2⟩ := e4 τ rfl
    refine ⟨(.ref a, .fd t kvs), w, s, _, rfl, o.pin e1 e2 ha hd hrk, ?_⟩
    have nxt : ∀ {R : Th} {σ' : L2.St} {s' : St Unit} {w' : Wd} {φ' : Fp}, i < R.length → sameB (R.set i .no) Θ = true → Gr f w w' → OwnS X.K (f.pin i (.ref a) (.fd t kvs)) w' (R.set i (.lk t)) σ' s' φ' → OwnS X.K f w' (R.set i (.bor τ)) σ' s' (φ'.set i []) := fun {R σ' s' w' φ'} q1 q2 g o' => by
      have := o.unpin hi g hv hd2 o' (get_lk q1) (by rw [List.set_set]; exact q2)
      rwa [List.set_set] at this
    cases ht : tr s with
    | stuck => rw [atD_stuck e1 ht] at q; exact q.elim
    | exc c s1 => rw [atD_exc e1 ht] at q; exact q.elim
    | ok fl s1 =>
      rw [atD_ok e1 ht] at q
      cases fl with
      | nx => exact fun σ' w' φ' g o' => q σ' w' _ g (o.unpin hi g hv hd2 o' h1 h2)
      | rt d => exact fun v σ' w' φ' g o' r => q v σ' w' _ g ((nxt r1 r2 g o').le r3) (r.fp fun b z => Fp.drop_all z)
      | bk => exact fun σ' w' φ' g o' => q σ' w' _ g ((nxt l1 l2 g o').le l3)
      | ct => exact fun σ' w' φ' g o' => q σ' w' _ g ((nxt l1 l2 g o').le l3)
  · right
    refine ⟨a, u, ha, hd.isD.mut, fun od => ⟨(.ref a, .fd t kvs), w.lock a od u, s, _, rfl, o.lock (od := od) hi e1 e2 ha hd hrk hw, ?_⟩⟩
    have lb : ∀ {w' : Wd}, Gr f (w.lock a od u) w' → w'.lk a ∧ ∀ b, w.lk b → w'.lk b := fun e => ⟨(e.lk a).mpr (.inr rfl), fun b z => (e.lk b).mpr (.inl z)⟩
    have nxt : ∀ {R : Th} {σ' : L2.St} {s' : St Unit} {w' : Wd} {φ' : Fp}, R[i]? = some (.lk t) → sameB (R.set i .no) Θ = true → Gr f (w.lock a od u) w' → OwnS X.K (f.pin i (.ref a) (.fd t kvs)) w' R σ' s' φ' → w'.H a = some (.frz od u) ∧ ∃ φ'', OwnS X.K f (w'.unlock a u w.lk) (R.set i κ) σ' s' φ'' ∧ ∀ b, φ''.all b → φ'.all b ∨ b = a := fun q1 q2 g o' =>
      o.unlock hi hk ha hd (fun τ z => e3 τ z) (fun τ z => e4 τ z) hw g o' q1 q2
    have nxt2 : ∀ {R : Th} {σ' : L2.St} {s' : St Unit} {w' : Wd} {φ' : Fp}, i < R.length → sameB (R.set i .no) Θ = true → Th.le (R.set i κ) R = true → Gr f (w.lock a od u) w' → OwnS X.K (f.pin i (.ref a) (.fd t kvs)) w' (R.set i (.lk t)) σ' s' φ' → w'.H a = some (.frz od u) ∧ ∃ φ'', OwnS X.K f (w'.unlock a u w.lk) R σ' s' φ'' ∧ ∀ b, φ''.all b → φ'.all b ∨ b = a := fun {R σ' s' w' φ'} q1 q2 q3 g o' => by
      obtain ⟨k1, φ2, k2, k3⟩ := nxt (get_lk q1) (by rw [List.set_set]; exact q2) g o'
      rw [List.set_set] at k2
      exact ⟨k1, φ2, k2.le q3, k3⟩
    have U : ∀ {w' : Wd}, Gr f (w.lock a od u) w' → Gr f w (w'.unlock a u w.lk) := fun g => gr_unlock ha hd.isD g
    cases ht : tr s with
    | stuck => rw [atD_stuck e1 ht] at q; exact q.elim
    | exc c s1 => rw [atD_exc e1 ht] at q; exact q.elim
    | ok fl s1 =>
      rw [atD_ok e1 ht] at q
      cases fl with
      | nx =>
          intro σ' w' φ' g o'
          obtain ⟨k1, φ2, k2, k3⟩ := nxt h1 h2 g o'
          exact ⟨k1, q σ' _ _ (U g) k2⟩
      | rt d =>
          intro v σ' w' φ' g o' r
          obtain ⟨k1, φ2, k2, k3⟩ := nxt2 r1 r2 r3 g o'
          exact ⟨k1, q v σ' _ _ (U g) k2 (RE.unlock (w := w) r k1 hd.isD (lb g).1 (lb g).2 k3)⟩
      | bk =>
          intro σ' w' φ' g o'
          obtain ⟨k1, φ2, k2, k3⟩ := nxt2 l1 l2 l3 g o'
          exact ⟨k1, q σ' _ _ (U g) k2⟩
      | ct =>
          intro σ' w' φ' g o'
          obtain ⟨k1, φ2, k2, k3⟩ := nxt2 l1 l2 l3 g o'
          exact ⟨k1, q σ' _ _ (U g) k2⟩
  · rw [atD_no e1 e2] at q; exact q.elim
/-- .. as an expression -/
theorem qe_lock {tr : ER Unit} {t : Bool} {τ' : Tag} (i : Nat) (h : ∀ v d, QE X (f.pin i v d) W (Θ.set i (.lk t)) e tr (.own τ') Θ1 (Θ.set i (.lk t))) (hi : Θ[i]? = some κ := by rfl) (hk : lkOk t κ = true := by rfl) (h1 : Θ1[i]? = some (.lk t) := by rfl) (h2 : sameB (Θ1.set i .no) Θ = true := by rfl) :
    QE X f W Θ e (fLkE i t tr) (.own τ') (Θ1.set i κ) Θx := by
  have hP : PE X e (fun σ H Q => ∃ p : V × FL.D, lE X.K X.mg (f.pin i p.1 p.2) W (Θ.set i (.lk t)) Θ1 (Θ.set i (.lk t)) (fun w φ d v => RE X.K (f.pin i p.1 p.2) w φ (.own τ') d v) tr σ H Q) := PE.ex fun p => (h p.1 p.2).r
  refine ⟨PE.imp (PE.or hP (pe_lock hP)) fun σ H Q ⟨w, s, φ, e, o, q⟩ => ?_⟩
  subst e
  unfold fLkE at q
  rcases o.lkAt hi hk with ⟨d, v, e1, e2, e3, e4, ⟨kvs, a, od, u, vs, rfl, rfl, ha, hd, hrk, τ, rfl⟩ | ⟨kvs, a, u, vs, rfl, rfl, ha, hd, hrk, hw⟩⟩ | ⟨_, d, e1, e2⟩
  · left
    obtain ⟨hv, hd2⟩ := e4 τ rfl
    refine ⟨(.ref a, .fd t kvs), w, s, _, rfl, o.pin e1 e2 ha hd hrk, ?_⟩
    cases ht : tr s with
    | stuck => rw [atD_stuck e1 ht] at q; exact q.elim
    | exc c s1 => rw [atD_exc e1 ht] at q; exact q.elim
    | ok x s1 =>
      rw [atD_ok e1 ht] at q
      exact fun v w' φ' g o' r => q v w' _ g (o.unpin hi g hv hd2 o' h1 h2) (RE.fp r fun b z => Fp.drop_all z)
  · right
    refine ⟨a, u, ha, hd.isD.mut, fun od => ⟨(.ref a, .fd t kvs), w.lock a od u, s, _, rfl, o.lock (od := od) hi e1 e2 ha hd hrk hw, ?_⟩⟩
    cases ht : tr s with
    | stuck => rw [atD_stuck e1 ht] at q; exact q.elim
    | exc c s1 => rw [atD_exc e1 ht] at q; exact q.elim
    | ok x s1 =>
      rw [atD_ok e1 ht] at q
      intro v w' φ' g o' r
      · obtain ⟨k1, φ2, k2, k3⟩ := o.unlock hi hk ha hd (fun τ z => e3 τ z) (fun τ z => e4 τ z) hw g o' h1 h2
        exact ⟨k1, q v _ _ (gr_unlock ha hd.isD g) k2 (RE.unlock (w := w) r k1 hd.isD ((g.lk a).mpr (.inr rfl)) (fun b z => (g.lk b).mpr (.inl z)) k3)⟩
  · rw [atD_no e1 e2] at q; exact q.elim
end
end FL

/-! FT: dicts walked by name; dicts made. -/
namespace FL
open PySem PySem.Spec PyProof.Rows L2
variable [TabT]
section
variable {η : Type} [HR η] {X : Cx} {f : Fm} {W : WX} {Θ Θ1 Θ2 Θx : Th} {tg e : Expr} {pos p apos cpos : Pos}
/-- the items of a locked slot's dict -/
def eLk (g : List (K2 × D) → List D) (i : Nat) : St η → Eff η (List D) := fun s => match s.s[i]? with
  | some (some (.fd _ kvs)) => .ok (g kvs) s
  | _ => .stuck
theorem eLk_of {g : List (K2 × D) → List D} {i : Nat} {s : St η} {t : Bool} {kvs : List (K2 × D)} (h : s.s[i]? = some (some (.fd t kvs))) : eLk g i s = .ok (g kvs) s := by unfold eLk; rw [h]
theorem qi_keysL {x : Str} {t : Bool} (i : Nat) (hi : Θ[i]? = some (.lk t) := by rfl) (hN : X.N[i]? = some x := by rfl) (hv : Vis X.env.scope x := by first | exact Or.inl rfl | exact Or.inr (Or.inl rfl) | exact Or.inr (Or.inr rfl)) (hd : (x == ("__debug__" : Str)) = false := by decide)
    (hcd : (x == ("__classdict__" : Str)) = false := by decide) (hbase : attributeBase (.Name x pos) "keys" X.env (eval (.Name x pos) X.env) = eval (.Name x pos) X.env := by rfl) (hline : (apos.endLine == cpos.line) = true := by rfl) : QI X f W Θ tg (.Call (.Attribute (.Name x pos) "keys" apos) [] [] cpos) (eLk (η := η) keysD i) Θ Θx := ⟨PI.imp (pi_keysM2 (pe_var hN hv hd hcd) hbase hline) fun σ H R ⟨w, s, φ, e1, o, h⟩ => by
  subst e1
  obtain ⟨kvs, a, od, u, vs, e1, e2, h1, h2, h3, h4, h5⟩ := o.lks i t hi
  rw [e1] at h1
  rw [e2] at h2
  rw [eLk_of h1] at h
  exact ⟨.ref a, h2, a, od, u, t, vs, rfl, h3, h4, h _ w φ (.refl w) o (itok_keys h3 h5)⟩⟩
theorem qi_valuesL {x : Str} {t : Bool} (i : Nat) (hi : Θ[i]? = some (.lk t) := by rfl) (hN : X.N[i]? = some x := by rfl) (hv : Vis X.env.scope x := by first | exact Or.inl rfl | exact Or.inr (Or.inl rfl) | exact Or.inr (Or.inr rfl)) (hd : (x == ("__debug__" : Str)) = false := by decide)
    (hcd : (x == ("__classdict__" : Str)) = false := by decide) (hbase : attributeBase (.Name x pos) "values" X.env (eval (.Name x pos) X.env) = eval (.Name x pos) X.env := by rfl) (hline : (apos.endLine == cpos.line) = true := by rfl) : QI X f W Θ tg (.Call (.Attribute (.Name x pos) "values" apos) [] [] cpos) (eLk (η := η) valsD i) Θ Θx := ⟨PI.imp (pi_valuesM2 (pe_var hN hv hd hcd) hbase hline) fun σ H R ⟨w, s, φ, e1, o, h⟩ => by
  subst e1
  obtain ⟨kvs, a, od, u, vs, e1, e2, h1, h2, h3, h4, h5⟩ := o.lks i t hi
  rw [e1] at h1
  rw [e2] at h2
  rw [eLk_of h1] at h
  exact ⟨.ref a, h2, a, od, u, t, vs, rfl, h3, h4, h _ w φ (.refl w) o (itok_vals h3 h5)⟩⟩
end
end FL

/-! FU: d.pop(k), k a row; {}; what a slot holds moves. -/
namespace DT
open PySem PySem.W PySem.Calls PyProof.Rows PyProof.V PySem.Spec
section
variable {K : Type} [DecidableEq K] {prog : Program} {w : World} {knd : HeapKind prog w K}
theorem meetsPop1 {d b : Addr} {k : K} (hd : (d == sysModules) = false) :
    MeetsIn prog w (Builtin.«dict.pop» ⟨[.ref d, .ref b], []⟩) (fun A R s => ∃ xs p, knd.room A.in1 ∧ knd.is s.heap k b ∧ s.heap.DictOfH knd d xs ∧ xs.length ≤ sizeLine ∧
      atKey xs k = some p ∧ ∀ h' tk, h'.DictOfH knd d (dropH xs k) → Heap.SameBut d s.heap h' → R (.ok (.ret p.2)) { s with heap := h', toks := tk }) :=
  .of_wp fun A R s ⟨xs, p, hu, hkey, hm, hsz, hp0, hsome⟩ => by
    obtain ⟨o, es, ep, ho, hc, hdat, he, his, hn⟩ := id hm
    have hes : es.size = xs.length := size_of_entries he
    have hpart : (keyPart (Value.ref b)).isSome = false := rfl
    unfold Builtin.«dict.pop»
    refine wpAny_bind ?_
    unfold Builtin.Dict.keyAndDefault
    refine wpAny_bind (wpAny_notOrdered_dict hm.typeIs ?_)
    show wpAny _ _ (pure (d, Value.ref b, none)) _ _ s
    refine wpAny_pure ?_
    simp only [hpart, Bool.false_eq_true, if_false]
    refine wpAny_bind (wpAny_dictEntries ho hdat (wpAny_bind (wpAny_pure ?_)))
    cases hem : es.isEmpty with
    | true =>
      have h0 : xs = [] := by
        have z : es.size = 0 := by simpa using hem
        exact List.length_eq_zero_iff.mp (by omega)
      rw [h0] at hp0
      cases hp0
    | false =>
      simp only [Bool.false_eq_true, if_false]
      refine wpAny_bind (takeH hu hkey hm hsz (fun hno => ?_) fun p' e hp hev h' hm' hs' => ?_)
      · rw [hno] at hp0; cases hp0
      · rw [hp] at hp0
        cases hp0
        simp only [Option.isNone_some, Bool.false_eq_true, if_false]
        exact wpAny_bind (wpAny_letGo (wpAny_pure ⟨e.val, rfl, by rw [hev]; exact hsome h' _ hm' hs'⟩))
end
end DT
namespace FL
open PySem PySem.Spec PyProof.Rows L2
variable [TabT]
section
open L2.DX
variable {X : Cx}
def rPopT1 : V → List V → Hp → VK → Prop := fun x xs H Q => ∃ (a : Addr) (kvs : List (List L2.Key × V)) (k : List L2.Key) (b : Addr) (v : V), x = .ref a ∧ xs = [.ref b] ∧ H a = some (.dT kvs) ∧ H b = some (.tup (k.map kV)) ∧
  valV kvs k = some v ∧ Q v (upd H a (.dT (dropK kvs k)))
theorem mt_popT1 (hu : X.A.units + 1 < cLine) : MtR X "dict.pop" rPopT1 := by
  intro pins s σ H x xs v us Q I rx rxs h
  obtain ⟨a, kvs, k, b, v0, rfl, rfl, ha, hb, ev, q1⟩ := h
  cases rx
  rw [Vals.ref1 rxs]
  obtain ⟨z, hd, xs', rel, dd⟩ := dt_of I.hok ha
  have hz : xs'.length ≤ sizeLine := by rw [← Paired.length rel]; exact z
  have r := rel.val k
  obtain ⟨p, hp, rv⟩ : ∃ p, atKey xs' k = some p ∧ RelV v0 p.2 := by
    rw [ev] at r
    cases e2 : atKey xs' k with
    | none => rw [e2] at r; exact (show False from r).elim
    | some p => rw [e2] at r; exact ⟨p, rfl, r⟩
  refine call_meetsIn PySem.F.slot_dict_pop dd.typeIs PySem.F.entry_dict_pop (PySem.F.args_dict_pop_2 _ _) (DT.meetsPop1 (knd := tupleKind (mixKind X.prog X.w)) (k := k) hd)
    ⟨xs', p, tupleKind_room_in1 hu, key_of I.hok hb, dd, hz, hp, fun h' tk dd' hs => ?_⟩
  obtain ⟨o, es, ep, hq, h2, h3, h4, _, h5⟩ := dd'
  have I2 : Inv X pins σ (upd H a (.dT (dropK kvs k))) { s with heap := h', toks := tk } :=
    d_write I (by rw [ha]; exact True.intro) hs ⟨o, hq⟩ ⟨Nat.le_trans (dropK_le kvs k) z, hd, _, (KT_drop k rel).keeps (fun c ys ec => (by rw [upd_ne (ne_of ec ha (fun z => nomatch z))]; exact ec)), o, es, ep, hq, h2, h3, h4, h5⟩
  show EP X pins σ Q p.2 _
  exact ⟨v0, _, I2, rv, q1⟩
end
section
/-! ### as rules of this layer -/
variable {X : Cx}
def popKM (t : Bool) : D → List D → Option (D × D)
  | .fd u kvs, [y] => if u = t then (key2 t y).bind fun k => (valD kvs k).map fun d => (d, .fd t (dropD kvs k)) else none
  | _, _ => none
theorem RKs.val {K : PySem.W.Frag} {w : Wd} : ∀ {kvs : List (K2 × D)} {vs : List (K2 × V)} {d : D} (k : K2), RKs K w kvs vs → (kvs.find? fun kv => decide (kv.1 = k)).map (·.2) = some d → ∃ v, valV vs k = some v ∧ RD K w d v
  | [], _, d, k, _, e => by simp at e
  | (k0, d0) :: kvs, _, d, k, ⟨v, r, e1, e2, e3⟩, e => by
    subst e1
    by_cases c : k0 = k
    · rw [List.find?_cons_of_pos (by simpa using c)] at e
      cases e
      exact ⟨v, valV_pos c, e2⟩
    · rw [List.find?_cons_of_neg (by simpa using c)] at e
      obtain ⟨v', h1, h2⟩ := RKs.val k e3 e
      exact ⟨v', by rw [valV_neg (p := (k0, v)) c]; exact h1, h2⟩
theorem l_tyM {K : PySem.W.Frag} {t : Bool} : ∀ (d : D) (v : V) (w : Wd) (A : List Addr), Rp true K w (mTag t) d v A → tyV K "dict" v w.H := fun d v w A h => by
  obtain ⟨kvs, a, u, vs, rfl, rfl, h1, h2, _⟩ := h.dct
  cases h2 with
  | k vs => exact .inr (.inr (.inl ⟨rfl, .inl ⟨vs, h1⟩⟩))
  | t vs => exact .inr (.inr (.inl ⟨rfl, .inr ⟨vs, h1⟩⟩))
theorem l_popKM : LPM X.K "dict" rPopT1 (.mT .p) (popKM true) := ⟨l_tyM (t := true), by
  intro x xs w Q dx ds A dr d' r rv h k
  obtain ⟨kvs, a, u, vs, rfl, rfl, h1, hd, h2, rfl⟩ := Rp.dct (t := true) r
  match ds, h with
  | [y], h =>
    have h : (if true = true then (key2 true y).bind fun k => (valD kvs k).map fun d => (d, D.fd true (dropD kvs k)) else none) = some (dr, d') := h
    rw [if_pos rfl] at h
    obtain ⟨kk, hk, h⟩ := Option.bind_eq_some_iff.mp h
    obtain ⟨d, hf, e⟩ := Option.map_eq_some_iff.mp h
    cases e
    obtain ⟨v0, _, rfl, r1, rfl⟩ := rv
    obtain ⟨v, hv, rd⟩ := h2.val kk hf
    have ki := key2_ok r1.fv hk
    cases hd with
    | t us =>
      cases ki with
      | t ks b hb =>
        obtain ⟨g, q⟩ := Rp.dct_up (t := true) (u := .dT (dropK us ks)) h1 id (.t _) (by rw [dropK_map Sum.inr (fun _ _ z => Sum.inr.inj z)]; exact h2.drop (.inr ks))
        exact ⟨a, us, ks, b, v, rfl, rfl, h1, hb, by rw [← valV_map Sum.inr (fun _ _ z => Sum.inr.inj z)]; exact hv, k v _ g q (rd.gr g)⟩⟩
end
section
variable {η : Type} [HR η] {X : Cx} {f : Fm} {W : WX} {Θ Θx : Th} {pos : Pos} {t : Tag} {x : Str}
/-- {}, to be written -/
def dTag : Bool → Tag → Tag
  | false, t => .mK t
  | true, t => .mT t
theorem qp_dnewK : QP (η := η) X f W Θ (.Dict [] [] pos) (fC (.fd false [])) (.own (.mK t)) := ⟨PE.imp pe_dnewK fun σ H Q ⟨w, s, φ, e, hs, h⟩ => by
  subst e
  exact fun p np => h (.ref p) (w.up p (.dK [])) (.new np) ⟨[p], .inr ⟨[], p, [], [p], [], rfl, rfl, .inl ⟨upd_same, rfl⟩, ⟨rfl, rfl⟩, rfl⟩, (List.nodup_cons.mpr ⟨fun z => (nomatch z), List.nodup_nil⟩), fun a ha => by rw [List.mem_singleton.mp ha]; exact np⟩⟩
theorem qp_dnewT : QP (η := η) X f W Θ (.Dict [] [] pos) (fC (.fd true [])) (.own (.mT t)) := ⟨PE.imp pe_dnewT fun σ H Q ⟨w, s, φ, e, hs, h⟩ => by
  subst e
  exact fun p np => h (.ref p) (w.up p (.dT [])) (.new np) ⟨[p], .inr ⟨[], p, [], [p], [], rfl, rfl, .inl ⟨upd_same, rfl⟩, ⟨rfl, rfl⟩, rfl⟩, (List.nodup_cons.mpr ⟨fun z => (nomatch z), List.nodup_nil⟩), fun a ha => by rw [List.mem_singleton.mp ha]; exact np⟩⟩
/-- what a slot holds is taken out of it -/
theorem qe_mv (i : Nat) (hi : Θ[i]? = some (.own t) := by rfl) (hN : X.N[i]? = some x := by rfl) (hv : Vis X.env.scope x := by first | exact Or.inl rfl | exact Or.inr (Or.inl rfl) | exact Or.inr (Or.inr rfl)) (hd : (x == ("__debug__" : Str)) = false := by decide)
    (hcd : (x == ("__classdict__" : Str)) = false := by decide) : QE (η := η) X f W Θ (.Name x pos) (liftP (fVar i)) (.own t) (Θ.set i .no) Θx := ⟨PE.imp (pe_var hN hv hd hcd) fun σ H Q ⟨w, s, φ, e, hs, h⟩ => by
  subst e
  obtain ⟨d, v, h1, h2, h3⟩ := hs.own i t hi
  refine ⟨v, h2, ?_⟩
  have e : liftP (fVar i) s = .ok d s := by unfold liftP fVar; rw [h1]; rfl
  rw [e] at h
  exact h v w _ (.refl w) (hs.drop i) ⟨φ.fp i, h3, hs.nd i, fun a ha => ⟨hs.inF i a ha, hs.drop_sep i ha⟩⟩⟩
end
end FL

/-! FV: sorted of what has an order. -/
namespace FL
open PySem PySem.Spec PyProof.Rows L2
open PySem.W (dataLe alike alikeAll EachIs AllAlike Sortable sorted_data)
variable [TabT]
mutual
/-- as kit data -/
def pD : D → PyData
  | .int i => .int i
  | .str x => .str x
  | .tup ds => .tuple (pDs ds)
  | _ => .none
def pDs : List D → List PyData
  | [] => []
  | d :: ds => pD d :: pDs ds
end
mutual
def pOk : D → Bool
  | .int _ => true
  | .str _ => true
  | .tup ds => pOks ds
  | _ => false
def pOks : List D → Bool
  | [] => true
  | d :: ds => pOk d && pOks ds
end
section
variable {X : Cx} {pins : List (Addr × Obj)} {σ : L2.St} {s : Shared} {w : Wd}
mutual
theorem reads_of (I : Inv X pins σ w.H s) : ∀ {d : D} {v : V} {u : Value}, pOk d = true → RD X.K w d v → RelV v u → Reads s.heap u (pD d) []
  | .int i, v, u, _, h, r => by
    obtain rfl : v = .int i := h
    obtain ⟨t, rfl⟩ := r
    exact .int i t
  | .str x, v, u, _, h, r => by
    obtain rfl : v = .str x := h
    obtain ⟨t, rfl⟩ := r
    exact .str x t
  | .tup ds, v, u, p, ⟨a, vs, e1, e2, e3, _⟩, r => by
    subst e1
    obtain rfl : u = Value.ref a := r
    obtain ⟨its, rv, ⟨o, ho, hc, n, hd⟩, _⟩ := I.tuple e2
    have q := readsAll_of I (show pOks ds = true from p) e3 rv
    exact .tuple ho hc hd (by simpa using q)
  | .non, _, _, p, _, _ => nomatch p
  | .bl _, _, _, p, _, _ => nomatch p
  | .ty _, _, _, p, _, _ => nomatch p
  | .ob _, _, _, p, _, _ => nomatch p
  | .fl _, _, _, p, _, _ => nomatch p
  | .fd _ _, _, _, p, _, _ => nomatch p
theorem readsAll_of (I : Inv X pins σ w.H s) : ∀ {ds : List D} {vs : List V} {us : List Value}, pOks ds = true → RDs X.K w ds vs → Vals vs us → ReadsAll s.heap us (pDs ds) []
  | [], _, _, _, h, r => by
    cases h
    cases r
    exact .nil
  | d :: ds, _, _, p, ⟨v, r0, e1, e2, e3⟩, r => by
    subst e1
    cases r with
    | cons r1 r2 =>
      have p : (pOk d && pOks ds) = true := p
      exact ReadsAll.cons (as := []) (bs := []) (reads_of I (and_l p) e2 r1) (readsAll_of I (and_r p) e3 r2)
end
/-- the order that sorted has -/
def dLe : D → D → Bool := dataLe false pD
def isT1 : PyData → Bool
  | .tuple (_ :: _) => true
  | _ => false
def noT : PyData → Bool
  | .tuple _ => false
  | .none => false
  | _ => true
def sortsOk (ds : List D) : Bool := (ds.all pOk && decide (ds.length ≤ sizeLine)) && ((ds.all fun d => ds.all fun e => alike (pD d) (pD e)) && (((ds.all fun d => isT1 (pD d)) || ds.all fun d => noT (pD d)) && ds.all fun d => decide ((pD d).depth ≤ 60)))
def rSortD (K : PySem.W.Frag) : List V → Hp → VK → Prop := fun xs H Q => ∃ (a : Addr) (bs : List (V × D)) (w : Wd), xs = [.ref a] ∧ w.H = H ∧ SqL K H a (bs.map (·.1)) ∧ (∀ b ∈ bs, RD K w b.2 b.1) ∧ sortsOk (bs.map (·.2)) = true ∧
  ∀ p, H p = none → Q (.ref p) (upd H p (.lst ((bs.mergeSort (dataLe false fun b => pD b.2)).map (·.1))))
theorem vals_each : ∀ {bs : List (V × D)} {us : List Value}, Vals (bs.map (·.1)) us → EachIs (fun (u : Value) (b : V × D) => RelV b.1 u) us bs
  | [], _, h => by cases h; exact .nil
  | _ :: _, _, h => by
    cases h with
    | cons r t => exact .cons r (vals_each t)
theorem each_vals : ∀ {bs : List (V × D)} {us : List Value}, EachIs (fun (u : Value) (b : V × D) => RelV b.1 u) us bs → Vals (bs.map (·.1)) us
  | _, _, .nil => .nil
  | _, _, .cons r t => .cons r (each_vals t)
theorem each_mem2 {α β : Type} {R : α → β → Prop} {P : β → Prop} : ∀ {as : List α} {bs : List β}, EachIs R as bs → (∀ b ∈ bs, P b) → EachIs (fun a b => R a b ∧ P b) as bs
  | _, _, .nil, _ => .nil
  | _, _, .cons r t, h => .cons ⟨r, h _ (List.mem_cons_self ..)⟩ (each_mem2 t fun b hb => h b (List.mem_cons_of_mem _ hb))
theorem cr_sortedD (hu : X.A.units + 64 < cLine) : CallR X (.builtin "sorted") (rSortD X.K) := by
  intro pins s σ H vs us Q I r h
  obtain ⟨a, bs, w, rfl, rfl, hs, hr, ok, q⟩ := h
  obtain ⟨its, rv, hl, hz⟩ := I.list hs
  rw [Vals.ref1 r]
  have o1 := and_l ok
  have o2 := and_r ok
  have p1 := and_l o1
  have p2 := of_decide_eq_true (and_r o1)
  have p3 := and_l o2
  have p4 := and_l (and_r o2)
  have p5 := and_r (and_r o2)
  have e := vals_each rv
  have er : EachIs (fun u (b : V × D) => ∃ as, Reads s.heap u (pD b.2) as) its bs := (each_mem2 (P := fun b => RD X.K w b.2 b.1 ∧ pOk b.2 = true) e fun b hb => ⟨hr b hb, by
    have := List.all_eq_true.mp p1 b.2 (List.mem_map.mpr ⟨b, hb, rfl⟩)
    exact this⟩).mono fun u b ⟨r1, r2, r3⟩ => ⟨_, reads_of I r3 r2 r1⟩
  have mem : ∀ d, d ∈ bs.map (fun b => pD b.2) → ∃ x ∈ bs.map (·.2), d = pD x := fun d hd => by
    obtain ⟨b, hb, rfl⟩ := List.mem_map.mp hd
    exact ⟨b.2, List.mem_map.mpr ⟨b, hb, rfl⟩, rfl⟩
  have hal : AllAlike (bs.map fun b => pD b.2) := fun d hd d' hd' => by
    obtain ⟨x, hx, rfl⟩ := mem d hd
    obtain ⟨y, hy, rfl⟩ := mem d' hd'
    exact List.all_eq_true.mp (List.all_eq_true.mp p3 x hx) y hy
  have hk : Sortable (bs.map fun b => pD b.2) := by
    cases c : (bs.map (·.2)).all fun d => isT1 (pD d) with
    | true =>
      refine .inl fun d hd => ?_
      · obtain ⟨x, hx, rfl⟩ := mem d hd
        have z := List.all_eq_true.mp c x hx
        cases ex : pD x with
        | tuple ys =>
          cases ys with
          | nil => rw [ex] at z; cases z
          | cons y r => exact ⟨y, r, rfl⟩
        | _ => rw [ex] at z; cases z
    | false =>
      rw [c] at p4
      refine .inr fun d hd => ?_
      · obtain ⟨x, hx, rfl⟩ := mem d hd
        have z := List.all_eq_true.mp (show ((bs.map (·.2)).all fun d => noT (pD d)) = true from p4) x hx
        refine ⟨fun y => ?_, fun xs y => ?_⟩ <;> (rw [y] at z; cases z)
  have hL : bs.length ≤ sizeLine := by simpa using p2
  refine sorted_data (R := fun (u : Value) (b : V × D) => RelV b.1 u) (enc := fun b => pD b.2) hl.isList e er hal hk hL (fun b hb => ?_) fun out h1 h2 => ?_
  · have := of_decide_eq_true (List.all_eq_true.mp p5 b.2 (List.mem_map.mpr ⟨b, hb, rfl⟩))
    show X.A.units + 2 + (pD b.2).depth < cLine
    omega
  · obtain ⟨ep, he'⟩ := PyProof.Rows.sortedAll_at s.heap its out.toArray
    have k1 := each_vals h2
    have hlen : ((bs.mergeSort (dataLe false fun b => pD b.2)).map (·.1)).length ≤ sizeLine := by
      rw [List.length_map, (List.mergeSort_perm _ _).length_eq]
      exact hL
    exact ⟨.ref _, upd w.H (s.heap.objs.size + 1) (.lst ((bs.mergeSort (dataLe false fun b => pD b.2)).map (·.1))), I.laid (t' := s.toks) (fun _ _ => PyProof.Rows.sortedAll_old) (Nat.le_succ _) ⟨hlen, out, ep, k1, he'⟩, rfl, q _ (I.hok.fresh (Nat.le_succ _))⟩
/-! ### as data -/
def sortO : List D → Option D
  | [.fl ds] => if sortsOk ds = true then some (.fl (ds.mergeSort dLe)) else none
  | _ => none
theorem RDs.zip {K : PySem.W.Frag} {w : Wd} : ∀ {ds : List D} {vs : List V}, RDs K w ds vs → ∃ bs : List (V × D), bs.map (·.1) = vs ∧ bs.map (·.2) = ds ∧ ∀ b ∈ bs, RD K w b.2 b.1
  | [], _, h => by cases h; exact ⟨[], rfl, rfl, fun _ z => nomatch z⟩
  | d :: ds, _, ⟨v, r, e1, e2, e3⟩ => by
    subst e1
    obtain ⟨bs, h1, h2, h3⟩ := RDs.zip e3
    exact ⟨(v, d) :: bs, by simp [h1], by simp [h2], fun b hb => (List.mem_cons.mp hb).elim (fun z => by rw [z]; exact e2) (h3 b)⟩
theorem RDs.of_zip {K : PySem.W.Frag} {w : Wd} : ∀ {bs : List (V × D)}, (∀ b ∈ bs, RD K w b.2 b.1) → RDs K w (bs.map (·.2)) (bs.map (·.1))
  | [], _ => rfl
  | b :: bs, h => ⟨b.1, _, rfl, h b (List.mem_cons_self ..), RDs.of_zip fun c hc => h c (List.mem_cons_of_mem _ hc)⟩
theorem l_sortO : LPA X.K (rSortD X.K) sortO (.own (.l .p)) := by
  intro xs w Q ds d r h k
  match ds, h with
  | [.fl es], h =>
    have h : (if sortsOk es = true then some (D.fl (es.mergeSort dLe)) else none) = some d := h
    by_cases c : sortsOk es = true
    · rw [if_pos c] at h
      cases h
      obtain ⟨v, _, rfl, ⟨a, vs, rfl, hs, rv⟩, rfl⟩ := r
      obtain ⟨bs, rfl, rfl, hb⟩ := rv.zip
      refine ⟨a, bs, w, rfl, rfl, hs.l, hb, c, fun p np => k (.ref p) (w.up p _) (.new np) ?_⟩
      have e : (bs.map (·.2)).mergeSort dLe = (bs.mergeSort (dataLe false fun b => pD b.2)).map (·.2) := (List.map_mergeSort (f := fun b : V × D => b.2) (r := dataLe false fun b : V × D => pD b.2) (s := dLe) (l := bs) fun a _ b _ => rfl).symm
      rw [e]
      exact .newL (.refl w) np (RDs.of_zip fun b hb' => hb b ((List.mergeSort_perm _ _).mem_iff.mp hb'))
    · rw [if_neg c] at h; cases h
end
end FL

/-! FW: sorted(d.keys()). -/
namespace FL
open PySem PySem.Spec PyProof.Rows L2
open PySem.W (dataLe alike alikeAll EachIs AllAlike Sortable list_sort_data KdlSrc KdlKeysView kdl_hint_keys kdu_collect)
variable [TabT]
section
variable {prog : Program} {w : World} {r d : Addr} {es : Array DictEntry} {ep : Nat}
theorem kdl_keysRaw : KdlSrc prog w "dict_keys" r d es.size (fun i v => ∃ hi : i < es.size, v = es[i].key) (fun h => KdlKeysView h r d ∧ h.DictRaw d es ep) where
  type := fun _ hm => hm.1.typeIs
  there := fun _ hm => ⟨let ⟨_, ho, _⟩ := hm.1; Heap.lt_size ho, let ⟨_, ho, _⟩ := hm.2; Heap.lt_size ho⟩
  keep := fun _ _ hm hk => ⟨let ⟨o, ho, x⟩ := hm.1; ⟨o, hk r (.inl rfl) o ho, x⟩, hm.2.at fun o e => hk d (.inr rfl) o e⟩
  notList := by decide
  notTuple := by decide
  hint := fun _ _ _ _ hm hq => kdl_hint_keys hm.1.typeIs hq
  iter := fun _ s hh hm => ⟨_, _, (fun _ _ hq => wpAny_pyIter_keys_raw hm.1 hm.2 hq), Walks.rawKeys hh _ d (Nat.ne_of_lt (let ⟨_, ho, _⟩ := hm.2; Heap.lt_size ho)) es ep, ⟨⟨_, Heap.get?_push_size _ rfl, rfl, rfl⟩, hm.2.at fun o e => Heap.get?_push_of_some _ e⟩⟩
end
section
variable {X : Cx} {o : Expr} {p pos apos mpos : Pos} {td : TE}
theorem keys_zip {K : PySem.W.Frag} {w : Wd} {t : Bool} : ∀ {vs : List (K2 × V)} {us : List Value}, us.length = vs.length → (∀ (j : Nat) u k v, us[j]? = some u → vs[j]? = some (k, v) → ∃ kv, KeyIs w.H t k kv ∧ RelV kv u) →
    ∃ bs : List (V × D), bs.map (·.2) = vs.map (fun p => dK2 p.1) ∧ Vals (bs.map (·.1)) us ∧ ∀ b ∈ bs, RD K w b.2 b.1
  | [], us, hl, _ => by
    cases us with
    | nil => exact ⟨[], rfl, .nil, fun _ z => nomatch z⟩
    | cons _ _ => cases hl
  | (k, v) :: vs, us, hl, h => by
    cases us with
    | nil => cases hl
    | cons u us =>
      obtain ⟨kv, h1, h2⟩ := h 0 u k v rfl rfl
      obtain ⟨bs, q1, q2, q3⟩ := keys_zip (K := K) (vs := vs) (us := us) (by simpa using hl) fun j u' k' v' e1 e2 => h (j + 1) u' k' v' (by simpa using e1) (by simpa using e2)
      exact ⟨(kv, dK2 k) :: bs, by simp [q1], .cons h2 q2, fun b hb => (List.mem_cons.mp hb).elim (fun z => by rw [z]; exact h1.rd) (q3 b)⟩
theorem sorted_keysD {pins : List (Addr × Obj)} {σ : L2.St} {w : Wd} {s : Shared} {r a : Addr} {od : Obj} {u : HO} {t : Bool} {vs : List (K2 × V)} {Q : VK} (hcalm : X.calm = true) (hu : X.A.units + 64 < cLine) (I : Inv X pins σ w.H s) (hv : KdlKeysView s.heap r a)
    (hf : w.H a = some (.frz od u)) (hd : DictIs t u vs) (ok : sortsOk (vs.map fun p => dK2 p.1) = true)
    (q : ∀ (p : Addr) (us : List V), RDs X.K w ((vs.map fun p => dK2 p.1).mergeSort dLe) us → w.H p = none → Q (.ref p) (upd w.H p (.lst us))) :
    wpAny (model X.prog X.w) X.A (call (.builtin "sorted") [.ref r]) (EP X pins σ Q) X.xe s := by
  have o1 := and_l ok
  have o2 := and_r ok
  have p1 := and_l o1
  have p2 := of_decide_eq_true (and_r o1)
  have p3 := and_l o2
  have p4 := and_l (and_r o2)
  have p5 := and_r (and_r o2)
  have hL : vs.length ≤ sizeLine := by simpa using p2
  obtain ⟨hsys, es, ep, hdt, hm, hsz, ent⟩ := frzA I hf hd
  refine Calls.call_function_entry PyProof.Rows.kind_sorted PyProof.Rows.plain_sorted PyProof.Rows.entry_sorted (PyProof.Rows.args_sorted1 _) ?_
  unfold Builtin.«sorted»
  refine wpAny_bind (m := checkCount "sorted" 1 1 _) (wpAny_pure (wpAny_bind (kdu_collect (A := X.A.in1) (kdl_keysRaw (r := r) (d := a) (es := es) (ep := ep)) (I.ok.hd hcalm) ⟨hv, hm⟩ (by rw [hsz]; exact hL) fun h' tk acc hk hacc => ?_)))
  have hal : acc.toList.length = vs.length := by rw [Array.length_toList, hacc.1, hsz]
  obtain ⟨bs, hb2, hb1, hbR⟩ := keys_zip (K := X.K) (w := w) (t := t) hal fun j u k v e1 e2 => by
    obtain ⟨hi, e3⟩ := hacc.2 j u (by rw [← Array.getElem?_toList]; exact e1)
    obtain ⟨_, kv, k1, k2⟩ := ent j hi k v e2
    exact ⟨kv, k1, by rw [e3]; exact k2⟩
  have I1 : Inv X pins σ w.H { s with heap := h', toks := tk } := I.kept hk
  refine wpAny_bind (wpAny_newList ?_ (by rw [hal]; exact hL))
  have hoL : (h'.push (seqObj "list" acc.toList.toArray 0)).get? h'.objs.size = some (seqObj "list" acc.toList.toArray 0) := Heap.get?_push_size _ rfl
  have I2 : Inv X pins σ w.H { s with heap := h'.push (seqObj "list" acc.toList.toArray 0), toks := tk } := I1.kept fun b ob e => Heap.get?_push_of_some _ e
  show wpAny _ _ _ _ _ { s with heap := h'.push (seqObj "list" acc.toList.toArray 0), toks := tk }
  have e := vals_each hb1
  have er : EachIs (fun u (b : V × D) => ∃ as, Reads (h'.push (seqObj "list" acc.toList.toArray 0)) u (pD b.2) as ∧ h'.objs.size ∉ as) acc.toList bs := (each_mem2 (P := fun b => RD X.K w b.2 b.1 ∧ pOk b.2 = true) e fun b hb => ⟨hbR b hb, by
    have := List.all_eq_true.mp p1 b.2 (by rw [← hb2]; exact List.mem_map.mpr ⟨b, hb, rfl⟩)
    exact this⟩).mono fun u b ⟨r1, r2, r3⟩ => ⟨[], reads_of I2 r3 r2 r1, fun z => nomatch z⟩
  have mem : ∀ d, d ∈ bs.map (fun b => pD b.2) → ∃ x ∈ vs.map (fun p => dK2 p.1), d = pD x := fun d hd => by
    obtain ⟨b, hb, rfl⟩ := List.mem_map.mp hd
    exact ⟨b.2, by rw [← hb2]; exact List.mem_map.mpr ⟨b, hb, rfl⟩, rfl⟩
  have hal2 : AllAlike (bs.map fun b => pD b.2) := fun d hd d' hd' => by
    obtain ⟨x, hx, rfl⟩ := mem d hd
    obtain ⟨y, hy, rfl⟩ := mem d' hd'
    exact List.all_eq_true.mp (List.all_eq_true.mp p3 x hx) y hy
  have hk2 : Sortable (bs.map fun b => pD b.2) := by
    cases c : (vs.map fun p => dK2 p.1).all fun d => isT1 (pD d) with
    | true =>
      refine .inl fun d hd => ?_
      · obtain ⟨x, hx, rfl⟩ := mem d hd
        have z := List.all_eq_true.mp c x hx
        cases ex : pD x with
        | tuple ys =>
          cases ys with
          | nil => rw [ex] at z; cases z
          | cons y r => exact ⟨y, r, rfl⟩
        | _ => rw [ex] at z; cases z
    | false =>
      rw [c] at p4
      refine .inr fun d hd => ?_
      · obtain ⟨x, hx, rfl⟩ := mem d hd
        have z := List.all_eq_true.mp (show ((vs.map fun p => dK2 p.1).all fun d => noT (pD d)) = true from p4) x hx
        refine ⟨fun y => ?_, fun xs y => ?_⟩ <;> (rw [y] at z; cases z)
  have hbl : bs.length = vs.length := by have := congrArg List.length hb2; simpa using this
  have hbL : bs.length ≤ sizeLine := by rw [hbl]; exact hL
  refine wpAny_bind (wpAny_holding (list_sort_data (s := { s with heap := h'.push (seqObj "list" acc.toList.toArray 0), toks := tk }) (R := fun (u : Value) (b : V × D) => RelV b.1 u) (enc := fun b => pD b.2) hoL e er hal2 hk2 hbL (fun b hb => ?_) fun out h1 h2 => ?_))
  · have := of_decide_eq_true (List.all_eq_true.mp p5 b.2 (by rw [← hb2]; exact List.mem_map.mpr ⟨b, hb, rfl⟩))
    show X.A.in1.units + 1 + (pD b.2).depth < cLine
    have : X.A.in1.units = X.A.units + 1 := rfl
    omega
  · obtain ⟨e', he'⟩ := PyProof.Rows.sortedHeap_at (vs := acc.toList) (out := out.toArray) hoL
    have k1 := each_vals h2
    have hlen : ((bs.mergeSort (dataLe false fun b => pD b.2)).map (·.1)).length ≤ sizeLine := by
      rw [List.length_map, (List.mergeSort_perm _ _).length_eq]
      exact hbL
    have fresh : w.H h'.objs.size = none := I1.hok.fresh (Nat.le_refl _)
    have old : ∀ b u, h'.get? b = some u → (PyProof.Rows.sortedHeap (h'.push (seqObj "list" acc.toList.toArray 0)) h'.objs.size acc.toList out.toArray).get? b = some u := fun b u e => by
      have hb : b < h'.objs.size := Heap.lt_size e
      rw [PyProof.Rows.sortedHeap_old (Nat.ne_of_lt hb) (by rw [size_push']; exact Nat.lt_succ_of_lt hb)]
      exact Heap.get?_push_of_some _ e
    have nw : ObjOk X.prog X.w (upd w.H h'.objs.size (.lst ((bs.mergeSort (dataLe false fun b => pD b.2)).map (·.1)))) (PyProof.Rows.sortedHeap (h'.push (seqObj "list" acc.toList.toArray 0)) h'.objs.size acc.toList out.toArray) h'.objs.size (.lst ((bs.mergeSort (dataLe false fun b => pD b.2)).map (·.1))) :=
      ⟨hlen, out, e', k1, he'⟩
    have em : (vs.map fun p => dK2 p.1).mergeSort dLe = (bs.mergeSort (dataLe false fun b => pD b.2)).map (·.2) := by
      rw [← hb2]
      exact (List.map_mergeSort (f := fun b : V × D => b.2) (r := dataLe false fun b : V × D => pD b.2) (s := dLe) (l := bs) fun a _ b _ => rfl).symm
    exact wpAny_pure ⟨_, rfl, .ref h'.objs.size, _, I1.laid (t' := tk) old (Nat.le_refl _) nw, rfl, q _ _ (by rw [em]; exact RDs.of_zip fun b hb' => hbR b ((List.mergeSort_perm _ _).mem_iff.mp hb')) fresh⟩
def tSortKD (K : PySem.W.Frag) (td : TE) : TE := fun σ H Q => td σ H fun x H1 => ∃ (a : Addr) (od : Obj) (u : HO) (t : Bool) (vs : List (K2 × V)) (w : Wd), x = V.ref a ∧ w.H = H1 ∧ H1 a = some (.frz od u) ∧ DictIs t u vs ∧ sortsOk (vs.map fun p => dK2 p.1) = true ∧
  ∀ (p : Addr) (us : List V), RDs K w ((vs.map fun p => dK2 p.1).mergeSort dLe) us → H1 p = none → Q (.ref p) (upd H1 p (.lst us))
theorem pe_sortKD (hc : X.calm = true) (hu : X.A.units + 64 < cLine) (hg : Gl X "sorted") (hm : X.mg "sorted" = none) (hd : PE X o td) (hbase : attributeBase o "keys" X.env (eval o X.env) = eval o X.env := by rfl) (hline : (apos.endLine == mpos.line) = true := by rfl)
    (hse : starEach [Expr.Call (.Attribute o "keys" apos) [] [] mpos] X.env = [(false, eval (Expr.Call (.Attribute o "keys" apos) [] [] mpos) X.env)] := by rfl) :
    PE X (.Call (.Name "sorted" p) [.Call (.Attribute o "keys" apos) [] [] mpos] [] pos) (tSortKD X.K td) := by
  refine ⟨fun pins s σ H Q I h => wpAny_Call_Name_kw (ld_blt I hg hm (u := .builtin "sorted") (by first | rfl | decide +kernel) ?_ (by first | decide +kernel | decide) (by first | decide +kernel | decide))⟩
  rw [hse]
  refine PySem.callWith_builtin1 (wpAny_Call_method0_late hbase hline (thn (hd.run pins s σ H _ I h) fun v s1 ⟨x, H1, I1, r1, a, od, u, t, vs, w, ex, ew, ha, hdi, ok, q⟩ => ?_))
  subst ex
  subst ew
  obtain rfl : v = Value.ref a := r1
  obtain ⟨hsys, es, ep, hdt, hm, hsz, ent⟩ := frzA I1 ha hdi
  obtain ⟨ob, ho, hx, hod⟩ := id hm
  refine ⟨"dict", "dict.keys", F.plainAttrs_dict, F.slot_dict_keys, F.type_dict_keys, ⟨ob, ho, hx.1⟩, fun b e => ?_, Calls.callWith_builtin rfl (PySem.evalArgs_none ?_)⟩
  · cases e
    exact ⟨ob, ho, hx.2.1⟩
  have keep : ∀ b u, s1.heap.get? b = some u → (s1.heap.push { cls := .type "dict_keys", data := .fields #[.ref a] }).get? b = some u := fun b u e => Heap.get?_push_of_some _ e
  refine call_meetsIn F.slot_dict_keys ⟨ob, ho, hx.1⟩ F.entry_dict_keys (F.args_dict_keys_1 _) (meets_dict_keys_raw a hsys) ⟨⟨es, ep, hm⟩, ?_⟩
  exact sorted_keysD hc hu (I1.kept (t' := s1.toks) keep) ⟨_, Heap.get?_push_size _ rfl, rfl, rfl⟩ ha hdi ok q
end
section
variable {η : Type} [HR η] {X : Cx} {f : Fm} {W : WX} {Θ Θx : Th} {p pos apos mpos npos : Pos} {x : Str} {t : Bool}
def eSortK (i : Nat) : ER η := fun s => match s.s[i]? with
  | some (some (.fd _ kvs)) => if sortsOk (keysD kvs) = true then .ok (.fl ((keysD kvs).mergeSort dLe)) s else .stuck
  | _ => .stuck
/-- of a locked slot's dict -/
theorem qe_sortK (i : Nat) (hc : X.calm = true) (hu : X.A.units + 64 < cLine) (hg : Gl X "sorted") (hm : X.mg "sorted" = none) (hi : Θ[i]? = some (.lk t) := by rfl) (hN : X.N[i]? = some x := by rfl) (hv : Vis X.env.scope x := by first | exact Or.inl rfl | exact Or.inr (Or.inl rfl) | exact Or.inr (Or.inr rfl)) (hd : (x == ("__debug__" : Str)) = false := by decide)
    (hcd : (x == ("__classdict__" : Str)) = false := by decide) (hbase : attributeBase (.Name x npos) "keys" X.env (eval (.Name x npos) X.env) = eval (.Name x npos) X.env := by rfl) (hline : (apos.endLine == mpos.line) = true := by rfl)
    (hse : starEach [Expr.Call (.Attribute (.Name x npos) "keys" apos) [] [] mpos] X.env = [(false, eval (Expr.Call (.Attribute (.Name x npos) "keys" apos) [] [] mpos) X.env)] := by rfl) :
    QE (η := η) X f W Θ (.Call (.Name "sorted" p) [.Call (.Attribute (.Name x npos) "keys" apos) [] [] mpos] [] pos) (eSortK i) (.own (.l .p)) Θ Θx := ⟨PE.imp (pe_sortKD hc hu hg hm (pe_var hN hv hd hcd) hbase hline hse) fun σ H Q ⟨w, s, φ, e1, o, h⟩ => by
  subst e1
  obtain ⟨kvs, a, od, u, vs, e1, e2, h1, h2, h3, h4, h5⟩ := o.lks i t hi
  rw [e1] at h1
  rw [e2] at h2
  have e : eSortK i s = if sortsOk (keysD kvs) = true then .ok (.fl ((keysD kvs).mergeSort dLe)) s else .stuck := by unfold eSortK; rw [h1]
  rw [e] at h
  have ek : vs.map (fun p => dK2 p.1) = keysD kvs := by
    have := RKs.keys h5
    unfold keysD
    have e2 := congrArg (List.map dK2) this
    rw [List.map_map, List.map_map] at e2
    exact e2
  by_cases c : sortsOk (keysD kvs) = true
  · rw [if_pos c] at h
    refine ⟨.ref a, h2, a, od, u, t, vs, w, rfl, rfl, h3, h4, by rw [ek]; exact c, fun p us hr np => ?_⟩
    rw [ek] at hr
    exact h (.ref p) (w.up p (.lst us)) φ (.new np) (o.gr0 (.new np)) ((RP.newL (.refl w) np hr).re o (.new np))
  · rw [if_neg c] at h; exact h.elim⟩
end
end FL

/-! FX: len(d.keys()). -/
namespace PySem
open Sem (wp)
open PySem.W (KdlKeysView kdl_owner_keys)
theorem slot_keys_len : Slot "dict_keys" "__len__" "dict_keys.__len__" :=
  .of (owner := "dict_keys") (n := "__len__") (by rw [typeLookup_type, builtinLookup_eq_fast]; kernel_rfl) (by decide +kernel) (by decide +kernel) (by decide +kernel)
    (by first | exact .inl (by decide +kernel) | exact .inr (by decide +kernel)) (by rw [isSubtype_type]; kernel_rfl)
theorem entry_keys_len : entryFor table "dict_keys.__len__" = some Builtin.«dict_items.__len__» :=
  entryFor_alias (id' := "dict_items.__len__") (by kernel_rfl) rfl (by decide +kernel) (by kernel_rfl)
theorem args_keys_len (a : Value) : argsOk "dict_keys.__len__" ⟨[a], []⟩ := by
  unfold argsOk; rw [signature?_of (id := "dict_keys.__len__") (n := ['_', '_', 'n', 'e', 'l', '_', '_']) (o := ['s', 'y', 'e', 'k', '_', 't', 'c', 'i', 'd']) (by kernel_rfl) kdl_owner_keys]; kernel_rfl
section
variable {prog : Program} {w : World} {A : Around} {E : Value → Shared → Prop} {s : Shared}
theorem meets_keys_len (v : Addr) : MeetsIn prog w (Builtin.«dict_items.__len__» ⟨[.ref v], []⟩) (fun _ R s => ∃ d es ep, KdlKeysView s.heap v d ∧ s.heap.DictRaw d es ep ∧ R (.ok (.ret (.int es.size s.toks))) { s with toks := s.toks + 1 }) :=
  .of_wp fun A R s ⟨d, es, ep, hv, hm, h⟩ => by
    obtain ⟨ov, hov, hcv, hdv⟩ := id hv
    obtain ⟨o, ho, hc, hdat⟩ := id hm
    unfold Builtin.«dict_items.__len__»
    refine wpAny_bind (wpAny_pure ?_)
    refine wpAny_bind ?_
    unfold Builtin.Dict_items.dictOf
    refine wpAny_bind (wpAny_field hov hdv (x := .ref d) rfl (wpAny_pure ?_))
    refine wpAny_bind (wpAny_dictEntries ho hdat ?_)
    exact wpAny_ret_mkInt h
theorem wpAny_len_body_keys {v d : Addr} {es : Array DictEntry} {ep : Nat} {Q : Value → Shared → Prop} (hv : KdlKeysView s.heap v d) (hm : s.heap.DictRaw d es ep) (hfit : (es.size : Int) < 2 ^ 63)
    (h : Q (.int es.size (s.toks + 1)) { s with toks := s.toks + 1 + 1 }) : wpAny (model prog w) A (Builtin.«len» ⟨[.ref v], []⟩) (fun fin s' => ∃ r, fin = .done (.ret r) ∧ Q r s') E s := by
  unfold Builtin.«len»
  refine wpAny_bind (m := oneArg "len" _) (wpAny_pure ?_)
  refine wpAny_bind (m := callSpecial? (.ref v) (Str.ofString "__len__")) (wpAny_callSpecial?_slot (name := Str.ofString "__len__") hv.typeIs slot_keys_len
    (call_meetsIn slot_keys_len hv.typeIs entry_keys_len (args_keys_len _) (meets_keys_len v) ⟨d, es, ep, hv, hm, ?_⟩))
  show wpAny _ _ _ _ _ { s with toks := s.toks + 1 }
  refine wpAny_bind (wpAny_holding (wpAny_pure ?_))
  refine wpAny_bind (wpAny_letGo ?_)
  show wpAny _ _ (if ((es.size : Nat) : Int) < 0 then _ else _) _ _ _
  rw [if_neg (by omega)]
  show wpAny _ _ (if ((es.size : Nat) : Int) ≥ 2 ^ 63 then _ else _) _ _ _
  rw [if_neg (by omega)]
  exact wpAny_bind (wpAny_mkInt (wpAny_pure ⟨_, rfl, h⟩))
theorem call_len_keys {v d : Addr} {es : Array DictEntry} {ep : Nat} {Q : Value → Shared → Prop} (hv : KdlKeysView s.heap v d) (hm : s.heap.DictRaw d es ep) (hfit : (es.size : Int) < 2 ^ 63)
    (h : Q (.int es.size (s.toks + 1)) { s with toks := s.toks + 1 + 1 }) : wpAny (model prog w) A (call (.builtin "len") [.ref v]) Q E s :=
  Calls.call_function_entry kind_len plain_len entry_len (args_len1 _) (wpAny_len_body_keys hv hm hfit h)
end
end PySem
namespace FL
open PySem PySem.Spec PyProof.Rows L2
variable [TabT]
section
variable {X : Cx} {o : Expr} {p pos apos mpos : Pos} {td : TE}
def tLenKD (td : TE) : TE := fun σ H Q => td σ H fun x H1 => ∃ (a : Addr) (od : Obj) (u : HO) (t : Bool) (vs : List (K2 × V)), x = V.ref a ∧ H1 a = some (.frz od u) ∧ DictIs t u vs ∧ vs.length ≤ sizeLine ∧ Q (.int vs.length) H1
theorem pe_lenKD (hg : Gl X "len") (hm : X.mg "len" = none) (hd : PE X o td) (hbase : attributeBase o "keys" X.env (eval o X.env) = eval o X.env := by rfl) (hline : (apos.endLine == mpos.line) = true := by rfl)
    (hse : starEach [Expr.Call (.Attribute o "keys" apos) [] [] mpos] X.env = [(false, eval (Expr.Call (.Attribute o "keys" apos) [] [] mpos) X.env)] := by rfl) :
    PE X (.Call (.Name "len" p) [.Call (.Attribute o "keys" apos) [] [] mpos] [] pos) (tLenKD td) := by
  refine ⟨fun pins s σ H Q I h => wpAny_Call_Name_kw (ld_blt I hg hm (u := .builtin "len") (by first | rfl | decide +kernel) ?_ (by first | decide +kernel | decide) (by first | decide +kernel | decide))⟩
  rw [hse]
  refine PySem.callWith_builtin1 (wpAny_Call_method0_late hbase hline (thn (hd.run pins s σ H _ I h) fun v s1 ⟨x, H1, I1, r1, a, od, u, t, vs, ex, ha, hdi, ok, q⟩ => ?_))
  subst ex
  obtain rfl : v = Value.ref a := r1
  obtain ⟨hsys, es, ep, hdt, hm, hsz, ent⟩ := frzA I1 ha hdi
  obtain ⟨ob, ho, hx, hod⟩ := id hm
  refine ⟨"dict", "dict.keys", F.plainAttrs_dict, F.slot_dict_keys, F.type_dict_keys, ⟨ob, ho, hx.1⟩, fun b e => ?_, Calls.callWith_builtin rfl (PySem.evalArgs_none ?_)⟩
  · cases e
    exact ⟨ob, ho, hx.2.1⟩
  have keep : ∀ b u, s1.heap.get? b = some u → (s1.heap.push { cls := .type "dict_keys", data := .fields #[.ref a] }).get? b = some u := fun b u e => Heap.get?_push_of_some _ e
  refine call_meetsIn F.slot_dict_keys ⟨ob, ho, hx.1⟩ F.entry_dict_keys (F.args_dict_keys_1 _) (meets_dict_keys_raw a hsys) ⟨⟨es, ep, hm⟩, ?_⟩
  have I2 : Inv X pins σ H1 { s1 with heap := s1.heap.push { cls := .type "dict_keys", data := .fields #[.ref a] }, toks := s1.toks + 1 + 1 } := I1.kept keep
  refine call_len_keys (v := s1.heap.objs.size) (d := a) (es := es) (ep := ep) ⟨_, Heap.get?_push_size _ rfl, rfl, rfl⟩ (hm.at fun o e => keep a o e) (by rw [hsz]; have := sizeLine_eq; omega) ?_
  exact ⟨.int vs.length, H1, I2, ⟨_, by rw [hsz]⟩, q⟩
end
section
variable {η : Type} [HR η] {X : Cx} {f : Fm} {W : WX} {Θ Θx : Th} {p pos apos mpos npos : Pos} {x : Str} {t : Bool}
def eLenK (i : Nat) : ER η := fun s => match s.s[i]? with
  | some (some (.fd _ kvs)) => if kvs.length ≤ sizeLine then .ok (.int kvs.length) s else .stuck
  | _ => .stuck
theorem qe_lenK (i : Nat) (hg : Gl X "len") (hm : X.mg "len" = none) (hi : Θ[i]? = some (.lk t) := by rfl) (hN : X.N[i]? = some x := by rfl) (hv : Vis X.env.scope x := by first | exact Or.inl rfl | exact Or.inr (Or.inl rfl) | exact Or.inr (Or.inr rfl)) (hd : (x == ("__debug__" : Str)) = false := by decide)
    (hcd : (x == ("__classdict__" : Str)) = false := by decide) (hbase : attributeBase (.Name x npos) "keys" X.env (eval (.Name x npos) X.env) = eval (.Name x npos) X.env := by rfl) (hline : (apos.endLine == mpos.line) = true := by rfl)
    (hse : starEach [Expr.Call (.Attribute (.Name x npos) "keys" apos) [] [] mpos] X.env = [(false, eval (Expr.Call (.Attribute (.Name x npos) "keys" apos) [] [] mpos) X.env)] := by rfl) :
    QE (η := η) X f W Θ (.Call (.Name "len" p) [.Call (.Attribute (.Name x npos) "keys" apos) [] [] mpos] [] pos) (eLenK i) .p Θ Θx := ⟨PE.imp (pe_lenKD hg hm (pe_var hN hv hd hcd) hbase hline hse) fun σ H Q ⟨w, s, φ, e1, o, h⟩ => by
  subst e1
  obtain ⟨kvs, a, od, u, vs, e1, e2, h1, h2, h3, h4, h5⟩ := o.lks i t hi
  rw [e1] at h1
  rw [e2] at h2
  have e : eLenK i s = if kvs.length ≤ sizeLine then .ok (.int kvs.length) s else .stuck := by unfold eLenK; rw [h1]
  rw [e] at h
  have hl := RKs.len h5
  by_cases c : kvs.length ≤ sizeLine
  · rw [if_pos c] at h
    exact ⟨.ref a, h2, a, od, u, t, vs, rfl, h3, h4, by rw [hl]; exact c, h _ w φ (.refl w) o (.p (by rw [hl]; rfl))⟩
  · rw [if_neg c] at h; exact h.elim⟩
end
end FL

/-! FY: enumerate. -/
namespace FL
open PySem PySem.Spec PyProof.Rows L2
variable [TabT]
def enumD (ds : List D) : List D := ds.mapIdx fun (i : Nat) d => .tup [.int (i : Nat), d]
def enumO : List D → Option (List D)
  | [.fl ds] => some (enumD ds)
  | _ => none
theorem enumO_ok {ds items : List D} (h : enumO ds = some items) : ∃ es, ds = [.fl es] ∧ items = enumD es := by
  unfold enumO at h
  split at h
  · cases h; exact ⟨_, rfl, rfl⟩
  · cases h
theorem itok_enum {K : PySem.W.Frag} {w : Wd} {a : Addr} {ds : List D} {vs : List V} (h : SqF K w.H a vs) (r : RDs K w ds vs) : ItOk K (Ite K a) (enumD ds) w := by
  intro i g w1 e
  have hv := (h.gr e).l
  have rv := r.gr e
  have hl : (enumD ds).length = ds.length := by unfold enumD; simp
  refine ⟨fun e => ⟨vs, hv, by rw [rv.len]; omega⟩, fun d hd => ?_⟩
  obtain ⟨d0, h0, rfl⟩ : ∃ d0, ds[i]? = some d0 ∧ d = .tup [.int (i : Nat), d0] := by
    unfold enumD at hd
    rw [List.getElem?_mapIdx] at hd
    cases h0 : ds[i]? with
    | none => rw [h0] at hd; cases hd
    | some d0 => rw [h0] at hd; cases hd; exact ⟨d0, rfl, rfl⟩
  obtain ⟨v, hv', rd⟩ := rv.get h0
  refine ⟨⟨vs, v, hv, hv'⟩, fun x H2 y => ?_⟩
  obtain ⟨T, z, rfl, hT, rfl, y⟩ := y
  have := y vs hv
  rw [hv'] at this
  cases this
  exact ⟨w1.up T (.tup [.int (i : Nat), v]), rfl, .new hT, .newT hT ⟨_, _, rfl, rfl, v, _, rfl, rd, rfl⟩⟩
section
variable {η : Type} [HR η] {X : Cx} {f : Fm} {W : WX} {Θ Θ1 Θx : Th} {e : Expr} {elts : List Expr} {kk : Nat} {pos p tpos : Pos}
def eEnum (t : St η → Eff η (List D)) : St η → Eff η (List D) := fun s => (t s).bind fun ds s1 => (Out.of (enumO ds)).eff s1
theorem qi_enum {t : St η → Eff η (List D)} (hg : Gl X "enumerate") (hm : X.mg "enumerate" = none) (h : QAs X f W Θ [e] t Θ1 Θx) (hs : starEach [e] X.env = [(false, eval e X.env)] := by rfl) : QI X f W Θ (.Tuple elts kk tpos) (.Call (.Name "enumerate" p) [e] [] pos) (eEnum t) Θ1 Θx := ⟨PI.imp (pi_enum hg hm h.r hs) fun σ H R ⟨w, s, φ, e1, o, h⟩ => by
  subst e1
  refine ⟨w, s, φ, rfl, o, Ef.mono (Ef.bind h) ?_⟩
  rintro v H1 ⟨w1, ds, s1, φ1, rfl, g1, o1, r1, h⟩
  cases hE : enumO ds with
  | none => rw [hE] at h; exact h.elim
  | some items =>
    rw [hE] at h
    obtain ⟨es, rfl, rfl⟩ := enumO_ok hE
    obtain ⟨v1, _, rfl, ⟨a, vs, rfl, hs, rv⟩, rfl⟩ := r1
    exact ⟨a, vs, rfl, hs.l, h _ w1 φ1 (.refl w1) o1 (itok_enum hs rv)⟩⟩
end
end FL

/-! GA: a row times an int. -/
namespace L2
open PySem PySem.Spec PyProof.Rows
theorem tuple_mul0 (l : Addr) (items : Array Value) (n : Nat) (dd : Option Addr) (sl : Array (Option Value)) (x : Int) (u : Tok) (c0 : (decide (x < -(2 ^ 63)) || decide (x ≥ 2 ^ 63)) = false) (c1 : (items.isEmpty || x == 1) = false) (c2 : (decide (x ≤ 0) || items.isEmpty) = true) :
    Meets (Builtin.«tuple.__mul__» ⟨[.ref l, .int x u], []⟩) (fun _ R s => s.heap.get? l = some { cls := .type "tuple", dict := dd, data := .seq items n, slots := sl } ∧
      R (.ok (.ret (Value.ref s.heap.objs.size))) { s with heap := s.heap.push { cls := Value.type "tuple", data := Data.seq #[] }, toks := s.toks }) :=
  .of_wp fun prog w A R s h => by
    obtain ⟨hp, g, d, tk, os⟩ := s
    obtain ⟨hl, h⟩ := h
    have f1 := AutoSeq1.idx_int
    wp_walk using wpAny_loadPart' hl
    repeat (first
      | (refine wpAny_ite_false (decide_eq_false (by rw [c0]; exact Bool.false_ne_true)) ?_; wp_walk using wpAny_loadPart' hl)
      | (refine wpAny_ite_false (decide_eq_false (by rw [c1]; exact Bool.false_ne_true)) ?_; wp_walk using wpAny_loadPart' hl)
      | (refine wpAny_ite_true (decide_eq_true c2) ?_; wp_walk using wpAny_loadPart' hl))
    exact ⟨_, rfl, h⟩
theorem tuple_mul1 (l : Addr) (items : Array Value) (n : Nat) (dd : Option Addr) (sl : Array (Option Value)) (x : Int) (u : Tok) (c0 : (decide (x < -(2 ^ 63)) || decide (x ≥ 2 ^ 63)) = false) (c1 : (items.isEmpty || x == 1) = true) :
    Meets (Builtin.«tuple.__mul__» ⟨[.ref l, .int x u], []⟩) (fun _ R s => s.heap.get? l = some { cls := .type "tuple", dict := dd, data := .seq items n, slots := sl } ∧
      R (.ok (.ret (Value.ref l))) s) :=
  .of_wp fun prog w A R s h => by
    obtain ⟨hp, g, d, tk, os⟩ := s
    obtain ⟨hl, h⟩ := h
    have f1 := AutoSeq1.idx_int
    wp_walk using wpAny_loadPart' hl
    repeat (first
      | (refine wpAny_ite_false (decide_eq_false (by rw [c0]; exact Bool.false_ne_true)) ?_; wp_walk using wpAny_loadPart' hl)
      | (refine wpAny_ite_true (decide_eq_true c1) ?_; wp_walk using wpAny_loadPart' hl))
    exact ⟨_, rfl, h⟩
def rRepTA (K : PySem.W.Frag) : R2 := fun x y H Q => ∃ l k xs, x = .ref l ∧ y = .int k ∧ SqT K H l xs ∧ xs ≠ [] ∧ 0 ≤ k ∧ k ≤ 4000 ∧ xs.length ≤ 200 ∧ (k = 1 → Q x H) ∧ (k ≠ 1 → ∀ p, H p = none → Q (.ref p) (upd H p (.tup (List.replicate k.toNat xs).flatten)))
section
variable {X : Cx}
theorem op_repTA : OpR X (binaryOp .Mult) (rRepTA X.K) := by
  intro pins s σ H x y v u Q I rx ry h
  obtain ⟨l, k, xs, rfl, rfl, hT, hne, h1, h2, hz, q1, q2⟩ := h
  cases rx
  obtain ⟨t, rfl⟩ := ry
  obtain ⟨its, r, ⟨⟨cls, dd, data, sl⟩, ho, hc, n, hd⟩, hs⟩ := I.tuple hT
  simp only at hc hd
  subst hc hd
  have hle : its.length = xs.length := r.length.symm
  have hn : its ≠ [] := fun e => hne (by
    rw [e] at hle
    exact List.eq_nil_of_length_eq_zero hle.symm)
  have hi : its.toArray.isEmpty = false := by
    cases its with
    | nil => exact absurd rfl hn
    | cons a b => rfl
  have c0 : (decide (k < -(2 ^ 63)) || decide (k ≥ 2 ^ 63)) = false := by
    rw [decide_eq_false (by omega), decide_eq_false (by omega)] <;> rfl
  refine wpAny_binaryOp_repeat_ref (T := "tuple") (U := "int") (by decide) ⟨_, ho, rfl⟩ (fun s' => typeIs_int s' k t) noFill_tuple_mul F.fills_int_mul F.slot_int_rmul repeat_tuple F.slot_int_index.lookup
    (call_meets F.slot_int_rmul (typeIs_int s k t) F.entry_int_rmul (F.args_int_rmul_2 _ _) (int_rmul_tuple k t l its.toArray n dd sl)
      ⟨ho, rfl, ⟨_, ho, rfl⟩, ?_⟩)
  by_cases k1 : k = 1
  · refine call_meets F.slot_tuple_mul ⟨_, ho, rfl⟩ F.entry_tuple_mul (F.args_tuple_mul_2 _ _) (tuple_mul1 l its.toArray n dd sl k t c0 (by rw [hi, Bool.false_or, k1]; rfl)) ⟨ho, ?_⟩
    exact ⟨.ref l, H, I, rfl, q1 k1⟩
  have c1 : (its.toArray.isEmpty || k == 1) = false := by
    rw [hi, Bool.false_or]
    exact beq_eq_false_iff_ne.mpr k1
  by_cases k0 : k = 0
  · refine call_meets F.slot_tuple_mul ⟨_, ho, rfl⟩ F.entry_tuple_mul (F.args_tuple_mul_2 _ _) (tuple_mul0 l its.toArray n dd sl k t c0 c1 (by rw [k0]; rfl)) ⟨ho, ?_⟩
    have e : (List.replicate k.toNat xs).flatten = [] := by rw [k0]; rfl
    have q3 := q2 k1
    rw [e] at q3
    exact ⟨.ref s.heap.objs.size, _, I.laid (t' := s.toks) (o := .tup []) (fun b ob q => Heap.get?_push_of_some _ q) (Nat.le_refl _) ⟨Nat.zero_le _, [], .nil, IsTup.new _ _⟩, rfl, q3 _ (I.hok.fresh (Nat.le_refl _))⟩
  have hsz0 : its.toArray.size = xs.length := by rw [List.size_toArray, hle]
  have hm : ((its.toArray.size : Nat) : Int) * k ≤ 800000 := by
    rw [hsz0]
    have a1 : ((xs.length : Nat) : Int) * k ≤ 200 * k := Int.mul_le_mul_of_nonneg_right (by omega) (by omega)
    omega
  have flen : (List.replicate k.toNat its).flatten.length ≤ sizeLine := by
    rw [PyProof.Rows.lm_len_rep_flat, hle, sizeLine_eq]
    have a1 : k.toNat * xs.length ≤ 4000 * 200 := Nat.mul_le_mul (by omega) hz
    omega
  have c2 : (decide (k ≤ 0) || its.toArray.isEmpty) = false := by
    rw [hi, Bool.or_false]
    exact decide_eq_false (by omega)
  have c4 : Builtin.Tuple.tupleTooMany (((its.toArray.size : Nat) : Int) * k) = false := by
    unfold Builtin.Tuple.tupleTooMany
    rw [sizeLine_eq]
    exact decide_eq_false (by omega)
  refine call_meets F.slot_tuple_mul ⟨_, ho, rfl⟩ F.entry_tuple_mul (F.args_tuple_mul_2 _ _) (tuple_mulW l its.toArray n dd sl k t c0 c1 c2 (by omega) c4 (by rw [size_rep, List.size_toArray]; exact flen)) ⟨ho, ?_⟩
  rw [size_rep]
  refine ⟨.ref s.heap.objs.size, _, I.laid (t' := s.toks) (o := .tup (List.replicate k.toNat xs).flatten) (fun b ob q => Heap.get?_push_of_some _ q) (Nat.le_refl _) ?_, rfl, q2 k1 _ (I.hok.fresh (Nat.le_refl _))⟩
  exact ⟨by rw [PyProof.Rows.lm_len_rep_flat, sizeLine_eq]; have a1 : k.toNat * xs.length ≤ 4000 * 200 := Nat.mul_le_mul (by omega) hz; omega, _, r.rep k.toNat, IsTup.new _ _⟩
end
end L2
namespace FL
open PySem PySem.Spec PyProof.Rows L2
variable [TabT]
theorem RDs.rep {K : PySem.W.Frag} {w : Wd} {ds : List D} {vs : List V} (r : RDs K w ds vs) : ∀ n : Nat, RDs K w (List.replicate n ds).flatten (List.replicate n vs).flatten
  | 0 => rfl
  | n + 1 => by
    rw [List.replicate_succ, List.replicate_succ, List.flatten_cons, List.flatten_cons]
    exact r.app (RDs.rep r n)
def repO : D → D → Option D
  | .tup xs, .int k => if (xs ≠ [] ∧ xs.length ≤ 200) ∧ 0 ≤ k ∧ k ≤ 4000 then some (.tup (List.replicate k.toNat xs).flatten) else none
  | _, _ => none
theorem l_repO {X : Cx} : LP2 X.K (rRepTA X.K) repO .p := by
  intro x y w Q dx dy d rx ry h k
  unfold repO at h
  split at h
  · rename_i xs n
    obtain ⟨a, vs, rfl, ht, rv, hk⟩ := rx
    cases (show y = .int n from ry)
    split at h
    · rename_i c
      cases h
      obtain ⟨⟨c1, c2⟩, c3, c4⟩ := c
      refine ⟨a, n, vs, rfl, rfl, ht, fun e => c1 (List.eq_nil_of_length_eq_zero (by rw [← rv.len, e]; rfl)), c3, c4, by rw [rv.len]; exact c2, fun e => ?_, fun _ p np => k (.ref p) (w.up p _) (.new np) (.p (.newT np (rv.rep _)))⟩
      have e2 : (List.replicate n.toNat xs).flatten = xs := by rw [e]; simp
      rw [e2] at k
      exact k (.ref a) w (.refl w) (.p ⟨a, vs, rfl, ht, rv, hk⟩)
    · cases h
  · cases h
end FL

/-! GB: methods that write nothing; texts joined and formatted. -/
namespace FL
open PySem PySem.Spec PyProof.Rows L2
variable [TabT]
def LPR (K : PySem.W.Frag) (T : String) (r : V → List V → Hp → VK → Prop) (ty : D → Bool) (m : D → List D → Option D) (κ : Sl) : Prop :=
  (∀ d v w, ty d = true → RD K w d v → tyV K T v w.H) ∧ ∀ x xs w Q dx ds d, RD K w dx x → RDs K w ds xs → m dx ds = some d → (∀ v w', Gr no w w' → RP K w w' κ d v → Q v w'.H) → r x xs w.H Q
section
variable {η : Type} [HR η] {X : Cx} {f : Fm} {W : WX} {Θ Θ1 Θ2 Θx : Th} {e o : Expr} {es : List Expr} {p apos cpos pos : Pos} {name : Str} {T id : String} {r : V → List V → Hp → VK → Prop} {ty : D → Bool} {m : D → List D → Option D} {κ : Sl} {to : ER η} {te : St η → Eff η (List D)}
def eCM (ty : D → Bool) (m : D → List D → Option D) (to : ER η) (te : St η → Eff η (List D)) : ER η := fun s => (to s).bind fun x s1 => if ty x = true then (te s1).bind fun xs s2 => (Out.of (m x xs)).eff s2 else .stuck
def eCM0 (ty : D → Bool) (m : D → List D → Option D) (to : ER η) : ER η := fun s => (to s).bind fun x s1 => if ty x = true then (Out.of (m x [])).eff s1 else .stuck
theorem qe_bm (pa : PlainAttrs T) (slot : Slot T name id) (hty : typeOf (.builtin id) = pure (.type "method_descriptor")) (hm : MtR X id r) (hl : LPR X.K T r ty m κ) (ho : QE X f W Θ o to .p Θ1 Θx) (ha : QAs X f W Θ1 (e :: es) te Θ2 Θx)
    (hbase : attributeBase o name X.env (eval o X.env) = eval o X.env := by rfl)
    (hfew : ((backTo cpos (starEach (e :: es) X.env)).all (fun x => !x.1) && (backToKw cpos (keywordEach [] X.env)).all (fun x => x.1.isSome)
      && decide ((e :: es).length + ([] : List Keyword).length + (if ([] : List Keyword).isEmpty then 0 else 1) < 30)) = true := by rfl)
    (hline : (apos.endLine == cpos.line) = true := by rfl) (hs : starEach (e :: es) X.env = (false, eval e X.env) :: starEach es X.env := by rfl) (hplain : (backTo cpos (starEach es X.env)).any (·.1) = false := by rfl) :
    QE X f W Θ (.Call (.Attribute o name apos) (e :: es) [] cpos) (eCM ty m to te) κ Θ2 Θx :=
  ⟨PE.imp (pe_bm pa slot hty hm ho.r ha.r hbase hfew hline hs hplain) fun σ H Q h => by
    obtain ⟨w, s, φ, rfl, o1, h⟩ := h
    refine ⟨w, s, φ, rfl, o1, Ef.mono (Ef.bind h) ?_⟩
    rintro x H1 ⟨w1, d, s1, φ1, rfl, g1, o1, r1, h⟩
    by_cases c : ty d = true
    · rw [if_pos c] at h
      refine ⟨hl.1 d x w1 c r1.rd, w1, s1, φ1, rfl, o1, Ef.mono (Ef.bind h) ?_⟩
      rintro xs H2 ⟨w2, ds, s2, φ2, rfl, g2, o2, r2, h⟩
      cases hg : m d ds with
      | none => rw [hg] at h; exact h.elim
      | some d' =>
        rw [hg] at h
        exact hl.2 x xs w2 Q d ds d' (r1.rd.gr g2) r2 hg fun v w3 g3 r3 => h v w3 φ2 g3.any (o2.gr0 g3) (r3.re o2 g3)
    · rw [if_neg c] at h; exact h.elim⟩
theorem qe_bm0 (pa : PlainAttrs T) (slot : Slot T name id) (hty : typeOf (.builtin id) = pure (.type "method_descriptor")) (hm : MtR X id r) (hl : LPR X.K T r ty m κ) (ho : QE X f W Θ o to .p Θ1 Θx)
    (hbase : attributeBase o name X.env (eval o X.env) = eval o X.env := by rfl) (hline : (apos.endLine == cpos.line) = true := by rfl) :
    QE X f W Θ (.Call (.Attribute o name apos) [] [] cpos) (eCM0 ty m to) κ Θ1 Θx :=
  ⟨PE.imp (pe_bm0 pa slot hty hm ho.r hbase hline) fun σ H Q h => by
    obtain ⟨w, s, φ, rfl, o1, h⟩ := h
    refine ⟨w, s, φ, rfl, o1, Ef.mono (Ef.bind h) ?_⟩
    rintro x H1 ⟨w1, d, s1, φ1, rfl, g1, o1, r1, h⟩
    by_cases c : ty d = true
    · rw [if_pos c] at h
      refine ⟨hl.1 d x w1 c r1.rd, ?_⟩
      cases hg : m d [] with
      | none => rw [hg] at h; exact h.elim
      | some d' =>
        rw [hg] at h
        exact hl.2 x [] w1 Q d [] d' r1.rd rfl hg fun v w3 g3 r3 => h v w3 φ1 g3.any (o1.gr0 g3) (r3.re o1 g3)
    · rw [if_neg c] at h; exact h.elim⟩
/-! ### f'..' -/
def fmtD : D → Option D
  | .str y => if y.length ≤ sizeLine then some (.str y) else none
  | .int i => if i.natAbs.log2 < 1920 then some (.str (toString i)) else none
  | _ => none
def eFmt (t : ER η) : ER η := fun s => (t s).bind fun d s1 => (Out.of (fmtD d)).eff s1
theorem qe_fmt {t : ER η} (h : QE X f W Θ e t .p Θ1 Θx) : QE X f W Θ (.FormattedValue e (-1) none pos) (eFmt t) .p Θ1 Θx := ⟨PE.imp (pe_fmt h.r) fun σ H Q h => by
  obtain ⟨w, s, φ, rfl, o1, h⟩ := h
  refine ⟨w, s, φ, rfl, o1, Ef.mono (Ef.bind h) ?_⟩
  rintro x H1 ⟨w1, d, s1, φ1, rfl, g1, o1, r1, h⟩
  have r1 := r1.rd
  cases d with
  | str y =>
    obtain rfl : x = .str y := r1
    by_cases c : y.length ≤ sizeLine
    · rw [show fmtD (.str y) = some (.str y) from if_pos c] at h
      exact .inl ⟨y, rfl, c, h _ w1 φ1 (.refl w1) o1 (.p rfl)⟩
    · rw [show fmtD (.str y) = none from if_neg c] at h; exact h.elim
  | int i =>
    obtain rfl : x = .int i := r1
    by_cases c : i.natAbs.log2 < 1920
    · rw [show fmtD (.int i) = some (.str (toString i)) from if_pos c] at h
      exact .inr ⟨i, rfl, c, h _ w1 φ1 (.refl w1) o1 (.p rfl)⟩
    · rw [show fmtD (.int i) = none from if_neg c] at h; exact h.elim
  | _ => exact h.elim⟩
abbrev rS : Wd → Fp → Str → Str → Prop := fun _ _ a b => a = b
structure QJ (X : Cx) (f : Fm) (W : WX) (Θ : Th) (es : List Expr) (t : Str → St η → Eff η Str) (Θ' Θx : Th) : Prop where
  r : ∃ ts, PJ X es ts ∧ ∀ acc σ H Q, lE X.K X.mg f W Θ Θ' Θx rS (t acc) σ H Q → tJs ts acc σ H Q
def jNil : Str → St η → Eff η Str := fun acc s => .ok acc s
def jCons (t : ER η) (r : Str → St η → Eff η Str) : Str → St η → Eff η Str := fun acc s => (t s).bind fun d s1 => match d with
  | .str y => if (acc ++ y).length ≤ sizeLine then r (acc ++ y) s1 else .stuck
  | _ => .stuck
theorem qj_nil : QJ (η := η) X f W Θ [] jNil Θ Θx := ⟨[], .nil, fun acc σ H Q ⟨w, s, φ, e, o, h⟩ => by subst e; exact h acc w φ (.refl w) o rfl⟩
theorem qj_cons {t : ER η} {r : Str → St η → Eff η Str} (h : QE X f W Θ e t .p Θ1 Θx) (hr : QJ X f W Θ1 es r Θ2 Θx) : QJ X f W Θ (e :: es) (jCons t r) Θ2 Θx := by
  obtain ⟨ts, h1, h2⟩ := hr.r
  refine ⟨_ :: ts, .cons h.r h1, fun acc σ H Q h => ?_⟩
  obtain ⟨w, s, φ, rfl, o1, h⟩ := h
  refine ⟨w, s, φ, rfl, o1, Ef.mono (Ef.bind h) ?_⟩
  rintro x H1 ⟨w1, d, s1, φ1, rfl, g1, o1, r1, h⟩
  have r1 := r1.rd
  cases d with
  | str y =>
    obtain rfl : x = .str y := r1
    by_cases c : (acc ++ y).length ≤ sizeLine
    · simp only [c, if_true] at h
      exact ⟨y, rfl, c, h2 _ σ w1.H Q ⟨w1, s1, φ1, rfl, o1, h⟩⟩
    · simp only [c, if_false] at h; exact h.elim
  | _ => exact h.elim
def eJ (t : Str → St η → Eff η Str) : ER η := fun s => (t Str.empty s).bind fun x s1 => .ok (.str x) s1
theorem qe_js {v1 v2 : Expr} {rest : List Expr} {t : Str → St η → Eff η Str} (h : QJ X f W Θ (v1 :: v2 :: rest) t Θ1 Θx) : QE X f W Θ (.JoinedStr (v1 :: v2 :: rest) pos) (eJ t) .p Θ1 Θx := by
  obtain ⟨ts, h1, h2⟩ := h.r
  refine ⟨PE.imp (pe_joined h1) fun σ H Q h => h2 _ _ _ _ ?_⟩
  obtain ⟨w, s, φ, rfl, o1, h⟩ := h
  refine ⟨w, s, φ, rfl, o1, Ef.mono (Ef.bind h) ?_⟩
  rintro x H1 ⟨w1, d, s1, φ1, rfl, g1, o1, r1, h⟩
  subst r1
  exact h _ w1 φ1 (.refl w1) o1 (.p rfl)
theorem qe_js1 {t : ER η} (h : QE X f W Θ e t .p Θ1 Θx) : QE X f W Θ (.JoinedStr [e] pos) t .p Θ1 Θx := ⟨pe_joined1 h.r⟩
end
/-! ### join -/
def tyStr : D → Bool
  | .str _ => true
  | _ => false
theorem tyStr_ok {K : PySem.W.Frag} : ∀ (d : D) (v : V) (w : Wd), tyStr d = true → RD K w d v → tyV K "str" v w.H
  | .str x, v, w, _, h => by obtain rfl : v = .str x := h; exact rfl
  | .non, _, _, h, _ | .bl _, _, _, h, _ | .int _, _, _, h, _ | .ty _, _, _, h, _ | .ob _, _, _, h, _ | .tup _, _, _, h, _ | .fl _, _, _, h, _ | .fd _ _, _, _, h, _ => nomatch h
def joinD (a : Str) (ds : List D) : Option D := (asStrs ds).bind fun ys => if (ys.map (·.length)).sum + ys.length * a.length ≤ 16777216 then some (.str (Txt.join a ys)) else none
def joinM : D → List D → Option D
  | .str a, [.tup ds] => joinD a ds
  | .str a, [.fl ds] => joinD a ds
  | _, _ => none
theorem l_joinM {X : Cx} : LPR X.K "str" (fun x xs H Q => ∃ a p, ∃ ys : List Str, x = .str a ∧ xs = [.ref p] ∧ (SqL X.K H p (ys.map V.str) ∨ SqT X.K H p (ys.map V.str)) ∧ (ys.map (·.length)).sum + ys.length * a.length ≤ 16777216 ∧ Q (.str (Txt.join a ys)) H) tyStr joinM .p := ⟨tyStr_ok, by
  intro x xs w Q dx ds d rx rv h k
  have key : ∀ {a : Str} {es : List D}, joinD a es = some d → ∃ ys : List Str, es = ys.map D.str ∧ (ys.map (·.length)).sum + ys.length * a.length ≤ 16777216 ∧ d = .str (Txt.join a ys) := fun {a es} h => by
    obtain ⟨ys, h1, h⟩ := Option.bind_eq_some_iff.mp h
    by_cases c : (ys.map (·.length)).sum + ys.length * a.length ≤ 16777216
    · rw [if_pos c] at h; cases h; exact ⟨ys, asStrs_ok h1, c, rfl⟩
    · rw [if_neg c] at h; cases h
  unfold joinM at h
  split at h
  · rename_i a es
    cases (show x = .str a from rx)
    obtain ⟨v, _, rfl, ⟨p, vs, rfl, ht, r2, _⟩, rfl⟩ := rv
    obtain ⟨ys, rfl, hz, rfl⟩ := key h
    cases RDs.of_texts r2
    exact ⟨a, p, ys, rfl, rfl, .inr ht, hz, k _ w (.refl w) (.p rfl)⟩
  · rename_i a es
    cases (show x = .str a from rx)
    obtain ⟨v, _, rfl, ⟨p, vs, rfl, ht, r2⟩, rfl⟩ := rv
    obtain ⟨ys, rfl, hz, rfl⟩ := key h
    cases RDs.of_texts r2
    exact ⟨a, p, ys, rfl, rfl, .inl ht.l, hz, k _ w (.refl w) (.p rfl)⟩
  · cases h⟩
end FL

/-! GC: sorting by int keys whose calls may do what a state predicate allows. -/
namespace PySem.W
open PySem PySem.Calls PyProof.Rows
section
variable {prog : Program} {w : World} {A : Around} {E : Value → Shared → Prop} {s : Shared} {a kS : Addr} {b : Bool} {vs : List Value} {e e1 : Nat} {P : PySem.Fin → Shared → Prop} {ns : List Int} {S : Shared → Prop}
def IntOf (v : Value) (n : Int) : Prop := ∃ t, v = .int n t
theorem ints_alike (ns : List Int) : AllAlike (ns.map PyData.int) := AllAlike.of fun _ _ => rfl
theorem ints_sortable (ns : List Int) : Sortable (ns.map PyData.int) := Sortable.others (fun n => ⟨(fun z => nomatch z), (fun _ z => nomatch z)⟩)
theorem intOf_reads {h : Heap} : ∀ {us : List Value} {ns : List Int}, EachIs IntOf us ns → EachIs (fun v k => ∃ as, Reads h v k as) us (ns.map PyData.int)
  | _, _, .nil => .nil
  | _, _, .cons ⟨t, r⟩ q => by subst r; exact .cons ⟨_, .int _ t⟩ (intOf_reads q)
theorem keyS_rest {f : Value} (h0 : S s) (nk : s.heap.get? kS = some (seqObj "list" #[] 0)) (na : s.heap.get? a = some (seqObj "list" #[] e1)) (hka : kS ≠ a)
    (hlen : ns.length = vs.length) (hZ : vs.length ≤ sizeLine) (hu : A.units < cLine)
    (hup : ∀ (s : Shared) (h' : Heap), S s → Heap.SameBut kS s.heap h' → S { s with heap := h' })
    (turn : ∀ (i : Nat) (v : Value) (n : Int), vs[i]? = some v → ns[i]? = some n → ∀ s : Shared, S s → (∃ kA e, s.heap.get? kS = some (seqObj "list" kA e)) → s.heap.get? a = some (seqObj "list" #[] e1) →
      wpAny (model prog w) A (call f [v]) (fun u s₂ => IntOf u n ∧ S s₂ ∧ s₂.heap.get? kS = s.heap.get? kS ∧ s₂.heap.get? a = s.heap.get? a) (fun _ _ => False) s)
    (h : ∀ (s : Shared) h' tk out c, S s → (∀ b o, b ≠ a → b ≠ kS → s.heap.get? b = some o → h'.get? b = some o) → h'.get? a = some (seqObj "list" (List.toArray out) c) → KeyedOut b (ns.map PyData.int) vs out → P (.done (.ret .none)) { s with heap := h', toks := tk }) :
    wpAny (model prog w) A (ksk_rest a f b vs.toArray e1 (.ref kS)) P E s := by
  unfold ksk_rest
  refine wpAny_bind (wpAny_rule ?_)
  first
    | rw [List.forIn_toArray]
    | (rw [← Array.forIn_toList]; simp only [List.toList_toArray])
    | rw [← Array.forIn_toList]
  refine wpAny_bind (ksk_fold (fun i s' => S s' ∧ ∃ kA e, s'.heap.get? kS = some (seqObj "list" kA e) ∧ s'.heap.get? a = some (seqObj "list" #[] e1) ∧ EachIs IntOf kA.toList (ns.take i)) vs 0 s
    ⟨h0, #[], 0, nk, na, by rw [List.take_zero]; exact EachIs.nil⟩ ?step ?done)
  case step =>
    rintro j x s' hx ⟨hS, kA, e, nk', na', hk⟩
    simp only [Nat.zero_add] at hk ⊢
    have hj : j < vs.length := (List.getElem?_eq_some_iff.mp hx).1
    obtain ⟨k, hkj⟩ : ∃ k, ns[j]? = some k := ⟨_, List.getElem?_eq_getElem (by omega)⟩
    have hz : kA.size ≤ vs.length := by
      have h1 := hk.length
      rw [Array.length_toList, List.length_take] at h1
      omega
    refine wpAny_bind (wpAny_attempt (wpAny_mono (turn j x k hx hkj s' hS ⟨kA, e, nk'⟩ na') (fun v s'' he => ?_) fun _ _ hF => hF.elim))
    obtain ⟨hi, hS2, q1, q2⟩ := he
    try dsimp only
    have nk2 : s''.heap.get? kS = some (seqObj "list" kA e) := q1.trans nk'
    have na2 : s''.heap.get? a = some (seqObj "list" #[] e1) := q2.trans na'
    have s1 := Heap.SameBut.update s''.heap kS (Obj.mapSeq (·.push v))
    obtain ⟨c2, hc2⟩ : ∃ c2, (s''.heap.update kS (Obj.mapSeq (·.push v))).get? kS = some (seqObj "list" (kA.push v) c2) := ⟨_, get?_update_seq nk2 (·.push v)⟩
    have ek : ns.take (j + 1) = ns.take j ++ [k] := by rw [List.take_add_one, hkj]; simp
    have ea : (kA.push v).toList = kA.toList ++ [v] := by simp
    refine wpAny_bind (listUpdate_at nk2 rfl ?_ (Nat.le_trans hz hZ) (Nat.le_trans (Nat.le_of_eq (Array.size_push ..)) (Nat.succ_le_succ (Nat.le_trans hz hZ))))
    refine wpAny_pure ⟨rfl, hup _ _ hS2 s1, kA.push v, c2, hc2, (s1.2 a hka.symm).trans na2, ?_⟩
    rw [ea, ek]
    exact each_snoc hi hk
  case done =>
    rintro s' ⟨hS, kA, e, nk', na', hk⟩
    have e3 : ns.take (0 + vs.length) = ns := List.take_of_length_le (by omega)
    rw [e3] at hk
    have hk' : EachIs (fun v k => ∃ as, Reads s'.heap v k as) kA.toList (ns.map PyData.int) := intOf_reads hk
    have hsz : kA.size = vs.length := by
      have h1 := hk.length
      rw [Array.length_toList] at h1
      omega
    try dsimp only
    refine wpAny_bind (listItems_at nk' rfl ?_)
    have kp : KeepsBut a (hideAll s'.heap [kS]) s'.heap := fun b o hb q => of_hideAll _ q
    exact keyH_end (κ := dataKind s'.heap (ns.map PyData.int)) (h₁ := hideAll s'.heap [kS]) kp (hideAll_none _ (by simp)) nk' na' hka (SortsAt.data (s := s') hk' (ints_alike ns) (ints_sortable ns) (fun d hd => by obtain ⟨n, _, rfl⟩ := List.mem_map.mp hd; exact hu)) hsz hZ fun h3 tk3 c k3 n3 =>
      h s' h3 tk3 _ c hS (fun b o h1 h2 q => k3 b o h1 (hideAll_get _ q (by simpa using h2))) n3 ⟨s'.heap, kA.toList, ints_alike ns, rfl, hk'⟩
theorem keyS_tree {f : Value} {n : Nat} {S : Addr → Shared → Prop} (ho : s.heap.get? a = some (seqObj "list" vs.toArray n)) (h0 : S (s.heap.objs.size + 1) { s with heap := sortingHeap s.heap a vs })
    (hlen : ns.length = vs.length) (hZ : vs.length ≤ sizeLine) (hu : A.units < cLine)
    (hup : ∀ kS (s : Shared) (h' : Heap), S kS s → Heap.SameBut kS s.heap h' → S kS { s with heap := h' })
    (turn : ∀ kS (i : Nat) (v : Value) (n : Int), vs[i]? = some v → ns[i]? = some n → ∀ s : Shared, S kS s → (∃ kA e, s.heap.get? kS = some (seqObj "list" kA e)) → (∃ e1, s.heap.get? a = some (seqObj "list" #[] e1)) →
      wpAny (model prog w) A (call f [v]) (fun u s₂ => IntOf u n ∧ S kS s₂ ∧ s₂.heap.get? kS = s.heap.get? kS ∧ s₂.heap.get? a = s.heap.get? a) (fun _ _ => False) s)
    (h : ∀ kS (s : Shared) h' tk out c, S kS s → (∀ b o, b ≠ a → b ≠ kS → s.heap.get? b = some o → h'.get? b = some o) → h'.get? a = some (seqObj "list" (List.toArray out) c) → KeyedOut b (ns.map PyData.int) vs out → P (.done (.ret .none)) { s with heap := h', toks := tk }) :
    wpAny (model prog w) A (ksk_tree a f b) P E s := by
  have ha : a < s.heap.objs.size := Heap.lt_size ho
  obtain ⟨e1, ho1⟩ : ∃ e1, (s.heap.update a (Obj.mapSeq fun _ => (#[] : Array Value))).get? a = some (seqObj "list" #[] e1) := ⟨_, get?_update_seq ho fun _ => #[]⟩
  have hkS : ((s.heap.update a (Obj.mapSeq fun _ => (#[] : Array Value))).push (seqObj "tuple" vs.toArray 0)).objs.size = s.heap.objs.size + 1 := by rw [size_push', Heap.size_update]
  unfold ksk_tree
  refine wpAny_bind (listItems_at ho rfl ?_)
  refine wpAny_bind (listUpdate_at ho rfl ?_ (by rw [List.size_toArray]; exact hZ) (Nat.zero_le _))
  refine wpAny_bind (seqEpoch_at ho1 rfl ?_)
  refine wpAny_bind (wpAny_newTuple ?_ (by show vs.length ≤ _; exact hZ))
  refine wpAny_bind (wpAny_newList ?_ (Nat.zero_le _))
  refine wpAny_holding ?_
  refine keyS_rest (ns := ns) (S := S (s.heap.objs.size + 1)) (s := { s with heap := ((s.heap.update a (Obj.mapSeq fun _ => (#[] : Array Value))).push (seqObj "tuple" vs.toArray 0)).push (seqObj "list" #[] 0) }) (kS := ((s.heap.update a (Obj.mapSeq fun _ => (#[] : Array Value))).push (seqObj "tuple" vs.toArray 0)).objs.size)
    h0 (Heap.get?_push_size _ rfl) (Heap.get?_push_of_some _ (Heap.get?_push_of_some _ ho1)) (by rw [hkS]; exact Nat.ne_of_gt (Nat.lt_succ_of_lt ha)) hlen hZ hu (fun s h' q1 q2 => hup _ s h' q1 (by rw [hkS] at q2; exact q2)) (fun i v n h1 h2 s q1 q2 q3 => ?_) fun s h' tk out c q1 q2 q3 q4 => h _ s h' tk out c q1 (by rw [hkS] at q2; exact q2) q3 q4
  rw [hkS] at q2 ⊢
  exact turn _ i v n h1 h2 s q1 q2 ⟨e1, q3⟩
/-- sorted(xs, key=f), f's keys ints; S: what is known while f is called -/
theorem sorted_keyS {l : Addr} {f : Value} {kw : List (Str × Value)} {Q : Value → Shared → Prop} {S : Addr → Shared → Prop} (hl : s.heap.IsList l vs.toArray) (hlen : ns.length = vs.length) (hZ : vs.length ≤ sizeLine) (hu : A.units + 2 < cLine)
    (ha1 : argsOk "sorted" ⟨[.ref l], kw⟩) (ha2 : ∀ x, argsOk "list.sort" ⟨[.ref x], kw⟩) (ht : ∀ x, Builtin.«list.sort» ⟨[.ref x], kw⟩ = ksk_tree x f b)
    (h0 : ∀ (kS : Addr) (h' : Heap), s.heap.objs.size ≤ kS → kS ≠ s.heap.objs.size + 1 → (∀ b o, s.heap.get? b = some o → h'.get? b = some o) → S kS { s with heap := h' })
    (hup : ∀ kS (s : Shared) (h' : Heap), S kS s → Heap.SameBut kS s.heap h' → S kS { s with heap := h' })
    (turn : ∀ kS (i : Nat) (v : Value) (n : Int), vs[i]? = some v → ns[i]? = some n → ∀ s' : Shared, S kS s' → (∃ kA e, s'.heap.get? kS = some (seqObj "list" kA e)) → (∃ e1, s'.heap.get? (s.heap.objs.size + 1) = some (seqObj "list" #[] e1)) →
      wpAny (model prog w) A.in1.in1 (call f [v]) (fun u s₂ => IntOf u n ∧ S kS s₂ ∧ s₂.heap.get? kS = s'.heap.get? kS ∧ s₂.heap.get? (s.heap.objs.size + 1) = s'.heap.get? (s.heap.objs.size + 1)) (fun _ _ => False) s')
    (h : ∀ kS (s' : Shared) h' tk out c, S kS s' → (∀ b o, b ≠ s.heap.objs.size + 1 → b ≠ kS → s'.heap.get? b = some o → h'.get? b = some o) → h'.get? (s.heap.objs.size + 1) = some (seqObj "list" (List.toArray out) c) → KeyedOut b (ns.map PyData.int) vs out → Q (.ref (s.heap.objs.size + 1)) { s' with heap := h', toks := tk }) :
    wpAny (model prog w) A (call (.builtin "sorted") [.ref l] kw) Q E s := by
  refine sorted_of_sort hl hZ ha1 ha2 fun E' => ?_
  rw [ht]
  have hsz : (copyHeap s.heap vs).objs.size = s.heap.objs.size + 2 := by
    unfold copyHeap
    rw [size_push', Heap.size_update, size_push']
  refine keyS_tree (ns := ns) (S := S) (s := { s with heap := copyHeap s.heap vs }) (copyHeap_at s.heap vs) (h0 _ _ (by show s.heap.objs.size ≤ (copyHeap s.heap vs).objs.size + 1; omega) (by show (copyHeap s.heap vs).objs.size + 1 ≠ _; omega) fun b o q => sorting_copy_old q) hlen hZ (by show A.units + 1 + 1 < cLine; omega) hup
    (fun kS i v n h1 h2 s' q1 q2 q3 => turn kS i v n h1 h2 s' q1 q2 q3) fun kS s' h' tk out c q1 q2 q3 q4 => ⟨rfl, h kS s' h' tk out c q1 q2 q3 q4⟩
end
end PySem.W

/-! GD: a lambda of one parameter is called. -/
namespace LamX
open PySem PySem.Spec PyProof.Rows L2
theorem lam_call1 {CX : CXT} {P : Program} {w : World} {K : PySem.W.Frag} {mg : Str → Option Value} {base : Heap} {k : Nat} {f c' : Addr} {q a : Str} {params : Arguments} {body : Expr} {scope : Scope} {pm ctv : Value} {tb : TE}
    {A : Around} {outer : List Env} {s : Shared} {H : Hp} {u : Value} {v : V} {Q : VK} {E : XK} (S : FnScope [a] [a] scope) (hr : Room (k + 1) A) (e0 : Env0 P w K mg base A outer s H)
    (of1 : s.heap.get? f = some (PySem.W.kla_obj "<lambda>" q params body scope [] pm c' ctv)) (hc : H c' = some (CodeO c' q))
    (hbind : bindArgs (PySem.W.kla_fn "<lambda>" q params body scope [] pm (.ref c') ctv) ⟨[u], []⟩ = pure [(a, u)]) (r : RelV v u)
    (hbody : Room k (A.deeper (envOfC q scope s.heap.objs.size f (.ref c'))) → PE (cxOf CX P w K mg base [a] q scope f (.ref c') A outer s H E) body tb) (ht : tb (L2.start [a] [v]) H Q) :
    codeAny (model P w) A (.call (.ref f) ⟨[u], []⟩) (CR CX outer P w H s Q E) s := by
  obtain ⟨⟨oc, vs, t, hoc, hdc, hvc⟩, _, _⟩ := e0.hok c' _ hc
  have lim : s.heap.NoLimit := e0.mod.nolimit.keeps fun b o e => (e0.bs b o e).1
  have hkind : ∀ y ∈ [(a, u)], scope.names.lookup y.1 = some .local ∨ (scope.names.lookup y.1 = some .cell ∧ ((cellsFrom (s.heap.objs.size + 1) scope.names []).lookup y.1).isSome = true) := fun ⟨n, v⟩ hy => by
    have e : n = a := by
      cases List.mem_singleton.mp hy; rfl
    subst e
    rcases S.par n (List.mem_singleton.mpr rfl) with q | q
    · exact .inl q
    · exact .inr ⟨q, PySem.W.cellsFrom_some _ _ _ (.inl q)⟩
  refine PySem.W.kla_callFunE hr.depth of1 rfl S.co S.gen rfl ⟨c', oc, vs, t, rfl, hoc, hdc, hvc⟩ ?_
  rw [hbind]
  refine wpAny_pure (wpAny_newFunctionEnv_cells S.kind hkind fun env he s1 x => ?_)
  subst he
  refine ⟨lim.keeps x.toInCall.keep, ?_⟩
  have I : Inv (cxOf CX P w K mg base [a] q scope f (.ref c') A outer s H E) [] (L2.start [a] [v]) H s1 := inv_start S hr.hd e0 rfl (.cons r .nil) x
  refine PySem.W.kla_codeExpr (wpAny_mono ((hbody (hr.deeper _)).run [] s1 (L2.start [a] [v]) H Q I ht) (fun u' s' hq => ?_) fun e s' hq => hq)
  obtain ⟨w', H', J', rv, q⟩ := hq
  exact ⟨w', H', J'.os, J'.bare, J'.base, J'.hok, rv, q⟩
/-- nothing changes, or the table at P has grown by the lambda's code object -/
def Made (P : Addr) (q : Str) (H H1 : Hp) : Prop := H1 = H ∨ ∃ (ps more : Array Value) (c' : Addr), H P = some (.tbl ps) ∧ H c' = none ∧ H1 = upd (upd H P (.tbl (ps ++ more))) c' (CodeO c' q)
theorem Made.extN {P : Addr} {q : Str} {H H1 : Hp} (m : Made P q H H1) : ExtN H H1 := fun b o e n => by
  rcases m with rfl | ⟨ps, more, c', hP, hc, rfl⟩
  · exact e
  · rw [upd_ne (ne_of_none e hc), upd_ne (fun z => n ps (by rw [z, hP] at e; exact (Option.some.inj e).symm))]; exact e
theorem Made.dom {P : Addr} {q : Str} {H H1 : Hp} (m : Made P q H H1) {b : Addr} (e : H1 b = none) : H b = none := by
  rcases m with rfl | ⟨ps, more, c', hP, hc, rfl⟩
  · exact e
  · by_cases h1 : b = c'
    · rw [h1]; exact hc
    · by_cases h2 : b = P
      · rw [h2, upd_ne (ne_of_none hP hc), upd_same] at e; cases e
      · rw [upd_ne h1, upd_ne h2] at e; exact e
theorem Made.tbl {P : Addr} {q : Str} {H H1 : Hp} (m : Made P q H H1) {b : Addr} {qs : Array Value} (e : H1 b = some (.tbl qs)) : ∃ rs, H b = some (.tbl rs) := by
  rcases m with rfl | ⟨ps, more, c', hP, hc, rfl⟩
  · exact ⟨qs, e⟩
  · by_cases h1 : b = c'
    · rw [h1, upd_same] at e; exact absurd (Option.some.inj e) (codeO_ne qs)
    · by_cases h2 : b = P
      · rw [h2]; exact ⟨ps, hP⟩
      · rw [upd_ne h1, upd_ne h2] at e; exact ⟨qs, e⟩
section
variable {X : Cx} {pins : List (Addr × Obj)} {σ : L2.St} {H : Hp} {s : Shared}
theorem lam_make3 {T : List (Addr × Str)} {c P : Addr} {params : Arguments} {body : Expr} {scope : Scope} {pos : Pos} {E : Value → Shared → Prop} {Q : Value → Shared → Prop} (I : Inv X pins σ H s) (TB : TabB X.base X.mg c P) (hcode : X.env.code = .ref c)
    (hm : (P, X.env.qual ++ "<lambda>") ∈ T) (hu : ∀ p ∈ T, p.1 = P → p.2 = X.env.qual ++ "<lambda>") (hT : Tabs T H) (hdef : defaultsOf params X.env = ([], [])) (hfree : ∀ y ∈ scope.names, y.2 = .free → ∃ c, X.env.cells.lookup y.1 = some c)
    (h : ∀ (f c' : Addr) (pm ctv : Value) (H1 : Hp) (s' : Shared), Inv X pins σ H1 s' → Made P (X.env.qual ++ "<lambda>") H H1 → Tabs T H1 →
      s'.heap.get? f = some (PySem.W.kla_obj "<lambda>" (X.env.qual ++ "<lambda>") params body scope (cloFrom X.env.cells scope.names []) pm c' ctv) → H1 f = none → f ∉ frs X.stack → H1 c' = some (CodeO c' (X.env.qual ++ "<lambda>")) → Q (.ref f) s') :
    wpAny (model X.prog X.w) X.A (eval (.Lambda params body scope pos) X.env) Q E s := by
  obtain ⟨ps, hP, ht, ha⟩ := hT _ hm
  have hP' : s.heap.get? P = some { cls := .none, data := .fields ps } := I.hok P _ hP
  have notFr : ∀ f, s.heap.objs.size ≤ f → f ∉ frs X.stack := fun f hf z => (List.mem_cons.mp (I.stkSub _ z)).elim (fun e => absurd (Nat.lt_of_lt_of_le I.lt hf) (by rw [e]; exact Nat.lt_irrefl _)) (fun e => I.nofs hf e)
  refine PySem.W.kla_eval hdef ?_
  cases hc : codeAmong pos ps.toList with
  | some cv =>
    obtain ⟨c', rfl, hco⟩ := ha pos cv hc
    refine PySem.W.kla_makeFunctionHit (mg := X.mg) (c := c) (P := P) (ps := ps) (closure_ok hfree) I.ok.glob (I.mod.glob.keeps I.bk) hcode (TB.code.keeps I.bk) hP' ht hc (TB.bm.keeps I.bk) fun ctv h' tk hx hsz => ?_
    exact h h'.objs.size c' ((X.mg "__name__").getD .none) ctv H _ (I.kept fun b o e => Heap.get?_push_of_some _ (hx b o e)) (.inl rfl) hT (Heap.get?_push_size _ rfl) (I.hok.fresh hsz) (notFr _ hsz) hco
  | none =>
    refine PySem.W.kla_makeFunction (mg := X.mg) (c := c) (P := P) (ps := ps) (closure_ok hfree) I.ok.glob (I.mod.glob.keeps I.bk) hcode (TB.code.keeps I.bk) hP' ht hc TB.gP (TB.bm.keeps I.bk) fun c' ctv h' tk hx hge hlt hrec htb => ?_
    obtain ⟨_, oc, vs, t, ez, hoc, hd, hv⟩ := hrec
    cases ez
    have hsz : s.heap.objs.size ≤ h'.objs.size := Nat.le_trans hge (Nat.le_of_lt hlt)
    have nC := I.hok.fresh hge
    have md : Made P (X.env.qual ++ "<lambda>") H (upd (upd H P (.tbl (ps ++ #[rawInt pos.line, rawInt pos.col, .ref c']))) c' (CodeO c' (X.env.qual ++ "<lambda>"))) := .inr ⟨ps, #[rawInt pos.line, rawInt pos.col, .ref c'], c', hP, nC, rfl⟩
    have I1 := inv_table (t' := tk) (more := #[rawInt pos.line, rawInt pos.col, .ref c']) (h' := h'.push (PySem.W.kla_obj "<lambda>" (X.env.qual ++ "<lambda>") params body scope (cloFrom X.env.cells scope.names []) ((X.mg "__name__").getD .none) c' ctv)) I hP
      (fun b o hb e => Heap.get?_push_of_some _ (hx b o hb e)) (Heap.get?_push_of_some _ htb) hge ⟨oc, vs, t, Heap.get?_push_of_some _ hoc, hd, hv⟩
    have eL : (ps ++ #[rawInt pos.line, rawInt pos.col, .ref c']).toList = ps.toList ++ [rawInt pos.line, rawInt pos.col, .ref c'] := by simp
    refine h h'.objs.size c' ((X.mg "__name__").getD .none) ctv _ _ I1 md (fun p hp => ?_) (Heap.get?_push_size _ rfl) ?_ (notFr _ hsz) upd_same
    · by_cases hb : p.1 = P
      · rw [hu p hp hb, hb]
        refine ⟨_, by rw [upd_ne (ne_of_none hP nC), upd_same], by rw [eL]; exact PySem.TriplesOk_snoc _ _ _ _ ht, fun p' cv hcv => ?_⟩
        rw [eL] at hcv
        rcases among_app _ ht hcv with z | z
        · obtain ⟨c0, e1, e2⟩ := ha p' cv z
          exact ⟨c0, e1, md.extN _ _ e2 codeO_ne⟩
        · exact ⟨_, z, upd_same⟩
      · obtain ⟨ps', a1, a2, a3⟩ := hT p hp
        refine ⟨ps', by rw [upd_ne (ne_of_none a1 nC), upd_ne hb]; exact a1, a2, fun p' cv hcv => ?_⟩
        obtain ⟨c0, e1, e2⟩ := a3 p' cv hcv
        exact ⟨c0, e1, md.extN _ _ e2 codeO_ne⟩
    · rw [upd_ne (Nat.ne_of_gt hlt), upd_ne (Nat.ne_of_gt (Nat.lt_of_lt_of_le (Heap.lt_size hP') hsz))]
      exact I.hok.fresh hsz
end
end LamX

/-! GE: sorted by the int keys that a call gives, at the level of the invariant. -/
namespace FL
open PySem PySem.Spec PyProof.Rows L2
open PySem.W (dataLe EachIs KeyedOut keyedOut_each sorted_keyS IntOf)
variable [TabT]
section
variable {X : Cx} {pins : List (Addr × Obj)} {σ : L2.St} {H : Hp} {s : Shared} {h' : Heap}
theorem turned2 {t' : Nat} {a b : Addr} (I : Inv X pins σ H s) (k : ∀ c o, c ≠ a → c ≠ b → s.heap.get? c = some o → h'.get? c = some o) (fa : FpOk X pins H a) (fb : FpOk X pins H b) : Inv X pins σ H { s with heap := h', toks := t' } := by
  obtain ⟨a0, a1, _, a2, a3, a4⟩ := fa
  obtain ⟨b0, b1, _, b2, b3, b4⟩ := fb
  have nit : ∀ c u, H c = some u → c ≠ a ∧ c ≠ b := fun c u e => ⟨(fun z => by rw [z, a0] at e; cases e), (fun z => by rw [z, b0] at e; cases e)⟩
  have k2 : ∀ c o, c ∉ [a, b] → s.heap.get? c = some o → h'.get? c = some o := fun c o hc e => k c o (fun z => hc (by simp [z])) (fun z => hc (by simp [z])) e
  refine I.step (g' := s.gens) (d' := s.drawn) (ch := [a, b]) (fun c hc => ?_) (fun c o _ _ hc e _ => k2 c o hc e) (fun c o _ _ hc e _ => ⟨o.slots, k2 c o hc e⟩) (fun _ _ _ _ n => n)
    (fun c o hc e => ⟨o, k2 c o hc e⟩) (fun _ _ e => e) (fun _ _ _ e => e) (fun c ps e => ⟨#[], by rw [e]; simp⟩) (fun m hm => ?_) (fun c u e => ?_) I.bare
  · rcases List.mem_cons.mp hc with rfl | hc
    · exact ⟨a2, a1, a3, a4⟩
    · cases List.mem_singleton.mp hc
      exact ⟨b2, b1, b3, b4⟩
  · obtain ⟨o, es, ep, ho, r⟩ := hm
    exact ⟨o, es, ep, k _ o (Ne.symm a1) (Ne.symm b1) ho, r⟩
  · refine (I.hok c u e).stay (fun c v hc q => ?_) (fun _ q => q) fun _ _ q => q
    rcases hc with z | z
    · rw [z] at q ⊢; exact k _ v (nit _ u e).1 (nit _ u e).2 q
    · exact k c v (nit c _ z).1 (nit c _ z).2 q
theorem zip_fst : ∀ {xs : List V} {ns : List Int}, ns.length = xs.length → (xs.zip ns).map (·.1) = xs ∧ (xs.zip ns).map (·.2) = ns
  | [], [], _ => ⟨rfl, rfl⟩
  | [], _ :: _, h => nomatch h
  | _ :: _, [], h => nomatch h
  | x :: xs, n :: ns, h => by
    obtain ⟨h1, h2⟩ := zip_fst (xs := xs) (ns := ns) (by simpa using h)
    exact ⟨by rw [List.zip_cons_cons, List.map_cons, h1], by rw [List.zip_cons_cons, List.map_cons, h2]⟩
theorem vals_eachZ : ∀ {bs : List (V × Int)} {us : List Value}, Vals (bs.map (·.1)) us → EachIs (fun (u : Value) (b : V × Int) => RelV b.1 u) us bs
  | [], _, h => by cases h; exact .nil
  | _ :: _, _, h => by
    cases h with
    | cons r t => exact .cons r (vals_eachZ t)
theorem each_valsZ : ∀ {bs : List (V × Int)} {us : List Value}, EachIs (fun (u : Value) (b : V × Int) => RelV b.1 u) us bs → Vals (bs.map (·.1)) us
  | _, _, .nil => .nil
  | _, _, .cons r t => .cons r (each_valsZ t)
theorem sorted_call {l : Addr} {xs : List V} {ns : List Int} {J : Hp → Prop} {fp : Addr × Obj} {b : Bool} {kw : List (Str × Value)} {Q : VK} (I0 : Inv X pins σ H s) (hs : SqL X.K H l xs) (hlen : ns.length = xs.length) (hu : X.A.units + 64 < cLine)
    (J0 : J H) (hp : s.heap.get? fp.1 = some fp.2 ∧ H fp.1 = none ∧ fp.1 ≠ X.env.locals ∧ fp.1 ∉ X.fs ∧ ∀ v, fp.2.data ≠ .cell v)
    (ha1 : argsOk "sorted" ⟨[.ref l], kw⟩) (ha2 : ∀ x, argsOk "list.sort" ⟨[.ref x], kw⟩) (ht : ∀ x, Builtin.«list.sort» ⟨[.ref x], kw⟩ = ksk_tree x (.ref fp.1) false)
    (call1 : ∀ (i : Nat) x n, xs[i]? = some x → ns[i]? = some n → ∀ (s' : Shared) (H' : Hp) (u : Value), Env0 X.prog X.w X.K X.mg X.base X.A.in1.in1 X.stack s' H' → J H' → s'.heap.get? fp.1 = some fp.2 → H' fp.1 = none → RelV x u →
      codeAny (model X.prog X.w) X.A.in1.in1 (.call (.ref fp.1) ⟨[u], []⟩) (CR C8.CX0 X.stack X.prog X.w H' s' (fun v H2 => v = .int n ∧ J H2) C8.E0) s')
    (q : ∀ (H' : Hp) (p : Addr), J H' → H' p = none → Q (.ref p) (upd H' p (.lst (((xs.zip ns).mergeSort (dataLe false fun b => .int b.2)).map (·.1))))) :
    wpAny (model X.prog X.w) X.A (call (.builtin "sorted") [.ref l] kw) (EP X pins σ Q) X.xe s := by
  obtain ⟨its, rv, hl, hz⟩ := I0.list hs
  have hlv : xs.length = its.length := rv.length
  have I0' : Inv X (pins ++ [fp]) σ H s := I0.pins_of fun p hp' => (List.mem_append.mp hp').elim (fun z => I0.pin p (List.mem_append_right _ z)) fun z => by rw [List.mem_singleton.mp z]; exact hp
  obtain ⟨z1, z2⟩ := zip_fst hlen
  refine sorted_keyS (ns := ns) (b := false) (f := .ref fp.1) (vs := its) (S := fun kS s' => ∃ H', Inv X (pins ++ [fp]) σ H' s' ∧ J H' ∧ FpOk X (pins ++ [fp]) H' kS ∧ FpOk X (pins ++ [fp]) H' (s.heap.objs.size + 1) ∧ kS ≠ s.heap.objs.size + 1)
    hl.isList (by omega) (by omega) (by omega) ha1 ha2 ht (fun kS g h1 h2 h3 => ?_) (fun kS s' g ⟨H', I, j, f1, f2, ne⟩ sb => ?_) (fun kS i u n e1 e2 s' ⟨H', I, j, f1, f2, ne⟩ ⟨kA, e, g1⟩ ⟨e1', g2⟩ => ?_) (fun kS s' g tk out c ⟨H', I, j, f1, f2, ne⟩ k g1 ko => ?_)
  · exact ⟨H, I0'.kept (t' := s.toks) h3, J0, I0'.fpOk h1 (I0.hok.fresh h1), I0'.fpOk (Nat.le_succ _) (I0.hok.fresh (Nat.le_succ _)), h2⟩
  · exact ⟨H', I.turned (t' := s'.toks) (fun b ob hb e => (sb.2 b hb).trans e) f1.1 f1.2.1 f1.2.2.2.1 f1.2.2.2.2.1 f1.2.2.2.2.2, j, f1, f2, ne⟩
  · obtain ⟨x, hx, rx⟩ : ∃ x, xs[i]? = some x ∧ RelV x u := by
      have hi : i < xs.length := by have := (List.getElem?_eq_some_iff.mp e1).1; omega
      obtain ⟨u', h1, h2⟩ := rv.get (List.getElem?_eq_getElem hi)
      rw [e1] at h1
      cases h1
      exact ⟨_, List.getElem?_eq_getElem hi, h2⟩
    have pf := I.pin fp (List.mem_append_right _ (List.mem_append_right _ (List.mem_singleton.mpr rfl)))
    have I' : Inv X (pins ++ [fp] ++ [(kS, seqObj "list" kA e), (s.heap.objs.size + 1, seqObj "list" #[] e1')]) σ H' s' := I.pins_of fun p hp' => (List.mem_append.mp hp').elim (fun z => I.pin p (List.mem_append_right _ z)) fun z => by
      rcases List.mem_cons.mp z with rfl | z
      · exact ⟨g1, f1.1, f1.2.1, f1.2.2.1, fun v z => nomatch z⟩
      · cases List.mem_singleton.mp z
        exact ⟨g2, f2.1, f2.2.1, f2.2.2.1, fun v z => nomatch z⟩
    refine wpAny_call (codeAny_mono (call1 i x n hx e2 s' H' u I.env0.in1.in1 j pf.1 pf.2.1 rx) fun r s2 hq => ?_)
    cases r with
    | error e => exact (show False from hq).elim
    | ok fl =>
      cases fl with
      | ret u2 =>
        obtain ⟨v, H2, I2, r2, ev, j2⟩ := I'.after hq
        subst ev
        have pk := I2.pin (kS, seqObj "list" kA e) (List.mem_append_right _ (List.mem_append_right _ (List.mem_cons_self ..)))
        have pa := I2.pin (s.heap.objs.size + 1, seqObj "list" #[] e1') (List.mem_append_right _ (List.mem_append_right _ (List.mem_cons_of_mem _ (List.mem_singleton.mpr rfl))))
        have I3 : Inv X (pins ++ [fp]) σ H2 s2 := I2.pins_of fun p hp' => I2.pin p (List.mem_append_right _ (List.mem_append_left _ hp'))
        exact ⟨r2, ⟨H2, I3, j2, ⟨pk.2.1, f1.2⟩, ⟨pa.2.1, f2.2⟩, ne⟩, pk.1.trans g1.symm, pa.1.trans g2.symm⟩
      | next => exact False.elim hq
      | brk => exact False.elim hq
      | cont => exact False.elim hq
  · have I1 : Inv X (pins ++ [fp]) σ H' { s' with heap := g, toks := tk } := turned2 I (fun b o h1 h2 e => k b o h1 h2 e) f2 f1
    have en : ns.map PyData.int = (xs.zip ns).map fun b => PyData.int b.2 := by
      have := congrArg (List.map PyData.int) z2
      rw [List.map_map] at this
      exact this.symm
    rw [en] at ko
    have k1 := each_valsZ (keyedOut_each (fun b : V × Int => PyData.int b.2) ko (vals_eachZ (bs := xs.zip ns) (by rw [z1]; exact rv)))
    have hlen2 : (((xs.zip ns).mergeSort (dataLe false fun b => .int b.2)).map (·.1)).length ≤ sizeLine := by
      rw [List.length_map, (List.mergeSort_perm _ _).length_eq]
      have := congrArg List.length z1
      rw [List.length_map] at this
      omega
    have I2 : Inv X (pins ++ [fp]) σ (upd H' (s.heap.objs.size + 1) (.lst (((xs.zip ns).mergeSort (dataLe false fun b => .int b.2)).map (·.1)))) { s' with heap := g, toks := tk } := I1.take (h' := g) (t' := tk) (fun b ob _ e => e) f2 ⟨hlen2, out, c, k1, g1⟩
    exact ⟨.ref (s.heap.objs.size + 1), _, I2.pins_of fun p hp' => I2.pin p (List.mem_append_right _ (List.mem_append_left _ hp')), rfl, q H' _ j f2.1⟩
end
end FL

/-! GF: sorted(xs, key=lambda a: body), body an int. -/
namespace FL
open PySem PySem.Spec PyProof.Rows L2
open PySem.W (dataLe)
open LamX (Tabs ExtN CodeO TabB Made lam_make3 lam_call1)
variable [TabT]
section
variable {X : Cx} {e : Expr} {ta : TA} {tb : TE} {p pos kpos lpos : Pos} {a : Str} {params : Arguments} {body : Expr} {scope : Scope} {c P : Addr} {k : Nat}
def tSortLam (K : PySem.W.Frag) (P : Addr) (q : Str) (a : Str) (tb : TE) (ta : TA) : TE := fun σ H Q => ta σ H fun vs H1 => ∃ (l : Addr) (xs : List V) (ns : List Int), vs = [V.ref l] ∧ SqL K H1 l xs ∧ ns.length = xs.length ∧ Tabs TabT.T H1 ∧
  ∀ (H2 : Hp) (c' : Addr), Made P q H1 H2 → Tabs TabT.T H2 → H2 c' = some (CodeO c' q) → ∃ J : Hp → Prop, J H2 ∧ (∀ H', J H' → H' c' = some (CodeO c' q)) ∧
    (∀ (i : Nat) x n, xs[i]? = some x → ns[i]? = some n → ∀ H', J H' → tb (L2.start [a] [x]) H' fun v H'' => v = .int n ∧ J H'') ∧
    ∀ (H' : Hp) (p : Addr), J H' → H' p = none → Q (.ref p) (upd H' p (.lst (((xs.zip ns).mergeSort (dataLe false fun b => .int b.2)).map (·.1))))
theorem pe_sortLam (hg : Gl X "sorted") (hm : X.mg "sorted" = none) (ha : PA X [e] ta) (TB : TabB X.base X.mg c P) (hcode : X.env.code = .ref c) (hT : (P, X.env.qual ++ "<lambda>") ∈ TabT.T) (hu : ∀ p ∈ TabT.T, p.1 = P → p.2 = X.env.qual ++ "<lambda>") (hr : Room (k + 4) X.A)
    (S : FnScope [a] [a] scope) (hfree : ∀ y ∈ scope.names, y.2 ≠ .free) (hclo : cloFrom X.env.cells scope.names [] = []) (hdef : defaultsOf params X.env = ([], []))
    (hbind : ∀ (u pm cv ctv : Value), bindArgs (PySem.W.kla_fn "<lambda>" (X.env.qual ++ "<lambda>") params body scope [] pm cv ctv) ⟨[u], []⟩ = pure [(a, u)])
    (hbody : ∀ (A : Around) (outer : List Env) (s : Shared) (H : Hp) (f c' : Addr), Room k (A.deeper (envOfC (X.env.qual ++ "<lambda>") scope s.heap.objs.size f (.ref c'))) → PE (cxOf C8.CX0 X.prog X.w X.K X.mg X.base [a] (X.env.qual ++ "<lambda>") scope f (.ref c') A outer s H C8.E0) body tb)
    (he : backTo pos (starEach [e] X.env) = (false, eval e X.env) :: backTo pos (starEach [] X.env) := by rfl) (hpl : (backTo pos (starEach [e] X.env)).any (·.1) = false := by rfl) :
    PE X (.Call (.Name "sorted" p) [e] [⟨some "key", .Lambda params body scope lpos, kpos⟩] pos) (tSortLam X.K P (X.env.qual ++ "<lambda>") a tb ta) := by
  refine ⟨fun pins s σ H Q I h => ?_⟩
  refine wpAny_Call_Name_kw (ld_blt I hg hm (u := .builtin "sorted") (by first | rfl | decide +kernel) ?_ (by first | decide +kernel | decide) (by first | decide +kernel | decide))
  refine PyProof.Rows.callWith_kw (thn (ha.run pos pins s σ H _ I h) fun us s1 ⟨vs, H1, I1, r1, l, xs, ns, ev, hs, hlen, hTb, q⟩ => ?_) he hpl rfl rfl
  subst ev
  show wpAny _ _ (evalAll ((do let v ← eval (.Lambda params body scope lpos) X.env; standAt pos; pure v) :: [])) _ _ s1
  refine wpAny_evalAll_cons (wpAny_bind (lam_make3 I1 TB hcode hT hu hTb hdef (fun y hy z => absurd z (hfree y hy)) fun f c' pm ctv H2 s2 I2 md T2 hf hfn hfr hco => wpAny_bind (wpAny_standAt (wpAny_pure (wpAny_evalAll_nil ?_)))))
  rw [hclo] at hf
  obtain ⟨J, J0, Jc, Jb, Jq⟩ := q H2 c' md T2 hco
  rw [Vals.ref1 r1]
  have hs2 : SqL X.K H2 l xs := by
    rcases hs with (h | ⟨o, h⟩) | h
    · exact .inl (.inl (md.extN _ _ h fun _ z => nomatch z))
    · exact .inl (.inr ⟨o, md.extN _ _ h fun _ z => nomatch z⟩)
    · exact .inr h
  have fL : f ≠ X.env.locals := fun z => by
    obtain ⟨m, ⟨o, es, ep, ho, hd, _⟩, _⟩ := I2.loc
    rw [z, ho] at hf
    cases hf
    cases hd
  have fF : f ∉ X.fs := fun z => by
    rcases I2.ok.stk with e | ⟨e, hf'⟩
    · exact hfr (by rw [e]; exact z)
    · exact hfr (by rw [e]; unfold frs; rw [List.filterMap_cons, hf']; exact List.mem_cons_of_mem _ z)
  refine sorted_call (fp := (f, _)) (J := J) (ns := ns) (b := false) I2 hs2 hlen (by have := hr.units; omega) J0 ⟨hf, hfn, fL, fF, fun v z => nomatch z⟩ (ksk_s1 _ _) (fun x => ksk_l1 _ _) (fun x => ksk_t1 _ _) (fun i x n e1 e2 s' H' u e0 j g1 g2 r => ?_) Jq
  exact lam_call1 (k := k) S (hr.in1.in1.mono (by omega)) e0 g1 (Jc _ j) (hbind _ _ _ _) r (fun hr' => hbody _ _ _ _ _ _ hr') (Jb i x n e1 e2 H' j)
end
end FL

/-! GG: sorted(xs, key=lambda a: body), body an int, as a rule of this layer. -/
namespace FL
open PySem PySem.Spec PyProof.Rows L2
open PySem.W (dataLe)
open LamX (Tabs ExtN CodeO TabB Made)
variable [TabT]
theorem made_gr {w : Wd} {P : Addr} {q : Str} {H2 : Hp} (md : Made P q w.H H2) (T2 : Tabs TabT.T H2) : Gr no w ⟨w.ρ, H2, w.lk⟩ :=
  ⟨fun a o p h => md.extN _ _ h fun ps z => by subst z; exact p, fun a o _ t h => md.extN _ _ h t, fun _ _ h => h, fun _ => Iff.rfl, fun a _ z => md.dom z, fun t => ⟨T2, fun P ps e => let ⟨rs, h⟩ := md.tbl e; t.2 P rs h⟩⟩
theorem Gr.news {f : Addr → Prop} {w w' : Wd} (g : Gr f w w') (hf : ∀ a, f a → w.H a = none) : Gr no w w' :=
  ⟨g.per, fun a o _ t h => g.keep a o (fun z => by rw [hf a z] at h; cases h) t h, g.ob, g.lk, fun a _ z => Classical.byContradiction fun c => c (g.dm a (fun y => c (hf a y)) z), g.tab⟩
def keyI (t : ER Unit) (d : D) : Option Int := match t (startS 1 [d]) with
  | .ok (.int n) _ => some n
  | _ => none
theorem keyI_ok {t : ER Unit} {d : D} {n : Int} (h : keyI t d = some n) : ∃ s, t (startS 1 [d]) = .ok (.int n) s := by
  unfold keyI at h
  split at h
  · rename_i e; cases h; exact ⟨_, e⟩
  · cases h
def keysI (t : ER Unit) : List D → Option (List Int)
  | [] => some []
  | d :: ds => (keyI t d).bind fun n => (keysI t ds).map (n :: ·)
theorem keysI_ok {t : ER Unit} : ∀ {ds : List D} {ns : List Int}, keysI t ds = some ns → ns.length = ds.length ∧ ∀ (i : Nat) d n, ds[i]? = some d → ns[i]? = some n → keyI t d = some n
  | [], _, h => by cases h; exact ⟨rfl, fun i d n e => by simp at e⟩
  | d :: ds, _, h => by
    obtain ⟨n, h1, h⟩ := Option.bind_eq_some_iff.mp h
    obtain ⟨ns, h2, rfl⟩ := Option.map_eq_some_iff.mp h
    obtain ⟨q1, q2⟩ := keysI_ok h2
    refine ⟨by simp [q1], fun i d' n' e1 e2 => ?_⟩
    cases i with
    | zero => cases e1; cases e2; exact h1
    | succ i => exact q2 i d' n' (by simpa using e1) (by simpa using e2)
def sortByI (ds : List D) (ns : List Int) : List D := ((ds.zip ns).mergeSort (dataLe false fun b => .int b.2)).map (·.1)
theorem rds_sortByI {K : PySem.W.Frag} {w : Wd} {ds : List D} {xs : List V} (r : RDs K w ds xs) (ns : List Int) : RDs K w (sortByI ds ns) (((xs.zip ns).mergeSort (dataLe false fun b => .int b.2)).map (·.1)) := by
  obtain ⟨bs, rfl, rfl, hb⟩ := r.zip
  have e1 : (bs.map (·.1)).zip ns = (bs.zip ns).map fun t => (t.1.1, t.2) := by rw [List.zip_map_left]; rfl
  have e2 : (bs.map (·.2)).zip ns = (bs.zip ns).map fun t => (t.1.2, t.2) := by rw [List.zip_map_left]; rfl
  unfold sortByI
  rw [e1, e2, ← List.map_mergeSort (f := fun t : (V × D) × Int => (t.1.1, t.2)) (r := dataLe false fun t : (V × D) × Int => .int t.2) (fun _ _ _ _ => rfl), ← List.map_mergeSort (f := fun t : (V × D) × Int => (t.1.2, t.2)) (r := dataLe false fun t : (V × D) × Int => .int t.2) (fun _ _ _ _ => rfl), List.map_map, List.map_map]
  have := RDs.of_zip (K := K) (w := w) (bs := ((bs.zip ns).mergeSort (dataLe false fun t : (V × D) × Int => .int t.2)).map (·.1)) fun b hb' => by
    obtain ⟨t, ht, rfl⟩ := List.mem_map.mp hb'
    exact hb _ (List.of_mem_zip (a := t.1) (b := t.2) ((List.mergeSort_perm _ _).mem_iff.mp ht)).1
  rw [List.map_map, List.map_map] at this
  exact this
def sortLamO (t : ER Unit) : List D → Option D
  | [.fl es] => (keysI t es).map fun ns => .fl (sortByI es ns)
  | _ => none
theorem sortLamO_ok {t : ER Unit} {ds : List D} {d : D} (h : sortLamO t ds = some d) : ∃ es ns, ds = [.fl es] ∧ keysI t es = some ns ∧ d = .fl (sortByI es ns) := by
  unfold sortLamO at h
  split at h
  · obtain ⟨ns, h1, rfl⟩ := Option.map_eq_some_iff.mp h
    exact ⟨_, ns, rfl, h1, rfl⟩
  · cases h
section
variable {η : Type} [HR η] {X : Cx} {f : Fm} {W : WX} {Θ Θ1 Θx Θy Θz : Th} {e : Expr} {te : St η → Eff η (List D)} {t : ER Unit} {p pos kpos lpos : Pos} {a : Str} {params : Arguments} {body : Expr} {scope : Scope} {c P : Addr} {k : Nat}
def eSortLam (t : ER Unit) (te : St η → Eff η (List D)) : ER η := fun s => (te s).bind fun ds s1 => (Out.of (sortLamO t ds)).eff s1
theorem qe_sortLam (hg : Gl X "sorted") (hm : X.mg "sorted" = none) (ha : QAs X f W Θ [e] te Θ1 Θx) (TB : TabB X.base X.mg c P) (hcode : X.env.code = .ref c) (hT : (P, X.env.qual ++ "<lambda>") ∈ TabT.T) (hu : ∀ p ∈ TabT.T, p.1 = P → p.2 = X.env.qual ++ "<lambda>") (hr : Room (k + 4) X.A)
    (S : FnScope [a] [a] scope) (hfree : ∀ y ∈ scope.names, y.2 ≠ .free) (hclo : cloFrom X.env.cells scope.names [] = []) (hdef : defaultsOf params X.env = ([], []))
    (hbind : ∀ (u pm cv ctv : Value), bindArgs (PySem.W.kla_fn "<lambda>" (X.env.qual ++ "<lambda>") params body scope [] pm cv ctv) ⟨[u], []⟩ = pure [(a, u)])
    (hbody : ∀ (g : Fm) (A : Around) (outer : List Env) (s : Shared) (H : Hp) (fl c' : Addr), Room k (A.deeper (envOfC (X.env.qual ++ "<lambda>") scope s.heap.objs.size fl (.ref c'))) → QE (cxOf C8.CX0 X.prog X.w X.K X.mg X.base [a] (X.env.qual ++ "<lambda>") scope fl (.ref c') A outer s H C8.E0) g W0 [.own .p] body t .p Θy Θz)
    (he : backTo pos (starEach [e] X.env) = (false, eval e X.env) :: backTo pos (starEach [] X.env) := by rfl) (hpl : (backTo pos (starEach [e] X.env)).any (·.1) = false := by rfl) :
    QE X f W Θ (.Call (.Name "sorted" p) [e] [⟨some "key", .Lambda params body scope lpos, kpos⟩] pos) (eSortLam t te) (.own (.l .p)) Θ1 Θx :=
  ⟨PE.imp (pe_sortLam (tb := fun σ H Q => ∃ g : Fm, lE X.K X.mg g W0 [.own .p] Θy Θz (fun w φ d v => RE X.K g w φ .p d v) t σ H Q) hg hm ha.r TB hcode hT hu hr S hfree hclo hdef hbind (fun A outer s H fl c' hr' => PE.ex fun g => (hbody g A outer s H fl c' hr').r) he hpl) fun σ H Q ⟨w, s, φ, e1, o, h⟩ => by
  subst e1
  refine ⟨w, s, φ, rfl, o, Ef.mono (Ef.bind h) ?_⟩
  rintro vs H1 ⟨w1, ds, s1, φ1, rfl, g1, o1, r1, h⟩
  cases hO : sortLamO t ds with
  | none => rw [hO] at h; exact h.elim
  | some d =>
    rw [hO] at h
    obtain ⟨es, ns, rfl, hk, rfl⟩ := sortLamO_ok hO
    obtain ⟨hl, hget⟩ := keysI_ok hk
    obtain ⟨v, _, rfl, ⟨l, xs, rfl, hs, rv⟩, rfl⟩ := r1
    refine ⟨l, xs, ns, rfl, hs.l, by rw [rv.len]; exact hl, o1.tab.1, fun H2 c' md T2 hco => ?_⟩
    have G := made_gr md T2
    refine ⟨fun H' => ∃ w', w'.H = H' ∧ Gr no ⟨w1.ρ, H2, w1.lk⟩ w', ⟨_, rfl, .refl _⟩, ?_, ?_, ?_⟩
    · rintro H' ⟨w', rfl, g⟩
      exact g.per c' (CodeO c' _) trivial hco
    · rintro i x n e1 e2 H' ⟨w', rfl, g⟩
      have o2 := (o1.gr0 G).gr0 g
      obtain ⟨d, hd⟩ : ∃ d, es[i]? = some d := by
        have : i < xs.length := (List.getElem?_eq_some_iff.mp e1).1
        exact ⟨_, List.getElem?_eq_getElem (by rw [← rv.len]; exact this)⟩
      obtain ⟨x', hx', rd⟩ := rv.get hd
      rw [e1] at hx'
      cases hx'
      obtain ⟨s', hs'⟩ := keyI_ok (hget i d n hd e2)
      obtain ⟨φ0, o0⟩ := OwnS.begin (K := X.K) (w := w') (ms := [.own .p]) (ds := [d]) (vs := [x]) (A := []) (N := [a]) ⟨o2.lkd, o2.tab⟩ ⟨d, [], x, [], [], [], rfl, rfl, rfl, ⟨(rd.gr G).gr g, rfl⟩, rfl, rfl, rfl⟩ List.nodup_nil (Nat.le_refl _)
      refine ⟨_, w', startS 1 [d], φ0, rfl, o0, ?_⟩
      rw [hs']
      exact fun v w3 φ3 g3 o3 r3 => ⟨r3.rd, w3, rfl, g.trans (g3.news fun b hb => hb.resolve_left fun z => nomatch z)⟩
    · rintro H' p ⟨w', rfl, g⟩ np
      have o2 := (o1.gr0 G).gr0 g
      exact h (.ref p) (w'.up p _) φ1 ((G.trans g).trans (.new np)).any (o2.gr0 (.new np)) ((RP.newL (.refl w') np (rds_sortByI ((rv.gr G).gr g) ns)).re o2 (.new np))⟩
end
end FL

/-! GH: {k: v}. -/
namespace FL
open PySem PySem.Spec PyProof.Rows L2
variable [TabT]
section
variable {η : Type} [HR η] {X : Cx} {f : Fm} {W : WX} {Θ : Th} {k v : Expr} {pos : Pos} {tk tv : PR η}
def disp1 (dk dv : D) : Out D := match key2 false dk with
  | some kk => .ok (.fd false [(kk, dv)])
  | none => .stuck
def fDisp1 (tk tv : PR η) : PR η := fun s => (tk s).bind fun dk => (tv s).bind fun dv => disp1 dk dv
theorem qp_disp1 (hk : QP X f W Θ k tk .p) (hv : QP X f W Θ v tv .p) : QP X f W Θ (.Dict [some k] [v] pos) (fDisp1 tk tv) (.own (.mK .p)) := ⟨PE.imp (pe_disp (pps_cons hk.r hv.r pps_nil) rfl rfl (by simp) (by simp)) fun σ H Q h p hp => by
  obtain ⟨w, s, φ, rfl, hs, h⟩ := h
  have g0 : Gr no w (w.up p (.dK [])) := .new hp
  refine ⟨w.up p (.dK []), s, φ, rfl, hs.gr0 g0, ?_⟩
  unfold fDisp1 at h
  cases hkk : tk s with
  | stuck => rw [hkk] at h; exact h
  | exc c => rw [hkk] at h; exact h.gr g0
  | ok dk =>
    rw [hkk] at h
    intro x w1 g1 r1
    refine ⟨w1, s, φ, rfl, (hs.gr0 g0).gr0 g1, ?_⟩
    simp only [Out.bind_ok] at h
    cases hvv : tv s with
    | stuck => rw [hvv] at h; exact h
    | exc c => rw [hvv] at h; exact h.gr (g0.trans g1)
    | ok dv =>
      rw [hvv] at h
      intro y w2 g2 r2
      simp only [Out.bind_ok] at h
      unfold disp1 at h
      cases hd : key2 false dk with
      | none => rw [hd] at h; exact h.elim
      | some kk =>
        rw [hd] at h
        have rx := r1.rd
        have hp2 : w2.H p = some (.dK []) := g2.keep p _ id (fun _ z => nomatch z) (g1.keep p _ id (fun _ z => nomatch z) upd_same)
        have ki := key2_ok (rx.gr g2).fv hd
        cases ki with
        | k κ =>
          have G : Gr no w (w2.up p (.dK [(κ, y)])) := Gr.upNew ((g0.trans g1).trans g2) hp hp2 id
          have rv : RD X.K (w2.up p (.dK [(κ, y)])) dv y := r2.rd.gr (f := fun b => b = p) (.mut hp2 id rfl)
          refine ⟨hp2, [(κ, y)], rfl, by simp, ?_⟩
          refine h (.ref p) (w2.up p (.dK [(κ, y)])) G ⟨[p], .inr ⟨[(.inl κ, dv)], p, [(κ, y)], [p], [], rfl, rfl, .inl ⟨upd_same, rfl⟩, (RKs.allK ⟨y, [], rfl, rv, rfl⟩), rfl⟩, List.nodup_cons.mpr ⟨fun z => (nomatch z), List.nodup_nil⟩, fun a ha => by rw [List.mem_singleton.mp ha]; exact hp⟩⟩
end
end FL

/-! GI: a written dict of the module, text keys: k in d, d[k]. -/
namespace FL
open PySem PySem.Spec PyProof.Rows L2
variable [TabT]
/-- at p: a written dict of these pairs -/
structure KTab (K : PySem.W.Frag) (w : World) (p : Addr) (kvs : List (Str × D)) : Prop where
  ex : ∃ es n, KDict K w p es n
  hit : ∀ z d, kvs.lookup z = some d → ∃ u v, PySem.W.nsIn K p z = some (some u) ∧ RelV v u ∧ ∀ w : Wd, RD K w d v
  miss : ∀ z, kvs.lookup z = none → PySem.W.nsIn K p z = some none
def inK (n : Bool) (kvs : List (Str × D)) : D → Option D
  | .str z => some (.bl (if n then !(kvs.lookup z).isSome else (kvs.lookup z).isSome))
  | _ => none
def ixK (kvs : List (Str × D)) : D → Option D
  | .str z => kvs.lookup z
  | _ => none
section
variable {η : Type} [HR η] {X : Cx} {f : Fm} {W : WX} {Θ : Th} {a : Expr} {ta : PR η} {pos pos' : Pos} {x : Str} {p : Addr} {kvs : List (Str × D)}
def fK (g : D → Option D) (ta : PR η) : PR η := fun s => (ta s).bind fun x => .of (g x)
theorem lK {K : PySem.W.Frag} {mg : Str → Option Value} {g : D → Option D} {r : V → VK → Hp → Prop} (hr : ∀ x w Q dx d, RD K w dx x → g dx = some d → (∀ v w', Gr no w w' → RP K w w' .p d v → Q v w'.H) → r x Q w.H) {σ : L2.St} {H : Hp} {Q : VK} (h : lP K mg f W Θ (fK g ta) .p σ H Q) : lP K mg f W Θ ta .p σ H fun x H1 => r x Q H1 := by
  obtain ⟨w, s, φ, rfl, hs, h⟩ := h
  refine ⟨w, s, φ, rfl, hs, ?_⟩
  unfold fK at h
  cases ha : ta s with
  | stuck => rw [ha] at h; exact h
  | exc c => rw [ha] at h; exact h
  | ok dx =>
    rw [ha] at h
    intro v w1 g1 r1
    simp only [Out.bind_ok] at h
    cases hg : g dx with
    | none => rw [hg] at h; exact h.elim
    | some d =>
      rw [hg] at h
      exact hr v w1 Q dx d r1.rd hg fun u w2 g2 r2 => h u w2 (g1.trans g2) (r2.back g1)
theorem KTab.some_ {K : PySem.W.Frag} {w : World} (T : KTab K w p kvs) (z : Str) : ∃ r : Option Value, PySem.W.nsIn K p z = some r ∧ r.isSome = (kvs.lookup z).isSome := by
  cases h : kvs.lookup z with
  | none => exact ⟨none, T.miss z h, rfl⟩
  | some d => obtain ⟨u, v, h1, _⟩ := T.hit z d h; exact ⟨some u, h1, rfl⟩
theorem qp_inK (T : KTab X.K X.w p kvs) (ha : QP X f W Θ a ta .p) (hg : Gl X x) (hm : X.mg x = some (.ref p)) (h1 : (x == ("__debug__" : Str)) = false := by decide) (hb : behindInMarks .In (.Name x pos') = false := by rfl) : QP X f W Θ (.Compare a [.In] [.Name x pos'] pos) (fK (inK false kvs) ta) .p := by
  obtain ⟨es, n, D⟩ := T.ex
  refine ⟨PE.imp (pe_cmpR (op_in_kd D) ha.r (pe_glob hg hm (v := .ref p) rfl h1) hb) fun σ H Q h => lK (r := fun y Q H => ∃ (z : Str) (r : Option Value), y = .str z ∧ V.ref p = .ref p ∧ PySem.W.nsIn X.K p z = some r ∧ Q (.bl r.isSome) H) (fun y w Q dx d rx hgd k => ?_) h⟩
  cases dx <;> first | (cases hgd; done) | skip
  rename_i z
  cases hgd
  obtain ⟨r, h1, h2⟩ := T.some_ z
  exact ⟨z, r, rx, rfl, h1, k _ w (.refl w) (.p (by rw [h2]; rfl))⟩
theorem qp_notInK (T : KTab X.K X.w p kvs) (ha : QP X f W Θ a ta .p) (hg : Gl X x) (hm : X.mg x = some (.ref p)) (h1 : (x == ("__debug__" : Str)) = false := by decide) (hb : behindInMarks .NotIn (.Name x pos') = false := by rfl) : QP X f W Θ (.Compare a [.NotIn] [.Name x pos'] pos) (fK (inK true kvs) ta) .p := by
  obtain ⟨es, n, D⟩ := T.ex
  refine ⟨PE.imp (pe_cmpR (op_notIn_kd D) ha.r (pe_glob hg hm (v := .ref p) rfl h1) hb) fun σ H Q h => lK (r := fun y Q H => ∃ (z : Str) (r : Option Value), y = .str z ∧ V.ref p = .ref p ∧ PySem.W.nsIn X.K p z = some r ∧ Q (.bl (!r.isSome)) H) (fun y w Q dx d rx hgd k => ?_) h⟩
  cases dx <;> first | (cases hgd; done) | skip
  rename_i z
  cases hgd
  obtain ⟨r, h1, h2⟩ := T.some_ z
  exact ⟨z, r, rx, rfl, h1, k _ w (.refl w) (.p (by rw [h2]; rfl))⟩
theorem qp_ixK (T : KTab X.K X.w p kvs) (ha : QP X f W Θ a ta .p) (hg : Gl X x) (hm : X.mg x = some (.ref p)) (h1 : (x == ("__debug__" : Str)) = false := by decide) (hs : PlainIx a := by exact fun _ _ => rfl) : QP X f W Θ (.Subscript (.Name x pos') a pos) (fK (ixK kvs) ta) .p := by
  obtain ⟨es, n, D⟩ := T.ex
  refine ⟨PE.imp (pe_ix ix_kdict (pe_glob hg hm (v := .ref p) rfl h1) ha.r hs) fun σ H Q h => lK (r := fun y Q H => ∃ q z v, V.ref p = .ref q ∧ y = .str z ∧ KDct X.K X.w q z v ∧ Q v H) (fun y w Q dx d rx hgd k => ?_) h⟩
  cases dx <;> first | (cases hgd; done) | skip
  rename_i z
  obtain ⟨u, v, q1, q2, q3⟩ := T.hit z d hgd
  exact ⟨p, z, v, rfl, rx, ⟨es, n, u, D.at_, D.lit, q1, q2⟩, k _ w (.refl w) (.p (q3 w))⟩
theorem qb_inK (T : KTab X.K X.w p kvs) (ha : QP X f W Θ a ta .p) (hg : Gl X x) (hm : X.mg x = some (.ref p)) (h1 : (x == ("__debug__" : Str)) = false := by decide) (hb : behindInMarks .In (.Name x pos') = false := by rfl) : QB X f W Θ (.Compare a [.In] [.Name x pos'] pos) (fTest (fK (inK false kvs) ta)) := by
  obtain ⟨es, n, D⟩ := T.ex
  refine ⟨PT.imp (pt_cmpR (op_in_kd D) ha.r (pe_glob hg hm (v := .ref p) rfl h1) hb) fun σ H Q h => ltest (ta := fK (inK false kvs) ta) (t := tOp (fun x y H Q => ∃ (z : Str) (r : Option Value), x = .str z ∧ y = .ref p ∧ PySem.W.nsIn X.K p z = some r ∧ Q (.bl r.isSome) H) (lP X.K X.mg f W Θ ta .p) (tC (.ref p))) (fun σ H Q h => lK (r := fun y Q H => ∃ (z : Str) (r : Option Value), y = .str z ∧ V.ref p = .ref p ∧ PySem.W.nsIn X.K p z = some r ∧ Q (.bl r.isSome) H) (fun y w Q dx d rx hgd k => ?_) h) h⟩
  cases dx <;> first | (cases hgd; done) | skip
  rename_i z
  cases hgd
  obtain ⟨r, h1, h2⟩ := T.some_ z
  exact ⟨z, r, rx, rfl, h1, k _ w (.refl w) (.p (by rw [h2]; rfl))⟩
theorem qb_notInK (T : KTab X.K X.w p kvs) (ha : QP X f W Θ a ta .p) (hg : Gl X x) (hm : X.mg x = some (.ref p)) (h1 : (x == ("__debug__" : Str)) = false := by decide) (hb : behindInMarks .NotIn (.Name x pos') = false := by rfl) : QB X f W Θ (.Compare a [.NotIn] [.Name x pos'] pos) (fTest (fK (inK true kvs) ta)) := by
  obtain ⟨es, n, D⟩ := T.ex
  refine ⟨PT.imp (pt_cmpR (op_notIn_kd D) ha.r (pe_glob hg hm (v := .ref p) rfl h1) hb) fun σ H Q h => ltest (ta := fK (inK true kvs) ta) (t := tOp (fun x y H Q => ∃ (z : Str) (r : Option Value), x = .str z ∧ y = .ref p ∧ PySem.W.nsIn X.K p z = some r ∧ Q (.bl (!r.isSome)) H) (lP X.K X.mg f W Θ ta .p) (tC (.ref p))) (fun σ H Q h => lK (r := fun y Q H => ∃ (z : Str) (r : Option Value), y = .str z ∧ V.ref p = .ref p ∧ PySem.W.nsIn X.K p z = some r ∧ Q (.bl (!r.isSome)) H) (fun y w Q dx d rx hgd k => ?_) h) h⟩
  cases dx <;> first | (cases hgd; done) | skip
  rename_i z
  cases hgd
  obtain ⟨r, h1, h2⟩ := T.some_ z
  exact ⟨z, r, rx, rfl, h1, k _ w (.refl w) (.p (by rw [h2]; rfl))⟩
end
end FL

/-! GJ: a def whose code object is known; the end of a law with a lambda. -/
namespace FL
open PySem PySem.Spec PyProof.Rows L2
open LamX (Tabs CodeO TabB)
structure FunT (K : PySem.W.Frag) (x qual : Str) (st : Stmt) (f : Addr) (fd : FuncData) (c : Addr) : Prop where
  ex : ∃ (oc : Value) (od : Option Addr) (kV doc pm : Value) (an : Option Addr) (ct : Value) (osl : Array (Option Value)),
    fd = PySem.W.fnOf x qual (defArgs st) (defBody st) (defScope st) .none kV doc pm an (.ref c) ct ∧ K.lookup f = some ⟨oc, od, .func fd, osl⟩ ∧ PySem.W.codeIn K (.ref c) qual = true
  kp : PySem.W.keepIn K (.ref f) = true
theorem funT_mk {K : PySem.W.Frag} {x qual : Str} {st : Stmt} {f c : Addr} {oc : Value} {od an : Option Addr} {osl : Array (Option Value)} {kV doc pm ct : Value} (l : K.lookup f = some ⟨oc, od, .func (PySem.W.fnOf x qual (defArgs st) (defBody st) (defScope st) .none kV doc pm an (.ref c) ct), osl⟩)
    (cc : PySem.W.codeIn K (.ref c) qual = true) (k : PySem.W.keepIn K (.ref f) = true) : FunT K x qual st f (PySem.W.fnOf x qual (defArgs st) (defBody st) (defScope st) .none kV doc pm an (.ref c) ct) c := ⟨⟨oc, od, kV, doc, pm, an, ct, osl, rfl, l, cc⟩, k⟩
theorem FunT.f {K : PySem.W.Frag} {x qual : Str} {st : Stmt} {f c : Addr} {fd : FuncData} (F : FunT K x qual st f fd c) : L2.Fun K x qual st f fd := by
  obtain ⟨oc, od, kV, doc, pm, an, ct, osl, h1, h2, h3⟩ := F.ex
  exact ⟨⟨oc, od, kV, doc, pm, an, _, ct, osl, h1, h2, h3⟩, F.kp⟩
section
variable [TabT]
variable {P : Program} {w : World} {K : PySem.W.Frag} {mg : Str → Option Value} {base : Heap}
/-- okF of a def whose code object is known -/
theorem okFT {x qual : Str} {st : Stmt} {fa c : Addr} {fd : FuncData} {N ps : List Str} {k : Nat} {ms : List Sl} {τ : Tag} {t : SR Unit} {Θe : Th} (F : FunT K x qual st fa fd c) (S : FnScope N ps (defScope st)) (hl : ms.length = ps.length) (hn : ms.length ≤ N.length) (he : Th.le Θe (outT N.length ms) = true)
    (hbody : ∀ (f : Fm) (A : Around) (outer : List Env) (s : Shared) (H : Hp) (E : XK), Room k (A.deeper (envOfC qual (defScope st) s.heap.objs.size fa (.ref c))) →
      QSs (cxOf CX0 P w K mg base N qual (defScope st) fa (.ref c) A outer s H E).nox f (fun _ _ _ _ => False) (scOf N.length ms τ) (startT N.length ms) (defBody st) t Θe) : FnOk P w K mg base CX0 (k + 1) fa fd ps (CF K mg false ms τ (runF N.length ms τ t)) := by
  obtain ⟨oc, od, kV, doc, pm, an, ct, osl, rfl, lk, hcd⟩ := F.ex
  refine fn_of lk hcd S (fun vs H Q E h => ?_) (fun A outer s H vs Q E hr h => ?_)
  · obtain ⟨_, _, _, _, _, ha, _⟩ := h
    rw [ha.len.1, hl]
  · obtain ⟨f, hf⟩ := body_ok (rz := false) (E := E) (W := fun _ _ _ _ => False) (fun z => Bool.noConfusion z) hn he h
    exact ⟨_, (hbody f A outer s H E hr).r.nox, hf fun _ => rfl⟩
/-- nothing is promised -/
theorem ok_stuck {f : Addr} {fd : FuncData} {ps : List Str} {k : Nat} {ms : List Sl} {τ : Tag} : FnOk P w K mg base CX0 k f fd ps (CF K mg false ms τ fun _ => .stuck) :=
  ⟨fun _ _ _ _ h => by obtain ⟨_, _, _, _, _, _, _, h⟩ := h; exact h.elim, fun _ _ _ _ _ _ _ _ _ _ _ _ _ h => by obtain ⟨_, _, _, _, _, _, _, h⟩ := h; exact h.elim⟩
theorem ints_rds {w : Wd} : ∀ {ns : List Int}, RDs K w (ns.map D.int) (ns.map V.int)
  | [] => rfl
  | n :: ns => ⟨.int n, _, rfl, rfl, ints_rds⟩
/-- the law's promise, from what its reading gives -/
theorem cf_law {H : Hp} {a : Addr} {ns : List Int} {F : FR} (hT : TbOk H) (hS : (∃ o, H a = some (.frz o (.lst (ns.map V.int)))) ∨ SqK K a (ns.map V.int)) (h : ∃ o, F [.fl (ns.map D.int)] = .ok (.bl true) o) : CF K mg false [.own .p] .p F [.ref a] H (fun v _ => v = .bl true) fun _ _ _ => False := by
  obtain ⟨o, h⟩ := h
  refine ⟨⟨[], H, fun _ => False⟩, [.fl (ns.map D.int)], [], rfl, ⟨fun _ z => z.elim, hT⟩, ⟨_, [], .ref a, [], [], [], rfl, rfl, rfl, ⟨⟨a, _, rfl, hS, ints_rds⟩, rfl⟩, rfl, rfl, rfl⟩, List.nodup_nil, ?_⟩
  rw [h]
  intro v w' B A' _ _ r _ _
  exact r.1
end
section
variable {P : Program} {w : World} {K : PySem.W.Frag} {mg mb : Str → Option Value} {k : Nat} {fa a c tb : Addr} {q : Str} {fd : FuncData} {x : Str} {F : FR} {t : Shared} {vs : List Value} {ns : List Int}
/-- where a law begins: its script lies frozen (or in the written part), the table is empty, nothing else is known -/
structure Beg (K : PySem.W.Frag) (t : Shared) (a tb : Addr) (vs : List Value) (ns : List Int) (H : Hp) : Prop where
  tab : H tb = some (.tbl #[])
  oth : ∀ b u, H b = some u → (b = tb ∧ u = .tbl #[]) ∨ (b = a ∧ K.lookup a = none ∧ u = .frz { cls := .type "list", data := .seq vs.toArray } (.lst (ns.map V.int)))
  scr : (∃ o, H a = some (.frz o (.lst (ns.map V.int)))) ∨ SqK K a (ns.map V.int)
theorem beg_of (KX : K.In t.heap) (ha : t.heap.get? a = some { cls := .type "list", data := .seq vs.toArray }) (hi : IntsAre vs ns) (hl : ns.length ≤ sizeLine) (hn : a ≠ tb) : ∃ H, Beg K t a tb vs ns H := by
  have rv : Vals (ns.map V.int) vs := vals_ints hi
  cases hk : K.lookup a with
  | some o =>
    have e := KX a o hk
    rw [ha] at e
    cases e
    refine ⟨fun b => if b = tb then some (.tbl #[]) else none, if_pos rfl, fun b u e => ?_, .inr ⟨vs.toArray, _, hk, by rw [List.size_toArray, hi.length]; exact hl, by simpa using rv⟩⟩
    by_cases z : b = tb
    · exact .inl ⟨z, by rw [if_pos z] at e; exact (Option.some.inj e).symm⟩
    · rw [if_neg z] at e; cases e
  | none =>
    refine ⟨fun b => if b = tb then some (.tbl #[]) else if b = a then some (.frz { cls := .type "list", data := .seq vs.toArray } (.lst (ns.map V.int))) else none, if_pos rfl, fun b u e => ?_, .inl ⟨_, by rw [if_neg hn, if_pos rfl]⟩⟩
    by_cases z : b = tb
    · exact .inl ⟨z, by rw [if_pos z] at e; exact (Option.some.inj e).symm⟩
    · rw [if_neg z] at e
      by_cases y : b = a
      · exact .inr ⟨y, hk, by rw [if_pos y] at e; exact (Option.some.inj e).symm⟩
      · rw [if_neg y] at e; cases e
theorem Beg.ok {H : Hp} (B : Beg K t a tb vs ns H) (ha : t.heap.get? a = some { cls := .type "list", data := .seq vs.toArray }) (hi : IntsAre vs ns) (hl : ns.length ≤ sizeLine) (hT : t.heap.get? tb = some { cls := .none, data := .fields #[] }) : HOk P w H t.heap := fun b u e => by
  rcases B.oth b u e with ⟨rfl, rfl⟩ | ⟨rfl, _, rfl⟩
  · exact hT
  · exact ⟨ha, by rw [List.length_map]; exact hl, vs, _, vals_ints hi, ha⟩
/-- what is neither a list nor a table is not known -/
theorem Beg.no {H : Hp} (B : Beg K t a tb vs ns H) (ha : t.heap.get? a = some { cls := .type "list", data := .seq vs.toArray }) (hT : t.heap.get? tb = some { cls := .none, data := .fields #[] }) {b : Addr} {o : Obj} (e : t.heap.get? b = some o) (h1 : o.data ≠ .seq vs.toArray) (h2 : o.data ≠ .fields #[]) : H b = none := by
  cases z : H b with
  | none => rfl
  | some u =>
    rcases B.oth b u z with ⟨rfl, _⟩ | ⟨rfl, _, _⟩
    · rw [hT] at e; cases e; exact absurd rfl h2
    · rw [ha] at e; cases e; exact absurd rfl h1
theorem Beg.nsH {H : Hp} (B : Beg K t a tb vs ns H) (ha : t.heap.get? a = some { cls := .type "list", data := .seq vs.toArray }) (hT : t.heap.get? tb = some { cls := .none, data := .fields #[] }) {b : Addr} {m : Str → Option Value} : t.heap.Ns b m → (hidT t.heap H).Ns b m :=
  fun ⟨o, es, ep, e, d, r⟩ => ⟨o, es, ep, hidT_get e (B.no ha hT e (by rw [d]; intro z; cases z) (by rw [d]; intro z; cases z)), d, r⟩
theorem Beg.inH {H : Hp} (B : Beg K t a tb vs ns H) (KX : K.In t.heap) (nT : K.lookup tb = none) : K.In (hidT t.heap H) := fun b o e => hidT_get (KX b o e) (by
  cases z : H b with
  | none => rfl
  | some u =>
    rcases B.oth b u z with ⟨rfl, _⟩ | ⟨rfl, n, _⟩
    · rw [nT] at e; cases e
    · rw [n] at e; cases e)
theorem Beg.tabB {H : Hp} (B : Beg K t a tb vs ns H) (hns : t.heap.Ns mainGlobals mg) (ha : t.heap.get? a = some { cls := .type "list", data := .seq vs.toArray }) (hT : t.heap.get? tb = some { cls := .none, data := .fields #[] }) (C : PySem.W.CodeHd t.heap c tb)
    (hbm : ∃ (bm : Addr) (ob : Obj), mg "__builtins__" = some (.ref bm) ∧ bm ≠ builtinsNs ∧ t.heap.get? bm = some ob ∧ ob.cls = .type "module" ∧ ob.dict = some builtinsNs ∧ ob.data = .plain) : TabB (hidT t.heap H) mg c tb := by
  obtain ⟨og, eg, pg, g1, g2, _⟩ := hns
  have gne : mainGlobals ≠ tb := fun z => by
    rw [z, hT] at g1; cases g1; cases g2
  constructor
  · obtain ⟨o, us, f1, f2, f3, f4, f5, f6, f7, e1, r1, r2, r3, rest⟩ := C
    exact ⟨o, us, f1, f2, f3, f4, f5, f6, f7, hidT_get e1 (B.no ha hT e1 (by rw [r2]; intro z; cases z) (by rw [r2]; intro z; cases z; simp at r3)), r1, r2, r3, rest⟩
  · obtain ⟨m, ob, b1, b2, b3, b4, b5, b6⟩ := hbm
    refine ⟨m, ob, b1, b2, fun z => ?_, fun z => ?_, hidT_get b3 (B.no ha hT b3 (by rw [b6]; intro z; cases z) (by rw [b6]; intro z; cases z)), b4, b5, b6⟩
    · rw [z, g1] at b3; cases b3; rw [g2] at b6; cases b6
    · rw [z, hT] at b3; cases b3; cases b6
  · exact gne
theorem lawT (KX : K.In t.heap) (hns : t.heap.Ns mainGlobals mg) (hb : t.heap.Ns builtinsNs mb) (hbb : ∀ x : Str, x ≠ "__name__" → mb x = bootBuiltins x) (hlim : t.heap.NoLimit) (hg : t.gens = #[]) (hT : t.heap.get? tb = some { cls := .none, data := .fields #[] }) (nT : K.lookup tb = none) (C : PySem.W.CodeHd t.heap c tb)
    (hbm : ∃ (bm : Addr) (ob : Obj), mg "__builtins__" = some (.ref bm) ∧ bm ≠ builtinsNs ∧ t.heap.get? bm = some ob ∧ ob.cls = .type "module" ∧ ob.dict = some builtinsNs ∧ ob.data = .plain)
    (ha : t.heap.get? a = some { cls := .type "list", data := .seq vs.toArray }) (hi : IntsAre vs ns) (hl : ns.length ≤ sizeLine) (hr : Room k callerA)
    (FF : ∀ base : Heap, K.In base → base.Ns mainGlobals mg → TabB base mg c tb → FnOk P w K mg base CX0 k fa fd [x] (@CF ⟨[(tb, q)]⟩ K mg false [.own .p] .p F)) (hbind : ∀ (s : Shared) (u : Value), BindsTo s fd ⟨[u], []⟩ [(x, u)])
    (hF : ∃ o, F [.fl (ns.map D.int)] = .ok (.bl true) o) :
    codeAny (model P w) callerA (.call (.ref fa) ⟨[.ref a], []⟩) (fun r s' => r = .ok (.ret (.bool true)) ∧ OldK t.heap s'.heap ∧ s'.os = t.os ∧ AllBare s'.gens) t := by
  letI : TabT := ⟨[(tb, q)]⟩
  have aP : a ≠ tb := fun z => by rw [z, hT] at ha; cases ha
  obtain ⟨H, B⟩ := beg_of KX ha hi hl aP
  have hok : HOk P w H t.heap := B.ok ha hi hl hT
  have hI := B.inH KX nT
  obtain ⟨mc, c1, c2⟩ := hlim
  have e0 : Env0 P w K mg (hidT t.heap H) callerA [] t H :=
    ⟨rfl, ⟨hI, B.nsH ha hT hns, ⟨mb, B.nsH ha hT hb, hbb⟩, ⟨mc, B.nsH ha hT c1, c2⟩⟩, fun b o e => of_hidT e, Nat.le_of_eq (hidT_size _ _), trivial, fun b hb => (by cases hb), hok, .of_eq hg⟩
  have tk : TbOk H := by
    constructor
    · intro p hp
      rw [List.mem_singleton.mp hp]
      exact .nil B.tab
    · intro Q ps e
      rcases B.oth Q _ e with ⟨rfl, _⟩ | ⟨_, _, z⟩
      · exact ⟨_, List.mem_singleton.mpr rfl, rfl⟩
      · cases z
  have sp : CF K mg false [.own .p] .p F [.ref a] H (fun v _ => v = .bl true) fun _ _ _ => False := cf_law tk B.scr hF
  refine codeAny_mono ((FF _ hI (B.nsH ha hT hns) (B.tabB hns ha hT C hbm)).run callerA [] t H ⟨[.ref a], []⟩ [.ref a] [.ref a] _ _ hr e0 (hbind t (.ref a)) (.cons rfl .nil) sp) fun r s' h => ?_
  match r, h with
  | .error e, h => exact False.elim h
  | .ok .next, h => exact False.elim h
  | .ok .brk, h => exact False.elim h
  | .ok .cont, h => exact False.elim h
  | .ok (.ret u), h =>
    obtain ⟨v, H', os, bare, un, hok', r', q⟩ := h
    subst q
    obtain rfl : u = Value.bool true := r'
    obtain ⟨more, hm⟩ := un.tbls tb #[] B.tab
    have grown := hok' tb _ hm
    have rest : ∀ b o, b ≠ tb → t.heap.get? b = some o → s'.heap.get? b = some o := fun b o n e => by
      cases z : H b with
      | none => exact un.keep b o e z (fun q => (by cases q)) (by simp)
      | some u =>
        rcases B.oth b u z with ⟨y, _⟩ | ⟨rfl, _, rfl⟩
        · exact absurd y n
        · have e2 := (hok' b _ (un.frzs b _ _ z)).1
          have e1 := (hok b _ z).1
          rw [e] at e1
          cases e1
          exact e2
    refine ⟨rfl, ⟨fun b o e => ?_, fun b o e => ?_⟩, os, bare⟩
    · by_cases z : b = tb
      · subst z
        rw [hT] at e
        cases e
        exact .inr (.inl ⟨(C.tab hT).isCodeTable, rfl, #[], more, rfl, by rw [Array.empty_append] at grown ⊢; exact grown⟩)
      · exact .inl (rest b o z e)
    · by_cases z : b = tb
      · subst z; exact ⟨_, grown⟩
      · exact ⟨o, rest b o z e⟩
end
/-- the end of a law whose def x2 writes a lambda -/
theorem walkT {l : PySem.W.OpenLaw} {n k : Nat} {q : Program} {loose : List Str} {XP : (Str → Option Value) → Heap → Prop} {YP : World → Heap → Prop} {d : DefRec} {K : Params → PySem.W.Frag} {ts : List Addr} {x qq : Str} {F : FR}
    (hn : l.most = some n) (hn2 : n ≤ sizeLine) (hdf : d.params.defaults = []) (hr : Room k callerA) (hY : ∀ (w : World) (h : Heap), YP w h → (K w.params).In h ∧ ∀ P ∈ ts, h.get? P = some (PySem.W.tabObj #[]))
    (hF : ∀ (w : World) (mg : Str → Option Value) (fa : Addr) (h : Heap), (K w.params).In h → h.Ns mainGlobals mg → mg d.name = some (.ref fa) →
      ∃ (fd : FuncData) (c P : Addr), (PySem.W.codeHdIn (K w.params) c P = true ∧ P ∈ ts) ∧ (K w.params).lookup P = none ∧ (∀ (s : Shared) (u : Value), BindsTo s fd ⟨[u], []⟩ [(x, u)]) ∧ ∀ base : Heap, (K w.params).In base → base.Ns mainGlobals mg → TabB base mg c P →
        FnOk l.prog w (K w.params) mg base CX0 k fa fd [x] (@CF ⟨[(P, qq)]⟩ (K w.params) mg false [.own .p] .p F))
    (hC : ∀ ns : List Int, ns.length ≤ n → (∀ z ∈ ns, Builtin.Int.intBits z ≤ 1048576) → ∃ o, F [.fl (ns.map D.int)] = .ok (.bl true) o) :
    PySem.W.WalkO q loose XP YP l.row.toRowW d [] (fun f vs => PySem.call f vs) := by
  refine Att.attach_callB hn hdf fun w s₀ s₁ mg mb fa o pm cd doc a vs ns G Y ho hd hcd hmg hobj hints hlen hbits hg => ?_
  obtain ⟨KX, tabs⟩ := hY w _ Y
  obtain ⟨fd, c, P, ⟨ht, hm⟩, hP, hb, hF⟩ := hF w mg fa _ KX G.T.g hmg
  exact lawT KX G.T.g G.T.b G.T.builtins G.T.nolimit hg (tabs P hm) hP (PySem.W.codeHd_of_K KX ht) G.T.bmain hobj hints (Nat.le_trans hlen hn2) hr hF hb (hC ns hlen hbits)
end FL

/-! GK: rules for the printer. -/
namespace FL
open PySem PySem.Spec PyProof.Rows L2
variable [TabT]
section
variable {η : Type} [HR η] {X : Cx} {f : Fm} {W : WX} {Θ Θ1 Θ2 Θx : Th} {e : Expr} {pos p : Pos}
/-- a slot that holds a value by itself -/
theorem qp_vp (i : Nat) {x : Str} (hi : Θ[i]? = some (.own .p) := by rfl) (hN : X.N[i]? = some x := by rfl) (hv : Vis X.env.scope x := by first | exact Or.inl rfl | exact Or.inr (Or.inl rfl) | exact Or.inr (Or.inr rfl)) (hd : (x == ("__debug__" : Str)) = false := by decide)
    (hcd : (x == ("__classdict__" : Str)) = false := by decide) : QP (η := η) X f W Θ (.Name x p) (fVar i) .p := qp_v (κ := .own .p) i hi rfl hN hv hd hcd
variable {es : List Expr} {x : Str} {k : Nat} {fa : Addr} {fd : FuncData} {pr : List Str} {ms : List Sl} {τ : Tag} {F : FR} {ax : List Ax} {ts : St η → Eff η (List D)} {ios : List Nat}
/-- qe_call0, the written slots told -/
theorem qe_c0 (FO : FnOk X.prog X.w X.K X.mg X.base CX0 k fa fd pr (CF X.K X.mg false ms τ F)) (hr : Room k X.A) (hg : Gl X x) (hm : X.mg x = some (.ref fa)) (hk : PySem.W.keepIn X.K (.ref fa) = true) (hb : Binds X.K fd pr [])
    (ha : QXs X f W Θ (e :: es) ax ts Θ1 Θx) (hi : iosOf ax ms = ios := by rfl) (hf : fitX Θ1 ios ax ms = true := by rfl) (hn : ndup ios = true := by rfl) (hdb : (x == ("__debug__" : Str)) = false := by decide) (he : starEach (e :: es) X.env = (false, eval e X.env) :: starEach es X.env := by rfl) (hpl : (backTo pos (starEach es X.env)).any (·.1) = false := by rfl) :
    QE X f W Θ (.Call (.Name x p) (e :: es) [] pos) (callX0 F ax ios ts) (.own τ) Θ1 Θx := by
  subst hi
  exact qe_call0 FO hr hg hm hk hb ha hf hn hdb he hpl
end
section
variable {η : Type} [HR η] {X : Cx} {f : Fm} {W : WX} {Θ Θ1 Θ2 Θ3 Θ4 Θx : Th} {C : SC} {tg iter elt : Expr} {pos : Pos} {vs : List Nat} {st : Stmt}
/-- name = [..] -/
theorem qs_setLc {i : Nat} {y : Str} {py spos : Pos} {ifs : List Expr} {scope : Scope} {own : List (Str × Nat)} {ti : St η → Eff η (List D)} {g : GR η} {tt : St η → Eff η Bool} {te : ER η} (hc : X.calm = true) (hN : X.N.Nodup) (hy : X.N[i]? = some y) (hyl : X.env.scope.names.lookup y = some .local)
    (hsw : swapsWith (.ListComp elt [⟨tg, iter, ifs, 0⟩] scope pos) (some (.Name y py)) spos.line X.env = pure true) (hi : QI X f W Θ tg iter ti Θ1 C.x) (ok : BlkOk X.N X.env.scope scope own)
    (hg : ∀ (g' : Fm) (s : Shared) (H : Hp) (D : Addr) (cl : List (Str × Addr)) (fp : List Addr), QC (X.blk s H scope (compEnvC scope cl D X.env) fp) g' (own.map (·.2)) Θ1 tg g Θ2) (ht : ∀ (g' : Fm) (s : Shared) (H : Hp) (D : Addr) (cl : List (Str × Addr)) (fp : List Addr), QTs (X.blk s H scope (compEnvC scope cl D X.env) fp) g' W0 Θ2 ifs tt Θ3 C.x)
    (he : ∀ (g' : Fm) (s : Shared) (H : Hp) (D : Addr) (cl : List (Str × Addr)) (fp : List Addr), QE (X.blk s H scope (compEnvC scope cl D X.env) fp) g' W0 Θ3 elt te .p Θ4 C.x) (hn : noAt Θ1 (own.map (·.2)) = true := by rfl) (l3 : Th.le Θ3 Θ1 = true := by rfl) (l4 : Th.le Θ4 Θ1 = true := by rfl) (hs : ∀ x, foldedSetIterable iter X.env x = pure x := by intro _; rfl) :
    QS X f W C Θ (.Assign [.Name y py] (.ListComp elt [⟨tg, iter, ifs, 0⟩] scope pos) spos) (fSet i (eLc ti g tt te (own.map (·.2)))) (Θ1.set i (.own (.l .p))) := by
  refine ⟨PS.imp (ps_setLc hc hN hy hyl hsw hi.r ok (g := fun v σ H Q => ∃ g' : Fm, ∃ w s φ d s', w.H = H ∧ OwnS X.K g' w Θ1 σ s φ ∧ RD X.K w d v ∧ g d s = some s' ∧ ∀ σ' φ', OwnS X.K g' w Θ2 σ' s' φ' → wipe σ' (own.map (·.2)) = wipe σ (own.map (·.2)) → Q σ' w.H)
    (tt := fun σ H Q => ∃ g' : Fm, lE X.K X.mg g' W0 Θ2 Θ3 C.x rB tt σ H Q) (te := fun σ H Q => ∃ g' : Fm, lE X.K X.mg g' W0 Θ3 Θ4 C.x (fun w φ d v => RE X.K g' w φ .p d v) te σ H Q)
    (fun s H D cl fp => ⟨fun pins s1 σ H v u Q I r ⟨g', q⟩ => (hg g' s _ D cl fp).r.run pins s1 σ H v u Q I r q⟩) (fun s H D cl fp => ⟨fun pins s1 σ H Q I ⟨g', q⟩ => (ht g' s _ D cl fp).r.run pins s1 σ H Q I q⟩) (fun s H D cl fp => ⟨fun pins s1 σ H Q I ⟨g', q⟩ => (he g' s _ D cl fp).r.run pins s1 σ H Q I q⟩) hs) fun D σ H h => ?_⟩
  refine llc (fun g' _ _ _ _ q => ⟨g', q⟩) (fun g' _ _ _ q => ⟨g', q⟩) (fun g' _ _ _ q => ⟨g', q⟩) hn l3 l4 (f := f) (W := W) ?_
  obtain ⟨w, s, φ, e, o, h⟩ := h
  subst e
  refine ⟨w, s, φ, rfl, o, (Ef.to (σ := σ) h).mono ?_⟩
  rintro v H1 ⟨w1, d, s1, φ1, rfl, g1, o1, ⟨A, r1, nd, ha⟩, h⟩
  exact h _ w1 _ (.refl w1) (o1.set i r1 nd ha)
/-- behind a statement a name's object is frozen -/
theorem ps_fzn {i : Nat} {t : TS} (h : PS X st t) : PS X st (fun D σ H => t { D with nx := fun σ' H1 => ∃ a u, σ'[i]? = some (some (.ref a)) ∧ H1 a = some u ∧ Mut (some u) ∧ ∀ o, D.nx σ' (upd H1 a (.frz o u)) } σ H) := by
  refine ⟨fun pins s σ H D I hw => ?_⟩
  refine thn (h.run pins s σ H _ I hw) fun f s1 q => ?_
  cases f with
  | next =>
    obtain ⟨σ', H1, I1, a, u, _, ha, mu, q⟩ := q
    obtain ⟨od, I2⟩ := I1.lock ha mu
    exact ⟨σ', _, I2, q od⟩
  | brk => exact q
  | cont => exact q
  | ret v => exact q
theorem set_self {α : Type} {l : List α} {i : Nat} {a : α} (h : l[i]? = some a) : l.set i a = l := by
  refine List.ext_getElem? fun j => ?_
  by_cases c : i = j
  · subst c; rw [h, List.getElem?_set_self (List.getElem?_eq_some_iff.mp h).1]
  · rw [List.getElem?_set_ne c]
theorem OwnS.fzAt {K : PySem.W.Frag} {w : Wd} {σ : L2.St} {s : St η} {φ : Fp} {i : Nat} {τ : Tag} (h : OwnS K f w Θ σ s φ) (hi : Θ[i]? = some (.own τ)) (ht : fzT τ = true) :
    ∃ a u, σ[i]? = some (some (.ref a)) ∧ w.H a = some u ∧ Mut (some u) ∧ ∀ o, Gr f w (w.up a (.frz o u)) ∧ OwnS K f (w.up a (.frz o u)) (Θ.set i .p) σ s (φ.set i []) := by
  obtain ⟨d, v, h1, h2, h3⟩ := h.own i τ hi
  obtain ⟨a, u, rfl, hA, hu, mu, np, k⟩ := h3.fz ht
  have ha : a ∈ φ.fp i := by rw [hA]; simp
  have hfa := h.inF i a ha
  refine ⟨a, u, h2, hu, mu, fun o => ⟨.mut hu np hfa, ?_⟩⟩
  have o1 := (h.drop i).gr (g := fun b => b = a) (w' := w.up a (.frz o u)) (.mut hu np rfl) (fun b e => by subst e; exact h.drop_sep i ha) (fun b e => by subst e; exact hfa)
  have o2 := o1.setP i (k f o hfa fun z => by obtain ⟨o', u', z⟩ := h.lkd a z; rw [hu] at z; cases z; exact np trivial)
  rw [List.set_set, set_self h2] at o2
  have e : St.set s i d = s := by show (⟨s.s.set i (some d), s.h⟩ : St η) = s; rw [set_self h1]
  rw [e] at o2
  have e2 : (φ.set i []).set i [] = φ.set i [] := by
    show (⟨fun j => if j = i then [] else (if j = i then [] else φ.fp j), φ.G⟩ : Fp) = ⟨fun j => if j = i then [] else φ.fp j, φ.G⟩
    congr 1; funext j; split <;> rfl
  rw [e2] at o2
  exact o2
theorem qs_fzn {i : Nat} {τ : Tag} {t : SR η} (h : QS X f W C Θ st t Θ1) (hi : Θ1[i]? = some (.own τ) := by rfl) (ht : fzT τ = true := by rfl) : QS X f W C Θ st t (Θ1.set i .p) := ⟨PS.imp (ps_fzn (i := i) h.r) fun D σ H ⟨w, s, φ, e, o, q⟩ => by
  refine ⟨w, s, φ, e, o, ?_⟩
  unfold Sf at q ⊢
  revert q
  cases t s with
  | exc c s1 => exact id
  | stuck => exact id
  | ok fl s1 =>
    cases fl with
    | nx =>
      intro q σ' w' φ' g o'
      obtain ⟨a, u, h1, h2, mu, k⟩ := o'.fzAt hi ht
      exact ⟨a, u, h1, h2, mu, fun od => q σ' _ _ (g.trans (k od).1) (k od).2⟩
    | rt d => exact id
    | bk => exact id
    | ct => exact id⟩
end
end FL

/-! GL: a written dict of the module, made of its entries. -/
namespace FL
open PySem PySem.Spec PyProof.Rows L2
def entI (e : DictEntry) : Option (Str × Int) := match e.key, e.val with
  | .str x _, .int i _ => some (x, i)
  | _, _ => none
theorem entI_ok {e : DictEntry} {x : Str} {i : Int} (h : entI e = some (x, i)) : (∃ t, e.key = .str x t) ∧ ∃ t, e.val = .int i t := by
  unfold entI at h
  split at h
  · rename_i a b c d e1 e2
    cases h
    exact ⟨⟨_, e1⟩, ⟨_, e2⟩⟩
  · cases h
theorem find_int {z : Str} : ∀ {l : List DictEntry} {kvs : List (Str × Int)}, l.map entI = kvs.map some → (∀ i, kvs.lookup z = some i → ∃ e t, l.find? (fun e => e.key.isStr z) = some e ∧ e.val = .int i t) ∧ (kvs.lookup z = none → l.find? (fun e => e.key.isStr z) = none)
  | [], [], _ => ⟨fun i h => (by cases h), fun _ => rfl⟩
  | [], _ :: _, h => by cases h
  | _ :: _, [], h => by cases h
  | e :: l, (x, j) :: kvs, h => by
    have h1 : entI e :: l.map entI = some (x, j) :: kvs.map some := h
    injection h1 with h2 h3
    obtain ⟨⟨t, e1⟩, ⟨t2, e2⟩⟩ := entI_ok h2
    have ih := find_int (z := z) h3
    have hk : e.key.isStr z = (x == z) := by rw [e1]; rfl
    by_cases c : x = z
    · subst c
      have hx : (x == x) = true := by simp
      refine ⟨fun i hi => ⟨e, t2, ?_, ?_⟩, fun hn => ?_⟩
      · rw [List.find?_cons, hk, hx]
      · rw [List.lookup_cons, hx] at hi
        cases hi
        exact e2
      · rw [List.lookup_cons, hx] at hn
        cases hn
    · have hx : (x == z) = false := by simp [c]
      have hz : (z == x) = false := by simp [Ne.symm c]
      refine ⟨fun i hi => ?_, fun hn => ?_⟩
      · rw [List.lookup_cons, hz] at hi
        obtain ⟨e', t', f1, f2⟩ := ih.1 i hi
        exact ⟨e', t', by rw [List.find?_cons, hk, hx]; exact f1, f2⟩
      · rw [List.lookup_cons, hz] at hn
        rw [List.find?_cons, hk, hx]
        exact ih.2 hn
theorem noRef : ∀ {l : List DictEntry} {kvs : List (Str × Int)}, l.map entI = kvs.map some → l.any (·.refKey) = false
  | [], [], _ => rfl
  | [], _ :: _, h => by cases h
  | _ :: _, [], h => by cases h
  | e :: l, (x, j) :: kvs, h => by
    have h1 : entI e :: l.map entI = some (x, j) :: kvs.map some := h
    injection h1 with h2 h3
    obtain ⟨⟨t, e1⟩, _⟩ := entI_ok h2
    have : e.refKey = false := by unfold DictEntry.refKey; rw [e1]
    rw [List.any_cons, this, noRef h3]
    rfl
theorem ktab_ints {K : PySem.W.Frag} {w : World} {p : Addr} {ks : List Str} {es : Array DictEntry} {n : Nat} {oc : Value} {od : Option Addr} {sl : Array (Option Value)} {kvs : List (Str × Int)} (hl : K.lookup p = some ⟨oc, od, .dict es n, sl⟩) (hd : He.dicW K p = some (He.keysIn w.params ks)) (he : es.toList.map entI = kvs.map some) :
    KTab K w p (kvs.map fun q => (q.1, D.int q.2)) := by
  have lk : ∀ (l : List (Str × Int)) (z : Str), (l.map fun q => (q.1, D.int q.2)).lookup z = (l.lookup z).map D.int := fun l z => by
    induction l with
    | nil => rfl
    | cons q l ih =>
      obtain ⟨x, i⟩ := q
      rw [List.map_cons, List.lookup_cons, List.lookup_cons]
      cases (z == x) with
      | true => rfl
      | false => exact ih
  refine ⟨He.dicW_ok hd, fun z d h => ?_, fun z h => ?_⟩
  · rw [lk] at h
    cases q : kvs.lookup z with
    | none => rw [q] at h; cases h
    | some i =>
      rw [q] at h
      cases h
      obtain ⟨e, t, f1, f2⟩ := (find_int (z := z) he).1 i q
      refine ⟨e.val, .int i, ?_, ?_, fun w => rfl⟩
      · unfold PySem.W.nsIn
        simp only [hl, f1]
      · rw [f2]; exact ⟨t, rfl⟩
  · rw [lk] at h
    cases q : kvs.lookup z with
    | some i => rw [q] at h; cases h
    | none =>
      unfold PySem.W.nsIn
      simp only [hl, (find_int (z := z) he).2 q, noRef he, Bool.false_eq_true, if_false]
end FL

/-! printed by fl.py: the readings of k79 -/
namespace SH
open PySem FL
def kt_SIZES : List (Str × D) := [("folder", (.int 2)), ("file", (.int 2)), ("put", (.int 4)), ("trim", (.int 3)), ("out", (.int 2)), ("move", (.int 3)), ("copy", (.int 3))]
def r_is_name : SR Unit := (fSeq (fIfS (liftP (fOr (fNot (fTest (fCB isiO (fCons (fVar 0) (fCons (fC (.ty "str")) fNil))))) (fOr (fTest (fOp eqD (fVar 0) (fC (.str "")))) (fTest (fOp gtI (fCB lenO (fCons (fVar 0) fNil)) (fC (.int 8))))))) (fRet (liftP (fC (.bl false)))) fNext) (fRet (eCB allO (eCons (eLc (eSeq (liftP (fVar 0))) (gName 1) eYes (liftP (fOp inO (fVar 1) (fC (.str "abcdefghijklmnopqrstuvwxyz")))) [1]) eNil))))
def F_is_name : FR := runF 2 [.own .p] .p r_is_name
def r_is_number : SR Unit := (fRet (liftP (fAndV (fCB isiO (fCons (fVar 0) (fCons (fC (.ty "int")) fNil))) (fNotV (fCB isiO (fCons (fVar 0) (fCons (fC (.ty "bool")) fNil)))))))
def F_is_number : FR := runF 1 [.own .p] .p r_is_number
def r__law_mixed : SR Unit := (fSeq (fSet 2 (liftP (fOp modI (fOp addO (fOp addO (fOp mulI (fOp modI (fVar 0) (fC (.int 2147483647))) (fC (.int 48271))) (fOp mulI (fOp mulI (fC (.int 7919)) (fVar 1)) (fVar 1))) (fC (.int 104729))) (fC (.int 2147483647))))) (fRet (liftP (fOp modI (fOp mulI (fVar 2) (fVar 2)) (fC (.int 2147483629))))))
def F__law_mixed : FR := runF 3 [.own .p, .own .p] .p r__law_mixed
def r__law_next : SR Unit := (fSeq (fIfS (liftP (fTest (fOp eqD (fVar 0) (fLst fNil)))) (fRet (liftP (fC (.int 0)))) fNext) (fRet (eMut 0 popAtM (eCons (liftP (fC (.int 0))) eNil))))
def F__law_next : FR := runF 1 [.io (.l .p)] .p r__law_next
def r__law_name : SR Unit := (fSeq (fSet 1 (liftP (fLst (fCons (fC (.str "a")) (fCons (fC (.str "b")) (fCons (fC (.str "z")) (fCons (fC (.str "ab")) (fCons (fC (.str "ba")) (fCons (fC (.str "zz")) (fCons (fC (.str "abc")) (fCons (fC (.str "hgfedcba")) (fCons (fC (.str "c")) (fCons (fC (.str "d")) fNil))))))))))))) (fRet (liftP (fOp ixO (fVar 1) (fOp modI (fVar 0) (fC (.int 10)))))))
def F__law_name : FR := runF 2 [.own .p] .p r__law_name
def r__law_code : SR Unit := (fSeq (fSet 1 (liftP (fC (.int 0)))) (fSeq (fFor (eSeq (liftP (fVar 0))) (gName 2) (fSet 1 (liftP (fOp subI (fOp addO (fOp mulI (fVar 1) (fC (.int 27))) (fCB ordO (fCons (fVar 2) fNil))) (fC (.int 96))))) [2]) (fRet (liftP (fVar 1)))))
def F__law_code : FR := runF 3 [.own .p] .p r__law_code
def r__law_is_folder : SR Unit := (fRet (liftP (fOrV (fOp eqD (fVar 1) (fTup fNil)) (fAndV (fOp inO (fVar 1) (fVar 0)) (fOp isNO (fOp ixO (fVar 0) (fVar 1)) (fC .non))))))
def F__law_is_folder : FR := runF 2 [.bor (.mT .p), .own .p] .p r__law_is_folder
def r__law_under : SR Unit := (fRet (fLkE 0 true (eLc (eLk keysD 0) (gName 2) (liftP (fTest (fOp eqD (fSl (fVar 2) fNoPart (fPart (fCB lenO (fCons (fVar 1) fNil)))) (fVar 1)))) (liftP (fVar 2)) [2])))
def F__law_under : FR := runF 3 [.bor (.mT .p), .own .p] .p r__law_under
def r__law_twin : SR Unit := (fSeq (fSet 1 (liftP (fC (.fd true [])))) (fSeq (fLk 0 true (fFor (eLk keysD 0) (gName 2) (fSeq (fSetIx 1 (setM true) (liftP (fC .non)) (liftP (fVar 2))) (fIfS (liftP (fTest (fOp notNO (fOp ixO (fVar 0) (fVar 2)) (fC .non)))) (fSetIx 1 (setM true) (liftP (fCB lstC (fCons (fOp ixO (fVar 0) (fVar 2)) fNil))) (liftP (fVar 2))) fNext)) [2])) (fRet (liftP (fVar 1)))))
def F__law_twin : FR := runF 3 [.bor (.mT .p)] (.mT .p) r__law_twin
def r__law_room : SR Unit := (fSeq (fSet 1 (liftP (fC (.int 1)))) (fSeq (fLk 0 true (fFor (eLk keysD 0) (gName 2) (fSeq (fSet 1 (liftP (fOp addO (fVar 1) (fC (.int 1))))) (fIfS (liftP (fTest (fOp notNO (fOp ixO (fVar 0) (fVar 2)) (fC .non)))) (fSet 1 (liftP (fOp addO (fVar 1) (fCB lenO (fCons (fOp ixO (fVar 0) (fVar 2)) fNil))))) fNext)) [2])) (fRet (liftP (fVar 1)))))
def F__law_room : FR := runF 3 [.bor (.mT .p)] .p r__law_room
def r__law_on_leaves : SR Unit := (fSeq (fSet 3 (liftP (fLst fNil))) (fSeq (fIfS (liftP (fTest (fOp gtI (fCB lenO (fCons (fVar 0) fNil)) (fCB lenO (fCons (fVar 1) fNil))))) (fExpr (eMut 3 appendM (eCons (liftP (fTup (fCons (fC (.str "trim")) (fCons (fVar 2) (fCons (fCB lenO (fCons (fVar 1) fNil)) fNil))))) eNil))) fNext) (fRet (eOp addO (liftP (fVar 3)) (eLc (eRan ran1 (eCons (liftP (fCB lenO (fCons (fVar 1) fNil))) eNil)) (gName 4) (liftP (fTest (fOp neD (fSl (fVar 0) (fPart (fVar 4)) (fPart (fOp addO (fVar 4) (fC (.int 1))))) (fSl (fVar 1) (fPart (fVar 4)) (fPart (fOp addO (fVar 4) (fC (.int 1)))))))) (liftP (fTup (fCons (fC (.str "put")) (fCons (fVar 2) (fCons (fVar 4) (fCons (fOp ixO (fVar 1) (fVar 4)) fNil)))))) [4])))))
def F__law_on_leaves : FR := runF 5 [.own .p, .own .p, .own .p] .p r__law_on_leaves
def r__law_like : SR Unit := (fRet (liftP (fAndV (fOp inO (fVar 2) (fVar 0)) (fAndV (fOp inO (fVar 2) (fVar 1)) (fOp eqD (fOp isNO (fOp ixO (fVar 0) (fVar 2)) (fC .non)) (fOp isNO (fOp ixO (fVar 1) (fVar 2)) (fC .non)))))))
def F__law_like : FR := runF 3 [.own .p, .own .p, .own .p] .p r__law_like
def r__law_no_deed : SR Unit := (fSeq (fSet 1 (liftP (fLst (fCons (fC .non) (fCons (fC (.int 0)) (fCons (fC (.str "out")) (fCons (fTup (fCons (fC (.str "out")) fNil)) (fCons (fTup (fCons (fC (.str "out")) (fCons (fTup fNil) fNil))) (fCons (fTup (fCons (fC (.str "out")) (fCons (fC (.str "a")) fNil))) (fCons (fTup (fCons (fC (.str "out")) (fCons (fTup (fCons (fC (.str "a")) fNil)) (fCons (fTup (fCons (fC (.str "b")) fNil)) fNil)))) fNil)))))))))) (fSeq (fSet 1 (liftP (fOp addO (fVar 1) (fLst (fCons (fLst (fCons (fC (.str "out")) (fCons (fTup (fCons (fC (.str "a")) fNil)) fNil))) (fCons (fTup (fCons (fC (.str "Out")) (fCons (fTup (fCons (fC (.str "a")) fNil)) fNil))) fNil)))))) (fSeq (fSet 1 (liftP (fOp addO (fVar 1) (fLst (fCons (fTup (fCons (fC (.str "put")) (fCons (fTup (fCons (fC (.str "a")) fNil)) (fCons (fC (.int 0)) fNil)))) (fCons (fTup (fCons (fC (.str "put")) (fCons (fTup (fCons (fC (.str "a")) fNil)) (fCons (fC (.int 65)) (fCons (fTup fNil) fNil))))) (fCons (fTup (fCons (fC (.str "put")) (fCons (fTup (fCons (fC (.str "a")) fNil)) (fCons (fUn negI (fC (.int 1))) (fCons (fTup fNil) fNil))))) (fCons (fTup (fCons (fC (.str "put")) (fCons (fTup (fCons (fC (.str "a")) fNil)) (fCons (fC (.bl true)) (fCons (fTup fNil) fNil))))) fNil)))))))) (fSeq (fSet 1 (liftP (fOp addO (fVar 1) (fLst (fCons (fTup (fCons (fC (.str "put")) (fCons (fTup (fCons (fC (.str "a")) fNil)) (fCons (fC (.int 0)) (fCons (fTup (fCons (fC (.int 256)) fNil)) fNil))))) (fCons (fTup (fCons (fC (.str "put")) (fCons (fTup (fCons (fC (.str "a")) fNil)) (fCons (fC (.int 0)) (fCons (fOp repO (fTup (fCons (fC (.int 1)) fNil)) (fC (.int 9))) fNil))))) (fCons (fTup (fCons (fC (.str "trim")) (fCons (fTup (fCons (fC (.str "a")) fNil)) (fCons (fC (.int 65)) fNil)))) (fCons (fTup (fCons (fC (.str "trim")) (fCons (fTup (fCons (fC (.str "a")) fNil)) fNil))) fNil)))))))) (fSeq (fSet 1 (liftP (fOp addO (fVar 1) (fLst (fCons (fTup (fCons (fC (.str "move")) (fCons (fTup (fCons (fC (.str "a")) fNil)) (fCons (fTup fNil) fNil)))) (fCons (fTup (fCons (fC (.str "copy")) (fCons (fTup (fCons (fC (.str "a")) (fCons (fC (.str "abcdefghi")) fNil))) (fCons (fTup (fCons (fC (.str "b")) fNil)) fNil)))) fNil)))))) (fRet (liftP (fOp ixO (fVar 1) (fOp modI (fVar 0) (fCB lenO (fCons (fVar 1) fNil)))))))))))
def F__law_no_deed : FR := runF 2 [.own .p] .p r__law_no_deed
def r__law_other_thing : SR Unit := (fSeq (fSet 1 (liftP (fLst (fCons (fC .non) (fCons (fC (.bl true)) (fCons (fC (.int 0)) (fCons (fC (.str "sent")) (fCons (fC (.str "sent 1;1")) (fCons (fLst fNil) (fCons (fTup fNil) (fCons (fC (.fd false [])) (fCons (fTup (fCons (fC (.str "sent")) fNil)) (fCons (fTup (fCons (fC (.str "sent")) (fCons (fC (.int 1)) (fCons (fC (.int 1)) fNil)))) (fCons (fLst (fCons (fC (.str "sent")) (fCons (fC (.int 1)) (fCons (fTup fNil) (fCons (fC (.int 1)) fNil))))) (fCons (fDisp1 (fC (.str "sent")) (fC (.int 1))) fNil))))))))))))))) (fSeq (fSet 1 (liftP (fOp addO (fVar 1) (fLst (fCons (fTup (fCons (fC (.str "sent")) (fCons (fC (.int 1)) (fCons (fC .non) (fCons (fC (.int 1)) fNil))))) (fCons (fTup (fCons (fTup (fCons (fC (.str "sent")) (fCons (fC (.int 1)) (fCons (fTup fNil) (fCons (fC (.int 1)) fNil))))) fNil)) (fCons (fTup (fCons (fC (.str "sent")) (fCons (fC (.int 1)) (fCons (fC (.fd false [])) (fCons (fC (.int 1)) fNil))))) (fCons (fTup (fCons (fC (.str "sent")) (fCons (fC (.int 1)) (fCons (fC (.str "")) (fCons (fC (.int 1)) fNil))))) fNil)))))))) (fSeq (fSet 1 (liftP (fOp addO (fVar 1) (fLst (fCons (fTup (fCons (fC (.int 1)) (fCons (fC (.str "sent")) (fCons (fTup fNil) (fCons (fC (.int 1)) fNil))))) fNil))))) (fRet (liftP (fOp ixO (fVar 1) (fOp modI (fVar 0) (fCB lenO (fCons (fVar 1) fNil)))))))))
def F__law_other_thing : FR := runF 2 [.own .p] .p r__law_other_thing
def r_is_path : SR Unit := (fSeq (fIfS (liftP (fOr (fNot (fTest (fCB isiO (fCons (fVar 0) (fCons (fC (.ty "tuple")) fNil))))) (fTest (fOp gtI (fCB lenO (fCons (fVar 0) fNil)) (fC (.int 6)))))) (fRet (liftP (fC (.bl false)))) fNext) (fRet (eCB allO (eCons (eLc (eSeq (liftP (fVar 0))) (gName 1) eYes (liftP (fCall0 F_is_name (fCons (fVar 1) fNil))) [1]) eNil))))
def F_is_path : FR := runF 2 [.own .p] .p r_is_path
def r_is_leaf : SR Unit := (fSeq (fIfS (liftP (fOr (fNot (fTest (fCB isiO (fCons (fVar 0) (fCons (fC (.ty "tuple")) fNil))))) (fTest (fOp gtI (fCB lenO (fCons (fVar 0) fNil)) (fC (.int 8)))))) (fRet (liftP (fC (.bl false)))) fNext) (fRet (eCB allO (eCons (eLc (eSeq (liftP (fVar 0))) (gName 1) eYes (liftP (fAndV (fCall0 F_is_number (fCons (fVar 1) fNil)) (fAndV (fOp geI (fVar 1) (fC (.int 0))) (fOp leI (fVar 1) (fC (.int 255)))))) [1]) eNil))))
def F_is_leaf : FR := runF 2 [.own .p] .p r_is_leaf
def r_is_count : SR Unit := (fRet (liftP (fAndV (fCall0 F_is_number (fCons (fVar 0) fNil)) (fAndV (fOp geI (fVar 0) (fC (.int 0))) (fOp leI (fVar 0) (fC (.int 64)))))))
def F_is_count : FR := runF 1 [.own .p] .p r_is_count
def r_is_tally : SR Unit := (fRet (liftP (fAndV (fCall0 F_is_number (fCons (fVar 0) fNil)) (fAndV (fOp geI (fVar 0) (fC (.int 0))) (fOp ltI (fVar 0) (fC (.int 2305843009213693951)))))))
def F_is_tally : FR := runF 1 [.own .p] .p r_is_tally
def r__law_draws : SR Unit := (fSeq (fSet 1 (liftP (fLst fNil))) (fSeq (fFor (eRan ran1 (eCons (liftP (fCB min2O (fCons (fCB lenO (fCons (fVar 0) fNil)) (fCons (fC (.int 63)) fNil)))) eNil)) (gName 2) (fSeq (fSet 3 (liftP (fCB absO (fCons (fOp ixO (fVar 0) (fVar 2)) fNil)))) (fSeq (fIfS (liftP (fTest (fOp ltI (fVar 3) (fOp powI (fC (.int 10)) (fC (.int 18)))))) (fFor (eRan ran1 (eCons (liftP (fC (.int 12))) eNil)) (gName 4) (fExpr (eMut 1 appendM (eCons (liftP (fCall0 F__law_mixed (fCons (fCall0 F__law_mixed (fCons (fVar 3) (fCons (fOp addO (fOp mulI (fC (.int 3)) (fVar 4)) (fC (.int 1))) fNil))) (fCons (fOp addO (fOp addO (fVar 4) (fVar 2)) (fC (.int 2))) fNil)))) eNil))) [4]) fNext) (fSeq (fWhile 2000 (liftP (fAnd (fTest (fOp geI (fVar 3) (fOp powI (fC (.int 10)) (fC (.int 18))))) (fTest (fOp ltI (fCB lenO (fCons (fVar 1) fNil)) (fC (.int 900)))))) (fSeq (fExpr (eMut 1 appendM (eCons (liftP (fOp modI (fVar 3) (fC (.int 2147483629)))) eNil))) (fSet 3 (liftP (fOp divI (fVar 3) (fC (.int 2147483629)))))) []) (fIfS (liftP (fTest (fOp geI (fVar 3) (fC (.int 2147483629))))) (fExpr (eMut 1 appendM (eCons (liftP (fOp modI (fVar 3) (fC (.int 2147483629)))) eNil))) fNext)))) [2, 3, 4]) (fRet (liftP (fVar 1)))))
def F__law_draws : FR := runF 5 [.own .p] (.l .p) r__law_draws
def r__law_path : SR Unit := (fSeq (fSet 1 (callX0 F__law_next [.sl 0] [0] eNil)) (fSeq (fSet 2 (liftP (fOp ixO (fLst (fCons (fC (.int 1)) (fCons (fC (.int 1)) (fCons (fC (.int 1)) (fCons (fC (.int 2)) (fCons (fC (.int 2)) (fCons (fC (.int 2)) (fCons (fC (.int 3)) (fCons (fC (.int 3)) (fCons (fC (.int 4)) (fCons (fC (.int 6)) fNil))))))))))) (fOp modI (fVar 1) (fC (.int 10)))))) (fRet (eCB tupC (eCons (eLc (eRan ran1 (eCons (liftP (fVar 2)) eNil)) (gName 3) eYes (callX0 F__law_name [.v] [] (eCons (eOp modI (callX0 F__law_next [.sl 0] [0] eNil) (liftP (fOp ixO (fLst (fCons (fC (.int 2)) (fCons (fC (.int 4)) (fCons (fC (.int 10)) fNil)))) (fOp modI (fOp divI (fVar 1) (fC (.int 10))) (fC (.int 3)))))) eNil)) [3]) eNil)))))
def F__law_path : FR := runF 4 [.io (.l .p)] .p r__law_path
def r__law_leaf : SR Unit := (fSeq (fSet 1 (callX0 F__law_next [.sl 0] [0] eNil)) (fSeq (fIfS (liftP (fTest (fOp eqD (fOp modI (fVar 1) (fC (.int 4))) (fC (.int 0))))) (fRet (liftP (fOp ixO (fLst (fCons (fTup fNil) (fCons (fTup (fCons (fC (.int 0)) fNil)) (fCons (fTup (fCons (fC (.int 255)) (fCons (fC (.int 0)) fNil))) (fCons (fTup (fCons (fC (.int 7)) (fCons (fC (.int 7)) (fCons (fC (.int 7)) (fCons (fC (.int 7)) (fCons (fC (.int 7)) (fCons (fC (.int 7)) (fCons (fC (.int 7)) (fCons (fC (.int 7)) fNil))))))))) fNil))))) (fOp modI (fOp divI (fVar 1) (fC (.int 4))) (fC (.int 4)))))) fNext) (fRet (eCB tupC (eCons (eLc (eRan ran1 (eCons (liftP (fOp modI (fOp divI (fVar 1) (fC (.int 3))) (fC (.int 9)))) eNil)) (gName 2) eYes (liftP (fOp modI (fOp addO (fOp divI (fVar 1) (fC (.int 7))) (fOp mulI (fOp mulI (fVar 2) (fVar 2)) (fOp modI (fVar 1) (fC (.int 5))))) (fC (.int 256)))) [2]) eNil)))))
def F__law_leaf : FR := runF 3 [.io (.l .p)] .p r__law_leaf
def r__law_new_path : SR Unit := (fSeq (fSet 2 (eOp addO (liftP (fLst (fCons (fTup fNil) fNil))) (eCB sortO (eCons (fLkE 1 true (eLc (eLk keysD 1) (gName 4) (liftP (fAnd (fTest (fOp isNO (fOp ixO (fVar 1) (fVar 4)) (fC .non))) (fTest (fOp ltI (fCB lenO (fCons (fVar 4) fNil)) (fC (.int 6)))))) (liftP (fVar 4)) [4])) eNil)))) (fSeq (fSet 3 (callX0 F__law_next [.sl 0] [0] eNil)) (fRet (liftP (fOp addO (fOp ixO (fVar 2) (fOp modI (fVar 3) (fCB lenO (fCons (fVar 2) fNil)))) (fTup (fCons (fCall0 F__law_name (fCons (fOp divI (fVar 3) (fC (.int 64))) fNil)) fNil)))))))
def F__law_new_path : FR := runF 5 [.io (.l .p), .bor (.mT .p)] .p r__law_new_path
def r__law_bent : SR Unit := (fSeq (fAsgG (liftP (fVar 0)) (gTup 4 (gCons (gName 2) (gCons (gName 3) (gCons (gName 4) (gCons (gName 5) gNil)))))) (fSeq (fSet 6 (liftP (fLst (fCons (fUn negI (fC (.int 1))) (fCons (fC (.int 2305843009213693951)) (fCons (fOp powI (fC (.int 10)) (fC (.int 30))) (fCons (fC (.bl true)) (fCons (fC (.str "1")) (fCons (fC .non) (fCons (fTup (fCons (fC (.int 1)) fNil)) fNil)))))))))) (fSeq (fSet 7 (liftP (fOp ixO (fVar 6) (fOp modI (fOp divI (fVar 1) (fC (.int 8))) (fC (.int 7)))))) (fSeq (fSet 8 (liftP (fOp modI (fVar 1) (fC (.int 8))))) (fSeq (fIfS (liftP (fTest (fOp eqD (fVar 8) (fC (.int 0))))) (fRet (liftP (fLst (fCons (fVar 2) (fCons (fVar 3) (fCons (fVar 4) (fCons (fVar 5) fNil))))))) fNext) (fSeq (fIfS (liftP (fTest (fOp eqD (fVar 8) (fC (.int 1))))) (fRet (liftP (fTup (fCons (fVar 2) (fCons (fVar 3) (fCons (fCB lstC (fCons (fVar 4) fNil)) (fCons (fVar 5) fNil))))))) fNext) (fSeq (fIfS (liftP (fTest (fOp eqD (fVar 8) (fC (.int 2))))) (fRet (liftP (fTup (fCons (fVar 2) (fCons (fVar 3) (fCons (fVar 4) (fCons (fVar 5) (fCons (fC (.int 1)) fNil)))))))) fNext) (fSeq (fIfS (liftP (fTest (fOp eqD (fVar 8) (fC (.int 3))))) (fRet (liftP (fTup (fCons (fOp ixO (fLst (fCons (fC (.str "Sent")) (fCons (fC (.str "send")) (fCons (fC (.str "")) (fCons (fC .non) (fCons (fC (.int 1)) fNil)))))) (fOp modI (fOp divI (fVar 1) (fC (.int 8))) (fC (.int 5)))) (fCons (fVar 3) (fCons (fVar 4) (fCons (fVar 5) fNil))))))) fNext) (fSeq (fIfS (liftP (fTest (fOp eqD (fVar 8) (fC (.int 4))))) (fRet (liftP (fTup (fCons (fVar 2) (fCons (fVar 7) (fCons (fVar 4) (fCons (fVar 5) fNil))))))) fNext) (fSeq (fIfS (liftP (fTest (fOp eqD (fVar 8) (fC (.int 5))))) (fRet (liftP (fTup (fCons (fVar 2) (fCons (fVar 3) (fCons (fVar 4) (fCons (fVar 7) fNil))))))) fNext) (fSeq (fSet 9 (liftP (fOp modI (fOp divI (fVar 1) (fC (.int 8))) (fOp addO (fCB lenO (fCons (fVar 4) fNil)) (fC (.int 1)))))) (fSeq (fIfS (liftP (fTest (fOp eqD (fVar 8) (fC (.int 6))))) (fRet (liftP (fTup (fCons (fVar 2) (fCons (fVar 3) (fCons (fOp addO (fOp addO (fSl (fVar 4) fNoPart (fPart (fVar 9))) (fTup (fCons (fCall0 F__law_no_deed (fCons (fOp divI (fVar 1) (fC (.int 99))) fNil)) fNil))) (fSl (fVar 4) (fPart (fVar 9)) fNoPart)) (fCons (fVar 5) fNil))))))) fNext) (fRet (liftP (fTup (fCons (fVar 2) (fCons (fVar 3) (fCons (fOp repO (fTup (fCons (fTup (fCons (fC (.str "out")) (fCons (fTup (fCons (fC (.str "a")) fNil)) fNil))) fNil)) (fC (.int 1001))) (fCons (fVar 5) fNil)))))))))))))))))))
def F__law_bent : FR := runF 10 [.own .p, .own .p] .p r__law_bent
def r_is_way : SR Unit := (fRet (liftP (fAndV (fCall0 F_is_path (fCons (fVar 0) fNil)) (fOp neD (fVar 0) (fTup fNil)))))
def F_is_way : FR := runF 1 [.own .p] .p r_is_way
def r__law_old_path : SR Unit := (fSeq (fSet 2 (fLkE 1 true (eSortK 1))) (fSeq (fSet 3 (callX0 F__law_next [.sl 0] [0] eNil)) (fSeq (fIfS (liftP (fOr (fTest (fOp eqD (fVar 2) (fLst fNil))) (fTest (fOp eqD (fOp modI (fVar 3) (fC (.int 8))) (fC (.int 0)))))) (fRet (callX0 F__law_path [.sl 0] [0] eNil)) fNext) (fRet (liftP (fOp ixO (fVar 2) (fOp modI (fOp divI (fVar 3) (fC (.int 8))) (fCB lenO (fCons (fVar 2) fNil)))))))))
def F__law_old_path : FR := runF 4 [.io (.l .p), .bor (.mT .p)] .p r__law_old_path
def r_is_deed : SR Unit := (fSeq (fIfS (liftP (fOr (fNot (fTest (fCB isiO (fCons (fVar 0) (fCons (fC (.ty "tuple")) fNil))))) (fOr (fTest (fOp eqD (fVar 0) (fTup fNil))) (fOr (fNot (fTest (fCB isiO (fCons (fOp ixO (fVar 0) (fC (.int 0))) (fCons (fC (.ty "str")) fNil))))) (fTest (fK (inK true kt_SIZES) (fOp ixO (fVar 0) (fC (.int 0))))))))) (fRet (liftP (fC (.bl false)))) fNext) (fSeq (fIfS (liftP (fOr (fTest (fOp neD (fCB lenO (fCons (fVar 0) fNil)) (fK (ixK kt_SIZES) (fOp ixO (fVar 0) (fC (.int 0)))))) (fNot (fTest (fCall0 F_is_way (fCons (fOp ixO (fVar 0) (fC (.int 1))) fNil)))))) (fRet (liftP (fC (.bl false)))) fNext) (fSeq (fIfS (liftP (fTest (fOp eqD (fOp ixO (fVar 0) (fC (.int 0))) (fC (.str "put"))))) (fRet (liftP (fAndV (fCall0 F_is_count (fCons (fOp ixO (fVar 0) (fC (.int 2))) fNil)) (fCall0 F_is_leaf (fCons (fOp ixO (fVar 0) (fC (.int 3))) fNil))))) fNext) (fSeq (fIfS (liftP (fTest (fOp eqD (fOp ixO (fVar 0) (fC (.int 0))) (fC (.str "trim"))))) (fRet (liftP (fCall0 F_is_count (fCons (fOp ixO (fVar 0) (fC (.int 2))) fNil)))) fNext) (fSeq (fIfS (liftP (fOr (fTest (fOp eqD (fOp ixO (fVar 0) (fC (.int 0))) (fC (.str "move")))) (fTest (fOp eqD (fOp ixO (fVar 0) (fC (.int 0))) (fC (.str "copy")))))) (fRet (liftP (fCall0 F_is_way (fCons (fOp ixO (fVar 0) (fC (.int 2))) fNil)))) fNext) (fRet (liftP (fC (.bl true)))))))))
def F_is_deed : FR := runF 1 [.own .p] .p r_is_deed
def r__law_deed : SR Unit := (fSeq (fSet 2 (callX0 F__law_next [.sl 0] [0] eNil)) (fSeq (fSet 3 (liftP (fLst (fCons (fC (.str "folder")) (fCons (fC (.str "folder")) (fCons (fC (.str "file")) (fCons (fC (.str "file")) (fCons (fC (.str "put")) (fCons (fC (.str "put")) (fCons (fC (.str "put")) (fCons (fC (.str "put")) (fCons (fC (.str "trim")) (fCons (fC (.str "out")) (fCons (fC (.str "move")) (fCons (fC (.str "copy")) fNil))))))))))))))) (fSeq (fSet 4 (liftP (fOp ixO (fVar 3) (fOp modI (fVar 2) (fC (.int 12)))))) (fSeq (fLk 1 true (fSet 5 (eLc (eLk valsD 1) (gName 10) (liftP (fTest (fOp notNO (fVar 10) (fC .non)))) (liftP (fCB lenO (fCons (fVar 10) fNil))) [10]))) (fSeq (fIfS (eAnd (liftP (fTest (fOp eqD (fVar 4) (fC (.str "copy"))))) (eTest (eOp gtI (eOp addO (fLkE 1 true (eLenK 1)) (liftP (fCB sumO (fCons (fVar 5) fNil)))) (liftP (fC (.int 300)))))) (fSet 4 (liftP (fC (.str "move")))) fNext) (fSeq (fIfS (liftP (fOr (fTest (fOp eqD (fVar 4) (fC (.str "folder")))) (fTest (fOp eqD (fVar 4) (fC (.str "file")))))) (fRet (eTup (eCons (liftP (fVar 4)) (eCons (callX0 F__law_new_path [.sl 0, .sl 1] [0] eNil) eNil)))) fNext) (fSeq (fSet 6 (callX0 F__law_old_path [.sl 0, .sl 1] [0] eNil)) (fSeq (fSet 7 (eCB sortO (eCons (fLkE 1 true (eLc (eLk keysD 1) (gName 10) (liftP (fTest (fOp notNO (fOp ixO (fVar 1) (fVar 10)) (fC .non)))) (liftP (fVar 10)) [10])) eNil))) (fSeq (fIfS (liftP (fAnd (fOr (fTest (fOp eqD (fVar 4) (fC (.str "put")))) (fTest (fOp eqD (fVar 4) (fC (.str "trim"))))) (fAnd (fTest (fOp neD (fVar 7) (fLst fNil))) (fTest (fOp neD (fOp modI (fOp divI (fVar 2) (fC (.int 12))) (fC (.int 8))) (fC (.int 0))))))) (fSet 6 (liftP (fOp ixO (fVar 7) (fOp modI (fOp divI (fVar 2) (fC (.int 96))) (fCB lenO (fCons (fVar 7) fNil)))))) fNext) (fSeq (fSet 8 (liftP (fC (.int 0)))) (fSeq (fIfS (liftP (fAnd (fTest (fOp inO (fVar 6) (fVar 1))) (fTest (fOp notNO (fOp ixO (fVar 1) (fVar 6)) (fC .non))))) (fSet 8 (liftP (fCB lenO (fCons (fOp ixO (fVar 1) (fVar 6)) fNil)))) fNext) (fSeq (fIfS (liftP (fTest (fOp eqD (fVar 4) (fC (.str "put"))))) (fSeq (fSet 9 (liftP (fOp modI (fOp ixO (fLst (fCons (fVar 8) (fCons (fOp modI (fOp divI (fVar 2) (fC (.int 1000))) (fOp addO (fVar 8) (fC (.int 2)))) (fCons (fVar 8) fNil)))) (fOp modI (fOp divI (fVar 2) (fC (.int 12))) (fC (.int 3)))) (fC (.int 65))))) (fRet (eTup (eCons (liftP (fVar 4)) (eCons (liftP (fVar 6)) (eCons (liftP (fVar 9)) (eCons (callX0 F__law_leaf [.sl 0] [0] eNil) eNil))))))) fNext) (fSeq (fIfS (liftP (fTest (fOp eqD (fVar 4) (fC (.str "trim"))))) (fRet (liftP (fTup (fCons (fVar 4) (fCons (fVar 6) (fCons (fOp modI (fOp modI (fOp divI (fVar 2) (fC (.int 1000))) (fOp addO (fVar 8) (fC (.int 2)))) (fC (.int 65))) fNil)))))) fNext) (fSeq (fIfS (liftP (fTest (fOp eqD (fVar 4) (fC (.str "out"))))) (fRet (liftP (fTup (fCons (fVar 4) (fCons (fVar 6) fNil))))) fNext) (fSeq (fIfS (liftP (fTest (fOp eqD (fOp modI (fOp divI (fVar 2) (fC (.int 12))) (fC (.int 6))) (fC (.int 0))))) (fRet (liftP (fTup (fCons (fVar 4) (fCons (fVar 6) (fCons (fSl (fOp addO (fVar 6) (fTup (fCons (fCall0 F__law_name (fCons (fOp divI (fVar 2) (fC (.int 100))) fNil)) fNil))) fNoPart (fPart (fC (.int 6)))) fNil)))))) fNext) (fRet (eTup (eCons (liftP (fVar 4)) (eCons (liftP (fVar 6)) (eCons (callX0 F__law_new_path [.sl 0, .sl 1] [0] eNil) eNil))))))))))))))))))))
def F__law_deed : FR := runF 11 [.io (.l .p), .bor (.mT .p)] .p r__law_deed
def r_is_sent : SR Unit := (fSeq (fIfS (liftP (fOr (fNot (fTest (fCB isiO (fCons (fVar 0) (fCons (fC (.ty "tuple")) fNil))))) (fOr (fTest (fOp neD (fCB lenO (fCons (fVar 0) fNil)) (fC (.int 4)))) (fOr (fNot (fTest (fCB isiO (fCons (fOp ixO (fVar 0) (fC (.int 0))) (fCons (fC (.ty "str")) fNil))))) (fTest (fOp neD (fOp ixO (fVar 0) (fC (.int 0))) (fC (.str "sent")))))))) (fRet (liftP (fC (.bl false)))) fNext) (fSeq (fIfS (liftP (fOr (fNot (fTest (fCall0 F_is_tally (fCons (fOp ixO (fVar 0) (fC (.int 1))) fNil)))) (fOr (fNot (fTest (fCall0 F_is_tally (fCons (fOp ixO (fVar 0) (fC (.int 3))) fNil)))) (fOr (fNot (fTest (fCB isiO (fCons (fOp ixO (fVar 0) (fC (.int 2))) (fCons (fC (.ty "tuple")) fNil))))) (fTest (fOp gtI (fCB lenO (fCons (fOp ixO (fVar 0) (fC (.int 2))) fNil)) (fC (.int 1000)))))))) (fRet (liftP (fC (.bl false)))) fNext) (fRet (eCB allO (eCons (eLc (eSeq (liftP (fOp ixO (fVar 0) (fC (.int 2))))) (gName 1) eYes (liftP (fCall0 F_is_deed (fCons (fVar 1) fNil))) [1]) eNil)))))
def F_is_sent : FR := runF 2 [.own .p] .p r_is_sent
def r__law_said : SR Unit := (fSeq (fSet 2 (liftP (fCall0 F_is_sent (fCons (fVar 0) fNil)))) (fRet (liftP (fAndV (fCB isiO (fCons (fVar 2) (fCons (fC (.ty "bool")) fNil))) (fOp eqD (fVar 2) (fVar 1))))))
def F__law_said : FR := runF 3 [.own .p, .own .p] .p r__law_said
def r__law_within : SR Unit := (fSeq (fLk 0 true (fSet 2 (eLc (eLk keysD 0) (gName 3) (liftP (fAnd (fTest (fOp eqD (fCB lenO (fCons (fVar 3) fNil)) (fOp addO (fCB lenO (fCons (fVar 1) fNil)) (fC (.int 1))))) (fTest (fOp eqD (fSl (fVar 3) fNoPart (fPart (fUn negI (fC (.int 1))))) (fVar 1))))) (liftP (fOp ixO (fVar 3) (fUn negI (fC (.int 1))))) [3]))) (fRet (eSortLam (liftP (fCall0 F__law_code (fCons (fVar 0) fNil))) (eCons (liftP (fVar 2)) eNil))))
def F__law_within : FR := runF 4 [.bor (.mT .p), .own .p] .p r__law_within
def r__law_moved : SR Unit := (fSeq (fSet 2 (liftP (fOp ixO (fVar 1) (fC (.int 1))))) (fSeq (fSet 3 (liftP (fOp ixO (fVar 1) (fC (.int 2))))) (fSeq (fIfS (liftP (fOr (fTest (fOp ninO (fVar 2) (fVar 0))) (fNot (fTest (fCall0 F__law_is_folder (fCons (fVar 0) (fCons (fSl (fVar 3) fNoPart (fPart (fUn negI (fC (.int 1))))) fNil))))))) (fRet (liftP (fC (.str "NoThing")))) fNext) (fSeq (fIfS (liftP (fAnd (fTest (fOp eqD (fOp ixO (fVar 1) (fC (.int 0))) (fC (.str "move")))) (fTest (fOp eqD (fSl (fVar 3) fNoPart (fPart (fCB lenO (fCons (fVar 2) fNil)))) (fVar 2))))) (fRet (liftP (fC (.str "Within")))) fNext) (fSeq (fIfS (liftP (fTest (fOp inO (fVar 3) (fVar 0)))) (fRet (liftP (fC (.str "Taken")))) fNext) (fSeq (fSet 4 (liftP (fCB lenO (fCons (fCall0 F__law_within (fCons (fVar 0) (fCons (fSl (fVar 3) fNoPart (fPart (fUn negI (fC (.int 1))))) fNil))) fNil)))) (fSeq (fIfS (liftP (fAnd (fTest (fOp eqD (fOp ixO (fVar 1) (fC (.int 0))) (fC (.str "move")))) (fTest (fOp eqD (fSl (fVar 2) fNoPart (fPart (fUn negI (fC (.int 1))))) (fSl (fVar 3) fNoPart (fPart (fUn negI (fC (.int 1))))))))) (fSet 4 (liftP (fOp subI (fVar 4) (fC (.int 1))))) fNext) (fSeq (fIfS (liftP (fTest (fOp geI (fVar 4) (fC (.int 8))))) (fRet (liftP (fC (.str "TooMany")))) fNext) (fSeq (fSet 5 (liftP (fCall0 F__law_under (fCons (fVar 0) (fCons (fVar 2) fNil))))) (fSeq (fIfS (eTest (eOp gtI (eOp addO (liftP (fOp subI (fCB lenO (fCons (fVar 3) fNil)) (fCB lenO (fCons (fVar 2) fNil)))) (eCB maxLO (eCons (eLc (eSeq (liftP (fVar 5))) (gName 7) eYes (liftP (fCB lenO (fCons (fVar 7) fNil))) [7]) eNil))) (liftP (fC (.int 6))))) (fRet (liftP (fC (.str "TooDeep")))) fNext) (fSeq (fSet 6 (liftP (fCall0 F__law_twin (fCons (fVar 0) fNil)))) (fSeq (fFor (eSeq (liftP (fVar 5))) (gName 7) (fIfS (liftP (fTest (fOp eqD (fOp ixO (fVar 1) (fC (.int 0))) (fC (.str "move"))))) (fExpr (eMut 0 (popKM true) (eCons (liftP (fVar 7)) eNil))) fNext) [7]) (fSeq (fFor (eSeq (liftP (fVar 5))) (gName 7) (fSetIx 0 (setM true) (liftP (fOp ixO (fVar 6) (fVar 7))) (liftP (fOp addO (fVar 3) (fSl (fVar 7) (fPart (fCB lenO (fCons (fVar 2) fNil))) fNoPart)))) [7]) (fRet (liftP (fC (.str "")))))))))))))))))
def F__law_moved : FR := runF 8 [.io (.mT .p), .own .p] .p r__law_moved
def r__law_do : SR Unit := (fSeq (fSet 2 (liftP (fOp ixO (fVar 1) (fC (.int 1))))) (fSeq (fIfS (liftP (fOr (fTest (fOp eqD (fOp ixO (fVar 1) (fC (.int 0))) (fC (.str "move")))) (fTest (fOp eqD (fOp ixO (fVar 1) (fC (.int 0))) (fC (.str "copy")))))) (fRet (callX0 F__law_moved [.sl 0, .v] [0] (eCons (liftP (fVar 1)) eNil))) fNext) (fSeq (fIfS (liftP (fOr (fTest (fOp eqD (fOp ixO (fVar 1) (fC (.int 0))) (fC (.str "folder")))) (fTest (fOp eqD (fOp ixO (fVar 1) (fC (.int 0))) (fC (.str "file")))))) (fSeq (fIfS (liftP (fNot (fTest (fCall0 F__law_is_folder (fCons (fVar 0) (fCons (fSl (fVar 2) fNoPart (fPart (fUn negI (fC (.int 1))))) fNil)))))) (fRet (liftP (fC (.str "NoThing")))) fNext) (fSeq (fIfS (liftP (fTest (fOp inO (fVar 2) (fVar 0)))) (fRet (liftP (fC (.str "Taken")))) fNext) (fSeq (fIfS (liftP (fTest (fOp eqD (fCB lenO (fCons (fCall0 F__law_within (fCons (fVar 0) (fCons (fSl (fVar 2) fNoPart (fPart (fUn negI (fC (.int 1))))) fNil))) fNil)) (fC (.int 8))))) (fRet (liftP (fC (.str "TooMany")))) fNext) (fSeq (fSetIx 0 (setM true) (liftP (fC .non)) (liftP (fVar 2))) (fSeq (fIfS (liftP (fTest (fOp eqD (fOp ixO (fVar 1) (fC (.int 0))) (fC (.str "file"))))) (fSetIx 0 (setM true) (liftP (fLst fNil)) (liftP (fVar 2))) fNext) (fRet (liftP (fC (.str ""))))))))) fNext) (fSeq (fIfS (liftP (fOr (fTest (fOp ninO (fVar 2) (fVar 0))) (fAnd (fTest (fOp neD (fOp ixO (fVar 1) (fC (.int 0))) (fC (.str "out")))) (fTest (fOp isNO (fOp ixO (fVar 0) (fVar 2)) (fC .non)))))) (fRet (liftP (fC (.str "NoThing")))) fNext) (fSeq (fIfS (liftP (fTest (fOp eqD (fOp ixO (fVar 1) (fC (.int 0))) (fC (.str "out"))))) (fSeq (fFor (eSeq (liftP (fCall0 F__law_under (fCons (fVar 0) (fCons (fVar 2) fNil))))) (gName 3) (fExpr (eMut 0 (popKM true) (eCons (liftP (fVar 3)) eNil))) [3]) (fRet (liftP (fC (.str ""))))) fNext) (fSeq (fIfS (liftP (fTest (fOp eqD (fOp ixO (fVar 1) (fC (.int 0))) (fC (.str "trim"))))) (fSeq (fIfS (liftP (fTest (fOp gtI (fOp ixO (fVar 1) (fC (.int 2))) (fCB lenO (fCons (fOp ixO (fVar 0) (fVar 2)) fNil))))) (fRet (liftP (fC (.str "NoLeaf")))) fNext) (fSeq (fSetIx 0 (setM true) (liftP (fSl (fOp ixO (fVar 0) (fVar 2)) fNoPart (fPart (fOp ixO (fVar 1) (fC (.int 2)))))) (liftP (fVar 2))) (fRet (liftP (fC (.str "")))))) fNext) (fSeq (fIfS (liftP (fOr (fTest (fOp gtI (fOp ixO (fVar 1) (fC (.int 2))) (fCB lenO (fCons (fOp ixO (fVar 0) (fVar 2)) fNil)))) (fTest (fOp eqD (fOp ixO (fVar 1) (fC (.int 2))) (fC (.int 64)))))) (fRet (liftP (fC (.str "NoLeaf")))) fNext) (fSeq (fSet 4 (liftP (fOp ixO (fVar 0) (fVar 2)))) (fSeq (fSetIx 0 (setM true) (liftP (fOp addO (fOp addO (fSl (fVar 4) fNoPart (fPart (fOp ixO (fVar 1) (fC (.int 2))))) (fLst (fCons (fOp ixO (fVar 1) (fC (.int 3))) fNil))) (fSl (fVar 4) (fPart (fOp addO (fOp ixO (fVar 1) (fC (.int 2))) (fC (.int 1)))) fNoPart))) (liftP (fVar 2))) (fRet (liftP (fC (.str "")))))))))))))
def F__law_do : FR := runF 5 [.io (.mT .p), .own .p] .p r__law_do
def r__law_further : SR Unit := (fSeq (fSet 4 (liftP (fLst fNil))) (fSeq (fFor (eRan ran1 (eCons (eOp modI (callX0 F__law_next [.sl 0] [0] eNil) (liftP (fOp addO (fVar 2) (fC (.int 1))))) eNil)) (gName 5) (fSeq (fSet 6 (callX0 F__law_deed [.sl 0, .sl 1] [0] eNil)) (fIfS (liftP (fOr (fTest (fOp neD (fOp ixO (fVar 6) (fC (.int 0))) (fC (.str "copy")))) (fTest (fOp ltI (fCall0 F__law_room (fCons (fVar 1) fNil)) (fVar 3))))) (fIfS (eTest (eOp eqD (callX0 F__law_do [.sl 1, .v] [1] (eCons (liftP (fVar 6)) eNil)) (liftP (fC (.str ""))))) (fExpr (eMut 4 appendM (eCons (liftP (fVar 6)) eNil))) fNext) fNext)) [5, 6]) (fRet (liftP (fVar 4)))))
def F__law_further : FR := runF 7 [.io (.l .p), .io (.mT .p), .own .p, .own .p] .p r__law_further
def r__law_two : SR Unit := (fSeq (fSet 2 (liftP (fC (.fd true [])))) (fSeq (fExpr (callX0 F__law_further [.sl 0, .sl 2, .v, .v] [0, 2] (eCons (liftP (fVar 1)) (eCons (liftP (fC (.int 40))) eNil)))) (fSeq (fSet 3 (callX0 F__law_next [.sl 0] [0] eNil)) (fSeq (fSet 4 (liftP (fC (.fd true [])))) (fSeq (fIfS (liftP (fTest (fOp gtI (fOp modI (fVar 3) (fC (.int 4))) (fC (.int 0))))) (fSet 4 (liftP (fCall0 F__law_twin (fCons (fVar 2) fNil)))) fNext) (fSeq (fSet 5 (callX0 F__law_further [.sl 0, .sl 4, .v, .v] [0, 4] (eCons (liftP (fVar 1)) (eCons (liftP (fC (.int 40))) eNil)))) (fSeq (fIfS (liftP (fTest (fOp eqD (fOp modI (fOp divI (fVar 3) (fC (.int 4))) (fC (.int 8))) (fC (.int 0))))) (fRet (eLst (eCons (liftP (fVar 4)) (eCons (liftP (fVar 2)) (eCons (liftP (fC .non)) eNil))))) fNext) (fSeq (fIfS (liftP (fTest (fOp gtI (fOp modI (fVar 3) (fC (.int 4))) (fC (.int 0))))) (fRet (eLst (eCons (liftP (fVar 2)) (eCons (liftP (fVar 4)) (eCons (liftP (fVar 5)) eNil))))) fNext) (fRet (eLst (eCons (liftP (fVar 2)) (eCons (liftP (fVar 4)) (eCons (liftP (fC .non)) eNil)))))))))))))
def F__law_two : FR := runF 6 [.io (.l .p), .own .p] .p r__law_two
def r__law_all_made (F : FR) : SR Unit := (fSeq (fIfS (liftP (fTest (fOp notNO (fOp ixO (fVar 0) (fVar 1)) (fC .non)))) (fRet (eOp addO (liftP (fLst (fCons (fTup (fCons (fC (.str "file")) (fCons (fVar 1) fNil))) fNil))) (eLc (eEnum (eCons (liftP (fOp ixO (fVar 0) (fVar 1))) eNil)) (gTup 2 (gCons (gName 4) (gCons (gName 5) gNil))) eYes (liftP (fTup (fCons (fC (.str "put")) (fCons (fVar 1) (fCons (fVar 4) (fCons (fVar 5) fNil)))))) [4, 5]))) fNext) (fSeq (fSet 2 (liftP (fLst (fCons (fTup (fCons (fC (.str "folder")) (fCons (fVar 1) fNil))) fNil)))) (fSeq (fFor (eSeq (liftP (fCall0 F__law_within (fCons (fVar 0) (fCons (fVar 1) fNil))))) (gName 3) (fSet 2 (liftP (fOp addO (fVar 2) (fCall0 F (fCons (fVar 0) (fCons (fOp addO (fVar 1) (fTup (fCons (fVar 3) fNil))) fNil)))))) [3]) (fRet (liftP (fVar 2))))))
def F__law_all_made : Nat → FR
  | 0 => fun _ => .stuck
  | k + 1 => runF 6 [.own .p, .own .p] .p (r__law_all_made (F__law_all_made k))
def r__law_lines (F : FR) : SR Unit := (fSeq (fSet 2 (liftP (fC (.str "")))) (fSeq (fFor (eSeq (liftP (fCall0 F__law_within (fCons (fVar 0) (fCons (fVar 1) fNil))))) (gName 3) (fSeq (fSet 4 (liftP (fOp addO (fVar 1) (fTup (fCons (fVar 3) fNil))))) (fIfS (liftP (fTest (fOp isNO (fOp ixO (fVar 0) (fVar 4)) (fC .non)))) (fSet 2 (eOp addO (eOp addO (eOp addO (liftP (fOp addO (fVar 2) (fC (.str "folder ")))) (eCM tyStr joinM (liftP (fC (.str "/"))) (eCons (liftP (fVar 4)) eNil))) (liftP (fC (.str "\n")))) (liftP (fCall0 F (fCons (fVar 0) (fCons (fVar 4) fNil)))))) (fSeq (fSet 5 (eLc (eSeq (liftP (fOp ixO (fVar 0) (fVar 4)))) (gName 6) eYes (eCM tyStr joinM (liftP (fC (.str ""))) (eCons (eOp addO (liftP (fLst (fCons (fC (.str " leaf")) fNil))) (eLc (eSeq (liftP (fVar 6))) (gName 7) eYes (eJ (jCons (liftP (fC (.str " "))) (jCons (eFmt (liftP (fVar 7))) jNil))) [7])) eNil)) [6])) (fSet 2 (eOp addO (eOp addO (eOp addO (liftP (fOp addO (fVar 2) (fC (.str "file ")))) (eCM tyStr joinM (liftP (fC (.str "/"))) (eCons (liftP (fVar 4)) eNil))) (eCM tyStr joinM (liftP (fC (.str ""))) (eCons (liftP (fVar 5)) eNil))) (liftP (fC (.str "\n")))))))) [3, 4, 5]) (fRet (liftP (fVar 2)))))
def F__law_lines : Nat → FR
  | 0 => fun _ => .stuck
  | k + 1 => runF 8 [.own .p, .own .p] .p (r__law_lines (F__law_lines k))
def r__law_tally : SR Unit := (fSeq (fSet 1 (liftP (fC (.int 1)))) (fSeq (fFor (eSeq (liftP (fCall0 (F__law_lines 12) (fCons (fVar 0) (fCons (fTup fNil) fNil))))) (gName 2) (fSet 1 (liftP (fOp modI (fOp addO (fOp addO (fOp mulI (fVar 1) (fC (.int 257))) (fCB ordO (fCons (fVar 2) fNil))) (fC (.int 1))) (fC (.int 2305843009213693951))))) [2]) (fRet (liftP (fVar 1)))))
def F__law_tally : FR := runF 3 [.own .p] .p r__law_tally
def r__law_between (F : FR) : SR Unit := (fSeq (fSet 3 (liftP (fLst fNil))) (fSeq (fFor (eSeq (liftP (fCall0 F__law_within (fCons (fVar 0) (fCons (fVar 2) fNil))))) (gName 4) (fIfS (liftP (fNot (fTest (fCall0 F__law_like (fCons (fVar 0) (fCons (fVar 1) (fCons (fOp addO (fVar 2) (fTup (fCons (fVar 4) fNil))) fNil))))))) (fExpr (eMut 3 appendM (eCons (liftP (fTup (fCons (fC (.str "out")) (fCons (fOp addO (fVar 2) (fTup (fCons (fVar 4) fNil))) fNil)))) eNil))) fNext) [4]) (fSeq (fFor (eSeq (liftP (fCall0 F__law_within (fCons (fVar 1) (fCons (fVar 2) fNil))))) (gName 4) (fSeq (fSet 5 (liftP (fOp addO (fVar 2) (fTup (fCons (fVar 4) fNil))))) (fIfS (liftP (fNot (fTest (fCall0 F__law_like (fCons (fVar 0) (fCons (fVar 1) (fCons (fVar 5) fNil))))))) (fSet 3 (liftP (fOp addL (fVar 3) (fCall0 (F__law_all_made 12) (fCons (fVar 1) (fCons (fVar 5) fNil)))))) (fIfS (liftP (fTest (fOp isNO (fOp ixO (fVar 1) (fVar 5)) (fC .non)))) (fSet 3 (liftP (fOp addL (fVar 3) (fCall0 F (fCons (fVar 0) (fCons (fVar 1) (fCons (fVar 5) fNil))))))) (fSet 3 (liftP (fOp addL (fVar 3) (fCall0 F__law_on_leaves (fCons (fOp ixO (fVar 0) (fVar 5)) (fCons (fOp ixO (fVar 1) (fVar 5)) (fCons (fVar 5) fNil)))))))))) [4, 5]) (fRet (liftP (fVar 3))))))
def F__law_between : Nat → FR
  | 0 => fun _ => .stuck
  | k + 1 => runF 6 [.own .p, .own .p, .own .p] .p (r__law_between (F__law_between k))
def r_law : SR Unit := (fSeq (fSet 1 (liftP (fCall0 F__law_draws (fCons (fVar 0) fNil)))) (fSeq (fAsgG (callX0 F__law_two [.sl 1, .v] [1] (eCons (liftP (fC (.int 20))) eNil)) (gTupL 3 (gCons (gName 2) (gCons (gName 3) (gCons (gName 4) gNil))))) (fSeq (fSet 5 (callX0 F__law_next [.sl 1] [1] eNil)) (fSeq (fSet 6 (liftP (fTup (fCons (fC (.str "sent")) (fCons (fCall0 F__law_tally (fCons (fVar 2) fNil)) (fCons (fCB tupC (fCons (fCall0 (F__law_between 12) (fCons (fVar 2) (fCons (fVar 3) (fCons (fTup fNil) fNil)))) fNil)) (fCons (fCall0 F__law_tally (fCons (fVar 3) fNil)) fNil))))))) (fSeq (fSet 7 (eTup (eCons (liftP (fC (.str "sent"))) (eCons (liftP (fOp modI (fOp mulI (fVar 5) (fC (.int 1073741827))) (fC (.int 2305843009213693951)))) (eCons (eCB tupC (eCons (eLc (eRan ran1 (eCons (liftP (fC (.int 9))) eNil)) (gName 10) eYes (callX0 F__law_deed [.sl 1, .v] [1] (eCons (liftP (fVar 2)) eNil)) [10]) eNil)) (eCons (liftP (fC (.int 0))) eNil)))))) (fSeq (fSet 8 (liftP (fTup (fCons (fC (.str "sent")) (fCons (fC (.int 2305843009213693950)) (fCons (fOp repO (fTup (fCons (fTup (fCons (fC (.str "out")) (fCons (fTup (fCons (fC (.str "a")) fNil)) fNil))) fNil)) (fOp ixO (fLst (fCons (fC (.int 0)) (fCons (fC (.int 1)) (fCons (fC (.int 1000)) fNil)))) (fOp modI (fVar 5) (fC (.int 3))))) (fCons (fC (.int 1)) fNil))))))) (fSeq (fFor (eSeq (liftP (fLst (fCons (fVar 6) (fCons (fVar 7) (fCons (fVar 8) fNil)))))) (gName 9) (fIfS (liftP (fNot (fTest (fCall0 F__law_said (fCons (fVar 9) (fCons (fC (.bl true)) fNil)))))) (fRet (liftP (fC (.bl false)))) fNext) [9]) (fSeq (fFor (eRan ran1 (eCons (liftP (fC (.int 10))) eNil)) (gName 10) (fSeq (fSet 11 (callX0 F__law_bent [.v, .v] [] (eCons (liftP (fOp ixO (fLst (fCons (fVar 6) (fCons (fVar 7) fNil))) (fOp modI (fVar 10) (fC (.int 2))))) (eCons (eOp addO (callX0 F__law_next [.sl 1] [1] eNil) (liftP (fVar 10))) eNil)))) (fIfS (liftP (fOr (fNot (fTest (fCall0 F__law_said (fCons (fVar 11) (fCons (fC (.bl false)) fNil))))) (fNot (fTest (fCall0 F__law_said (fCons (fCall0 F__law_other_thing (fCons (fOp addO (fVar 5) (fVar 10)) fNil)) (fCons (fC (.bl false)) fNil))))))) (fRet (liftP (fC (.bl false)))) fNext)) [10, 11]) (fSeq (fSet 12 (liftP (fLst (fCons (fC (.str "sent")) (fCons (fC (.int 1)) (fCons (fLst (fCons (fTup (fCons (fC (.str "out")) (fCons (fTup (fCons (fC (.str "a")) fNil)) fNil))) fNil)) (fCons (fC (.int 1)) fNil))))))) (fRet (liftP (fAndV (fCall0 F__law_said (fCons (fVar 12) (fCons (fC (.bl false)) fNil))) (fOp eqD (fVar 12) (fLst (fCons (fC (.str "sent")) (fCons (fC (.int 1)) (fCons (fLst (fCons (fTup (fCons (fC (.str "out")) (fCons (fTup (fCons (fC (.str "a")) fNil)) fNil))) fNil)) (fCons (fC (.int 1)) fNil))))))))))))))))))
def F_law : FR := runF 13 [.own .p] .p r_law
end SH

/-! printed by fl.py: the derivations of k79 -/
namespace K79
open PySem PySem.Spec PyProof.Rows L2 FL SH
open LamX (TabB)
def top (i : Nat) : Stmt := PySem.Challenge.pw_snapshelf_k79_what_is_sent.main.body.getD i (.Pass ⟨0, 0, 0, 0⟩)
abbrev s_is_name : Stmt := top 4
abbrev N_is_name : List Str := ["one", "sign"]
theorem sc_is_name : FnScope N_is_name ["one"] (defScope s_is_name) := ⟨rfl, rfl, rfl, by decide +kernel, rfl, by decide +kernel, by decide +kernel⟩
abbrev s_is_path : Stmt := top 5
abbrev N_is_path : List Str := ["one", "name"]
theorem sc_is_path : FnScope N_is_path ["one"] (defScope s_is_path) := ⟨rfl, rfl, rfl, by decide +kernel, rfl, by decide +kernel, by decide +kernel⟩
abbrev s_is_number : Stmt := top 9
abbrev N_is_number : List Str := ["one"]
theorem sc_is_number : FnScope N_is_number ["one"] (defScope s_is_number) := ⟨rfl, rfl, rfl, by decide +kernel, rfl, by decide +kernel, by decide +kernel⟩
abbrev s_is_leaf : Stmt := top 10
abbrev N_is_leaf : List Str := ["one", "number"]
theorem sc_is_leaf : FnScope N_is_leaf ["one"] (defScope s_is_leaf) := ⟨rfl, rfl, rfl, by decide +kernel, rfl, by decide +kernel, by decide +kernel⟩
abbrev s_is_way : Stmt := top 13
abbrev N_is_way : List Str := ["one"]
theorem sc_is_way : FnScope N_is_way ["one"] (defScope s_is_way) := ⟨rfl, rfl, rfl, by decide +kernel, rfl, by decide +kernel, by decide +kernel⟩
abbrev s_is_count : Stmt := top 14
abbrev N_is_count : List Str := ["one"]
theorem sc_is_count : FnScope N_is_count ["one"] (defScope s_is_count) := ⟨rfl, rfl, rfl, by decide +kernel, rfl, by decide +kernel, by decide +kernel⟩
abbrev s_is_deed : Stmt := top 15
abbrev N_is_deed : List Str := ["one"]
theorem sc_is_deed : FnScope N_is_deed ["one"] (defScope s_is_deed) := ⟨rfl, rfl, rfl, by decide +kernel, rfl, by decide +kernel, by decide +kernel⟩
abbrev s_is_tally : Stmt := top 19
abbrev N_is_tally : List Str := ["one"]
theorem sc_is_tally : FnScope N_is_tally ["one"] (defScope s_is_tally) := ⟨rfl, rfl, rfl, by decide +kernel, rfl, by decide +kernel, by decide +kernel⟩
abbrev s_is_sent : Stmt := top 20
abbrev N_is_sent : List Str := ["one", "deed"]
theorem sc_is_sent : FnScope N_is_sent ["one"] (defScope s_is_sent) := ⟨rfl, rfl, rfl, by decide +kernel, rfl, by decide +kernel, by decide +kernel⟩
abbrev s__law_mixed : Stmt := top 22
abbrev N__law_mixed : List Str := ["_law_cell", "_law_k", "_law_number"]
theorem sc__law_mixed : FnScope N__law_mixed ["_law_cell", "_law_k"] (defScope s__law_mixed) := ⟨rfl, rfl, rfl, by decide +kernel, rfl, by decide +kernel, by decide +kernel⟩
abbrev s__law_draws : Stmt := top 23
abbrev N__law_draws : List Str := ["_law_script", "_law_drawn", "_law_k", "_law_cell", "_law_j"]
theorem sc__law_draws : FnScope N__law_draws ["_law_script"] (defScope s__law_draws) := ⟨rfl, rfl, rfl, by decide +kernel, rfl, by decide +kernel, by decide +kernel⟩
abbrev s__law_next : Stmt := top 24
abbrev N__law_next : List Str := ["_law_drawn"]
theorem sc__law_next : FnScope N__law_next ["_law_drawn"] (defScope s__law_next) := ⟨rfl, rfl, rfl, by decide +kernel, rfl, by decide +kernel, by decide +kernel⟩
abbrev s__law_name : Stmt := top 25
abbrev N__law_name : List Str := ["_law_number", "_law_menu"]
theorem sc__law_name : FnScope N__law_name ["_law_number"] (defScope s__law_name) := ⟨rfl, rfl, rfl, by decide +kernel, rfl, by decide +kernel, by decide +kernel⟩
abbrev s__law_path : Stmt := top 26
abbrev N__law_path : List Str := ["_law_drawn", "_law_number", "_law_many", "_law_k"]
theorem sc__law_path : FnScope N__law_path ["_law_drawn"] (defScope s__law_path) := ⟨rfl, rfl, rfl, by decide +kernel, rfl, by decide +kernel, by decide +kernel⟩
abbrev s__law_leaf : Stmt := top 27
abbrev N__law_leaf : List Str := ["_law_drawn", "_law_number", "_law_k"]
theorem sc__law_leaf : FnScope N__law_leaf ["_law_drawn"] (defScope s__law_leaf) := ⟨rfl, rfl, rfl, by decide +kernel, rfl, by decide +kernel, by decide +kernel⟩
abbrev s__law_code : Stmt := top 28
abbrev N__law_code : List Str := ["_law_name_here", "_law_number", "_law_sign"]
theorem sc__law_code : FnScope N__law_code ["_law_name_here"] (defScope s__law_code) := ⟨rfl, rfl, rfl, by decide +kernel, rfl, by decide +kernel, by decide +kernel⟩
abbrev s__law_within : Stmt := top 29
abbrev N__law_within : List Str := ["_law_model", "_law_path_here", "_law_names", "_law_one"]
theorem sc__law_within : FnScope N__law_within ["_law_model", "_law_path_here"] (defScope s__law_within) := ⟨rfl, rfl, rfl, by decide +kernel, rfl, by decide +kernel, by decide +kernel⟩
abbrev s__law_is_folder : Stmt := top 30
abbrev N__law_is_folder : List Str := ["_law_model", "_law_path_here"]
theorem sc__law_is_folder : FnScope N__law_is_folder ["_law_model", "_law_path_here"] (defScope s__law_is_folder) := ⟨rfl, rfl, rfl, by decide +kernel, rfl, by decide +kernel, by decide +kernel⟩
abbrev s__law_under : Stmt := top 31
abbrev N__law_under : List Str := ["_law_model", "_law_path_here", "_law_one"]
theorem sc__law_under : FnScope N__law_under ["_law_model", "_law_path_here"] (defScope s__law_under) := ⟨rfl, rfl, rfl, by decide +kernel, rfl, by decide +kernel, by decide +kernel⟩
abbrev s__law_twin : Stmt := top 33
abbrev N__law_twin : List Str := ["_law_model", "_law_another", "_law_path_here"]
theorem sc__law_twin : FnScope N__law_twin ["_law_model"] (defScope s__law_twin) := ⟨rfl, rfl, rfl, by decide +kernel, rfl, by decide +kernel, by decide +kernel⟩
abbrev s__law_moved : Stmt := top 34
abbrev N__law_moved : List Str := ["_law_model", "_law_deed_here", "_law_path_here", "_law_other", "_law_many", "_law_old", "_law_held", "_law_one"]
theorem sc__law_moved : FnScope N__law_moved ["_law_model", "_law_deed_here"] (defScope s__law_moved) := ⟨rfl, rfl, rfl, by decide +kernel, rfl, by decide +kernel, by decide +kernel⟩
abbrev s__law_do : Stmt := top 35
abbrev N__law_do : List Str := ["_law_model", "_law_deed_here", "_law_path_here", "_law_one", "_law_old"]
theorem sc__law_do : FnScope N__law_do ["_law_model", "_law_deed_here"] (defScope s__law_do) := ⟨rfl, rfl, rfl, by decide +kernel, rfl, by decide +kernel, by decide +kernel⟩
abbrev s__law_old_path : Stmt := top 36
abbrev N__law_old_path : List Str := ["_law_drawn", "_law_model", "_law_old", "_law_number"]
theorem sc__law_old_path : FnScope N__law_old_path ["_law_drawn", "_law_model"] (defScope s__law_old_path) := ⟨rfl, rfl, rfl, by decide +kernel, rfl, by decide +kernel, by decide +kernel⟩
abbrev s__law_new_path : Stmt := top 37
abbrev N__law_new_path : List Str := ["_law_drawn", "_law_model", "_law_old", "_law_number", "_law_one"]
theorem sc__law_new_path : FnScope N__law_new_path ["_law_drawn", "_law_model"] (defScope s__law_new_path) := ⟨rfl, rfl, rfl, by decide +kernel, rfl, by decide +kernel, by decide +kernel⟩
abbrev s__law_deed : Stmt := top 38
abbrev N__law_deed : List Str := ["_law_drawn", "_law_model", "_law_number", "_law_kinds", "_law_kind", "_law_leaves", "_law_path_here", "_law_files", "_law_many", "_law_at", "_law_one"]
theorem sc__law_deed : FnScope N__law_deed ["_law_drawn", "_law_model"] (defScope s__law_deed) := ⟨rfl, rfl, rfl, by decide +kernel, rfl, by decide +kernel, by decide +kernel⟩
abbrev s__law_room : Stmt := top 39
abbrev N__law_room : List Str := ["_law_model", "_law_total", "_law_path_here"]
theorem sc__law_room : FnScope N__law_room ["_law_model"] (defScope s__law_room) := ⟨rfl, rfl, rfl, by decide +kernel, rfl, by decide +kernel, by decide +kernel⟩
abbrev s__law_further : Stmt := top 40
abbrev N__law_further : List Str := ["_law_drawn", "_law_model", "_law_most", "_law_top", "_law_deeds", "_law_k", "_law_deed_here"]
theorem sc__law_further : FnScope N__law_further ["_law_drawn", "_law_model", "_law_most", "_law_top"] (defScope s__law_further) := ⟨rfl, rfl, rfl, by decide +kernel, rfl, by decide +kernel, by decide +kernel⟩
abbrev s__law_two : Stmt := top 41
abbrev N__law_two : List Str := ["_law_drawn", "_law_most", "_law_first", "_law_number", "_law_second", "_law_deeds"]
theorem sc__law_two : FnScope N__law_two ["_law_drawn", "_law_most"] (defScope s__law_two) := ⟨rfl, rfl, rfl, by decide +kernel, rfl, by decide +kernel, by decide +kernel⟩
abbrev s__law_all_made : Stmt := top 42
abbrev N__law_all_made : List Str := ["_law_model", "_law_path_here", "_law_deeds", "_law_name_here", "_law_at", "_law_leaf_here"]
theorem sc__law_all_made : FnScope N__law_all_made ["_law_model", "_law_path_here"] (defScope s__law_all_made) := ⟨rfl, rfl, rfl, by decide +kernel, rfl, by decide +kernel, by decide +kernel⟩
abbrev s__law_on_leaves : Stmt := top 43
abbrev N__law_on_leaves : List Str := ["_law_old", "_law_new", "_law_path_here", "_law_deeds", "_law_at"]
theorem sc__law_on_leaves : FnScope N__law_on_leaves ["_law_old", "_law_new", "_law_path_here"] (defScope s__law_on_leaves) := ⟨rfl, rfl, rfl, by decide +kernel, rfl, by decide +kernel, by decide +kernel⟩
abbrev s__law_like : Stmt := top 44
abbrev N__law_like : List Str := ["_law_first", "_law_second", "_law_path_here"]
theorem sc__law_like : FnScope N__law_like ["_law_first", "_law_second", "_law_path_here"] (defScope s__law_like) := ⟨rfl, rfl, rfl, by decide +kernel, rfl, by decide +kernel, by decide +kernel⟩
abbrev s__law_between : Stmt := top 45
abbrev N__law_between : List Str := ["_law_first", "_law_second", "_law_path_here", "_law_deeds", "_law_name_here", "_law_one"]
theorem sc__law_between : FnScope N__law_between ["_law_first", "_law_second", "_law_path_here"] (defScope s__law_between) := ⟨rfl, rfl, rfl, by decide +kernel, rfl, by decide +kernel, by decide +kernel⟩
abbrev s__law_lines : Stmt := top 46
abbrev N__law_lines : List Str := ["_law_model", "_law_path_here", "_law_text", "_law_name_here", "_law_one", "_law_words", "_law_leaf_here", "_law_number"]
theorem sc__law_lines : FnScope N__law_lines ["_law_model", "_law_path_here"] (defScope s__law_lines) := ⟨rfl, rfl, rfl, by decide +kernel, rfl, by decide +kernel, by decide +kernel⟩
abbrev s__law_tally : Stmt := top 47
abbrev N__law_tally : List Str := ["_law_model", "_law_tally_here", "_law_sign"]
theorem sc__law_tally : FnScope N__law_tally ["_law_model"] (defScope s__law_tally) := ⟨rfl, rfl, rfl, by decide +kernel, rfl, by decide +kernel, by decide +kernel⟩
abbrev s__law_no_deed : Stmt := top 48
abbrev N__law_no_deed : List Str := ["_law_number", "_law_menu"]
theorem sc__law_no_deed : FnScope N__law_no_deed ["_law_number"] (defScope s__law_no_deed) := ⟨rfl, rfl, rfl, by decide +kernel, rfl, by decide +kernel, by decide +kernel⟩
abbrev s__law_other_thing : Stmt := top 49
abbrev N__law_other_thing : List Str := ["_law_number", "_law_menu"]
theorem sc__law_other_thing : FnScope N__law_other_thing ["_law_number"] (defScope s__law_other_thing) := ⟨rfl, rfl, rfl, by decide +kernel, rfl, by decide +kernel, by decide +kernel⟩
abbrev s__law_bent : Stmt := top 50
abbrev N__law_bent : List Str := ["_law_sent", "_law_number", "_law_word", "_law_one", "_law_deeds", "_law_other", "_law_tallies", "_law_wrong", "_law_kind", "_law_at"]
theorem sc__law_bent : FnScope N__law_bent ["_law_sent", "_law_number"] (defScope s__law_bent) := ⟨rfl, rfl, rfl, by decide +kernel, rfl, by decide +kernel, by decide +kernel⟩
abbrev s__law_said : Stmt := top 51
abbrev N__law_said : List Str := ["_law_one", "_law_due", "_law_told"]
theorem sc__law_said : FnScope N__law_said ["_law_one", "_law_due"] (defScope s__law_said) := ⟨rfl, rfl, rfl, by decide +kernel, rfl, by decide +kernel, by decide +kernel⟩
abbrev s_law : Stmt := top 52
abbrev N_law : List Str := ["_law_script", "_law_drawn", "_law_first", "_law_second", "_law_deeds", "_law_number", "_law_sent", "_law_any_one", "_law_many", "_law_one", "_law_k", "_law_bent_here", "_law_handed"]
theorem sc_law : FnScope N_law ["_law_script"] (defScope s_law) := ⟨rfl, rfl, rfl, by decide +kernel, rfl, by decide +kernel, by decide +kernel⟩
variable [TabT]
structure Top (w : World) (K : PySem.W.Frag) (mg : Str → Option Value) (base : Heap) : Type where
  n_abs : mg "abs" = none
  n_all : mg "all" = none
  n_bool : mg "bool" = none
  n_enumerate : mg "enumerate" = none
  n_int : mg "int" = none
  n_isinstance : mg "isinstance" = none
  n_len : mg "len" = none
  n_list : mg "list" = none
  n_max : mg "max" = none
  n_min : mg "min" = none
  n_ord : mg "ord" = none
  n_range : mg "range" = none
  n_sorted : mg "sorted" = none
  n_str : mg "str" = none
  n_sum : mg "sum" = none
  n_tuple : mg "tuple" = none
  t_LETTERS : Tok
  g_LETTERS : mg "LETTERS" = some (.str "abcdefghijklmnopqrstuvwxyz" t_LETTERS)
  t_MOST_DEEDS : Tok
  g_MOST_DEEDS : mg "MOST_DEEDS" = some (.int 1000 t_MOST_DEEDS)
  t_MOST_LEAVES : Tok
  g_MOST_LEAVES : mg "MOST_LEAVES" = some (.int 64 t_MOST_LEAVES)
  t_MOST_NAMES : Tok
  g_MOST_NAMES : mg "MOST_NAMES" = some (.int 6 t_MOST_NAMES)
  t_MOST_NUMBERS : Tok
  g_MOST_NUMBERS : mg "MOST_NUMBERS" = some (.int 8 t_MOST_NUMBERS)
  t_MOST_SIGNS : Tok
  g_MOST_SIGNS : mg "MOST_SIGNS" = some (.int 8 t_MOST_SIGNS)
  p_SIZES : Addr
  g_SIZES : mg "SIZES" = some (.ref p_SIZES)
  k_SIZES : KTab K w p_SIZES kt_SIZES
  t_TALLIES : Tok
  g_TALLIES : mg "TALLIES" = some (.int 2305843009213693951 t_TALLIES)
  a_is_name : Addr
  d_is_name : FuncData
  F_is_name : L2.Fun K "is_name" "is_name" s_is_name a_is_name d_is_name
  m_is_name : mg "is_name" = some (.ref a_is_name)
  b_is_name : Binds K d_is_name ["one"] []
  a_is_path : Addr
  d_is_path : FuncData
  F_is_path : L2.Fun K "is_path" "is_path" s_is_path a_is_path d_is_path
  m_is_path : mg "is_path" = some (.ref a_is_path)
  b_is_path : Binds K d_is_path ["one"] []
  a_is_number : Addr
  d_is_number : FuncData
  F_is_number : L2.Fun K "is_number" "is_number" s_is_number a_is_number d_is_number
  m_is_number : mg "is_number" = some (.ref a_is_number)
  b_is_number : Binds K d_is_number ["one"] []
  a_is_leaf : Addr
  d_is_leaf : FuncData
  F_is_leaf : L2.Fun K "is_leaf" "is_leaf" s_is_leaf a_is_leaf d_is_leaf
  m_is_leaf : mg "is_leaf" = some (.ref a_is_leaf)
  b_is_leaf : Binds K d_is_leaf ["one"] []
  a_is_way : Addr
  d_is_way : FuncData
  F_is_way : L2.Fun K "is_way" "is_way" s_is_way a_is_way d_is_way
  m_is_way : mg "is_way" = some (.ref a_is_way)
  b_is_way : Binds K d_is_way ["one"] []
  a_is_count : Addr
  d_is_count : FuncData
  F_is_count : L2.Fun K "is_count" "is_count" s_is_count a_is_count d_is_count
  m_is_count : mg "is_count" = some (.ref a_is_count)
  b_is_count : Binds K d_is_count ["one"] []
  a_is_deed : Addr
  d_is_deed : FuncData
  F_is_deed : L2.Fun K "is_deed" "is_deed" s_is_deed a_is_deed d_is_deed
  m_is_deed : mg "is_deed" = some (.ref a_is_deed)
  b_is_deed : Binds K d_is_deed ["one"] []
  a_is_tally : Addr
  d_is_tally : FuncData
  F_is_tally : L2.Fun K "is_tally" "is_tally" s_is_tally a_is_tally d_is_tally
  m_is_tally : mg "is_tally" = some (.ref a_is_tally)
  b_is_tally : Binds K d_is_tally ["one"] []
  a_is_sent : Addr
  d_is_sent : FuncData
  F_is_sent : L2.Fun K "is_sent" "is_sent" s_is_sent a_is_sent d_is_sent
  m_is_sent : mg "is_sent" = some (.ref a_is_sent)
  b_is_sent : Binds K d_is_sent ["one"] []
  a__law_mixed : Addr
  d__law_mixed : FuncData
  F__law_mixed : L2.Fun K "_law_mixed" "_law_mixed" s__law_mixed a__law_mixed d__law_mixed
  m__law_mixed : mg "_law_mixed" = some (.ref a__law_mixed)
  b__law_mixed : Binds K d__law_mixed ["_law_cell", "_law_k"] []
  a__law_draws : Addr
  d__law_draws : FuncData
  F__law_draws : L2.Fun K "_law_draws" "_law_draws" s__law_draws a__law_draws d__law_draws
  m__law_draws : mg "_law_draws" = some (.ref a__law_draws)
  b__law_draws : Binds K d__law_draws ["_law_script"] []
  a__law_next : Addr
  d__law_next : FuncData
  F__law_next : L2.Fun K "_law_next" "_law_next" s__law_next a__law_next d__law_next
  m__law_next : mg "_law_next" = some (.ref a__law_next)
  b__law_next : Binds K d__law_next ["_law_drawn"] []
  a__law_name : Addr
  d__law_name : FuncData
  F__law_name : L2.Fun K "_law_name" "_law_name" s__law_name a__law_name d__law_name
  m__law_name : mg "_law_name" = some (.ref a__law_name)
  b__law_name : Binds K d__law_name ["_law_number"] []
  a__law_path : Addr
  d__law_path : FuncData
  F__law_path : L2.Fun K "_law_path" "_law_path" s__law_path a__law_path d__law_path
  m__law_path : mg "_law_path" = some (.ref a__law_path)
  b__law_path : Binds K d__law_path ["_law_drawn"] []
  a__law_leaf : Addr
  d__law_leaf : FuncData
  F__law_leaf : L2.Fun K "_law_leaf" "_law_leaf" s__law_leaf a__law_leaf d__law_leaf
  m__law_leaf : mg "_law_leaf" = some (.ref a__law_leaf)
  b__law_leaf : Binds K d__law_leaf ["_law_drawn"] []
  a__law_code : Addr
  d__law_code : FuncData
  F__law_code : L2.Fun K "_law_code" "_law_code" s__law_code a__law_code d__law_code
  m__law_code : mg "_law_code" = some (.ref a__law_code)
  b__law_code : Binds K d__law_code ["_law_name_here"] []
  c__law_within : Addr
  P__law_within : Addr
  TB__law_within : TabB base mg c__law_within P__law_within
  tt__law_within : TabT.T = [(P__law_within, ("_law_within.<locals>.<lambda>" : Str))]
  a__law_within : Addr
  d__law_within : FuncData
  F__law_within : FunT K "_law_within" "_law_within" s__law_within a__law_within d__law_within c__law_within
  m__law_within : mg "_law_within" = some (.ref a__law_within)
  b__law_within : Binds K d__law_within ["_law_model", "_law_path_here"] []
  a__law_is_folder : Addr
  d__law_is_folder : FuncData
  F__law_is_folder : L2.Fun K "_law_is_folder" "_law_is_folder" s__law_is_folder a__law_is_folder d__law_is_folder
  m__law_is_folder : mg "_law_is_folder" = some (.ref a__law_is_folder)
  b__law_is_folder : Binds K d__law_is_folder ["_law_model", "_law_path_here"] []
  a__law_under : Addr
  d__law_under : FuncData
  F__law_under : L2.Fun K "_law_under" "_law_under" s__law_under a__law_under d__law_under
  m__law_under : mg "_law_under" = some (.ref a__law_under)
  b__law_under : Binds K d__law_under ["_law_model", "_law_path_here"] []
  a__law_twin : Addr
  d__law_twin : FuncData
  F__law_twin : L2.Fun K "_law_twin" "_law_twin" s__law_twin a__law_twin d__law_twin
  m__law_twin : mg "_law_twin" = some (.ref a__law_twin)
  b__law_twin : Binds K d__law_twin ["_law_model"] []
  a__law_moved : Addr
  d__law_moved : FuncData
  F__law_moved : L2.Fun K "_law_moved" "_law_moved" s__law_moved a__law_moved d__law_moved
  m__law_moved : mg "_law_moved" = some (.ref a__law_moved)
  b__law_moved : Binds K d__law_moved ["_law_model", "_law_deed_here"] []
  a__law_do : Addr
  d__law_do : FuncData
  F__law_do : L2.Fun K "_law_do" "_law_do" s__law_do a__law_do d__law_do
  m__law_do : mg "_law_do" = some (.ref a__law_do)
  b__law_do : Binds K d__law_do ["_law_model", "_law_deed_here"] []
  a__law_old_path : Addr
  d__law_old_path : FuncData
  F__law_old_path : L2.Fun K "_law_old_path" "_law_old_path" s__law_old_path a__law_old_path d__law_old_path
  m__law_old_path : mg "_law_old_path" = some (.ref a__law_old_path)
  b__law_old_path : Binds K d__law_old_path ["_law_drawn", "_law_model"] []
  a__law_new_path : Addr
  d__law_new_path : FuncData
  F__law_new_path : L2.Fun K "_law_new_path" "_law_new_path" s__law_new_path a__law_new_path d__law_new_path
  m__law_new_path : mg "_law_new_path" = some (.ref a__law_new_path)
  b__law_new_path : Binds K d__law_new_path ["_law_drawn", "_law_model"] []
  a__law_deed : Addr
  d__law_deed : FuncData
  F__law_deed : L2.Fun K "_law_deed" "_law_deed" s__law_deed a__law_deed d__law_deed
  m__law_deed : mg "_law_deed" = some (.ref a__law_deed)
  b__law_deed : Binds K d__law_deed ["_law_drawn", "_law_model"] []
  a__law_room : Addr
  d__law_room : FuncData
  F__law_room : L2.Fun K "_law_room" "_law_room" s__law_room a__law_room d__law_room
  m__law_room : mg "_law_room" = some (.ref a__law_room)
  b__law_room : Binds K d__law_room ["_law_model"] []
  a__law_further : Addr
  d__law_further : FuncData
  F__law_further : L2.Fun K "_law_further" "_law_further" s__law_further a__law_further d__law_further
  m__law_further : mg "_law_further" = some (.ref a__law_further)
  b__law_further : Binds K d__law_further ["_law_drawn", "_law_model", "_law_most", "_law_top"] []
  a__law_two : Addr
  d__law_two : FuncData
  F__law_two : L2.Fun K "_law_two" "_law_two" s__law_two a__law_two d__law_two
  m__law_two : mg "_law_two" = some (.ref a__law_two)
  b__law_two : Binds K d__law_two ["_law_drawn", "_law_most"] []
  a__law_all_made : Addr
  d__law_all_made : FuncData
  F__law_all_made : L2.Fun K "_law_all_made" "_law_all_made" s__law_all_made a__law_all_made d__law_all_made
  m__law_all_made : mg "_law_all_made" = some (.ref a__law_all_made)
  b__law_all_made : Binds K d__law_all_made ["_law_model", "_law_path_here"] []
  a__law_on_leaves : Addr
  d__law_on_leaves : FuncData
  F__law_on_leaves : L2.Fun K "_law_on_leaves" "_law_on_leaves" s__law_on_leaves a__law_on_leaves d__law_on_leaves
  m__law_on_leaves : mg "_law_on_leaves" = some (.ref a__law_on_leaves)
  b__law_on_leaves : Binds K d__law_on_leaves ["_law_old", "_law_new", "_law_path_here"] []
  a__law_like : Addr
  d__law_like : FuncData
  F__law_like : L2.Fun K "_law_like" "_law_like" s__law_like a__law_like d__law_like
  m__law_like : mg "_law_like" = some (.ref a__law_like)
  b__law_like : Binds K d__law_like ["_law_first", "_law_second", "_law_path_here"] []
  a__law_between : Addr
  d__law_between : FuncData
  F__law_between : L2.Fun K "_law_between" "_law_between" s__law_between a__law_between d__law_between
  m__law_between : mg "_law_between" = some (.ref a__law_between)
  b__law_between : Binds K d__law_between ["_law_first", "_law_second", "_law_path_here"] []
  a__law_lines : Addr
  d__law_lines : FuncData
  F__law_lines : L2.Fun K "_law_lines" "_law_lines" s__law_lines a__law_lines d__law_lines
  m__law_lines : mg "_law_lines" = some (.ref a__law_lines)
  b__law_lines : Binds K d__law_lines ["_law_model", "_law_path_here"] []
  a__law_tally : Addr
  d__law_tally : FuncData
  F__law_tally : L2.Fun K "_law_tally" "_law_tally" s__law_tally a__law_tally d__law_tally
  m__law_tally : mg "_law_tally" = some (.ref a__law_tally)
  b__law_tally : Binds K d__law_tally ["_law_model"] []
  a__law_no_deed : Addr
  d__law_no_deed : FuncData
  F__law_no_deed : L2.Fun K "_law_no_deed" "_law_no_deed" s__law_no_deed a__law_no_deed d__law_no_deed
  m__law_no_deed : mg "_law_no_deed" = some (.ref a__law_no_deed)
  b__law_no_deed : Binds K d__law_no_deed ["_law_number"] []
  a__law_other_thing : Addr
  d__law_other_thing : FuncData
  F__law_other_thing : L2.Fun K "_law_other_thing" "_law_other_thing" s__law_other_thing a__law_other_thing d__law_other_thing
  m__law_other_thing : mg "_law_other_thing" = some (.ref a__law_other_thing)
  b__law_other_thing : Binds K d__law_other_thing ["_law_number"] []
  a__law_bent : Addr
  d__law_bent : FuncData
  F__law_bent : L2.Fun K "_law_bent" "_law_bent" s__law_bent a__law_bent d__law_bent
  m__law_bent : mg "_law_bent" = some (.ref a__law_bent)
  b__law_bent : Binds K d__law_bent ["_law_sent", "_law_number"] []
  a__law_said : Addr
  d__law_said : FuncData
  F__law_said : L2.Fun K "_law_said" "_law_said" s__law_said a__law_said d__law_said
  m__law_said : mg "_law_said" = some (.ref a__law_said)
  b__law_said : Binds K d__law_said ["_law_one", "_law_due"] []
  a_law : Addr
  d_law : FuncData
  F_law : L2.Fun K "law" "law" s_law a_law d_law
  m_law : mg "law" = some (.ref a_law)
  b_law : Binds K d_law ["_law_script"] []
section
variable {P : Program} {w : World} {K : PySem.W.Frag} {mg : Str → Option Value} {base : Heap}
/-! ### is_name -/
theorem q_is_name (T : Top w K mg base) {f : Fm} {cdv : Value} {A : Around} {outer : List Env} {s : Shared} {H : Hp} {E : XK} (hr : Room 0 (A.deeper (envOfC "is_name" (defScope s_is_name) s.heap.objs.size T.a_is_name cdv))) :
    QSs (cxOf CX0 P w K mg base N_is_name "is_name" (defScope s_is_name) T.a_is_name cdv A outer s H E).nox f (fun _ _ _ _ => False) (scOf 2 [.own .p] .p) (startT 2 [.own .p]) (defBody s_is_name) r_is_name (outT 2 [.own .p]) :=
  (qss_cons (qs_if (qt_b (QW.t (qw_or (qb_not (qb_val (qp_callB call_isi l_isiO rfl T.n_isinstance (by decide +kernel) (qps_cons (qp_vp 0) (qps_cons (qp_ty (n := "str") rfl T.n_str (by decide +kernel)) qps_nil))))) (qw_or (qb_cmp (op_eqA hr.units) l_eqD (qp_vp 0) qp_str (nomark _)) (qw_or1 (qb_cmp op_gt l_gtI (qp_callB call_lenA l_lenO rfl T.n_len (by decide +kernel) (qps_cons (qp_vp 0) qps_nil)) (qp_globI rfl T.g_MOST_SIGNS) (nomark _))))))) (qss_one (qs_ret (qe_p qp_bl))) qss_nil) (qss_one (qs_ret (qe_callB (cr_all rfl) l_allO rfl T.n_all (by decide +kernel) (qas_cons (qe_fz (qe_lc (own := [("sign", 1)]) rfl sc_is_name.nd (qi_seq (qe_p (qp_vp 0))) (blkOk_by (N := N_is_name) (sc := defScope s_is_name) (by decide +kernel)) (fun _ _ _ _ _ _ => (qc_name (i := 1) (by decide) sc_is_name.nd)) (fun _ _ _ _ _ _ => qts_nil) (fun _ _ _ _ _ _ => (qe_p (qp_cmp (op_inA (hu_of hr)) l_inO (qp_vp 1) (qp_globS rfl T.g_LETTERS) rfl))))) qas_nil)))))
theorem ok_is_name (T : Top w K mg base) : FnOk P w K mg base CX0 1 T.a_is_name T.d_is_name ["one"] (CF K mg false [.own .p] .p F_is_name) := okF T.F_is_name sc_is_name rfl (by decide) rfl fun f cdv A outer s H E hr => q_is_name T hr
/-! ### is_number -/
theorem q_is_number (T : Top w K mg base) {f : Fm} {cdv : Value} {A : Around} {outer : List Env} {s : Shared} {H : Hp} {E : XK} (hr : Room 0 (A.deeper (envOfC "is_number" (defScope s_is_number) s.heap.objs.size T.a_is_number cdv))) :
    QSs (cxOf CX0 P w K mg base N_is_number "is_number" (defScope s_is_number) T.a_is_number cdv A outer s H E).nox f (fun _ _ _ _ => False) (scOf 1 [.own .p] .p) (startT 1 [.own .p]) (defBody s_is_number) r_is_number (outT 1 [.own .p]) :=
  (qss_one (qs_ret (qe_p (qp_and (qp_callB call_isi l_isiO rfl T.n_isinstance (by decide +kernel) (qps_cons (qp_vp 0) (qps_cons (qp_ty (n := "int") rfl T.n_int (by decide +kernel)) qps_nil))) (qp_one (qp_not (qp_callB call_isi l_isiO rfl T.n_isinstance (by decide +kernel) (qps_cons (qp_vp 0) (qps_cons (qp_ty (n := "bool") rfl T.n_bool (by decide +kernel)) qps_nil)))))))))
theorem ok_is_number (T : Top w K mg base) : FnOk P w K mg base CX0 1 T.a_is_number T.d_is_number ["one"] (CF K mg false [.own .p] .p F_is_number) := okF T.F_is_number sc_is_number rfl (by decide) rfl fun f cdv A outer s H E hr => q_is_number T hr
/-! ### _law_mixed -/
theorem q__law_mixed (T : Top w K mg base) {f : Fm} {cdv : Value} {A : Around} {outer : List Env} {s : Shared} {H : Hp} {E : XK} (hr : Room 0 (A.deeper (envOfC "_law_mixed" (defScope s__law_mixed) s.heap.objs.size T.a__law_mixed cdv))) :
    QSs (cxOf CX0 P w K mg base N__law_mixed "_law_mixed" (defScope s__law_mixed) T.a__law_mixed cdv A outer s H E).nox f (fun _ _ _ _ => False) (scOf 3 [.own .p, .own .p] .p) (startT 3 [.own .p, .own .p]) (defBody s__law_mixed) r__law_mixed (outT 3 [.own .p, .own .p]) :=
  (qss_cons (qs_set (i := 2) (τ := .p) sc__law_mixed.nd (qe_p (qp_op op_mod l_modI (qp_opz op_addA l_addO (qp_opz op_addA l_addO (qp_op op_mulW l_mulI (qp_op op_mod l_modI (qp_vp 0) qp_int) qp_int) (qp_op op_mulW l_mulI (qp_op op_mulW l_mulI qp_int (qp_vp 1)) (qp_vp 1))) qp_int) qp_int))) (qss_one (qs_ret (qe_p (qp_op op_mod l_modI (qp_op op_mulW l_mulI (qp_vp 2) (qp_vp 2)) qp_int)))))
theorem ok__law_mixed (T : Top w K mg base) : FnOk P w K mg base CX0 1 T.a__law_mixed T.d__law_mixed ["_law_cell", "_law_k"] (CF K mg false [.own .p, .own .p] .p F__law_mixed) := okF T.F__law_mixed sc__law_mixed rfl (by decide) rfl fun f cdv A outer s H E hr => q__law_mixed T hr
/-! ### _law_next -/
theorem q__law_next (T : Top w K mg base) {f : Fm} {cdv : Value} {A : Around} {outer : List Env} {s : Shared} {H : Hp} {E : XK} (hr : Room 0 (A.deeper (envOfC "_law_next" (defScope s__law_next) s.heap.objs.size T.a__law_next cdv))) :
    QSs (cxOf CX0 P w K mg base N__law_next "_law_next" (defScope s__law_next) T.a__law_next cdv A outer s H E).nox f (fun _ _ _ _ => False) (scOf 1 [.io (.l .p)] .p) (startT 1 [.io (.l .p)]) (defBody s__law_next) r__law_next (outT 1 [.io (.l .p)]) :=
  (qss_cons (qs_if (qt_b (qb_cmp (op_eqA hr.units) l_eqD (qp_v 0) (qp_fz (qp_lst qps_nil)) (nomark _))) (qss_one (qs_ret (qe_p qp_int))) qss_nil) (qss_one (qs_ret (qe_mut PySem.F.plainAttrs_list PySem.F.slot_list_pop PySem.F.type_list_pop mt_popAt l_popAtM 0 rfl rfl rfl (qas_cons (qe_p qp_int) qas_nil)))))
theorem ok__law_next (T : Top w K mg base) : FnOk P w K mg base CX0 1 T.a__law_next T.d__law_next ["_law_drawn"] (CF K mg false [.io (.l .p)] .p F__law_next) := okF T.F__law_next sc__law_next rfl (by decide) rfl fun f cdv A outer s H E hr => q__law_next T hr
/-! ### _law_name -/
theorem q__law_name (T : Top w K mg base) {f : Fm} {cdv : Value} {A : Around} {outer : List Env} {s : Shared} {H : Hp} {E : XK} (hr : Room 0 (A.deeper (envOfC "_law_name" (defScope s__law_name) s.heap.objs.size T.a__law_name cdv))) :
    QSs (cxOf CX0 P w K mg base N__law_name "_law_name" (defScope s__law_name) T.a__law_name cdv A outer s H E).nox f (fun _ _ _ _ => False) (scOf 2 [.own .p] .p) (startT 2 [.own .p]) (defBody s__law_name) r__law_name (outT 2 [.own .p]) :=
  (qss_cons (qs_set (i := 1) (τ := .p) sc__law_name.nd (qe_p (qp_fz (qp_lst (qps_cons qp_str (qps_cons qp_str (qps_cons qp_str (qps_cons qp_str (qps_cons qp_str (qps_cons qp_str (qps_cons qp_str (qps_cons qp_str (qps_cons qp_str (qps_cons qp_str qps_nil)))))))))))))) (qss_one (qs_ret (qe_p (qp_ix (hu_of hr) (qp_vp 1) (qp_op op_mod l_modI (qp_vp 0) qp_int))))))
theorem ok__law_name (T : Top w K mg base) : FnOk P w K mg base CX0 1 T.a__law_name T.d__law_name ["_law_number"] (CF K mg false [.own .p] .p F__law_name) := okF T.F__law_name sc__law_name rfl (by decide) rfl fun f cdv A outer s H E hr => q__law_name T hr
/-! ### _law_code -/
theorem q__law_code (T : Top w K mg base) {f : Fm} {cdv : Value} {A : Around} {outer : List Env} {s : Shared} {H : Hp} {E : XK} (hr : Room 0 (A.deeper (envOfC "_law_code" (defScope s__law_code) s.heap.objs.size T.a__law_code cdv))) :
    QSs (cxOf CX0 P w K mg base N__law_code "_law_code" (defScope s__law_code) T.a__law_code cdv A outer s H E).nox f (fun _ _ _ _ => False) (scOf 3 [.own .p] .p) (startT 3 [.own .p]) (defBody s__law_code) r__law_code (outT 3 [.own .p]) :=
  (qss_cons (qs_set (i := 1) (τ := .p) sc__law_code.nd (qe_p qp_int)) (qss_cons (qs_for (ws := [2]) PassesOwn.never rfl (qi_seq (qe_p (qp_vp 0))) (qg_name (i := 2) sc__law_code.nd) (qss_one (qs_set (i := 1) (τ := .p) sc__law_code.nd (qe_p (qp_op op_sub l_subI (qp_opz op_addA l_addO (qp_op op_mulW l_mulI (qp_vp 1) qp_int) (qp_callB call_ord l_ordO rfl T.n_ord (by decide +kernel) (qps_cons (qp_vp 2) qps_nil))) qp_int))))) (qss_one (qs_ret (qe_p (qp_vp 1))))))
theorem ok__law_code (T : Top w K mg base) : FnOk P w K mg base CX0 1 T.a__law_code T.d__law_code ["_law_name_here"] (CF K mg false [.own .p] .p F__law_code) := okF T.F__law_code sc__law_code rfl (by decide) rfl fun f cdv A outer s H E hr => q__law_code T hr
/-! ### _law_is_folder -/
theorem q__law_is_folder (T : Top w K mg base) {f : Fm} {cdv : Value} {A : Around} {outer : List Env} {s : Shared} {H : Hp} {E : XK} (hr : Room 0 (A.deeper (envOfC "_law_is_folder" (defScope s__law_is_folder) s.heap.objs.size T.a__law_is_folder cdv))) :
    QSs (cxOf CX0 P w K mg base N__law_is_folder "_law_is_folder" (defScope s__law_is_folder) T.a__law_is_folder cdv A outer s H E).nox f (fun _ _ _ _ => False) (scOf 2 [.bor (.mT .p), .own .p] .p) (startT 2 [.bor (.mT .p), .own .p]) (defBody s__law_is_folder) r__law_is_folder (outT 2 [.bor (.mT .p), .own .p]) :=
  (qss_one (qs_ret (qe_p (qp_or (qp_cmp (op_eqA hr.units) l_eqD (qp_vp 1) (qp_tup qps_nil) (nomark _)) (qp_one (qp_and (qp_cmp (op_inA (hu_of hr)) l_inO (qp_vp 1) (qp_v 0) rfl) (qp_one (qp_cmp op_isN l_isNO (qp_ix (hu_of hr) (qp_v 0) (qp_vp 1)) qp_non (nomark _)))))))))
theorem ok__law_is_folder (T : Top w K mg base) : FnOk P w K mg base CX0 1 T.a__law_is_folder T.d__law_is_folder ["_law_model", "_law_path_here"] (CF K mg false [.bor (.mT .p), .own .p] .p F__law_is_folder) := okF T.F__law_is_folder sc__law_is_folder rfl (by decide) rfl fun f cdv A outer s H E hr => q__law_is_folder T hr
/-! ### _law_under -/
theorem q__law_under (T : Top w K mg base) {f : Fm} {cdv : Value} {A : Around} {outer : List Env} {s : Shared} {H : Hp} {E : XK} (hr : Room 0 (A.deeper (envOfC "_law_under" (defScope s__law_under) s.heap.objs.size T.a__law_under cdv))) :
    QSs (cxOf CX0 P w K mg base N__law_under "_law_under" (defScope s__law_under) T.a__law_under cdv A outer s H E).nox f (fun _ _ _ _ => False) (scOf 3 [.bor (.mT .p), .own .p] .p) (startT 3 [.bor (.mT .p), .own .p]) (defBody s__law_under) r__law_under (outT 3 [.bor (.mT .p), .own .p]) :=
  (qss_one (qs_ret (qe_fz (qe_lock 0 (fun _ _ => (qe_lc (own := [("_law_one", 2)]) rfl sc__law_under.nd (qi_keysL 0) (blkOk_by (N := N__law_under) (sc := defScope s__law_under) (by decide +kernel)) (fun _ _ _ _ _ _ => (qc_name (i := 2) (by decide) sc__law_under.nd)) (fun _ _ _ _ _ _ => (qts_one (qt_b (qb_cmp (op_eqA hr.units) l_eqD (qp_slice (qp_vp 2) qo_none (qo_some (qp_callB call_lenA l_lenO rfl T.n_len (by decide +kernel) (qps_cons (qp_vp 1) qps_nil)))) (qp_vp 1) (nomark _))))) (fun _ _ _ _ _ _ => (qe_p (qp_vp 2)))))))))
theorem ok__law_under (T : Top w K mg base) : FnOk P w K mg base CX0 1 T.a__law_under T.d__law_under ["_law_model", "_law_path_here"] (CF K mg false [.bor (.mT .p), .own .p] .p F__law_under) := okF T.F__law_under sc__law_under rfl (by decide) rfl fun f cdv A outer s H E hr => q__law_under T hr
/-! ### _law_twin -/
theorem q__law_twin (T : Top w K mg base) {f : Fm} {cdv : Value} {A : Around} {outer : List Env} {s : Shared} {H : Hp} {E : XK} (hr : Room 0 (A.deeper (envOfC "_law_twin" (defScope s__law_twin) s.heap.objs.size T.a__law_twin cdv))) :
    QSs (cxOf CX0 P w K mg base N__law_twin "_law_twin" (defScope s__law_twin) T.a__law_twin cdv A outer s H E).nox f (fun _ _ _ _ => False) (scOf 3 [.bor (.mT .p)] (.mT .p)) (startT 3 [.bor (.mT .p)]) (defBody s__law_twin) r__law_twin (outT 3 [.bor (.mT .p)]) :=
  (qss_cons (qs_set (i := 1) (τ := (.mT .p)) sc__law_twin.nd (qe_p (qp_dnewT (t := .p)))) (qss_cons (qs_lock 0 (fun _ _ => (qs_for (ws := [2]) PassesOwn.never rfl (qi_keysL 0) (qg_name (i := 2) sc__law_twin.nd) (qss_cons (qs_setIx (l_setM (t := true)) (hu_of hr) 1 (qe_p qp_non) rfl rfl (qe_p (qp_vp 2)) rfl) (qss_one (qs_if (qt_b (qb_cmp op_notN l_notNO (qp_ix (hu_of hr) (qp_v 0) (qp_vp 2)) qp_non (nomark _))) (qss_one (qs_setIx (l_setM (t := true)) (hu_of hr) 1 (qe_p (qp_fz (qp_callTy call_list_of l_lstC rfl T.n_list (by decide +kernel) (qps_cons (qp_ix (hu_of hr) (qp_v 0) (qp_vp 2)) qps_nil)))) rfl rfl (qe_p (qp_vp 2)) rfl)) qss_nil)))))) (qss_one (qs_ret (qe_mv 1)))))
theorem ok__law_twin (T : Top w K mg base) : FnOk P w K mg base CX0 1 T.a__law_twin T.d__law_twin ["_law_model"] (CF K mg false [.bor (.mT .p)] (.mT .p) F__law_twin) := okF T.F__law_twin sc__law_twin rfl (by decide) rfl fun f cdv A outer s H E hr => q__law_twin T hr
/-! ### _law_room -/
theorem q__law_room (T : Top w K mg base) {f : Fm} {cdv : Value} {A : Around} {outer : List Env} {s : Shared} {H : Hp} {E : XK} (hr : Room 0 (A.deeper (envOfC "_law_room" (defScope s__law_room) s.heap.objs.size T.a__law_room cdv))) :
    QSs (cxOf CX0 P w K mg base N__law_room "_law_room" (defScope s__law_room) T.a__law_room cdv A outer s H E).nox f (fun _ _ _ _ => False) (scOf 3 [.bor (.mT .p)] .p) (startT 3 [.bor (.mT .p)]) (defBody s__law_room) r__law_room (outT 3 [.bor (.mT .p)]) :=
  (qss_cons (qs_set (i := 1) (τ := .p) sc__law_room.nd (qe_p qp_int)) (qss_cons (qs_lock 0 (fun _ _ => (qs_for (ws := [2]) PassesOwn.never rfl (qi_keysL 0) (qg_name (i := 2) sc__law_room.nd) (qss_cons (qs_set (i := 1) (τ := .p) sc__law_room.nd (qe_p (qp_opz op_addA l_addO (qp_vp 1) qp_int))) (qss_one (qs_if (qt_b (qb_cmp op_notN l_notNO (qp_ix (hu_of hr) (qp_v 0) (qp_vp 2)) qp_non (nomark _))) (qss_one (qs_set (i := 1) (τ := .p) sc__law_room.nd (qe_p (qp_opz op_addA l_addO (qp_vp 1) (qp_callB call_lenA l_lenO rfl T.n_len (by decide +kernel) (qps_cons (qp_ix (hu_of hr) (qp_v 0) (qp_vp 2)) qps_nil)))))) qss_nil)))))) (qss_one (qs_ret (qe_p (qp_vp 1))))))
theorem ok__law_room (T : Top w K mg base) : FnOk P w K mg base CX0 1 T.a__law_room T.d__law_room ["_law_model"] (CF K mg false [.bor (.mT .p)] .p F__law_room) := okF T.F__law_room sc__law_room rfl (by decide) rfl fun f cdv A outer s H E hr => q__law_room T hr
/-! ### _law_on_leaves -/
theorem q__law_on_leaves (T : Top w K mg base) {f : Fm} {cdv : Value} {A : Around} {outer : List Env} {s : Shared} {H : Hp} {E : XK} (hr : Room 0 (A.deeper (envOfC "_law_on_leaves" (defScope s__law_on_leaves) s.heap.objs.size T.a__law_on_leaves cdv))) :
    QSs (cxOf CX0 P w K mg base N__law_on_leaves "_law_on_leaves" (defScope s__law_on_leaves) T.a__law_on_leaves cdv A outer s H E).nox f (fun _ _ _ _ => False) (scOf 5 [.own .p, .own .p, .own .p] .p) (startT 5 [.own .p, .own .p, .own .p]) (defBody s__law_on_leaves) r__law_on_leaves (outT 5 [.own .p, .own .p, .own .p]) :=
  (qss_cons (qs_set (i := 3) (τ := (.l .p)) sc__law_on_leaves.nd (qe_p (qp_lst qps_nil))) (qss_cons (qs_if (qt_b (qb_cmp op_gt l_gtI (qp_callB call_lenA l_lenO rfl T.n_len (by decide +kernel) (qps_cons (qp_vp 0) qps_nil)) (qp_callB call_lenA l_lenO rfl T.n_len (by decide +kernel) (qps_cons (qp_vp 1) qps_nil)) (nomark _))) (qss_one (qs_expr (qe_mut PySem.F.plainAttrs_list PySem.F.slot_list_append PySem.F.type_list_append mt_append l_appendM 3 rfl rfl rfl (qas_cons (qe_p (qp_tup (qps_cons qp_str (qps_cons (qp_vp 2) (qps_cons (qp_callB call_lenA l_lenO rfl T.n_len (by decide +kernel) (qps_cons (qp_vp 1) qps_nil)) qps_nil))))) qas_nil)))) qss_nil) (qss_one (qs_ret (qe_opz op_addA l_addO (qe_fz (qe_mv 3)) (qe_fz (qe_lc (own := [("_law_at", 4)]) rfl sc__law_on_leaves.nd (qi_range1 rfl T.n_range (qas_cons (qe_p (qp_callB call_lenA l_lenO rfl T.n_len (by decide +kernel) (qps_cons (qp_vp 1) qps_nil))) qas_nil)) (blkOk_by (N := N__law_on_leaves) (sc := defScope s__law_on_leaves) (by decide +kernel)) (fun _ _ _ _ _ _ => (qc_name (i := 4) (by decide) sc__law_on_leaves.nd)) (fun _ _ _ _ _ _ => (qts_one (qt_b (qb_cmp (op_neA hr.units) l_neD (qp_slice (qp_vp 0) (qo_some (qp_vp 4)) (qo_some (qp_opz op_addA l_addO (qp_vp 4) qp_int))) (qp_slice (qp_vp 1) (qo_some (qp_vp 4)) (qo_some (qp_opz op_addA l_addO (qp_vp 4) qp_int))) (nomark _))))) (fun _ _ _ _ _ _ => (qe_p (qp_tup (qps_cons qp_str (qps_cons (qp_vp 2) (qps_cons (qp_vp 4) (qps_cons (qp_ix (hu_of hr) (qp_vp 1) (qp_vp 4)) qps_nil))))))))))))))
theorem ok__law_on_leaves (T : Top w K mg base) : FnOk P w K mg base CX0 1 T.a__law_on_leaves T.d__law_on_leaves ["_law_old", "_law_new", "_law_path_here"] (CF K mg false [.own .p, .own .p, .own .p] .p F__law_on_leaves) := okF T.F__law_on_leaves sc__law_on_leaves rfl (by decide) rfl fun f cdv A outer s H E hr => q__law_on_leaves T hr
/-! ### _law_like -/
theorem q__law_like (T : Top w K mg base) {f : Fm} {cdv : Value} {A : Around} {outer : List Env} {s : Shared} {H : Hp} {E : XK} (hr : Room 0 (A.deeper (envOfC "_law_like" (defScope s__law_like) s.heap.objs.size T.a__law_like cdv))) :
    QSs (cxOf CX0 P w K mg base N__law_like "_law_like" (defScope s__law_like) T.a__law_like cdv A outer s H E).nox f (fun _ _ _ _ => False) (scOf 3 [.own .p, .own .p, .own .p] .p) (startT 3 [.own .p, .own .p, .own .p]) (defBody s__law_like) r__law_like (outT 3 [.own .p, .own .p, .own .p]) :=
  (qss_one (qs_ret (qe_p (qp_and (qp_cmp (op_inA (hu_of hr)) l_inO (qp_vp 2) (qp_vp 0) rfl) (qp_and (qp_cmp (op_inA (hu_of hr)) l_inO (qp_vp 2) (qp_vp 1) rfl) (qp_one (qp_cmp (op_eqA hr.units) l_eqD (qp_cmp op_isN l_isNO (qp_ix (hu_of hr) (qp_vp 0) (qp_vp 2)) qp_non (nomark _)) (qp_cmp op_isN l_isNO (qp_ix (hu_of hr) (qp_vp 1) (qp_vp 2)) qp_non (nomark _)) (nomark _))))))))
theorem ok__law_like (T : Top w K mg base) : FnOk P w K mg base CX0 1 T.a__law_like T.d__law_like ["_law_first", "_law_second", "_law_path_here"] (CF K mg false [.own .p, .own .p, .own .p] .p F__law_like) := okF T.F__law_like sc__law_like rfl (by decide) rfl fun f cdv A outer s H E hr => q__law_like T hr
/-! ### _law_no_deed -/
theorem q__law_no_deed (T : Top w K mg base) {f : Fm} {cdv : Value} {A : Around} {outer : List Env} {s : Shared} {H : Hp} {E : XK} (hr : Room 0 (A.deeper (envOfC "_law_no_deed" (defScope s__law_no_deed) s.heap.objs.size T.a__law_no_deed cdv))) :
    QSs (cxOf CX0 P w K mg base N__law_no_deed "_law_no_deed" (defScope s__law_no_deed) T.a__law_no_deed cdv A outer s H E).nox f (fun _ _ _ _ => False) (scOf 2 [.own .p] .p) (startT 2 [.own .p]) (defBody s__law_no_deed) r__law_no_deed (outT 2 [.own .p]) :=
  (qss_cons (qs_set (i := 1) (τ := .p) sc__law_no_deed.nd (qe_p (qp_fz (qp_lst (qps_cons qp_non (qps_cons qp_int (qps_cons qp_str (qps_cons (qp_tup (qps_cons qp_str qps_nil)) (qps_cons (qp_tup (qps_cons qp_str (qps_cons (qp_tup qps_nil) qps_nil))) (qps_cons (qp_tup (qps_cons qp_str (qps_cons qp_str qps_nil))) (qps_cons (qp_tup (qps_cons qp_str (qps_cons (qp_tup (qps_cons qp_str qps_nil)) (qps_cons (qp_tup (qps_cons qp_str qps_nil)) qps_nil)))) qps_nil))))))))))) (qss_cons (qs_set (i := 1) (τ := .p) sc__law_no_deed.nd (qe_p (qp_opz op_addA l_addO (qp_vp 1) (qp_lst (qps_cons (qp_fz (qp_lst (qps_cons qp_str (qps_cons (qp_tup (qps_cons qp_str qps_nil)) qps_nil)))) (qps_cons (qp_tup (qps_cons qp_str (qps_cons (qp_tup (qps_cons qp_str qps_nil)) qps_nil))) qps_nil)))))) (qss_cons (qs_set (i := 1) (τ := .p) sc__law_no_deed.nd (qe_p (qp_opz op_addA l_addO (qp_vp 1) (qp_lst (qps_cons (qp_tup (qps_cons qp_str (qps_cons (qp_tup (qps_cons qp_str qps_nil)) (qps_cons qp_int qps_nil)))) (qps_cons (qp_tup (qps_cons qp_str (qps_cons (qp_tup (qps_cons qp_str qps_nil)) (qps_cons qp_int (qps_cons (qp_tup qps_nil) qps_nil))))) (qps_cons (qp_tup (qps_cons qp_str (qps_cons (qp_tup (qps_cons qp_str qps_nil)) (qps_cons (qp_un un_neg l_negI qp_int) (qps_cons (qp_tup qps_nil) qps_nil))))) (qps_cons (qp_tup (qps_cons qp_str (qps_cons (qp_tup (qps_cons qp_str qps_nil)) (qps_cons qp_bl (qps_cons (qp_tup qps_nil) qps_nil))))) qps_nil)))))))) (qss_cons (qs_set (i := 1) (τ := .p) sc__law_no_deed.nd (qe_p (qp_opz op_addA l_addO (qp_vp 1) (qp_lst (qps_cons (qp_tup (qps_cons qp_str (qps_cons (qp_tup (qps_cons qp_str qps_nil)) (qps_cons qp_int (qps_cons (qp_tup (qps_cons qp_int qps_nil)) qps_nil))))) (qps_cons (qp_tup (qps_cons qp_str (qps_cons (qp_tup (qps_cons qp_str qps_nil)) (qps_cons qp_int (qps_cons (qp_op op_repTA l_repO (qp_tup (qps_cons qp_int qps_nil)) qp_int) qps_nil))))) (qps_cons (qp_tup (qps_cons qp_str (qps_cons (qp_tup (qps_cons qp_str qps_nil)) (qps_cons qp_int qps_nil)))) (qps_cons (qp_tup (qps_cons qp_str (qps_cons (qp_tup (qps_cons qp_str qps_nil)) qps_nil))) qps_nil)))))))) (qss_cons (qs_set (i := 1) (τ := .p) sc__law_no_deed.nd (qe_p (qp_opz op_addA l_addO (qp_vp 1) (qp_lst (qps_cons (qp_tup (qps_cons qp_str (qps_cons (qp_tup (qps_cons qp_str qps_nil)) (qps_cons (qp_tup qps_nil) qps_nil)))) (qps_cons (qp_tup (qps_cons qp_str (qps_cons (qp_tup (qps_cons qp_str (qps_cons qp_str qps_nil))) (qps_cons (qp_tup (qps_cons qp_str qps_nil)) qps_nil)))) qps_nil)))))) (qss_one (qs_ret (qe_p (qp_ix (hu_of hr) (qp_vp 1) (qp_op op_mod l_modI (qp_vp 0) (qp_callB call_lenA l_lenO rfl T.n_len (by decide +kernel) (qps_cons (qp_vp 1) qps_nil))))))))))))
theorem ok__law_no_deed (T : Top w K mg base) : FnOk P w K mg base CX0 1 T.a__law_no_deed T.d__law_no_deed ["_law_number"] (CF K mg false [.own .p] .p F__law_no_deed) := okF T.F__law_no_deed sc__law_no_deed rfl (by decide) rfl fun f cdv A outer s H E hr => q__law_no_deed T hr
/-! ### _law_other_thing -/
theorem q__law_other_thing (T : Top w K mg base) {f : Fm} {cdv : Value} {A : Around} {outer : List Env} {s : Shared} {H : Hp} {E : XK} (hr : Room 0 (A.deeper (envOfC "_law_other_thing" (defScope s__law_other_thing) s.heap.objs.size T.a__law_other_thing cdv))) :
    QSs (cxOf CX0 P w K mg base N__law_other_thing "_law_other_thing" (defScope s__law_other_thing) T.a__law_other_thing cdv A outer s H E).nox f (fun _ _ _ _ => False) (scOf 2 [.own .p] .p) (startT 2 [.own .p]) (defBody s__law_other_thing) r__law_other_thing (outT 2 [.own .p]) :=
  (qss_cons (qs_set (i := 1) (τ := .p) sc__law_other_thing.nd (qe_p (qp_fz (qp_lst (qps_cons qp_non (qps_cons qp_bl (qps_cons qp_int (qps_cons qp_str (qps_cons qp_str (qps_cons (qp_fz (qp_lst qps_nil)) (qps_cons (qp_tup qps_nil) (qps_cons (qp_fz (qp_dnewK (t := .p))) (qps_cons (qp_tup (qps_cons qp_str qps_nil)) (qps_cons (qp_tup (qps_cons qp_str (qps_cons qp_int (qps_cons qp_int qps_nil)))) (qps_cons (qp_fz (qp_lst (qps_cons qp_str (qps_cons qp_int (qps_cons (qp_tup qps_nil) (qps_cons qp_int qps_nil)))))) (qps_cons (qp_fz (qp_disp1 qp_str qp_int)) qps_nil)))))))))))))))) (qss_cons (qs_set (i := 1) (τ := .p) sc__law_other_thing.nd (qe_p (qp_opz op_addA l_addO (qp_vp 1) (qp_lst (qps_cons (qp_tup (qps_cons qp_str (qps_cons qp_int (qps_cons qp_non (qps_cons qp_int qps_nil))))) (qps_cons (qp_tup (qps_cons (qp_tup (qps_cons qp_str (qps_cons qp_int (qps_cons (qp_tup qps_nil) (qps_cons qp_int qps_nil))))) qps_nil)) (qps_cons (qp_tup (qps_cons qp_str (qps_cons qp_int (qps_cons (qp_fz (qp_dnewK (t := .p))) (qps_cons qp_int qps_nil))))) (qps_cons (qp_tup (qps_cons qp_str (qps_cons qp_int (qps_cons qp_str (qps_cons qp_int qps_nil))))) qps_nil)))))))) (qss_cons (qs_set (i := 1) (τ := .p) sc__law_other_thing.nd (qe_p (qp_opz op_addA l_addO (qp_vp 1) (qp_lst (qps_cons (qp_tup (qps_cons qp_int (qps_cons qp_str (qps_cons (qp_tup qps_nil) (qps_cons qp_int qps_nil))))) qps_nil))))) (qss_one (qs_ret (qe_p (qp_ix (hu_of hr) (qp_vp 1) (qp_op op_mod l_modI (qp_vp 0) (qp_callB call_lenA l_lenO rfl T.n_len (by decide +kernel) (qps_cons (qp_vp 1) qps_nil))))))))))
theorem ok__law_other_thing (T : Top w K mg base) : FnOk P w K mg base CX0 1 T.a__law_other_thing T.d__law_other_thing ["_law_number"] (CF K mg false [.own .p] .p F__law_other_thing) := okF T.F__law_other_thing sc__law_other_thing rfl (by decide) rfl fun f cdv A outer s H E hr => q__law_other_thing T hr
/-! ### is_path -/
theorem q_is_path (T : Top w K mg base) {f : Fm} {cdv : Value} {A : Around} {outer : List Env} {s : Shared} {H : Hp} {E : XK} (hr : Room 1 (A.deeper (envOfC "is_path" (defScope s_is_path) s.heap.objs.size T.a_is_path cdv))) :
    QSs (cxOf CX0 P w K mg base N_is_path "is_path" (defScope s_is_path) T.a_is_path cdv A outer s H E).nox f (fun _ _ _ _ => False) (scOf 2 [.own .p] .p) (startT 2 [.own .p]) (defBody s_is_path) r_is_path (outT 2 [.own .p]) :=
  (qss_cons (qs_if (qt_b (QW.t (qw_or (qb_not (qb_val (qp_callB call_isi l_isiO rfl T.n_isinstance (by decide +kernel) (qps_cons (qp_vp 0) (qps_cons (qp_ty (n := "tuple") rfl T.n_tuple (by decide +kernel)) qps_nil))))) (qw_or1 (qb_cmp op_gt l_gtI (qp_callB call_lenA l_lenO rfl T.n_len (by decide +kernel) (qps_cons (qp_vp 0) qps_nil)) (qp_globI rfl T.g_MOST_NAMES) (nomark _)))))) (qss_one (qs_ret (qe_p qp_bl))) qss_nil) (qss_one (qs_ret (qe_callB (cr_all rfl) l_allO rfl T.n_all (by decide +kernel) (qas_cons (qe_fz (qe_lc (own := [("name", 1)]) rfl sc_is_path.nd (qi_seq (qe_p (qp_vp 0))) (blkOk_by (N := N_is_path) (sc := defScope s_is_path) (by decide +kernel)) (fun _ _ _ _ _ _ => (qc_name (i := 1) (by decide) sc_is_path.nd)) (fun _ _ _ _ _ _ => qts_nil) (fun _ _ _ _ _ _ => (qe_p (qp_call (ok_is_name T) hr rfl T.m_is_name T.F_is_name.kp T.b_is_name (qps_cons (qp_vp 1) qps_nil)))))) qas_nil)))))
theorem ok_is_path (T : Top w K mg base) : FnOk P w K mg base CX0 2 T.a_is_path T.d_is_path ["one"] (CF K mg false [.own .p] .p F_is_path) := okF T.F_is_path sc_is_path rfl (by decide) rfl fun f cdv A outer s H E hr => q_is_path T hr
/-! ### is_leaf -/
theorem q_is_leaf (T : Top w K mg base) {f : Fm} {cdv : Value} {A : Around} {outer : List Env} {s : Shared} {H : Hp} {E : XK} (hr : Room 1 (A.deeper (envOfC "is_leaf" (defScope s_is_leaf) s.heap.objs.size T.a_is_leaf cdv))) :
    QSs (cxOf CX0 P w K mg base N_is_leaf "is_leaf" (defScope s_is_leaf) T.a_is_leaf cdv A outer s H E).nox f (fun _ _ _ _ => False) (scOf 2 [.own .p] .p) (startT 2 [.own .p]) (defBody s_is_leaf) r_is_leaf (outT 2 [.own .p]) :=
  (qss_cons (qs_if (qt_b (QW.t (qw_or (qb_not (qb_val (qp_callB call_isi l_isiO rfl T.n_isinstance (by decide +kernel) (qps_cons (qp_vp 0) (qps_cons (qp_ty (n := "tuple") rfl T.n_tuple (by decide +kernel)) qps_nil))))) (qw_or1 (qb_cmp op_gt l_gtI (qp_callB call_lenA l_lenO rfl T.n_len (by decide +kernel) (qps_cons (qp_vp 0) qps_nil)) (qp_globI rfl T.g_MOST_NUMBERS) (nomark _)))))) (qss_one (qs_ret (qe_p qp_bl))) qss_nil) (qss_one (qs_ret (qe_callB (cr_all rfl) l_allO rfl T.n_all (by decide +kernel) (qas_cons (qe_fz (qe_lc (own := [("number", 1)]) rfl sc_is_leaf.nd (qi_seq (qe_p (qp_vp 0))) (blkOk_by (N := N_is_leaf) (sc := defScope s_is_leaf) (by decide +kernel)) (fun _ _ _ _ _ _ => (qc_name (i := 1) (by decide) sc_is_leaf.nd)) (fun _ _ _ _ _ _ => qts_nil) (fun _ _ _ _ _ _ => (qe_p (qp_and (qp_call (ok_is_number T) hr rfl T.m_is_number T.F_is_number.kp T.b_is_number (qps_cons (qp_vp 1) qps_nil)) (qp_and (qp_cmp op_ge l_geI (qp_vp 1) qp_int (nomark _)) (qp_one (qp_cmp op_le l_leI (qp_vp 1) qp_int (nomark _))))))))) qas_nil)))))
theorem ok_is_leaf (T : Top w K mg base) : FnOk P w K mg base CX0 2 T.a_is_leaf T.d_is_leaf ["one"] (CF K mg false [.own .p] .p F_is_leaf) := okF T.F_is_leaf sc_is_leaf rfl (by decide) rfl fun f cdv A outer s H E hr => q_is_leaf T hr
/-! ### is_count -/
theorem q_is_count (T : Top w K mg base) {f : Fm} {cdv : Value} {A : Around} {outer : List Env} {s : Shared} {H : Hp} {E : XK} (hr : Room 1 (A.deeper (envOfC "is_count" (defScope s_is_count) s.heap.objs.size T.a_is_count cdv))) :
    QSs (cxOf CX0 P w K mg base N_is_count "is_count" (defScope s_is_count) T.a_is_count cdv A outer s H E).nox f (fun _ _ _ _ => False) (scOf 1 [.own .p] .p) (startT 1 [.own .p]) (defBody s_is_count) r_is_count (outT 1 [.own .p]) :=
  (qss_one (qs_ret (qe_p (qp_and (qp_call (ok_is_number T) hr rfl T.m_is_number T.F_is_number.kp T.b_is_number (qps_cons (qp_vp 0) qps_nil)) (qp_and (qp_cmp op_ge l_geI (qp_vp 0) qp_int (nomark _)) (qp_one (qp_cmp op_le l_leI (qp_vp 0) (qp_globI rfl T.g_MOST_LEAVES) (nomark _))))))))
theorem ok_is_count (T : Top w K mg base) : FnOk P w K mg base CX0 2 T.a_is_count T.d_is_count ["one"] (CF K mg false [.own .p] .p F_is_count) := okF T.F_is_count sc_is_count rfl (by decide) rfl fun f cdv A outer s H E hr => q_is_count T hr
/-! ### is_tally -/
theorem q_is_tally (T : Top w K mg base) {f : Fm} {cdv : Value} {A : Around} {outer : List Env} {s : Shared} {H : Hp} {E : XK} (hr : Room 1 (A.deeper (envOfC "is_tally" (defScope s_is_tally) s.heap.objs.size T.a_is_tally cdv))) :
    QSs (cxOf CX0 P w K mg base N_is_tally "is_tally" (defScope s_is_tally) T.a_is_tally cdv A outer s H E).nox f (fun _ _ _ _ => False) (scOf 1 [.own .p] .p) (startT 1 [.own .p]) (defBody s_is_tally) r_is_tally (outT 1 [.own .p]) :=
  (qss_one (qs_ret (qe_p (qp_and (qp_call (ok_is_number T) hr rfl T.m_is_number T.F_is_number.kp T.b_is_number (qps_cons (qp_vp 0) qps_nil)) (qp_and (qp_cmp op_ge l_geI (qp_vp 0) qp_int (nomark _)) (qp_one (qp_cmp op_lt l_ltI (qp_vp 0) (qp_globI rfl T.g_TALLIES) (nomark _))))))))
theorem ok_is_tally (T : Top w K mg base) : FnOk P w K mg base CX0 2 T.a_is_tally T.d_is_tally ["one"] (CF K mg false [.own .p] .p F_is_tally) := okF T.F_is_tally sc_is_tally rfl (by decide) rfl fun f cdv A outer s H E hr => q_is_tally T hr
/-! ### _law_draws -/
theorem q__law_draws (T : Top w K mg base) {f : Fm} {cdv : Value} {A : Around} {outer : List Env} {s : Shared} {H : Hp} {E : XK} (hr : Room 1 (A.deeper (envOfC "_law_draws" (defScope s__law_draws) s.heap.objs.size T.a__law_draws cdv))) :
    QSs (cxOf CX0 P w K mg base N__law_draws "_law_draws" (defScope s__law_draws) T.a__law_draws cdv A outer s H E).nox f (fun _ _ _ _ => False) (scOf 5 [.own .p] (.l .p)) (startT 5 [.own .p]) (defBody s__law_draws) r__law_draws (outT 5 [.own .p]) :=
  (qss_cons (qs_set (i := 1) (τ := (.l .p)) sc__law_draws.nd (qe_p (qp_lst qps_nil))) (qss_cons (qs_for (ws := [2, 3, 4]) PassesOwn.never rfl (qi_range1 rfl T.n_range (qas_cons (qe_p (qp_callB (call_min2 rfl) l_min2O rfl T.n_min (by decide +kernel) (qps_cons (qp_callB call_lenA l_lenO rfl T.n_len (by decide +kernel) (qps_cons (qp_vp 0) qps_nil)) (qps_cons qp_int qps_nil)))) qas_nil)) (qg_name (i := 2) sc__law_draws.nd) (qss_cons (qs_set (i := 3) (τ := .p) sc__law_draws.nd (qe_p (qp_callB call_abs l_absO rfl T.n_abs (by decide +kernel) (qps_cons (qp_ix (hu_of hr) (qp_vp 0) (qp_vp 2)) qps_nil)))) (qss_cons (qs_if (qt_b (qb_cmp op_lt l_ltI (qp_vp 3) (qp_op op_pow l_powI qp_int qp_int) (nomark _))) (qss_one (qs_for (ws := [4]) PassesOwn.never rfl (qi_range1 rfl T.n_range (qas_cons (qe_p qp_int) qas_nil)) (qg_name (i := 4) sc__law_draws.nd) (qss_one (qs_expr (qe_mut PySem.F.plainAttrs_list PySem.F.slot_list_append PySem.F.type_list_append mt_append l_appendM 1 rfl rfl rfl (qas_cons (qe_p (qp_call (ok__law_mixed T) hr rfl T.m__law_mixed T.F__law_mixed.kp T.b__law_mixed (qps_cons (qp_call (ok__law_mixed T) hr rfl T.m__law_mixed T.F__law_mixed.kp T.b__law_mixed (qps_cons (qp_vp 3) (qps_cons (qp_opz op_addA l_addO (qp_op op_mulW l_mulI qp_int (qp_vp 4)) qp_int) qps_nil))) (qps_cons (qp_opz op_addA l_addO (qp_opz op_addA l_addO (qp_vp 4) (qp_vp 2)) qp_int) qps_nil)))) qas_nil)))))) qss_nil) (qss_cons (qs_while (n := 2000) (ws := []) PassesOwn.never (qt_b (QW.t (qw_and (qb_cmp op_ge l_geI (qp_vp 3) (qp_op op_pow l_powI qp_int qp_int) (nomark _)) (qw_and1 (qb_cmp op_lt l_ltI (qp_callB call_lenA l_lenO rfl T.n_len (by decide +kernel) (qps_cons (qp_v 1) qps_nil)) qp_int (nomark _)))))) (qss_cons (qs_expr (qe_mut PySem.F.plainAttrs_list PySem.F.slot_list_append PySem.F.type_list_append mt_append l_appendM 1 rfl rfl rfl (qas_cons (qe_p (qp_op op_mod l_modI (qp_vp 3) qp_int)) qas_nil))) (qss_one (qs_set (i := 3) (τ := .p) sc__law_draws.nd (qe_p (qp_op op_fdivW l_divI (qp_vp 3) qp_int)))))) (qss_one (qs_if (qt_b (qb_cmp op_ge l_geI (qp_vp 3) qp_int (nomark _))) (qss_one (qs_expr (qe_mut PySem.F.plainAttrs_list PySem.F.slot_list_append PySem.F.type_list_append mt_append l_appendM 1 rfl rfl rfl (qas_cons (qe_p (qp_op op_mod l_modI (qp_vp 3) qp_int)) qas_nil)))) qss_nil)))))) (qss_one (qs_ret (qe_mv 1)))))
theorem ok__law_draws (T : Top w K mg base) : FnOk P w K mg base CX0 2 T.a__law_draws T.d__law_draws ["_law_script"] (CF K mg false [.own .p] (.l .p) F__law_draws) := okF T.F__law_draws sc__law_draws rfl (by decide) rfl fun f cdv A outer s H E hr => q__law_draws T hr
/-! ### _law_path -/
theorem q__law_path (T : Top w K mg base) {f : Fm} {cdv : Value} {A : Around} {outer : List Env} {s : Shared} {H : Hp} {E : XK} (hr : Room 1 (A.deeper (envOfC "_law_path" (defScope s__law_path) s.heap.objs.size T.a__law_path cdv))) :
    QSs (cxOf CX0 P w K mg base N__law_path "_law_path" (defScope s__law_path) T.a__law_path cdv A outer s H E).nox f (fun _ _ _ _ => False) (scOf 4 [.io (.l .p)] .p) (startT 4 [.io (.l .p)]) (defBody s__law_path) r__law_path (outT 4 [.io (.l .p)]) :=
  (qss_cons (qs_set (i := 1) (τ := .p) sc__law_path.nd (qe_c0 (ok__law_next T) hr rfl T.m__law_next T.F__law_next.kp T.b__law_next (qxs_sl 0 rfl (.inl rfl) qxs_nil))) (qss_cons (qs_set (i := 2) (τ := .p) sc__law_path.nd (qe_p (qp_ix (hu_of hr) (qp_lst (qps_cons qp_int (qps_cons qp_int (qps_cons qp_int (qps_cons qp_int (qps_cons qp_int (qps_cons qp_int (qps_cons qp_int (qps_cons qp_int (qps_cons qp_int (qps_cons qp_int qps_nil))))))))))) (qp_op op_mod l_modI (qp_vp 1) qp_int)))) (qss_one (qs_ret (qe_callTy call_tuple_of l_tupC rfl T.n_tuple (by decide +kernel) (qas_cons (qe_fz (qe_lc (own := [("_law_k", 3)]) rfl sc__law_path.nd (qi_range1 rfl T.n_range (qas_cons (qe_p (qp_vp 2)) qas_nil)) (blkOk_by (N := N__law_path) (sc := defScope s__law_path) (by decide +kernel)) (fun _ _ _ _ _ _ => (qc_name (i := 3) (by decide) sc__law_path.nd)) (fun _ _ _ _ _ _ => qts_nil) (fun _ _ _ _ _ _ => (qe_c0 (ok__law_name T) hr rfl T.m__law_name T.F__law_name.kp T.b__law_name (qxs_v (qe_op op_mod l_modI (qe_c0 (ok__law_next T) hr rfl T.m__law_next T.F__law_next.kp T.b__law_next (qxs_sl 0 rfl (.inl rfl) qxs_nil)) (qe_p (qp_ix (hu_of hr) (qp_lst (qps_cons qp_int (qps_cons qp_int (qps_cons qp_int qps_nil)))) (qp_op op_mod l_modI (qp_op op_fdivW l_divI (qp_vp 1) qp_int) qp_int)))) qxs_nil))))) qas_nil))))))
theorem ok__law_path (T : Top w K mg base) : FnOk P w K mg base CX0 2 T.a__law_path T.d__law_path ["_law_drawn"] (CF K mg false [.io (.l .p)] .p F__law_path) := okF T.F__law_path sc__law_path rfl (by decide) rfl fun f cdv A outer s H E hr => q__law_path T hr
/-! ### _law_leaf -/
theorem q__law_leaf (T : Top w K mg base) {f : Fm} {cdv : Value} {A : Around} {outer : List Env} {s : Shared} {H : Hp} {E : XK} (hr : Room 1 (A.deeper (envOfC "_law_leaf" (defScope s__law_leaf) s.heap.objs.size T.a__law_leaf cdv))) :
    QSs (cxOf CX0 P w K mg base N__law_leaf "_law_leaf" (defScope s__law_leaf) T.a__law_leaf cdv A outer s H E).nox f (fun _ _ _ _ => False) (scOf 3 [.io (.l .p)] .p) (startT 3 [.io (.l .p)]) (defBody s__law_leaf) r__law_leaf (outT 3 [.io (.l .p)]) :=
  (qss_cons (qs_set (i := 1) (τ := .p) sc__law_leaf.nd (qe_c0 (ok__law_next T) hr rfl T.m__law_next T.F__law_next.kp T.b__law_next (qxs_sl 0 rfl (.inl rfl) qxs_nil))) (qss_cons (qs_if (qt_b (qb_cmp (op_eqA hr.units) l_eqD (qp_op op_mod l_modI (qp_vp 1) qp_int) qp_int (nomark _))) (qss_one (qs_ret (qe_p (qp_ix (hu_of hr) (qp_lst (qps_cons (qp_tup qps_nil) (qps_cons (qp_tup (qps_cons qp_int qps_nil)) (qps_cons (qp_tup (qps_cons qp_int (qps_cons qp_int qps_nil))) (qps_cons (qp_tup (qps_cons qp_int (qps_cons qp_int (qps_cons qp_int (qps_cons qp_int (qps_cons qp_int (qps_cons qp_int (qps_cons qp_int (qps_cons qp_int qps_nil))))))))) qps_nil))))) (qp_op op_mod l_modI (qp_op op_fdivW l_divI (qp_vp 1) qp_int) qp_int))))) qss_nil) (qss_one (qs_ret (qe_callTy call_tuple_of l_tupC rfl T.n_tuple (by decide +kernel) (qas_cons (qe_fz (qe_lc (own := [("_law_k", 2)]) rfl sc__law_leaf.nd (qi_range1 rfl T.n_range (qas_cons (qe_p (qp_op op_mod l_modI (qp_op op_fdivW l_divI (qp_vp 1) qp_int) qp_int)) qas_nil)) (blkOk_by (N := N__law_leaf) (sc := defScope s__law_leaf) (by decide +kernel)) (fun _ _ _ _ _ _ => (qc_name (i := 2) (by decide) sc__law_leaf.nd)) (fun _ _ _ _ _ _ => qts_nil) (fun _ _ _ _ _ _ => (qe_p (qp_op op_mod l_modI (qp_opz op_addA l_addO (qp_op op_fdivW l_divI (qp_vp 1) qp_int) (qp_op op_mulW l_mulI (qp_op op_mulW l_mulI (qp_vp 2) (qp_vp 2)) (qp_op op_mod l_modI (qp_vp 1) qp_int))) qp_int))))) qas_nil))))))
theorem ok__law_leaf (T : Top w K mg base) : FnOk P w K mg base CX0 2 T.a__law_leaf T.d__law_leaf ["_law_drawn"] (CF K mg false [.io (.l .p)] .p F__law_leaf) := okF T.F__law_leaf sc__law_leaf rfl (by decide) rfl fun f cdv A outer s H E hr => q__law_leaf T hr
/-! ### _law_new_path -/
theorem q__law_new_path (T : Top w K mg base) {f : Fm} {cdv : Value} {A : Around} {outer : List Env} {s : Shared} {H : Hp} {E : XK} (hr : Room 1 (A.deeper (envOfC "_law_new_path" (defScope s__law_new_path) s.heap.objs.size T.a__law_new_path cdv))) :
    QSs (cxOf CX0 P w K mg base N__law_new_path "_law_new_path" (defScope s__law_new_path) T.a__law_new_path cdv A outer s H E).nox f (fun _ _ _ _ => False) (scOf 5 [.io (.l .p), .bor (.mT .p)] .p) (startT 5 [.io (.l .p), .bor (.mT .p)]) (defBody s__law_new_path) r__law_new_path (outT 5 [.io (.l .p), .bor (.mT .p)]) :=
  (qss_cons (qs_set (i := 2) (τ := .p) sc__law_new_path.nd (qe_opz op_addA l_addO (qe_p (qp_fz (qp_lst (qps_cons (qp_tup qps_nil) qps_nil)))) (qe_fz (qe_callB (cr_sortedD hr.units) l_sortO rfl T.n_sorted (by decide +kernel) (qas_cons (qe_fz (qe_lock 1 (fun _ _ => (qe_lc (own := [("_law_one", 4)]) rfl sc__law_new_path.nd (qi_keysL 1) (blkOk_by (N := N__law_new_path) (sc := defScope s__law_new_path) (by decide +kernel)) (fun _ _ _ _ _ _ => (qc_name (i := 4) (by decide) sc__law_new_path.nd)) (fun _ _ _ _ _ _ => (qts_one (qt_b (QW.t (qw_and (qb_cmp op_isN l_isNO (qp_ix (hu_of hr) (qp_v 1) (qp_vp 4)) qp_non (nomark _)) (qw_and1 (qb_cmp op_lt l_ltI (qp_callB call_lenA l_lenO rfl T.n_len (by decide +kernel) (qps_cons (qp_vp 4) qps_nil)) qp_int (nomark _)))))))) (fun _ _ _ _ _ _ => (qe_p (qp_vp 4))))))) qas_nil))))) (qss_cons (qs_set (i := 3) (τ := .p) sc__law_new_path.nd (qe_c0 (ok__law_next T) hr rfl T.m__law_next T.F__law_next.kp T.b__law_next (qxs_sl 0 rfl (.inl rfl) qxs_nil))) (qss_one (qs_ret (qe_p (qp_opz op_addA l_addO (qp_ix (hu_of hr) (qp_vp 2) (qp_op op_mod l_modI (qp_vp 3) (qp_callB call_lenA l_lenO rfl T.n_len (by decide +kernel) (qps_cons (qp_vp 2) qps_nil)))) (qp_tup (qps_cons (qp_call (ok__law_name T) hr rfl T.m__law_name T.F__law_name.kp T.b__law_name (qps_cons (qp_op op_fdivW l_divI (qp_vp 3) qp_int) qps_nil)) qps_nil))))))))
theorem ok__law_new_path (T : Top w K mg base) : FnOk P w K mg base CX0 2 T.a__law_new_path T.d__law_new_path ["_law_drawn", "_law_model"] (CF K mg false [.io (.l .p), .bor (.mT .p)] .p F__law_new_path) := okF T.F__law_new_path sc__law_new_path rfl (by decide) rfl fun f cdv A outer s H E hr => q__law_new_path T hr
/-! ### _law_bent -/
theorem q__law_bent (T : Top w K mg base) {f : Fm} {cdv : Value} {A : Around} {outer : List Env} {s : Shared} {H : Hp} {E : XK} (hr : Room 1 (A.deeper (envOfC "_law_bent" (defScope s__law_bent) s.heap.objs.size T.a__law_bent cdv))) :
    QSs (cxOf CX0 P w K mg base N__law_bent "_law_bent" (defScope s__law_bent) T.a__law_bent cdv A outer s H E).nox f (fun _ _ _ _ => False) (scOf 10 [.own .p, .own .p] .p) (startT 10 [.own .p, .own .p]) (defBody s__law_bent) r__law_bent (outT 10 [.own .p, .own .p]) :=
  (qss_cons (qs_asg (qe_p (qp_vp 0)) (qg_tup rfl (qgs_cons (qg_name (i := 2) sc__law_bent.nd) (qgs_cons (qg_name (i := 3) sc__law_bent.nd) (qgs_cons (qg_name (i := 4) sc__law_bent.nd) (qgs_cons (qg_name (i := 5) sc__law_bent.nd) qgs_nil)))))) (qss_cons (qs_set (i := 6) (τ := .p) sc__law_bent.nd (qe_p (qp_fz (qp_lst (qps_cons (qp_un un_neg l_negI qp_int) (qps_cons qp_int (qps_cons (qp_op op_pow l_powI qp_int qp_int) (qps_cons qp_bl (qps_cons qp_str (qps_cons qp_non (qps_cons (qp_tup (qps_cons qp_int qps_nil)) qps_nil))))))))))) (qss_cons (qs_set (i := 7) (τ := .p) sc__law_bent.nd (qe_p (qp_ix (hu_of hr) (qp_vp 6) (qp_op op_mod l_modI (qp_op op_fdivW l_divI (qp_vp 1) qp_int) qp_int)))) (qss_cons (qs_set (i := 8) (τ := .p) sc__law_bent.nd (qe_p (qp_op op_mod l_modI (qp_vp 1) qp_int))) (qss_cons (qs_if (qt_b (qb_cmp (op_eqA hr.units) l_eqD (qp_vp 8) qp_int (nomark _))) (qss_one (qs_ret (qe_p (qp_fz (qp_lst (qps_cons (qp_vp 2) (qps_cons (qp_vp 3) (qps_cons (qp_vp 4) (qps_cons (qp_vp 5) qps_nil))))))))) qss_nil) (qss_cons (qs_if (qt_b (qb_cmp (op_eqA hr.units) l_eqD (qp_vp 8) qp_int (nomark _))) (qss_one (qs_ret (qe_p (qp_tup (qps_cons (qp_vp 2) (qps_cons (qp_vp 3) (qps_cons (qp_fz (qp_callTy call_list_of l_lstC rfl T.n_list (by decide +kernel) (qps_cons (qp_vp 4) qps_nil))) (qps_cons (qp_vp 5) qps_nil)))))))) qss_nil) (qss_cons (qs_if (qt_b (qb_cmp (op_eqA hr.units) l_eqD (qp_vp 8) qp_int (nomark _))) (qss_one (qs_ret (qe_p (qp_tup (qps_cons (qp_vp 2) (qps_cons (qp_vp 3) (qps_cons (qp_vp 4) (qps_cons (qp_vp 5) (qps_cons qp_int qps_nil))))))))) qss_nil) (qss_cons (qs_if (qt_b (qb_cmp (op_eqA hr.units) l_eqD (qp_vp 8) qp_int (nomark _))) (qss_one (qs_ret (qe_p (qp_tup (qps_cons (qp_ix (hu_of hr) (qp_lst (qps_cons qp_str (qps_cons qp_str (qps_cons qp_str (qps_cons qp_non (qps_cons qp_int qps_nil)))))) (qp_op op_mod l_modI (qp_op op_fdivW l_divI (qp_vp 1) qp_int) qp_int)) (qps_cons (qp_vp 3) (qps_cons (qp_vp 4) (qps_cons (qp_vp 5) qps_nil)))))))) qss_nil) (qss_cons (qs_if (qt_b (qb_cmp (op_eqA hr.units) l_eqD (qp_vp 8) qp_int (nomark _))) (qss_one (qs_ret (qe_p (qp_tup (qps_cons (qp_vp 2) (qps_cons (qp_vp 7) (qps_cons (qp_vp 4) (qps_cons (qp_vp 5) qps_nil)))))))) qss_nil) (qss_cons (qs_if (qt_b (qb_cmp (op_eqA hr.units) l_eqD (qp_vp 8) qp_int (nomark _))) (qss_one (qs_ret (qe_p (qp_tup (qps_cons (qp_vp 2) (qps_cons (qp_vp 3) (qps_cons (qp_vp 4) (qps_cons (qp_vp 7) qps_nil)))))))) qss_nil) (qss_cons (qs_set (i := 9) (τ := .p) sc__law_bent.nd (qe_p (qp_op op_mod l_modI (qp_op op_fdivW l_divI (qp_vp 1) qp_int) (qp_opz op_addA l_addO (qp_callB call_lenA l_lenO rfl T.n_len (by decide +kernel) (qps_cons (qp_vp 4) qps_nil)) qp_int)))) (qss_cons (qs_if (qt_b (qb_cmp (op_eqA hr.units) l_eqD (qp_vp 8) qp_int (nomark _))) (qss_one (qs_ret (qe_p (qp_tup (qps_cons (qp_vp 2) (qps_cons (qp_vp 3) (qps_cons (qp_opz op_addA l_addO (qp_opz op_addA l_addO (qp_slice (qp_vp 4) qo_none (qo_some (qp_vp 9))) (qp_tup (qps_cons (qp_call (ok__law_no_deed T) hr rfl T.m__law_no_deed T.F__law_no_deed.kp T.b__law_no_deed (qps_cons (qp_op op_fdivW l_divI (qp_vp 1) qp_int) qps_nil)) qps_nil))) (qp_slice (qp_vp 4) (qo_some (qp_vp 9)) qo_none)) (qps_cons (qp_vp 5) qps_nil)))))))) qss_nil) (qss_one (qs_ret (qe_p (qp_tup (qps_cons (qp_vp 2) (qps_cons (qp_vp 3) (qps_cons (qp_op op_repTA l_repO (qp_tup (qps_cons (qp_tup (qps_cons qp_str (qps_cons (qp_tup (qps_cons qp_str qps_nil)) qps_nil))) qps_nil)) qp_int) (qps_cons (qp_vp 5) qps_nil))))))))))))))))))))
theorem ok__law_bent (T : Top w K mg base) : FnOk P w K mg base CX0 2 T.a__law_bent T.d__law_bent ["_law_sent", "_law_number"] (CF K mg false [.own .p, .own .p] .p F__law_bent) := okF T.F__law_bent sc__law_bent rfl (by decide) rfl fun f cdv A outer s H E hr => q__law_bent T hr
/-! ### is_way -/
theorem q_is_way (T : Top w K mg base) {f : Fm} {cdv : Value} {A : Around} {outer : List Env} {s : Shared} {H : Hp} {E : XK} (hr : Room 2 (A.deeper (envOfC "is_way" (defScope s_is_way) s.heap.objs.size T.a_is_way cdv))) :
    QSs (cxOf CX0 P w K mg base N_is_way "is_way" (defScope s_is_way) T.a_is_way cdv A outer s H E).nox f (fun _ _ _ _ => False) (scOf 1 [.own .p] .p) (startT 1 [.own .p]) (defBody s_is_way) r_is_way (outT 1 [.own .p]) :=
  (qss_one (qs_ret (qe_p (qp_and (qp_call (ok_is_path T) hr rfl T.m_is_path T.F_is_path.kp T.b_is_path (qps_cons (qp_vp 0) qps_nil)) (qp_one (qp_cmp (op_neA hr.units) l_neD (qp_vp 0) (qp_tup qps_nil) (nomark _)))))))
theorem ok_is_way (T : Top w K mg base) : FnOk P w K mg base CX0 3 T.a_is_way T.d_is_way ["one"] (CF K mg false [.own .p] .p F_is_way) := okF T.F_is_way sc_is_way rfl (by decide) rfl fun f cdv A outer s H E hr => q_is_way T hr
/-! ### _law_old_path -/
theorem q__law_old_path (T : Top w K mg base) {f : Fm} {cdv : Value} {A : Around} {outer : List Env} {s : Shared} {H : Hp} {E : XK} (hr : Room 2 (A.deeper (envOfC "_law_old_path" (defScope s__law_old_path) s.heap.objs.size T.a__law_old_path cdv))) :
    QSs (cxOf CX0 P w K mg base N__law_old_path "_law_old_path" (defScope s__law_old_path) T.a__law_old_path cdv A outer s H E).nox f (fun _ _ _ _ => False) (scOf 4 [.io (.l .p), .bor (.mT .p)] .p) (startT 4 [.io (.l .p), .bor (.mT .p)]) (defBody s__law_old_path) r__law_old_path (outT 4 [.io (.l .p), .bor (.mT .p)]) :=
  (qss_cons (qs_set (i := 2) (τ := .p) sc__law_old_path.nd (qe_fz (qe_lock 1 (fun _ _ => (qe_sortK 1 rfl hr.units rfl T.n_sorted))))) (qss_cons (qs_set (i := 3) (τ := .p) sc__law_old_path.nd (qe_c0 (ok__law_next T) (hr.mono (by decide)) rfl T.m__law_next T.F__law_next.kp T.b__law_next (qxs_sl 0 rfl (.inl rfl) qxs_nil))) (qss_cons (qs_if (qt_b (QW.t (qw_or (qb_cmp (op_eqA hr.units) l_eqD (qp_vp 2) (qp_fz (qp_lst qps_nil)) (nomark _)) (qw_or1 (qb_cmp (op_eqA hr.units) l_eqD (qp_op op_mod l_modI (qp_vp 3) qp_int) qp_int (nomark _)))))) (qss_one (qs_ret (qe_c0 (ok__law_path T) hr rfl T.m__law_path T.F__law_path.kp T.b__law_path (qxs_sl 0 rfl (.inl rfl) qxs_nil)))) qss_nil) (qss_one (qs_ret (qe_p (qp_ix (hu_of hr) (qp_vp 2) (qp_op op_mod l_modI (qp_op op_fdivW l_divI (qp_vp 3) qp_int) (qp_callB call_lenA l_lenO rfl T.n_len (by decide +kernel) (qps_cons (qp_vp 2) qps_nil))))))))))
theorem ok__law_old_path (T : Top w K mg base) : FnOk P w K mg base CX0 3 T.a__law_old_path T.d__law_old_path ["_law_drawn", "_law_model"] (CF K mg false [.io (.l .p), .bor (.mT .p)] .p F__law_old_path) := okF T.F__law_old_path sc__law_old_path rfl (by decide) rfl fun f cdv A outer s H E hr => q__law_old_path T hr
/-! ### is_deed -/
theorem q_is_deed (T : Top w K mg base) {f : Fm} {cdv : Value} {A : Around} {outer : List Env} {s : Shared} {H : Hp} {E : XK} (hr : Room 3 (A.deeper (envOfC "is_deed" (defScope s_is_deed) s.heap.objs.size T.a_is_deed cdv))) :
    QSs (cxOf CX0 P w K mg base N_is_deed "is_deed" (defScope s_is_deed) T.a_is_deed cdv A outer s H E).nox f (fun _ _ _ _ => False) (scOf 1 [.own .p] .p) (startT 1 [.own .p]) (defBody s_is_deed) r_is_deed (outT 1 [.own .p]) :=
  (qss_cons (qs_if (qt_b (QW.t (qw_or (qb_not (qb_val (qp_callB call_isi l_isiO rfl T.n_isinstance (by decide +kernel) (qps_cons (qp_vp 0) (qps_cons (qp_ty (n := "tuple") rfl T.n_tuple (by decide +kernel)) qps_nil))))) (qw_or (qb_cmp (op_eqA hr.units) l_eqD (qp_vp 0) (qp_tup qps_nil) (nomark _)) (qw_or (qb_not (qb_val (qp_callB call_isi l_isiO rfl T.n_isinstance (by decide +kernel) (qps_cons (qp_ix (hu_of hr) (qp_vp 0) qp_int) (qps_cons (qp_ty (n := "str") rfl T.n_str (by decide +kernel)) qps_nil))))) (qw_or1 (qb_notInK T.k_SIZES (qp_ix (hu_of hr) (qp_vp 0) qp_int) rfl T.g_SIZES))))))) (qss_one (qs_ret (qe_p qp_bl))) qss_nil) (qss_cons (qs_if (qt_b (QW.t (qw_or (qb_cmp (op_neA hr.units) l_neD (qp_callB call_lenA l_lenO rfl T.n_len (by decide +kernel) (qps_cons (qp_vp 0) qps_nil)) (qp_ixK T.k_SIZES (qp_ix (hu_of hr) (qp_vp 0) qp_int) rfl T.g_SIZES) (nomark _)) (qw_or1 (qb_not (qb_val (qp_call (ok_is_way T) hr rfl T.m_is_way T.F_is_way.kp T.b_is_way (qps_cons (qp_ix (hu_of hr) (qp_vp 0) qp_int) qps_nil)))))))) (qss_one (qs_ret (qe_p qp_bl))) qss_nil) (qss_cons (qs_if (qt_b (qb_cmp (op_eqA hr.units) l_eqD (qp_ix (hu_of hr) (qp_vp 0) qp_int) qp_str (nomark _))) (qss_one (qs_ret (qe_p (qp_and (qp_call (ok_is_count T) (hr.mono (by decide)) rfl T.m_is_count T.F_is_count.kp T.b_is_count (qps_cons (qp_ix (hu_of hr) (qp_vp 0) qp_int) qps_nil)) (qp_one (qp_call (ok_is_leaf T) (hr.mono (by decide)) rfl T.m_is_leaf T.F_is_leaf.kp T.b_is_leaf (qps_cons (qp_ix (hu_of hr) (qp_vp 0) qp_int) qps_nil))))))) qss_nil) (qss_cons (qs_if (qt_b (qb_cmp (op_eqA hr.units) l_eqD (qp_ix (hu_of hr) (qp_vp 0) qp_int) qp_str (nomark _))) (qss_one (qs_ret (qe_p (qp_call (ok_is_count T) (hr.mono (by decide)) rfl T.m_is_count T.F_is_count.kp T.b_is_count (qps_cons (qp_ix (hu_of hr) (qp_vp 0) qp_int) qps_nil))))) qss_nil) (qss_cons (qs_if (qt_b (QW.t (qw_or (qb_cmp (op_eqA hr.units) l_eqD (qp_ix (hu_of hr) (qp_vp 0) qp_int) qp_str (nomark _)) (qw_or1 (qb_cmp (op_eqA hr.units) l_eqD (qp_ix (hu_of hr) (qp_vp 0) qp_int) qp_str (nomark _)))))) (qss_one (qs_ret (qe_p (qp_call (ok_is_way T) hr rfl T.m_is_way T.F_is_way.kp T.b_is_way (qps_cons (qp_ix (hu_of hr) (qp_vp 0) qp_int) qps_nil))))) qss_nil) (qss_one (qs_ret (qe_p qp_bl))))))))
theorem ok_is_deed (T : Top w K mg base) : FnOk P w K mg base CX0 4 T.a_is_deed T.d_is_deed ["one"] (CF K mg false [.own .p] .p F_is_deed) := okF T.F_is_deed sc_is_deed rfl (by decide) rfl fun f cdv A outer s H E hr => q_is_deed T hr
/-! ### _law_deed -/
theorem q__law_deed (T : Top w K mg base) {f : Fm} {cdv : Value} {A : Around} {outer : List Env} {s : Shared} {H : Hp} {E : XK} (hr : Room 3 (A.deeper (envOfC "_law_deed" (defScope s__law_deed) s.heap.objs.size T.a__law_deed cdv))) :
    QSs (cxOf CX0 P w K mg base N__law_deed "_law_deed" (defScope s__law_deed) T.a__law_deed cdv A outer s H E).nox f (fun _ _ _ _ => False) (scOf 11 [.io (.l .p), .bor (.mT .p)] .p) (startT 11 [.io (.l .p), .bor (.mT .p)]) (defBody s__law_deed) r__law_deed (outT 11 [.io (.l .p), .bor (.mT .p)]) :=
  (qss_cons (qs_set (i := 2) (τ := .p) sc__law_deed.nd (qe_c0 (ok__law_next T) (hr.mono (by decide)) rfl T.m__law_next T.F__law_next.kp T.b__law_next (qxs_sl 0 rfl (.inl rfl) qxs_nil))) (qss_cons (qs_set (i := 3) (τ := .p) sc__law_deed.nd (qe_p (qp_fz (qp_lst (qps_cons qp_str (qps_cons qp_str (qps_cons qp_str (qps_cons qp_str (qps_cons qp_str (qps_cons qp_str (qps_cons qp_str (qps_cons qp_str (qps_cons qp_str (qps_cons qp_str (qps_cons qp_str (qps_cons qp_str qps_nil)))))))))))))))) (qss_cons (qs_set (i := 4) (τ := .p) sc__law_deed.nd (qe_p (qp_ix (hu_of hr) (qp_vp 3) (qp_op op_mod l_modI (qp_vp 2) qp_int)))) (qss_cons (qs_fzn (i := 5) (τ := .l .p) (qs_lock 1 (fun _ _ => (qs_setLc (i := 5) (own := [("_law_one", 10)]) rfl sc__law_deed.nd rfl rfl (sw_true rfl rfl rfl (by decide +kernel)) (qi_valuesL 1) (blkOk_by (N := N__law_deed) (sc := defScope s__law_deed) (by decide +kernel)) (fun _ _ _ _ _ _ => (qc_name (i := 10) (by decide) sc__law_deed.nd)) (fun _ _ _ _ _ _ => (qts_one (qt_b (qb_cmp op_notN l_notNO (qp_vp 10) qp_non (nomark _))))) (fun _ _ _ _ _ _ => (qe_p (qp_callB call_lenA l_lenO rfl T.n_len (by decide +kernel) (qps_cons (qp_vp 10) qps_nil)))))))) (qss_cons (qs_if (QTw.t (qtw_and (qt_b (qb_cmp (op_eqA hr.units) l_eqD (qp_vp 4) qp_str (nomark _))) (qtw_and1 (qt_cmp op_gt l_gtI (qe_opz op_addA l_addO (qe_lock 1 (fun _ _ => (qe_lenK 1 rfl T.n_len))) (qe_p (qp_callB (cr_sum rfl) l_sumO rfl T.n_sum (by decide +kernel) (qps_cons (qp_vp 5) qps_nil)))) (qe_p qp_int) (nomark _))))) (qss_one (qs_set (i := 4) (τ := .p) sc__law_deed.nd (qe_p qp_str))) qss_nil) (qss_cons (qs_if (qt_b (QW.t (qw_or (qb_cmp (op_eqA hr.units) l_eqD (qp_vp 4) qp_str (nomark _)) (qw_or1 (qb_cmp (op_eqA hr.units) l_eqD (qp_vp 4) qp_str (nomark _)))))) (qss_one (qs_ret (qe_tup (qas_cons (qe_p (qp_vp 4)) (qas_cons (qe_c0 (ok__law_new_path T) (hr.mono (by decide)) rfl T.m__law_new_path T.F__law_new_path.kp T.b__law_new_path (qxs_sl 0 rfl (.inl rfl) (qxs_sl 1 rfl (.inr rfl) qxs_nil))) qas_nil))))) qss_nil) (qss_cons (qs_set (i := 6) (τ := .p) sc__law_deed.nd (qe_c0 (ok__law_old_path T) hr rfl T.m__law_old_path T.F__law_old_path.kp T.b__law_old_path (qxs_sl 0 rfl (.inl rfl) (qxs_sl 1 rfl (.inr rfl) qxs_nil)))) (qss_cons (qs_set (i := 7) (τ := .p) sc__law_deed.nd (qe_fz (qe_callB (cr_sortedD hr.units) l_sortO rfl T.n_sorted (by decide +kernel) (qas_cons (qe_fz (qe_lock 1 (fun _ _ => (qe_lc (own := [("_law_one", 10)]) rfl sc__law_deed.nd (qi_keysL 1) (blkOk_by (N := N__law_deed) (sc := defScope s__law_deed) (by decide +kernel)) (fun _ _ _ _ _ _ => (qc_name (i := 10) (by decide) sc__law_deed.nd)) (fun _ _ _ _ _ _ => (qts_one (qt_b (qb_cmp op_notN l_notNO (qp_ix (hu_of hr) (qp_v 1) (qp_vp 10)) qp_non (nomark _))))) (fun _ _ _ _ _ _ => (qe_p (qp_vp 10))))))) qas_nil)))) (qss_cons (qs_if (qt_b (QW.t (qw_and (QW.t (qw_or (qb_cmp (op_eqA hr.units) l_eqD (qp_vp 4) qp_str (nomark _)) (qw_or1 (qb_cmp (op_eqA hr.units) l_eqD (qp_vp 4) qp_str (nomark _))))) (qw_and (qb_cmp (op_neA hr.units) l_neD (qp_vp 7) (qp_fz (qp_lst qps_nil)) (nomark _)) (qw_and1 (qb_cmp (op_neA hr.units) l_neD (qp_op op_mod l_modI (qp_op op_fdivW l_divI (qp_vp 2) qp_int) qp_int) qp_int (nomark _))))))) (qss_one (qs_set (i := 6) (τ := .p) sc__law_deed.nd (qe_p (qp_ix (hu_of hr) (qp_vp 7) (qp_op op_mod l_modI (qp_op op_fdivW l_divI (qp_vp 2) qp_int) (qp_callB call_lenA l_lenO rfl T.n_len (by decide +kernel) (qps_cons (qp_vp 7) qps_nil))))))) qss_nil) (qss_cons (qs_set (i := 8) (τ := .p) sc__law_deed.nd (qe_p qp_int)) (qss_cons (qs_if (qt_b (QW.t (qw_and (qb_cmp (op_inA (hu_of hr)) l_inO (qp_vp 6) (qp_v 1) rfl) (qw_and1 (qb_cmp op_notN l_notNO (qp_ix (hu_of hr) (qp_v 1) (qp_vp 6)) qp_non (nomark _)))))) (qss_one (qs_set (i := 8) (τ := .p) sc__law_deed.nd (qe_p (qp_callB call_lenA l_lenO rfl T.n_len (by decide +kernel) (qps_cons (qp_ix (hu_of hr) (qp_v 1) (qp_vp 6)) qps_nil))))) qss_nil) (qss_cons (qs_if (qt_b (qb_cmp (op_eqA hr.units) l_eqD (qp_vp 4) qp_str (nomark _))) (qss_cons (qs_set (i := 9) (τ := .p) sc__law_deed.nd (qe_p (qp_op op_mod l_modI (qp_ix (hu_of hr) (qp_lst (qps_cons (qp_vp 8) (qps_cons (qp_op op_mod l_modI (qp_op op_fdivW l_divI (qp_vp 2) qp_int) (qp_opz op_addA l_addO (qp_vp 8) qp_int)) (qps_cons (qp_vp 8) qps_nil)))) (qp_op op_mod l_modI (qp_op op_fdivW l_divI (qp_vp 2) qp_int) qp_int)) qp_int))) (qss_one (qs_ret (qe_tup (qas_cons (qe_p (qp_vp 4)) (qas_cons (qe_p (qp_vp 6)) (qas_cons (qe_p (qp_vp 9)) (qas_cons (qe_c0 (ok__law_leaf T) (hr.mono (by decide)) rfl T.m__law_leaf T.F__law_leaf.kp T.b__law_leaf (qxs_sl 0 rfl (.inl rfl) qxs_nil)) qas_nil)))))))) qss_nil) (qss_cons (qs_if (qt_b (qb_cmp (op_eqA hr.units) l_eqD (qp_vp 4) qp_str (nomark _))) (qss_one (qs_ret (qe_p (qp_tup (qps_cons (qp_vp 4) (qps_cons (qp_vp 6) (qps_cons (qp_op op_mod l_modI (qp_op op_mod l_modI (qp_op op_fdivW l_divI (qp_vp 2) qp_int) (qp_opz op_addA l_addO (qp_vp 8) qp_int)) qp_int) qps_nil))))))) qss_nil) (qss_cons (qs_if (qt_b (qb_cmp (op_eqA hr.units) l_eqD (qp_vp 4) qp_str (nomark _))) (qss_one (qs_ret (qe_p (qp_tup (qps_cons (qp_vp 4) (qps_cons (qp_vp 6) qps_nil)))))) qss_nil) (qss_cons (qs_if (qt_b (qb_cmp (op_eqA hr.units) l_eqD (qp_op op_mod l_modI (qp_op op_fdivW l_divI (qp_vp 2) qp_int) qp_int) qp_int (nomark _))) (qss_one (qs_ret (qe_p (qp_tup (qps_cons (qp_vp 4) (qps_cons (qp_vp 6) (qps_cons (qp_slice (qp_opz op_addA l_addO (qp_vp 6) (qp_tup (qps_cons (qp_call (ok__law_name T) (hr.mono (by decide)) rfl T.m__law_name T.F__law_name.kp T.b__law_name (qps_cons (qp_op op_fdivW l_divI (qp_vp 2) qp_int) qps_nil)) qps_nil))) qo_none (qo_some qp_int)) qps_nil))))))) qss_nil) (qss_one (qs_ret (qe_tup (qas_cons (qe_p (qp_vp 4)) (qas_cons (qe_p (qp_vp 6)) (qas_cons (qe_c0 (ok__law_new_path T) (hr.mono (by decide)) rfl T.m__law_new_path T.F__law_new_path.kp T.b__law_new_path (qxs_sl 0 rfl (.inl rfl) (qxs_sl 1 rfl (.inr rfl) qxs_nil))) qas_nil)))))))))))))))))))))
theorem ok__law_deed (T : Top w K mg base) : FnOk P w K mg base CX0 4 T.a__law_deed T.d__law_deed ["_law_drawn", "_law_model"] (CF K mg false [.io (.l .p), .bor (.mT .p)] .p F__law_deed) := okF T.F__law_deed sc__law_deed rfl (by decide) rfl fun f cdv A outer s H E hr => q__law_deed T hr
/-! ### is_sent -/
theorem q_is_sent (T : Top w K mg base) {f : Fm} {cdv : Value} {A : Around} {outer : List Env} {s : Shared} {H : Hp} {E : XK} (hr : Room 4 (A.deeper (envOfC "is_sent" (defScope s_is_sent) s.heap.objs.size T.a_is_sent cdv))) :
    QSs (cxOf CX0 P w K mg base N_is_sent "is_sent" (defScope s_is_sent) T.a_is_sent cdv A outer s H E).nox f (fun _ _ _ _ => False) (scOf 2 [.own .p] .p) (startT 2 [.own .p]) (defBody s_is_sent) r_is_sent (outT 2 [.own .p]) :=
  (qss_cons (qs_if (qt_b (QW.t (qw_or (qb_not (qb_val (qp_callB call_isi l_isiO rfl T.n_isinstance (by decide +kernel) (qps_cons (qp_vp 0) (qps_cons (qp_ty (n := "tuple") rfl T.n_tuple (by decide +kernel)) qps_nil))))) (qw_or (qb_cmp (op_neA hr.units) l_neD (qp_callB call_lenA l_lenO rfl T.n_len (by decide +kernel) (qps_cons (qp_vp 0) qps_nil)) qp_int (nomark _)) (qw_or (qb_not (qb_val (qp_callB call_isi l_isiO rfl T.n_isinstance (by decide +kernel) (qps_cons (qp_ix (hu_of hr) (qp_vp 0) qp_int) (qps_cons (qp_ty (n := "str") rfl T.n_str (by decide +kernel)) qps_nil))))) (qw_or1 (qb_cmp (op_neA hr.units) l_neD (qp_ix (hu_of hr) (qp_vp 0) qp_int) qp_str (nomark _)))))))) (qss_one (qs_ret (qe_p qp_bl))) qss_nil) (qss_cons (qs_if (qt_b (QW.t (qw_or (qb_not (qb_val (qp_call (ok_is_tally T) (hr.mono (by decide)) rfl T.m_is_tally T.F_is_tally.kp T.b_is_tally (qps_cons (qp_ix (hu_of hr) (qp_vp 0) qp_int) qps_nil)))) (qw_or (qb_not (qb_val (qp_call (ok_is_tally T) (hr.mono (by decide)) rfl T.m_is_tally T.F_is_tally.kp T.b_is_tally (qps_cons (qp_ix (hu_of hr) (qp_vp 0) qp_int) qps_nil)))) (qw_or (qb_not (qb_val (qp_callB call_isi l_isiO rfl T.n_isinstance (by decide +kernel) (qps_cons (qp_ix (hu_of hr) (qp_vp 0) qp_int) (qps_cons (qp_ty (n := "tuple") rfl T.n_tuple (by decide +kernel)) qps_nil))))) (qw_or1 (qb_cmp op_gt l_gtI (qp_callB call_lenA l_lenO rfl T.n_len (by decide +kernel) (qps_cons (qp_ix (hu_of hr) (qp_vp 0) qp_int) qps_nil)) (qp_globI rfl T.g_MOST_DEEDS) (nomark _)))))))) (qss_one (qs_ret (qe_p qp_bl))) qss_nil) (qss_one (qs_ret (qe_callB (cr_all rfl) l_allO rfl T.n_all (by decide +kernel) (qas_cons (qe_fz (qe_lc (own := [("deed", 1)]) rfl sc_is_sent.nd (qi_seq (qe_p (qp_ix (hu_of hr) (qp_vp 0) qp_int))) (blkOk_by (N := N_is_sent) (sc := defScope s_is_sent) (by decide +kernel)) (fun _ _ _ _ _ _ => (qc_name (i := 1) (by decide) sc_is_sent.nd)) (fun _ _ _ _ _ _ => qts_nil) (fun _ _ _ _ _ _ => (qe_p (qp_call (ok_is_deed T) hr rfl T.m_is_deed T.F_is_deed.kp T.b_is_deed (qps_cons (qp_vp 1) qps_nil)))))) qas_nil))))))
theorem ok_is_sent (T : Top w K mg base) : FnOk P w K mg base CX0 5 T.a_is_sent T.d_is_sent ["one"] (CF K mg false [.own .p] .p F_is_sent) := okF T.F_is_sent sc_is_sent rfl (by decide) rfl fun f cdv A outer s H E hr => q_is_sent T hr
/-! ### _law_said -/
theorem q__law_said (T : Top w K mg base) {f : Fm} {cdv : Value} {A : Around} {outer : List Env} {s : Shared} {H : Hp} {E : XK} (hr : Room 5 (A.deeper (envOfC "_law_said" (defScope s__law_said) s.heap.objs.size T.a__law_said cdv))) :
    QSs (cxOf CX0 P w K mg base N__law_said "_law_said" (defScope s__law_said) T.a__law_said cdv A outer s H E).nox f (fun _ _ _ _ => False) (scOf 3 [.own .p, .own .p] .p) (startT 3 [.own .p, .own .p]) (defBody s__law_said) r__law_said (outT 3 [.own .p, .own .p]) :=
  (qss_cons (qs_set (i := 2) (τ := .p) sc__law_said.nd (qe_p (qp_call (ok_is_sent T) hr rfl T.m_is_sent T.F_is_sent.kp T.b_is_sent (qps_cons (qp_vp 0) qps_nil)))) (qss_one (qs_ret (qe_p (qp_and (qp_callB call_isi l_isiO rfl T.n_isinstance (by decide +kernel) (qps_cons (qp_vp 2) (qps_cons (qp_ty (n := "bool") rfl T.n_bool (by decide +kernel)) qps_nil))) (qp_one (qp_cmp (op_eqA hr.units) l_eqD (qp_vp 2) (qp_vp 1) (nomark _))))))))
theorem ok__law_said (T : Top w K mg base) : FnOk P w K mg base CX0 6 T.a__law_said T.d__law_said ["_law_one", "_law_due"] (CF K mg false [.own .p, .own .p] .p F__law_said) := okF T.F__law_said sc__law_said rfl (by decide) rfl fun f cdv A outer s H E hr => q__law_said T hr
/-! ### _law_within -/
theorem q__law_within (T : Top w K mg base) {f : Fm} {A : Around} {outer : List Env} {s : Shared} {H : Hp} {E : XK} (hr : Room 6 (A.deeper (envOfC "_law_within" (defScope s__law_within) s.heap.objs.size T.a__law_within (.ref T.c__law_within)))) :
    QSs (cxOf CX0 P w K mg base N__law_within "_law_within" (defScope s__law_within) T.a__law_within (.ref T.c__law_within) A outer s H E).nox f (fun _ _ _ _ => False) (scOf 4 [.bor (.mT .p), .own .p] .p) (startT 4 [.bor (.mT .p), .own .p]) (defBody s__law_within) r__law_within (outT 4 [.bor (.mT .p), .own .p]) :=
  (qss_cons (qs_fzn (i := 2) (τ := .l .p) (qs_lock 0 (fun _ _ => (qs_setLc (i := 2) (own := [("_law_one", 3)]) rfl sc__law_within.nd rfl rfl (sw_true rfl rfl rfl (by decide +kernel)) (qi_keysL 0) (blkOk_by (N := N__law_within) (sc := defScope s__law_within) (by decide +kernel)) (fun _ _ _ _ _ _ => (qc_name (i := 3) (by decide) sc__law_within.nd)) (fun _ _ _ _ _ _ => (qts_one (qt_b (QW.t (qw_and (qb_cmp (op_eqA hr.units) l_eqD (qp_callB call_lenA l_lenO rfl T.n_len (by decide +kernel) (qps_cons (qp_vp 3) qps_nil)) (qp_opz op_addA l_addO (qp_callB call_lenA l_lenO rfl T.n_len (by decide +kernel) (qps_cons (qp_vp 1) qps_nil)) qp_int) (nomark _)) (qw_and1 (qb_cmp (op_eqA hr.units) l_eqD (qp_slice (qp_vp 3) qo_none (qo_some (qp_un un_neg l_negI qp_int))) (qp_vp 1) (nomark _)))))))) (fun _ _ _ _ _ _ => (qe_p (qp_ix (hu_of hr) (qp_vp 3) (qp_un un_neg l_negI qp_int)))))))) (qss_one (qs_ret (qe_fz (qe_sortLam (k := 1) (Θz := [.no]) rfl T.n_sorted (qas_cons (qe_p (qp_vp 2)) qas_nil) T.TB__law_within rfl (by rw [T.tt__law_within]; exact List.mem_singleton.mpr rfl) (fun p hp _ => by rw [T.tt__law_within] at hp; rw [List.mem_singleton.mp hp]; rfl) (hr.mono (by omega)) ⟨rfl, rfl, rfl, by decide +kernel, rfl, by decide +kernel, by decide +kernel⟩ (by decide +kernel) rfl rfl (fun _ _ _ _ => rfl) (fun _ _ _ _ _ _ _ hr => (qe_p (qp_call (ok__law_code T) (hr.mono (by decide)) rfl T.m__law_code T.F__law_code.kp T.b__law_code (qps_cons (qp_vp 0) qps_nil)))))))))
theorem ok__law_within (T : Top w K mg base) : FnOk P w K mg base CX0 7 T.a__law_within T.d__law_within ["_law_model", "_law_path_here"] (CF K mg false [.bor (.mT .p), .own .p] .p F__law_within) := okFT T.F__law_within sc__law_within rfl (by decide) rfl fun f A outer s H E hr => q__law_within T hr
/-! ### _law_moved -/
theorem q__law_moved (T : Top w K mg base) {f : Fm} {cdv : Value} {A : Around} {outer : List Env} {s : Shared} {H : Hp} {E : XK} (hr : Room 7 (A.deeper (envOfC "_law_moved" (defScope s__law_moved) s.heap.objs.size T.a__law_moved cdv))) :
    QSs (cxOf CX0 P w K mg base N__law_moved "_law_moved" (defScope s__law_moved) T.a__law_moved cdv A outer s H E).nox f (fun _ _ _ _ => False) (scOf 8 [.io (.mT .p), .own .p] .p) (startT 8 [.io (.mT .p), .own .p]) (defBody s__law_moved) r__law_moved (outT 8 [.io (.mT .p), .own .p]) :=
  (qss_cons (qs_set (i := 2) (τ := .p) sc__law_moved.nd (qe_p (qp_ix (hu_of hr) (qp_vp 1) qp_int))) (qss_cons (qs_set (i := 3) (τ := .p) sc__law_moved.nd (qe_p (qp_ix (hu_of hr) (qp_vp 1) qp_int))) (qss_cons (qs_if (qt_b (QW.t (qw_or (qb_cmp (op_ninA (hu_of hr)) l_ninO (qp_vp 2) (qp_v 0) rfl) (qw_or1 (qb_not (qb_val (qp_call (ok__law_is_folder T) (hr.mono (by decide)) rfl T.m__law_is_folder T.F__law_is_folder.kp T.b__law_is_folder (qps_cons (qp_v 0) (qps_cons (qp_slice (qp_vp 3) qo_none (qo_some (qp_un un_neg l_negI qp_int))) qps_nil))))))))) (qss_one (qs_ret (qe_p qp_str))) qss_nil) (qss_cons (qs_if (qt_b (QW.t (qw_and (qb_cmp (op_eqA hr.units) l_eqD (qp_ix (hu_of hr) (qp_vp 1) qp_int) qp_str (nomark _)) (qw_and1 (qb_cmp (op_eqA hr.units) l_eqD (qp_slice (qp_vp 3) qo_none (qo_some (qp_callB call_lenA l_lenO rfl T.n_len (by decide +kernel) (qps_cons (qp_vp 2) qps_nil)))) (qp_vp 2) (nomark _)))))) (qss_one (qs_ret (qe_p qp_str))) qss_nil) (qss_cons (qs_if (qt_b (qb_cmp (op_inA (hu_of hr)) l_inO (qp_vp 3) (qp_v 0) rfl)) (qss_one (qs_ret (qe_p qp_str))) qss_nil) (qss_cons (qs_set (i := 4) (τ := .p) sc__law_moved.nd (qe_p (qp_callB call_lenA l_lenO rfl T.n_len (by decide +kernel) (qps_cons (qp_call (ok__law_within T) hr rfl T.m__law_within T.F__law_within.kp T.b__law_within (qps_cons (qp_v 0) (qps_cons (qp_slice (qp_vp 3) qo_none (qo_some (qp_un un_neg l_negI qp_int))) qps_nil))) qps_nil)))) (qss_cons (qs_if (qt_b (QW.t (qw_and (qb_cmp (op_eqA hr.units) l_eqD (qp_ix (hu_of hr) (qp_vp 1) qp_int) qp_str (nomark _)) (qw_and1 (qb_cmp (op_eqA hr.units) l_eqD (qp_slice (qp_vp 2) qo_none (qo_some (qp_un un_neg l_negI qp_int))) (qp_slice (qp_vp 3) qo_none (qo_some (qp_un un_neg l_negI qp_int))) (nomark _)))))) (qss_one (qs_set (i := 4) (τ := .p) sc__law_moved.nd (qe_p (qp_op op_sub l_subI (qp_vp 4) qp_int)))) qss_nil) (qss_cons (qs_if (qt_b (qb_cmp op_ge l_geI (qp_vp 4) qp_int (nomark _))) (qss_one (qs_ret (qe_p qp_str))) qss_nil) (qss_cons (qs_set (i := 5) (τ := .p) sc__law_moved.nd (qe_p (qp_call (ok__law_under T) (hr.mono (by decide)) rfl T.m__law_under T.F__law_under.kp T.b__law_under (qps_cons (qp_v 0) (qps_cons (qp_vp 2) qps_nil))))) (qss_cons (qs_if (qt_cmp op_gt l_gtI (qe_opz op_addA l_addO (qe_p (qp_op op_sub l_subI (qp_callB call_lenA l_lenO rfl T.n_len (by decide +kernel) (qps_cons (qp_vp 3) qps_nil)) (qp_callB call_lenA l_lenO rfl T.n_len (by decide +kernel) (qps_cons (qp_vp 2) qps_nil)))) (qe_callB (cr_max rfl) l_maxLO rfl T.n_max (by decide +kernel) (qas_cons (qe_fz (qe_lc (own := [("_law_one", 7)]) rfl sc__law_moved.nd (qi_seq (qe_p (qp_vp 5))) (blkOk_by (N := N__law_moved) (sc := defScope s__law_moved) (by decide +kernel)) (fun _ _ _ _ _ _ => (qc_name (i := 7) (by decide) sc__law_moved.nd)) (fun _ _ _ _ _ _ => qts_nil) (fun _ _ _ _ _ _ => (qe_p (qp_callB call_lenA l_lenO rfl T.n_len (by decide +kernel) (qps_cons (qp_vp 7) qps_nil)))))) qas_nil))) (qe_p qp_int) (nomark _)) (qss_one (qs_ret (qe_p qp_str))) qss_nil) (qss_cons (qs_set (i := 6) (τ := .p) sc__law_moved.nd (qe_p (qp_fz (qp_call (ok__law_twin T) (hr.mono (by decide)) rfl T.m__law_twin T.F__law_twin.kp T.b__law_twin (qps_cons (qp_v 0) qps_nil))))) (qss_cons (qs_for (ws := [7]) PassesOwn.never rfl (qi_seq (qe_p (qp_vp 5))) (qg_name (i := 7) sc__law_moved.nd) (qss_one (qs_if (qt_b (qb_cmp (op_eqA hr.units) l_eqD (qp_ix (hu_of hr) (qp_vp 1) qp_int) qp_str (nomark _))) (qss_one (qs_expr (qe_mut PySem.F.plainAttrs_dict PySem.F.slot_dict_pop PySem.F.type_dict_pop (mt_popT1 (hu_of hr)) l_popKM 0 rfl rfl rfl (qas_cons (qe_p (qp_vp 7)) qas_nil)))) qss_nil))) (qss_cons (qs_for (ws := [7]) PassesOwn.never rfl (qi_seq (qe_p (qp_vp 5))) (qg_name (i := 7) sc__law_moved.nd) (qss_one (qs_setIx (l_setM (t := true)) (hu_of hr) 0 (qe_p (qp_ix (hu_of hr) (qp_vp 6) (qp_vp 7))) rfl rfl (qe_p (qp_opz op_addA l_addO (qp_vp 3) (qp_slice (qp_vp 7) (qo_some (qp_callB call_lenA l_lenO rfl T.n_len (by decide +kernel) (qps_cons (qp_vp 2) qps_nil))) qo_none))) rfl))) (qss_one (qs_ret (qe_p qp_str))))))))))))))))
theorem ok__law_moved (T : Top w K mg base) : FnOk P w K mg base CX0 8 T.a__law_moved T.d__law_moved ["_law_model", "_law_deed_here"] (CF K mg false [.io (.mT .p), .own .p] .p F__law_moved) := okF T.F__law_moved sc__law_moved rfl (by decide) rfl fun f cdv A outer s H E hr => q__law_moved T hr
/-! ### _law_do -/
theorem q__law_do (T : Top w K mg base) {f : Fm} {cdv : Value} {A : Around} {outer : List Env} {s : Shared} {H : Hp} {E : XK} (hr : Room 8 (A.deeper (envOfC "_law_do" (defScope s__law_do) s.heap.objs.size T.a__law_do cdv))) :
    QSs (cxOf CX0 P w K mg base N__law_do "_law_do" (defScope s__law_do) T.a__law_do cdv A outer s H E).nox f (fun _ _ _ _ => False) (scOf 5 [.io (.mT .p), .own .p] .p) (startT 5 [.io (.mT .p), .own .p]) (defBody s__law_do) r__law_do (outT 5 [.io (.mT .p), .own .p]) :=
  (qss_cons (qs_set (i := 2) (τ := .p) sc__law_do.nd (qe_p (qp_ix (hu_of hr) (qp_vp 1) qp_int))) (qss_cons (qs_if (qt_b (QW.t (qw_or (qb_cmp (op_eqA hr.units) l_eqD (qp_ix (hu_of hr) (qp_vp 1) qp_int) qp_str (nomark _)) (qw_or1 (qb_cmp (op_eqA hr.units) l_eqD (qp_ix (hu_of hr) (qp_vp 1) qp_int) qp_str (nomark _)))))) (qss_one (qs_ret (qe_c0 (ok__law_moved T) hr rfl T.m__law_moved T.F__law_moved.kp T.b__law_moved (qxs_sl 0 rfl (.inl rfl) (qxs_v (qe_p (qp_vp 1)) qxs_nil))))) qss_nil) (qss_cons (qs_if (qt_b (QW.t (qw_or (qb_cmp (op_eqA hr.units) l_eqD (qp_ix (hu_of hr) (qp_vp 1) qp_int) qp_str (nomark _)) (qw_or1 (qb_cmp (op_eqA hr.units) l_eqD (qp_ix (hu_of hr) (qp_vp 1) qp_int) qp_str (nomark _)))))) (qss_cons (qs_if (qt_b (qb_not (qb_val (qp_call (ok__law_is_folder T) (hr.mono (by decide)) rfl T.m__law_is_folder T.F__law_is_folder.kp T.b__law_is_folder (qps_cons (qp_v 0) (qps_cons (qp_slice (qp_vp 2) qo_none (qo_some (qp_un un_neg l_negI qp_int))) qps_nil)))))) (qss_one (qs_ret (qe_p qp_str))) qss_nil) (qss_cons (qs_if (qt_b (qb_cmp (op_inA (hu_of hr)) l_inO (qp_vp 2) (qp_v 0) rfl)) (qss_one (qs_ret (qe_p qp_str))) qss_nil) (qss_cons (qs_if (qt_b (qb_cmp (op_eqA hr.units) l_eqD (qp_callB call_lenA l_lenO rfl T.n_len (by decide +kernel) (qps_cons (qp_call (ok__law_within T) (hr.mono (by decide)) rfl T.m__law_within T.F__law_within.kp T.b__law_within (qps_cons (qp_v 0) (qps_cons (qp_slice (qp_vp 2) qo_none (qo_some (qp_un un_neg l_negI qp_int))) qps_nil))) qps_nil)) qp_int (nomark _))) (qss_one (qs_ret (qe_p qp_str))) qss_nil) (qss_cons (qs_setIx (l_setM (t := true)) (hu_of hr) 0 (qe_p qp_non) rfl rfl (qe_p (qp_vp 2)) rfl) (qss_cons (qs_if (qt_b (qb_cmp (op_eqA hr.units) l_eqD (qp_ix (hu_of hr) (qp_vp 1) qp_int) qp_str (nomark _))) (qss_one (qs_setIx (l_setM (t := true)) (hu_of hr) 0 (qe_p (qp_fz (qp_lst qps_nil))) rfl rfl (qe_p (qp_vp 2)) rfl)) qss_nil) (qss_one (qs_ret (qe_p qp_str)))))))) qss_nil) (qss_cons (qs_if (qt_b (QW.t (qw_or (qb_cmp (op_ninA (hu_of hr)) l_ninO (qp_vp 2) (qp_v 0) rfl) (qw_or1 (QW.t (qw_and (qb_cmp (op_neA hr.units) l_neD (qp_ix (hu_of hr) (qp_vp 1) qp_int) qp_str (nomark _)) (qw_and1 (qb_cmp op_isN l_isNO (qp_ix (hu_of hr) (qp_v 0) (qp_vp 2)) qp_non (nomark _))))))))) (qss_one (qs_ret (qe_p qp_str))) qss_nil) (qss_cons (qs_if (qt_b (qb_cmp (op_eqA hr.units) l_eqD (qp_ix (hu_of hr) (qp_vp 1) qp_int) qp_str (nomark _))) (qss_cons (qs_for (ws := [3]) PassesOwn.never rfl (qi_seq (qe_p (qp_call (ok__law_under T) (hr.mono (by decide)) rfl T.m__law_under T.F__law_under.kp T.b__law_under (qps_cons (qp_v 0) (qps_cons (qp_vp 2) qps_nil))))) (qg_name (i := 3) sc__law_do.nd) (qss_one (qs_expr (qe_mut PySem.F.plainAttrs_dict PySem.F.slot_dict_pop PySem.F.type_dict_pop (mt_popT1 (hu_of hr)) l_popKM 0 rfl rfl rfl (qas_cons (qe_p (qp_vp 3)) qas_nil))))) (qss_one (qs_ret (qe_p qp_str)))) qss_nil) (qss_cons (qs_if (qt_b (qb_cmp (op_eqA hr.units) l_eqD (qp_ix (hu_of hr) (qp_vp 1) qp_int) qp_str (nomark _))) (qss_cons (qs_if (qt_b (qb_cmp op_gt l_gtI (qp_ix (hu_of hr) (qp_vp 1) qp_int) (qp_callB call_lenA l_lenO rfl T.n_len (by decide +kernel) (qps_cons (qp_ix (hu_of hr) (qp_v 0) (qp_vp 2)) qps_nil)) (nomark _))) (qss_one (qs_ret (qe_p qp_str))) qss_nil) (qss_cons (qs_setIx (l_setM (t := true)) (hu_of hr) 0 (qe_p (qp_slice (qp_ix (hu_of hr) (qp_v 0) (qp_vp 2)) qo_none (qo_some (qp_ix (hu_of hr) (qp_vp 1) qp_int)))) rfl rfl (qe_p (qp_vp 2)) rfl) (qss_one (qs_ret (qe_p qp_str))))) qss_nil) (qss_cons (qs_if (qt_b (QW.t (qw_or (qb_cmp op_gt l_gtI (qp_ix (hu_of hr) (qp_vp 1) qp_int) (qp_callB call_lenA l_lenO rfl T.n_len (by decide +kernel) (qps_cons (qp_ix (hu_of hr) (qp_v 0) (qp_vp 2)) qps_nil)) (nomark _)) (qw_or1 (qb_cmp (op_eqA hr.units) l_eqD (qp_ix (hu_of hr) (qp_vp 1) qp_int) qp_int (nomark _)))))) (qss_one (qs_ret (qe_p qp_str))) qss_nil) (qss_cons (qs_set (i := 4) (τ := .p) sc__law_do.nd (qe_p (qp_ix (hu_of hr) (qp_v 0) (qp_vp 2)))) (qss_cons (qs_setIx (l_setM (t := true)) (hu_of hr) 0 (qe_p (qp_opz op_addA l_addO (qp_opz op_addA l_addO (qp_slice (qp_vp 4) qo_none (qo_some (qp_ix (hu_of hr) (qp_vp 1) qp_int))) (qp_lst (qps_cons (qp_ix (hu_of hr) (qp_vp 1) qp_int) qps_nil))) (qp_slice (qp_vp 4) (qo_some (qp_opz op_addA l_addO (qp_ix (hu_of hr) (qp_vp 1) qp_int) qp_int)) qo_none))) rfl rfl (qe_p (qp_vp 2)) rfl) (qss_one (qs_ret (qe_p qp_str))))))))))))
theorem ok__law_do (T : Top w K mg base) : FnOk P w K mg base CX0 9 T.a__law_do T.d__law_do ["_law_model", "_law_deed_here"] (CF K mg false [.io (.mT .p), .own .p] .p F__law_do) := okF T.F__law_do sc__law_do rfl (by decide) rfl fun f cdv A outer s H E hr => q__law_do T hr
/-! ### _law_further -/
theorem q__law_further (T : Top w K mg base) {f : Fm} {cdv : Value} {A : Around} {outer : List Env} {s : Shared} {H : Hp} {E : XK} (hr : Room 9 (A.deeper (envOfC "_law_further" (defScope s__law_further) s.heap.objs.size T.a__law_further cdv))) :
    QSs (cxOf CX0 P w K mg base N__law_further "_law_further" (defScope s__law_further) T.a__law_further cdv A outer s H E).nox f (fun _ _ _ _ => False) (scOf 7 [.io (.l .p), .io (.mT .p), .own .p, .own .p] .p) (startT 7 [.io (.l .p), .io (.mT .p), .own .p, .own .p]) (defBody s__law_further) r__law_further (outT 7 [.io (.l .p), .io (.mT .p), .own .p, .own .p]) :=
  (qss_cons (qs_set (i := 4) (τ := (.l .p)) sc__law_further.nd (qe_p (qp_lst qps_nil))) (qss_cons (qs_for (ws := [5, 6]) PassesOwn.never rfl (qi_range1 rfl T.n_range (qas_cons (qe_op op_mod l_modI (qe_c0 (ok__law_next T) (hr.mono (by decide)) rfl T.m__law_next T.F__law_next.kp T.b__law_next (qxs_sl 0 rfl (.inl rfl) qxs_nil)) (qe_p (qp_opz op_addA l_addO (qp_vp 2) qp_int))) qas_nil)) (qg_name (i := 5) sc__law_further.nd) (qss_cons (qs_set (i := 6) (τ := .p) sc__law_further.nd (qe_c0 (ok__law_deed T) (hr.mono (by decide)) rfl T.m__law_deed T.F__law_deed.kp T.b__law_deed (qxs_sl 0 rfl (.inl rfl) (qxs_sl 1 rfl (.inl rfl) qxs_nil)))) (qss_one (qs_if (qt_b (QW.t (qw_or (qb_cmp (op_neA hr.units) l_neD (qp_ix (hu_of hr) (qp_vp 6) qp_int) qp_str (nomark _)) (qw_or1 (qb_cmp op_lt l_ltI (qp_call (ok__law_room T) (hr.mono (by decide)) rfl T.m__law_room T.F__law_room.kp T.b__law_room (qps_cons (qp_v 1) qps_nil)) (qp_vp 3) (nomark _)))))) (qss_one (qs_if (qt_cmp (op_eqA hr.units) l_eqD (qe_c0 (ok__law_do T) hr rfl T.m__law_do T.F__law_do.kp T.b__law_do (qxs_sl 1 rfl (.inl rfl) (qxs_v (qe_p (qp_vp 6)) qxs_nil))) (qe_p qp_str) (nomark _)) (qss_one (qs_expr (qe_mut PySem.F.plainAttrs_list PySem.F.slot_list_append PySem.F.type_list_append mt_append l_appendM 4 rfl rfl rfl (qas_cons (qe_p (qp_vp 6)) qas_nil)))) qss_nil)) qss_nil)))) (qss_one (qs_ret (qe_fz (qe_mv 4))))))
theorem ok__law_further (T : Top w K mg base) : FnOk P w K mg base CX0 10 T.a__law_further T.d__law_further ["_law_drawn", "_law_model", "_law_most", "_law_top"] (CF K mg false [.io (.l .p), .io (.mT .p), .own .p, .own .p] .p F__law_further) := okF T.F__law_further sc__law_further rfl (by decide) rfl fun f cdv A outer s H E hr => q__law_further T hr
/-! ### _law_two -/
theorem q__law_two (T : Top w K mg base) {f : Fm} {cdv : Value} {A : Around} {outer : List Env} {s : Shared} {H : Hp} {E : XK} (hr : Room 10 (A.deeper (envOfC "_law_two" (defScope s__law_two) s.heap.objs.size T.a__law_two cdv))) :
    QSs (cxOf CX0 P w K mg base N__law_two "_law_two" (defScope s__law_two) T.a__law_two cdv A outer s H E).nox f (fun _ _ _ _ => False) (scOf 6 [.io (.l .p), .own .p] .p) (startT 6 [.io (.l .p), .own .p]) (defBody s__law_two) r__law_two (outT 6 [.io (.l .p), .own .p]) :=
  (qss_cons (qs_set (i := 2) (τ := (.mT .p)) sc__law_two.nd (qe_p (qp_dnewT (t := .p)))) (qss_cons (qs_expr (qe_c0 (ok__law_further T) hr rfl T.m__law_further T.F__law_further.kp T.b__law_further (qxs_sl 0 rfl (.inl rfl) (qxs_sl 2 rfl (.inl rfl) (qxs_v (qe_p (qp_vp 1)) (qxs_v (qe_p qp_int) qxs_nil)))))) (qss_cons (qs_set (i := 3) (τ := .p) sc__law_two.nd (qe_c0 (ok__law_next T) (hr.mono (by decide)) rfl T.m__law_next T.F__law_next.kp T.b__law_next (qxs_sl 0 rfl (.inl rfl) qxs_nil))) (qss_cons (qs_set (i := 4) (τ := (.mT .p)) sc__law_two.nd (qe_p (qp_dnewT (t := .p)))) (qss_cons (qs_if (qt_b (qb_cmp op_gt l_gtI (qp_op op_mod l_modI (qp_vp 3) qp_int) qp_int (nomark _))) (qss_one (qs_set (i := 4) (τ := (.mT .p)) sc__law_two.nd (qe_p (qp_call (ok__law_twin T) (hr.mono (by decide)) rfl T.m__law_twin T.F__law_twin.kp T.b__law_twin (qps_cons (qp_v 2) qps_nil))))) qss_nil) (qss_cons (qs_set (i := 5) (τ := .p) sc__law_two.nd (qe_c0 (ok__law_further T) hr rfl T.m__law_further T.F__law_further.kp T.b__law_further (qxs_sl 0 rfl (.inl rfl) (qxs_sl 4 rfl (.inl rfl) (qxs_v (qe_p (qp_vp 1)) (qxs_v (qe_p qp_int) qxs_nil)))))) (qss_cons (qs_if (qt_b (qb_cmp (op_eqA hr.units) l_eqD (qp_op op_mod l_modI (qp_op op_fdivW l_divI (qp_vp 3) qp_int) qp_int) qp_int (nomark _))) (qss_one (qs_ret (qe_fz (qe_lst (qas_cons (qe_fz (qe_mv 4)) (qas_cons (qe_fz (qe_mv 2)) (qas_cons (qe_p qp_non) qas_nil))))))) qss_nil) (qss_cons (qs_if (qt_b (qb_cmp op_gt l_gtI (qp_op op_mod l_modI (qp_vp 3) qp_int) qp_int (nomark _))) (qss_one (qs_ret (qe_fz (qe_lst (qas_cons (qe_fz (qe_mv 2)) (qas_cons (qe_fz (qe_mv 4)) (qas_cons (qe_p (qp_vp 5)) qas_nil))))))) qss_nil) (qss_one (qs_ret (qe_fz (qe_lst (qas_cons (qe_fz (qe_mv 2)) (qas_cons (qe_fz (qe_mv 4)) (qas_cons (qe_p qp_non) qas_nil)))))))))))))))
theorem ok__law_two (T : Top w K mg base) : FnOk P w K mg base CX0 11 T.a__law_two T.d__law_two ["_law_drawn", "_law_most"] (CF K mg false [.io (.l .p), .own .p] .p F__law_two) := okF T.F__law_two sc__law_two rfl (by decide) rfl fun f cdv A outer s H E hr => q__law_two T hr
/-! ### _law_all_made -/
theorem q__law_all_made (T : Top w K mg base) {f : Fm} {k : Nat} {cdv : Value} {A : Around} {outer : List Env} {s : Shared} {H : Hp} {E : XK} (hr : Room (k + 7) (A.deeper (envOfC "_law_all_made" (defScope s__law_all_made) s.heap.objs.size T.a__law_all_made cdv))) {F : FR} (ok : FnOk P w K mg base CX0 (k + 7) T.a__law_all_made T.d__law_all_made ["_law_model", "_law_path_here"] (CF K mg false [.own .p, .own .p] .p F)) :
    QSs (cxOf CX0 P w K mg base N__law_all_made "_law_all_made" (defScope s__law_all_made) T.a__law_all_made cdv A outer s H E).nox f (fun _ _ _ _ => False) (scOf 6 [.own .p, .own .p] .p) (startT 6 [.own .p, .own .p]) (defBody s__law_all_made) (r__law_all_made F) (outT 6 [.own .p, .own .p]) :=
  (qss_cons (qs_if (qt_b (qb_cmp op_notN l_notNO (qp_ix (hu_of hr) (qp_vp 0) (qp_vp 1)) qp_non (nomark _))) (qss_one (qs_ret (qe_opz op_addA l_addO (qe_p (qp_fz (qp_lst (qps_cons (qp_tup (qps_cons qp_str (qps_cons (qp_vp 1) qps_nil))) qps_nil)))) (qe_fz (qe_lc (own := [("_law_at", 4), ("_law_leaf_here", 5)]) rfl sc__law_all_made.nd (qi_enum rfl T.n_enumerate (qas_cons (qe_p (qp_ix (hu_of hr) (qp_vp 0) (qp_vp 1))) qas_nil)) (blkOk_by (N := N__law_all_made) (sc := defScope s__law_all_made) (by decide +kernel)) (fun _ _ _ _ _ _ => (qc_tup rfl (qcs_cons (qc_name (i := 4) (by decide) sc__law_all_made.nd) (qcs_cons (qc_name (i := 5) (by decide) sc__law_all_made.nd) qcs_nil)))) (fun _ _ _ _ _ _ => qts_nil) (fun _ _ _ _ _ _ => (qe_p (qp_tup (qps_cons qp_str (qps_cons (qp_vp 1) (qps_cons (qp_vp 4) (qps_cons (qp_vp 5) qps_nil)))))))))))) qss_nil) (qss_cons (qs_set (i := 2) (τ := .p) sc__law_all_made.nd (qe_p (qp_fz (qp_lst (qps_cons (qp_tup (qps_cons qp_str (qps_cons (qp_vp 1) qps_nil))) qps_nil))))) (qss_cons (qs_for (ws := [3]) PassesOwn.never rfl (qi_seq (qe_p (qp_call (ok__law_within T) (hr.mono (by omega)) rfl T.m__law_within T.F__law_within.kp T.b__law_within (qps_cons (qp_vp 0) (qps_cons (qp_vp 1) qps_nil))))) (qg_name (i := 3) sc__law_all_made.nd) (qss_one (qs_set (i := 2) (τ := .p) sc__law_all_made.nd (qe_p (qp_opz op_addA l_addO (qp_vp 2) (qp_call ok hr rfl T.m__law_all_made T.F__law_all_made.kp T.b__law_all_made (qps_cons (qp_vp 0) (qps_cons (qp_opz op_addA l_addO (qp_vp 1) (qp_tup (qps_cons (qp_vp 3) qps_nil))) qps_nil)))))))) (qss_one (qs_ret (qe_p (qp_vp 2)))))))
theorem okn__law_all_made (T : Top w K mg base) : ∀ k, FnOk P w K mg base CX0 (k + 7) T.a__law_all_made T.d__law_all_made ["_law_model", "_law_path_here"] (CF K mg false [.own .p, .own .p] .p (F__law_all_made k))
  | 0 => ok_stuck
  | k + 1 => (okF T.F__law_all_made sc__law_all_made rfl (by decide) rfl fun f cdv A outer s H E hr => q__law_all_made T hr (okn__law_all_made T k) : FnOk P w K mg base CX0 (k + 7 + 1) T.a__law_all_made T.d__law_all_made ["_law_model", "_law_path_here"] (CF K mg false [.own .p, .own .p] .p (F__law_all_made (k + 1)))).mono (by omega)
theorem ok__law_all_made (T : Top w K mg base) : FnOk P w K mg base CX0 19 T.a__law_all_made T.d__law_all_made ["_law_model", "_law_path_here"] (CF K mg false [.own .p, .own .p] .p (F__law_all_made 12)) := okn__law_all_made T 12
/-! ### _law_lines -/
theorem q__law_lines (T : Top w K mg base) {f : Fm} {k : Nat} {cdv : Value} {A : Around} {outer : List Env} {s : Shared} {H : Hp} {E : XK} (hr : Room (k + 7) (A.deeper (envOfC "_law_lines" (defScope s__law_lines) s.heap.objs.size T.a__law_lines cdv))) {F : FR} (ok : FnOk P w K mg base CX0 (k + 7) T.a__law_lines T.d__law_lines ["_law_model", "_law_path_here"] (CF K mg false [.own .p, .own .p] .p F)) :
    QSs (cxOf CX0 P w K mg base N__law_lines "_law_lines" (defScope s__law_lines) T.a__law_lines cdv A outer s H E).nox f (fun _ _ _ _ => False) (scOf 8 [.own .p, .own .p] .p) (startT 8 [.own .p, .own .p]) (defBody s__law_lines) (r__law_lines F) (outT 8 [.own .p, .own .p]) :=
  (qss_cons (qs_set (i := 2) (τ := .p) sc__law_lines.nd (qe_p qp_str)) (qss_cons (qs_for (ws := [3, 4, 5]) PassesOwn.never rfl (qi_seq (qe_p (qp_call (ok__law_within T) (hr.mono (by omega)) rfl T.m__law_within T.F__law_within.kp T.b__law_within (qps_cons (qp_vp 0) (qps_cons (qp_vp 1) qps_nil))))) (qg_name (i := 3) sc__law_lines.nd) (qss_cons (qs_set (i := 4) (τ := .p) sc__law_lines.nd (qe_p (qp_opz op_addA l_addO (qp_vp 1) (qp_tup (qps_cons (qp_vp 3) qps_nil))))) (qss_one (qs_if (qt_b (qb_cmp op_isN l_isNO (qp_ix (hu_of hr) (qp_vp 0) (qp_vp 4)) qp_non (nomark _))) (qss_one (qs_set (i := 2) (τ := .p) sc__law_lines.nd (qe_opz op_addA l_addO (qe_opz op_addA l_addO (qe_opz op_addA l_addO (qe_p (qp_opz op_addA l_addO (qp_vp 2) qp_str)) (qe_bm PySem.F.plainAttrs_str PySem.F.slot_str_join PySem.F.type_str_join mt_join l_joinM (qe_p qp_str) (qas_cons (qe_p (qp_vp 4)) qas_nil))) (qe_p qp_str)) (qe_p (qp_call ok hr rfl T.m__law_lines T.F__law_lines.kp T.b__law_lines (qps_cons (qp_vp 0) (qps_cons (qp_vp 4) qps_nil))))))) (QSs.le (Θ2 := [.own .p, .own .p, .own .p, .own .p, .own .p, .no, .no, .no]) (qss_cons (qs_fzn (i := 5) (τ := .l .p) (qs_setLc (i := 5) (own := [("_law_leaf_here", 6)]) rfl sc__law_lines.nd rfl rfl (sw_true rfl rfl rfl (by decide +kernel)) (qi_seq (qe_p (qp_ix (hu_of hr) (qp_vp 0) (qp_vp 4)))) (blkOk_by (N := N__law_lines) (sc := defScope s__law_lines) (by decide +kernel)) (fun _ _ _ _ _ _ => (qc_name (i := 6) (by decide) sc__law_lines.nd)) (fun _ _ _ _ _ _ => qts_nil) (fun _ _ _ _ _ _ => (qe_bm PySem.F.plainAttrs_str PySem.F.slot_str_join PySem.F.type_str_join mt_join l_joinM (qe_p qp_str) (qas_cons (qe_opz op_addA l_addO (qe_p (qp_fz (qp_lst (qps_cons qp_str qps_nil)))) (qe_fz (qe_lc (own := [("_law_number", 7)]) rfl sc__law_lines.nd (qi_seq (qe_p (qp_vp 6))) (blkOk_by (by rfl)) (fun _ _ _ _ _ _ => (qc_name (i := 7) (by decide) sc__law_lines.nd)) (fun _ _ _ _ _ _ => qts_nil) (fun _ _ _ _ _ _ => (qe_js (qj_cons (qe_p qp_str) (qj_cons (qe_fmt (qe_p (qp_vp 7))) qj_nil))))))) qas_nil))))) (qss_one (qs_set (i := 2) (τ := .p) sc__law_lines.nd (qe_opz op_addA l_addO (qe_opz op_addA l_addO (qe_opz op_addA l_addO (qe_p (qp_opz op_addA l_addO (qp_vp 2) qp_str)) (qe_bm PySem.F.plainAttrs_str PySem.F.slot_str_join PySem.F.type_str_join mt_join l_joinM (qe_p qp_str) (qas_cons (qe_p (qp_vp 4)) qas_nil))) (qe_bm PySem.F.plainAttrs_str PySem.F.slot_str_join PySem.F.type_str_join mt_join l_joinM (qe_p qp_str) (qas_cons (qe_p (qp_vp 5)) qas_nil))) (qe_p qp_str)))))))))) (qss_one (qs_ret (qe_p (qp_vp 2))))))
theorem okn__law_lines (T : Top w K mg base) : ∀ k, FnOk P w K mg base CX0 (k + 7) T.a__law_lines T.d__law_lines ["_law_model", "_law_path_here"] (CF K mg false [.own .p, .own .p] .p (F__law_lines k))
  | 0 => ok_stuck
  | k + 1 => (okF T.F__law_lines sc__law_lines rfl (by decide) rfl fun f cdv A outer s H E hr => q__law_lines T hr (okn__law_lines T k) : FnOk P w K mg base CX0 (k + 7 + 1) T.a__law_lines T.d__law_lines ["_law_model", "_law_path_here"] (CF K mg false [.own .p, .own .p] .p (F__law_lines (k + 1)))).mono (by omega)
theorem ok__law_lines (T : Top w K mg base) : FnOk P w K mg base CX0 19 T.a__law_lines T.d__law_lines ["_law_model", "_law_path_here"] (CF K mg false [.own .p, .own .p] .p (F__law_lines 12)) := okn__law_lines T 12
/-! ### _law_tally -/
theorem q__law_tally (T : Top w K mg base) {f : Fm} {cdv : Value} {A : Around} {outer : List Env} {s : Shared} {H : Hp} {E : XK} (hr : Room 19 (A.deeper (envOfC "_law_tally" (defScope s__law_tally) s.heap.objs.size T.a__law_tally cdv))) :
    QSs (cxOf CX0 P w K mg base N__law_tally "_law_tally" (defScope s__law_tally) T.a__law_tally cdv A outer s H E).nox f (fun _ _ _ _ => False) (scOf 3 [.own .p] .p) (startT 3 [.own .p]) (defBody s__law_tally) r__law_tally (outT 3 [.own .p]) :=
  (qss_cons (qs_set (i := 1) (τ := .p) sc__law_tally.nd (qe_p qp_int)) (qss_cons (qs_for (ws := [2]) PassesOwn.never rfl (qi_seq (qe_p (qp_call (ok__law_lines T) hr rfl T.m__law_lines T.F__law_lines.kp T.b__law_lines (qps_cons (qp_vp 0) (qps_cons (qp_tup qps_nil) qps_nil))))) (qg_name (i := 2) sc__law_tally.nd) (qss_one (qs_set (i := 1) (τ := .p) sc__law_tally.nd (qe_p (qp_op op_mod l_modI (qp_opz op_addA l_addO (qp_opz op_addA l_addO (qp_op op_mulW l_mulI (qp_vp 1) qp_int) (qp_callB call_ord l_ordO rfl T.n_ord (by decide +kernel) (qps_cons (qp_vp 2) qps_nil))) qp_int) qp_int))))) (qss_one (qs_ret (qe_p (qp_vp 1))))))
theorem ok__law_tally (T : Top w K mg base) : FnOk P w K mg base CX0 20 T.a__law_tally T.d__law_tally ["_law_model"] (CF K mg false [.own .p] .p F__law_tally) := okF T.F__law_tally sc__law_tally rfl (by decide) rfl fun f cdv A outer s H E hr => q__law_tally T hr
/-! ### _law_between -/
theorem q__law_between (T : Top w K mg base) {f : Fm} {k : Nat} {cdv : Value} {A : Around} {outer : List Env} {s : Shared} {H : Hp} {E : XK} (hr : Room (k + 19) (A.deeper (envOfC "_law_between" (defScope s__law_between) s.heap.objs.size T.a__law_between cdv))) {F : FR} (ok : FnOk P w K mg base CX0 (k + 19) T.a__law_between T.d__law_between ["_law_first", "_law_second", "_law_path_here"] (CF K mg false [.own .p, .own .p, .own .p] .p F)) :
    QSs (cxOf CX0 P w K mg base N__law_between "_law_between" (defScope s__law_between) T.a__law_between cdv A outer s H E).nox f (fun _ _ _ _ => False) (scOf 6 [.own .p, .own .p, .own .p] .p) (startT 6 [.own .p, .own .p, .own .p]) (defBody s__law_between) (r__law_between F) (outT 6 [.own .p, .own .p, .own .p]) :=
  (qss_cons (qs_set (i := 3) (τ := (.l .p)) sc__law_between.nd (qe_p (qp_lst qps_nil))) (qss_cons (qs_for (ws := [4]) PassesOwn.never rfl (qi_seq (qe_p (qp_call (ok__law_within T) (hr.mono (by omega)) rfl T.m__law_within T.F__law_within.kp T.b__law_within (qps_cons (qp_vp 0) (qps_cons (qp_vp 2) qps_nil))))) (qg_name (i := 4) sc__law_between.nd) (qss_one (qs_if (qt_b (qb_not (qb_val (qp_call (ok__law_like T) (hr.mono (by omega)) rfl T.m__law_like T.F__law_like.kp T.b__law_like (qps_cons (qp_vp 0) (qps_cons (qp_vp 1) (qps_cons (qp_opz op_addA l_addO (qp_vp 2) (qp_tup (qps_cons (qp_vp 4) qps_nil))) qps_nil))))))) (qss_one (qs_expr (qe_mut PySem.F.plainAttrs_list PySem.F.slot_list_append PySem.F.type_list_append mt_append l_appendM 3 rfl rfl rfl (qas_cons (qe_p (qp_tup (qps_cons qp_str (qps_cons (qp_opz op_addA l_addO (qp_vp 2) (qp_tup (qps_cons (qp_vp 4) qps_nil))) qps_nil)))) qas_nil)))) qss_nil))) (qss_cons (qs_for (ws := [4, 5]) PassesOwn.never rfl (qi_seq (qe_p (qp_call (ok__law_within T) (hr.mono (by omega)) rfl T.m__law_within T.F__law_within.kp T.b__law_within (qps_cons (qp_vp 1) (qps_cons (qp_vp 2) qps_nil))))) (qg_name (i := 4) sc__law_between.nd) (qss_cons (qs_set (i := 5) (τ := .p) sc__law_between.nd (qe_p (qp_opz op_addA l_addO (qp_vp 2) (qp_tup (qps_cons (qp_vp 4) qps_nil))))) (qss_one (qs_if (qt_b (qb_not (qb_val (qp_call (ok__law_like T) (hr.mono (by omega)) rfl T.m__law_like T.F__law_like.kp T.b__law_like (qps_cons (qp_vp 0) (qps_cons (qp_vp 1) (qps_cons (qp_vp 5) qps_nil))))))) (qss_one (qs_set (i := 3) (τ := (.l .p)) sc__law_between.nd (qe_p (qp_op op_catL l_addL (qp_v 3) (qp_call (ok__law_all_made T) (hr.mono (by omega)) rfl T.m__law_all_made T.F__law_all_made.kp T.b__law_all_made (qps_cons (qp_vp 1) (qps_cons (qp_vp 5) qps_nil))))))) (qss_one (qs_if (qt_b (qb_cmp op_isN l_isNO (qp_ix (hu_of hr) (qp_vp 1) (qp_vp 5)) qp_non (nomark _))) (qss_one (qs_set (i := 3) (τ := (.l .p)) sc__law_between.nd (qe_p (qp_op op_catL l_addL (qp_v 3) (qp_call ok hr rfl T.m__law_between T.F__law_between.kp T.b__law_between (qps_cons (qp_vp 0) (qps_cons (qp_vp 1) (qps_cons (qp_vp 5) qps_nil)))))))) (qss_one (qs_set (i := 3) (τ := (.l .p)) sc__law_between.nd (qe_p (qp_op op_catL l_addL (qp_v 3) (qp_call (ok__law_on_leaves T) (hr.mono (by omega)) rfl T.m__law_on_leaves T.F__law_on_leaves.kp T.b__law_on_leaves (qps_cons (qp_ix (hu_of hr) (qp_vp 0) (qp_vp 5)) (qps_cons (qp_ix (hu_of hr) (qp_vp 1) (qp_vp 5)) (qps_cons (qp_vp 5) qps_nil)))))))))))))) (qss_one (qs_ret (qe_fz (qe_mv 3)))))))
theorem okn__law_between (T : Top w K mg base) : ∀ k, FnOk P w K mg base CX0 (k + 19) T.a__law_between T.d__law_between ["_law_first", "_law_second", "_law_path_here"] (CF K mg false [.own .p, .own .p, .own .p] .p (F__law_between k))
  | 0 => ok_stuck
  | k + 1 => (okF T.F__law_between sc__law_between rfl (by decide) rfl fun f cdv A outer s H E hr => q__law_between T hr (okn__law_between T k) : FnOk P w K mg base CX0 (k + 19 + 1) T.a__law_between T.d__law_between ["_law_first", "_law_second", "_law_path_here"] (CF K mg false [.own .p, .own .p, .own .p] .p (F__law_between (k + 1)))).mono (by omega)
theorem ok__law_between (T : Top w K mg base) : FnOk P w K mg base CX0 31 T.a__law_between T.d__law_between ["_law_first", "_law_second", "_law_path_here"] (CF K mg false [.own .p, .own .p, .own .p] .p (F__law_between 12)) := okn__law_between T 12
/-! ### law -/
theorem q_law (T : Top w K mg base) {f : Fm} {cdv : Value} {A : Around} {outer : List Env} {s : Shared} {H : Hp} {E : XK} (hr : Room 31 (A.deeper (envOfC "law" (defScope s_law) s.heap.objs.size T.a_law cdv))) :
    QSs (cxOf CX0 P w K mg base N_law "law" (defScope s_law) T.a_law cdv A outer s H E).nox f (fun _ _ _ _ => False) (scOf 13 [.own .p] .p) (startT 13 [.own .p]) (defBody s_law) r_law (outT 13 [.own .p]) :=
  (qss_cons (qs_set (i := 1) (τ := (.l .p)) sc_law.nd (qe_p (qp_call (ok__law_draws T) (hr.mono (by decide)) rfl T.m__law_draws T.F__law_draws.kp T.b__law_draws (qps_cons (qp_vp 0) qps_nil)))) (qss_cons (qs_asg (qe_c0 (ok__law_two T) (hr.mono (by decide)) rfl T.m__law_two T.F__law_two.kp T.b__law_two (qxs_sl 1 rfl (.inl rfl) (qxs_v (qe_p qp_int) qxs_nil))) (qg_tupL rfl (qgs_cons (qg_name (i := 2) sc_law.nd) (qgs_cons (qg_name (i := 3) sc_law.nd) (qgs_cons (qg_name (i := 4) sc_law.nd) qgs_nil))))) (qss_cons (qs_set (i := 5) (τ := .p) sc_law.nd (qe_c0 (ok__law_next T) (hr.mono (by decide)) rfl T.m__law_next T.F__law_next.kp T.b__law_next (qxs_sl 1 rfl (.inl rfl) qxs_nil))) (qss_cons (qs_set (i := 6) (τ := .p) sc_law.nd (qe_p (qp_tup (qps_cons qp_str (qps_cons (qp_call (ok__law_tally T) (hr.mono (by decide)) rfl T.m__law_tally T.F__law_tally.kp T.b__law_tally (qps_cons (qp_vp 2) qps_nil)) (qps_cons (qp_callTy call_tuple_of l_tupC rfl T.n_tuple (by decide +kernel) (qps_cons (qp_call (ok__law_between T) hr rfl T.m__law_between T.F__law_between.kp T.b__law_between (qps_cons (qp_vp 2) (qps_cons (qp_vp 3) (qps_cons (qp_tup qps_nil) qps_nil)))) qps_nil)) (qps_cons (qp_call (ok__law_tally T) (hr.mono (by decide)) rfl T.m__law_tally T.F__law_tally.kp T.b__law_tally (qps_cons (qp_vp 3) qps_nil)) qps_nil))))))) (qss_cons (qs_set (i := 7) (τ := .p) sc_law.nd (qe_tup (qas_cons (qe_p qp_str) (qas_cons (qe_p (qp_op op_mod l_modI (qp_op op_mulW l_mulI (qp_vp 5) qp_int) qp_int)) (qas_cons (qe_callTy call_tuple_of l_tupC rfl T.n_tuple (by decide +kernel) (qas_cons (qe_fz (qe_lc (own := [("_law_k", 10)]) rfl sc_law.nd (qi_range1 rfl T.n_range (qas_cons (qe_p qp_int) qas_nil)) (blkOk_by (N := N_law) (sc := defScope s_law) (by decide +kernel)) (fun _ _ _ _ _ _ => (qc_name (i := 10) (by decide) sc_law.nd)) (fun _ _ _ _ _ _ => qts_nil) (fun _ _ _ _ _ _ => (qe_c0 (ok__law_deed T) (hr.mono (by decide)) rfl T.m__law_deed T.F__law_deed.kp T.b__law_deed (qxs_sl 1 rfl (.inl rfl) (qxs_v (qe_p (qp_vp 2)) qxs_nil)))))) qas_nil)) (qas_cons (qe_p qp_int) qas_nil)))))) (qss_cons (qs_set (i := 8) (τ := .p) sc_law.nd (qe_p (qp_tup (qps_cons qp_str (qps_cons qp_int (qps_cons (qp_op op_repTA l_repO (qp_tup (qps_cons (qp_tup (qps_cons qp_str (qps_cons (qp_tup (qps_cons qp_str qps_nil)) qps_nil))) qps_nil)) (qp_ix (hu_of hr) (qp_lst (qps_cons qp_int (qps_cons qp_int (qps_cons qp_int qps_nil)))) (qp_op op_mod l_modI (qp_vp 5) qp_int))) (qps_cons qp_int qps_nil))))))) (qss_cons (qs_for (ws := [9]) PassesOwn.never rfl (qi_seq (qe_p (qp_fz (qp_lst (qps_cons (qp_vp 6) (qps_cons (qp_vp 7) (qps_cons (qp_vp 8) qps_nil))))))) (qg_name (i := 9) sc_law.nd) (qss_one (qs_if (qt_b (qb_not (qb_val (qp_call (ok__law_said T) (hr.mono (by decide)) rfl T.m__law_said T.F__law_said.kp T.b__law_said (qps_cons (qp_vp 9) (qps_cons qp_bl qps_nil)))))) (qss_one (qs_ret (qe_p qp_bl))) qss_nil))) (qss_cons (qs_for (ws := [10, 11]) PassesOwn.never rfl (qi_range1 rfl T.n_range (qas_cons (qe_p qp_int) qas_nil)) (qg_name (i := 10) sc_law.nd) (qss_cons (qs_set (i := 11) (τ := .p) sc_law.nd (qe_c0 (ok__law_bent T) (hr.mono (by decide)) rfl T.m__law_bent T.F__law_bent.kp T.b__law_bent (qxs_v (qe_p (qp_ix (hu_of hr) (qp_lst (qps_cons (qp_vp 6) (qps_cons (qp_vp 7) qps_nil))) (qp_op op_mod l_modI (qp_vp 10) qp_int))) (qxs_v (qe_opz op_addA l_addO (qe_c0 (ok__law_next T) (hr.mono (by decide)) rfl T.m__law_next T.F__law_next.kp T.b__law_next (qxs_sl 1 rfl (.inl rfl) qxs_nil)) (qe_p (qp_vp 10))) qxs_nil)))) (qss_one (qs_if (qt_b (QW.t (qw_or (qb_not (qb_val (qp_call (ok__law_said T) (hr.mono (by decide)) rfl T.m__law_said T.F__law_said.kp T.b__law_said (qps_cons (qp_vp 11) (qps_cons qp_bl qps_nil))))) (qw_or1 (qb_not (qb_val (qp_call (ok__law_said T) (hr.mono (by decide)) rfl T.m__law_said T.F__law_said.kp T.b__law_said (qps_cons (qp_call (ok__law_other_thing T) (hr.mono (by decide)) rfl T.m__law_other_thing T.F__law_other_thing.kp T.b__law_other_thing (qps_cons (qp_opz op_addA l_addO (qp_vp 5) (qp_vp 10)) qps_nil)) (qps_cons qp_bl qps_nil))))))))) (qss_one (qs_ret (qe_p qp_bl))) qss_nil)))) (qss_cons (qs_set (i := 12) (τ := .p) sc_law.nd (qe_p (qp_fz (qp_lst (qps_cons qp_str (qps_cons qp_int (qps_cons (qp_fz (qp_lst (qps_cons (qp_tup (qps_cons qp_str (qps_cons (qp_tup (qps_cons qp_str qps_nil)) qps_nil))) qps_nil))) (qps_cons qp_int qps_nil)))))))) (qss_one (qs_ret (qe_p (qp_and (qp_call (ok__law_said T) (hr.mono (by decide)) rfl T.m__law_said T.F__law_said.kp T.b__law_said (qps_cons (qp_vp 12) (qps_cons qp_bl qps_nil))) (qp_one (qp_cmp (op_eqA hr.units) l_eqD (qp_vp 12) (qp_fz (qp_lst (qps_cons qp_str (qps_cons qp_int (qps_cons (qp_fz (qp_lst (qps_cons (qp_tup (qps_cons qp_str (qps_cons (qp_tup (qps_cons qp_str qps_nil)) qps_nil))) qps_nil))) (qps_cons qp_int qps_nil)))))) (nomark _))))))))))))))))
theorem ok_law (T : Top w K mg base) : FnOk P w K mg base CX0 32 T.a_law T.d_law ["_law_script"] (CF K mg false [.own .p] .p F_law) := okF T.F_law sc_law rfl (by decide) rfl fun f cdv A outer s H E hr => q_law T hr
end
end K79

/-! PA: readings computed: each combinator at a state. -/
namespace FL
open PySem
section
variable {α β η : Type} {a : α} {s : St η}
@[simp] theorem ob_ok {k : α → Out β} : (Out.ok a).bind k = k a := rfl
@[simp] theorem ob_exc {c : Str} {k : α → Out β} : (Out.exc c : Out α).bind k = .exc c := rfl
@[simp] theorem ob_stuck {k : α → Out β} : (Out.stuck : Out α).bind k = .stuck := rfl
@[simp] theorem eb_ok {k : α → St η → Eff η β} : (Eff.ok a s : Eff η α).bind k = k a s := rfl
@[simp] theorem eb_exc {c : Str} {k : α → St η → Eff η β} : (Eff.exc c s : Eff η α).bind k = .exc c s := rfl
@[simp] theorem eb_stuck {k : α → St η → Eff η β} : (Eff.stuck : Eff η α).bind k = .stuck := rfl
@[simp] theorem oe_ok : (Out.ok a).eff s = .ok a s := rfl
@[simp] theorem oe_exc {c : Str} : (Out.exc c : Out α).eff s = .exc c s := rfl
@[simp] theorem oe_stuck : (Out.stuck : Out α).eff s = .stuck := rfl
@[simp] theorem of_so : Out.of (some a) = .ok a := rfl
@[simp] theorem of_no : Out.of (none : Option α) = .stuck := rfl
@[simp] theorem nox_o : (Eff.ok a s : Eff η α).nox = .ok a s := rfl
@[simp] theorem asB_b {b : Bool} : asB (.bl b) = .ok b := rfl
@[simp] theorem asI_in {i : Int} : asI (.int i) = .ok (some i) := rfl
@[simp] theorem ii0_i {g : Int → Int → D} {i j : Int} : ii0 g (.int i) (.int j) = some (g i j) := rfl
@[simp] theorem iiO_i {c : Int → Int → Bool} {g : Int → Int → D} {i j : Int} : iiO c g (.int i) (.int j) = if c i j = true then some (g i j) else none := rfl
@[simp] theorem negI_in {i : Int} : negI (.int i) = some (.int (-i)) := rfl
@[simp] theorem rs_ok {d : D} {o : List D} : (Rs.ok d o).out0 = .ok d := rfl
@[simp] theorem rs_okO {d : D} {o : List D} : (Rs.ok d o).out = .ok d := rfl
@[simp] theorem rs_exc {c : Str} {o : List D} : (Rs.exc c o).out = .exc c := rfl
@[simp] theorem isN_n {x : D} : isNO x .non = some (.bl (isNon x)) := rfl
@[simp] theorem notN_n {x : D} : notNO x .non = some (.bl (!isNon x)) := rfl
end
section
variable {η : Type} {s : St η} {l : List (Option D)} {h : η} {i : Nat}
@[simp] theorem a_fVar : (fVar i : PR η) ⟨l, h⟩ = match l[i]? with
  | some (some d) => .ok d
  | _ => .stuck := rfl
@[simp] theorem a_fC {d : D} : (fC d : PR η) s = .ok d := rfl
@[simp] theorem a_fOp {g : D → D → Option D} {ta tb : PR η} : fOp g ta tb s = (ta s).bind fun x => (tb s).bind fun y => .of (g x y) := rfl
@[simp] theorem a_fUn {g : D → Option D} {ta : PR η} : fUn g ta s = (ta s).bind fun x => .of (g x) := rfl
@[simp] theorem a_fTest {t : PR η} : fTest t s = (t s).bind asB := rfl
@[simp] theorem a_fAnd {t u : PB η} : fAnd t u s = (t s).bind fun c => if c = true then u s else .ok false := rfl
@[simp] theorem a_fOr {t u : PB η} : fOr t u s = (t s).bind fun c => if c = true then .ok true else u s := rfl
@[simp] theorem a_fNot {t : PB η} : fNot t s = (t s).bind fun c => .ok (!c) := rfl
@[simp] theorem a_fAndV {ta tb : PR η} : fAndV ta tb s = (ta s).bind fun x => (asB x).bind fun c => if c = true then tb s else .ok (.bl false) := rfl
@[simp] theorem a_fOrV {ta tb : PR η} : fOrV ta tb s = (ta s).bind fun x => (asB x).bind fun c => if c = true then .ok (.bl true) else tb s := rfl
@[simp] theorem a_fNotV {ta : PR η} : fNotV ta s = (ta s).bind fun x => (asB x).bind fun c => .ok (.bl (!c)) := rfl
@[simp] theorem a_fIf {t : PB η} {ta tb : PR η} : fIf t ta tb s = (t s).bind fun c => if c = true then ta s else tb s := rfl
@[simp] theorem a_fNil : (fNil : PRs η) s = .ok [] := rfl
@[simp] theorem a_fCons {t : PR η} {ts : PRs η} : fCons t ts s = (t s).bind fun x => (ts s).bind fun xs => .ok (x :: xs) := rfl
@[simp] theorem a_fTup {t : PRs η} : fTup t s = (t s).bind tupO := rfl
@[simp] theorem a_fLst {t : PRs η} : fLst t s = (t s).bind lstO := rfl
@[simp] theorem a_liftP {α : Type} {t : St η → Out α} : liftP t s = (t s).eff s := rfl
@[simp] theorem a_eOp {g : D → D → Option D} {ta tb : ER η} : eOp g ta tb s = (ta s).bind fun x s1 => (tb s1).bind fun y s2 => (Out.of (g x y)).eff s2 := rfl
@[simp] theorem a_eTest {t : ER η} : eTest t s = (t s).bind fun d s1 => (asB d).eff s1 := rfl
@[simp] theorem a_eNot {t : St η → Eff η Bool} : eNot t s = (t s).bind fun c s1 => .ok (!c) s1 := rfl
@[simp] theorem a_eAnd {t u : St η → Eff η Bool} : eAnd t u s = (t s).bind fun c s1 => if c = true then u s1 else .ok false s1 := rfl
@[simp] theorem a_eOr {t u : St η → Eff η Bool} : eOr t u s = (t s).bind fun c s1 => if c = true then .ok true s1 else u s1 := rfl
@[simp] theorem a_eNil : (eNil : St η → Eff η (List D)) s = .ok [] s := rfl
@[simp] theorem a_eCons {t : ER η} {ts : St η → Eff η (List D)} : eCons t ts s = (t s).bind fun x s1 => (ts s1).bind fun xs s2 => .ok (x :: xs) s2 := rfl
@[simp] theorem a_eTup {t : St η → Eff η (List D)} : eTup t s = (t s).bind fun ds s1 => (tupO ds).eff s1 := rfl
@[simp] theorem a_eLst {t : St η → Eff η (List D)} : eLst t s = (t s).bind fun ds s1 => (lstO ds).eff s1 := rfl
@[simp] theorem a_fCall0 {F : FR} {ts : PRs η} : fCall0 F ts s = (ts s).bind fun ds => (F ds).out0 := rfl
@[simp] theorem a_fNext : (fNext : SR η) s = .ok .nx s := rfl
@[simp] theorem a_fSeq {t u : SR η} : fSeq t u s = (t s).bind fun fl s1 => match fl with
  | .nx => u s1
  | fl => .ok fl s1 := rfl
@[simp] theorem a_fBreak : (fBreak : SR η) s = .ok .bk s := rfl
@[simp] theorem a_fCont : (fCont : SR η) s = .ok .ct s := rfl
@[simp] theorem a_fExpr {t : ER η} : fExpr t s = (t s).bind fun _ s1 => .ok .nx s1 := rfl
@[simp] theorem a_fRet {t : ER η} : fRet t s = (t s).bind fun d s1 => .ok (.rt d) s1 := rfl
@[simp] theorem a_fRetN : (fRetN : SR η) s = .ok (.rt .non) s := rfl
@[simp] theorem a_fIfS {c : St η → Eff η Bool} {t u : SR η} : fIfS c t u s = (c s).bind fun b s1 => if b = true then t s1 else u s1 := rfl
@[simp] theorem a_gName {d : D} : (gName i : GR η) d ⟨l, h⟩ = some ⟨l.set i (some d), h⟩ := rfl
@[simp] theorem a_gNil : (gNil : List D → St η → Option (St η)) [] s = some s := rfl
@[simp] theorem a_gCons {g : GR η} {gs : List D → St η → Option (St η)} {d : D} {ds : List D} : gCons g gs (d :: ds) s = (g d s).bind (gs ds) := rfl
@[simp] theorem a_gTup {n : Nat} {gs : List D → St η → Option (St η)} {ds : List D} : gTup n gs (.tup ds) s = if ds.length = n then gs ds s else none := rfl
@[simp] theorem a_gTupL {n : Nat} {gs : List D → St η → Option (St η)} {ds : List D} : gTupL n gs (.fl ds) s = if ds.length = n then gs ds s else none := rfl
@[simp] theorem a_fAsgG {t : ER η} {g : GR η} : fAsgG t g s = (t s).bind fun d s1 => match g d s1 with
  | some s2 => .ok .nx s2
  | none => .stuck := rfl
@[simp] theorem a_fSet {t : ER η} : fSet i t s = (t s).bind fun d s1 => .ok .nx ⟨s1.s.set i (some d), s1.h⟩ := rfl
@[simp] theorem a_fWhile {n : Nat} {c : St η → Eff η Bool} {tb : SR η} {ws : List Nat} : fWhile n c tb ws s = whileF c tb ws n s := rfl
@[simp] theorem a_fFor {ti : St η → Eff η (List D)} {g : GR η} {tb : SR η} {ws : List Nat} : fFor ti g tb ws s = (ti s).bind fun items s1 => forF g tb ws items s1 := rfl
@[simp] theorem a_fNoPart : (fNoPart : PO2 η) s = .ok none := rfl
@[simp] theorem a_fPart {t : PR η} : fPart t s = (t s).bind asI := rfl
@[simp] theorem a_fSl {t : PR η} {tl th : PO2 η} : fSl t tl th s = (t s).bind fun x => (tl s).bind fun lo => (th s).bind fun hi => .of (slO x lo hi) := rfl
@[simp] theorem a_fCB {g : List D → Option D} {ts : PRs η} : fCB g ts s = (ts s).bind fun ds => .of (g ds) := rfl
@[simp] theorem a_eCB {g : List D → Option D} {ts : St η → Eff η (List D)} : eCB g ts s = (ts s).bind fun ds s1 => (Out.of (g ds)).eff s1 := rfl
@[simp] theorem a_eMut {m : D → List D → Option (D × D)} {ts : St η → Eff η (List D)} : eMut i m ts s = (ts s).bind fun ds s1 => mutS i m ds s1 := rfl
@[simp] theorem a_eMut0 {m : D → List D → Option (D × D)} : (eMut0 i m : ER η) s = mutS i m [] s := rfl
@[simp] theorem a_mutS {m : D → List D → Option (D × D)} {ds : List D} : mutS i m ds (⟨l, h⟩ : St η) = match l[i]? with
  | some (some d) => match m d ds with
    | some (r, d') => .ok r ⟨l.set i (some d'), h⟩
    | none => .stuck
  | _ => .stuck := rfl
@[simp] theorem a_setS {g : D → D → D → Option D} {k v : D} : setS i g k v (⟨l, h⟩ : St η) = match l[i]? with
  | some (some d) => match g d k v with
    | some d' => .ok .nx ⟨l.set i (some d'), h⟩
    | none => .stuck
  | _ => .stuck := rfl
@[simp] theorem a_fSetIx {g : D → D → D → Option D} {te ti : ER η} : fSetIx i g te ti s = (te s).bind fun v s1 => (ti s1).bind fun k s2 => setS i g k v s2 := rfl
@[simp] theorem a_callX0 {F : FR} {ax : List Ax} {ios : List Nat} {ts : St η → Eff η (List D)} : callX0 F ax ios ts s = (ts s).bind fun ps s1 => match fillA ax ps s1.s with
  | some ds => match F ds with
    | .ok d outs => .ok d ⟨wb ios outs s1.s, s1.h⟩
    | _ => .stuck
  | none => .stuck := rfl
@[simp] theorem a_fillA_nil {l : List (Option D)} : fillA [] [] l = some [] := rfl
@[simp] theorem a_fillA_v {ax : List Ax} {d : D} {ds : List D} {l : List (Option D)} : fillA (.v :: ax) (d :: ds) l = (fillA ax ds l).map (d :: ·) := rfl
@[simp] theorem a_fillA_sl {ax : List Ax} {ds : List D} {l : List (Option D)} : fillA (.sl i :: ax) ds l = match l[i]? with
  | some (some d) => (fillA ax ds l).map (d :: ·)
  | _ => none := by cases ds <;> rfl
@[simp] theorem a_wb_nil {l : List (Option D)} {ds : List D} : wb [] ds l = l := by cases ds <;> rfl
@[simp] theorem a_wb_cons {is : List Nat} {d : D} {ds : List D} {l : List (Option D)} : wb (i :: is) (d :: ds) l = wb is ds (l.set i (some d)) := rfl
@[simp] theorem a_eLc {ti : St η → Eff η (List D)} {g : GR η} {tt : St η → Eff η Bool} {te : ER η} {vs : List Nat} : eLc ti g tt te vs s = (ti s).bind fun items s1 => (compL g tt te vs items s1).bind fun ys s2 => (lstO ys).eff s2 := rfl
@[simp] theorem a_eYes : (eYes : St η → Eff η Bool) s = .ok true s := rfl
@[simp] theorem a_eSeq {t : ER η} : eSeq t s = (t s).bind fun d s1 => (Out.of (seqO d)).eff s1 := rfl
@[simp] theorem a_eWalk {g : List (K2 × D) → List D} {t : ER η} : eWalk g t s = (t s).bind fun d s1 => (Out.of (dictO g d)).eff s1 := rfl
@[simp] theorem a_eRan {g : List D → Option (List D)} {ts : St η → Eff η (List D)} : eRan g ts s = (ts s).bind fun ds s1 => (Out.of (g ds)).eff s1 := rfl
@[simp] theorem a_eEnum {t : St η → Eff η (List D)} : eEnum t s = (t s).bind fun ds s1 => (Out.of (enumO ds)).eff s1 := rfl
theorem a_eLk {g : List (K2 × D) → List D} : (eLk g i : St η → Eff η (List D)) ⟨l, h⟩ = match l[i]? with
  | some (some (.fd _ kvs)) => .ok (g kvs) ⟨l, h⟩
  | _ => .stuck := rfl
theorem a_eSortK : (eSortK i : ER η) ⟨l, h⟩ = match l[i]? with
  | some (some (.fd _ kvs)) => if sortsOk (keysD kvs) = true then .ok (.fl ((keysD kvs).mergeSort dLe)) ⟨l, h⟩ else .stuck
  | _ => .stuck := rfl
theorem a_eLenK : (eLenK i : ER η) ⟨l, h⟩ = match l[i]? with
  | some (some (.fd _ kvs)) => if kvs.length ≤ sizeLine then .ok (.int kvs.length) ⟨l, h⟩ else .stuck
  | _ => .stuck := rfl
@[simp] theorem a_eCM {ty : D → Bool} {m : D → List D → Option D} {to : ER η} {te : St η → Eff η (List D)} : eCM ty m to te s = (to s).bind fun x s1 => if ty x = true then (te s1).bind fun xs s2 => (Out.of (m x xs)).eff s2 else .stuck := rfl
@[simp] theorem a_eCM0 {ty : D → Bool} {m : D → List D → Option D} {to : ER η} : eCM0 ty m to s = (to s).bind fun x s1 => if ty x = true then (Out.of (m x [])).eff s1 else .stuck := rfl
@[simp] theorem a_eFmt {t : ER η} : eFmt t s = (t s).bind fun d s1 => (Out.of (fmtD d)).eff s1 := rfl
@[simp] theorem a_jNil {acc : Str} : (jNil : Str → St η → Eff η Str) acc s = .ok acc s := rfl
@[simp] theorem a_jCons {t : ER η} {r : Str → St η → Eff η Str} {acc : Str} : jCons t r acc s = (t s).bind fun d s1 => match d with
  | .str y => if (acc ++ y).length ≤ sizeLine then r (acc ++ y) s1 else .stuck
  | _ => .stuck := rfl
@[simp] theorem a_eJ {t : Str → St η → Eff η Str} : eJ t s = (t Str.empty s).bind fun x s1 => .ok (.str x) s1 := rfl
@[simp] theorem a_eSortLam {t : ER Unit} {te : St η → Eff η (List D)} : eSortLam t te s = (te s).bind fun ds s1 => (Out.of (sortLamO t ds)).eff s1 := rfl
@[simp] theorem a_fK {g : D → Option D} {ta : PR η} : fK g ta s = (ta s).bind fun x => .of (g x) := rfl
@[simp] theorem a_fDisp1 {tk tv : PR η} : fDisp1 tk tv s = (tk s).bind fun dk => (tv s).bind fun dv => disp1 dk dv := rfl
end
section
variable {l : List (Option D)} {i : Nat} {t : Bool}
@[simp] theorem a_fLk {tr : SR Unit} : fLk i t tr ⟨l, ()⟩ = atD i t ⟨l, ()⟩ (tr ⟨l, ()⟩) := rfl
@[simp] theorem a_fLkE {tr : ER Unit} : fLkE i t tr ⟨l, ()⟩ = atD i t ⟨l, ()⟩ (tr ⟨l, ()⟩) := rfl
end
theorem seq_nx {η : Type} {t u : SR η} {s s1 : St η} (h : t s = .ok .nx s1) : fSeq t u s = u s1 := by rw [a_fSeq, h]; rfl
theorem seq_rt {η : Type} {t u : SR η} {s s1 : St η} {d : D} (h : t s = .ok (.rt d) s1) : fSeq t u s = .ok (.rt d) s1 := by rw [a_fSeq, h]; rfl
/-! ### loops -/
section
variable {η : Type} {g : GR η} {tb : SR η} {ws : List Nat}
/-- for: I holds of what is still to be walked and the state; Q: an early return -/
theorem forF_by (I : List D → St η → Prop) (Q : D → St η → Prop) (step : ∀ x xs s, I (x :: xs) s → ∃ s1, g x s = some s1 ∧ ((∃ fl s2, tb s1 = .ok fl s2 ∧ (fl = .nx ∨ fl = .ct) ∧ I xs (s2.wipe ws)) ∨ (∃ d s2, tb s1 = .ok (.rt d) s2 ∧ Q d s2) ∨ ∃ s2, tb s1 = .ok .bk s2 ∧ I [] (s2.wipe ws))) :
    ∀ xs s, I xs s → (∃ s', forF g tb ws xs s = .ok .nx s' ∧ I [] s') ∨ ∃ d s', forF g tb ws xs s = .ok (.rt d) s' ∧ Q d s'
  | [], s, h => .inl ⟨s, rfl, h⟩
  | x :: xs, s, h => by
    obtain ⟨s1, h1, h2⟩ := step x xs s h
    unfold forF
    simp only [h1]
    rcases h2 with ⟨fl, s2, h2, h3, h4⟩ | ⟨d, s2, h2, h3⟩ | ⟨s2, h2, h3⟩
    · have ih := forF_by I Q step xs _ h4
      rw [h2]
      rcases h3 with rfl | rfl
      · exact ih
      · exact ih
    · rw [h2]; exact .inr ⟨d, s2, rfl, h3⟩
    · rw [h2]; exact .inl ⟨_, rfl, h3⟩
/-- .. that always goes on -/
theorem forF_on (I : List D → St η → Prop) (step : ∀ x xs s, I (x :: xs) s → ∃ s1, g x s = some s1 ∧ ∃ fl s2, tb s1 = .ok fl s2 ∧ (fl = .nx ∨ fl = .ct) ∧ I xs (s2.wipe ws)) : ∀ xs s, I xs s → ∃ s', forF g tb ws xs s = .ok .nx s' ∧ I [] s' := fun xs s h => by
  rcases forF_by I (fun _ _ => False) (fun x xs s h => by obtain ⟨s1, h1, fl, s2, h2⟩ := step x xs s h; exact ⟨s1, h1, .inl ⟨fl, s2, h2⟩⟩) xs s h with h | ⟨_, _, _, h⟩
  · exact h
  · exact h.elim
theorem whileF_on {c : St η → Eff η Bool} (I : Nat → St η → Prop) (step : ∀ m s, I m s → (∃ s1, c s = .ok false s1 ∧ ∃ k, I k s1) ∨ ∃ s1, c s = .ok true s1 ∧ ∃ fl s2, tb s1 = .ok fl s2 ∧ (fl = .nx ∨ fl = .ct) ∧ ∃ m', m' < m ∧ I m' (s2.wipe ws)) :
    ∀ n m s, m < n → I m s → ∃ s', whileF c tb ws n s = .ok .nx s' ∧ ∃ k, I k s'
  | 0, m, s, hm, _ => by omega
  | n + 1, m, s, hm, h => by
    unfold whileF
    rcases step m s h with ⟨s1, h1, h2⟩ | ⟨s1, h1, fl, s2, h2, h3, m', hm', h4⟩
    · rw [h1]; exact ⟨s1, rfl, h2⟩
    · rw [h1]
      have ih := whileF_on I step n m' _ (by omega) h4
      simp only [Eff.bind_ok, if_true, h2]
      rcases h3 with rfl | rfl
      · exact ih
      · exact ih
variable {tt : St η → Eff η Bool} {te : ER η} {vs : List Nat}
/-- a comprehension: what each item gives; I: the state between; R: what the items so far gave -/
theorem compL_by (I : List D → St η → Prop) (Q : D → Prop) (step : ∀ x xs s, I (x :: xs) s → ∃ s1, g x s = some s1 ∧ ∃ b s2, tt s1 = .ok b s2 ∧ ((b = false ∧ I xs (s2.wipe vs)) ∨ b = true ∧ ∃ y s3, te s2 = .ok y s3 ∧ Q y ∧ I xs (s3.wipe vs))) :
    ∀ xs s, I xs s → ∃ ys s', compL g tt te vs xs s = .ok ys s' ∧ (∀ y ∈ ys, Q y) ∧ ys.length ≤ xs.length ∧ I [] s'
  | [], s, h => ⟨[], s, rfl, fun _ z => (by cases z), Nat.le_refl _, h⟩
  | x :: xs, s, h => by
    obtain ⟨s1, h1, b, s2, h2, h3⟩ := step x xs s h
    unfold compL
    simp only [h1, h2, Eff.nox_ok, Eff.bind_ok]
    rcases h3 with ⟨rfl, h3⟩ | ⟨rfl, y, s3, h3, h4, h5⟩
    · obtain ⟨ys, s', e, q, z, i⟩ := compL_by I Q step xs _ h3
      exact ⟨ys, s', by simpa using e, q, Nat.le_succ_of_le z, i⟩
    · obtain ⟨ys, s', e, q, z, i⟩ := compL_by I Q step xs _ h5
      refine ⟨y :: ys, s', by simp [h3, e], fun w hw => ?_, Nat.succ_le_succ z, i⟩
      rcases List.mem_cons.mp hw with rfl | hw
      · exact h4
      · exact q w hw
/-- .. that keeps every item -/
theorem compL_all (I : List D → St η → Prop) (Q : D → Prop) (step : ∀ x xs s, I (x :: xs) s → ∃ s1, g x s = some s1 ∧ ∃ s2, tt s1 = .ok true s2 ∧ ∃ y s3, te s2 = .ok y s3 ∧ Q y ∧ I xs (s3.wipe vs)) :
    ∀ xs s, I xs s → ∃ ys s', compL g tt te vs xs s = .ok ys s' ∧ (∀ y ∈ ys, Q y) ∧ ys.length = xs.length ∧ I [] s'
  | [], s, h => ⟨[], s, rfl, fun _ z => (by cases z), rfl, h⟩
  | x :: xs, s, h => by
    obtain ⟨s1, h1, s2, h2, y, s3, h3, h4, h5⟩ := step x xs s h
    unfold compL
    simp only [h1, h2, Eff.nox_ok, Eff.bind_ok, if_true, h3]
    obtain ⟨ys, s', e, q, z, i⟩ := compL_all I Q step xs _ h5
    refine ⟨y :: ys, s', by simp [e], fun w hw => ?_, by simp [z], i⟩
    rcases List.mem_cons.mp hw with rfl | hw
    · exact h4
    · exact q w hw
/-- .. that changes nothing: told in full -/
theorem compL_eq {β : Type} {s : St η} (enc : β → D) (p : β → Bool) (f : β → D) : ∀ {xs : List β}, (∀ x ∈ xs, ∃ s1, g (enc x) s = some s1 ∧ tt s1 = .ok (p x) s1 ∧ (p x = true → te s1 = .ok (f x) s1) ∧ s1.wipe vs = s) → compL g tt te vs (xs.map enc) s = .ok ((xs.filter p).map f) s
  | [], _ => rfl
  | x :: xs, h => by
    obtain ⟨s1, h1, h2, h3, h4⟩ := h x List.mem_cons_self
    have ih := compL_eq enc p f (s := s) fun y hy => h y (List.mem_cons_of_mem _ hy)
    rw [List.map_cons]
    unfold compL
    simp only [h1, h2, Eff.nox_ok, Eff.bind_ok]
    cases hp : p x with
    | true => simp [h3 hp, h4, ih, hp]
    | false => simp [h4, ih, hp]
theorem compL_map {β : Type} {s : St η} (enc : β → D) (f : β → D) : ∀ {xs : List β}, (∀ x ∈ xs, ∃ s1, g (enc x) s = some s1 ∧ tt s1 = .ok true s1 ∧ te s1 = .ok (f x) s1 ∧ s1.wipe vs = s) → compL g tt te vs (xs.map enc) s = .ok (xs.map f) s
  | [], _ => rfl
  | x :: xs, h => by
    obtain ⟨s1, h1, h2, h3, h4⟩ := h x List.mem_cons_self
    have ih := compL_map enc f (s := s) fun y hy => h y (List.mem_cons_of_mem _ hy)
    rw [List.map_cons]
    unfold compL
    simp only [h1, h2, Eff.nox_ok, Eff.bind_ok, if_true, h3, h4, ih, List.map_cons]
end
@[simp] theorem outsS_nil {l : List (Option D)} : outsS [] l = [] := by cases l <;> rfl
@[simp] theorem outsS_io {t : Tag} {κs : List Sl} {d : D} {l : List (Option D)} : outsS (.io t :: κs) (some d :: l) = d :: outsS κs l := rfl
@[simp] theorem outsS_own {t : Tag} {κs : List Sl} {d : Option D} {l : List (Option D)} : outsS (.own t :: κs) (d :: l) = outsS κs l := rfl
@[simp] theorem outsS_bor {t : Tag} {κs : List Sl} {d : Option D} {l : List (Option D)} : outsS (.bor t :: κs) (d :: l) = outsS κs l := rfl
theorem outsS_none : ∀ (κs : List Sl) (l : List (Option D)), (∀ κ ∈ κs, κ.isIo = false) → outsS κs l = []
  | [], l, _ => by cases l <;> rfl
  | κ :: κs, [], _ => by cases κ <;> rfl
  | κ :: κs, d :: l, h => by
    have ih := outsS_none κs l fun x hx => h x (List.mem_cons_of_mem _ hx)
    have := h κ List.mem_cons_self
    cases κ <;> first | exact ih | cases this
@[simp] theorem wipeL_nil {l : List (Option D)} : wipeL l [] = l := rfl
@[simp] theorem wipeL_cons {l : List (Option D)} {i : Nat} {is : List Nat} : wipeL l (i :: is) = (wipeL l is).set i none := rfl
end FL

/-! PB: what readings compute: ints, ==, keys, dicts, slices. -/
namespace FL
open PySem L2
/-! ### ints -/
theorem mulC_ok {i j : Int} (h1 : -2^100 < i) (h2 : i < 2^100) (h3 : -2^100 < j) (h4 : j < 2^100) : mulC i j = true := by
  unfold mulC
  simp only [Bool.and_eq_true, decide_eq_true_eq]
  omega
@[simp] theorem modC_eq {i j : Int} : modC i j = decide (0 < j) := rfl
@[simp] theorem divC_eq {i j : Int} : divC i j = (decide (0 < j) && decide (j.natAbs < 2 ^ 128)) := rfl
@[simp] theorem powC_eq {i j : Int} : powC i j = (decide (0 ≤ j) && decide (j ≤ 4096) && decide (i.natAbs < 2 ^ 64)) := rfl
@[simp] theorem addO_ii {i j : Int} : addO (.int i) (.int j) = some (.int (i + j)) := rfl
@[simp] theorem ixO_t {xs : List D} {i : Int} : ixO (.tup xs) (.int i) = atI xs i := rfl
@[simp] theorem ixO_l {xs : List D} {i : Int} : ixO (.fl xs) (.int i) = atI xs i := rfl
@[simp] theorem keyOf_i {i : Int} : keyOf (.int i) = some (.inl i) := rfl
@[simp] theorem keyOf_s {x : Str} : keyOf (.str x) = some (.inr x) := rfl
/-! ### == -/
def ev (x y : D) : Bool := PyData.eqv (pyD x) (pyD y)
mutual
def dep : D → Nat
  | .tup ds => deps ds + 1
  | .fl ds => deps ds + 1
  | _ => 0
def deps : List D → Nat
  | [] => 0
  | d :: ds => max (dep d) (deps ds)
end
mutual
theorem dep_ok : ∀ d : D, PyData.depth (pyD d) = dep d
  | .tup ds => by simp only [pyD, PyData.depth, dep, deps_ok ds]
  | .fl ds => by simp only [pyD, PyData.depth, dep, deps_ok ds]
  | .non | .bl _ | .int _ | .str _ | .ty _ | .ob _ | .fd _ _ => by simp [pyD, PyData.depth, dep]
theorem deps_ok : ∀ ds : List D, PyData.depthAll (pyDs ds) = deps ds
  | [] => by simp [pyDs, PyData.depthAll, deps]
  | d :: ds => by simp only [pyDs, PyData.depthAll, deps, dep_ok d, deps_ok ds]
end
mutual
theorem lay_of : ∀ d : D, pln d = true → PyData.canLay0 (pyD d) = true
  | .tup ds, h => by simp only [pyD, PyData.canLay0]; exact lays_of ds (by simpa [pln] using h)
  | .fl ds, h => by simp only [pyD, PyData.canLay0]; exact lays_of ds (by simpa [pln] using h)
  | .str x, h => by simpa [pyD, PyData.canLay0, pln] using h
  | .non, _ | .bl _, _ | .int _, _ | .ty _, _ | .ob _, _ | .fd _ _, _ => by simp [pyD, PyData.canLay0]
theorem lays_of : ∀ ds : List D, plns ds = true → PyData.canLayAll0 (pyDs ds) = true
  | [], _ => by simp [pyDs, PyData.canLayAll0]
  | d :: ds, h => by
    have h' : pln d = true ∧ plns ds = true := by simpa [plns] using h
    simp only [pyDs, PyData.canLayAll0, lay_of d h'.1, lays_of ds h'.2, Bool.and_true]
end
theorem shp_of {d : D} (h : pln d = true) (hd : dep d ≤ 64) : shp d = true := by
  unfold shp SeqAt.shaped
  rw [h, lay_of d h, dep_ok]
  simpa using hd
theorem eqO_of {x y : D} (hx : shp x = true) (hy : shp y = true) : eqO x y = some (ev x y) := by
  unfold eqO
  have hb : (shp x && shp y) = true := by rw [hx, hy]; rfl
  cases q : eqS x y with
  | none => simp only [hb, if_true, ev]
  | some b =>
    show some b = _
    congr 1
    cases x <;> cases y <;> first | (cases q; done) | (cases q; simp only [ev, pyD, PyData.eqv]; done) | (cases q; simp only [ev, pyD, PyData.eqv]; rfl) | (cases q; simp only [ev, pyD, PyData.eqv]; simp; done)
theorem eqD_of {x y : D} (hx : shp x = true) (hy : shp y = true) : eqD x y = some (.bl (ev x y)) := by unfold eqD; rw [eqO_of hx hy]; rfl
theorem neD_of {x y : D} (hx : shp x = true) (hy : shp y = true) : neD x y = some (.bl (!ev x y)) := by unfold neD; rw [eqO_of hx hy]; rfl
@[simp] theorem eqD_ss {x y : Str} : eqD (.str x) (.str y) = some (.bl (decide (x = y))) := rfl
@[simp] theorem neD_ss {x y : Str} : neD (.str x) (.str y) = some (.bl (!decide (x = y))) := rfl
@[simp] theorem eqD_ii {x y : Int} : eqD (.int x) (.int y) = some (.bl (decide (x = y))) := rfl
@[simp] theorem neD_ii {x y : Int} : neD (.int x) (.int y) = some (.bl (!decide (x = y))) := rfl
@[simp] theorem eqD_bb {x y : Bool} : eqD (.bl x) (.bl y) = some (.bl (decide (x = y))) := rfl
mutual
theorem ev_refl : ∀ d : D, pln d = true → ev d d = true
  | .tup ds, h => by
    have := evs_refl ds (by simpa [pln] using h)
    simpa [ev, pyD, PyData.eqv] using this
  | .fl ds, h => by
    have := evs_refl ds (by simpa [pln] using h)
    simpa [ev, pyD, PyData.eqv] using this
  | .str x, h | .non, _ | .bl _, _ | .int _, _ => by simp [ev, pyD, PyData.eqv]
  | .ty _, h | .ob _, h | .fd _ _, h => by simp [pln] at h
theorem evs_refl : ∀ ds : List D, plns ds = true → PyData.eqvAll (pyDs ds) (pyDs ds) = true
  | [], _ => by simp [pyDs, PyData.eqvAll]
  | d :: ds, h => by
    have h' : pln d = true ∧ plns ds = true := by simpa [plns] using h
    have h1 := ev_refl d h'.1
    simp only [pyDs, PyData.eqvAll, evs_refl ds h'.2, Bool.and_true]
    exact h1
end
/-- a list of things that == tells apart -/
theorem evs_map {α : Type} (f : α → D) (h : ∀ a b, ev (f a) (f b) = true ↔ a = b) : ∀ xs ys : List α, PyData.eqvAll (pyDs (xs.map f)) (pyDs (ys.map f)) = true ↔ xs = ys
  | [], [] => by simp [pyDs, PyData.eqvAll]
  | [], _ :: _ => by simp [pyDs, PyData.eqvAll]
  | _ :: _, [] => by simp [pyDs, PyData.eqvAll]
  | x :: xs, y :: ys => by
    have e : PyData.eqv (pyD (f x)) (pyD (f y)) = ev (f x) (f y) := rfl
    simp only [List.map_cons, pyDs, PyData.eqvAll, e, Bool.and_eq_true, h, evs_map f h xs ys, List.cons.injEq]
theorem ev_tup {α : Type} (f : α → D) (h : ∀ a b, ev (f a) (f b) = true ↔ a = b) (xs ys : List α) : ev (.tup (xs.map f)) (.tup (ys.map f)) = true ↔ xs = ys := by
  simp only [ev, pyD, PyData.eqv, evs_map f h]
theorem ev_fl {α : Type} (f : α → D) (h : ∀ a b, ev (f a) (f b) = true ↔ a = b) (xs ys : List α) : ev (.fl (xs.map f)) (.fl (ys.map f)) = true ↔ xs = ys := by
  simp only [ev, pyD, PyData.eqv, evs_map f h]
theorem ev_int {i j : Int} : ev (.int i) (.int j) = true ↔ i = j := by simp [ev, pyD, PyData.eqv]
theorem ev_str {i j : Str} : ev (.str i) (.str j) = true ↔ i = j := by simp [ev, pyD, PyData.eqv]
theorem plns_of : ∀ {ds : List D}, (∀ d ∈ ds, pln d = true) → plns ds = true
  | [], _ => rfl
  | d :: ds, h => by unfold plns; rw [h d List.mem_cons_self, plns_of fun x hx => h x (List.mem_cons_of_mem _ hx)]; rfl
theorem deps_of {n : Nat} : ∀ {ds : List D}, (∀ d ∈ ds, dep d ≤ n) → deps ds ≤ n
  | [], _ => by unfold deps; omega
  | d :: ds, h => by
    unfold deps
    have h1 := h d List.mem_cons_self
    have h2 := deps_of fun x hx => h x (List.mem_cons_of_mem _ hx)
    omega
/-! ### dicts -/
section
variable {κ ν : Type} [DecidableEq κ] (ek : κ → K2) (hk : ∀ a b, ek a = ek b → a = b) (dv : ν → D)
def aget (m : List (κ × ν)) (k : κ) : Option ν := (m.find? fun x => decide (x.1 = k)).map (·.2)
def aput (m : List (κ × ν)) (k : κ) (v : ν) : List (κ × ν) := if (m.any fun x => decide (x.1 = k)) = true then m.map fun x => if x.1 = k then (x.1, v) else x else m ++ [(k, v)]
def adrop (m : List (κ × ν)) (k : κ) : List (κ × ν) := m.filter fun x => decide (x.1 ≠ k)
abbrev enc (m : List (κ × ν)) : List (K2 × D) := m.map fun x => (ek x.1, dv x.2)
include hk
theorem dec_ek (a b : κ) : decide (ek a = ek b) = decide (a = b) := decide_eq_decide.mpr ⟨hk a b, fun h => by rw [h]⟩
theorem valD_enc (k : κ) : ∀ m : List (κ × ν), valD (enc ek dv m) (ek k) = (aget m k).map dv
  | [] => rfl
  | x :: m => by
    have ih := valD_enc k m
    unfold valD aget at ih ⊢
    rw [show enc ek dv (x :: m) = (ek x.1, dv x.2) :: enc ek dv m from rfl, List.find?_cons, List.find?_cons]
    simp only [dec_ek ek hk]
    cases decide (x.1 = k) with
    | true => rfl
    | false => exact ih
theorem any_enc (k : κ) : ∀ m : List (κ × ν), (enc ek dv m).any (fun kv => decide (kv.1 = ek k)) = m.any fun x => decide (x.1 = k)
  | [] => rfl
  | x :: m => by
    rw [show enc ek dv (x :: m) = (ek x.1, dv x.2) :: enc ek dv m from rfl, List.any_cons, List.any_cons, any_enc k m]
    simp only [dec_ek ek hk]
theorem putD_enc (k : κ) (v : ν) (m : List (κ × ν)) : putD (enc ek dv m) (ek k) (dv v) = enc ek dv (aput m k v) := by
  unfold putD aput
  rw [any_enc ek hk]
  split
  · unfold enc
    rw [List.map_map, List.map_map]
    refine List.map_congr_left fun x _ => ?_
    show (if ek x.1 = ek k then (ek x.1, dv v) else (ek x.1, dv x.2)) = (ek (if x.1 = k then (x.1, v) else x).1, dv (if x.1 = k then (x.1, v) else x).2)
    by_cases c : x.1 = k
    · rw [if_pos c, if_pos (by rw [c])]
    · rw [if_neg c, if_neg fun z => c (hk _ _ z)]
  · unfold enc
    rw [List.map_append]
    rfl
theorem dropD_enc (k : κ) : ∀ m : List (κ × ν), dropD (enc ek dv m) (ek k) = enc ek dv (adrop m k)
  | [] => rfl
  | x :: m => by
    have ih := dropD_enc k m
    unfold dropD adrop at ih ⊢
    rw [show enc ek dv (x :: m) = (ek x.1, dv x.2) :: enc ek dv m from rfl]
    by_cases c : x.1 = k
    · rw [List.filter_cons_of_neg (by simp [c]), List.filter_cons_of_neg (by simp [c])]
      exact ih
    · rw [List.filter_cons_of_pos (by simpa using fun z => c (hk _ _ z)), List.filter_cons_of_pos (by simpa using c), ih]
      rfl
end
section
variable {κ ν : Type} [DecidableEq κ] {m : List (κ × ν)} {k q : κ} {v : ν}
theorem aget_mem (h : aget m k = some v) : (k, v) ∈ m := by
  unfold aget at h
  cases e : m.find? fun x => decide (x.1 = k) with
  | none => rw [e] at h; cases h
  | some x =>
    rw [e] at h
    cases h
    have h1 := List.mem_of_find?_eq_some e
    have h2 := List.find?_some e
    have h3 : x.1 = k := by simpa using h2
    rw [← h3]
    exact h1
theorem aget_isSome : (aget m k).isSome = true ↔ k ∈ m.map (·.1) := by
  unfold aget
  rw [Option.isSome_map, List.find?_isSome]
  simp only [List.mem_map, decide_eq_true_eq]
theorem aget_none : aget m k = none ↔ k ∉ m.map (·.1) := by
  rw [← aget_isSome]
  cases aget m k <;> simp
theorem aget_some_of (h : k ∈ m.map (·.1)) : ∃ v, aget m k = some v := Option.isSome_iff_exists.mp (aget_isSome.mpr h)
theorem any_key : (m.any fun x => decide (x.1 = k)) = true ↔ k ∈ m.map (·.1) := by
  rw [List.any_eq_true]
  simp only [List.mem_map, decide_eq_true_eq]
theorem aput_keys : (aput m k v).map (·.1) = if k ∈ m.map (·.1) then m.map (·.1) else m.map (·.1) ++ [k] := by
  unfold aput
  by_cases c : k ∈ m.map (·.1)
  · rw [if_pos (any_key.mpr c), if_pos c, List.map_map]
    refine List.map_congr_left fun x _ => ?_
    show (if x.1 = k then (x.1, v) else x).1 = x.1
    split <;> rfl
  · rw [if_neg (fun z => c (any_key.mp z)), if_neg c, List.map_append]
    rfl
theorem mem_aput (h : (q, w) ∈ aput m k v) : (q = k ∧ w = v) ∨ (q ≠ k ∧ (q, w) ∈ m) := by
  unfold aput at h
  split at h
  · obtain ⟨x, hx, e⟩ := List.mem_map.mp h
    by_cases c : x.1 = k
    · rw [if_pos c] at e
      cases e
      exact .inl ⟨c, rfl⟩
    · rw [if_neg c] at e
      subst e
      exact .inr ⟨c, hx⟩
  · rename_i hn
    rcases List.mem_append.mp h with h | h
    · refine .inr ⟨fun z => hn (any_key.mpr ?_), h⟩
      rw [← z]
      exact List.mem_map.mpr ⟨_, h, rfl⟩
    · rcases List.mem_singleton.mp h with e
      cases e
      exact .inl ⟨rfl, rfl⟩
theorem aget_aput : aget (aput m k v) q = if q = k then some v else aget m q := by
  unfold aget aput
  split
  · rename_i hk
    rw [List.find?_map]
    by_cases c : q = k
    · subst c
      rw [if_pos rfl]
      have : m.find? ((fun x : κ × ν => decide (x.1 = q)) ∘ fun x => if x.1 = q then (x.1, v) else x) = m.find? fun x => decide (x.1 = q) := by
        congr 1
        funext x
        show decide ((if x.1 = q then (x.1, v) else x).1 = q) = decide (x.1 = q)
        split <;> rfl
      rw [this]
      cases e : m.find? fun x => decide (x.1 = q) with
      | none =>
        obtain ⟨x, hx, hq⟩ := List.any_eq_true.mp hk
        exact absurd hq (by simpa using List.find?_eq_none.mp e x hx)
      | some x =>
        have h2 : x.1 = q := by simpa using List.find?_some e
        simp [h2]
    · rw [if_neg c]
      have : m.find? ((fun x : κ × ν => decide (x.1 = q)) ∘ fun x => if x.1 = k then (x.1, v) else x) = m.find? fun x => decide (x.1 = q) := by
        congr 1
        funext x
        show decide ((if x.1 = k then (x.1, v) else x).1 = q) = decide (x.1 = q)
        split <;> rfl
      rw [this]
      cases e : m.find? fun x => decide (x.1 = q) with
      | none => rfl
      | some x =>
        have h2 : x.1 = q := by simpa using List.find?_some e
        have h3 : x.1 ≠ k := by rw [h2]; exact c
        simp [h3]
  · rename_i hk
    rw [List.find?_append]
    by_cases c : q = k
    · subst c
      have : m.find? (fun x => decide (x.1 = q)) = none := List.find?_eq_none.mpr fun x hx z => hk (List.any_eq_true.mpr ⟨x, hx, z⟩)
      rw [this, if_pos rfl]
      simp
    · rw [if_neg c]
      cases e : m.find? fun x => decide (x.1 = q) with
      | none => simp [Ne.symm c]
      | some x => rfl
theorem aget_adrop : aget (adrop m k) q = if q = k then none else aget m q := by
  unfold aget adrop
  rw [List.find?_filter]
  by_cases c : q = k
  · subst c
    rw [if_pos rfl]
    have : m.find? (fun x => decide (x.1 ≠ q) && decide (x.1 = q)) = none := List.find?_eq_none.mpr fun x hx z => by simp at z
    simpa using this
  · rw [if_neg c]
    congr 1
    congr 1
    funext x
    by_cases d : x.1 = q
    · have : x.1 ≠ k := by rw [d]; exact c
      simp [d, c]
    · simp [d]
theorem aget_of_mem : ∀ {m : List (κ × ν)}, (m.map (·.1)).Nodup → (k, v) ∈ m → aget m k = some v
  | [], _, h => by cases h
  | x :: m, nd, h => by
    have nd' : x.1 ∉ m.map (·.1) ∧ (m.map (·.1)).Nodup := List.nodup_cons.mp (by rw [List.map_cons] at nd; exact nd)
    unfold aget
    rcases List.mem_cons.mp h with rfl | h
    · rw [List.find?_cons]
      simp
    · have hne : x.1 ≠ k := fun e => nd'.1 (by rw [e]; exact List.mem_map.mpr ⟨_, h, rfl⟩)
      rw [List.find?_cons]
      simp only [hne, decide_false]
      exact aget_of_mem nd'.2 h
theorem aput_nd (h : (m.map (·.1)).Nodup) : ((aput m k v).map (·.1)).Nodup := by
  rw [aput_keys]
  split
  · exact h
  · rename_i hk
    refine List.nodup_append.mpr ⟨h, by simp, fun a ha b hb => ?_⟩
    rw [List.mem_singleton.mp hb]
    intro e
    exact hk (by rw [← e]; exact ha)
theorem adrop_nd (h : (m.map (·.1)).Nodup) : ((adrop m k).map (·.1)).Nodup := by
  unfold adrop
  have : ((m.filter fun x => decide (x.1 ≠ k)).map (·.1)).Sublist (m.map (·.1)) := List.filter_sublist.map _
  exact this.nodup h
theorem mem_adrop {x : κ × ν} : x ∈ adrop m k ↔ x ∈ m ∧ x.1 ≠ k := by
  unfold adrop
  rw [List.mem_filter]
  simp
theorem aput_new (h : k ∉ m.map (·.1)) : aput m k v = m ++ [(k, v)] := by
  unfold aput
  rw [if_neg (fun z => h (any_key.mp z))]
end
end FL

/-! PC: places and parts of lists; paths, leaves, models. -/
namespace FL
open PySem L2
/-! ### places, parts -/
theorem atI_map {α β : Type} (f : α → β) (xs : List α) (i : Int) : atI (xs.map f) i = (atI xs i).map f := by
  unfold atI
  rw [List.length_map]
  cases ixN xs.length i with
  | none => rfl
  | some j => simp
theorem atI_pos {α : Type} {xs : List α} {i : Int} (h0 : 0 ≤ i) (h1 : i < xs.length) : atI xs i = xs[i.toNat]? := by
  unfold atI ixN
  rw [if_pos h0, if_pos h1]
  rfl
theorem atI_some {α : Type} {xs : List α} {i : Int} (h0 : 0 ≤ i) (h1 : i < xs.length) : ∃ x, atI xs i = some x ∧ x ∈ xs := by
  rw [atI_pos h0 h1]
  have : i.toNat < xs.length := by omega
  exact ⟨_, List.getElem?_eq_getElem this, List.getElem_mem this⟩
theorem atI_last {α : Type} {xs : List α} {x : α} : atI (xs ++ [x]) (-1) = some x := by
  unfold atI ixN
  have : (xs ++ [x]).length = xs.length + 1 := by simp
  rw [if_neg (by omega), if_pos (by omega)]
  show (xs ++ [x])[_]? = _
  have e : ((-1 : Int) + ((xs ++ [x]).length : Int)).toNat = xs.length := by omega
  rw [e]
  simp
theorem cutD_map {α : Type} (f : α → D) (xs : List α) (lo hi : Option Int) : cutD (xs.map f) lo hi = ((xs.drop (HT.sIx xs.length 0 lo)).take (HT.sIx xs.length xs.length hi - HT.sIx xs.length 0 lo)).map f := by
  unfold cutD
  rw [List.length_map, List.map_take, List.map_drop]
theorem sIx_to {n d : Nat} {i : Int} (h : 0 ≤ i) : HT.sIx n d (some i) = min i.toNat n := by
  show (if i < 0 then (i + (n : Int)).toNat else min i.toNat n) = _
  rw [if_neg (by omega)]
theorem sIx_m1 {n d : Nat} : HT.sIx n d (some (-1)) = n - 1 := by
  show (if (-1 : Int) < 0 then ((-1 : Int) + (n : Int)).toNat else min (-1 : Int).toNat n) = _
  rw [if_pos (by omega)]
  omega
theorem take_min {α : Type} {xs : List α} {i : Nat} : xs.take (min i xs.length) = xs.take i := by
  by_cases c : i ≤ xs.length
  · rw [Nat.min_eq_left c]
  · rw [Nat.min_eq_right (by omega), List.take_of_length_le (Nat.le_refl _), List.take_of_length_le (by omega)]
theorem drop_min {α : Type} {xs : List α} {i : Nat} : xs.drop (min i xs.length) = xs.drop i := by
  by_cases c : i ≤ xs.length
  · rw [Nat.min_eq_left c]
  · rw [Nat.min_eq_right (by omega), List.drop_of_length_le (Nat.le_refl _), List.drop_of_length_le (by omega)]
/-- xs[:i] -/
theorem cutD_to {α : Type} (f : α → D) (xs : List α) {i : Int} (h : 0 ≤ i) : cutD (xs.map f) none (some i) = (xs.take i.toNat).map f := by
  rw [cutD_map, HT.sIx_none, sIx_to h, List.drop_zero, Nat.sub_zero, take_min]
/-- xs[i:] -/
theorem cutD_from {α : Type} (f : α → D) (xs : List α) {i : Int} (h : 0 ≤ i) : cutD (xs.map f) (some i) none = (xs.drop i.toNat).map f := by
  rw [cutD_map, HT.sIx_none, sIx_to h, drop_min, List.take_of_length_le]
  rw [List.length_drop]
  omega
/-- xs[:-1] -/
theorem cutD_last {α : Type} (f : α → D) (xs : List α) : cutD (xs.map f) none (some (-1)) = xs.dropLast.map f := by
  rw [cutD_map, HT.sIx_none, sIx_m1, List.drop_zero, Nat.sub_zero, List.dropLast_eq_take]
/-- xs[i:j] -/
theorem cutD_ij {α : Type} (f : α → D) (xs : List α) {i j : Int} (h : 0 ≤ i) (h2 : i ≤ j) : cutD (xs.map f) (some i) (some j) = ((xs.drop i.toNat).take (j.toNat - i.toNat)).map f := by
  rw [cutD_map, sIx_to h, sIx_to (by omega), drop_min]
  congr 1
  by_cases c : j.toNat ≤ xs.length
  · rw [Nat.min_eq_left c, Nat.min_eq_left (by omega)]
  · rw [List.take_of_length_le, List.take_of_length_le]
    · rw [List.length_drop]; omega
    · rw [List.length_drop]; omega
@[simp] theorem slO_t {xs : List D} {lo hi : Option Int} : slO (.tup xs) lo hi = some (.tup (cutD xs lo hi)) := rfl
@[simp] theorem slO_l {xs : List D} {lo hi : Option Int} : slO (.fl xs) lo hi = some (.fl (cutD xs lo hi)) := rfl
/-! ### names, paths, leaves, models -/
abbrev Pth := List Str
abbrev Lf := List Int
/-- a name's signs, its length -/
def Good (x : Str) : Prop := 1 ≤ x.length ∧ x.length ≤ 8 ∧ ∀ c ∈ x.cps.toList, 97 ≤ c ∧ c ≤ 122
def eP (p : Pth) : D := .tup (p.map .str)
def eL (l : Lf) : D := .tup (l.map .int)
def eV : Option (List Lf) → D
  | none => .non
  | some ls => .fl (ls.map eL)
abbrev Mdl := List (Pth × Option (List Lf))
def kP (p : Pth) : K2 := .inr (p.map Sum.inr)
def eM (m : Mdl) : D := .fd true (enc kP eV m)
theorem kP_inj (a b : Pth) (h : kP a = kP b) : a = b := by
  have h1 : a.map (Sum.inr : Str → Key) = b.map Sum.inr := Sum.inr.inj h
  exact (List.map_inj_right fun x y e => Sum.inr.inj e).mp h1
def GoodP (p : Pth) : Prop := p.length ≤ 6 ∧ ∀ x ∈ p, Good x
def GoodL (l : Lf) : Prop := l.length ≤ 8 ∧ ∀ n ∈ l, 0 ≤ n ∧ n ≤ 255
theorem strOk_good {x : Str} (h : Good x) : PyData.strOk x = true := by
  unfold PyData.strOk
  rw [Array.all_eq_true_iff_forall_mem]
  intro c hc
  have := h.2.2 c (by simpa using hc)
  simp
  omega
theorem shp_eP {p : Pth} (h : ∀ x ∈ p, Good x) : shp (eP p) = true := by
  refine shp_of ?_ ?_
  · unfold eP pln
    refine plns_of fun d hd => ?_
    obtain ⟨x, hx, rfl⟩ := List.mem_map.mp hd
    unfold pln
    exact strOk_good (h x hx)
  · unfold eP dep
    have : deps (p.map D.str) ≤ 0 := deps_of fun d hd => by
      obtain ⟨x, hx, rfl⟩ := List.mem_map.mp hd
      exact Nat.le_refl _
    omega
theorem shp_eL {l : Lf} : shp (eL l) = true := by
  refine shp_of ?_ ?_
  · unfold eL pln
    refine plns_of fun d hd => ?_
    obtain ⟨x, hx, rfl⟩ := List.mem_map.mp hd
    rfl
  · unfold eL dep
    have : deps (l.map D.int) ≤ 0 := deps_of fun d hd => by
      obtain ⟨x, hx, rfl⟩ := List.mem_map.mp hd
      exact Nat.le_refl _
    omega
theorem ev_eP {p q : Pth} : ev (eP p) (eP q) = decide (p = q) := by
  rw [Bool.eq_iff_iff, decide_eq_true_eq]
  exact ev_tup D.str (fun _ _ => ev_str) p q
theorem ev_eL {p q : Lf} : ev (eL p) (eL q) = decide (p = q) := by
  rw [Bool.eq_iff_iff, decide_eq_true_eq]
  exact ev_tup D.int (fun _ _ => ev_int) p q
theorem eq_eP {p q : Pth} (hp : ∀ x ∈ p, Good x) (hq : ∀ x ∈ q, Good x) : eqD (eP p) (eP q) = some (.bl (decide (p = q))) := by rw [eqD_of (shp_eP hp) (shp_eP hq), ev_eP]
theorem ne_eP {p q : Pth} (hp : ∀ x ∈ p, Good x) (hq : ∀ x ∈ q, Good x) : neD (eP p) (eP q) = some (.bl (!decide (p = q))) := by rw [neD_of (shp_eP hp) (shp_eP hq), ev_eP]
theorem eP_nil : eP [] = .tup [] := rfl
theorem key2_eP {p : Pth} (h : p ≠ []) : key2 true (eP p) = some (kP p) := by
  have key : ∀ q : List Str, keyAll (q.map D.str) = some (q.map Sum.inr) := fun q => by
    induction q with
    | nil => rfl
    | cons x q ih => simp only [List.map_cons, keyAll, keyOf, ih]
  cases p with
  | nil => exact absurd rfl h
  | cons x p =>
    show (keyAll ((x :: p).map D.str)).map Sum.inr = _
    rw [key]
    rfl
theorem keys_eM {m : Mdl} : keysD (enc kP eV m) = m.map fun x => eP x.1 := by
  unfold keysD enc
  rw [List.map_map]
  refine List.map_congr_left fun x _ => ?_
  show dK2 (kP x.1) = eP x.1
  unfold kP eP dK2
  simp only [List.map_map]
  congr 1
theorem vals_eM {m : Mdl} : valsD (enc kP eV m) = m.map fun x => eV x.2 := by
  unfold valsD enc
  rw [List.map_map]
  rfl
theorem in_eM {m : Mdl} {p : Pth} (h : p ≠ []) : inB (eP p) (eM m) = some (aget m p).isSome := by
  have e : inB (eP p) (eM m) = (key2 true (eP p)).map fun k => (valD (enc kP eV m) k).isSome := rfl
  rw [e, key2_eP h]
  show some ((valD (enc kP eV m) (kP p)).isSome) = _
  rw [valD_enc kP kP_inj]
  simp
theorem inO_eM {m : Mdl} {p : Pth} (h : p ≠ []) : inO (eP p) (eM m) = some (.bl (aget m p).isSome) := by unfold inO; rw [in_eM h]; rfl
theorem ninO_eM {m : Mdl} {p : Pth} (h : p ≠ []) : ninO (eP p) (eM m) = some (.bl (!(aget m p).isSome)) := by unfold ninO; rw [in_eM h]; rfl
theorem ix_eM {m : Mdl} {p : Pth} {v : Option (List Lf)} (h : p ≠ []) (e : aget m p = some v) : ixO (eM m) (eP p) = some (eV v) := by
  have e1 : ixO (eM m) (eP p) = (key2 true (eP p)).bind fun k => valD (enc kP eV m) k := rfl
  rw [e1, key2_eP h]
  show valD _ _ = _
  rw [valD_enc kP kP_inj, e]
  rfl
theorem set_eM {m : Mdl} {p : Pth} {v : Option (List Lf)} (h : p ≠ []) (hl : m.length < sizeLine) : setM true (eM m) (eP p) (eV v) = some (eM (aput m p v)) := by
  have e1 : setM true (eM m) (eP p) (eV v) = if true = true ∧ (enc kP eV m).length < sizeLine then (key2 true (eP p)).map fun k => .fd true (putD (enc kP eV m) k (eV v)) else none := rfl
  rw [e1, if_pos ⟨rfl, by unfold enc; rw [List.length_map]; exact hl⟩, key2_eP h]
  show some (D.fd true _) = some (D.fd true _)
  rw [putD_enc kP kP_inj]
theorem pop_eM {m : Mdl} {p : Pth} {v : Option (List Lf)} (h : p ≠ []) (e : aget m p = some v) : popKM true (eM m) [eP p] = some (eV v, eM (adrop m p)) := by
  have e1 : popKM true (eM m) [eP p] = if true = true then (key2 true (eP p)).bind fun k => (valD (enc kP eV m) k).map fun d => (d, .fd true (dropD (enc kP eV m) k)) else none := rfl
  rw [e1, if_pos rfl, key2_eP h]
  show (valD _ _).map _ = _
  rw [valD_enc kP kP_inj, e, dropD_enc kP kP_inj]
  rfl
@[simp] theorem isNon_eV {v : Option (List Lf)} : isNon (eV v) = v.isNone := by cases v <;> rfl
@[simp] theorem len_eP {p : Pth} : lenO [eP p] = some (.int p.length) := by unfold eP lenO lenD; simp
@[simp] theorem len_ls {ls : List Lf} : lenO [eV (some ls)] = some (.int ls.length) := by unfold eV lenO lenD; simp
theorem addO_P {p q : Pth} (h : p.length + q.length ≤ 1000) : addO (eP p) (eP q) = some (eP (p ++ q)) := by
  show (if (p.map D.str).length + (q.map D.str).length ≤ sizeLine then some (D.tup (p.map D.str ++ q.map D.str)) else none) = _
  have : sizeLine = 16777216 := rfl
  rw [if_pos (by rw [List.length_map, List.length_map]; omega), ← List.map_append]
  rfl
theorem sl_to {p : Pth} {i : Int} (h : 0 ≤ i) : slO (eP p) none (some i) = some (eP (p.take i.toNat)) := by unfold eP; rw [slO_t, cutD_to _ _ h]
theorem sl_from {p : Pth} {i : Int} (h : 0 ≤ i) : slO (eP p) (some i) none = some (eP (p.drop i.toNat)) := by unfold eP; rw [slO_t, cutD_from _ _ h]
theorem sl_last {p : Pth} : slO (eP p) none (some (-1)) = some (eP p.dropLast) := by unfold eP; rw [slO_t, cutD_last]
inductive Deed where
  | folder (p : Pth) | file (p : Pth) | put (p : Pth) (i : Int) (l : Lf) | trim (p : Pth) (i : Int) | out (p : Pth) | move (p q : Pth) | copy (p q : Pth)
def eD : Deed → D
  | .folder p => .tup [.str "folder", eP p]
  | .file p => .tup [.str "file", eP p]
  | .put p i l => .tup [.str "put", eP p, .int i, eL l]
  | .trim p i => .tup [.str "trim", eP p, .int i]
  | .out p => .tup [.str "out", eP p]
  | .move p q => .tup [.str "move", eP p, eP q]
  | .copy p q => .tup [.str "copy", eP p, eP q]
def GoodW (p : Pth) : Prop := p ≠ [] ∧ GoodP p
def GoodD : Deed → Prop
  | .folder p => GoodW p
  | .file p => GoodW p
  | .put p i l => GoodW p ∧ (0 ≤ i ∧ i ≤ 64) ∧ GoodL l
  | .trim p i => GoodW p ∧ 0 ≤ i ∧ i ≤ 64
  | .out p => GoodW p
  | .move p q => GoodW p ∧ GoodW q
  | .copy p q => GoodW p ∧ GoodW q
theorem eLk_eM {η : Type} {g : List (K2 × D) → List D} {i : Nat} {l : List (Option D)} {h : η} {m : Mdl} (e : l[i]? = some (some (eM m))) : (eLk g i : St η → Eff η (List D)) ⟨l, h⟩ = .ok (g (enc kP eV m)) ⟨l, h⟩ := by rw [a_eLk, e]; rfl
theorem atD_eM {α : Type} {i : Nat} {l : List (Option D)} {m : Mdl} {a : α} {s1 : St Unit} (e : l[i]? = some (some (eM m))) : atD i true ⟨l, ()⟩ (.ok a s1) = .ok a s1 := by
  unfold atD
  show (match l[i]? with
    | some (some (.fd t' _)) => if t' = true then (Eff.ok a s1 : Eff Unit α) else Eff.stuck
    | _ => Eff.stuck) = _
  rw [e]
  rfl
section
variable {η : Type} {h : η} {g : List (K2 × D) → List D} {m : Mdl} {a0 a1 : Option D} {r : List (Option D)} {α : Type} {x : α} {s1 : St Unit}
@[simp] theorem eLk_0 : (eLk g 0 : St η → Eff η (List D)) ⟨some (eM m) :: r, h⟩ = .ok (g (enc kP eV m)) ⟨some (eM m) :: r, h⟩ := rfl
@[simp] theorem eLk_1 : (eLk g 1 : St η → Eff η (List D)) ⟨a0 :: some (eM m) :: r, h⟩ = .ok (g (enc kP eV m)) ⟨a0 :: some (eM m) :: r, h⟩ := rfl
@[simp] theorem sortK_1 : (eSortK 1 : ER η) ⟨a0 :: some (eM m) :: r, h⟩ = if sortsOk (keysD (enc kP eV m)) = true then .ok (.fl ((keysD (enc kP eV m)).mergeSort dLe)) ⟨a0 :: some (eM m) :: r, h⟩ else .stuck := rfl
@[simp] theorem lenK_1 : (eLenK 1 : ER η) ⟨a0 :: some (eM m) :: r, h⟩ = if (enc kP eV m).length ≤ sizeLine then .ok (.int (enc kP eV m).length) ⟨a0 :: some (eM m) :: r, h⟩ else .stuck := rfl
@[simp] theorem atD_0 : atD 0 true ⟨some (eM m) :: r, ()⟩ (.ok x s1) = .ok x s1 := atD_eM rfl
@[simp] theorem atD_1 : atD 1 true ⟨a0 :: some (eM m) :: r, ()⟩ (.ok x s1) = .ok x s1 := atD_eM rfl
end
/-! ### what a model keeps -/
def lvs : Option (List Lf) → Nat
  | none => 0
  | some ls => ls.length
def room (m : Mdl) : Nat := 1 + (m.map fun x => 1 + lvs x.2).sum
structure Ok (m : Mdl) : Prop where
  nd : (m.map (·.1)).Nodup
  good : ∀ x ∈ m, GoodW x.1
  leaf : ∀ x ∈ m, ∀ ls, x.2 = some ls → ls.length ≤ 64 ∧ ∀ l ∈ ls, GoodL l
  small : m.length ≤ 1000
/-! ### what is drawn -/
def eN (ns : List Int) : D := .fl (ns.map .int)
def Dr (ns : List Int) : Prop := ns.length ≤ 4000 ∧ ∀ n ∈ ns, 0 ≤ n ∧ n < 2^31
theorem shp_eN {ns : List Int} : shp (eN ns) = true := by
  refine shp_of ?_ ?_
  · unfold eN pln
    refine plns_of fun d hd => ?_
    obtain ⟨x, hx, rfl⟩ := List.mem_map.mp hd
    rfl
  · unfold eN dep
    have : deps (ns.map D.int) ≤ 0 := deps_of fun d hd => by
      obtain ⟨x, hx, rfl⟩ := List.mem_map.mp hd
      exact Nat.le_refl _
    omega
theorem ev_eN {p q : List Int} : ev (eN p) (eN q) = decide (p = q) := by
  rw [Bool.eq_iff_iff, decide_eq_true_eq]
  exact ev_fl D.int (fun _ _ => ev_int) p q
theorem eq_eN {p q : List Int} : eqD (eN p) (eN q) = some (.bl (decide (p = q))) := by rw [eqD_of shp_eN shp_eN, ev_eN]
theorem pop0_eN {n : Int} {ns : List Int} : popAtM (eN (n :: ns)) [.int 0] = some (.int n, eN ns) := by
  show (if -(2 ^ 63 : Int) ≤ 0 ∧ (0 : Int) < 2 ^ 63 then (seqIndex? 0 (List.map D.int (n :: ns)).length).bind fun k => ((List.map D.int (n :: ns))[k]?).map fun d => (d, D.fl ((List.map D.int (n :: ns)).eraseIdx k)) else none) = _
  rw [if_pos (by omega)]
  have : seqIndex? 0 (List.map D.int (n :: ns)).length = some 0 := by
    unfold seqIndex?
    simp
  rw [this]
  rfl
end FL

/-! PD: built-ins computed. -/
namespace FL
open PySem L2
@[simp] theorem tyD_non : tyD .non = some "NoneType" := rfl
@[simp] theorem tyD_bl {b : Bool} : tyD (.bl b) = some "bool" := rfl
@[simp] theorem tyD_int {i : Int} : tyD (.int i) = some "int" := rfl
@[simp] theorem tyD_str {x : Str} : tyD (.str x) = some "str" := rfl
@[simp] theorem tyD_tup {ds : List D} : tyD (.tup ds) = some "tuple" := rfl
@[simp] theorem tyD_fl {ds : List D} : tyD (.fl ds) = some "list" := rfl
@[simp] theorem tyD_fd {kvs : List (K2 × D)} : tyD (.fd false kvs) = some "dict" := rfl
@[simp] theorem tyD_eP {p : Pth} : tyD (eP p) = some "tuple" := rfl
@[simp] theorem tyD_eL {p : Lf} : tyD (eL p) = some "tuple" := rfl
theorem isi_of {d : D} {t T : String} (h : tyD d = some t) (hT : T ∈ kinds := by decide) : isiO [d, .ty T] = some (.bl (isK t T)) := by
  show (if T ∈ kinds then (tyD d).map fun t => D.bl (isK t T) else none) = _
  rw [if_pos hT, h]
  rfl
/-- of this kind? -/
def isT (T : String) (d : D) : Bool := match tyD d with
  | some t => isK t T
  | none => false
theorem isi_isT {d : D} {T : String} (h : (tyD d).isSome = true) (hT : T ∈ kinds := by decide) : isiO [d, .ty T] = some (.bl (isT T d)) := by
  obtain ⟨t, ht⟩ := Option.isSome_iff_exists.mp h
  rw [isi_of ht hT]
  unfold isT
  rw [ht]
@[simp] theorem kInt : ("int" ∈ kinds) = True := by simp [kinds]
@[simp] theorem kBool : ("bool" ∈ kinds) = True := by simp [kinds]
@[simp] theorem kStr : ("str" ∈ kinds) = True := by simp [kinds]
@[simp] theorem kTup : ("tuple" ∈ kinds) = True := by simp [kinds]
@[simp] theorem kLst : ("list" ∈ kinds) = True := by simp [kinds]
@[simp] theorem isi_int {i : Int} {T : String} : isiO [.int i, .ty T] = if T ∈ kinds then some (.bl (isK "int" T)) else none := rfl
@[simp] theorem isi_bl {i : Bool} {T : String} : isiO [.bl i, .ty T] = if T ∈ kinds then some (.bl (isK "bool" T)) else none := rfl
@[simp] theorem isi_non {T : String} : isiO [.non, .ty T] = if T ∈ kinds then some (.bl (isK "NoneType" T)) else none := rfl
@[simp] theorem isi_str {i : Str} {T : String} : isiO [.str i, .ty T] = if T ∈ kinds then some (.bl (isK "str" T)) else none := rfl
@[simp] theorem isi_tup {i : List D} {T : String} : isiO [.tup i, .ty T] = if T ∈ kinds then some (.bl (isK "tuple" T)) else none := rfl
@[simp] theorem isi_fl {i : List D} {T : String} : isiO [.fl i, .ty T] = if T ∈ kinds then some (.bl (isK "list" T)) else none := rfl
@[simp] theorem isi_fd {i : List (K2 × D)} {T : String} : isiO [.fd false i, .ty T] = if T ∈ kinds then some (.bl (isK "dict" T)) else none := rfl
@[simp] theorem isi_eP {p : Pth} {T : String} : isiO [eP p, .ty T] = if T ∈ kinds then some (.bl (isK "tuple" T)) else none := rfl
@[simp] theorem isi_eL {p : Lf} {T : String} : isiO [eL p, .ty T] = if T ∈ kinds then some (.bl (isK "tuple" T)) else none := rfl
@[simp] theorem len_tup {xs : List D} : lenO [.tup xs] = some (.int xs.length) := by unfold lenO lenD; simp
@[simp] theorem len_fl {xs : List D} : lenO [.fl xs] = some (.int xs.length) := by unfold lenO lenD; simp
@[simp] theorem len_eL {l : Lf} : lenO [eL l] = some (.int l.length) := by unfold eL lenO lenD; simp
theorem len_str {x : Str} (h : x.length ≤ sizeLine) : lenO [.str x] = some (.int x.length) := by unfold lenO lenD; simp [h]
@[simp] theorem atI_0 {α : Type} {x : α} {xs : List α} : atI (x :: xs) 0 = some x := by rw [atI_pos (by omega) (by rw [List.length_cons]; omega)]; rfl
@[simp] theorem atI_1 {α : Type} {x y : α} {xs : List α} : atI (x :: y :: xs) 1 = some y := by rw [atI_pos (by omega) (by simp only [List.length_cons]; omega)]; rfl
@[simp] theorem atI_2 {α : Type} {x y z : α} {xs : List α} : atI (x :: y :: z :: xs) 2 = some z := by rw [atI_pos (by omega) (by simp only [List.length_cons]; omega)]; rfl
@[simp] theorem atI_3 {α : Type} {x y z w : α} {xs : List α} : atI (x :: y :: z :: w :: xs) 3 = some w := by rw [atI_pos (by omega) (by simp only [List.length_cons]; omega)]; rfl
theorem lstO_ok {ds : List D} (h : ds.length ≤ 16777216) : lstO ds = .ok (.fl ds) := by unfold lstO; rw [if_pos (by rw [sizeLine_eq]; exact h)]
theorem tupO_ok {ds : List D} (h : ds.length ≤ 16777216) : tupO ds = .ok (.tup ds) := by unfold tupO; rw [if_pos (by rw [sizeLine_eq]; exact h)]
@[simp] theorem tupO_0 : tupO [] = .ok (.tup []) := rfl
@[simp] theorem tupO_1 {a : D} : tupO [a] = .ok (.tup [a]) := rfl
@[simp] theorem tupO_2 {a b : D} : tupO [a, b] = .ok (.tup [a, b]) := rfl
@[simp] theorem tupO_3 {a b c : D} : tupO [a, b, c] = .ok (.tup [a, b, c]) := rfl
@[simp] theorem tupO_4 {a b c d : D} : tupO [a, b, c, d] = .ok (.tup [a, b, c, d]) := rfl
@[simp] theorem tupO_5 {a b c d e : D} : tupO [a, b, c, d, e] = .ok (.tup [a, b, c, d, e]) := rfl
@[simp] theorem lstO_0 : lstO [] = .ok (.fl []) := rfl
@[simp] theorem lstO_1 {a : D} : lstO [a] = .ok (.fl [a]) := rfl
@[simp] theorem lstO_2 {a b : D} : lstO [a, b] = .ok (.fl [a, b]) := rfl
@[simp] theorem lstO_3 {a b c : D} : lstO [a, b, c] = .ok (.fl [a, b, c]) := rfl
@[simp] theorem lstO_4 {a b c d : D} : lstO [a, b, c, d] = .ok (.fl [a, b, c, d]) := rfl
@[simp] theorem lstO_5 {x0 x1 x2 x3 x4 : D} : lstO [x0, x1, x2, x3, x4] = .ok (.fl [x0, x1, x2, x3, x4]) := rfl
@[simp] theorem lstO_6 {x0 x1 x2 x3 x4 x5 : D} : lstO [x0, x1, x2, x3, x4, x5] = .ok (.fl [x0, x1, x2, x3, x4, x5]) := rfl
@[simp] theorem lstO_7 {x0 x1 x2 x3 x4 x5 x6 : D} : lstO [x0, x1, x2, x3, x4, x5, x6] = .ok (.fl [x0, x1, x2, x3, x4, x5, x6]) := rfl
@[simp] theorem lstO_8 {x0 x1 x2 x3 x4 x5 x6 x7 : D} : lstO [x0, x1, x2, x3, x4, x5, x6, x7] = .ok (.fl [x0, x1, x2, x3, x4, x5, x6, x7]) := rfl
@[simp] theorem lstO_9 {x0 x1 x2 x3 x4 x5 x6 x7 x8 : D} : lstO [x0, x1, x2, x3, x4, x5, x6, x7, x8] = .ok (.fl [x0, x1, x2, x3, x4, x5, x6, x7, x8]) := rfl
@[simp] theorem lstO_10 {x0 x1 x2 x3 x4 x5 x6 x7 x8 x9 : D} : lstO [x0, x1, x2, x3, x4, x5, x6, x7, x8, x9] = .ok (.fl [x0, x1, x2, x3, x4, x5, x6, x7, x8, x9]) := rfl
@[simp] theorem lstO_11 {x0 x1 x2 x3 x4 x5 x6 x7 x8 x9 x10 : D} : lstO [x0, x1, x2, x3, x4, x5, x6, x7, x8, x9, x10] = .ok (.fl [x0, x1, x2, x3, x4, x5, x6, x7, x8, x9, x10]) := rfl
@[simp] theorem lstO_12 {x0 x1 x2 x3 x4 x5 x6 x7 x8 x9 x10 x11 : D} : lstO [x0, x1, x2, x3, x4, x5, x6, x7, x8, x9, x10, x11] = .ok (.fl [x0, x1, x2, x3, x4, x5, x6, x7, x8, x9, x10, x11]) := rfl
@[simp] theorem tupO_6 {x0 x1 x2 x3 x4 x5 : D} : tupO [x0, x1, x2, x3, x4, x5] = .ok (.tup [x0, x1, x2, x3, x4, x5]) := rfl
@[simp] theorem tupO_7 {x0 x1 x2 x3 x4 x5 x6 : D} : tupO [x0, x1, x2, x3, x4, x5, x6] = .ok (.tup [x0, x1, x2, x3, x4, x5, x6]) := rfl
@[simp] theorem tupO_8 {x0 x1 x2 x3 x4 x5 x6 x7 : D} : tupO [x0, x1, x2, x3, x4, x5, x6, x7] = .ok (.tup [x0, x1, x2, x3, x4, x5, x6, x7]) := rfl
@[simp] theorem tupO_9 {x0 x1 x2 x3 x4 x5 x6 x7 x8 : D} : tupO [x0, x1, x2, x3, x4, x5, x6, x7, x8] = .ok (.tup [x0, x1, x2, x3, x4, x5, x6, x7, x8]) := rfl
theorem asBls_m : ∀ bs : List Bool, asBls (bs.map D.bl) = some bs
  | [] => rfl
  | b :: bs => by
    show (asBls (bs.map D.bl)).map (b :: ·) = _
    rw [asBls_m bs]
    rfl
theorem asInts_m : ∀ bs : List Int, asInts (bs.map D.int) = some bs
  | [] => rfl
  | b :: bs => by
    show (asInts (bs.map D.int)).map (b :: ·) = _
    rw [asInts_m bs]
    rfl
theorem asStrs_m : ∀ bs : List Str, asStrs (bs.map D.str) = some bs
  | [] => rfl
  | b :: bs => by
    show (asStrs (bs.map D.str)).map (b :: ·) = _
    rw [asStrs_m bs]
    rfl
theorem allO_true {ys : List D} (h : ∀ y ∈ ys, y = .bl true) : allO [.fl ys] = some (.bl true) := by
  have e : ys = (ys.map fun _ => true).map D.bl := by
    rw [List.map_map]
    conv => lhs; rw [← List.map_id ys]
    exact List.map_congr_left fun y hy => h y hy
  show (asBls ys).map _ = _
  rw [e, asBls_m]
  simp
theorem allO_bls {bs : List Bool} : allO [.fl (bs.map D.bl)] = some (.bl (bs.all id)) := by
  show (asBls _).map _ = _
  rw [asBls_m]
  rfl
@[simp] theorem gtI_ii {i j : Int} : gtI (.int i) (.int j) = some (.bl (decide (j < i))) := rfl
@[simp] theorem seqO_t {xs : List D} : seqO (.tup xs) = some xs := rfl
@[simp] theorem seqO_l {xs : List D} : seqO (.fl xs) = some xs := rfl
@[simp] theorem seqO_s {x : Str} : seqO (.str x) = some (sgn x) := rfl
theorem ran1_ok' {n : Int} (h : 0 ≤ n) (h2 : n < 2^60) : ran1 [.int n] = some ((List.range n.toNat).map fun i => .int (i : Int)) := by
  show (if _ then _ else _) = _
  rw [if_pos (by omega)]
  unfold ran
  simp
end FL

/-! PE: paths sorted. -/
namespace FL
open PySem L2
theorem pD_eP (p : Pth) : pD (eP p) = .tuple (p.map .str) := by
  unfold eP pD
  congr 1
  induction p with
  | nil => rfl
  | cons x p ih => simp only [List.map_cons, pDs, pD, ih]
theorem pOk_eP (p : Pth) : pOk (eP p) = true := by
  unfold eP pOk
  induction p with
  | nil => rfl
  | cons x p ih => simp only [List.map_cons, pOks, pOk, ih, Bool.and_self]
theorem alike_strs : ∀ a b : List Str, PySem.W.alikeAll (a.map PyData.str) (b.map .str) = true
  | [], _ => by simp [PySem.W.alikeAll]
  | _ :: _, [] => by simp [PySem.W.alikeAll]
  | x :: a, y :: b => by simp [PySem.W.alikeAll, PySem.W.alike, alike_strs a b]
theorem depth_strs : ∀ a : List Str, PyData.depthAll (a.map PyData.str) = 0
  | [] => rfl
  | x :: a => by simp [PyData.depthAll, PyData.depth, depth_strs a]
theorem sorts_eP {ps : List Pth} (h : ∀ p ∈ ps, p ≠ []) (hl : ps.length ≤ 16777216) : sortsOk (ps.map eP) = true := by
  unfold sortsOk
  simp only [Bool.and_eq_true, Bool.or_eq_true, List.all_eq_true, List.mem_map, forall_exists_index, and_imp, forall_apply_eq_imp_iff₂, decide_eq_true_eq, List.length_map]
  refine ⟨⟨fun p _ => pOk_eP p, hl⟩, fun p _ q _ => ?_, .inl fun p hp => ?_, fun p _ => ?_⟩
  · rw [pD_eP, pD_eP]
    simp only [PySem.W.alike, alike_strs]
  · rw [pD_eP]
    cases p with
    | nil => exact absurd rfl (h _ hp)
    | cons x p => rfl
  · rw [pD_eP]
    simp only [PyData.depth, depth_strs]
    omega
def sortedP (ps : List Pth) : List Pth := ps.mergeSort fun a b => dLe (eP a) (eP b)
theorem sortedP_perm (ps : List Pth) : (sortedP ps).Perm ps := List.mergeSort_perm _ _
theorem sort_map (ps : List Pth) : (ps.map eP).mergeSort dLe = (sortedP ps).map eP := (List.map_mergeSort (r := fun a b => dLe (eP a) (eP b)) (s := dLe) (f := eP) (l := ps) (fun _ _ _ _ => rfl)).symm
theorem sortO_eP {ps : List Pth} (h : ∀ p ∈ ps, p ≠ []) (hl : ps.length ≤ 16777216) : sortO [.fl (ps.map eP)] = some (.fl ((sortedP ps).map eP)) := by
  show (if sortsOk (ps.map eP) = true then some (D.fl ((ps.map eP).mergeSort dLe)) else none) = _
  rw [if_pos (sorts_eP h hl), sort_map]
theorem dep_ePs (ps : List Pth) : dep (.fl (ps.map eP)) ≤ 3 := by
  unfold dep
  have : deps (ps.map eP) ≤ 2 := deps_of fun d hd => by
    obtain ⟨p, _, rfl⟩ := List.mem_map.mp hd
    unfold eP dep
    have : deps (p.map D.str) ≤ 0 := deps_of fun d hd => by
      obtain ⟨x, _, rfl⟩ := List.mem_map.mp hd
      exact Nat.le_refl _
    omega
  omega
theorem shp_ePs {ps : List Pth} (h : ∀ p ∈ ps, ∀ x ∈ p, Good x) : shp (.fl (ps.map eP)) = true := by
  refine shp_of ?_ (by have := dep_ePs ps; omega)
  unfold pln
  refine plns_of fun d hd => ?_
  obtain ⟨p, hp, rfl⟩ := List.mem_map.mp hd
  exact (Bool.and_eq_true_iff.mp (shp_eP (h p hp))).1
theorem eq_ePs {ps qs : List Pth} (hp : ∀ p ∈ ps, ∀ x ∈ p, Good x) (hq : ∀ p ∈ qs, ∀ x ∈ p, Good x) : eqD (.fl (ps.map eP)) (.fl (qs.map eP)) = some (.bl (decide (ps = qs))) := by
  rw [eqD_of (shp_ePs hp) (shp_ePs hq)]
  congr 2
  rw [Bool.eq_iff_iff, decide_eq_true_eq]
  exact ev_fl eP (fun a b => by rw [ev_eP, decide_eq_true_eq]) ps qs
theorem mem_atI {α : Type} {xs : List α} {n : Int} (h : xs ≠ []) : ∃ x, atI xs (n % (xs.length : Int)) = some x ∧ x ∈ xs := by
  have : 0 < xs.length := List.length_pos_iff.mpr h
  exact atI_some (Int.emod_nonneg _ (by omega)) (Int.emod_lt_of_pos _ (by omega))
end FL

namespace SH
open PySem FL L2
def isInt : D → Bool
  | .int _ => true
  | _ => false
theorem num_ok {d : D} (h : (tyD d).isSome = true) : F_is_number [d] = .ok (.bl (isInt d)) [] := by
  cases d with
  | fd t kvs => cases t <;> simp [F_is_number, r_is_number, runF, startS, isK, isInt, tyD] at h ⊢
  | ty n => cases h
  | ob n => cases h
  | _ => simp [F_is_number, r_is_number, runF, startS, isK, isInt]
theorem num_i {i : Int} : F_is_number [.int i] = .ok (.bl true) [] := num_ok rfl
def inR (a b : Int) : D → Bool
  | .int i => decide (a ≤ i) && decide (i ≤ b)
  | _ => false
theorem count_ok {d : D} (h : (tyD d).isSome = true) : F_is_count [d] = .ok (.bl (inR 0 64 d)) [] := by
  have := num_ok h
  cases d <;> simp [F_is_count, r_is_count, runF, startS, this, isInt, inR]
  rename_i i
  by_cases c : 0 ≤ i <;> simp [c]
theorem tally_ok {d : D} (h : (tyD d).isSome = true) : F_is_tally [d] = .ok (.bl (inR 0 2305843009213693950 d)) [] := by
  have := num_ok h
  cases d <;> simp [F_is_tally, r_is_tally, runF, startS, this, isInt, inR]
  rename_i i
  by_cases c : 0 ≤ i <;> simp [c]
  omega
theorem name_ok {x : Str} (h : Good x) : F_is_name [.str x] = .ok (.bl true) [] := by
  obtain ⟨h1, h2, h3⟩ := h
  have hx : (x = ("" : Str)) = False := by
    refine eq_false fun e => ?_
    rw [e] at h1
    exact absurd h1 (by decide)
  have hl : lenO [.str x] = some (.int x.length) := len_str (by rw [sizeLine_eq]; omega)
  have h8 : ¬ (8 : Int) < (x.length : Int) := by omega
  have hs : x.cps.toList.length = x.length := by simp [Str.length]
  have hc := compL_map (g := (gName 1 : GR Unit)) (tt := eYes) (te := (liftP (fOp inO (fVar 1) (fC (.str "abcdefghijklmnopqrstuvwxyz"))))) (vs := [1]) (s := ⟨[some (.str x), none], ()⟩) (fun c : Nat => D.str ⟨#[c]⟩) (fun _ => .bl true) (xs := x.cps.toList) (fun c hc => by
    refine ⟨_, rfl, rfl, ?_, rfl⟩
    have e : inO (.str ⟨#[c]⟩) (.str "abcdefghijklmnopqrstuvwxyz") = some (.bl (decide (c ∈ List.range' 97 26))) := rfl
    have : c ∈ List.range' 97 26 := by rw [List.mem_range']; have := h3 c hc; exact ⟨c - 97, by omega, by omega⟩
    simp [e, this])
  have ha : allO [.fl (x.cps.toList.map fun _ => D.bl true)] = some (.bl true) := allO_true fun y hy => by
    obtain ⟨_, _, rfl⟩ := List.mem_map.mp hy
    rfl
  have hlst : lstO (x.cps.toList.map fun _ => D.bl true) = .ok (.fl _) := lstO_ok (by rw [List.length_map, hs]; omega)
  have e : sgn x = x.cps.toList.map fun c => D.str ⟨#[c]⟩ := rfl
  simp [F_is_name, r_is_name, runF, startS, isK, hx, hl, h8, e, hc, hlst, ha]
theorem path_ok {p : Pth} (h : GoodP p) : F_is_path [eP p] = .ok (.bl true) [] := by
  obtain ⟨h1, h2⟩ := h
  have h6 : ¬ (6 : Int) < (p.length : Int) := by omega
  have hc := compL_map (g := (gName 1 : GR Unit)) (tt := eYes) (te := (liftP (fCall0 F_is_name (fCons (fVar 1) fNil)))) (vs := [1]) (s := ⟨[some (eP p), none], ()⟩) D.str (fun _ => .bl true) (xs := p) (fun x hx => by
    refine ⟨_, rfl, rfl, ?_, rfl⟩
    simp [name_ok (h2 x hx)])
  have ha : allO [.fl (p.map fun _ => D.bl true)] = some (.bl true) := allO_true fun y hy => by
    obtain ⟨_, _, rfl⟩ := List.mem_map.mp hy
    rfl
  have hl : lstO (p.map fun _ => D.bl true) = .ok (.fl _) := lstO_ok (by rw [List.length_map]; omega)
  have e : seqO (eP p) = some (p.map D.str) := rfl
  simp [F_is_path, r_is_path, runF, startS, isK, h6, e, hc, hl, ha]
theorem way_ok {p : Pth} (h : GoodW p) : F_is_way [eP p] = .ok (.bl true) [] := by
  have hn : neD (eP p) (.tup []) = some (.bl true) := by
    rw [← eP_nil, ne_eP h.2.2 (fun _ z => by cases z)]
    simp [h.1]
  simp [F_is_way, r_is_way, runF, startS, path_ok h.2, hn]
theorem leaf_ok {l : Lf} (h : GoodL l) : F_is_leaf [eL l] = .ok (.bl true) [] := by
  obtain ⟨h1, h2⟩ := h
  have h6 : ¬ (8 : Int) < (l.length : Int) := by omega
  have hc := compL_map (g := (gName 1 : GR Unit)) (tt := eYes) (te := (liftP (fAndV (fCall0 F_is_number (fCons (fVar 1) fNil)) (fAndV (fOp geI (fVar 1) (fC (.int 0))) (fOp leI (fVar 1) (fC (.int 255))))))) (vs := [1]) (s := ⟨[some (eL l), none], ()⟩) D.int (fun _ => .bl true) (xs := l) (fun x hx => by
    refine ⟨_, rfl, rfl, ?_, rfl⟩
    have := h2 x hx
    simp [num_i, this.1, this.2])
  have ha : allO [.fl (l.map fun _ => D.bl true)] = some (.bl true) := allO_true fun y hy => by
    obtain ⟨_, _, rfl⟩ := List.mem_map.mp hy
    rfl
  have hl : lstO (l.map fun _ => D.bl true) = .ok (.fl _) := lstO_ok (by rw [List.length_map]; omega)
  have e : seqO (eL l) = some (l.map D.int) := rfl
  simp [F_is_leaf, r_is_leaf, runF, startS, isK, h6, e, hc, hl, ha]
theorem shp_str {x : Str} (h : PyData.strOk x = true) : shp (.str x) = true := shp_of h (by unfold dep; omega)
theorem pln_eP {p : Pth} (h : ∀ x ∈ p, Good x) : pln (eP p) = true := (Bool.and_eq_true_iff.mp (shp_eP h)).1
theorem dep_eP {p : Pth} : dep (eP p) = 1 := by
  unfold eP dep
  have : deps (p.map D.str) ≤ 0 := deps_of fun d hd => by
    obtain ⟨x, hx, rfl⟩ := List.mem_map.mp hd
    exact Nat.le_refl _
  omega
theorem dep_eL {p : Lf} : dep (eL p) = 1 := by
  unfold eL dep
  have : deps (p.map D.int) ≤ 0 := deps_of fun d hd => by
    obtain ⟨x, hx, rfl⟩ := List.mem_map.mp hd
    exact Nat.le_refl _
  omega
theorem pln_eL {l : Lf} : pln (eL l) = true := (Bool.and_eq_true_iff.mp (shp_eL (l := l))).1
theorem shp_eD {d : Deed} (h : GoodD d) : shp (eD d) = true := by
  have s1 : PyData.strOk ("folder" : Str) = true := by decide +kernel
  have s2 : PyData.strOk ("file" : Str) = true := by decide +kernel
  have s3 : PyData.strOk ("put" : Str) = true := by decide +kernel
  have s4 : PyData.strOk ("trim" : Str) = true := by decide +kernel
  have s5 : PyData.strOk ("out" : Str) = true := by decide +kernel
  have s6 : PyData.strOk ("move" : Str) = true := by decide +kernel
  have s7 : PyData.strOk ("copy" : Str) = true := by decide +kernel
  refine shp_of ?_ ?_
  · cases d <;> simp only [GoodD, GoodW, GoodP] at h <;> simp [eD, pln, plns, s1, s2, s3, s4, s5, s6, s7, pln_eP, pln_eL, h] <;> first | exact pln_eP h.2.2 | exact pln_eP h.1.2.2 | exact ⟨pln_eP h.1.2.2, pln_eP h.2.2.2⟩
  · cases d <;> simp [eD, dep, deps, dep_eP, dep_eL]
theorem deed_ok {d : Deed} (h : GoodD d) : F_is_deed [eD d] = .ok (.bl true) [] := by
  have hs := shp_eD h
  have he : eqD (eD d) (.tup []) = some (.bl false) := by
    rw [eqD_of hs (by decide)]
    cases d <;> simp [ev, eD, pyD, pyDs, PyData.eqv, PyData.eqvAll]
  have k1 : kt_SIZES.lookup ("folder" : Str) = some (.int 2) := rfl
  have k2 : kt_SIZES.lookup ("file" : Str) = some (.int 2) := rfl
  have k3 : kt_SIZES.lookup ("put" : Str) = some (.int 4) := rfl
  have k4 : kt_SIZES.lookup ("trim" : Str) = some (.int 3) := rfl
  have k5 : kt_SIZES.lookup ("out" : Str) = some (.int 2) := rfl
  have k6 : kt_SIZES.lookup ("move" : Str) = some (.int 3) := rfl
  have k7 : kt_SIZES.lookup ("copy" : Str) = some (.int 3) := rfl
  have c : ∀ i : Int, 0 ≤ i ∧ i ≤ 64 → F_is_count [.int i] = .ok (.bl true) [] := fun i h => by rw [count_ok rfl]; simp [inR, h.1, h.2]
  cases d <;> simp only [GoodD] at h
  all_goals simp only [eD] at he ⊢
  · simp (decide := true) [F_is_deed, r_is_deed, runF, startS, isK, he, inK, ixK, k1, way_ok h]
  · simp (decide := true) [F_is_deed, r_is_deed, runF, startS, isK, he, inK, ixK, k2, way_ok h]
  · simp (decide := true) [F_is_deed, r_is_deed, runF, startS, isK, he, inK, ixK, k3, way_ok h.1, c _ h.2.1, leaf_ok h.2.2]
  · simp (decide := true) [F_is_deed, r_is_deed, runF, startS, isK, he, inK, ixK, k4, way_ok h.1, c _ h.2]
  · simp (decide := true) [F_is_deed, r_is_deed, runF, startS, isK, he, inK, ixK, k5, way_ok h]
  · simp (decide := true) [F_is_deed, r_is_deed, runF, startS, isK, he, inK, ixK, k6, way_ok h.1, way_ok h.2]
  · simp (decide := true) [F_is_deed, r_is_deed, runF, startS, isK, he, inK, ixK, k7, way_ok h.1, way_ok h.2]
end SH

namespace SH
open PySem FL L2
theorem sent_t {x1 x3 : D} {ds : List D} {v : D → Bool} (h1 : (tyD x1).isSome = true) (h3 : (tyD x3).isSome = true) (hv : ∀ d ∈ ds, F_is_deed [d] = .ok (.bl (v d)) []) (hl : ds.length ≤ 10000) :
    F_is_sent [.tup [.str "sent", x1, .tup ds, x3]] = .ok (.bl (inR 0 2305843009213693950 x1 && (inR 0 2305843009213693950 x3 && (decide (ds.length ≤ 1000) && ds.all v)))) [] := by
  have t1 := tally_ok h1
  have t3 := tally_ok h3
  have hc := compL_map (g := (gName 1 : GR Unit)) (tt := eYes) (te := (liftP (fCall0 F_is_deed (fCons (fVar 1) fNil)))) (vs := [1]) (s := ⟨[some (.tup [.str "sent", x1, .tup ds, x3]), none], ()⟩) (fun d => d) (fun d => .bl (v d)) (xs := ds) (fun x hx => by
    refine ⟨_, rfl, rfl, ?_, rfl⟩
    simp [hv x hx])
  rw [List.map_id'] at hc
  have ha : allO [.fl (ds.map fun d => D.bl (v d))] = some (.bl (ds.all v)) := by
    have := allO_bls (bs := ds.map v)
    rw [List.map_map, List.all_map] at this
    exact this
  have hlst : lstO (ds.map fun d => D.bl (v d)) = .ok (.fl _) := lstO_ok (by rw [List.length_map]; omega)
  cases c1 : inR 0 2305843009213693950 x1 <;> simp [F_is_sent, r_is_sent, runF, startS, isK, t1, t3, c1]
  cases c3 : inR 0 2305843009213693950 x3 <;> simp
  by_cases c : ds.length ≤ 1000
  · have : ¬ (1000 : Int) < (ds.length : Int) := by omega
    simp [c, this, hc, ha, hlst]
  · have : (1000 : Int) < (ds.length : Int) := by omega
    simp [c, this]
theorem sent_l {xs : List D} : F_is_sent [.fl xs] = .ok (.bl false) [] := by
  simp [F_is_sent, r_is_sent, runF, startS, isK]
theorem sent_n {xs : List D} (h : xs.length ≠ 4) : F_is_sent [.tup xs] = .ok (.bl false) [] := by
  have : (decide ((xs.length : Int) = 4)) = false := by rw [decide_eq_false_iff_not]; omega
  simp [F_is_sent, r_is_sent, runF, startS, isK, this]
theorem sent_w {x : Str} {a b c : D} (h : x ≠ ("sent" : Str)) : F_is_sent [.tup [.str x, a, b, c]] = .ok (.bl false) [] := by
  simp [F_is_sent, r_is_sent, runF, startS, isK, h]
theorem sent_non {a b c : D} : F_is_sent [.tup [.non, a, b, c]] = .ok (.bl false) [] := by
  simp [F_is_sent, r_is_sent, runF, startS, isK]
theorem sent_int {i : Int} {a b c : D} : F_is_sent [.tup [.int i, a, b, c]] = .ok (.bl false) [] := by
  simp [F_is_sent, r_is_sent, runF, startS, isK]
theorem sent_ld {x1 x3 : D} {ds : List D} (h1 : (tyD x1).isSome = true) (h3 : (tyD x3).isSome = true) : F_is_sent [.tup [.str "sent", x1, .fl ds, x3]] = .ok (.bl false) [] := by
  have t1 := tally_ok h1
  have t3 := tally_ok h3
  cases c1 : inR 0 2305843009213693950 x1 <;> simp [F_is_sent, r_is_sent, runF, startS, isK, t1, t3, c1]
theorem said_ok {d : D} {v : Bool} (h : F_is_sent [d] = .ok (.bl v) []) (due : Bool) : F__law_said [d, .bl due] = .ok (.bl (decide (v = due))) [] := by
  simp [F__law_said, r__law_said, runF, startS, isK, h]
/-! ### draws -/
theorem mixed_ok (a b : Int) (hb : 0 ≤ b) (hb2 : b < 2^20) : ∃ n, F__law_mixed [.int a, .int b] = .ok (.int n) [] ∧ 0 ≤ n ∧ n < 2^31 := by
  have h1 : 0 ≤ a % 2147483647 := Int.emod_nonneg _ (by decide)
  have h2 : a % 2147483647 < 2147483647 := Int.emod_lt_of_pos _ (by decide)
  have m1 : mulC (a % 2147483647) 48271 = true := mulC_ok (by omega) (by omega) (by omega) (by omega)
  have m2 : mulC 7919 b = true := mulC_ok (by omega) (by omega) (by omega) (by omega)
  have m3 : mulC (7919 * b) b = true := mulC_ok (by omega) (by omega) (by omega) (by omega)
  let z := (a % 2147483647 * 48271 + 7919 * b * b + 104729) % 2147483647
  have z1 : 0 ≤ z := Int.emod_nonneg _ (by decide)
  have z2 : z < 2147483647 := Int.emod_lt_of_pos _ (by decide)
  have m4 : mulC z z = true := mulC_ok (by omega) (by omega) (by omega) (by omega)
  refine ⟨z * z % 2147483629, ?_, Int.emod_nonneg _ (by decide), ?_⟩
  · simp [F__law_mixed, r__law_mixed, runF, startS, m1, m2, m3, m4, z]
  · have := Int.emod_lt_of_pos (z * z) (b := 2147483629) (by decide)
    omega
theorem next_ok {ns : List Int} (h : Dr ns) : ∃ n ns', F__law_next [eN ns] = .ok (.int n) [eN ns'] ∧ (0 ≤ n ∧ n < 2^31) ∧ Dr ns' := by
  have he : eqD (eN ns) (.fl []) = some (.bl (decide (ns = []))) := eq_eN (p := ns) (q := [])
  cases ns with
  | nil => exact ⟨0, [], by simp [F__law_next, r__law_next, runF, startS, he], by omega, h⟩
  | cons n ns =>
    refine ⟨n, ns, by simp [F__law_next, r__law_next, runF, startS, he, pop0_eN], h.2 n List.mem_cons_self, ?_, fun m hm => h.2 m (List.mem_cons_of_mem _ hm)⟩
    have := h.1
    rw [List.length_cons] at this
    omega
theorem goods : ∀ x ∈ (["a", "b", "z", "ab", "ba", "zz", "abc", "hgfedcba", "c", "d"] : List Str), Good x := by
  intro x hx
  simp only [List.mem_cons, List.not_mem_nil, or_false] at hx
  rcases hx with rfl | rfl | rfl | rfl | rfl | rfl | rfl | rfl | rfl | rfl <;> exact ⟨by decide +kernel, by decide +kernel, by decide +kernel⟩
theorem nm_ok (n : Int) : ∃ x, F__law_name [.int n] = .ok (.str x) [] ∧ Good x := by
  have h1 : 0 ≤ n % 10 := Int.emod_nonneg _ (by decide)
  have h2 : n % 10 < 10 := Int.emod_lt_of_pos _ (by decide)
  obtain ⟨x, hx, hm⟩ := atI_some (xs := (["a", "b", "z", "ab", "ba", "zz", "abc", "hgfedcba", "c", "d"] : List Str)) h1 (by simpa using h2)
  have e := atI_map D.str (["a", "b", "z", "ab", "ba", "zz", "abc", "hgfedcba", "c", "d"] : List Str) (n % 10)
  rw [hx] at e
  simp only [List.map_cons, List.map_nil, Option.map_some] at e
  exact ⟨x, by simp [F__law_name, r__law_name, runF, startS, e], goods x hm⟩
theorem tup_all {P : D → Prop} {α : Type} (f : α → D) (Q : α → Prop) (hP : ∀ d, P d → ∃ a, d = f a ∧ Q a) : ∀ ds : List D, (∀ d ∈ ds, P d) → ∃ as : List α, ds = as.map f ∧ ∀ a ∈ as, Q a
  | [], _ => ⟨[], rfl, fun _ z => by cases z⟩
  | d :: ds, h => by
    obtain ⟨a, rfl, q⟩ := hP d (h d List.mem_cons_self)
    obtain ⟨as, rfl, r⟩ := tup_all f Q hP ds fun x hx => h x (List.mem_cons_of_mem _ hx)
    exact ⟨a :: as, rfl, fun x hx => by rcases List.mem_cons.mp hx with rfl | hx; exact q; exact r x hx⟩
theorem pth_ok {ns : List Int} (h : Dr ns) : ∃ p ns', F__law_path [eN ns] = .ok (eP p) [eN ns'] ∧ GoodW p ∧ Dr ns' := by
  obtain ⟨n, n1, e1, _, d1⟩ := next_ok h
  have h1 : 0 ≤ n % 10 := Int.emod_nonneg _ (by decide)
  have h2 : n % 10 < 10 := Int.emod_lt_of_pos _ (by decide)
  obtain ⟨k, hk, hm⟩ := atI_some (xs := ([1, 1, 1, 2, 2, 2, 3, 3, 4, 6] : List Int)) h1 (by simpa using h2)
  have ek := atI_map D.int ([1, 1, 1, 2, 2, 2, 3, 3, 4, 6] : List Int) (n % 10)
  rw [hk] at ek
  simp only [List.map_cons, List.map_nil, Option.map_some] at ek
  have k6 : 1 ≤ k ∧ k ≤ 6 := by simp only [List.mem_cons, List.not_mem_nil, or_false] at hm; omega
  have h3 : 0 ≤ n / 10 % 3 := Int.emod_nonneg _ (by decide)
  have h4 : n / 10 % 3 < 3 := Int.emod_lt_of_pos _ (by decide)
  obtain ⟨m, hm, mm⟩ := atI_some (xs := ([2, 4, 10] : List Int)) h3 (by simpa using h4)
  have em := atI_map D.int ([2, 4, 10] : List Int) (n / 10 % 3)
  rw [hm] at em
  simp only [List.map_cons, List.map_nil, Option.map_some] at em
  have mpos : 0 < m := by simp only [List.mem_cons, List.not_mem_nil, or_false] at mm; omega
  obtain ⟨ys, s', c1, c2, c3, n2, c4, d2⟩ := compL_all (g := (gName 3 : GR Unit)) (tt := eYes) (te := (callX0 F__law_name [.v] [] (eCons (eOp modI (callX0 F__law_next [.sl 0] [0] eNil) (liftP (fOp ixO (fLst (fCons (fC (.int 2)) (fCons (fC (.int 4)) (fCons (fC (.int 10)) fNil)))) (fOp modI (fOp divI (fVar 1) (fC (.int 10))) (fC (.int 3)))))) eNil))) (vs := [3])
    (fun _ s => ∃ ms, s = ⟨[some (eN ms), some (.int n), some (.int k), none], ()⟩ ∧ Dr ms) (fun d => ∃ x, d = .str x ∧ Good x) (fun x xs s ⟨ms, hs, hd⟩ => by
      subst hs
      obtain ⟨a, m1, q1, _, q2⟩ := next_ok hd
      obtain ⟨y, q3, q4⟩ := nm_ok (a % m)
      exact ⟨_, rfl, _, rfl, .str y, ⟨[some (eN m1), some (.int n), some (.int k), some x], ()⟩, by simp [q1, em, mpos, q3], ⟨y, rfl, q4⟩, m1, rfl, q2⟩) ((List.range k.toNat).map fun (i : Nat) => D.int (i : Int)) ⟨[some (eN n1), some (.int n), some (.int k), none], ()⟩ ⟨n1, rfl, d1⟩
  subst c4
  obtain ⟨p, rfl, hp⟩ := tup_all D.str Good (fun d hd => hd) ys c2
  rw [List.length_map, List.length_map, List.length_range] at c3
  have hl : lstO (p.map D.str) = .ok (.fl _) := lstO_ok (by rw [List.length_map]; omega)
  refine ⟨p, n2, ?_, ⟨fun z => by subst z; simp at c3; omega, by omega, hp⟩, d2⟩
  have hr : ran1 [.int k] = some ((List.range k.toNat).map fun (i : Nat) => D.int (i : Int)) := ran1_ok' (by omega) (by omega)
  have ht : tupC [.fl (p.map D.str)] = some (eP p) := rfl
  simp [F__law_path, r__law_path, runF, startS, e1, hr, ht, ek, c1, hl]
theorem lf_ok {ns : List Int} (h : Dr ns) : ∃ l ns', F__law_leaf [eN ns] = .ok (eL l) [eN ns'] ∧ GoodL l ∧ Dr ns' := by
  obtain ⟨n, n1, e1, hn, d1⟩ := next_ok h
  by_cases c : n % 4 = 0
  · have h1 : 0 ≤ n / 4 % 4 := Int.emod_nonneg _ (by decide)
    have h2 : n / 4 % 4 < 4 := Int.emod_lt_of_pos _ (by decide)
    obtain ⟨l, hk, hm⟩ := atI_some (xs := ([[], [0], [255, 0], [7, 7, 7, 7, 7, 7, 7, 7]] : List Lf)) h1 (by simpa using h2)
    have ek := atI_map eL ([[], [0], [255, 0], [7, 7, 7, 7, 7, 7, 7, 7]] : List Lf) (n / 4 % 4)
    rw [hk] at ek
    simp only [List.map_cons, List.map_nil, Option.map_some, eL] at ek
    refine ⟨l, n1, ?_, ?_, d1⟩
    · simp [F__law_leaf, r__law_leaf, runF, startS, e1, c, ek, eL]
    · simp only [List.mem_cons, List.not_mem_nil, or_false] at hm
      rcases hm with rfl | rfl | rfl | rfl <;> exact ⟨by decide, by decide⟩
  · have h1 : 0 ≤ n / 3 % 9 := Int.emod_nonneg _ (by decide)
    have h2 : n / 3 % 9 < 9 := Int.emod_lt_of_pos _ (by decide)
    have h3 : 0 ≤ n % 5 := Int.emod_nonneg _ (by decide)
    have h4 : n % 5 < 5 := Int.emod_lt_of_pos _ (by decide)
    have hc := compL_map (g := (gName 2 : GR Unit)) (tt := eYes) (te := (liftP (fOp modI (fOp addO (fOp divI (fVar 1) (fC (.int 7))) (fOp mulI (fOp mulI (fVar 2) (fVar 2)) (fOp modI (fVar 1) (fC (.int 5))))) (fC (.int 256))))) (vs := [2]) (s := ⟨[some (eN n1), some (.int n), none], ()⟩)
      (fun i : Nat => D.int (i : Int)) (fun i : Nat => D.int ((n / 7 + (i : Int) * i * (n % 5)) % 256)) (xs := List.range (n / 3 % 9).toNat) (fun i hi => by
        have hi' : (i : Int) < 9 := by have := List.mem_range.mp hi; omega
        have hii : (i : Int) * i ≤ 8 * 8 := Int.mul_le_mul (by omega) (by omega) (by omega) (by omega)
        have hi0 : 0 ≤ (i : Int) * i := Int.mul_nonneg (by omega) (by omega)
        have m1 : mulC (i : Int) (i : Int) = true := mulC_ok (by omega) (by omega) (by omega) (by omega)
        have m2 : mulC ((i : Int) * i) (n % 5) = true := mulC_ok (by omega) (by omega) (by omega) (by omega)
        exact ⟨⟨[some (eN n1), some (.int n), some (.int (i : Int))], ()⟩, rfl, rfl, by simp [m1, m2], rfl⟩)
    have hl : lstO ((List.range (n / 3 % 9).toNat).map fun i : Nat => D.int ((n / 7 + (i : Int) * i * (n % 5)) % 256)) = .ok (.fl _) := lstO_ok (by rw [List.length_map, List.length_range]; omega)
    have hr : ran1 [.int (n / 3 % 9)] = some ((List.range (n / 3 % 9).toNat).map fun (i : Nat) => D.int (i : Int)) := ran1_ok' (by omega) (by omega)
    refine ⟨(List.range (n / 3 % 9).toNat).map fun i : Nat => (n / 7 + (i : Int) * i * (n % 5)) % 256, n1, ?_, ⟨by rw [List.length_map, List.length_range]; omega, fun m hm => ?_⟩, d1⟩
    · have ht : tupC [.fl ((List.range (n / 3 % 9).toNat).map fun i : Nat => D.int ((n / 7 + (i : Int) * i * (n % 5)) % 256))] = some (eL ((List.range (n / 3 % 9).toNat).map fun i : Nat => (n / 7 + (i : Int) * i * (n % 5)) % 256)) := by
        show some (D.tup _) = some (D.tup _)
        rw [List.map_map]
        rfl
      simp [F__law_leaf, r__law_leaf, runF, startS, e1, c, hr, hc, hl, ht]
    · obtain ⟨i, _, rfl⟩ := List.mem_map.mp hm
      have := Int.emod_nonneg (n / 7 + (i : Int) * i * (n % 5)) (b := 256) (by decide)
      have := Int.emod_lt_of_pos (n / 7 + (i : Int) * i * (n % 5)) (b := 256) (by decide)
      omega
end SH

namespace SH
open PySem FL L2
theorem app_eN {ns : List Int} {n : Int} (h : ns.length ≤ 4000) : appendM (eN ns) [.int n] = some (.non, eN (ns ++ [n])) := by
  show (if (ns.map D.int).length < sizeLine then some (D.non, D.fl (ns.map D.int ++ [.int n])) else none) = _
  rw [if_pos (by rw [List.length_map, PySem.sizeLine_eq]; omega)]
  unfold eN
  rw [List.map_append]
  rfl
theorem len_eN {ns : List Int} : lenO [eN ns] = some (.int ns.length) := by unfold eN; simp
@[simp] theorem eN_nil : (D.fl []) = eN [] := rfl
theorem pow1018 : powI (.int 10) (.int 18) = some (.int (10 ^ 18)) := rfl
/-- the 12 draws of a small cell -/
theorem draws12 {sc : D} {a : Int} {c : Nat} (hc : c < 63) : ∀ (ds : List Int), ds.length ≤ 3000 → (∀ n ∈ ds, 0 ≤ n ∧ n < 2^31) →
    ∃ ds', forF (gName 4) (fExpr (eMut 1 appendM (eCons (liftP (fCall0 F__law_mixed (fCons (fCall0 F__law_mixed (fCons (fVar 3) (fCons (fOp addO (fOp mulI (fC (.int 3)) (fVar 4)) (fC (.int 1))) fNil))) (fCons (fOp addO (fOp addO (fVar 4) (fVar 2)) (fC (.int 2))) fNil)))) eNil))) [4]
      ((List.range 12).map fun (i : Nat) => D.int (i : Int)) (⟨[some sc, some (eN ds), some (.int (c : Int)), some (.int a), none], ()⟩ : St Unit) = .ok .nx ⟨[some sc, some (eN ds'), some (.int (c : Int)), some (.int a), none], ()⟩ ∧ ds'.length = ds.length + 12 ∧ ∀ n ∈ ds', 0 ≤ n ∧ n < 2^31 := by
  intro ds hl hd
  obtain ⟨s', e, ds', rfl, h2, h3, _⟩ := forF_on (g := (gName 4 : GR Unit)) (tb := (fExpr (eMut 1 appendM (eCons (liftP (fCall0 F__law_mixed (fCons (fCall0 F__law_mixed (fCons (fVar 3) (fCons (fOp addO (fOp mulI (fC (.int 3)) (fVar 4)) (fC (.int 1))) fNil))) (fCons (fOp addO (fOp addO (fVar 4) (fVar 2)) (fC (.int 2))) fNil)))) eNil)))) (ws := [4])
    (fun xs s => ∃ es, s = ⟨[some sc, some (eN es), some (.int (c : Int)), some (.int a), none], ()⟩ ∧ es.length + xs.length = ds.length + 12 ∧ (∀ n ∈ es, 0 ≤ n ∧ n < 2^31) ∧ ∀ x ∈ xs, ∃ i : Nat, x = .int (i : Int) ∧ i < 12) (fun x xs s ⟨es, hs, h1, h2, h3⟩ => by
      subst hs
      obtain ⟨i, rfl, hi⟩ := h3 _ List.mem_cons_self
      rw [List.length_cons] at h1
      have m1 : mulC 3 (i : Int) = true := mulC_ok (by omega) (by omega) (by omega) (by omega)
      obtain ⟨y, q1, _, _⟩ := mixed_ok a (3 * (i : Int) + 1) (by omega) (by omega)
      obtain ⟨z, q2, z1, z2⟩ := mixed_ok y ((i : Int) + (c : Int) + 2) (by omega) (by omega)
      refine ⟨⟨[some sc, some (eN es), some (.int (c : Int)), some (.int a), some (.int (i : Int))], ()⟩, rfl, .nx, ⟨[some sc, some (eN (es ++ [z])), some (.int (c : Int)), some (.int a), some (.int (i : Int))], ()⟩, ?_, .inl rfl, es ++ [z], rfl, by rw [List.length_append, List.length_singleton]; omega, fun n hn => ?_, fun x hx => h3 x (List.mem_cons_of_mem _ hx)⟩
      · simp [m1, q1, q2, app_eN (ns := es) (n := z) (by omega)]
      · rcases List.mem_append.mp hn with h | h
        · exact h2 n h
        · rw [List.mem_singleton.mp h]; exact ⟨z1, z2⟩) ((List.range 12).map fun (i : Nat) => D.int (i : Int)) ⟨[some sc, some (eN ds), some (.int (c : Int)), some (.int a), none], ()⟩
    ⟨ds, rfl, by simp, hd, fun x hx => by obtain ⟨i, hi, rfl⟩ := List.mem_map.mp hx; exact ⟨i, rfl, List.mem_range.mp hi⟩⟩
  exact ⟨ds', e, by simpa using h2, h3⟩
theorem drawsW {sc : D} {c : Nat} : ∀ (a : Int) (ds : List Int), ds.length ≤ 3000 → (∀ n ∈ ds, 0 ≤ n ∧ n < 2^31) →
    ∃ a' ds', fWhile 2000 (liftP (fAnd (fTest (fOp geI (fVar 3) (fOp powI (fC (.int 10)) (fC (.int 18))))) (fTest (fOp ltI (fCB lenO (fCons (fVar 1) fNil)) (fC (.int 900)))))) (fSeq (fExpr (eMut 1 appendM (eCons (liftP (fOp modI (fVar 3) (fC (.int 2147483629)))) eNil))) (fSet 3 (liftP (fOp divI (fVar 3) (fC (.int 2147483629)))))) [] (⟨[some sc, some (eN ds), some (.int (c : Int)), some (.int a), none], ()⟩ : St Unit)
      = .ok .nx ⟨[some sc, some (eN ds'), some (.int (c : Int)), some (.int a'), none], ()⟩ ∧ ds'.length ≤ max ds.length 900 ∧ ∀ n ∈ ds', 0 ≤ n ∧ n < 2^31 := by
  intro a ds hl hd
  obtain ⟨s', e, k, es, b, rfl, h2, h3, _⟩ := whileF_on (c := (liftP (fAnd (fTest (fOp geI (fVar 3) (fOp powI (fC (.int 10)) (fC (.int 18))))) (fTest (fOp ltI (fCB lenO (fCons (fVar 1) fNil)) (fC (.int 900))))) : St Unit → Eff Unit Bool)) (tb := (fSeq (fExpr (eMut 1 appendM (eCons (liftP (fOp modI (fVar 3) (fC (.int 2147483629)))) eNil))) (fSet 3 (liftP (fOp divI (fVar 3) (fC (.int 2147483629))))))) (ws := [])
    (fun m s => ∃ es b, s = ⟨[some sc, some (eN es), some (.int (c : Int)), some (.int b), none], ()⟩ ∧ es.length ≤ max ds.length 900 ∧ (∀ n ∈ es, 0 ≤ n ∧ n < 2^31) ∧ m = 900 - es.length) (fun m s ⟨es, b, hs, h2, h3, h4⟩ => by
      subst hs
      have hlen := len_eN (ns := es)
      by_cases c1 : (10 ^ 18 : Int) ≤ b
      · by_cases c2 : (es.length : Int) < 900
        · have happ := app_eN (ns := es) (n := b % 2147483629) (by omega)
          refine .inr ⟨⟨[some sc, some (eN es), some (.int (c : Int)), some (.int b), none], ()⟩, by simp at c1; simp [c1, hlen, c2], .nx, ⟨[some sc, some (eN (es ++ [b % 2147483629])), some (.int (c : Int)), some (.int (b / 2147483629)), none], ()⟩, by simp [happ], .inl rfl, 900 - (es ++ [b % 2147483629]).length, ?_, es ++ [b % 2147483629], _, rfl, ?_, fun n hn => ?_, rfl⟩
          · rw [List.length_append, List.length_singleton]; omega
          · rw [List.length_append, List.length_singleton]; omega
          · rcases List.mem_append.mp hn with h | h
            · exact h3 n h
            · rw [List.mem_singleton.mp h]
              have := Int.emod_nonneg b (b := 2147483629) (by decide)
              have := Int.emod_lt_of_pos b (b := 2147483629) (by decide)
              omega
        · exact .inl ⟨⟨[some sc, some (eN es), some (.int (c : Int)), some (.int b), none], ()⟩, by simp at c1; simp [c1, hlen, c2], _, es, b, rfl, h2, h3, h4⟩
      · exact .inl ⟨⟨[some sc, some (eN es), some (.int (c : Int)), some (.int b), none], ()⟩, by simp at c1; simp [show ¬ (1000000000000000000 : Int) ≤ b by omega], _, es, b, rfl, h2, h3, h4⟩) 2000 (900 - ds.length) ⟨[some sc, some (eN ds), some (.int (c : Int)), some (.int a), none], ()⟩ (by omega) ⟨ds, a, rfl, by omega, hd, rfl⟩
  exact ⟨b, es, e, h2, h3⟩
theorem draws_ok {ns : List Int} (h : ns.length ≤ 63) : ∃ ds, F__law_draws [eN ns] = .ok (eN ds) [] ∧ Dr ds := by
  obtain ⟨L, hL⟩ : ∃ L : Int, L = (ns.length : Int) := ⟨_, rfl⟩
  have hmin : min2O [.int L, .int 63] = some (.int L) := by
    show some (D.int (if (63 : Int) < L then 63 else L)) = _
    rw [if_neg (by omega)]
  have hr : ran1 [.int L] = some ((List.range ns.length).map fun (i : Nat) => D.int (i : Int)) := by rw [ran1_ok' (by omega) (by omega), hL, Int.toNat_natCast]
  have hr12 : ran1 [.int 12] = some ((List.range 12).map fun (i : Nat) => D.int (i : Int)) := ran1_ok' (by omega) (by omega)
  obtain ⟨s', e, ds, rfl, h1, h2, _⟩ := forF_on (g := (gName 2 : GR Unit)) (tb := (fSeq (fSet 3 (liftP (fCB absO (fCons (fOp ixO (fVar 0) (fVar 2)) fNil)))) (fSeq (fIfS (liftP (fTest (fOp ltI (fVar 3) (fOp powI (fC (.int 10)) (fC (.int 18)))))) (fFor (eRan ran1 (eCons (liftP (fC (.int 12))) eNil)) (gName 4) (fExpr (eMut 1 appendM (eCons (liftP (fCall0 F__law_mixed (fCons (fCall0 F__law_mixed (fCons (fVar 3) (fCons (fOp addO (fOp mulI (fC (.int 3)) (fVar 4)) (fC (.int 1))) fNil))) (fCons (fOp addO (fOp addO (fVar 4) (fVar 2)) (fC (.int 2))) fNil)))) eNil))) [4]) fNext) (fSeq (fWhile 2000 (liftP (fAnd (fTest (fOp geI (fVar 3) (fOp powI (fC (.int 10)) (fC (.int 18))))) (fTest (fOp ltI (fCB lenO (fCons (fVar 1) fNil)) (fC (.int 900)))))) (fSeq (fExpr (eMut 1 appendM (eCons (liftP (fOp modI (fVar 3) (fC (.int 2147483629)))) eNil))) (fSet 3 (liftP (fOp divI (fVar 3) (fC (.int 2147483629)))))) []) (fIfS (liftP (fTest (fOp geI (fVar 3) (fC (.int 2147483629))))) (fExpr (eMut 1 appendM (eCons (liftP (fOp modI (fVar 3) (fC (.int 2147483629)))) eNil))) fNext))))) (ws := [2, 3, 4])
    (fun xs s => ∃ es, s = ⟨[some (eN ns), some (eN es), none, none, none], ()⟩ ∧ es.length + 13 * xs.length ≤ 901 + 13 * ns.length ∧ (∀ n ∈ es, 0 ≤ n ∧ n < 2^31) ∧ xs.length ≤ ns.length ∧ ∀ x ∈ xs, ∃ i : Nat, x = .int (i : Int) ∧ i < ns.length) (fun x xs s ⟨es, hs, h1, h2, h30, h3⟩ => by
      subst hs
      obtain ⟨c, rfl, hc⟩ := h3 _ List.mem_cons_self
      rw [List.length_cons] at h1
      obtain ⟨a, ha, _⟩ := atI_some (xs := ns) (i := (c : Int)) (by omega) (by omega)
      have hix : ixO (eN ns) (.int (c : Int)) = some (.int a) := by unfold eN; rw [ixO_l, atI_map, ha]; rfl
      have habs : absO [.int a] = some (.int (if a < 0 then -a else a)) := rfl
      generalize (if a < 0 then -a else a) = b at habs
      refine ⟨⟨[some (eN ns), some (eN es), some (.int (c : Int)), none, none], ()⟩, rfl, ?_⟩
      -- the first part
      obtain ⟨e1, q1, l1, d1⟩ : ∃ e1, (fIfS (liftP (fTest (fOp ltI (fVar 3) (fOp powI (fC (.int 10)) (fC (.int 18)))))) (fFor (eRan ran1 (eCons (liftP (fC (.int 12))) eNil)) (gName 4) (fExpr (eMut 1 appendM (eCons (liftP (fCall0 F__law_mixed (fCons (fCall0 F__law_mixed (fCons (fVar 3) (fCons (fOp addO (fOp mulI (fC (.int 3)) (fVar 4)) (fC (.int 1))) fNil))) (fCons (fOp addO (fOp addO (fVar 4) (fVar 2)) (fC (.int 2))) fNil)))) eNil))) [4]) fNext) (⟨[some (eN ns), some (eN es), some (.int (c : Int)), some (.int b), none], ()⟩ : St Unit) = .ok .nx ⟨[some (eN ns), some (eN e1), some (.int (c : Int)), some (.int b), none], ()⟩ ∧ e1.length ≤ es.length + 12 ∧ ∀ n ∈ e1, 0 ≤ n ∧ n < 2^31 := by
        by_cases cb : b < (10 ^ 18 : Int)
        · obtain ⟨e1, q, l, d⟩ := draws12 (sc := eN ns) (a := b) (c := c) (by omega) es (by omega) h2
          refine ⟨e1, ?_, by omega, d⟩
          simp at cb
          simp [cb, hr12, q]
        · refine ⟨es, ?_, by omega, h2⟩
          simp at cb
          simp
          omega
      obtain ⟨b2, e2, q2, l2, d2⟩ := drawsW (sc := eN ns) (c := c) b e1 (by omega) d1
      obtain ⟨e3, q3, l3, d3⟩ : ∃ e3, (fIfS (liftP (fTest (fOp geI (fVar 3) (fC (.int 2147483629))))) (fExpr (eMut 1 appendM (eCons (liftP (fOp modI (fVar 3) (fC (.int 2147483629)))) eNil))) fNext) (⟨[some (eN ns), some (eN e2), some (.int (c : Int)), some (.int b2), none], ()⟩ : St Unit) = .ok .nx ⟨[some (eN ns), some (eN e3), some (.int (c : Int)), some (.int b2), none], ()⟩ ∧ e3.length ≤ e2.length + 1 ∧ ∀ n ∈ e3, 0 ≤ n ∧ n < 2^31 := by
        by_cases cb : (2147483629 : Int) ≤ b2
        · have happ := app_eN (ns := e2) (n := b2 % 2147483629) (by omega)
          refine ⟨e2 ++ [b2 % 2147483629], by simp [cb, happ], by simp, fun n hn => ?_⟩
          rcases List.mem_append.mp hn with h | h
          · exact d2 n h
          · rw [List.mem_singleton.mp h]
            have := Int.emod_nonneg b2 (b := 2147483629) (by decide)
            have := Int.emod_lt_of_pos b2 (b := 2147483629) (by decide)
            omega
        · exact ⟨e2, by simp [cb], by omega, d2⟩
      refine ⟨.nx, ⟨[some (eN ns), some (eN e3), some (.int (c : Int)), some (.int b2), none], ()⟩, ?_, .inl rfl, e3, rfl, ?_, d3, by rw [List.length_cons] at h30; omega, fun x hx => h3 x (List.mem_cons_of_mem _ hx)⟩
      · have s3 : fSet 3 (liftP (fCB absO (fCons (fOp ixO (fVar 0) (fVar 2)) fNil))) (⟨[some (eN ns), some (eN es), some (.int (c : Int)), none, none], ()⟩ : St Unit) = .ok .nx ⟨[some (eN ns), some (eN es), some (.int (c : Int)), some (.int b), none], ()⟩ := by simp [hix, habs]
        rw [seq_nx s3, seq_nx q1, seq_nx q2]
        exact q3
      · rw [List.length_cons] at h30; omega) ((List.range ns.length).map fun (i : Nat) => D.int (i : Int)) ⟨[some (eN ns), some (eN []), none, none, none], ()⟩
    ⟨[], rfl, by simp, fun _ z => (by cases z), by simp, fun x hx => by obtain ⟨i, hi, rfl⟩ := List.mem_map.mp hx; exact ⟨i, rfl, List.mem_range.mp hi⟩⟩
  refine ⟨ds, ?_, by simp at h1; omega, h2⟩
  have hlen : lenO [eN ns] = some (.int L) := by rw [len_eN, hL]
  have q0 : fSet 1 (liftP (fLst fNil)) (⟨[some (eN ns), none, none, none, none], ()⟩ : St Unit) = .ok .nx ⟨[some (eN ns), some (eN []), none, none, none], ()⟩ := rfl
  have qi : (eRan ran1 (eCons (liftP (fCB min2O (fCons (fCB lenO (fCons (fVar 0) fNil)) (fCons (fC (.int 63)) fNil)))) eNil)) (⟨[some (eN ns), some (eN []), none, none, none], ()⟩ : St Unit) = .ok ((List.range ns.length).map fun (i : Nat) => D.int (i : Int)) ⟨[some (eN ns), some (eN []), none, none, none], ()⟩ := by simp [hlen, hmin, hr]
  have qr : fRet (liftP (fVar 1)) (⟨[some (eN ns), some (eN ds), none, none, none], ()⟩ : St Unit) = .ok (.rt (eN ds)) ⟨[some (eN ns), some (eN ds), none, none, none], ()⟩ := rfl
  have body : r__law_draws (startS 5 [eN ns]) = .ok (.rt (eN ds)) ⟨[some (eN ns), some (eN ds), none, none, none], ()⟩ := by
    unfold r__law_draws
    refine (seq_nx q0).trans ?_
    refine (seq_nx ?_).trans qr
    rw [a_fFor, qi, eb_ok]
    exact e
  unfold F__law_draws runF
  rw [body]
  rfl
end SH

namespace SH
open PySem FL L2
def isFolder (m : Mdl) (p : Pth) : Bool := decide (p = []) || decide (aget m p = some none)
theorem folder_ok {m : Mdl} {p : Pth} (hp : ∀ x ∈ p, Good x) : F__law_is_folder [eM m, eP p] = .ok (.bl (isFolder m p)) [] := by
  have he : eqD (eP p) (.tup []) = some (.bl (decide (p = []))) := by rw [← eP_nil, eq_eP hp (fun _ z => by cases z)]
  by_cases c : p = []
  · subst c
    simp [F__law_is_folder, r__law_is_folder, runF, startS, he, isFolder]
  · have hi := inO_eM (m := m) c
    cases g : aget m p with
    | none =>
      rw [g] at hi
      simp [F__law_is_folder, r__law_is_folder, runF, startS, he, c, isFolder, hi, g]
    | some v =>
      rw [g] at hi
      have hx := ix_eM c g
      cases v <;> simp [F__law_is_folder, r__law_is_folder, runF, startS, he, c, isFolder, hi, g, hx]
def under (m : Mdl) (p : Pth) : List Pth := (m.filter fun x => decide (x.1.take p.length = p)).map (·.1)
theorem under_ok {m : Mdl} {p : Pth} (hm : Ok m) (hp : ∀ x ∈ p, Good x) : F__law_under [eM m, eP p] = .ok (.fl ((under m p).map eP)) [] := by
  have hc := compL_eq (g := (gName 2 : GR Unit)) (tt := (liftP (fTest (fOp eqD (fSl (fVar 2) fNoPart (fPart (fCB lenO (fCons (fVar 1) fNil)))) (fVar 1))))) (te := (liftP (fVar 2))) (vs := [2]) (s := ⟨[some (eM m), some (eP p), none], ()⟩) (fun x : Pth × Option (List Lf) => eP x.1) (fun x => decide (x.1.take p.length = p)) (fun x => eP x.1) (xs := m) (fun x hx => by
    refine ⟨⟨[some (eM m), some (eP p), some (eP x.1)], ()⟩, rfl, ?_, fun _ => by simp, rfl⟩
    have hq := hm.good x hx
    have hs : slO (eP x.1) none (some (p.length : Int)) = some (eP (x.1.take p.length)) := by rw [sl_to (by omega), Int.toNat_natCast]
    have he : eqD (eP (x.1.take p.length)) (eP p) = some (.bl (decide (x.1.take p.length = p))) := eq_eP (fun y hy => hq.2.2 y (List.mem_of_mem_take hy)) hp
    simp [hs, he])
  have hl : lstO ((m.filter fun x => decide (x.1.take p.length = p)).map fun x => eP x.1) = .ok (.fl _) := lstO_ok (by rw [List.length_map]; have := List.length_filter_le (fun x : Pth × Option (List Lf) => decide (x.1.take p.length = p)) m; have := hm.small; omega)
  have hu : (under m p).map eP = (m.filter fun x => decide (x.1.take p.length = p)).map fun x => eP x.1 := by unfold under; rw [List.map_map]; rfl
  have hk := keys_eM (m := m)
  simp [F__law_under, r__law_under, runF, startS, hk, hc, hl, hu]
def wnames (m : Mdl) (p : Pth) : List Str := (m.filter fun x => decide (x.1.length = p.length + 1) && decide (x.1.dropLast = p)).map fun x => x.1.getLastD ""
def codeF (n : Int) (c : Nat) : Int := n * 27 + (c : Int) - 96
def code (x : Str) : Int := x.cps.toList.foldl codeF 0
theorem code_bound : ∀ (cs : List Nat) (n : Int) (k : Nat), (∀ c ∈ cs, 97 ≤ c ∧ c ≤ 122) → 0 ≤ n → n < 27 ^ k → 0 ≤ cs.foldl codeF n ∧ cs.foldl codeF n < 27 ^ (k + cs.length)
  | [], n, k, _, h0, h1 => ⟨h0, by simpa using h1⟩
  | c :: cs, n, k, hc, h0, h1 => by
    have := hc c List.mem_cons_self
    have e : (27 : Int) ^ (k + 1) = 27 ^ k * 27 := Int.pow_succ 27 k
    have ih := code_bound cs (n * 27 + (c : Int) - 96) (k + 1) (fun x hx => hc x (List.mem_cons_of_mem _ hx)) (by omega) (by omega)
    rw [List.foldl_cons, List.length_cons]
    rw [show k + (cs.length + 1) = k + 1 + cs.length by omega]
    exact ih
theorem ord_c {c : Nat} : ordO [.str ⟨#[c]⟩] = some (.int (c : Int)) := rfl
theorem code_ok {x : Str} (h : Good x) : F__law_code [.str x] = .ok (.int (code x)) [] := by
  obtain ⟨s', e, n, rfl, hn⟩ := forF_on (g := (gName 2 : GR Unit)) (tb := (fSet 1 (liftP (fOp subI (fOp addO (fOp mulI (fVar 1) (fC (.int 27))) (fCB ordO (fCons (fVar 2) fNil))) (fC (.int 96)))))) (ws := [2])
    (fun xs s => ∃ n : Int, s = ⟨[some (.str x), some (.int n), none], ()⟩ ∧ ∃ cs : List Nat, xs = (cs.map fun c => D.str ⟨#[c]⟩) ∧ cs.foldl codeF n = code x ∧ ∃ k, k + cs.length = x.length ∧ 0 ≤ n ∧ n < 27 ^ k ∧ ∀ c ∈ cs, 97 ≤ c ∧ c ≤ 122) (fun y ys s ⟨n, hs, cs, hxs, hf, k, hk, h0, h1, hc⟩ => by
      subst hs
      cases cs with
      | nil => cases hxs
      | cons c cs =>
        obtain ⟨rfl, rfl⟩ := List.cons.inj hxs
        rw [List.length_cons] at hk
        have hk8 : k ≤ 8 := by have := h.2.1; omega
        have hp : (27 : Int) ^ k ≤ 27 ^ 8 := by have := Nat.pow_le_pow_right (n := 27) (by decide) hk8; exact_mod_cast this
        have h98 : (27 : Int) ^ 8 = 282429536481 := by decide
        have m1 : mulC n 27 = true := mulC_ok (by omega) (by omega) (by omega) (by omega)
        have := hc c List.mem_cons_self
        have e : (27 : Int) ^ (k + 1) = 27 ^ k * 27 := Int.pow_succ 27 k
        refine ⟨⟨[some (.str x), some (.int n), some (.str ⟨#[c]⟩)], ()⟩, rfl, .nx, ⟨[some (.str x), some (.int (n * 27 + (c : Int) - 96)), some (.str ⟨#[c]⟩)], ()⟩, by simp [m1, ord_c], .inl rfl, n * 27 + (c : Int) - 96, rfl, cs, rfl, hf, k + 1, by omega, by omega, by omega, fun z hz => hc z (List.mem_cons_of_mem _ hz)⟩) (sgn x) ⟨[some (.str x), some (.int 0), none], ()⟩
    ⟨0, rfl, x.cps.toList, rfl, rfl, 0, by simp [Str.length], by omega, by decide, h.2.2⟩
  obtain ⟨cs, hx, hf, _⟩ := hn
  have hcs : cs = [] := by
    cases cs with
    | nil => rfl
    | cons c cs => cases hx
  subst hcs
  have hf : n = code x := hf
  subst hf
  have q0 : fSet 1 (liftP (fC (.int 0))) (⟨[some (.str x), none, none], ()⟩ : St Unit) = .ok .nx ⟨[some (.str x), some (.int 0), none], ()⟩ := rfl
  have body : r__law_code (startS 3 [.str x]) = .ok (.rt (.int (code x))) ⟨[some (.str x), some (.int (code x)), none], ()⟩ := by
    unfold r__law_code
    refine (seq_nx q0).trans ?_
    refine (seq_nx (s1 := ⟨[some (.str x), some (.int (code x)), none], ()⟩) ?_).trans (by simp)
    rw [a_fFor]
    exact e
  unfold F__law_code runF
  rw [body]
  rfl
end SH

namespace SH
open PySem FL L2
/-- names by their codes -/
def byCode (ns : List Str) : List Str := ((ns.zip (ns.map code)).mergeSort (PySem.W.dataLe false fun b => .int b.2)).map (·.1)
def within (m : Mdl) (p : Pth) : List Str := byCode (wnames m p)
theorem byCode_perm (ns : List Str) : (byCode ns).Perm ns := by
  have h := (List.mergeSort_perm (ns.zip (ns.map code)) (PySem.W.dataLe false fun b => .int b.2)).map (·.1)
  unfold byCode
  have e : (ns.zip (ns.map code)).map (·.1) = ns := by rw [List.map_fst_zip]; rw [List.length_map]; exact Nat.le_refl _
  rw [e] at h
  exact h
theorem keysI_code : ∀ {ns : List Str}, (∀ x ∈ ns, Good x) → keysI (liftP (fCall0 F__law_code (fCons (fVar 0) fNil))) (ns.map D.str) = some (ns.map code)
  | [], _ => rfl
  | x :: ns, h => by
    have ih := keysI_code fun y hy => h y (List.mem_cons_of_mem _ hy)
    have hx : keyI (liftP (fCall0 F__law_code (fCons (fVar 0) fNil))) (.str x) = some (code x) := by
      have e : (liftP (fCall0 F__law_code (fCons (fVar 0) fNil)) : ER Unit) (startS 1 [.str x]) = .ok (.int (code x)) (startS 1 [.str x]) := by
        simp [startS, code_ok (h x List.mem_cons_self)]
      unfold keyI
      rw [e]
    show (keyI _ (.str x)).bind _ = _
    rw [hx, Option.bind_some, ih]
    rfl
theorem sortBy_map (ns : List Str) : sortByI (ns.map D.str) (ns.map code) = (byCode ns).map D.str := by
  unfold sortByI byCode
  have h := List.map_mergeSort (r := PySem.W.dataLe false fun b : Str × Int => .int b.2) (s := PySem.W.dataLe false fun b : D × Int => .int b.2) (f := fun q : Str × Int => (D.str q.1, q.2)) (l := ns.zip (ns.map code)) (fun a _ b _ => rfl)
  have e : (ns.map D.str).zip (ns.map code) = (ns.zip (ns.map code)).map fun q : Str × Int => (D.str q.1, q.2) := by
    rw [List.zip_map_left]
    rfl
  rw [e, ← h, List.map_map, List.map_map]
  rfl
theorem last_of {p : Pth} {n : Nat} (h : p.length = n + 1) : ∃ q x, p = q ++ [x] ∧ q.length = n := by
  have hn : p ≠ [] := by intro z; subst z; simp at h
  refine ⟨p.dropLast, p.getLast hn, (List.dropLast_concat_getLast hn).symm, by rw [List.length_dropLast]; omega⟩
theorem mem_wnames {m : Mdl} {p : Pth} {x : Str} : x ∈ wnames m p ↔ p ++ [x] ∈ m.map (·.1) := by
  unfold wnames
  constructor
  · intro h
    obtain ⟨y, hy, rfl⟩ := List.mem_map.mp h
    obtain ⟨hm, hc⟩ := List.mem_filter.mp hy
    simp only [Bool.and_eq_true, decide_eq_true_eq] at hc
    obtain ⟨q, z, e, _⟩ := last_of hc.1
    have hq : q = p := by rw [← hc.2, e]; simp
    refine List.mem_map.mpr ⟨y, hm, ?_⟩
    rw [e, hq]
    simp
  · intro h
    obtain ⟨y, hy, e⟩ := List.mem_map.mp h
    refine List.mem_map.mpr ⟨y, List.mem_filter.mpr ⟨hy, by rw [e]; simp⟩, by rw [e]; simp⟩
theorem mem_within {m : Mdl} {p : Pth} {x : Str} : x ∈ within m p ↔ p ++ [x] ∈ m.map (·.1) := by
  unfold within
  rw [(byCode_perm _).mem_iff]
  exact mem_wnames
theorem wnames_good {m : Mdl} {p : Pth} (h : Ok m) {x : Str} (hx : x ∈ wnames m p) : Good x := by
  obtain ⟨y, hy, e⟩ := List.mem_map.mp (mem_wnames.mp hx)
  have := (h.good y hy).2.2
  rw [e] at this
  exact this x (by simp)
theorem within_good {m : Mdl} {p : Pth} (h : Ok m) {x : Str} (hx : x ∈ within m p) : Good x := by
  unfold within at hx
  rw [(byCode_perm _).mem_iff] at hx
  exact wnames_good h hx
theorem wnames_nd {m : Mdl} {p : Pth} (h : Ok m) : (wnames m p).Nodup := by
  unfold wnames
  have h0 : m.Pairwise fun a b => a.1 ≠ b.1 := List.pairwise_map.mp h.nd
  refine List.pairwise_map.mpr ((h0.filter fun x => decide (x.1.length = p.length + 1) && decide (x.1.dropLast = p)).imp_of_mem fun {a b} ha hb hne e => hne ?_)
  obtain ⟨ha, ca⟩ := List.mem_filter.mp ha
  obtain ⟨hb, cb⟩ := List.mem_filter.mp hb
  simp only [Bool.and_eq_true, decide_eq_true_eq] at ca cb
  obtain ⟨q1, x1, e1, _⟩ := last_of ca.1
  obtain ⟨q2, x2, e2, _⟩ := last_of cb.1
  have c1 : q1 = p := by rw [← ca.2, e1]; simp
  have c2 : q2 = p := by rw [← cb.2, e2]; simp
  rw [e1, e2] at e
  have e' : x1 = x2 := by simpa using e
  rw [e1, e2, c1, c2, e']
theorem within_ok {m : Mdl} {p : Pth} (hm : Ok m) (hp : ∀ x ∈ p, Good x) : F__law_within [eM m, eP p] = .ok (.fl ((within m p).map D.str)) [] := by
  have hc := compL_eq (g := (gName 3 : GR Unit)) (tt := (liftP (fAnd (fTest (fOp eqD (fCB lenO (fCons (fVar 3) fNil)) (fOp addO (fCB lenO (fCons (fVar 1) fNil)) (fC (.int 1))))) (fTest (fOp eqD (fSl (fVar 3) fNoPart (fPart (fUn negI (fC (.int 1))))) (fVar 1)))))) (te := (liftP (fOp ixO (fVar 3) (fUn negI (fC (.int 1)))))) (vs := [3]) (s := ⟨[some (eM m), some (eP p), none, none], ()⟩) (fun x : Pth × Option (List Lf) => eP x.1) (fun x => decide (x.1.length = p.length + 1) && decide (x.1.dropLast = p)) (fun x => D.str (x.1.getLastD "")) (xs := m) (fun x hx => by
    have hq := hm.good x hx
    have he : eqD (eP x.1.dropLast) (eP p) = some (.bl (decide (x.1.dropLast = p))) := eq_eP (fun y hy => hq.2.2 y (List.dropLast_subset _ hy)) hp
    have hl : (decide ((x.1.length : Int) = (p.length : Int) + 1)) = decide (x.1.length = p.length + 1) := by rw [decide_eq_decide]; omega
    refine ⟨⟨[some (eM m), some (eP p), none, some (eP x.1)], ()⟩, rfl, ?_, fun hpx => ?_, rfl⟩
    · cases c : decide (x.1.length = p.length + 1) <;> simp [hl, c, sl_last, he]
    · simp only [Bool.and_eq_true, decide_eq_true_eq] at hpx
      obtain ⟨q, z, e, _⟩ := last_of hpx.1
      have hx : ixO (eP x.1) (.int (-1)) = some (.str z) := by
        unfold eP
        rw [ixO_t, e, List.map_append]
        exact atI_last
      have e2 : (x.1.getLast?).getD "" = z := by rw [e]; simp
      simp [hx, e2])
  have hl : lstO ((m.filter fun x => decide (x.1.length = p.length + 1) && decide (x.1.dropLast = p)).map fun x => D.str (x.1.getLastD "")) = .ok (.fl _) := lstO_ok (by rw [List.length_map]; have := List.length_filter_le (fun x : Pth × Option (List Lf) => decide (x.1.length = p.length + 1) && decide (x.1.dropLast = p)) m; have := hm.small; omega)
  have hu : ((m.filter fun x => decide (x.1.length = p.length + 1) && decide (x.1.dropLast = p)).map fun x => D.str (x.1.getLastD "")) = (wnames m p).map D.str := by unfold wnames; rw [List.map_map]; rfl
  rw [hu] at hc hl
  have hk := keys_eM (m := m)
  have hs : sortLamO (liftP (fCall0 F__law_code (fCons (fVar 0) fNil))) [.fl ((wnames m p).map D.str)] = some (.fl ((within m p).map D.str)) := by
    show (keysI _ _).map _ = _
    rw [keysI_code fun x hx => wnames_good hm hx, Option.map_some, sortBy_map]
    rfl
  simp [F__law_within, r__law_within, runF, startS, hk, hc, hl, hs]
theorem twin_ok {m : Mdl} (hm : Ok m) : F__law_twin [eM m] = .ok (eM m) [] := by
  have key := forF_on (g := (gName 2 : GR Unit)) (tb := (fSeq (fSetIx 1 (setM true) (liftP (fC .non)) (liftP (fVar 2))) (fIfS (liftP (fTest (fOp notNO (fOp ixO (fVar 0) (fVar 2)) (fC .non)))) (fSetIx 1 (setM true) (liftP (fCB lstC (fCons (fOp ixO (fVar 0) (fVar 2)) fNil))) (liftP (fVar 2))) fNext))) (ws := [2])
    (fun xs s => ∃ m1 m2 : Mdl, m = m1 ++ m2 ∧ xs = (m2.map fun x => eP x.1) ∧ s = ⟨[some (eM m), some (eM m1), none], ()⟩) (fun x xs s ⟨m1, m2, hm12, hxs, hs⟩ => by
      subst hs
      cases m2 with
      | nil => cases hxs
      | cons y m2 =>
        obtain ⟨rfl, rfl⟩ := List.cons.inj hxs
        have hy : y ∈ m := by rw [hm12]; simp
        have hgy := hm.good y hy
        have hnd := hm.nd
        rw [hm12, List.map_append, List.map_cons] at hnd
        have hn1 : y.1 ∉ m1.map (·.1) := fun z => by
          have := (List.nodup_append.mp hnd).2.2
          exact this y.1 z y.1 List.mem_cons_self rfl
        have hput : ∀ v, aput m1 y.1 v = m1 ++ [(y.1, v)] := fun v => by
          unfold aput
          rw [if_neg (fun z => hn1 (any_key.mp z))]
        have hput2 : ∀ v w, aput (m1 ++ [(y.1, w)]) y.1 v = m1 ++ [(y.1, v)] := fun v w => by
          unfold aput
          rw [if_pos (any_key.mpr (by simp)), List.map_append]
          congr 1
          · conv => rhs; rw [← List.map_id m1]
            refine List.map_congr_left fun z hz => ?_
            rw [if_neg (fun e => hn1 (by rw [← e]; exact List.mem_map.mpr ⟨z, hz, rfl⟩))]
            rfl
          · simp
        have hlen : m1.length < sizeLine := by have := hm.small; rw [hm12, List.length_append] at this; rw [PySem.sizeLine_eq]; omega
        have hlen2 : ∀ w, (m1 ++ [(y.1, w)]).length < sizeLine := fun w => by have := hm.small; rw [hm12, List.length_append, List.length_cons] at this; rw [PySem.sizeLine_eq, List.length_append, List.length_singleton]; omega
        have hs1 := set_eM (m := m1) (v := none) hgy.1 hlen
        rw [hput] at hs1
        have hg : aget m y.1 = some y.2 := aget_of_mem hm.nd hy
        have hix := ix_eM hgy.1 hg
        refine ⟨⟨[some (eM m), some (eM m1), some (eP y.1)], ()⟩, rfl, .nx, ⟨[some (eM m), some (eM (m1 ++ [y])), some (eP y.1)], ()⟩, ?_, .inl rfl, m1 ++ [y], m2, by rw [hm12]; simp, rfl, rfl⟩
        have hs1' : setM true (eM m1) (eP y.1) D.non = some (eM (m1 ++ [(y.1, none)])) := hs1
        obtain ⟨k, v⟩ := y
        cases v with
        | none => simp [hs1', hix]
        | some ls =>
          have hl : lstC [eV (some ls)] = some (eV (some ls)) := rfl
          have hs2 := set_eM (m := m1 ++ [(k, none)]) (p := k) (v := some ls) hgy.1 (hlen2 none)
          rw [hput2] at hs2
          simp [hs1', hix, hl, hs2])
  obtain ⟨s', e, m1, m2, h1, h2, rfl⟩ := key (m.map fun x => eP x.1) ⟨[some (eM m), some (eM []), none], ()⟩ ⟨[], m, rfl, rfl, rfl⟩
  have : m2 = [] := by
    cases m2 with
    | nil => rfl
    | cons y m2 => cases h2
  subst this
  rw [List.append_nil] at h1
  subst h1
  have hk := keys_eM (m := m)
  have q0 : fSet 1 (liftP (fC (.fd true []))) (⟨[some (eM m), none, none], ()⟩ : St Unit) = .ok .nx ⟨[some (eM m), some (eM []), none], ()⟩ := rfl
  have body : r__law_twin (startS 3 [eM m]) = .ok (.rt (eM m)) ⟨[some (eM m), some (eM m), none], ()⟩ := by
    unfold r__law_twin
    refine (seq_nx q0).trans ?_
    refine (seq_nx (s1 := ⟨[some (eM m), some (eM m), none], ()⟩) ?_).trans (by simp)
    rw [a_fLk, a_fFor, eLk_0, eb_ok, hk, e]
    rfl
  unfold F__law_twin runF
  rw [body]
  rfl
end SH

namespace SH
open PySem FL L2
theorem strOk_c {x : Str} : True := trivial
def maxL : List Pth → Int
  | [] => 0
  | p :: ps => maxN (p.length : Int) (ps.map fun q => (q.length : Int))
theorem maxL_ge {p : Pth} : ∀ {ps : List Pth}, p ∈ ps → (p.length : Int) ≤ maxL ps
  | [], h => by cases h
  | x :: ps, h => by
    have := @FL.maxN_ge ⟨[]⟩ (ps.map fun q => (q.length : Int)) (x.length : Int)
    unfold maxL
    rcases List.mem_cons.mp h with rfl | h
    · exact this.1
    · exact this.2.1 _ (List.mem_map.mpr ⟨p, h, rfl⟩)
def tooDeep (m : Mdl) (p q : Pth) : Bool := decide (6 < (q.length : Int) - (p.length : Int) + maxL (under m p))
def reM (m : Mdl) (mv : Bool) (p q : Pth) : Mdl := (under m p).foldl (fun m' o => aput m' (q ++ o.drop p.length) ((aget m o).getD none)) (if mv = true then (under m p).foldl adrop m else m)
def movedR (m : Mdl) (mv : Bool) (p q : Pth) : Str × Mdl :=
  if (aget m p).isNone = true ∨ isFolder m q.dropLast = false then ("NoThing", m)
  else if mv = true ∧ q.take p.length = p then ("Within", m)
  else if (aget m q).isSome = true then ("Taken", m)
  else if 8 ≤ ((within m q.dropLast).length : Int) - (if mv = true ∧ p.dropLast = q.dropLast then 1 else 0) then ("TooMany", m)
  else if tooDeep m p q = true then ("TooDeep", m)
  else ("", reM m mv p q)
theorem under_sub {m : Mdl} {p o : Pth} (h : o ∈ under m p) : o ∈ m.map (·.1) ∧ o.take p.length = p := by
  unfold under at h
  obtain ⟨x, hx, rfl⟩ := List.mem_map.mp h
  obtain ⟨h1, h2⟩ := List.mem_filter.mp hx
  exact ⟨List.mem_map.mpr ⟨x, h1, rfl⟩, by simpa using h2⟩
theorem mem_under {m : Mdl} {p o : Pth} : o ∈ under m p ↔ o ∈ m.map (·.1) ∧ o.take p.length = p := by
  refine ⟨under_sub, fun ⟨h1, h2⟩ => ?_⟩
  obtain ⟨x, hx, rfl⟩ := List.mem_map.mp h1
  unfold under
  exact List.mem_map.mpr ⟨x, List.mem_filter.mpr ⟨hx, by simpa using h2⟩, rfl⟩
theorem under_nd {m : Mdl} {p : Pth} (h : Ok m) : (under m p).Nodup := by
  unfold under
  have : ((m.filter fun x => decide (x.1.take p.length = p)).map (·.1)).Sublist (m.map (·.1)) := List.filter_sublist.map _
  exact this.nodup h.nd
theorem under_len {m : Mdl} {p : Pth} : (under m p).length ≤ m.length := by
  unfold under
  rw [List.length_map]
  exact List.length_filter_le _ _
theorem foldl_drop_mem : ∀ (os : List Pth) (m : Mdl) (x : Pth × Option (List Lf)), x ∈ os.foldl adrop m ↔ x ∈ m ∧ x.1 ∉ os
  | [], m, x => by simp
  | o :: os, m, x => by
    rw [List.foldl_cons, foldl_drop_mem os, mem_adrop]
    simp only [List.mem_cons, not_or]
    constructor
    · rintro ⟨⟨a, b⟩, c⟩; exact ⟨a, b, c⟩
    · rintro ⟨a, b, c⟩; exact ⟨⟨a, b⟩, c⟩
theorem foldl_drop_nd : ∀ (os : List Pth) (m : Mdl), (m.map (·.1)).Nodup → ((os.foldl adrop m).map (·.1)).Nodup
  | [], m, h => h
  | o :: os, m, h => foldl_drop_nd os _ (adrop_nd h)
theorem aput_len {m : Mdl} {p : Pth} {v : Option (List Lf)} : (aput m p v).length ≤ m.length + 1 := by
  unfold aput
  split
  · rw [List.length_map]; omega
  · rw [List.length_append, List.length_singleton]; omega
theorem adrop_len {m : Mdl} {p : Pth} : (adrop m p).length ≤ m.length := List.length_filter_le _ _
theorem key_ne {m : Mdl} (h : Ok m) {o : Pth} (ho : o ∈ m.map (·.1)) : GoodW o := by
  obtain ⟨x, hx, rfl⟩ := List.mem_map.mp ho
  exact h.good x hx
/-- the loops of moved: the old ones go -/
theorem loop_out {m : Mdl} {r : List (Option D)} {g : GR Unit} (os : List Pth) (nd : os.Nodup) (ws : List Nat) (F : D → List (Option D)) (tb : SR Unit)
    (hg : ∀ d m', g d ⟨some (eM m') :: r, ()⟩ = some ⟨some (eM m') :: F d, ()⟩) (htb : ∀ o (m' : Mdl) v, o ≠ [] → aget m' o = some v → tb ⟨some (eM m') :: F (eP o), ()⟩ = .ok .nx ⟨some (eM (adrop m' o)) :: F (eP o), ()⟩) (hw : ∀ d (m' : Mdl), wipeL (some (eM m') :: F d) ws = some (eM m') :: r)
    (hne : ∀ o ∈ os, o ≠ []) (hin : ∀ o ∈ os, o ∈ m.map (·.1)) : forF g tb ws (os.map eP) ⟨some (eM m) :: r, ()⟩ = .ok .nx ⟨some (eM (os.foldl adrop m)) :: r, ()⟩ := by
  induction os generalizing m with
  | nil => rfl
  | cons o os ih =>
    have hnd := List.nodup_cons.mp nd
    obtain ⟨v, hv⟩ := aget_some_of (hin o List.mem_cons_self)
    rw [List.map_cons]
    unfold forF
    rw [hg]
    show ((tb ⟨some (eM m) :: F (eP o), ()⟩).bind _) = _
    rw [htb o m v (hne o List.mem_cons_self) hv, eb_ok]
    show forF g tb ws (os.map eP) ⟨wipeL (some (eM (adrop m o)) :: F (eP o)) ws, ()⟩ = _
    rw [hw]
    exact ih hnd.2 (fun x hx => hne x (List.mem_cons_of_mem _ hx)) fun x hx => by
      obtain ⟨y, hy, rfl⟩ := List.mem_map.mp (hin x (List.mem_cons_of_mem _ hx))
      exact List.mem_map.mpr ⟨y, mem_adrop.mpr ⟨hy, fun e => hnd.1 (by rw [← e]; exact hx)⟩, rfl⟩
theorem loop_put {m m0 : Mdl} {r : List (Option D)} {g : GR Unit} (os : List Pth) (ws : List Nat) (F : D → List (Option D)) (tb : SR Unit) (key : Pth → Pth)
    (hg : ∀ d m', g d ⟨some (eM m') :: r, ()⟩ = some ⟨some (eM m') :: F d, ()⟩) (htb : ∀ o ∈ os, ∀ (m' : Mdl), m'.length < 10000 → tb ⟨some (eM m') :: F (eP o), ()⟩ = .ok .nx ⟨some (eM (aput m' (key o) ((aget m0 o).getD none))) :: F (eP o), ()⟩) (hw : ∀ d (m' : Mdl), wipeL (some (eM m') :: F d) ws = some (eM m') :: r)
    (hl : m.length + os.length < 10000) : forF g tb ws (os.map eP) ⟨some (eM m) :: r, ()⟩ = .ok .nx ⟨some (eM (os.foldl (fun m' o => aput m' (key o) ((aget m0 o).getD none)) m)) :: r, ()⟩ := by
  induction os generalizing m with
  | nil => rfl
  | cons o os ih =>
    rw [List.length_cons] at hl
    rw [List.map_cons]
    unfold forF
    rw [hg]
    show ((tb ⟨some (eM m) :: F (eP o), ()⟩).bind _) = _
    rw [htb o List.mem_cons_self m (by omega), eb_ok]
    show forF g tb ws (os.map eP) ⟨wipeL (some (eM (aput m (key o) ((aget m0 o).getD none))) :: F (eP o)) ws, ()⟩ = _
    rw [hw]
    exact ih (fun x hx => htb x (List.mem_cons_of_mem _ hx)) (by have := aput_len (m := m) (p := key o) (v := (aget m0 o).getD none); omega)
theorem moved_ok {m : Mdl} (hm : Ok m) {p q : Pth} (hp : GoodW p) (hq : GoodW q) (k : Str) : F__law_moved [eM m, .tup [.str k, eP p, eP q]] = .ok (.str (movedR m (decide (k = "move")) p q).1) [eM (movedR m (decide (k = "move")) p q).2] := by
  obtain ⟨dd, hdd⟩ : ∃ dd, dd = D.tup [.str k, eP p, eP q] := ⟨_, rfl⟩
  rw [← hdd]
  have x0 : ixO dd (.int 0) = some (.str k) := by rw [hdd]; simp
  have x1 : ixO dd (.int 1) = some (eP p) := by rw [hdd]; simp
  have x2 : ixO dd (.int 2) = some (eP q) := by rw [hdd]; simp
  have hq' : ∀ x ∈ q.dropLast, Good x := fun x hx => hq.2.2 x (List.dropLast_subset _ hx)
  have hp' : ∀ x ∈ p.dropLast, Good x := fun x hx => hp.2.2 x (List.dropLast_subset _ hx)
  have hpt : ∀ x ∈ q.take p.length, Good x := fun x hx => hq.2.2 x (List.mem_of_mem_take hx)
  -- what the tests give
  have t1 := ninO_eM (m := m) hp.1
  have t2 := folder_ok (m := m) hq'
  have t3 : slO (eP q) none (some (p.length : Int)) = some (eP (q.take p.length)) := by rw [sl_to (by omega), Int.toNat_natCast]
  have t4 := eq_eP hpt hp.2.2
  have t5 := inO_eM (m := m) hq.1
  have t6 := within_ok hm hq'
  have t7 := eq_eP hp' hq'
  have t8 := under_ok hm hp.2.2
  have q1 : fSet 2 (liftP (fOp ixO (fVar 1) (fC (.int 1)))) (⟨[some (eM m), some dd, none, none, none, none, none, none], ()⟩ : St Unit) = .ok .nx ⟨[some (eM m), some dd, some (eP p), none, none, none, none, none], ()⟩ := by simp [x1]
  have q2 : fSet 3 (liftP (fOp ixO (fVar 1) (fC (.int 2)))) (⟨[some (eM m), some dd, some (eP p), none, none, none, none, none], ()⟩ : St Unit) = .ok .nx ⟨[some (eM m), some dd, some (eP p), some (eP q), none, none, none, none], ()⟩ := by simp [x2]
  suffices body : ∃ l, r__law_moved (startS 8 [eM m, dd]) = .ok (.rt (.str (movedR m (decide (k = "move")) p q).1)) ⟨some (eM (movedR m (decide (k = "move")) p q).2) :: l, ()⟩ by
    obtain ⟨l, body⟩ := body
    unfold F__law_moved runF
    rw [body]
    show Rs.ok _ (_ :: outsS [.own .p] l) = _
    rw [outsS_none _ _ (by intro κ hκ; rw [List.mem_singleton.mp hκ]; rfl)]
    rfl
  unfold r__law_moved
  rw [show startS 8 [eM m, dd] = (⟨[some (eM m), some dd, none, none, none, none, none, none], ()⟩ : St Unit) from rfl, seq_nx q1, seq_nx q2]
  unfold movedR
  by_cases c1 : (aget m p).isNone = true ∨ isFolder m q.dropLast = false
  · rw [if_pos c1]
    refine ⟨_, seq_rt (s1 := ⟨[some (eM m), some dd, some (eP p), some (eP q), none, none, none, none], ()⟩) ?_⟩
    cases g : aget m p with
    | none => rw [g] at t1; simp [t1]
    | some v =>
      rw [g] at t1 c1
      have : isFolder m q.dropLast = false := by rcases c1 with h | h; cases h; exact h
      rw [this] at t2
      simp [t1, sl_last, t2]
  rw [if_neg c1]
  have hpk : ∃ v, aget m p = some v := by
    cases g : aget m p with
    | none => exact absurd (.inl (by rw [g]; rfl)) c1
    | some v => exact ⟨v, rfl⟩
  have hfo : isFolder m q.dropLast = true := by
    cases g : isFolder m q.dropLast with
    | false => exact absurd (.inr g) c1
    | true => rfl
  obtain ⟨v, hv⟩ := hpk
  rw [hv] at t1
  rw [hfo] at t2
  rw [seq_nx (s1 := ⟨[some (eM m), some dd, some (eP p), some (eP q), none, none, none, none], ()⟩) (by simp [t1, sl_last, t2])]
  -- within itself
  by_cases c2 : decide (k = "move") = true ∧ q.take p.length = p
  · rw [if_pos c2]
    have t4' : eqD (eP (q.take p.length)) (eP p) = some (.bl true) := by rw [t4, decide_eq_true c2.2]
    exact ⟨_, seq_rt (s1 := ⟨[some (eM m), some dd, some (eP p), some (eP q), none, none, none, none], ()⟩) (by simp [x0, t3, t4', c2.1])⟩
  rw [if_neg c2]
  rw [seq_nx (s1 := ⟨[some (eM m), some dd, some (eP p), some (eP q), none, none, none, none], ()⟩) (by
    cases ck : decide (k = "move") with
    | false => simp [x0, ck]
    | true =>
      have : q.take p.length ≠ p := fun e => c2 ⟨ck, e⟩
      simp [x0, t3, t4, ck, this])]
  -- taken
  by_cases c3 : (aget m q).isSome = true
  · rw [if_pos c3]
    rw [c3] at t5
    exact ⟨_, seq_rt (s1 := ⟨[some (eM m), some dd, some (eP p), some (eP q), none, none, none, none], ()⟩) (by simp [t5])⟩
  rw [if_neg c3]
  have c3' : (aget m q).isSome = false := by cases h : (aget m q).isSome; rfl; exact absurd h c3
  rw [c3'] at t5
  rw [seq_nx (s1 := ⟨[some (eM m), some dd, some (eP p), some (eP q), none, none, none, none], ()⟩) (by simp [t5])]
  -- how many
  obtain ⟨L, hL⟩ : ∃ L : Int, L = ((within m q.dropLast).length : Int) := ⟨_, rfl⟩
  have tl : lenO [.fl ((within m q.dropLast).map D.str)] = some (.int L) := by rw [len_fl, List.length_map, hL]
  rw [← hL]
  rw [seq_nx (s1 := ⟨[some (eM m), some dd, some (eP p), some (eP q), some (.int L), none, none, none], ()⟩) (by simp [sl_last, t6, tl])]
  obtain ⟨L2, hL2⟩ : ∃ L2 : Int, L2 = L - (if decide (k = "move") = true ∧ p.dropLast = q.dropLast then 1 else 0) := ⟨_, rfl⟩
  rw [← hL2]
  rw [seq_nx (s1 := ⟨[some (eM m), some dd, some (eP p), some (eP q), some (.int L2), none, none, none], ()⟩) (by
    cases ck : decide (k = "move") with
    | false =>
      have : L2 = L := by rw [hL2, if_neg (by rw [ck]; simp)]; omega
      simp [x0, ck, this]
    | true =>
      by_cases cp : p.dropLast = q.dropLast
      · have : L2 = L - 1 := by rw [hL2, if_pos ⟨ck, cp⟩]
        have t7' : eqD (eP p.dropLast) (eP q.dropLast) = some (.bl true) := by rw [t7, decide_eq_true cp]
        simp [x0, sl_last, t7', ck, this]
      · have : L2 = L := by rw [hL2, if_neg (fun z => cp z.2)]; omega
        simp [x0, sl_last, t7, ck, cp, this])]
  by_cases c4 : 8 ≤ L2
  · rw [if_pos c4]
    exact ⟨_, seq_rt (s1 := ⟨[some (eM m), some dd, some (eP p), some (eP q), some (.int L2), none, none, none], ()⟩) (by simp [c4])⟩
  rw [if_neg c4]
  rw [seq_nx (s1 := ⟨[some (eM m), some dd, some (eP p), some (eP q), some (.int L2), none, none, none], ()⟩) (by simp [c4])]
  rw [seq_nx (s1 := ⟨[some (eM m), some dd, some (eP p), some (eP q), some (.int L2), some (.fl ((under m p).map eP)), none, none], ()⟩) (by simp [t8])]
  -- too deep
  have hul := under_len (m := m) (p := p)
  have hsm := hm.small
  have hpu : p ∈ under m p := mem_under.mpr ⟨aget_isSome.mp (by rw [hv]; rfl), by simp⟩
  have hc := compL_map (g := (gName 7 : GR Unit)) (tt := eYes) (te := (liftP (fCB lenO (fCons (fVar 7) fNil)))) (vs := [7]) (s := ⟨[some (eM m), some dd, some (eP p), some (eP q), some (.int L2), some (.fl ((under m p).map eP)), none, none], ()⟩) eP (fun o => .int (o.length : Int)) (xs := under m p) (fun x hx => by
    refine ⟨⟨[some (eM m), some dd, some (eP p), some (eP q), some (.int L2), some (.fl ((under m p).map eP)), none, some (eP x)], ()⟩, rfl, rfl, ?_, rfl⟩
    simp)
  have hlc : lstO ((under m p).map fun o => D.int (o.length : Int)) = .ok (.fl _) := lstO_ok (by rw [List.length_map]; omega)
  obtain ⟨M, hM⟩ : ∃ M : Int, M = maxL (under m p) := ⟨_, rfl⟩
  have hmx : maxLO [.fl ((under m p).map fun o => D.int (o.length : Int))] = some (.int M) := by
    rw [hM]
    cases hu : under m p with
    | nil => rw [hu] at hpu; cases hpu
    | cons o os =>
      show (match asInts ((o :: os).map fun o => D.int (o.length : Int)) with
        | some (n :: ns) => some (D.int (maxN n ns))
        | _ => none) = _
      have : (o :: os).map (fun o => D.int (o.length : Int)) = ((o :: os).map fun o => (o.length : Int)).map D.int := by rw [List.map_map]; rfl
      rw [this, asInts_m]
      rfl
  obtain ⟨LP, hLP⟩ : ∃ LP : Int, LP = (p.length : Int) := ⟨_, rfl⟩
  obtain ⟨LQ, hLQ⟩ : ∃ LQ : Int, LQ = (q.length : Int) := ⟨_, rfl⟩
  have tp : lenO [eP p] = some (.int LP) := by rw [len_eP, hLP]
  have tq : lenO [eP q] = some (.int LQ) := by rw [len_eP, hLQ]
  have hdeep : tooDeep m p q = decide (6 < LQ - LP + M) := by unfold tooDeep; rw [hLQ, hLP, hM]
  have ev5 : (eTest (eOp gtI (eOp addO (liftP (fOp subI (fCB lenO (fCons (fVar 3) fNil)) (fCB lenO (fCons (fVar 2) fNil)))) (eCB maxLO (eCons (eLc (eSeq (liftP (fVar 5))) (gName 7) eYes (liftP (fCB lenO (fCons (fVar 7) fNil))) [7]) eNil))) (liftP (fC (.int 6))))) (⟨[some (eM m), some dd, some (eP p), some (eP q), some (.int L2), some (.fl ((under m p).map eP)), none, none], ()⟩ : St Unit) = .ok (decide (6 < LQ - LP + M)) ⟨[some (eM m), some dd, some (eP p), some (eP q), some (.int L2), some (.fl ((under m p).map eP)), none, none], ()⟩ := by
    simp [-len_eP, tp, tq, hc, hlc, hmx]
  by_cases c5 : 6 < LQ - LP + M
  · rw [if_pos (by rw [hdeep]; exact decide_eq_true c5)]
    exact ⟨_, seq_rt (s1 := ⟨[some (eM m), some dd, some (eP p), some (eP q), some (.int L2), some (.fl ((under m p).map eP)), none, none], ()⟩) (by rw [a_fIfS, ev5, eb_ok, decide_eq_true c5]; rfl)⟩
  rw [if_neg (by rw [hdeep]; simpa using c5)]
  rw [seq_nx (s1 := ⟨[some (eM m), some dd, some (eP p), some (eP q), some (.int L2), some (.fl ((under m p).map eP)), none, none], ()⟩) (by rw [a_fIfS, ev5, eb_ok, decide_eq_false c5]; rfl)]
  rw [seq_nx (s1 := ⟨[some (eM m), some dd, some (eP p), some (eP q), some (.int L2), some (.fl ((under m p).map eP)), some (eM m), none], ()⟩) (by simp [twin_ok hm])]
  -- out
  have hne : ∀ o ∈ under m p, o ≠ [] := fun o ho => (key_ne hm (under_sub ho).1).1
  have lo : fFor (eSeq (liftP (fVar 5))) (gName 7) (fIfS (liftP (fTest (fOp eqD (fOp ixO (fVar 1) (fC (.int 0))) (fC (.str "move"))))) (fExpr (eMut 0 (popKM true) (eCons (liftP (fVar 7)) eNil))) fNext) [7] (⟨[some (eM m), some dd, some (eP p), some (eP q), some (.int L2), some (.fl ((under m p).map eP)), some (eM m), none], ()⟩ : St Unit)
      = .ok .nx ⟨[some (eM (if decide (k = "move") = true then (under m p).foldl adrop m else m)), some dd, some (eP p), some (eP q), some (.int L2), some (.fl ((under m p).map eP)), some (eM m), none], ()⟩ := by
    rw [a_fFor]
    have e1 : eSeq (liftP (fVar 5)) (⟨[some (eM m), some dd, some (eP p), some (eP q), some (.int L2), some (.fl ((under m p).map eP)), some (eM m), none], ()⟩ : St Unit) = .ok ((under m p).map eP) ⟨[some (eM m), some dd, some (eP p), some (eP q), some (.int L2), some (.fl ((under m p).map eP)), some (eM m), none], ()⟩ := by simp
    rw [e1, eb_ok]
    cases ck : decide (k = "move") with
    | true =>
      rw [if_pos rfl]
      exact loop_out (under m p) (under_nd hm) [7] (fun d => [some dd, some (eP p), some (eP q), some (.int L2), some (.fl ((under m p).map eP)), some (eM m), some d]) _ (fun _ _ => rfl) (fun o m' v ho hv => by
        have := pop_eM ho hv
        simp [x0, ck, this]) (fun _ _ => rfl) hne (fun o ho => (under_sub ho).1)
    | false =>
      rw [if_neg (by simp)]
      obtain ⟨s', e, rfl⟩ := forF_on (g := (gName 7 : GR Unit)) (tb := (fIfS (liftP (fTest (fOp eqD (fOp ixO (fVar 1) (fC (.int 0))) (fC (.str "move"))))) (fExpr (eMut 0 (popKM true) (eCons (liftP (fVar 7)) eNil))) fNext)) (ws := [7]) (fun _ s => s = ⟨[some (eM m), some dd, some (eP p), some (eP q), some (.int L2), some (.fl ((under m p).map eP)), some (eM m), none], ()⟩)
        (fun x xs s hs => by
          subst hs
          exact ⟨⟨[some (eM m), some dd, some (eP p), some (eP q), some (.int L2), some (.fl ((under m p).map eP)), some (eM m), some x], ()⟩, rfl, .nx, ⟨[some (eM m), some dd, some (eP p), some (eP q), some (.int L2), some (.fl ((under m p).map eP)), some (eM m), some x], ()⟩, by simp [x0, ck], .inl rfl, rfl⟩) ((under m p).map eP) _ rfl
      exact e
  rw [seq_nx lo]
  -- in
  have li : fFor (eSeq (liftP (fVar 5))) (gName 7) (fSetIx 0 (setM true) (liftP (fOp ixO (fVar 6) (fVar 7))) (liftP (fOp addO (fVar 3) (fSl (fVar 7) (fPart (fCB lenO (fCons (fVar 2) fNil))) fNoPart)))) [7] (⟨[some (eM (if decide (k = "move") = true then (under m p).foldl adrop m else m)), some dd, some (eP p), some (eP q), some (.int L2), some (.fl ((under m p).map eP)), some (eM m), none], ()⟩ : St Unit)
      = .ok .nx ⟨[some (eM (reM m (decide (k = "move")) p q)), some dd, some (eP p), some (eP q), some (.int L2), some (.fl ((under m p).map eP)), some (eM m), none], ()⟩ := by
    rw [a_fFor]
    have e1 : eSeq (liftP (fVar 5)) (⟨[some (eM (if decide (k = "move") = true then (under m p).foldl adrop m else m)), some dd, some (eP p), some (eP q), some (.int L2), some (.fl ((under m p).map eP)), some (eM m), none], ()⟩ : St Unit) = .ok ((under m p).map eP) ⟨[some (eM (if decide (k = "move") = true then (under m p).foldl adrop m else m)), some dd, some (eP p), some (eP q), some (.int L2), some (.fl ((under m p).map eP)), some (eM m), none], ()⟩ := by simp
    rw [e1, eb_ok]
    unfold reM
    refine loop_put (m0 := m) (under m p) [7] (fun d => [some dd, some (eP p), some (eP q), some (.int L2), some (.fl ((under m p).map eP)), some (eM m), some d]) _ (fun o => q ++ o.drop p.length) (fun _ _ => rfl) (fun o ho m' hl' => ?_) (fun _ _ => rfl) ?_
    · obtain ⟨v, hv⟩ := aget_some_of (under_sub ho).1
      have h1 := ix_eM (hne o ho) hv
      have h2 : slO (eP o) (some LP) none = some (eP (o.drop p.length)) := by rw [hLP, sl_from (by omega), Int.toNat_natCast]
      have hol := (key_ne hm (under_sub ho).1).2.1
      have hql := hq.2.1
      have h3 : addO (eP q) (eP (o.drop p.length)) = some (eP (q ++ o.drop p.length)) := addO_P (by rw [List.length_drop]; omega)
      have hqn : q ++ o.drop p.length ≠ [] := fun z => hq.1 (List.append_eq_nil_iff.mp z).1
      have h4 := set_eM (m := m') (v := v) hqn (by rw [PySem.sizeLine_eq]; omega)
      simp [-len_eP, h1, tp, h2, h3, h4, hv]
    · split
      · have : ∀ (os : List Pth) (m : Mdl), (os.foldl adrop m).length ≤ m.length := fun os => by
          induction os with
          | nil => exact fun m => Nat.le_refl _
          | cons o os ih => exact fun m => Nat.le_trans (ih _) adrop_len
        have := this (under m p) m
        omega
      · omega
  rw [seq_nx li]
  exact ⟨_, rfl⟩
end SH

namespace SH
open PySem FL L2
def doR (m : Mdl) : Deed → Str × Mdl
  | .move p q => movedR m true p q
  | .copy p q => movedR m false p q
  | .folder p => if isFolder m p.dropLast = false then ("NoThing", m) else if (aget m p).isSome = true then ("Taken", m) else if (within m p.dropLast).length = 8 then ("TooMany", m) else ("", aput m p none)
  | .file p => if isFolder m p.dropLast = false then ("NoThing", m) else if (aget m p).isSome = true then ("Taken", m) else if (within m p.dropLast).length = 8 then ("TooMany", m) else ("", aput (aput m p none) p (some []))
  | .out p => if (aget m p).isNone = true then ("NoThing", m) else ("", (under m p).foldl adrop m)
  | .trim p i => match aget m p with
    | some (some ls) => if (ls.length : Int) < i then ("NoLeaf", m) else ("", aput m p (some (ls.take i.toNat)))
    | _ => ("NoThing", m)
  | .put p i l => match aget m p with
    | some (some ls) => if (ls.length : Int) < i ∨ i = 64 then ("NoLeaf", m) else ("", aput m p (some (ls.take i.toNat ++ [l] ++ ls.drop (i.toNat + 1))))
    | _ => ("NoThing", m)
theorem do_move {m : Mdl} (hm : Ok m) {p q : Pth} (hp : GoodW p) (hq : GoodW q) : F__law_do [eM m, eD (.move p q)] = .ok (.str (movedR m true p q).1) [eM (movedR m true p q).2] := by
  have h := moved_ok hm hp hq ("move" : Str)
  simp only [decide_true] at h
  simp (decide := true) [F__law_do, r__law_do, runF, startS, eD, h]
theorem do_copy {m : Mdl} (hm : Ok m) {p q : Pth} (hp : GoodW p) (hq : GoodW q) : F__law_do [eM m, eD (.copy p q)] = .ok (.str (movedR m false p q).1) [eM (movedR m false p q).2] := by
  have h := moved_ok hm hp hq ("copy" : Str)
  rw [show decide (("copy" : Str) = ("move" : Str)) = false by decide] at h
  simp (decide := true) [F__law_do, r__law_do, runF, startS, eD, h]
theorem do_folder {m : Mdl} (hm : Ok m) {p : Pth} (hp : GoodW p) : F__law_do [eM m, eD (.folder p)] = .ok (.str (doR m (.folder p)).1) [eM (doR m (.folder p)).2] := by
  have hp' : ∀ x ∈ p.dropLast, Good x := fun x hx => hp.2.2 x (List.dropLast_subset _ hx)
  have t1 := folder_ok (m := m) hp'
  have t2 := inO_eM (m := m) hp.1
  have t3 := within_ok hm hp'
  have hsm := hm.small
  have t4 := set_eM (m := m) (v := none) hp.1 (by rw [PySem.sizeLine_eq]; omega)
  have t4' : setM true (eM m) (eP p) .non = some (eM (aput m p none)) := t4
  obtain ⟨L, hL⟩ : ∃ L : Int, L = ((within m p.dropLast).length : Int) := ⟨_, rfl⟩
  have tl : lenO [.fl ((within m p.dropLast).map D.str)] = some (.int L) := by rw [len_fl, List.length_map, hL]
  unfold doR
  cases c1 : isFolder m p.dropLast with
  | false =>
    rw [c1] at t1
    simp (decide := true) [F__law_do, r__law_do, runF, startS, eD, sl_last, t1, c1]
  | true =>
    rw [c1] at t1
    cases c2 : (aget m p).isSome with
    | true =>
      rw [c2] at t2
      simp (decide := true) [F__law_do, r__law_do, runF, startS, eD, sl_last, t1, t2, c1, c2]
    | false =>
      rw [c2] at t2
      by_cases c3 : (within m p.dropLast).length = 8
      · have : L = 8 := by omega
        simp (decide := true) [F__law_do, r__law_do, runF, startS, eD, sl_last, t1, t2, t3, -len_fl, tl, this, c1, c2, c3]
      · have : L ≠ 8 := by omega
        simp (decide := true) [F__law_do, r__law_do, runF, startS, eD, sl_last, t1, t2, t3, -len_fl, tl, this, c1, c2, c3, t4']
theorem do_file {m : Mdl} (hm : Ok m) {p : Pth} (hp : GoodW p) : F__law_do [eM m, eD (.file p)] = .ok (.str (doR m (.file p)).1) [eM (doR m (.file p)).2] := by
  have hp' : ∀ x ∈ p.dropLast, Good x := fun x hx => hp.2.2 x (List.dropLast_subset _ hx)
  have t1 := folder_ok (m := m) hp'
  have t2 := inO_eM (m := m) hp.1
  have t3 := within_ok hm hp'
  have hsm := hm.small
  have t4 := set_eM (m := m) (v := none) hp.1 (by rw [PySem.sizeLine_eq]; omega)
  have t4' : setM true (eM m) (eP p) .non = some (eM (aput m p none)) := t4
  have hal := aput_len (m := m) (p := p) (v := none)
  have t5 := set_eM (m := aput m p none) (v := some []) hp.1 (by rw [PySem.sizeLine_eq]; omega)
  have t5' : setM true (eM (aput m p none)) (eP p) (eN []) = some (eM (aput (aput m p none) p (some []))) := t5
  obtain ⟨L, hL⟩ : ∃ L : Int, L = ((within m p.dropLast).length : Int) := ⟨_, rfl⟩
  have tl : lenO [.fl ((within m p.dropLast).map D.str)] = some (.int L) := by rw [len_fl, List.length_map, hL]
  unfold doR
  cases c1 : isFolder m p.dropLast with
  | false =>
    rw [c1] at t1
    simp (decide := true) [F__law_do, r__law_do, runF, startS, eD, sl_last, t1, c1]
  | true =>
    rw [c1] at t1
    cases c2 : (aget m p).isSome with
    | true =>
      rw [c2] at t2
      simp (decide := true) [F__law_do, r__law_do, runF, startS, eD, sl_last, t1, t2, c1, c2]
    | false =>
      rw [c2] at t2
      by_cases c3 : (within m p.dropLast).length = 8
      · have : L = 8 := by omega
        simp (decide := true) [F__law_do, r__law_do, runF, startS, eD, sl_last, t1, t2, t3, -len_fl, tl, this, c1, c2, c3]
      · have : L ≠ 8 := by omega
        simp (decide := true) [F__law_do, r__law_do, runF, startS, eD, sl_last, t1, t2, t3, -len_fl, tl, this, c1, c2, c3, t4', t5']
theorem do_out {m : Mdl} (hm : Ok m) {p : Pth} (hp : GoodW p) : F__law_do [eM m, eD (.out p)] = .ok (.str (doR m (.out p)).1) [eM (doR m (.out p)).2] := by
  have t1 := ninO_eM (m := m) hp.1
  have t2 := under_ok hm hp.2.2
  have hne : ∀ o ∈ under m p, o ≠ [] := fun o ho => (key_ne hm (under_sub ho).1).1
  unfold doR
  cases g : aget m p with
  | none =>
    rw [g] at t1
    simp (decide := true) [F__law_do, r__law_do, runF, startS, eD, t1, g]
  | some v =>
    rw [g] at t1
    have hl := loop_out (m := m) (r := [some (eD (.out p)), some (eP p), none, none]) (g := (gName 3 : GR Unit)) (under m p) (under_nd hm) [3] (fun d => [some (eD (.out p)), some (eP p), some d, none]) (fExpr (eMut 0 (popKM true) (eCons (liftP (fVar 3)) eNil))) (fun _ _ => rfl) (fun o m' v ho hv => by
        have := pop_eM ho hv
        simp [this]) (fun _ _ => rfl) hne (fun o ho => (under_sub ho).1)
    simp only [eD] at hl
    simp (decide := true) [F__law_do, r__law_do, runF, startS, eD, t1, t2, hl, g]
theorem do_trim {m : Mdl} (hm : Ok m) {p : Pth} {i : Int} (hp : GoodW p) (hi : 0 ≤ i ∧ i ≤ 64) : F__law_do [eM m, eD (.trim p i)] = .ok (.str (doR m (.trim p i)).1) [eM (doR m (.trim p i)).2] := by
  have t1 := ninO_eM (m := m) hp.1
  unfold doR
  cases g : aget m p with
  | none =>
    rw [g] at t1
    simp (decide := true) [F__law_do, r__law_do, runF, startS, eD, t1, g]
  | some v =>
    rw [g] at t1
    have t2 := ix_eM hp.1 g
    cases v with
    | none => simp (decide := true) [F__law_do, r__law_do, runF, startS, eD, t1, t2, g]
    | some ls =>
      obtain ⟨L, hL⟩ : ∃ L : Int, L = (ls.length : Int) := ⟨_, rfl⟩
      have tl : lenO [eV (some ls)] = some (.int L) := by rw [len_ls, hL]
      have hsm := hm.small
      have t3 := set_eM (m := m) (v := some (ls.take i.toNat)) hp.1 (by rw [PySem.sizeLine_eq]; omega)
      have t4 : slO (eV (some ls)) none (some i) = some (eV (some (ls.take i.toNat))) := by unfold eV; simp only [slO_l]; rw [cutD_to _ _ hi.1]
      by_cases c : L < i
      · have c' : (ls.length : Int) < i := by omega
        simp (decide := true) [F__law_do, r__law_do, runF, startS, eD, t1, t2, g, -len_ls, tl, c, c']
      · have c' : ¬ (ls.length : Int) < i := by omega
        simp (decide := true) [F__law_do, r__law_do, runF, startS, eD, t1, t2, g, -len_ls, tl, c, c', t3, t4]
theorem do_put {m : Mdl} (hm : Ok m) {p : Pth} {i : Int} {l : Lf} (hp : GoodW p) (hi : 0 ≤ i ∧ i ≤ 64) : F__law_do [eM m, eD (.put p i l)] = .ok (.str (doR m (.put p i l)).1) [eM (doR m (.put p i l)).2] := by
  have t1 := ninO_eM (m := m) hp.1
  unfold doR
  cases g : aget m p with
  | none =>
    rw [g] at t1
    simp (decide := true) [F__law_do, r__law_do, runF, startS, eD, t1, g]
  | some v =>
    rw [g] at t1
    have t2 := ix_eM hp.1 g
    cases v with
    | none => simp (decide := true) [F__law_do, r__law_do, runF, startS, eD, t1, t2, g]
    | some ls =>
      obtain ⟨L, hL⟩ : ∃ L : Int, L = (ls.length : Int) := ⟨_, rfl⟩
      have tl : lenO [eV (some ls)] = some (.int L) := by rw [len_ls, hL]
      have hsm := hm.small
      have hls := hm.leaf _ (aget_mem g) ls rfl
      have t3 := set_eM (m := m) (v := some (ls.take i.toNat ++ [l] ++ ls.drop (i.toNat + 1))) hp.1 (by rw [PySem.sizeLine_eq]; omega)
      have t4 : slO (eV (some ls)) none (some i) = some (eV (some (ls.take i.toNat))) := by unfold eV; simp only [slO_l]; rw [cutD_to _ _ hi.1]
      have t5 : slO (eV (some ls)) (some (i + 1)) none = some (eV (some (ls.drop (i.toNat + 1)))) := by unfold eV; simp only [slO_l]; rw [cutD_from _ _ (by omega), show (i + 1).toNat = i.toNat + 1 by omega]
      have t6 : addO (eV (some (ls.take i.toNat))) (.fl [eL l]) = some (eV (some (ls.take i.toNat ++ [l]))) := by
        show (if ((ls.take i.toNat).map eL).length + 1 ≤ sizeLine then some (D.fl ((ls.take i.toNat).map eL ++ [eL l])) else none) = _
        rw [if_pos (by rw [List.length_map, List.length_take, PySem.sizeLine_eq]; omega)]
        simp [eV]
      have t7 : addO (eV (some (ls.take i.toNat ++ [l]))) (eV (some (ls.drop (i.toNat + 1)))) = some (eV (some (ls.take i.toNat ++ [l] ++ ls.drop (i.toNat + 1)))) := by
        show (if ((ls.take i.toNat ++ [l]).map eL).length + ((ls.drop (i.toNat + 1)).map eL).length ≤ sizeLine then some (D.fl ((ls.take i.toNat ++ [l]).map eL ++ (ls.drop (i.toNat + 1)).map eL)) else none) = _
        rw [if_pos (by simp only [List.length_map, List.length_append, List.length_take, List.length_drop, List.length_singleton]; rw [PySem.sizeLine_eq]; omega)]
        simp [eV]
      rw [List.append_assoc] at t3 t7
      simp only [List.cons_append, List.nil_append] at t3 t7
      by_cases c : L < i
      · have c' : (ls.length : Int) < i := by omega
        simp (decide := true) [F__law_do, r__law_do, runF, startS, eD, t1, t2, g, -len_ls, tl, c, c']
      · have c' : ¬ (ls.length : Int) < i := by omega
        by_cases d : i = 64
        · subst d
          simp (decide := true) [F__law_do, r__law_do, runF, startS, eD, t1, t2, g, -len_ls, tl, c, c']
        · simp (decide := true) [F__law_do, r__law_do, runF, startS, eD, t1, t2, g, -len_ls, tl, c, c', d, t3, t4, t5, t6, t7]
theorem do_ok {m : Mdl} (hm : Ok m) {d : Deed} (hd : GoodD d) : F__law_do [eM m, eD d] = .ok (.str (doR m d).1) [eM (doR m d).2] := by
  cases d with
  | folder p => exact do_folder hm hd
  | file p => exact do_file hm hd
  | put p i l => exact do_put hm hd.1 hd.2.1
  | trim p i => exact do_trim hm hd.1 hd.2
  | out p => exact do_out hm hd
  | move p q => exact do_move hm hd.1 hd.2
  | copy p q => exact do_copy hm hd.1 hd.2
end SH

namespace SH
open PySem FL L2
/-! ### room -/
def wt (v : Option (List Lf)) : Nat := 1 + lvs v
def S (m : Mdl) : Nat := (m.map fun x => wt x.2).sum
theorem room_S (m : Mdl) : room m = 1 + S m := rfl
theorem S_cons (x : Pth × Option (List Lf)) (m : Mdl) : S (x :: m) = wt x.2 + S m := by unfold S; simp
theorem S_len (m : Mdl) : m.length ≤ S m := by
  induction m with
  | nil => exact Nat.zero_le _
  | cons x m ih => rw [S_cons, List.length_cons]; unfold wt; omega
theorem S_append (a b : Mdl) : S (a ++ b) = S a + S b := by unfold S; simp
theorem S_map (k : Pth) (v : Option (List Lf)) : ∀ m : Mdl, (m.map (·.1)).Nodup → ∀ v0, (k, v0) ∈ m → S (m.map fun x => if x.1 = k then (x.1, v) else x) + lvs v0 = S m + lvs v
  | [], _, _, h => by cases h
  | x :: m, nd, v0, h => by
    have nd' : x.1 ∉ m.map (·.1) ∧ (m.map (·.1)).Nodup := List.nodup_cons.mp (by rw [List.map_cons] at nd; exact nd)
    rw [List.map_cons, S_cons, S_cons]
    by_cases c : x.1 = k
    · have hv : x = (k, v0) := by
        rcases List.mem_cons.mp h with h | h
        · exact h.symm
        · exact absurd (List.mem_map.mpr ⟨_, h, rfl⟩) (by rw [← c]; exact nd'.1)
      have hm : (m.map fun x => if x.1 = k then (x.1, v) else x) = m := by
        conv => rhs; rw [← List.map_id m]
        refine List.map_congr_left fun y hy => ?_
        rw [if_neg (fun e => nd'.1 (by rw [c, ← e]; exact List.mem_map.mpr ⟨y, hy, rfl⟩))]
        rfl
      rw [hm, if_pos c, hv]
      unfold wt
      show 1 + lvs v + S m + lvs v0 = 1 + lvs v0 + S m + lvs v
      omega
    · rw [if_neg c]
      have h' : (k, v0) ∈ m := by
        rcases List.mem_cons.mp h with h | h
        · exact absurd (by rw [← h]) c
        · exact h
      have ih := S_map k v m nd'.2 v0 h'
      omega
theorem S_old {m : Mdl} (nd : (m.map (·.1)).Nodup) {k : Pth} {v v0 : Option (List Lf)} (h : aget m k = some v0) : S (aput m k v) + lvs v0 = S m + lvs v := by
  unfold aput
  rw [if_pos (any_key.mpr (aget_isSome.mp (by rw [h]; rfl)))]
  exact S_map k v m nd v0 (aget_mem h)
theorem S_put {m : Mdl} (nd : (m.map (·.1)).Nodup) (k : Pth) (v : Option (List Lf)) : S (aput m k v) ≤ S m + wt v := by
  cases h : aget m k with
  | none =>
    rw [aput_new (aget_none.mp h), S_append, S_cons]
    unfold S
    simp
  | some v0 =>
    have := S_old nd (v := v) h
    unfold wt
    omega
theorem S_drop (k : Pth) : ∀ m : Mdl, (m.map (·.1)).Nodup → ∀ v0, aget m k = some v0 → S (adrop m k) + wt v0 = S m
  | [], _, _, h => by cases h
  | x :: m, nd, v0, h => by
    have nd' : x.1 ∉ m.map (·.1) ∧ (m.map (·.1)).Nodup := List.nodup_cons.mp (by rw [List.map_cons] at nd; exact nd)
    by_cases c : x.1 = k
    · have e0 : aget (x :: m) k = some x.2 := by unfold aget; rw [List.find?_cons]; simp [c]
      rw [e0] at h
      cases h
      have e1 : adrop (x :: m) k = m := by
        unfold adrop
        rw [List.filter_cons_of_neg (by simp [c])]
        refine List.filter_eq_self.mpr fun y hy => ?_
        simp only [decide_eq_true_eq]
        exact fun e => nd'.1 (by rw [c, ← e]; exact List.mem_map.mpr ⟨y, hy, rfl⟩)
      rw [e1, S_cons]
      omega
    · have e0 : aget (x :: m) k = aget m k := by unfold aget; rw [List.find?_cons]; simp [c]
      rw [e0] at h
      have ih := S_drop k m nd'.2 v0 h
      have e1 : adrop (x :: m) k = x :: adrop m k := by
        unfold adrop
        rw [List.filter_cons_of_pos (by simpa using c)]
      rw [e1, S_cons, S_cons]
      omega
def W (m : Mdl) (os : List Pth) : Nat := (os.map fun o => wt ((aget m o).getD none)).sum
theorem S_drops : ∀ (os : List Pth) (m : Mdl), (m.map (·.1)).Nodup → os.Nodup → (∀ o ∈ os, o ∈ m.map (·.1)) → S (os.foldl adrop m) + W m os = S m
  | [], m, _, _, _ => by unfold W; simp
  | o :: os, m, nd, no, hin => by
    have no' := List.nodup_cons.mp no
    obtain ⟨v, hv⟩ := aget_some_of (hin o List.mem_cons_self)
    have h1 := S_drop o m nd v hv
    have ih := S_drops os (adrop m o) (adrop_nd nd) no'.2 (fun x hx => by
      obtain ⟨y, hy, rfl⟩ := List.mem_map.mp (hin x (List.mem_cons_of_mem _ hx))
      exact List.mem_map.mpr ⟨y, mem_adrop.mpr ⟨hy, fun e => no'.1 (by rw [← e]; exact hx)⟩, rfl⟩)
    have hW : W (adrop m o) os = W m os := by
      unfold W
      congr 1
      refine List.map_congr_left fun x hx => ?_
      rw [aget_adrop, if_neg (fun e => no'.1 (by rw [← e]; exact hx))]
    have hc : W m (o :: os) = wt v + W m os := by unfold W; simp [hv]
    rw [List.foldl_cons, hc]
    rw [hW] at ih
    omega
theorem S_puts (m0 : Mdl) (key : Pth → Pth) : ∀ (os : List Pth) (m : Mdl), (m.map (·.1)).Nodup → S (os.foldl (fun m' o => aput m' (key o) ((aget m0 o).getD none)) m) ≤ S m + W m0 os
  | [], m, _ => by unfold W; simp
  | o :: os, m, nd => by
    have h1 := S_put nd (key o) ((aget m0 o).getD none)
    have ih := S_puts m0 key os (aput m (key o) ((aget m0 o).getD none)) (aput_nd nd)
    have hc : W m0 (o :: os) = wt ((aget m0 o).getD none) + W m0 os := by unfold W; simp
    rw [List.foldl_cons, hc]
    omega
/-! ### what a deed keeps -/
/-- Ok without the size -/
structure Ok0 (m : Mdl) : Prop where
  nd : (m.map (·.1)).Nodup
  good : ∀ x ∈ m, GoodW x.1
  leaf : ∀ x ∈ m, ∀ ls, x.2 = some ls → ls.length ≤ 64 ∧ ∀ l ∈ ls, GoodL l
theorem _root_.FL.Ok.z {m : Mdl} (h : Ok m) : Ok0 m := ⟨h.nd, h.good, h.leaf⟩
theorem Ok0.ok {m : Mdl} (h : Ok0 m) (s : room m ≤ 1000) : Ok m := ⟨h.nd, h.good, h.leaf, by have := S_len m; rw [room_S] at s; omega⟩
theorem Ok0.put {m : Mdl} (h : Ok0 m) {k : Pth} {v : Option (List Lf)} (hk : GoodW k) (hv : ∀ ls, v = some ls → ls.length ≤ 64 ∧ ∀ l ∈ ls, GoodL l) : Ok0 (aput m k v) := by
  refine ⟨aput_nd h.nd, fun x hx => ?_, fun x hx ls e => ?_⟩
  · rcases mem_aput (q := x.1) (w := x.2) hx with ⟨e, _⟩ | ⟨_, e⟩
    · rw [e]; exact hk
    · exact h.good _ e
  · rcases mem_aput (q := x.1) (w := x.2) hx with ⟨_, e'⟩ | ⟨_, e'⟩
    · exact hv ls (by rw [← e', e])
    · exact h.leaf _ e' ls e
theorem Ok0.drop {m : Mdl} (h : Ok0 m) (k : Pth) : Ok0 (adrop m k) := ⟨adrop_nd h.nd, fun x hx => h.good x (mem_adrop.mp hx).1, fun x hx => h.leaf x (mem_adrop.mp hx).1⟩
theorem Ok0.drops : ∀ (os : List Pth) {m : Mdl}, Ok0 m → Ok0 (os.foldl adrop m)
  | [], m, h => h
  | o :: os, m, h => Ok0.drops os (h.drop o)
theorem Ok0.puts {m0 : Mdl} (h0 : Ok0 m0) (key : Pth → Pth) : ∀ (os : List Pth) {m : Mdl}, Ok0 m → (∀ o ∈ os, GoodW (key o)) → Ok0 (os.foldl (fun m' o => aput m' (key o) ((aget m0 o).getD none)) m)
  | [], m, h, _ => h
  | o :: os, m, h, hk => Ok0.puts h0 key os (h.put (hk o List.mem_cons_self) fun ls e => by
      cases g : aget m0 o with
      | none => rw [g] at e; cases e
      | some v =>
        rw [g] at e
        exact h0.leaf _ (aget_mem g) ls e) fun x hx => hk x (List.mem_cons_of_mem _ hx)
theorem moved_keeps {m : Mdl} (hm : Ok m) {p q : Pth} (hp : GoodW p) (hq : GoodW q) (mv : Bool) : Ok0 (movedR m mv p q).2 ∧ S (movedR m mv p q).2 ≤ (if mv = true then S m else 2 * S m) := by
  have triv : Ok0 m ∧ S m ≤ (if mv = true then S m else 2 * S m) := ⟨hm.z, by split <;> omega⟩
  unfold movedR
  generalize ((within m q.dropLast).length : Int) - (if mv = true ∧ p.dropLast = q.dropLast then 1 else 0) = X
  split
  · exact triv
  split
  · exact triv
  split
  · exact triv
  split
  · exact triv
  split
  · exact triv
  rename_i hd
  have hW := S_drops (under m p) m hm.nd (under_nd hm) fun o ho => (under_sub ho).1
  have hgood : ∀ o ∈ under m p, GoodW (q ++ o.drop p.length) := fun o ho => by
    have h1 := key_ne hm (under_sub ho).1
    have h2 := maxL_ge ho
    have h3 : ¬ 6 < (q.length : Int) - (p.length : Int) + maxL (under m p) := by
      intro z
      exact hd (decide_eq_true z)
    have h4 : p.length ≤ o.length := by
      have := congrArg List.length (under_sub ho).2
      rw [List.length_take] at this
      omega
    refine ⟨fun z => hq.1 (List.append_eq_nil_iff.mp z).1, ?_, fun x hx => ?_⟩
    · rw [List.length_append, List.length_drop]; omega
    · rcases List.mem_append.mp hx with hx | hx
      · exact hq.2.2 x hx
      · exact h1.2.2 x (List.mem_of_mem_drop hx)
  show Ok0 (reM m mv p q) ∧ S (reM m mv p q) ≤ _
  unfold reM
  cases mv with
  | true =>
    simp only [if_true]
    refine ⟨Ok0.puts hm.z _ _ (hm.z.drops _) hgood, ?_⟩
    have := S_puts m (fun o => q ++ o.drop p.length) (under m p) ((under m p).foldl adrop m) (foldl_drop_nd _ _ hm.nd)
    omega
  | false =>
    simp only [if_false, Bool.false_eq_true]
    refine ⟨Ok0.puts hm.z _ _ hm.z hgood, ?_⟩
    have := S_puts m (fun o => q ++ o.drop p.length) (under m p) m hm.nd
    omega
def isCopy : Deed → Bool
  | .copy _ _ => true
  | _ => false
theorem do_keeps {m : Mdl} (hm : Ok m) {d : Deed} (hd : GoodD d) : Ok0 (doR m d).2 ∧ S (doR m d).2 ≤ (if isCopy d = true then 2 * S m else S m + 1) := by
  have triv : Ok0 m ∧ S m ≤ S m + 1 := ⟨hm.z, by omega⟩
  cases d with
  | move p q =>
    have := moved_keeps hm hd.1 hd.2 true
    exact ⟨this.1, Nat.le_trans this.2 (by simp [isCopy])⟩
  | copy p q =>
    have := moved_keeps hm hd.1 hd.2 false
    exact ⟨this.1, Nat.le_trans this.2 (by simp [isCopy])⟩
  | folder p =>
    simp only [doR, isCopy, Bool.false_eq_true, if_false]
    split
    · exact triv
    split
    · exact triv
    split
    · exact triv
    refine ⟨hm.z.put hd fun ls e => (by cases e), ?_⟩
    exact S_put hm.nd p none
  | file p =>
    simp only [doR, isCopy, Bool.false_eq_true, if_false]
    split
    · exact triv
    split
    · exact triv
    split
    · exact triv
    refine ⟨(hm.z.put hd fun ls e => (by cases e)).put hd fun ls e => by cases e; exact ⟨by simp, fun _ z => by cases z⟩, ?_⟩
    have h1 := S_put hm.nd p none
    have h2 := S_old (aput_nd hm.nd) (v := some []) (aget_aput (m := m) (k := p) (q := p) (v := none) ▸ by rw [if_pos rfl] : aget (aput m p none) p = some none)
    simp only [lvs, wt] at h1 h2
    show S (aput (aput m p none) p (some [])) ≤ S m + 1
    simp only [List.length_nil] at h2
    omega
  | out p =>
    simp only [doR, isCopy, Bool.false_eq_true, if_false]
    split
    · exact triv
    refine ⟨hm.z.drops _, ?_⟩
    have := S_drops (under m p) m hm.nd (under_nd hm) fun o ho => (under_sub ho).1
    show S (List.foldl adrop m (under m p)) ≤ S m + 1
    omega
  | trim p i =>
    simp only [doR, isCopy, Bool.false_eq_true, if_false]
    split
    · rename_i ls g
      split
      · exact triv
      · have hl := hm.leaf _ (aget_mem g) ls rfl
        refine ⟨hm.z.put hd.1 fun ls' e => by cases e; exact ⟨by rw [List.length_take]; omega, fun l hl' => hl.2 l (List.mem_of_mem_take hl')⟩, ?_⟩
        have := S_old hm.nd (v := some (ls.take i.toNat)) g
        simp only [lvs, List.length_take] at this
        show S (aput m p (some (ls.take i.toNat))) ≤ S m + 1
        omega
    · exact triv
  | put p i l =>
    simp only [doR, isCopy, Bool.false_eq_true, if_false]
    split
    · rename_i ls g
      split
      · exact triv
      · rename_i hc
        have hl := hm.leaf _ (aget_mem g) ls rfl
        have hi := hd.2.1
        have h1 : ¬ (ls.length : Int) < i := fun z => hc (.inl z)
        have h2 : ¬ i = 64 := fun z => hc (.inr z)
        have hlen : (ls.take i.toNat ++ [l] ++ ls.drop (i.toNat + 1)).length ≤ 64 ∧ (ls.take i.toNat ++ [l] ++ ls.drop (i.toNat + 1)).length ≤ ls.length + 1 := by
          simp only [List.length_append, List.length_take, List.length_drop, List.length_singleton]
          omega
        refine ⟨hm.z.put hd.1 fun ls' e => by
          cases e
          refine ⟨hlen.1, fun x hx => ?_⟩
          rcases List.mem_append.mp hx with hx | hx
          · rcases List.mem_append.mp hx with hx | hx
            · exact hl.2 x (List.mem_of_mem_take hx)
            · rw [List.mem_singleton.mp hx]; exact hd.2.2
          · exact hl.2 x (List.mem_of_mem_drop hx), ?_⟩
        have := S_old hm.nd (v := some (ls.take i.toNat ++ [l] ++ ls.drop (i.toNat + 1))) g
        simp only [lvs] at this
        show S (aput m p (some (ls.take i.toNat ++ [l] ++ ls.drop (i.toNat + 1)))) ≤ S m + 1
        omega
    · exact triv
end SH

namespace SH
open PySem FL L2
theorem eN_ePs : (D.fl []) = D.fl (([] : List Pth).map eP) := rfl
theorem room_ok {m : Mdl} (hm : Ok m) : F__law_room [eM m] = .ok (.int (room m : Int)) [] := by
  obtain ⟨s', e, m1, m2, h1, h2, rfl⟩ := forF_on (g := (gName 2 : GR Unit)) (tb := (fSeq (fSet 1 (liftP (fOp addO (fVar 1) (fC (.int 1))))) (fIfS (liftP (fTest (fOp notNO (fOp ixO (fVar 0) (fVar 2)) (fC .non)))) (fSet 1 (liftP (fOp addO (fVar 1) (fCB lenO (fCons (fOp ixO (fVar 0) (fVar 2)) fNil))))) fNext))) (ws := [2])
    (fun xs s => ∃ m1 m2 : Mdl, m = m1 ++ m2 ∧ xs = (m2.map fun x => eP x.1) ∧ s = ⟨[some (eM m), some (.int ((1 + S m1 : Nat) : Int)), none], ()⟩) (fun x xs s ⟨m1, m2, hm12, hxs, hs⟩ => by
      subst hs
      cases m2 with
      | nil => cases hxs
      | cons y m2 =>
        obtain ⟨rfl, rfl⟩ := List.cons.inj hxs
        have hy : y ∈ m := by rw [hm12]; simp
        have hix := ix_eM (hm.good y hy).1 (aget_of_mem hm.nd hy)
        have hS : S (m1 ++ [y]) = S m1 + wt y.2 := by rw [S_append, S_cons]; unfold S; simp
        refine ⟨⟨[some (eM m), some (.int ((1 + S m1 : Nat) : Int)), some (eP y.1)], ()⟩, rfl, .nx, ⟨[some (eM m), some (.int ((1 + S (m1 ++ [y]) : Nat) : Int)), some (eP y.1)], ()⟩, ?_, .inl rfl, m1 ++ [y], m2, by rw [hm12]; simp, rfl, rfl⟩
        rw [hS]
        obtain ⟨k, v⟩ := y
        cases v with
        | none =>
          simp only [wt, lvs]
          simp [hix]
          omega
        | some ls =>
          simp only [wt, lvs]
          simp [hix]
          omega) (m.map fun x => eP x.1) ⟨[some (eM m), some (.int 1), none], ()⟩ ⟨[], m, rfl, rfl, rfl⟩
  have : m2 = [] := by
    cases m2 with
    | nil => rfl
    | cons y m2 => cases h2
  subst this
  rw [List.append_nil] at h1
  subst h1
  have hk := keys_eM (m := m)
  have q0 : fSet 1 (liftP (fC (.int 1))) (⟨[some (eM m), none, none], ()⟩ : St Unit) = .ok .nx ⟨[some (eM m), some (.int 1), none], ()⟩ := rfl
  have body : r__law_room (startS 3 [eM m]) = .ok (.rt (.int (room m : Int))) ⟨[some (eM m), some (.int (room m : Int)), none], ()⟩ := by
    unfold r__law_room
    refine (seq_nx q0).trans ?_
    refine (seq_nx (s1 := ⟨[some (eM m), some (.int (room m : Int)), none], ()⟩) ?_).trans (by simp)
    rw [a_fLk, a_fFor, eLk_0, eb_ok, hk, e]
    rfl
  unfold F__law_room runF
  rw [body]
  rfl
def keysP (m : Mdl) : List Pth := m.map (·.1)
theorem keysP_good {m : Mdl} (hm : Ok m) {p : Pth} (h : p ∈ keysP m) : GoodW p := key_ne hm h
theorem keys_ePs {m : Mdl} : keysD (enc kP eV m) = (keysP m).map eP := by rw [keys_eM]; unfold keysP; rw [List.map_map]; rfl
theorem old_ok {m : Mdl} (hm : Ok m) {ns : List Int} (h : Dr ns) : ∃ p ns', F__law_old_path [eN ns, eM m] = .ok (eP p) [eN ns'] ∧ GoodW p ∧ Dr ns' := by
  have hsm := hm.small
  have hso : sortsOk ((keysP m).map eP) = true := sorts_eP (fun p hp => (keysP_good hm hp).1) (by unfold keysP; rw [List.length_map]; omega)
  have hg : ∀ p ∈ sortedP (keysP m), GoodW p := fun p hp => keysP_good hm ((sortedP_perm _).mem_iff.mp hp)
  have he : eqD (.fl ((sortedP (keysP m)).map eP)) (.fl []) = some (.bl (decide (sortedP (keysP m) = []))) := by
    rw [eN_ePs]
    exact eq_ePs (fun p hp => (hg p hp).2.2) (fun _ z => by cases z)
  obtain ⟨n, n1, e1, hn, d1⟩ := next_ok h
  obtain ⟨p, n2, e2, hp, d2⟩ := pth_ok d1
  have q1 : fSet 2 (fLkE 1 true (eSortK 1)) (⟨[some (eN ns), some (eM m), none, none], ()⟩ : St Unit) = .ok .nx ⟨[some (eN ns), some (eM m), some (.fl ((sortedP (keysP m)).map eP)), none], ()⟩ := by
    rw [a_fSet, a_fLkE, sortK_1, keys_ePs, if_pos hso, atD_1, sort_map]
    rfl
  have q2 : fSet 3 (callX0 F__law_next [.sl 0] [0] eNil) (⟨[some (eN ns), some (eM m), some (.fl ((sortedP (keysP m)).map eP)), none], ()⟩ : St Unit) = .ok .nx ⟨[some (eN n1), some (eM m), some (.fl ((sortedP (keysP m)).map eP)), some (.int n)], ()⟩ := by simp [e1]
  have hlen : lenO [.fl ((sortedP (keysP m)).map eP)] = some (.int ((sortedP (keysP m)).length : Int)) := by rw [len_fl, List.length_map]
  by_cases c : sortedP (keysP m) = []
  · have he' : eqD (.fl ((sortedP (keysP m)).map eP)) (.fl []) = some (.bl true) := by rw [he, decide_eq_true c]
    refine ⟨p, n2, ?_, hp, d2⟩
    have body : r__law_old_path (startS 4 [eN ns, eM m]) = .ok (.rt (eP p)) ⟨[some (eN n2), some (eM m), some (.fl ((sortedP (keysP m)).map eP)), some (.int n)], ()⟩ := by
      unfold r__law_old_path
      rw [show startS 4 [eN ns, eM m] = (⟨[some (eN ns), some (eM m), none, none], ()⟩ : St Unit) from rfl, seq_nx q1, seq_nx q2]
      exact seq_rt (by simp [-eN_nil, he', e2])
    unfold F__law_old_path runF
    rw [body]
    rfl
  · have he' : eqD (.fl ((sortedP (keysP m)).map eP)) (.fl []) = some (.bl false) := by rw [he, decide_eq_false c]
    by_cases c2 : n % 8 = 0
    · refine ⟨p, n2, ?_, hp, d2⟩
      have body : r__law_old_path (startS 4 [eN ns, eM m]) = .ok (.rt (eP p)) ⟨[some (eN n2), some (eM m), some (.fl ((sortedP (keysP m)).map eP)), some (.int n)], ()⟩ := by
        unfold r__law_old_path
        rw [show startS 4 [eN ns, eM m] = (⟨[some (eN ns), some (eM m), none, none], ()⟩ : St Unit) from rfl, seq_nx q1, seq_nx q2]
        exact seq_rt (by simp [-eN_nil, he', e2, c2])
      unfold F__law_old_path runF
      rw [body]
      rfl
    · obtain ⟨o, ho, hmem⟩ := mem_atI (n := n / 8) c
      have hpos : (0 : Int) < ((sortedP (keysP m)).length : Int) := by have := List.length_pos_iff.mpr c; omega
      obtain ⟨L, hL⟩ : ∃ L : Int, L = ((sortedP (keysP m)).length : Int) := ⟨_, rfl⟩
      rw [← hL] at hlen ho hpos
      have hix : ixO (.fl ((sortedP (keysP m)).map eP)) (.int (n / 8 % L)) = some (eP o) := by rw [ixO_l, atI_map, ho]; rfl
      refine ⟨o, n1, ?_, hg o hmem, d1⟩
      have body : r__law_old_path (startS 4 [eN ns, eM m]) = .ok (.rt (eP o)) ⟨[some (eN n1), some (eM m), some (.fl ((sortedP (keysP m)).map eP)), some (.int n)], ()⟩ := by
        unfold r__law_old_path
        rw [show startS 4 [eN ns, eM m] = (⟨[some (eN ns), some (eM m), none, none], ()⟩ : St Unit) from rfl, seq_nx q1, seq_nx q2]
        rw [seq_nx (s1 := ⟨[some (eN n1), some (eM m), some (.fl ((sortedP (keysP m)).map eP)), some (.int n)], ()⟩) (by simp [-eN_nil, he', c2])]
        simp [-ixO_l, -len_fl, hlen, hpos, hix]
      unfold F__law_old_path runF
      rw [body]
      rfl
end SH

namespace SH
open PySem FL L2
theorem new_ok {m : Mdl} (hm : Ok m) {ns : List Int} (h : Dr ns) : ∃ p ns', F__law_new_path [eN ns, eM m] = .ok (eP p) [eN ns'] ∧ GoodW p ∧ Dr ns' := by
  have hsm := hm.small
  obtain ⟨n, n1, e1, hn, d1⟩ := next_ok h
  have hc := compL_eq (g := (gName 4 : GR Unit)) (tt := (liftP (fAnd (fTest (fOp isNO (fOp ixO (fVar 1) (fVar 4)) (fC .non))) (fTest (fOp ltI (fCB lenO (fCons (fVar 4) fNil)) (fC (.int 6))))))) (te := (liftP (fVar 4))) (vs := [4]) (s := ⟨[some (eN ns), some (eM m), none, none, none], ()⟩) (fun x : Pth × Option (List Lf) => eP x.1) (fun x => x.2.isNone && decide (x.1.length < 6)) (fun x => eP x.1) (xs := m) (fun x hx => by
    have hix := ix_eM (hm.good x hx).1 (aget_of_mem hm.nd hx)
    have hl : (decide ((x.1.length : Int) < 6)) = decide (x.1.length < 6) := by rw [decide_eq_decide]; omega
    refine ⟨⟨[some (eN ns), some (eM m), none, none, some (eP x.1)], ()⟩, rfl, ?_, fun _ => by simp, rfl⟩
    cases c : x.2.isNone <;> simp [hix, c, hl])
  obtain ⟨fs, hfs⟩ : ∃ fs : List Pth, fs = (m.filter fun x => x.2.isNone && decide (x.1.length < 6)).map (·.1) := ⟨_, rfl⟩
  have hfe : (m.filter fun x => x.2.isNone && decide (x.1.length < 6)).map (fun x => eP x.1) = fs.map eP := by rw [hfs, List.map_map]; rfl
  rw [hfe] at hc
  have hfl : fs.length ≤ m.length := by rw [hfs, List.length_map]; exact List.length_filter_le _ _
  have hfg : ∀ p ∈ fs, GoodW p ∧ p.length < 6 := fun p hp => by
    rw [hfs] at hp
    obtain ⟨x, hx, rfl⟩ := List.mem_map.mp hp
    obtain ⟨hx, hb⟩ := List.mem_filter.mp hx
    simp only [Bool.and_eq_true, decide_eq_true_eq] at hb
    exact ⟨hm.good x hx, hb.2⟩
  have hl : lstO (fs.map eP) = .ok (.fl _) := lstO_ok (by rw [List.length_map]; omega)
  have hso := sortO_eP (ps := fs) (fun p hp => (hfg p hp).1.1) (by omega)
  have hk := keys_eM (m := m)
  have hadd : addO (.fl [.tup []]) (.fl ((sortedP fs).map eP)) = some (.fl (([] :: sortedP fs).map eP)) := by
    show (if 1 + ((sortedP fs).map eP).length ≤ sizeLine then some (D.fl ([.tup []] ++ (sortedP fs).map eP)) else none) = _
    rw [if_pos (by rw [List.length_map, (sortedP_perm fs).length_eq, PySem.sizeLine_eq]; omega)]
    rfl
  have q1 : fSet 2 (eOp addO (liftP (fLst (fCons (fTup fNil) fNil))) (eCB sortO (eCons (fLkE 1 true (eLc (eLk keysD 1) (gName 4) (liftP (fAnd (fTest (fOp isNO (fOp ixO (fVar 1) (fVar 4)) (fC .non))) (fTest (fOp ltI (fCB lenO (fCons (fVar 4) fNil)) (fC (.int 6)))))) (liftP (fVar 4)) [4])) eNil))) (⟨[some (eN ns), some (eM m), none, none, none], ()⟩ : St Unit) = .ok .nx ⟨[some (eN ns), some (eM m), some (.fl (([] :: sortedP fs).map eP)), none, none], ()⟩ := by
    have i1 : (eLc (eLk keysD 1) (gName 4) (liftP (fAnd (fTest (fOp isNO (fOp ixO (fVar 1) (fVar 4)) (fC .non))) (fTest (fOp ltI (fCB lenO (fCons (fVar 4) fNil)) (fC (.int 6)))))) (liftP (fVar 4)) [4]) (⟨[some (eN ns), some (eM m), none, none, none], ()⟩ : St Unit) = .ok (.fl (fs.map eP)) ⟨[some (eN ns), some (eM m), none, none, none], ()⟩ := by
      rw [a_eLc, eLk_1, eb_ok, hk, hc, eb_ok, hl]
      rfl
    have l1 : (liftP (fLst (fCons (fTup fNil) fNil))) (⟨[some (eN ns), some (eM m), none, none, none], ()⟩ : St Unit) = .ok (.fl [.tup []]) ⟨[some (eN ns), some (eM m), none, none, none], ()⟩ := rfl
    rw [a_fSet, a_eOp, l1, eb_ok, a_eCB, a_eCons, a_fLkE, i1, atD_1, eb_ok, a_eNil, eb_ok, eb_ok, hso, of_so, oe_ok, eb_ok, hadd]
    rfl
  have q2 : fSet 3 (callX0 F__law_next [.sl 0] [0] eNil) (⟨[some (eN ns), some (eM m), some (.fl (([] :: sortedP fs).map eP)), none, none], ()⟩ : St Unit) = .ok .nx ⟨[some (eN n1), some (eM m), some (.fl (([] :: sortedP fs).map eP)), some (.int n), none], ()⟩ := by simp [e1]
  obtain ⟨o, ho, hmem⟩ := mem_atI (xs := [] :: sortedP fs) (n := n) (by simp)
  have hpos : (0 : Int) < (([] :: sortedP fs).length : Int) := by rw [List.length_cons]; omega
  have hlen : lenO [.fl (([] :: sortedP fs).map eP)] = some (.int (([] :: sortedP fs).length : Int)) := by rw [len_fl, List.length_map]
  obtain ⟨L, hL⟩ : ∃ L : Int, L = (([] :: sortedP fs).length : Int) := ⟨_, rfl⟩
  rw [← hL] at hlen ho hpos
  have hix : ixO (.fl (([] :: sortedP fs).map eP)) (.int (n % L)) = some (eP o) := by rw [ixO_l, atI_map, ho]; rfl
  obtain ⟨x, ex, gx⟩ := nm_ok (n / 64)
  have hog : o.length ≤ 5 ∧ ∀ y ∈ o, Good y := by
    rcases List.mem_cons.mp hmem with rfl | hmem
    · exact ⟨by simp, fun _ z => by cases z⟩
    · have := hfg o ((sortedP_perm fs).mem_iff.mp hmem)
      exact ⟨by omega, this.1.2.2⟩
  have hadd2 : addO (eP o) (.tup [.str x]) = some (eP (o ++ [x])) := addO_P (p := o) (q := [x]) (by simp; omega)
  refine ⟨o ++ [x], n1, ?_, ⟨by simp, by rw [List.length_append, List.length_singleton]; omega, fun y hy => ?_⟩, d1⟩
  · have body : r__law_new_path (startS 5 [eN ns, eM m]) = .ok (.rt (eP (o ++ [x]))) ⟨[some (eN n1), some (eM m), some (.fl (([] :: sortedP fs).map eP)), some (.int n), none], ()⟩ := by
      unfold r__law_new_path
      rw [show startS 5 [eN ns, eM m] = (⟨[some (eN ns), some (eM m), none, none, none], ()⟩ : St Unit) from rfl, seq_nx q1, seq_nx q2]
      simp only [List.map_cons] at hlen hix
      simp [-ixO_l, -len_fl, hlen, hpos, hix, ex, hadd2]
    unfold F__law_new_path runF
    rw [body]
    rfl
  · rcases List.mem_append.mp hy with hy | hy
    · exact hog.2 y hy
    · rw [List.mem_singleton.mp hy]; exact gx
/-- what is drawn of a deed -/
theorem deed_drawn {m : Mdl} (hm : Ok m) {ns : List Int} (h : Dr ns) : ∃ d ns', F__law_deed [eN ns, eM m] = .ok (eD d) [eN ns'] ∧ GoodD d ∧ Dr ns' := by
  have hsm := hm.small
  obtain ⟨n, n1, e1, hn, d1⟩ := next_ok h
  obtain ⟨ks, hks⟩ : ∃ ks : List Str, ks = (["folder", "folder", "file", "file", "put", "put", "put", "put", "trim", "out", "move", "copy"] : List Str) := ⟨_, rfl⟩
  have hk12 : ((ks.length : Nat) : Int) = 12 := by rw [hks]; rfl
  obtain ⟨k, hk, hkm⟩ := mem_atI (xs := ks) (n := n) (by rw [hks]; simp)
  rw [hk12] at hk
  have hix : ixO (.fl (ks.map D.str)) (.int (n % 12)) = some (.str k) := by rw [ixO_l, atI_map, hk]; rfl
  have q1 : fSet 2 (callX0 F__law_next [.sl 0] [0] eNil) (⟨[some (eN ns), some (eM m), none, none, none, none, none, none, none, none, none], ()⟩ : St Unit) = .ok .nx ⟨[some (eN n1), some (eM m), some (.int n), none, none, none, none, none, none, none, none], ()⟩ := by simp [e1]
  have q2 : fSet 3 (liftP (fLst (fCons (fC (.str "folder")) (fCons (fC (.str "folder")) (fCons (fC (.str "file")) (fCons (fC (.str "file")) (fCons (fC (.str "put")) (fCons (fC (.str "put")) (fCons (fC (.str "put")) (fCons (fC (.str "put")) (fCons (fC (.str "trim")) (fCons (fC (.str "out")) (fCons (fC (.str "move")) (fCons (fC (.str "copy")) fNil)))))))))))))) (⟨[some (eN n1), some (eM m), some (.int n), none, none, none, none, none, none, none, none], ()⟩ : St Unit) = .ok .nx ⟨[some (eN n1), some (eM m), some (.int n), some (.fl (ks.map D.str)), none, none, none, none, none, none, none], ()⟩ := by rw [hks]; simp
  have q3 : fSet 4 (liftP (fOp ixO (fVar 3) (fOp modI (fVar 2) (fC (.int 12))))) (⟨[some (eN n1), some (eM m), some (.int n), some (.fl (ks.map D.str)), none, none, none, none, none, none, none], ()⟩ : St Unit) = .ok .nx ⟨[some (eN n1), some (eM m), some (.int n), some (.fl (ks.map D.str)), some (.str k), none, none, none, none, none, none], ()⟩ := by simp [-ixO_l, hix]
  -- the leaves
  obtain ⟨lv, hlv⟩ : ∃ lv : List Int, lv = (m.filter fun x => x.2.isSome).map fun x => (lvs x.2 : Int) := ⟨_, rfl⟩
  have q4 : fLk 1 true (fSet 5 (eLc (eLk valsD 1) (gName 10) (liftP (fTest (fOp notNO (fVar 10) (fC .non)))) (liftP (fCB lenO (fCons (fVar 10) fNil))) [10])) (⟨[some (eN n1), some (eM m), some (.int n), some (.fl (ks.map D.str)), some (.str k), none, none, none, none, none, none], ()⟩ : St Unit) = .ok .nx ⟨[some (eN n1), some (eM m), some (.int n), some (.fl (ks.map D.str)), some (.str k), some (.fl (lv.map D.int)), none, none, none, none, none], ()⟩ := by
    have hc := compL_eq (g := (gName 10 : GR Unit)) (tt := (liftP (fTest (fOp notNO (fVar 10) (fC .non))))) (te := (liftP (fCB lenO (fCons (fVar 10) fNil)))) (vs := [10]) (s := ⟨[some (eN n1), some (eM m), some (.int n), some (.fl (ks.map D.str)), some (.str k), none, none, none, none, none, none], ()⟩) (fun x : Pth × Option (List Lf) => eV x.2) (fun x => x.2.isSome) (fun x => .int (lvs x.2 : Int)) (xs := m) (fun x hx => by
      refine ⟨⟨[some (eN n1), some (eM m), some (.int n), some (.fl (ks.map D.str)), some (.str k), none, none, none, none, none, some (eV x.2)], ()⟩, rfl, ?_, fun hs => ?_, rfl⟩
      · cases x.2 <;> simp
      · obtain ⟨a, b⟩ := x
        cases b with
        | none => cases hs
        | some ls => simp [lvs])
    have he : (m.filter fun x => x.2.isSome).map (fun x => D.int (lvs x.2 : Int)) = lv.map D.int := by rw [hlv, List.map_map]; rfl
    rw [he] at hc
    have hl : lstO (lv.map D.int) = .ok (.fl _) := lstO_ok (by rw [List.length_map, hlv, List.length_map]; have := List.length_filter_le (fun x : Pth × Option (List Lf) => x.2.isSome) m; omega)
    have hv := vals_eM (m := m)
    rw [a_fLk, a_fSet, a_eLc, eLk_1, eb_ok, hv, hc, eb_ok, hl]
    rfl
  -- a copy may become a move
  obtain ⟨ML, hML⟩ : ∃ ML : Int, ML = ((enc kP eV m).length : Int) := ⟨_, rfl⟩
  have hlk : fLkE 1 true (eLenK 1) (⟨[some (eN n1), some (eM m), some (.int n), some (.fl (ks.map D.str)), some (.str k), some (.fl (lv.map D.int)), none, none, none, none, none], ()⟩ : St Unit) = .ok (.int ML) ⟨[some (eN n1), some (eM m), some (.int n), some (.fl (ks.map D.str)), some (.str k), some (.fl (lv.map D.int)), none, none, none, none, none], ()⟩ := by
    rw [a_fLkE, lenK_1, if_pos (by unfold enc; rw [List.length_map, PySem.sizeLine_eq]; omega), atD_1, hML]
  have hsum : sumO [.fl (lv.map D.int)] = some (.int lv.sum) := by
    show (asInts (lv.map D.int)).map _ = _
    rw [asInts_m]
    rfl
  obtain ⟨k', hk', q5⟩ : ∃ k' : Str, (k' ∈ (["folder", "file", "put", "trim", "out", "move", "copy"] : List Str)) ∧ fIfS (eAnd (liftP (fTest (fOp eqD (fVar 4) (fC (.str "copy"))))) (eTest (eOp gtI (eOp addO (fLkE 1 true (eLenK 1)) (liftP (fCB sumO (fCons (fVar 5) fNil)))) (liftP (fC (.int 300)))))) (fSet 4 (liftP (fC (.str "move")))) fNext (⟨[some (eN n1), some (eM m), some (.int n), some (.fl (ks.map D.str)), some (.str k), some (.fl (lv.map D.int)), none, none, none, none, none], ()⟩ : St Unit) = .ok .nx ⟨[some (eN n1), some (eM m), some (.int n), some (.fl (ks.map D.str)), some (.str k'), some (.fl (lv.map D.int)), none, none, none, none, none], ()⟩ := by
    have hk7 : k ∈ (["folder", "file", "put", "trim", "out", "move", "copy"] : List Str) := by
      rw [hks] at hkm
      simp only [List.mem_cons, List.not_mem_nil, or_false] at hkm ⊢
      rcases hkm with h | h | h | h | h | h | h | h | h | h | h | h <;> simp [h]
    by_cases c : k = ("copy" : Str)
    · subst c
      by_cases c2 : (300 : Int) < ML + lv.sum
      · refine ⟨"move", by simp, ?_⟩
        have : (eAnd (liftP (fTest (fOp eqD (fVar 4) (fC (.str "copy"))))) (eTest (eOp gtI (eOp addO (fLkE 1 true (eLenK 1)) (liftP (fCB sumO (fCons (fVar 5) fNil)))) (liftP (fC (.int 300)))))) (⟨[some (eN n1), some (eM m), some (.int n), some (.fl (ks.map D.str)), some (.str "copy"), some (.fl (lv.map D.int)), none, none, none, none, none], ()⟩ : St Unit) = .ok true ⟨[some (eN n1), some (eM m), some (.int n), some (.fl (ks.map D.str)), some (.str "copy"), some (.fl (lv.map D.int)), none, none, none, none, none], ()⟩ := by
          rw [a_eAnd]
          simp [-a_fLkE, hlk, hsum, c2]
        rw [a_fIfS, this, eb_ok, if_pos rfl]
        simp
      · refine ⟨"copy", hk7, ?_⟩
        have : (eAnd (liftP (fTest (fOp eqD (fVar 4) (fC (.str "copy"))))) (eTest (eOp gtI (eOp addO (fLkE 1 true (eLenK 1)) (liftP (fCB sumO (fCons (fVar 5) fNil)))) (liftP (fC (.int 300)))))) (⟨[some (eN n1), some (eM m), some (.int n), some (.fl (ks.map D.str)), some (.str "copy"), some (.fl (lv.map D.int)), none, none, none, none, none], ()⟩ : St Unit) = .ok false ⟨[some (eN n1), some (eM m), some (.int n), some (.fl (ks.map D.str)), some (.str "copy"), some (.fl (lv.map D.int)), none, none, none, none, none], ()⟩ := by
          rw [a_eAnd]
          simp [-a_fLkE, hlk, hsum, c2]
        rw [a_fIfS, this, eb_ok, if_neg (by simp)]
        rfl
    · exact ⟨k, hk7, by simp [c]⟩
  -- folder, file
  have body0 : ∀ (d : D) (l : List (Option D)) (ns' : List Int), r__law_deed (startS 11 [eN ns, eM m]) = .ok (.rt d) ⟨some (eN ns') :: some (eM m) :: l, ()⟩ → F__law_deed [eN ns, eM m] = .ok d [eN ns'] := fun d l ns' hb => by
    unfold F__law_deed runF
    rw [hb]
    show Rs.ok d (eN ns' :: outsS [] l) = _
    rw [outsS_nil]
  have head : ∀ u : SR Unit, (fSeq (fSet 2 (callX0 F__law_next [.sl 0] [0] eNil)) u) (startS 11 [eN ns, eM m]) = u ⟨[some (eN n1), some (eM m), some (.int n), none, none, none, none, none, none, none, none], ()⟩ := fun u => seq_nx q1
  by_cases cf : k' = ("folder" : Str) ∨ k' = ("file" : Str)
  · obtain ⟨p, n2, e2, hp, d2⟩ := new_ok hm d1
    have hb : r__law_deed (startS 11 [eN ns, eM m]) = .ok (.rt (.tup [.str k', eP p])) ⟨[some (eN n2), some (eM m), some (.int n), some (.fl (ks.map D.str)), some (.str k'), some (.fl (lv.map D.int)), none, none, none, none, none], ()⟩ := by
      unfold r__law_deed
      rw [head, seq_nx q2, seq_nx q3, seq_nx q4, seq_nx q5]
      refine seq_rt ?_
      rcases cf with rfl | rfl <;> simp (decide := true) [e2]
    rcases cf with rfl | rfl
    · exact ⟨.folder p, n2, body0 _ _ _ hb, hp, d2⟩
    · exact ⟨.file p, n2, body0 _ _ _ hb, hp, d2⟩
  have cf1 : ¬ k' = ("folder" : Str) := fun z => cf (.inl z)
  have cf2 : ¬ k' = ("file" : Str) := fun z => cf (.inr z)
  obtain ⟨p6, n2, e2, hp6, d2⟩ := old_ok hm d1
  have q6 : fSet 6 (callX0 F__law_old_path [.sl 0, .sl 1] [0] eNil) (⟨[some (eN n1), some (eM m), some (.int n), some (.fl (ks.map D.str)), some (.str k'), some (.fl (lv.map D.int)), none, none, none, none, none], ()⟩ : St Unit) = .ok .nx ⟨[some (eN n2), some (eM m), some (.int n), some (.fl (ks.map D.str)), some (.str k'), some (.fl (lv.map D.int)), some (eP p6), none, none, none, none], ()⟩ := by simp [e2]
  -- the files
  obtain ⟨gs, hgs⟩ : ∃ gs : List Pth, gs = (m.filter fun x => x.2.isSome).map (·.1) := ⟨_, rfl⟩
  have hgl : gs.length ≤ m.length := by rw [hgs, List.length_map]; exact List.length_filter_le _ _
  have hgg : ∀ p ∈ gs, GoodW p := fun p hp => by
    rw [hgs] at hp
    obtain ⟨x, hx, rfl⟩ := List.mem_map.mp hp
    exact hm.good x (List.mem_filter.mp hx).1
  have hfg : ∀ p ∈ sortedP gs, GoodW p := fun p hp => hgg p ((sortedP_perm _).mem_iff.mp hp)
  have q7 : fSet 7 (eCB sortO (eCons (fLkE 1 true (eLc (eLk keysD 1) (gName 10) (liftP (fTest (fOp notNO (fOp ixO (fVar 1) (fVar 10)) (fC .non)))) (liftP (fVar 10)) [10])) eNil)) (⟨[some (eN n2), some (eM m), some (.int n), some (.fl (ks.map D.str)), some (.str k'), some (.fl (lv.map D.int)), some (eP p6), none, none, none, none], ()⟩ : St Unit) = .ok .nx ⟨[some (eN n2), some (eM m), some (.int n), some (.fl (ks.map D.str)), some (.str k'), some (.fl (lv.map D.int)), some (eP p6), some (.fl ((sortedP gs).map eP)), none, none, none], ()⟩ := by
    have hc := compL_eq (g := (gName 10 : GR Unit)) (tt := (liftP (fTest (fOp notNO (fOp ixO (fVar 1) (fVar 10)) (fC .non))))) (te := (liftP (fVar 10))) (vs := [10]) (s := ⟨[some (eN n2), some (eM m), some (.int n), some (.fl (ks.map D.str)), some (.str k'), some (.fl (lv.map D.int)), some (eP p6), none, none, none, none], ()⟩) (fun x : Pth × Option (List Lf) => eP x.1) (fun x => x.2.isSome) (fun x => eP x.1) (xs := m) (fun x hx => by
      have hix := ix_eM (hm.good x hx).1 (aget_of_mem hm.nd hx)
      refine ⟨⟨[some (eN n2), some (eM m), some (.int n), some (.fl (ks.map D.str)), some (.str k'), some (.fl (lv.map D.int)), some (eP p6), none, none, none, some (eP x.1)], ()⟩, rfl, ?_, fun _ => by simp, rfl⟩
      have : (!x.2.isNone) = x.2.isSome := by cases x.2 <;> rfl
      simp [hix, this])
    have he : (m.filter fun x => x.2.isSome).map (fun x => eP x.1) = gs.map eP := by rw [hgs, List.map_map]; rfl
    rw [he] at hc
    have hl : lstO (gs.map eP) = .ok (.fl _) := lstO_ok (by rw [List.length_map]; omega)
    have hk := keys_eM (m := m)
    have hso := sortO_eP (ps := gs) (fun p hp => (hgg p hp).1) (by omega)
    rw [a_fSet, a_eCB, a_eCons, a_fLkE, a_eLc, eLk_1, eb_ok, hk, hc, eb_ok, hl, oe_ok, atD_1, eb_ok, a_eNil, eb_ok, eb_ok, hso]
    rfl
  -- the path
  have hne : neD (.fl ((sortedP gs).map eP)) (.fl []) = some (.bl (!decide (sortedP gs = []))) := by
    have := eq_ePs (ps := sortedP gs) (qs := []) (fun p hp => (hfg p hp).2.2) (fun _ z => by cases z)
    unfold eqD at this
    unfold neD
    rw [List.map_nil] at this
    cases h : eqO (D.fl ((sortedP gs).map eP)) (D.fl []) with
    | none => rw [h] at this; cases this
    | some b => rw [h] at this; cases this; rfl
  obtain ⟨p8, hp8, q8⟩ : ∃ p8, GoodW p8 ∧ fIfS (liftP (fAnd (fOr (fTest (fOp eqD (fVar 4) (fC (.str "put")))) (fTest (fOp eqD (fVar 4) (fC (.str "trim"))))) (fAnd (fTest (fOp neD (fVar 7) (fLst fNil))) (fTest (fOp neD (fOp modI (fOp divI (fVar 2) (fC (.int 12))) (fC (.int 8))) (fC (.int 0))))))) (fSet 6 (liftP (fOp ixO (fVar 7) (fOp modI (fOp divI (fVar 2) (fC (.int 96))) (fCB lenO (fCons (fVar 7) fNil)))))) fNext (⟨[some (eN n2), some (eM m), some (.int n), some (.fl (ks.map D.str)), some (.str k'), some (.fl (lv.map D.int)), some (eP p6), some (.fl ((sortedP gs).map eP)), none, none, none], ()⟩ : St Unit) = .ok .nx ⟨[some (eN n2), some (eM m), some (.int n), some (.fl (ks.map D.str)), some (.str k'), some (.fl (lv.map D.int)), some (eP p8), some (.fl ((sortedP gs).map eP)), none, none, none], ()⟩ := by
    by_cases c : (k' = ("put" : Str) ∨ k' = ("trim" : Str)) ∧ sortedP gs ≠ [] ∧ n / 12 % 8 ≠ 0
    · obtain ⟨o, ho, hmem⟩ := mem_atI (n := n / 96) c.2.1
      have hpos : (0 : Int) < ((sortedP gs).length : Int) := by have := List.length_pos_iff.mpr c.2.1; omega
      have hlen : lenO [.fl ((sortedP gs).map eP)] = some (.int ((sortedP gs).length : Int)) := by rw [len_fl, List.length_map]
      obtain ⟨L, hL⟩ : ∃ L : Int, L = ((sortedP gs).length : Int) := ⟨_, rfl⟩
      rw [← hL] at hlen ho hpos
      have hix : ixO (.fl ((sortedP gs).map eP)) (.int (n / 96 % L)) = some (eP o) := by rw [ixO_l, atI_map, ho]; rfl
      refine ⟨o, hfg o hmem, ?_⟩
      have hne' : neD (.fl ((sortedP gs).map eP)) (.fl []) = some (.bl true) := by rw [hne, decide_eq_false c.2.1]; rfl
      rcases c.1 with rfl | rfl <;> simp (decide := true) [-eN_nil, -ixO_l, -len_fl, hne', c.2.2, hlen, hpos, hix]
    · refine ⟨p6, hp6, ?_⟩
      by_cases c1 : k' = ("put" : Str) ∨ k' = ("trim" : Str)
      · by_cases c2 : sortedP gs = []
        · have hne' : neD (.fl ((sortedP gs).map eP)) (.fl []) = some (.bl false) := by rw [hne, decide_eq_true c2]; rfl
          rcases c1 with rfl | rfl <;> simp (decide := true) [-eN_nil, hne']
        · have hne' : neD (.fl ((sortedP gs).map eP)) (.fl []) = some (.bl true) := by rw [hne, decide_eq_false c2]; rfl
          have c3 : n / 12 % 8 = 0 := Classical.byContradiction fun z => c ⟨c1, c2, z⟩
          rcases c1 with rfl | rfl <;> simp (decide := true) [-eN_nil, hne', c3]
      · have c1a : ¬ k' = ("put" : Str) := fun z => c1 (.inl z)
        have c1b : ¬ k' = ("trim" : Str) := fun z => c1 (.inr z)
        simp [c1a, c1b]
  have q9 : fSet 8 (liftP (fC (.int 0))) (⟨[some (eN n2), some (eM m), some (.int n), some (.fl (ks.map D.str)), some (.str k'), some (.fl (lv.map D.int)), some (eP p8), some (.fl ((sortedP gs).map eP)), none, none, none], ()⟩ : St Unit) = .ok .nx ⟨[some (eN n2), some (eM m), some (.int n), some (.fl (ks.map D.str)), some (.str k'), some (.fl (lv.map D.int)), some (eP p8), some (.fl ((sortedP gs).map eP)), some (.int 0), none, none], ()⟩ := rfl
  obtain ⟨M, hM, q10⟩ : ∃ M : Int, (0 ≤ M ∧ M ≤ 64) ∧ fIfS (liftP (fAnd (fTest (fOp inO (fVar 6) (fVar 1))) (fTest (fOp notNO (fOp ixO (fVar 1) (fVar 6)) (fC .non))))) (fSet 8 (liftP (fCB lenO (fCons (fOp ixO (fVar 1) (fVar 6)) fNil)))) fNext (⟨[some (eN n2), some (eM m), some (.int n), some (.fl (ks.map D.str)), some (.str k'), some (.fl (lv.map D.int)), some (eP p8), some (.fl ((sortedP gs).map eP)), some (.int 0), none, none], ()⟩ : St Unit) = .ok .nx ⟨[some (eN n2), some (eM m), some (.int n), some (.fl (ks.map D.str)), some (.str k'), some (.fl (lv.map D.int)), some (eP p8), some (.fl ((sortedP gs).map eP)), some (.int M), none, none], ()⟩ := by
    have t1 := inO_eM (m := m) hp8.1
    cases g : aget m p8 with
    | none =>
      rw [g] at t1
      exact ⟨0, by omega, by simp [t1]⟩
    | some v =>
      rw [g] at t1
      have hix := ix_eM hp8.1 g
      cases v with
      | none => exact ⟨0, by omega, by simp [t1, hix]⟩
      | some ls =>
        have := (hm.leaf _ (aget_mem g) ls rfl).1
        exact ⟨(ls.length : Int), by omega, by simp [t1, hix]⟩
  have start : ∀ (d : D) (s : St Unit), (fSeq (fIfS (liftP (fTest (fOp eqD (fVar 4) (fC (.str "put"))))) (fSeq (fSet 9 (liftP (fOp modI (fOp ixO (fLst (fCons (fVar 8) (fCons (fOp modI (fOp divI (fVar 2) (fC (.int 1000))) (fOp addO (fVar 8) (fC (.int 2)))) (fCons (fVar 8) fNil)))) (fOp modI (fOp divI (fVar 2) (fC (.int 12))) (fC (.int 3)))) (fC (.int 65))))) (fRet (eTup (eCons (liftP (fVar 4)) (eCons (liftP (fVar 6)) (eCons (liftP (fVar 9)) (eCons (callX0 F__law_leaf [.sl 0] [0] eNil) eNil))))))) fNext) (fSeq (fIfS (liftP (fTest (fOp eqD (fVar 4) (fC (.str "trim"))))) (fRet (liftP (fTup (fCons (fVar 4) (fCons (fVar 6) (fCons (fOp modI (fOp modI (fOp divI (fVar 2) (fC (.int 1000))) (fOp addO (fVar 8) (fC (.int 2)))) (fC (.int 65))) fNil)))))) fNext) (fSeq (fIfS (liftP (fTest (fOp eqD (fVar 4) (fC (.str "out"))))) (fRet (liftP (fTup (fCons (fVar 4) (fCons (fVar 6) fNil))))) fNext) (fSeq (fIfS (liftP (fTest (fOp eqD (fOp modI (fOp divI (fVar 2) (fC (.int 12))) (fC (.int 6))) (fC (.int 0))))) (fRet (liftP (fTup (fCons (fVar 4) (fCons (fVar 6) (fCons (fSl (fOp addO (fVar 6) (fTup (fCons (fCall0 F__law_name (fCons (fOp divI (fVar 2) (fC (.int 100))) fNil)) fNil))) fNoPart (fPart (fC (.int 6)))) fNil)))))) fNext) (fRet (eTup (eCons (liftP (fVar 4)) (eCons (liftP (fVar 6)) (eCons (callX0 F__law_new_path [.sl 0, .sl 1] [0] eNil) eNil))))))))) (⟨[some (eN n2), some (eM m), some (.int n), some (.fl (ks.map D.str)), some (.str k'), some (.fl (lv.map D.int)), some (eP p8), some (.fl ((sortedP gs).map eP)), some (.int M), none, none], ()⟩ : St Unit) = .ok (.rt d) s → r__law_deed (startS 11 [eN ns, eM m]) = .ok (.rt d) s := fun d s hs => by
    unfold r__law_deed
    rw [head, seq_nx q2, seq_nx q3, seq_nx q4, seq_nx q5, seq_nx (s1 := ⟨[some (eN n1), some (eM m), some (.int n), some (.fl (ks.map D.str)), some (.str k'), some (.fl (lv.map D.int)), none, none, none, none, none], ()⟩) (by simp [cf1, cf2]), seq_nx q6, seq_nx q7, seq_nx q8, seq_nx q9, seq_nx q10]
    exact hs
  have h65 : ∀ z : Int, 0 ≤ z % 65 ∧ z % 65 ≤ 64 := fun z => by
    have := Int.emod_nonneg z (b := 65) (by decide)
    have := Int.emod_lt_of_pos z (b := 65) (by decide)
    omega
  have hM2 : 0 < M + 2 := by omega
  simp only [List.mem_cons, List.not_mem_nil, or_false] at hk'
  rcases hk' with rfl | rfl | rfl | rfl | rfl | rfl | rfl
  · exact absurd rfl cf1
  · exact absurd rfl cf2
  · -- put
    obtain ⟨l, n3, e3, hl3, d3⟩ := lf_ok d2
    have h3 : 0 ≤ n / 12 % 3 := Int.emod_nonneg _ (by decide)
    have h4 : n / 12 % 3 < 3 := Int.emod_lt_of_pos _ (by decide)
    obtain ⟨a, ha, _⟩ := atI_some (xs := [M, n / 1000 % (M + 2), M]) h3 (by simpa using h4)
    have ea := atI_map D.int [M, n / 1000 % (M + 2), M] (n / 12 % 3)
    rw [ha] at ea
    simp only [List.map_cons, List.map_nil, Option.map_some] at ea
    refine ⟨.put p8 (a % 65) l, n3, body0 _ [some (.int n), some (.fl (ks.map D.str)), some (.str "put"), some (.fl (lv.map D.int)), some (eP p8), some (.fl ((sortedP gs).map eP)), some (.int M), some (.int (a % 65)), none] _ (start _ _ (seq_rt ?_)), ⟨hp8, h65 a, hl3⟩, d3⟩
    simp (decide := true) [hM2, ea, e3, eD]
  · -- trim
    refine ⟨.trim p8 (n / 1000 % (M + 2) % 65), n2, body0 _ [some (.int n), some (.fl (ks.map D.str)), some (.str "trim"), some (.fl (lv.map D.int)), some (eP p8), some (.fl ((sortedP gs).map eP)), some (.int M), none, none] _ (start _ _ ?_), ⟨hp8, h65 _⟩, d2⟩
    simp (decide := true) [hM2, eD]
  · -- out
    refine ⟨.out p8, n2, body0 _ [some (.int n), some (.fl (ks.map D.str)), some (.str "out"), some (.fl (lv.map D.int)), some (eP p8), some (.fl ((sortedP gs).map eP)), some (.int M), none, none] _ (start _ _ ?_), hp8, d2⟩
    simp (decide := true) [eD]
  · -- move
    by_cases c6 : n / 12 % 6 = 0
    · obtain ⟨x, ex, gx⟩ := nm_ok (n / 100)
      have hadd : addO (eP p8) (.tup [.str x]) = some (eP (p8 ++ [x])) := addO_P (p := p8) (q := [x]) (by have := hp8.2.1; simp; omega)
      have hsl : slO (eP (p8 ++ [x])) none (some 6) = some (eP ((p8 ++ [x]).take 6)) := sl_to (by omega)
      have hgq : GoodW ((p8 ++ [x]).take 6) := by
        refine ⟨fun z => ?_, by rw [List.length_take]; omega, fun y hy => ?_⟩
        · have := congrArg List.length z
          rw [List.length_take, List.length_append] at this
          simp at this
        · rcases List.mem_append.mp (List.mem_of_mem_take hy) with hy | hy
          · exact hp8.2.2 y hy
          · rw [List.mem_singleton.mp hy]; exact gx
      refine ⟨.move p8 ((p8 ++ [x]).take 6), n2, body0 _ [some (.int n), some (.fl (ks.map D.str)), some (.str "move"), some (.fl (lv.map D.int)), some (eP p8), some (.fl ((sortedP gs).map eP)), some (.int M), none, none] _ (start _ _ ?_), ⟨hp8, hgq⟩, d2⟩
      simp (decide := true) [c6, ex, hadd, hsl, eD]
    · obtain ⟨p, n3, e3, hp, d3⟩ := new_ok hm d2
      refine ⟨.move p8 p, n3, body0 _ [some (.int n), some (.fl (ks.map D.str)), some (.str "move"), some (.fl (lv.map D.int)), some (eP p8), some (.fl ((sortedP gs).map eP)), some (.int M), none, none] _ (start _ _ ?_), ⟨hp8, hp⟩, d3⟩
      simp (decide := true) [c6, e3, eD]
  · -- copy
    by_cases c6 : n / 12 % 6 = 0
    · obtain ⟨x, ex, gx⟩ := nm_ok (n / 100)
      have hadd : addO (eP p8) (.tup [.str x]) = some (eP (p8 ++ [x])) := addO_P (p := p8) (q := [x]) (by have := hp8.2.1; simp; omega)
      have hsl : slO (eP (p8 ++ [x])) none (some 6) = some (eP ((p8 ++ [x]).take 6)) := sl_to (by omega)
      have hgq : GoodW ((p8 ++ [x]).take 6) := by
        refine ⟨fun z => ?_, by rw [List.length_take]; omega, fun y hy => ?_⟩
        · have := congrArg List.length z
          rw [List.length_take, List.length_append] at this
          simp at this
        · rcases List.mem_append.mp (List.mem_of_mem_take hy) with hy | hy
          · exact hp8.2.2 y hy
          · rw [List.mem_singleton.mp hy]; exact gx
      refine ⟨.copy p8 ((p8 ++ [x]).take 6), n2, body0 _ [some (.int n), some (.fl (ks.map D.str)), some (.str "copy"), some (.fl (lv.map D.int)), some (eP p8), some (.fl ((sortedP gs).map eP)), some (.int M), none, none] _ (start _ _ ?_), ⟨hp8, hgq⟩, d2⟩
      simp (decide := true) [c6, ex, hadd, hsl, eD]
    · obtain ⟨p, n3, e3, hp, d3⟩ := new_ok hm d2
      refine ⟨.copy p8 p, n3, body0 _ [some (.int n), some (.fl (ks.map D.str)), some (.str "copy"), some (.fl (lv.map D.int)), some (eP p8), some (.fl ((sortedP gs).map eP)), some (.int M), none, none] _ (start _ _ ?_), ⟨hp8, hp⟩, d3⟩
      simp (decide := true) [c6, e3, eD]
end SH

namespace SH
open PySem FL L2
def kindS : Deed → Str
  | .folder _ => "folder"
  | .file _ => "file"
  | .put _ _ _ => "put"
  | .trim _ _ => "trim"
  | .out _ => "out"
  | .move _ _ => "move"
  | .copy _ _ => "copy"
theorem ix0_eD (d : Deed) : ixO (eD d) (.int 0) = some (.str (kindS d)) := by cases d <;> simp [eD, kindS]
theorem kind_copy (d : Deed) : decide (kindS d = ("copy" : Str)) = isCopy d := by cases d <;> simp (decide := true) [kindS, isCopy]
theorem app_eD {es : List Deed} {d : Deed} (h : es.length ≤ 4000) : appendM (.fl (es.map eD)) [eD d] = some (.non, .fl ((es ++ [d]).map eD)) := by
  show (if (es.map eD).length < sizeLine then some (D.non, D.fl (es.map eD ++ [eD d])) else none) = _
  rw [if_pos (by rw [List.length_map, PySem.sizeLine_eq]; omega), List.map_append]
  rfl
theorem further_ok {m : Mdl} (hm : Ok m) {ns : List Int} (h : Dr ns) {t : Int} (ht : 0 ≤ t ∧ t ≤ 40) {C : Nat} (hC : S m + t.toNat ≤ C ∧ 76 + t.toNat ≤ C ∧ C ≤ 900) :
    ∃ (ds : List Deed) (m' : Mdl) (ns' : List Int), F__law_further [eN ns, eM m, .int t, .int 40] = .ok (.fl (ds.map eD)) [eN ns', eM m'] ∧ (∀ d ∈ ds, GoodD d) ∧ Ok m' ∧ S m' ≤ C ∧ Dr ns' := by
  obtain ⟨n, n1, e1, hn, d1⟩ := next_ok h
  have h1 : 0 ≤ n % (t + 1) := Int.emod_nonneg _ (by omega)
  have h2 : n % (t + 1) < t + 1 := Int.emod_lt_of_pos _ (by omega)
  have hr : ran1 [.int (n % (t + 1))] = some ((List.range (n % (t + 1)).toNat).map fun (i : Nat) => D.int (i : Int)) := ran1_ok' (by omega) (by omega)
  obtain ⟨s', e, es, m', ns', rfl, g1, g2, g3, g4, _⟩ := forF_on (g := (gName 5 : GR Unit)) (tb := (fSeq (fSet 6 (callX0 F__law_deed [.sl 0, .sl 1] [0] eNil)) (fIfS (liftP (fOr (fTest (fOp neD (fOp ixO (fVar 6) (fC (.int 0))) (fC (.str "copy")))) (fTest (fOp ltI (fCall0 F__law_room (fCons (fVar 1) fNil)) (fVar 3))))) (fIfS (eTest (eOp eqD (callX0 F__law_do [.sl 1, .v] [1] (eCons (liftP (fVar 6)) eNil)) (liftP (fC (.str ""))))) (fExpr (eMut 4 appendM (eCons (liftP (fVar 6)) eNil))) fNext) fNext))) (ws := [5, 6])
    (fun xs s => ∃ (es : List Deed) (m' : Mdl) (ns' : List Int), s = ⟨[some (eN ns'), some (eM m'), some (.int t), some (.int 40), some (.fl (es.map eD)), none, none], ()⟩ ∧ (∀ d ∈ es, GoodD d) ∧ Ok m' ∧ S m' + xs.length ≤ C ∧ Dr ns' ∧ es.length + xs.length ≤ t.toNat ∧ xs.length ≤ t.toNat) (fun x xs s ⟨es, m', ns', hs, g1, g2, g3, g4, g5, g6⟩ => by
      subst hs
      rw [List.length_cons] at g3 g5 g6
      obtain ⟨d, n2, e2, hd, d2⟩ := deed_drawn g2 g4
      have hix := ix0_eD d
      have hkc := kind_copy d
      obtain ⟨R, hR⟩ : ∃ R : Int, R = (room m' : Int) := ⟨_, rfl⟩
      have hro : F__law_room [eM m'] = .ok (.int R) [] := by rw [room_ok g2, hR]
      have hdo := do_ok g2 hd
      have hkp := do_keeps g2 hd
      have q1 : fSet 6 (callX0 F__law_deed [.sl 0, .sl 1] [0] eNil) (⟨[some (eN ns'), some (eM m'), some (.int t), some (.int 40), some (.fl (es.map eD)), some x, none], ()⟩ : St Unit) = .ok .nx ⟨[some (eN n2), some (eM m'), some (.int t), some (.int 40), some (.fl (es.map eD)), some x, some (eD d)], ()⟩ := by simp [e2]
      refine ⟨⟨[some (eN ns'), some (eM m'), some (.int t), some (.int 40), some (.fl (es.map eD)), some x, none], ()⟩, rfl, .nx, ?_⟩
      by_cases c : isCopy d = true ∧ ¬ R < 40
      · -- not done
        refine ⟨⟨[some (eN n2), some (eM m'), some (.int t), some (.int 40), some (.fl (es.map eD)), some x, some (eD d)], ()⟩, ?_, .inl rfl, es, m', n2, rfl, g1, g2, by omega, d2, by omega, by omega⟩
        rw [seq_nx q1]
        simp [hix, hkc, c.1, hro, c.2]
      · have hS : S (doR m' d).2 + xs.length ≤ C := by
          have := hkp.2
          by_cases ci : isCopy d = true
          · have hr40 : R < 40 := Classical.byContradiction fun z => c ⟨ci, z⟩
            rw [if_pos ci] at this
            rw [hR, room_S] at hr40
            omega
          · rw [if_neg ci] at this
            omega
        have hok : Ok (doR m' d).2 := hkp.1.ok (by rw [room_S]; omega)
        have hcond : (fOr (fTest (fOp neD (fOp ixO (fVar 6) (fC (.int 0))) (fC (.str "copy")))) (fTest (fOp ltI (fCall0 F__law_room (fCons (fVar 1) fNil)) (fVar 3)))) (⟨[some (eN n2), some (eM m'), some (.int t), some (.int 40), some (.fl (es.map eD)), some x, some (eD d)], ()⟩ : St Unit) = .ok true := by
          cases ci : isCopy d with
          | false => simp [hix, hkc, ci]
          | true =>
            have hr40 : R < 40 := Classical.byContradiction fun z => c ⟨ci, z⟩
            simp [hix, hkc, ci, hro, hr40]
        by_cases cr : (doR m' d).1 = ("" : Str)
        · refine ⟨⟨[some (eN n2), some (eM (doR m' d).2), some (.int t), some (.int 40), some (.fl ((es ++ [d]).map eD)), some x, some (eD d)], ()⟩, ?_, .inl rfl, es ++ [d], (doR m' d).2, n2, rfl, fun y hy => ?_, hok, hS, d2, by rw [List.length_append, List.length_singleton]; omega, by omega⟩
          · rw [seq_nx q1, a_fIfS, a_liftP, hcond]
            have happ := app_eD (es := es) (d := d) (by omega)
            simp only [List.map_append, List.map_cons, List.map_nil] at happ ⊢
            simp [hdo, cr, happ]
          · rcases List.mem_append.mp hy with hy | hy
            · exact g1 y hy
            · rw [List.mem_singleton.mp hy]; exact hd
        · refine ⟨⟨[some (eN n2), some (eM (doR m' d).2), some (.int t), some (.int 40), some (.fl (es.map eD)), some x, some (eD d)], ()⟩, ?_, .inl rfl, es, (doR m' d).2, n2, rfl, g1, hok, hS, d2, by omega, by omega⟩
          rw [seq_nx q1, a_fIfS, a_liftP, hcond]
          simp [hdo, cr]) ((List.range (n % (t + 1)).toNat).map fun (i : Nat) => D.int (i : Int)) ⟨[some (eN n1), some (eM m), some (.int t), some (.int 40), some (.fl (([] : List Deed).map eD)), none, none], ()⟩
    ⟨[], m, n1, rfl, fun _ z => (by cases z), hm, by rw [List.length_map, List.length_range]; omega, d1, by rw [List.length_map, List.length_range]; simp only [List.length_nil]; omega, by rw [List.length_map, List.length_range]; omega⟩
  refine ⟨es, m', ns', ?_, g1, g2, by simpa using g3, g4⟩
  have q0 : fSet 4 (liftP (fLst fNil)) (⟨[some (eN ns), some (eM m), some (.int t), some (.int 40), none, none, none], ()⟩ : St Unit) = .ok .nx ⟨[some (eN ns), some (eM m), some (.int t), some (.int 40), some (.fl (([] : List Deed).map eD)), none, none], ()⟩ := rfl
  have qi : (eRan ran1 (eCons (eOp modI (callX0 F__law_next [.sl 0] [0] eNil) (liftP (fOp addO (fVar 2) (fC (.int 1))))) eNil)) (⟨[some (eN ns), some (eM m), some (.int t), some (.int 40), some (.fl (([] : List Deed).map eD)), none, none], ()⟩ : St Unit) = .ok ((List.range (n % (t + 1)).toNat).map fun (i : Nat) => D.int (i : Int)) ⟨[some (eN n1), some (eM m), some (.int t), some (.int 40), some (.fl (([] : List Deed).map eD)), none, none], ()⟩ := by
    have : 0 < t + 1 := by omega
    simp [e1, this, hr]
  have body : r__law_further (startS 7 [eN ns, eM m, .int t, .int 40]) = .ok (.rt (.fl (es.map eD))) ⟨[some (eN ns'), some (eM m'), some (.int t), some (.int 40), some (.fl (es.map eD)), none, none], ()⟩ := by
    unfold r__law_further
    refine (seq_nx q0).trans ?_
    refine (seq_nx (s1 := ⟨[some (eN ns'), some (eM m'), some (.int t), some (.int 40), some (.fl (es.map eD)), none, none], ()⟩) ?_).trans (by simp)
    rw [a_fFor, qi, eb_ok]
    exact e
  unfold F__law_further runF
  rw [body]
  rfl
theorem ok_nil : Ok [] := ⟨List.nodup_nil, fun _ z => (by cases z), fun _ z => (by cases z), Nat.zero_le _⟩
theorem two_ok {ns : List Int} (h : Dr ns) : ∃ a b x ns', F__law_two [eN ns, .int 20] = .ok (.fl [eM a, eM b, x]) [eN ns'] ∧ (Ok a ∧ S a ≤ 116) ∧ (Ok b ∧ S b ≤ 116) ∧ Dr ns' := by
  obtain ⟨ds1, m1, n1, e1, _, o1, s1, d1⟩ := further_ok ok_nil h (t := 20) (by omega) (C := 96) ⟨by decide, by decide, by decide⟩
  obtain ⟨n, n2, e2, hn, d2⟩ := next_ok d1
  have h0 : (D.fd true []) = eM [] := rfl
  have ht := twin_ok o1
  obtain ⟨m0, o0, s0, q5⟩ : ∃ m0, Ok m0 ∧ S m0 ≤ 96 ∧ fIfS (liftP (fTest (fOp gtI (fOp modI (fVar 3) (fC (.int 4))) (fC (.int 0))))) (fSet 4 (liftP (fCall0 F__law_twin (fCons (fVar 2) fNil)))) fNext (⟨[some (eN n2), some (.int 20), some (eM m1), some (.int n), some (eM []), none], ()⟩ : St Unit) = .ok .nx ⟨[some (eN n2), some (.int 20), some (eM m1), some (.int n), some (eM m0), none], ()⟩ := by
    by_cases c : 0 < n % 4
    · exact ⟨m1, o1, s1, by simp [c, ht]⟩
    · exact ⟨[], ok_nil, by decide, by simp [c]⟩
  obtain ⟨ds3, m3, n3, e3, _, o3, s3, d3⟩ := further_ok o0 d2 (t := 20) (by omega) (C := 116) ⟨by have : (20 : Int).toNat = 20 := rfl; omega, by decide, by decide⟩
  have q1 : fSet 2 (liftP (fC (.fd true []))) (⟨[some (eN ns), some (.int 20), none, none, none, none], ()⟩ : St Unit) = .ok .nx ⟨[some (eN ns), some (.int 20), some (eM []), none, none, none], ()⟩ := rfl
  have q2 : fExpr (callX0 F__law_further [.sl 0, .sl 2, .v, .v] [0, 2] (eCons (liftP (fVar 1)) (eCons (liftP (fC (.int 40))) eNil))) (⟨[some (eN ns), some (.int 20), some (eM []), none, none, none], ()⟩ : St Unit) = .ok .nx ⟨[some (eN n1), some (.int 20), some (eM m1), none, none, none], ()⟩ := by simp [e1]
  have q3 : fSet 3 (callX0 F__law_next [.sl 0] [0] eNil) (⟨[some (eN n1), some (.int 20), some (eM m1), none, none, none], ()⟩ : St Unit) = .ok .nx ⟨[some (eN n2), some (.int 20), some (eM m1), some (.int n), none, none], ()⟩ := by simp [e2]
  have q4 : fSet 4 (liftP (fC (.fd true []))) (⟨[some (eN n2), some (.int 20), some (eM m1), some (.int n), none, none], ()⟩ : St Unit) = .ok .nx ⟨[some (eN n2), some (.int 20), some (eM m1), some (.int n), some (eM []), none], ()⟩ := rfl
  have q6 : fSet 5 (callX0 F__law_further [.sl 0, .sl 4, .v, .v] [0, 4] (eCons (liftP (fVar 1)) (eCons (liftP (fC (.int 40))) eNil))) (⟨[some (eN n2), some (.int 20), some (eM m1), some (.int n), some (eM m0), none], ()⟩ : St Unit) = .ok .nx ⟨[some (eN n3), some (.int 20), some (eM m1), some (.int n), some (eM m3), some (.fl (ds3.map eD))], ()⟩ := by simp [e3]
  have fin : ∀ (d : D) (l : List (Option D)), r__law_two (startS 6 [eN ns, .int 20]) = .ok (.rt d) ⟨some (eN n3) :: some (.int 20) :: l, ()⟩ → F__law_two [eN ns, .int 20] = .ok d [eN n3] := fun d l hb => by
    unfold F__law_two runF
    rw [hb]
    show Rs.ok d (eN n3 :: outsS [] l) = _
    rw [outsS_nil]
  have head : ∀ (d : D) (s : St Unit), (fSeq (fIfS (liftP (fTest (fOp eqD (fOp modI (fOp divI (fVar 3) (fC (.int 4))) (fC (.int 8))) (fC (.int 0))))) (fRet (eLst (eCons (liftP (fVar 4)) (eCons (liftP (fVar 2)) (eCons (liftP (fC .non)) eNil))))) fNext) (fSeq (fIfS (liftP (fTest (fOp gtI (fOp modI (fVar 3) (fC (.int 4))) (fC (.int 0))))) (fRet (eLst (eCons (liftP (fVar 2)) (eCons (liftP (fVar 4)) (eCons (liftP (fVar 5)) eNil))))) fNext) (fRet (eLst (eCons (liftP (fVar 2)) (eCons (liftP (fVar 4)) (eCons (liftP (fC .non)) eNil))))))) (⟨[some (eN n3), some (.int 20), some (eM m1), some (.int n), some (eM m3), some (.fl (ds3.map eD))], ()⟩ : St Unit) = .ok (.rt d) s → r__law_two (startS 6 [eN ns, .int 20]) = .ok (.rt d) s := fun d s hs => by
    unfold r__law_two
    rw [show startS 6 [eN ns, .int 20] = (⟨[some (eN ns), some (.int 20), none, none, none, none], ()⟩ : St Unit) from rfl, seq_nx q1, seq_nx q2, seq_nx q3, seq_nx q4, seq_nx q5, seq_nx q6]
    exact hs
  by_cases c1 : n / 4 % 8 = 0
  · exact ⟨m3, m1, .non, n3, fin _ [some (eM m1), some (.int n), some (eM m3), some (.fl (ds3.map eD))] (head _ _ (seq_rt (by simp [c1]))), ⟨o3, s3⟩, ⟨o1, by omega⟩, d3⟩
  · by_cases c2 : 0 < n % 4
    · exact ⟨m1, m3, .fl (ds3.map eD), n3, fin _ [some (eM m1), some (.int n), some (eM m3), some (.fl (ds3.map eD))] (head _ _ (by simp [c1, c2])), ⟨o1, by omega⟩, ⟨o3, s3⟩, d3⟩
    · exact ⟨m1, m3, .non, n3, fin _ [some (eM m1), some (.int n), some (eM m3), some (.fl (ds3.map eD))] (head _ _ (by simp [c1, c2])), ⟨o1, by omega⟩, ⟨o3, s3⟩, d3⟩
end SH

namespace SH
open PySem FL L2
/-! ### measures of what lies under a path -/
abbrev Ent := Pth × Option (List Lf)
def isPre (p : Pth) (e : Ent) : Bool := decide (e.1.take p.length = p)
def Pre (m : Mdl) (f : Ent → Nat) (p : Pth) : Nat := (m.map fun e => if isPre p e = true then f e else 0).sum
def Str' (m : Mdl) (f : Ent → Nat) (p : Pth) : Nat := (m.map fun e => if isPre p e = true ∧ p.length < e.1.length then f e else 0).sum
theorem sum_le {α : Type} {f g : α → Nat} : ∀ {xs : List α}, (∀ x ∈ xs, f x ≤ g x) → (xs.map f).sum ≤ (xs.map g).sum
  | [], _ => Nat.le_refl _
  | x :: xs, h => by
    have := sum_le fun y hy => h y (List.mem_cons_of_mem _ hy)
    have := h x List.mem_cons_self
    simp only [List.map_cons, List.sum_cons]
    omega
theorem sum_add {α : Type} {f g : α → Nat} : ∀ {xs : List α}, (xs.map fun x => f x + g x).sum = (xs.map f).sum + (xs.map g).sum
  | [] => rfl
  | x :: xs => by
    have := sum_add (f := f) (g := g) (xs := xs)
    simp only [List.map_cons, List.sum_cons]
    omega
theorem sum_zero {α : Type} : ∀ {xs : List α}, (xs.map fun _ => (0 : Nat)).sum = 0
  | [] => rfl
  | x :: xs => by simp [sum_zero (xs := xs)]
/-- sums change about -/
theorem sum_comm {α β : Type} (f : α → β → Nat) (ys : List β) : ∀ xs : List α, (xs.map fun x => (ys.map fun y => f x y).sum).sum = (ys.map fun y => (xs.map fun x => f x y).sum).sum
  | [] => by
    show 0 = (ys.map fun y => 0).sum
    rw [sum_zero]
  | x :: xs => by
    have ih := sum_comm f ys xs
    simp only [List.map_cons, List.sum_cons]
    rw [ih, ← sum_add]
theorem sum_one {o : Option Str} {c : Nat} : ∀ {xs : List Str}, xs.Nodup → (xs.map fun x => if o = some x then c else 0).sum ≤ if o.isSome = true then c else 0
  | [], _ => Nat.zero_le _
  | x :: xs, nd => by
    have nd' := List.nodup_cons.mp nd
    have ih := sum_one (o := o) (c := c) nd'.2
    simp only [List.map_cons, List.sum_cons]
    by_cases h : o = some x
    · have : (xs.map fun y => if o = some y then c else 0).sum = 0 := by
        have e : (xs.map fun y => if o = some y then c else 0) = xs.map fun _ => 0 := List.map_congr_left fun y hy => by
          rw [if_neg (fun z => ?_)]
          rw [h] at z
          cases z
          exact nd'.1 hy
        rw [e, sum_zero]
      rw [this, if_pos h, h]
      simp
    · rw [if_neg h]
      omega
theorem pre_snoc {p : Pth} {x : Str} {e : Ent} : isPre (p ++ [x]) e = true ↔ isPre p e = true ∧ e.1[p.length]? = some x := by
  unfold isPre
  simp only [decide_eq_true_eq, List.length_append, List.length_singleton]
  constructor
  · intro h
    have h1 : e.1.take p.length = p := by
      have := congrArg (List.take p.length) h
      rw [List.take_take, List.take_left, Nat.min_eq_left (by omega)] at this
      exact this
    refine ⟨h1, ?_⟩
    have := congrArg (fun l => l[p.length]?) h
    simp only [List.getElem?_append_right (Nat.le_refl _), Nat.sub_self] at this
    rw [List.getElem?_take_of_lt (by omega)] at this
    simpa using this
  · rintro ⟨h1, h2⟩
    rw [List.take_succ, h1, h2]
    rfl
theorem part {m : Mdl} {f : Ent → Nat} {p : Pth} {xs : List Str} (nd : xs.Nodup) : (xs.map fun x => Pre m f (p ++ [x])).sum ≤ Str' m f p := by
  unfold Pre Str'
  rw [sum_comm]
  refine sum_le fun e _ => ?_
  by_cases h : isPre p e = true
  · have e1 : (xs.map fun x => if isPre (p ++ [x]) e = true then f e else 0) = xs.map fun x => if e.1[p.length]? = some x then f e else 0 := List.map_congr_left fun x _ => by
      by_cases c : e.1[p.length]? = some x
      · rw [if_pos (pre_snoc.mpr ⟨h, c⟩), if_pos c]
      · rw [if_neg (fun z => c (pre_snoc.mp z).2), if_neg c]
    rw [e1]
    refine Nat.le_trans (sum_one nd) ?_
    by_cases c : p.length < e.1.length
    · rw [if_pos (⟨h, c⟩ : isPre p e = true ∧ p.length < e.1.length)]; split <;> omega
    · have : e.1[p.length]? = none := List.getElem?_eq_none (by omega)
      rw [this]
      simp
  · have e1 : (xs.map fun x => if isPre (p ++ [x]) e = true then f e else 0) = xs.map fun _ => 0 := List.map_congr_left fun x _ => by
      rw [if_neg (fun z => h (pre_snoc.mp z).1)]
    rw [e1, sum_zero]
    exact Nat.zero_le _
/-- the children, and what is strictly under the children -/
theorem part2 {m : Mdl} {f : Ent → Nat} {p : Pth} {xs : List Str} (nd : xs.Nodup) (hf : ∀ e, 1 ≤ f e) : (wnames m p).length + (xs.map fun x => Str' m f (p ++ [x])).sum ≤ Str' m f p := by
  have hw : (wnames m p).length = (m.map fun e => if e.1.length = p.length + 1 ∧ e.1.dropLast = p then 1 else 0).sum := by
    unfold wnames
    rw [List.length_map]
    induction m with
    | nil => rfl
    | cons e m ih =>
      simp only [List.map_cons, List.sum_cons]
      by_cases c : e.1.length = p.length + 1 ∧ e.1.dropLast = p
      · rw [List.filter_cons_of_pos (by simpa using c), List.length_cons, ih, if_pos c]
        omega
      · rw [List.filter_cons_of_neg (by simpa using c), ih, if_neg c]
        omega
  rw [hw]
  unfold Str'
  rw [sum_comm, ← sum_add]
  refine sum_le fun e _ => ?_
  by_cases h : isPre p e = true
  · by_cases hl : p.length < e.1.length
    · rw [if_pos (⟨h, hl⟩ : isPre p e = true ∧ p.length < e.1.length)]
      by_cases h1 : e.1.length = p.length + 1
      · have e1 : (xs.map fun x => if isPre (p ++ [x]) e = true ∧ (p ++ [x]).length < e.1.length then f e else 0) = xs.map fun _ => 0 := List.map_congr_left fun x _ => by
          rw [if_neg (fun z => ?_)]
          have := z.2
          rw [List.length_append, List.length_singleton] at this
          omega
        rw [e1, sum_zero]
        have := hf e
        split <;> omega
      · rw [if_neg (fun z => h1 z.1)]
        have e1 : (xs.map fun x => if isPre (p ++ [x]) e = true ∧ (p ++ [x]).length < e.1.length then f e else 0) = xs.map fun x => if e.1[p.length]? = some x then f e else 0 := List.map_congr_left fun x _ => by
          by_cases c : e.1[p.length]? = some x
          · rw [if_pos ⟨pre_snoc.mpr ⟨h, c⟩, by rw [List.length_append, List.length_singleton]; omega⟩, if_pos c]
          · rw [if_neg (fun z => c (pre_snoc.mp z.1).2), if_neg c]
        rw [e1]
        have := sum_one (o := e.1[p.length]?) (c := f e) nd
        refine Nat.le_trans (by omega : _ ≤ _) (Nat.le_trans this ?_)
        split <;> omega
    · have hd : ¬ (e.1.length = p.length + 1 ∧ e.1.dropLast = p) := fun z => by omega
      rw [if_neg hd]
      have e1 : (xs.map fun x => if isPre (p ++ [x]) e = true ∧ (p ++ [x]).length < e.1.length then f e else 0) = xs.map fun _ => 0 := List.map_congr_left fun x _ => by
        rw [if_neg (fun z => ?_)]
        have := z.2
        rw [List.length_append, List.length_singleton] at this
        omega
      rw [e1, sum_zero]
      omega
  · have hd : ¬ (e.1.length = p.length + 1 ∧ e.1.dropLast = p) := fun z => h (by
      unfold isPre
      rw [decide_eq_true_eq, ← z.2, List.length_dropLast, List.dropLast_eq_take])
    rw [if_neg hd]
    have e1 : (xs.map fun x => if isPre (p ++ [x]) e = true ∧ (p ++ [x]).length < e.1.length then f e else 0) = xs.map fun _ => 0 := List.map_congr_left fun x _ => by
      rw [if_neg (fun z => h (pre_snoc.mp z.1).1)]
    rw [e1, sum_zero]
    omega
theorem own_pre {m : Mdl} {f : Ent → Nat} {p : Pth} {v : Option (List Lf)} (h : (p, v) ∈ m) : f (p, v) + Str' m f p ≤ Pre m f p := by
  unfold Pre Str'
  induction m with
  | nil => cases h
  | cons e m ih =>
    simp only [List.map_cons, List.sum_cons]
    have all : (m.map fun e => if isPre p e = true ∧ p.length < e.1.length then f e else 0).sum ≤ (m.map fun e => if isPre p e = true then f e else 0).sum := sum_le fun e _ => by
      by_cases c : isPre p e = true
      · rw [if_pos c]; split <;> omega
      · rw [if_neg c, if_neg (fun z => c z.1)]; omega
    rcases List.mem_cons.mp h with rfl | h
    · have h1 : isPre p (p, v) = true := by unfold isPre; simp
      rw [if_pos h1, if_neg (fun z => Nat.lt_irrefl _ z.2)]
      omega
    · have ih := ih h
      have : (if isPre p e = true ∧ p.length < e.1.length then f e else 0) ≤ (if isPre p e = true then f e else 0) := by
        by_cases c : isPre p e = true
        · rw [if_pos c]; split <;> omega
        · rw [if_neg c, if_neg (fun z => c z.1)]; omega
      omega
theorem str_all {m : Mdl} {f : Ent → Nat} {p : Pth} : Str' m f p ≤ (m.map f).sum := by
  unfold Str'
  exact sum_le fun e _ => by split <;> omega
end SH

namespace SH
open PySem FL L2
def like (a b : Mdl) (p : Pth) : Bool := match aget a p, aget b p with
  | some u, some v => u.isNone == v.isNone
  | _, _ => false
theorem like_ok {a b : Mdl} {p : Pth} (hp : GoodW p) : F__law_like [eM a, eM b, eP p] = .ok (.bl (like a b p)) [] := by
  have t1 := inO_eM (m := a) hp.1
  have t2 := inO_eM (m := b) hp.1
  unfold like
  cases g : aget a p with
  | none =>
    rw [g] at t1
    simp [F__law_like, r__law_like, runF, startS, t1]
  | some u =>
    rw [g] at t1
    have i1 := ix_eM hp.1 g
    cases g2 : aget b p with
    | none =>
      rw [g2] at t2
      simp [F__law_like, r__law_like, runF, startS, t1, t2]
    | some v =>
      rw [g2] at t2
      have i2 := ix_eM hp.1 g2
      cases u <;> cases v <;> simp [F__law_like, r__law_like, runF, startS, t1, t2, i1, i2]
theorem ev_eLs {xs ys : List Lf} : ev (.fl (xs.map eL)) (.fl (ys.map eL)) = decide (xs = ys) := by
  rw [Bool.eq_iff_iff, decide_eq_true_eq]
  exact ev_fl eL (fun a b => by rw [ev_eL, decide_eq_true_eq]) xs ys
theorem shp_eLs {xs : List Lf} : shp (.fl (xs.map eL)) = true := by
  refine shp_of ?_ ?_
  · unfold pln
    refine plns_of fun d hd => ?_
    obtain ⟨l, _, rfl⟩ := List.mem_map.mp hd
    exact pln_eL
  · unfold dep
    have : deps (xs.map eL) ≤ 1 := deps_of fun d hd => by
      obtain ⟨l, _, rfl⟩ := List.mem_map.mp hd
      exact Nat.le_of_eq dep_eL
    omega
theorem ne_eLs {xs ys : List Lf} : neD (.fl (xs.map eL)) (.fl (ys.map eL)) = some (.bl (!decide (xs = ys))) := by rw [neD_of shp_eLs shp_eLs, ev_eLs]
def onLeaves (old new : List Lf) (p : Pth) : List Deed := (if new.length < old.length then [Deed.trim p (new.length : Int)] else []) ++ ((List.range new.length).filter fun i => !decide ((old.drop i).take 1 = (new.drop i).take 1)).map fun (i : Nat) => Deed.put p (i : Int) (new.getD i [])
theorem leaves_ok {old new : List Lf} {p : Pth} (ho : old.length ≤ 64) (hn : new.length ≤ 64) : F__law_on_leaves [eV (some old), eV (some new), eP p] = .ok (.fl ((onLeaves old new p).map eD)) [] := by
  obtain ⟨O, hO⟩ : ∃ O : Int, O = (old.length : Int) := ⟨_, rfl⟩
  obtain ⟨N, hN⟩ : ∃ N : Int, N = (new.length : Int) := ⟨_, rfl⟩
  have t1 : lenO [eV (some old)] = some (.int O) := by rw [len_ls, hO]
  have t2 : lenO [eV (some new)] = some (.int N) := by rw [len_ls, hN]
  have hr : ran1 [.int N] = some ((List.range new.length).map fun (i : Nat) => D.int (i : Int)) := by rw [ran1_ok' (by omega) (by omega), hN, Int.toNat_natCast]
  obtain ⟨ds, hds⟩ : ∃ ds : List Deed, ds = if new.length < old.length then [Deed.trim p (new.length : Int)] else [] := ⟨_, rfl⟩
  have q1 : fSet 3 (liftP (fLst fNil)) (⟨[some (eV (some old)), some (eV (some new)), some (eP p), none, none], ()⟩ : St Unit) = .ok .nx ⟨[some (eV (some old)), some (eV (some new)), some (eP p), some (.fl (([] : List Deed).map eD)), none], ()⟩ := rfl
  have q2 : fIfS (liftP (fTest (fOp gtI (fCB lenO (fCons (fVar 0) fNil)) (fCB lenO (fCons (fVar 1) fNil))))) (fExpr (eMut 3 appendM (eCons (liftP (fTup (fCons (fC (.str "trim")) (fCons (fVar 2) (fCons (fCB lenO (fCons (fVar 1) fNil)) fNil))))) eNil))) fNext (⟨[some (eV (some old)), some (eV (some new)), some (eP p), some (.fl (([] : List Deed).map eD)), none], ()⟩ : St Unit) = .ok .nx ⟨[some (eV (some old)), some (eV (some new)), some (eP p), some (.fl (ds.map eD)), none], ()⟩ := by
    rw [hds]
    by_cases c : new.length < old.length
    · have c' : N < O := by omega
      have happ := app_eD (es := []) (d := Deed.trim p (new.length : Int)) (by simp)
      rw [if_pos c]
      simp only [eD, ← hN, List.nil_append, List.map_nil] at happ ⊢
      simp [-len_ls, -eN_nil, t1, t2, c', happ]
    · have c' : ¬ N < O := by omega
      rw [if_neg c]
      simp [-len_ls, t1, t2, c']
  have hc := compL_eq (g := (gName 4 : GR Unit)) (tt := (liftP (fTest (fOp neD (fSl (fVar 0) (fPart (fVar 4)) (fPart (fOp addO (fVar 4) (fC (.int 1))))) (fSl (fVar 1) (fPart (fVar 4)) (fPart (fOp addO (fVar 4) (fC (.int 1))))))))) (te := (liftP (fTup (fCons (fC (.str "put")) (fCons (fVar 2) (fCons (fVar 4) (fCons (fOp ixO (fVar 1) (fVar 4)) fNil))))))) (vs := [4]) (s := ⟨[some (eV (some old)), some (eV (some new)), some (eP p), some (.fl (ds.map eD)), none], ()⟩) (fun i : Nat => D.int (i : Int)) (fun i => !decide ((old.drop i).take 1 = (new.drop i).take 1)) (fun i => eD (.put p (i : Int) (new.getD i []))) (xs := List.range new.length) (fun i hi => by
    have hi' := List.mem_range.mp hi
    have s1 : ∀ ls : List Lf, slO (eV (some ls)) (some (i : Int)) (some ((i : Int) + 1)) = some (.fl (((ls.drop i).take 1).map eL)) := fun ls => by
      unfold eV
      simp only [slO_l]
      rw [cutD_ij _ _ (by omega) (by omega), Int.toNat_natCast, show ((i : Int) + 1).toNat - i = 1 by omega]
    have hix : ixO (eV (some new)) (.int (i : Int)) = some (eL (new.getD i [])) := by
      unfold eV
      simp only [ixO_l]
      rw [atI_map, atI_pos (by omega) (by omega), Int.toNat_natCast, List.getD_eq_getElem?_getD, List.getElem?_eq_getElem hi']
      rfl
    exact ⟨⟨[some (eV (some old)), some (eV (some new)), some (eP p), some (.fl (ds.map eD)), some (.int (i : Int))], ()⟩, rfl, by simp [-List.map_take, -List.map_drop, s1, ne_eLs], fun _ => by simp [hix, eD], rfl⟩)
  obtain ⟨es, hes⟩ : ∃ es : List Deed, es = ((List.range new.length).filter fun i => !decide ((old.drop i).take 1 = (new.drop i).take 1)).map fun (i : Nat) => Deed.put p (i : Int) (new.getD i []) := ⟨_, rfl⟩
  have he : (((List.range new.length).filter fun i => !decide ((old.drop i).take 1 = (new.drop i).take 1)).map fun (i : Nat) => eD (Deed.put p (i : Int) (new.getD i []))) = es.map eD := by rw [hes, List.map_map]; rfl
  rw [he] at hc
  have hel : es.length ≤ 64 := by
    rw [hes, List.length_map]
    have := List.length_filter_le (fun i => !decide ((old.drop i).take 1 = (new.drop i).take 1)) (List.range new.length)
    rw [List.length_range] at this
    omega
  have hdl : ds.length ≤ 1 := by rw [hds]; split <;> simp
  have hl : lstO (es.map eD) = .ok (.fl _) := lstO_ok (by rw [List.length_map]; omega)
  have hadd : addO (.fl (ds.map eD)) (.fl (es.map eD)) = some (.fl ((ds ++ es).map eD)) := by
    show (if (ds.map eD).length + (es.map eD).length ≤ sizeLine then some (D.fl (ds.map eD ++ es.map eD)) else none) = _
    rw [if_pos (by rw [List.length_map, List.length_map, PySem.sizeLine_eq]; omega), List.map_append]
  have hon : onLeaves old new p = ds ++ es := by unfold onLeaves; rw [hds, hes]
  rw [hon]
  have body : r__law_on_leaves (startS 5 [eV (some old), eV (some new), eP p]) = .ok (.rt (.fl ((ds ++ es).map eD))) ⟨[some (eV (some old)), some (eV (some new)), some (eP p), some (.fl (ds.map eD)), none], ()⟩ := by
    unfold r__law_on_leaves
    rw [show startS 5 [eV (some old), eV (some new), eP p] = (⟨[some (eV (some old)), some (eV (some new)), some (eP p), none, none], ()⟩ : St Unit) from rfl, seq_nx q1, seq_nx q2]
    have e0 : eRan ran1 (eCons (liftP (fCB lenO (fCons (fVar 1) fNil))) eNil) (⟨[some (eV (some old)), some (eV (some new)), some (eP p), some (.fl (ds.map eD)), none], ()⟩ : St Unit) = .ok ((List.range new.length).map fun (i : Nat) => D.int (i : Int)) ⟨[some (eV (some old)), some (eV (some new)), some (eP p), some (.fl (ds.map eD)), none], ()⟩ := by simp [-len_ls, t2, hr]
    have e1 : liftP (fVar 3) (⟨[some (eV (some old)), some (eV (some new)), some (eP p), some (.fl (ds.map eD)), none], ()⟩ : St Unit) = .ok (.fl (ds.map eD)) ⟨[some (eV (some old)), some (eV (some new)), some (eP p), some (.fl (ds.map eD)), none], ()⟩ := rfl
    rw [a_fRet, a_eOp, e1, eb_ok, a_eLc, e0, eb_ok, hc, eb_ok, hl, oe_ok, eb_ok, hadd]
    rfl
  unfold F__law_on_leaves runF
  rw [body]
  rfl
theorem leaves_len {old new : List Lf} {p : Pth} : (onLeaves old new p).length ≤ 1 + new.length := by
  unfold onLeaves
  rw [List.length_append, List.length_map]
  have := List.length_filter_le (fun i => !decide ((old.drop i).take 1 = (new.drop i).take 1)) (List.range new.length)
  rw [List.length_range] at this
  have : (if new.length < old.length then [Deed.trim p (new.length : Int)] else []).length ≤ 1 := by split <;> simp
  omega
theorem leaves_good {old new : List Lf} {p : Pth} (hp : GoodW p) (ho : old.length ≤ 64) (hn : new.length ≤ 64 ∧ ∀ l ∈ new, GoodL l) : ∀ d ∈ onLeaves old new p, GoodD d := by
  intro d hd
  unfold onLeaves at hd
  rcases List.mem_append.mp hd with hd | hd
  · split at hd
    · rw [List.mem_singleton.mp hd]
      exact ⟨hp, by omega, by omega⟩
    · cases hd
  · obtain ⟨i, hi, rfl⟩ := List.mem_map.mp hd
    have hi' := List.mem_range.mp (List.mem_filter.mp hi).1
    refine ⟨hp, ⟨by omega, by omega⟩, ?_⟩
    rw [List.getD_eq_getElem?_getD, List.getElem?_eq_getElem hi']
    exact hn.2 _ (List.getElem_mem hi')
/-! ### all made -/
def allMade (m : Mdl) : Nat → Pth → List Deed
  | 0, _ => []
  | n + 1, p => match aget m p with
    | some (some ls) => .file p :: ls.mapIdx fun (i : Nat) l => .put p (i : Int) l
    | _ => .folder p :: (within m p).flatMap fun x => allMade m n (p ++ [x])
def wtE (e : Ent) : Nat := wt e.2
theorem within_nd {m : Mdl} (h : Ok m) (p : Pth) : (within m p).Nodup := by
  unfold within
  exact (byCode_perm _).nodup_iff.mpr (wnames_nd h)
theorem flatMap_len {α β : Type} {f : α → List β} {g : α → Nat} : ∀ {xs : List α}, (∀ x ∈ xs, (f x).length ≤ g x) → (xs.flatMap f).length ≤ (xs.map g).sum
  | [], _ => Nat.le_refl _
  | x :: xs, h => by
    have h1 := h x List.mem_cons_self
    have ih := flatMap_len fun y hy => h y (List.mem_cons_of_mem _ hy)
    rw [List.flatMap_cons, List.length_append, List.map_cons, List.sum_cons]
    omega
theorem made_len {m : Mdl} (hm : Ok m) : ∀ (n : Nat) (p : Pth), p ∈ m.map (·.1) → (allMade m n p).length ≤ Pre m wtE p
  | 0, p, _ => Nat.zero_le _
  | n + 1, p, hp => by
    obtain ⟨v, hv⟩ := aget_some_of hp
    have hown := own_pre (f := wtE) (aget_mem hv)
    unfold allMade
    rw [hv]
    cases v with
    | none =>
      have h1 : ((within m p).flatMap fun x => allMade m n (p ++ [x])).length ≤ ((within m p).map fun x => Pre m wtE (p ++ [x])).sum := flatMap_len fun x hx => made_len hm n (p ++ [x]) (mem_within.mp hx)
      have h2 := part (m := m) (f := wtE) (p := p) (within_nd hm p)
      show (Deed.folder p :: _).length ≤ _
      rw [List.length_cons]
      have : wtE (p, none) = 1 := rfl
      omega
    | some ls =>
      show (Deed.file p :: _).length ≤ _
      rw [List.length_cons, List.length_mapIdx]
      have : wtE (p, some ls) = 1 + ls.length := rfl
      omega
theorem made_good {m : Mdl} (hm : Ok m) : ∀ (n : Nat) (p : Pth), p ∈ m.map (·.1) → ∀ d ∈ allMade m n p, GoodD d
  | 0, p, _, d, hd => by cases hd
  | n + 1, p, hp, d, hd => by
    have hgp := key_ne hm hp
    obtain ⟨v, hv⟩ := aget_some_of hp
    unfold allMade at hd
    rw [hv] at hd
    cases v with
    | none =>
      rcases List.mem_cons.mp hd with rfl | hd
      · exact hgp
      · obtain ⟨x, hx, hd⟩ := List.mem_flatMap.mp hd
        exact made_good hm n _ (mem_within.mp hx) d hd
    | some ls =>
      have hls := hm.leaf _ (aget_mem hv) ls rfl
      rcases List.mem_cons.mp hd with rfl | hd
      · exact hgp
      · obtain ⟨i, hi, rfl⟩ := List.mem_mapIdx.mp hd
        exact ⟨hgp, ⟨by omega, by omega⟩, hls.2 _ (List.getElem_mem hi)⟩
end SH

namespace SH
open PySem FL L2
theorem pre_le {m : Mdl} {f : Ent → Nat} {p : Pth} : Pre m f p ≤ (m.map f).sum := by
  unfold Pre
  exact sum_le fun e _ => by split <;> omega
theorem S_wt (m : Mdl) : (m.map wtE).sum = S m := rfl
theorem add_eDs {as bs : List Deed} (h : as.length + bs.length ≤ 10000) : addO (.fl (as.map eD)) (.fl (bs.map eD)) = some (.fl ((as ++ bs).map eD)) := by
  show (if (as.map eD).length + (bs.map eD).length ≤ sizeLine then some (D.fl (as.map eD ++ bs.map eD)) else none) = _
  rw [if_pos (by rw [List.length_map, List.length_map, PySem.sizeLine_eq]; omega), List.map_append]
theorem addL_eDs {as bs : List Deed} (h : as.length + bs.length ≤ 10000) : addL (.fl (as.map eD)) (.fl (bs.map eD)) = some (.fl ((as ++ bs).map eD)) := by
  show (if (as.map eD).length + (bs.map eD).length ≤ sizeLine then some (D.fl (as.map eD ++ bs.map eD)) else none) = _
  rw [if_pos (by rw [List.length_map, List.length_map, PySem.sizeLine_eq]; omega), List.map_append]
theorem add_name {p : Pth} {x : Str} (h : p.length ≤ 6) : addO (eP p) (.tup [.str x]) = some (eP (p ++ [x])) := addO_P (p := p) (q := [x]) (by simp; omega)
theorem made_ok {m : Mdl} (hm : Ok m) (hS : S m ≤ 900) : ∀ (n : Nat) (p : Pth), p ∈ m.map (·.1) → 7 ≤ n + p.length → F__law_all_made n [eM m, eP p] = .ok (.fl ((allMade m n p).map eD)) []
  | 0, p, hp, hn => by
    have := (key_ne hm hp).2.1
    omega
  | n + 1, p, hp, hn => by
    have hgp := key_ne hm hp
    obtain ⟨v, hv⟩ := aget_some_of hp
    have hix := ix_eM hgp.1 hv
    have hlen := made_len hm (n + 1) p hp
    have hpl := pre_le (m := m) (f := wtE) (p := p)
    rw [S_wt] at hpl
    cases v with
    | some ls =>
      have hls := hm.leaf _ (aget_mem hv) ls rfl
      obtain ⟨ps, hps⟩ : ∃ ps : List (Nat × Lf), ps = ls.mapIdx fun (i : Nat) l => (i, l) := ⟨_, rfl⟩
      have hpl : ps.length = ls.length := by rw [hps, List.length_mapIdx]
      have hen : enumO [eV (some ls)] = some (ps.map fun x => .tup [.int (x.1 : Int), eL x.2]) := by
        show some (enumD (ls.map eL)) = _
        unfold enumD
        rw [hps]
        congr 1
        refine List.ext_getElem? fun i => ?_
        simp only [List.getElem?_mapIdx, List.getElem?_map, Option.map_map]
        rfl
      have hc := compL_map (g := (gTup 2 (gCons (gName 4) (gCons (gName 5) gNil)) : GR Unit)) (tt := eYes) (te := (liftP (fTup (fCons (fC (.str "put")) (fCons (fVar 1) (fCons (fVar 4) (fCons (fVar 5) fNil))))))) (vs := [4, 5]) (s := ⟨[some (eM m), some (eP p), none, none, none, none], ()⟩) (fun x : Nat × Lf => D.tup [.int (x.1 : Int), eL x.2]) (fun x => eD (.put p (x.1 : Int) x.2)) (xs := ps) (fun x hx => by
        exact ⟨⟨[some (eM m), some (eP p), none, none, some (.int (x.1 : Int)), some (eL x.2)], ()⟩, rfl, rfl, rfl, rfl⟩)
      obtain ⟨ds, hds⟩ : ∃ ds : List Deed, ds = ls.mapIdx fun (i : Nat) l => Deed.put p (i : Int) l := ⟨_, rfl⟩
      have he : (ps.map fun x => eD (.put p (x.1 : Int) x.2)) = ds.map eD := by
        rw [hds, hps]
        refine List.ext_getElem? fun i => ?_
        simp only [List.getElem?_mapIdx, List.getElem?_map, Option.map_map]
        rfl
      rw [he] at hc
      have hdl : ds.length = ls.length := by rw [hds, List.length_mapIdx]
      have hl : lstO (ds.map eD) = .ok (.fl _) := lstO_ok (by rw [List.length_map]; omega)
      have hadd := add_eDs (as := [Deed.file p]) (bs := ds) (by simp; omega)
      have hal : allMade m (n + 1) p = [Deed.file p] ++ ds := by
        show (match aget m p with
          | some (some ls) => Deed.file p :: ls.mapIdx fun (i : Nat) l => Deed.put p (i : Int) l
          | _ => Deed.folder p :: (within m p).flatMap fun x => allMade m n (p ++ [x])) = _
        rw [hv, hds]
        rfl
      rw [hal]
      have body : r__law_all_made (F__law_all_made n) (startS 6 [eM m, eP p]) = .ok (.rt (.fl (([Deed.file p] ++ ds).map eD))) ⟨[some (eM m), some (eP p), none, none, none, none], ()⟩ := by
        unfold r__law_all_made
        refine seq_rt ?_
        have c1 : liftP (fTest (fOp notNO (fOp ixO (fVar 0) (fVar 1)) (fC .non))) (startS 6 [eM m, eP p]) = .ok true (⟨[some (eM m), some (eP p), none, none, none, none], ()⟩ : St Unit) := by simp [startS, hix]
        have e1 : liftP (fLst (fCons (fTup (fCons (fC (.str "file")) (fCons (fVar 1) fNil))) fNil)) (⟨[some (eM m), some (eP p), none, none, none, none], ()⟩ : St Unit) = .ok (.fl (([.file p] : List Deed).map eD)) ⟨[some (eM m), some (eP p), none, none, none, none], ()⟩ := rfl
        have e2 : eEnum (eCons (liftP (fOp ixO (fVar 0) (fVar 1))) eNil) (⟨[some (eM m), some (eP p), none, none, none, none], ()⟩ : St Unit) = .ok (ps.map fun x => .tup [.int (x.1 : Int), eL x.2]) ⟨[some (eM m), some (eP p), none, none, none, none], ()⟩ := by simp [hix, hen]
        rw [a_fIfS, c1, eb_ok, if_pos rfl, a_fRet, a_eOp, e1, eb_ok, a_eLc, e2, eb_ok, hc, eb_ok, hl, oe_ok, eb_ok, hadd]
        rfl
      show (match r__law_all_made (F__law_all_made n) (startS 6 [eM m, eP p]) with
        | .ok (.rt d) s => Rs.ok d (outsS [.own .p, .own .p] s.s)
        | .ok .nx s => if Tag.beq .p .p = true then Rs.ok .non (outsS [.own .p, .own .p] s.s) else .stuck
        | .ok _ _ => .stuck
        | .exc c s => .exc c (outsS [.own .p, .own .p] s.s)
        | .stuck => .stuck) = _
      rw [body]
      rfl
    | none =>
      have hp6 := hgp.2.1
      have hw := within_ok hm hgp.2.2
      have hal : allMade m (n + 1) p = .folder p :: (within m p).flatMap fun x => allMade m n (p ++ [x]) := by
        show (match aget m p with
          | some (some ls) => Deed.file p :: ls.mapIdx fun (i : Nat) l => Deed.put p (i : Int) l
          | _ => Deed.folder p :: (within m p).flatMap fun x => allMade m n (p ++ [x])) = _
        rw [hv]
      rw [hal] at hlen
      obtain ⟨s', e, as, bs, h1, h2, rfl⟩ := forF_on (g := (gName 3 : GR Unit)) (tb := (fSet 2 (liftP (fOp addO (fVar 2) (fCall0 (F__law_all_made n) (fCons (fVar 0) (fCons (fOp addO (fVar 1) (fTup (fCons (fVar 3) fNil))) fNil))))))) (ws := [3])
        (fun xs s => ∃ as bs : List Str, within m p = as ++ bs ∧ xs = bs.map D.str ∧ s = ⟨[some (eM m), some (eP p), some (.fl ((Deed.folder p :: as.flatMap fun x => allMade m n (p ++ [x])).map eD)), none, none, none], ()⟩) (fun x xs s ⟨as, bs, h1, h2, h3⟩ => by
          subst h3
          cases bs with
          | nil => cases h2
          | cons y bs =>
            obtain ⟨rfl, rfl⟩ := List.cons.inj h2
            have hy : p ++ [y] ∈ m.map (·.1) := mem_within.mp (by rw [h1]; simp)
            have ih := made_ok hm hS n (p ++ [y]) hy (by rw [List.length_append, List.length_singleton]; omega)
            have hbound : (Deed.folder p :: as.flatMap fun x => allMade m n (p ++ [x])).length + (allMade m n (p ++ [y])).length ≤ 10000 := by
              have : (within m p).flatMap (fun x => allMade m n (p ++ [x])) = (as.flatMap fun x => allMade m n (p ++ [x])) ++ (allMade m n (p ++ [y]) ++ bs.flatMap fun x => allMade m n (p ++ [x])) := by rw [h1, List.flatMap_append, List.flatMap_cons]
              rw [this, List.length_cons, List.length_append, List.length_append] at hlen
              rw [List.length_cons]
              omega
            have hadd := add_eDs hbound
            have hna := add_name (x := y) hp6
            refine ⟨⟨[some (eM m), some (eP p), some (.fl ((Deed.folder p :: as.flatMap fun x => allMade m n (p ++ [x])).map eD)), some (.str y), none, none], ()⟩, rfl, .nx, ⟨[some (eM m), some (eP p), some (.fl (((Deed.folder p :: as.flatMap fun x => allMade m n (p ++ [x])) ++ allMade m n (p ++ [y])).map eD)), some (.str y), none, none], ()⟩, ?_, .inl rfl, as ++ [y], bs, by rw [h1]; simp, rfl, ?_⟩
            · have e1 : (fOp addO (fVar 2) (fCall0 (F__law_all_made n) (fCons (fVar 0) (fCons (fOp addO (fVar 1) (fTup (fCons (fVar 3) fNil))) fNil)))) (⟨[some (eM m), some (eP p), some (.fl ((Deed.folder p :: as.flatMap fun x => allMade m n (p ++ [x])).map eD)), some (.str y), none, none], ()⟩ : St Unit) = .ok (.fl (((Deed.folder p :: as.flatMap fun x => allMade m n (p ++ [x])) ++ allMade m n (p ++ [y])).map eD)) := by
                have e2 : (fCall0 (F__law_all_made n) (fCons (fVar 0) (fCons (fOp addO (fVar 1) (fTup (fCons (fVar 3) fNil))) fNil))) (⟨[some (eM m), some (eP p), some (.fl ((Deed.folder p :: as.flatMap fun x => allMade m n (p ++ [x])).map eD)), some (.str y), none, none], ()⟩ : St Unit) = .ok (.fl ((allMade m n (p ++ [y])).map eD)) := by simp [hna, ih]
                have e3 : fVar 2 (⟨[some (eM m), some (eP p), some (.fl ((Deed.folder p :: as.flatMap fun x => allMade m n (p ++ [x])).map eD)), some (.str y), none, none], ()⟩ : St Unit) = .ok (.fl ((Deed.folder p :: as.flatMap fun x => allMade m n (p ++ [x])).map eD)) := rfl
                rw [a_fOp, e3, ob_ok, e2, ob_ok, hadd]
                rfl
              rw [a_fSet, a_liftP, e1]
              rfl
            · show (⟨[some (eM m), some (eP p), some _, none, none, none], ()⟩ : St Unit) = _
              rw [List.flatMap_append]
              simp) ((within m p).map D.str) ⟨[some (eM m), some (eP p), some (.fl (([Deed.folder p] : List Deed).map eD)), none, none, none], ()⟩ ⟨[], within m p, rfl, rfl, rfl⟩
      have hb : bs = [] := by
        cases bs with
        | nil => rfl
        | cons y bs => cases h2
      subst hb
      rw [List.append_nil] at h1
      subst h1
      rw [hal]
      have body : r__law_all_made (F__law_all_made n) (startS 6 [eM m, eP p]) = .ok (.rt (.fl ((Deed.folder p :: (within m p).flatMap fun x => allMade m n (p ++ [x])).map eD))) ⟨[some (eM m), some (eP p), some (.fl ((Deed.folder p :: (within m p).flatMap fun x => allMade m n (p ++ [x])).map eD)), none, none, none], ()⟩ := by
        unfold r__law_all_made
        rw [seq_nx (s1 := ⟨[some (eM m), some (eP p), none, none, none, none], ()⟩) (by simp [startS, hix])]
        have q1 : fSet 2 (liftP (fLst (fCons (fTup (fCons (fC (.str "folder")) (fCons (fVar 1) fNil))) fNil))) (⟨[some (eM m), some (eP p), none, none, none, none], ()⟩ : St Unit) = .ok .nx ⟨[some (eM m), some (eP p), some (.fl (([Deed.folder p] : List Deed).map eD)), none, none, none], ()⟩ := rfl
        rw [seq_nx q1]
        refine (seq_nx (s1 := ⟨[some (eM m), some (eP p), some (.fl ((Deed.folder p :: (within m p).flatMap fun x => allMade m n (p ++ [x])).map eD)), none, none, none], ()⟩) ?_).trans rfl
        have e0 : eSeq (liftP (fCall0 F__law_within (fCons (fVar 0) (fCons (fVar 1) fNil)))) (⟨[some (eM m), some (eP p), some (.fl (([Deed.folder p] : List Deed).map eD)), none, none, none], ()⟩ : St Unit) = .ok ((within m p).map D.str) ⟨[some (eM m), some (eP p), some (.fl (([Deed.folder p] : List Deed).map eD)), none, none, none], ()⟩ := by simp [hw]
        rw [a_fFor, e0, eb_ok]
        exact e
      show (match r__law_all_made (F__law_all_made n) (startS 6 [eM m, eP p]) with
        | .ok (.rt d) s => Rs.ok d (outsS [.own .p, .own .p] s.s)
        | .ok .nx s => if Tag.beq .p .p = true then Rs.ok .non (outsS [.own .p, .own .p] s.s) else .stuck
        | .ok _ _ => .stuck
        | .exc c s => .exc c (outsS [.own .p, .own .p] s.s)
        | .stuck => .stuck) = _
      rw [body]
      rfl
end SH

namespace SH
open PySem FL L2
/-- what stands at one name of both -/
def btwAt (a b : Mdl) (rec : Pth → List Deed) (q : Pth) : List Deed :=
  if like a b q = false then allMade b 12 q
  else match aget a q, aget b q with
    | some (some ol), some (some nl) => onLeaves ol nl q
    | _, _ => rec q
def outs (a b : Mdl) (p : Pth) : List Deed := ((within a p).filter fun x => !like a b (p ++ [x])).map fun x => .out (p ++ [x])
def between (a b : Mdl) : Nat → Pth → List Deed
  | 0, _ => []
  | n + 1, p => outs a b p ++ (within b p).flatMap fun x => btwAt a b (between a b n) (p ++ [x])
def one : Ent → Nat := fun _ => 1
theorem outs_len {a b : Mdl} {p : Pth} : (outs a b p).length ≤ (wnames a p).length := by
  unfold outs
  rw [List.length_map]
  refine Nat.le_trans (List.length_filter_le _ _) (Nat.le_of_eq ?_)
  unfold within
  exact (byCode_perm _).length_eq
theorem like_both {a b : Mdl} {q : Pth} (h : like a b q = true) : ∃ u v, aget a q = some u ∧ aget b q = some v ∧ u.isNone = v.isNone := by
  unfold like at h
  cases g : aget a q with
  | none => rw [g] at h; cases h
  | some u =>
    rw [g] at h
    cases g2 : aget b q with
    | none => rw [g2] at h; cases h
    | some v =>
      rw [g2] at h
      exact ⟨u, v, rfl, rfl, by simpa using h⟩
theorem btw_len {a b : Mdl} (ha : Ok a) (hb : Ok b) : ∀ (n : Nat) (p : Pth), (between a b n p).length ≤ Str' a one p + Str' b wtE p
  | 0, p => Nat.zero_le _
  | n + 1, p => by
    unfold between
    rw [List.length_append]
    have h1 := outs_len (a := a) (b := b) (p := p)
    have h2 : ((within b p).flatMap fun x => btwAt a b (between a b n) (p ++ [x])).length ≤ ((within b p).map fun x => Str' a one (p ++ [x]) + Pre b wtE (p ++ [x])).sum := flatMap_len fun x hx => by
      have hk : p ++ [x] ∈ b.map (·.1) := mem_within.mp hx
      unfold btwAt
      split
      · have := made_len hb 12 (p ++ [x]) hk
        omega
      · obtain ⟨v, hv⟩ := aget_some_of hk
        have hown := own_pre (f := wtE) (aget_mem hv)
        split
        · rename_i ol nl g1 g2
          have := leaves_len (old := ol) (new := nl) (p := p ++ [x])
          rw [hv] at g2
          cases g2
          have : wtE (p ++ [x], some nl) = 1 + nl.length := rfl
          omega
        · have := btw_len ha hb n (p ++ [x])
          omega
    rw [sum_add] at h2
    have h3 := part2 (m := a) (f := one) (p := p) (within_nd hb p) (fun _ => Nat.le_refl _)
    have h4 := part (m := b) (f := wtE) (p := p) (within_nd hb p)
    omega
theorem btw_good {a b : Mdl} (ha : Ok a) (hb : Ok b) : ∀ (n : Nat) (p : Pth), ∀ d ∈ between a b n p, GoodD d
  | 0, p, d, hd => by cases hd
  | n + 1, p, d, hd => by
    unfold between at hd
    rcases List.mem_append.mp hd with hd | hd
    · unfold outs at hd
      obtain ⟨x, hx, rfl⟩ := List.mem_map.mp hd
      exact key_ne ha (mem_within.mp (List.mem_filter.mp hx).1)
    · obtain ⟨x, hx, hd⟩ := List.mem_flatMap.mp hd
      have hk : p ++ [x] ∈ b.map (·.1) := mem_within.mp hx
      unfold btwAt at hd
      split at hd
      · exact made_good hb 12 _ hk d hd
      · split at hd
        · rename_i ol nl g1 g2
          exact leaves_good (key_ne hb hk) (ha.leaf _ (aget_mem g1) ol rfl).1 (hb.leaf _ (aget_mem g2) nl rfl) d hd
        · exact btw_good ha hb n _ d hd
theorem one_len (m : Mdl) : (m.map one).sum = m.length := by
  induction m with
  | nil => rfl
  | cons e m ih => rw [List.map_cons, List.sum_cons, ih, List.length_cons]; unfold one; omega
theorem btw_small {a b : Mdl} (ha : Ok a) (hb : Ok b) (n : Nat) (p : Pth) : (between a b n p).length ≤ S a + S b := by
  have h1 := btw_len ha hb n p
  have h2 := str_all (m := a) (f := one) (p := p)
  have h3 := str_all (m := b) (f := wtE) (p := p)
  rw [one_len] at h2
  rw [S_wt] at h3
  have := S_len a
  omega
theorem btw_ok {a b : Mdl} (ha : Ok a) (hb : Ok b) (sa : S a ≤ 900) (sb : S b ≤ 900) : ∀ (n : Nat) (p : Pth), p.length ≤ 6 → (∀ x ∈ p, Good x) → 7 ≤ n + p.length → F__law_between n [eM a, eM b, eP p] = .ok (.fl ((between a b n p).map eD)) []
  | 0, p, hp, _, hn => by omega
  | n + 1, p, hp, hg, hn => by
    have hsm := btw_small ha hb (n + 1) p
    have hal : between a b (n + 1) p = outs a b p ++ (within b p).flatMap fun x => btwAt a b (between a b n) (p ++ [x]) := rfl
    rw [hal] at hsm
    have hwa := within_ok ha hg
    have hwb := within_ok hb hg
    -- out
    obtain ⟨s1, e1, as, bs, h1, h2, rfl⟩ := forF_on (g := (gName 4 : GR Unit)) (tb := (fIfS (liftP (fNot (fTest (fCall0 F__law_like (fCons (fVar 0) (fCons (fVar 1) (fCons (fOp addO (fVar 2) (fTup (fCons (fVar 4) fNil))) fNil))))))) (fExpr (eMut 3 appendM (eCons (liftP (fTup (fCons (fC (.str "out")) (fCons (fOp addO (fVar 2) (fTup (fCons (fVar 4) fNil))) fNil)))) eNil))) fNext)) (ws := [4])
      (fun xs s => ∃ as bs : List Str, within a p = as ++ bs ∧ xs = bs.map D.str ∧ s = ⟨[some (eM a), some (eM b), some (eP p), some (.fl (((as.filter fun x => !like a b (p ++ [x])).map fun x => Deed.out (p ++ [x])).map eD)), none, none], ()⟩) (fun x xs s ⟨as, bs, h1, h2, h3⟩ => by
        subst h3
        cases bs with
        | nil => cases h2
        | cons y bs =>
          obtain ⟨rfl, rfl⟩ := List.cons.inj h2
          have hk : p ++ [y] ∈ a.map (·.1) := mem_within.mp (by rw [h1]; simp)
          have hlk := like_ok (a := a) (b := b) (key_ne ha hk)
          have hna := add_name (x := y) hp
          obtain ⟨ds, hds⟩ : ∃ ds : List Deed, ds = (as.filter fun x => !like a b (p ++ [x])).map fun x => Deed.out (p ++ [x]) := ⟨_, rfl⟩
          have hdl : ds.length ≤ 4000 := by
            have l1 : ds.length ≤ as.length := by rw [hds, List.length_map]; exact List.length_filter_le _ _
            have l2 : as.length ≤ (within a p).length := by rw [h1, List.length_append]; omega
            have l3 : (within a p).length = (wnames a p).length := by unfold within; exact (byCode_perm _).length_eq
            have l4 : (wnames a p).length ≤ a.length := by unfold wnames; rw [List.length_map]; exact List.length_filter_le _ _
            have := ha.small
            omega
          rw [← hds]
          refine ⟨⟨[some (eM a), some (eM b), some (eP p), some (.fl (ds.map eD)), some (.str y), none], ()⟩, rfl, .nx, ⟨[some (eM a), some (eM b), some (eP p), some (.fl ((((as ++ [y]).filter fun x => !like a b (p ++ [x])).map fun x => Deed.out (p ++ [x])).map eD)), some (.str y), none], ()⟩, ?_, .inl rfl, as ++ [y], bs, by rw [h1]; simp, rfl, rfl⟩
          rw [List.filter_append, List.map_append, ← hds]
          cases c : like a b (p ++ [y]) with
          | true =>
            rw [c] at hlk
            rw [List.filter_cons_of_neg (by simp [c]), List.filter_nil, List.map_nil, List.append_nil]
            simp [hna, hlk]
          | false =>
            rw [c] at hlk
            rw [List.filter_cons_of_pos (by simp [c]), List.filter_nil, List.map_cons, List.map_nil]
            have happ := app_eD (es := ds) (d := Deed.out (p ++ [y])) hdl
            have ev : eCons (liftP (fTup (fCons (fC (.str "out")) (fCons (fOp addO (fVar 2) (fTup (fCons (fVar 4) fNil))) fNil)))) eNil (⟨[some (eM a), some (eM b), some (eP p), some (.fl (ds.map eD)), some (.str y), none], ()⟩ : St Unit) = .ok [eD (Deed.out (p ++ [y]))] ⟨[some (eM a), some (eM b), some (eP p), some (.fl (ds.map eD)), some (.str y), none], ()⟩ := by simp [hna, eD]
            have cc : liftP (fNot (fTest (fCall0 F__law_like (fCons (fVar 0) (fCons (fVar 1) (fCons (fOp addO (fVar 2) (fTup (fCons (fVar 4) fNil))) fNil)))))) (⟨[some (eM a), some (eM b), some (eP p), some (.fl (ds.map eD)), some (.str y), none], ()⟩ : St Unit) = .ok true ⟨[some (eM a), some (eM b), some (eP p), some (.fl (ds.map eD)), some (.str y), none], ()⟩ := by simp [hna, hlk]
            rw [a_fIfS, cc, eb_ok, if_pos rfl, a_fExpr, a_eMut, ev, eb_ok, a_mutS]
            show ((match appendM (.fl (ds.map eD)) [eD (Deed.out (p ++ [y]))] with
              | some (r, d') => Eff.ok r (⟨[some (eM a), some (eM b), some (eP p), some d', some (.str y), none], ()⟩ : St Unit)
              | none => .stuck).bind _) = _
            rw [happ]
            rfl) ((within a p).map D.str) ⟨[some (eM a), some (eM b), some (eP p), some (.fl (([] : List Deed).map eD)), none, none], ()⟩ ⟨[], within a p, rfl, rfl, rfl⟩
    have hb0 : bs = [] := by
      cases bs with
      | nil => rfl
      | cons y bs => cases h2
    subst hb0
    rw [List.append_nil] at h1
    subst h1
    have ho : ((within a p).filter fun x => !like a b (p ++ [x])).map (fun x => Deed.out (p ++ [x])) = outs a b p := rfl
    rw [ho] at e1
    -- new
    obtain ⟨s2, e2, as2, bs2, h12, h22, rfl⟩ := forF_on (g := (gName 4 : GR Unit)) (tb := (fSeq (fSet 5 (liftP (fOp addO (fVar 2) (fTup (fCons (fVar 4) fNil))))) (fIfS (liftP (fNot (fTest (fCall0 F__law_like (fCons (fVar 0) (fCons (fVar 1) (fCons (fVar 5) fNil))))))) (fSet 3 (liftP (fOp addL (fVar 3) (fCall0 (F__law_all_made 12) (fCons (fVar 1) (fCons (fVar 5) fNil)))))) (fIfS (liftP (fTest (fOp isNO (fOp ixO (fVar 1) (fVar 5)) (fC .non)))) (fSet 3 (liftP (fOp addL (fVar 3) (fCall0 (F__law_between n) (fCons (fVar 0) (fCons (fVar 1) (fCons (fVar 5) fNil))))))) (fSet 3 (liftP (fOp addL (fVar 3) (fCall0 F__law_on_leaves (fCons (fOp ixO (fVar 0) (fVar 5)) (fCons (fOp ixO (fVar 1) (fVar 5)) (fCons (fVar 5) fNil))))))))))) (ws := [4, 5])
      (fun xs s => ∃ as bs : List Str, within b p = as ++ bs ∧ xs = bs.map D.str ∧ s = ⟨[some (eM a), some (eM b), some (eP p), some (.fl ((outs a b p ++ as.flatMap fun x => btwAt a b (between a b n) (p ++ [x])).map eD)), none, none], ()⟩) (fun x xs s ⟨as, bs, h1, h2, h3⟩ => by
        subst h3
        cases bs with
        | nil => cases h2
        | cons y bs =>
          obtain ⟨rfl, rfl⟩ := List.cons.inj h2
          have hk : p ++ [y] ∈ b.map (·.1) := mem_within.mp (by rw [h1]; simp)
          have hgk := key_ne hb hk
          have hlk := like_ok (a := a) (b := b) hgk
          have hna := add_name (x := y) hp
          obtain ⟨ds, hds⟩ : ∃ ds : List Deed, ds = outs a b p ++ as.flatMap fun x => btwAt a b (between a b n) (p ++ [x]) := ⟨_, rfl⟩
          obtain ⟨es, hes⟩ : ∃ es : List Deed, es = btwAt a b (between a b n) (p ++ [y]) := ⟨_, rfl⟩
          have hbound : ds.length + es.length ≤ 10000 := by
            have : (within b p).flatMap (fun x => btwAt a b (between a b n) (p ++ [x])) = (as.flatMap fun x => btwAt a b (between a b n) (p ++ [x])) ++ (es ++ bs.flatMap fun x => btwAt a b (between a b n) (p ++ [x])) := by rw [h1, List.flatMap_append, List.flatMap_cons, hes]
            rw [this, List.length_append, List.length_append, List.length_append] at hsm
            rw [hds, List.length_append]
            omega
          have hadd := addL_eDs hbound
          have q1 : fSet 5 (liftP (fOp addO (fVar 2) (fTup (fCons (fVar 4) fNil)))) (⟨[some (eM a), some (eM b), some (eP p), some (.fl (ds.map eD)), some (.str y), none], ()⟩ : St Unit) = .ok .nx ⟨[some (eM a), some (eM b), some (eP p), some (.fl (ds.map eD)), some (.str y), some (eP (p ++ [y]))], ()⟩ := by simp [hna]
          have fin : ∀ t : PR Unit, t ⟨[some (eM a), some (eM b), some (eP p), some (.fl (ds.map eD)), some (.str y), some (eP (p ++ [y]))], ()⟩ = .ok (.fl (es.map eD)) → fSet 3 (liftP (fOp addL (fVar 3) t)) (⟨[some (eM a), some (eM b), some (eP p), some (.fl (ds.map eD)), some (.str y), some (eP (p ++ [y]))], ()⟩ : St Unit) = .ok .nx ⟨[some (eM a), some (eM b), some (eP p), some (.fl ((ds ++ es).map eD)), some (.str y), some (eP (p ++ [y]))], ()⟩ := fun t ht => by
            have e3 : fVar 3 (⟨[some (eM a), some (eM b), some (eP p), some (.fl (ds.map eD)), some (.str y), some (eP (p ++ [y]))], ()⟩ : St Unit) = .ok (.fl (ds.map eD)) := rfl
            rw [a_fSet, a_liftP, a_fOp, e3, ob_ok, ht, ob_ok, hadd]
            rfl
          rw [← hds]
          refine ⟨⟨[some (eM a), some (eM b), some (eP p), some (.fl (ds.map eD)), some (.str y), none], ()⟩, rfl, .nx, ⟨[some (eM a), some (eM b), some (eP p), some (.fl ((ds ++ es).map eD)), some (.str y), some (eP (p ++ [y]))], ()⟩, ?_, .inl rfl, as ++ [y], bs, by rw [h1]; simp, rfl, ?_⟩
          · rw [seq_nx q1, a_fIfS]
            cases c : like a b (p ++ [y]) with
            | false =>
              rw [c] at hlk
              have cc : liftP (fNot (fTest (fCall0 F__law_like (fCons (fVar 0) (fCons (fVar 1) (fCons (fVar 5) fNil)))))) (⟨[some (eM a), some (eM b), some (eP p), some (.fl (ds.map eD)), some (.str y), some (eP (p ++ [y]))], ()⟩ : St Unit) = .ok true ⟨[some (eM a), some (eM b), some (eP p), some (.fl (ds.map eD)), some (.str y), some (eP (p ++ [y]))], ()⟩ := by simp [hlk]
              rw [cc, eb_ok, if_pos rfl]
              refine fin _ ?_
              have hm := made_ok hb sb 12 (p ++ [y]) hk (by omega)
              have : es = allMade b 12 (p ++ [y]) := by rw [hes]; unfold btwAt; rw [if_pos c]
              rw [this]
              simp [hm]
            | true =>
              rw [c] at hlk
              have cc : liftP (fNot (fTest (fCall0 F__law_like (fCons (fVar 0) (fCons (fVar 1) (fCons (fVar 5) fNil)))))) (⟨[some (eM a), some (eM b), some (eP p), some (.fl (ds.map eD)), some (.str y), some (eP (p ++ [y]))], ()⟩ : St Unit) = .ok false ⟨[some (eM a), some (eM b), some (eP p), some (.fl (ds.map eD)), some (.str y), some (eP (p ++ [y]))], ()⟩ := by simp [hlk]
              rw [cc, eb_ok, if_neg (by simp), a_fIfS]
              obtain ⟨u, v, ga, gb, huv⟩ := like_both c
              have ia := ix_eM hgk.1 ga
              have ib := ix_eM hgk.1 gb
              cases v with
              | none =>
                have cc : liftP (fTest (fOp isNO (fOp ixO (fVar 1) (fVar 5)) (fC .non))) (⟨[some (eM a), some (eM b), some (eP p), some (.fl (ds.map eD)), some (.str y), some (eP (p ++ [y]))], ()⟩ : St Unit) = .ok true ⟨[some (eM a), some (eM b), some (eP p), some (.fl (ds.map eD)), some (.str y), some (eP (p ++ [y]))], ()⟩ := by simp [ib]
                rw [cc, eb_ok, if_pos rfl]
                refine fin _ ?_
                have ih := btw_ok ha hb sa sb n (p ++ [y]) hgk.2.1 hgk.2.2 (by rw [List.length_append, List.length_singleton]; omega)
                have : es = between a b n (p ++ [y]) := by
                  rw [hes]
                  unfold btwAt
                  rw [if_neg (by rw [c]; simp), gb]
                  cases u with
                  | none => rw [ga]
                  | some l => cases huv
                rw [this]
                simp [ih]
              | some nl =>
                cases u with
                | none => cases huv
                | some ol =>
                  have cc : liftP (fTest (fOp isNO (fOp ixO (fVar 1) (fVar 5)) (fC .non))) (⟨[some (eM a), some (eM b), some (eP p), some (.fl (ds.map eD)), some (.str y), some (eP (p ++ [y]))], ()⟩ : St Unit) = .ok false ⟨[some (eM a), some (eM b), some (eP p), some (.fl (ds.map eD)), some (.str y), some (eP (p ++ [y]))], ()⟩ := by simp [ib]
                  rw [cc, eb_ok, if_neg (by simp)]
                  refine fin _ ?_
                  have hl := leaves_ok (old := ol) (new := nl) (p := p ++ [y]) (ha.leaf _ (aget_mem ga) ol rfl).1 (hb.leaf _ (aget_mem gb) nl rfl).1
                  have : es = onLeaves ol nl (p ++ [y]) := by
                    rw [hes]
                    unfold btwAt
                    rw [if_neg (by rw [c]; simp), ga, gb]
                  rw [this]
                  simp [ia, ib, hl]
          · show (⟨[some (eM a), some (eM b), some (eP p), some _, none, none], ()⟩ : St Unit) = _
            rw [hds, hes, List.flatMap_append]
            simp) ((within b p).map D.str) ⟨[some (eM a), some (eM b), some (eP p), some (.fl ((outs a b p ++ []).map eD)), none, none], ()⟩ ⟨[], within b p, rfl, rfl, rfl⟩
    have hb2 : bs2 = [] := by
      cases bs2 with
      | nil => rfl
      | cons y bs => cases h22
    subst hb2
    rw [List.append_nil] at h12
    subst h12
    rw [List.append_nil] at e2
    rw [hal]
    have body : r__law_between (F__law_between n) (startS 6 [eM a, eM b, eP p]) = .ok (.rt (.fl ((outs a b p ++ (within b p).flatMap fun x => btwAt a b (between a b n) (p ++ [x])).map eD))) ⟨[some (eM a), some (eM b), some (eP p), some (.fl ((outs a b p ++ (within b p).flatMap fun x => btwAt a b (between a b n) (p ++ [x])).map eD)), none, none], ()⟩ := by
      unfold r__law_between
      have q1 : fSet 3 (liftP (fLst fNil)) (startS 6 [eM a, eM b, eP p]) = .ok .nx (⟨[some (eM a), some (eM b), some (eP p), some (.fl (([] : List Deed).map eD)), none, none], ()⟩ : St Unit) := rfl
      rw [seq_nx q1]
      have e0 : eSeq (liftP (fCall0 F__law_within (fCons (fVar 0) (fCons (fVar 2) fNil)))) (⟨[some (eM a), some (eM b), some (eP p), some (.fl (([] : List Deed).map eD)), none, none], ()⟩ : St Unit) = .ok ((within a p).map D.str) ⟨[some (eM a), some (eM b), some (eP p), some (.fl (([] : List Deed).map eD)), none, none], ()⟩ := by simp [hwa]
      rw [seq_nx (by rw [a_fFor, e0, eb_ok]; exact e1)]
      have e00 : eSeq (liftP (fCall0 F__law_within (fCons (fVar 1) (fCons (fVar 2) fNil)))) (⟨[some (eM a), some (eM b), some (eP p), some (.fl ((outs a b p).map eD)), none, none], ()⟩ : St Unit) = .ok ((within b p).map D.str) ⟨[some (eM a), some (eM b), some (eP p), some (.fl ((outs a b p).map eD)), none, none], ()⟩ := by simp [hwb]
      rw [seq_nx (by rw [a_fFor, e00, eb_ok]; exact e2)]
      rfl
    show (match r__law_between (F__law_between n) (startS 6 [eM a, eM b, eP p]) with
      | .ok (.rt d) s => Rs.ok d (outsS [.own .p, .own .p, .own .p] s.s)
      | .ok .nx s => if Tag.beq .p .p = true then Rs.ok .non (outsS [.own .p, .own .p, .own .p] s.s) else .stuck
      | .ok _ _ => .stuck
      | .exc c s => .exc c (outsS [.own .p, .own .p, .own .p] s.s)
      | .stuck => .stuck) = _
    rw [body]
    rfl
end SH

namespace SH
open PySem FL L2
/-! ### texts -/
def numT (n : Int) : Str := Str.ofString (toString n)
def numS (n : Int) : Str := Str.empty ++ (" " : Str) ++ numT n
def leafT (l : Lf) : Str := Txt.join "" ((" leaf" : Str) :: l.map numS)
def leavesT (ls : List Lf) : Str := Txt.join "" (ls.map leafT)
def pathT (p : Pth) : Str := Txt.join "/" p
theorem num_len : ∀ n : Fin 256, (Str.ofString (toString (n.val : Int))).length ≤ 4 := by decide +kernel
theorem numT_len {n : Int} (h : 0 ≤ n ∧ n ≤ 255) : (numT n).length ≤ 4 := by
  have := num_len ⟨n.toNat, by omega⟩
  have e : ((⟨n.toNat, by omega⟩ : Fin 256).val : Int) = n := by show ((n.toNat : Nat) : Int) = n; omega
  rw [e] at this
  exact this
theorem numS_len {n : Int} (h : 0 ≤ n ∧ n ≤ 255) : (numS n).length ≤ 5 := by
  unfold numS
  rw [Str.length_append, Str.length_append]
  have := numT_len h
  have e1 : Str.empty.length = 0 := rfl
  have e2 : (" " : Str).length = 1 := by decide
  omega
theorem join_len (sep : Str) (ts : List Str) : (Txt.join sep ts).length ≤ (ts.map (·.length)).sum + ts.length * sep.length := by
  show (Builtin.Str.glued sep ts).length ≤ _
  rw [StrLaws.glued_eq_join]
  exact StrLaws.join_length_le sep ts
theorem sum_bound {α : Type} {f : α → Nat} {k : Nat} : ∀ {xs : List α}, (∀ x ∈ xs, f x ≤ k) → (xs.map f).sum ≤ xs.length * k
  | [], _ => by simp
  | x :: xs, h => by
    have h1 := h x List.mem_cons_self
    have ih := sum_bound (f := f) fun y hy => h y (List.mem_cons_of_mem _ hy)
    rw [List.map_cons, List.sum_cons, List.length_cons, Nat.succ_mul]
    omega
theorem leafT_sum {l : Lf} (h : GoodL l) : (((" leaf" : Str) :: l.map numS).map (·.length)).sum ≤ 45 := by
  rw [List.map_cons, List.sum_cons, List.map_map]
  have h1 := sum_bound (f := (fun x : Str => x.length) ∘ numS) (k := 5) (xs := l) (fun n hn => numS_len (h.2 n hn))
  have h2 : (" leaf" : Str).length = 5 := by decide
  have := h.1
  have : l.length * 5 ≤ 40 := by omega
  omega
theorem empty_len : ("" : Str).length = 0 := by decide
theorem leafT_len {l : Lf} (h : GoodL l) : (leafT l).length ≤ 45 := by
  have := join_len "" ((" leaf" : Str) :: l.map numS)
  have h2 := leafT_sum h
  rw [empty_len, Nat.mul_zero] at this
  unfold leafT
  omega
theorem leavesT_sum {ls : List Lf} (h : ls.length ≤ 64 ∧ ∀ l ∈ ls, GoodL l) : ((ls.map leafT).map (·.length)).sum ≤ 2880 := by
  rw [List.map_map]
  have := sum_bound (f := (fun x : Str => x.length) ∘ leafT) (k := 45) (xs := ls) (fun l hl => leafT_len (h.2 l hl))
  have : ls.length * 45 ≤ 64 * 45 := Nat.mul_le_mul_right _ h.1
  omega
theorem leavesT_len {ls : List Lf} (h : ls.length ≤ 64 ∧ ∀ l ∈ ls, GoodL l) : (leavesT ls).length ≤ 2880 := by
  have := join_len "" (ls.map leafT)
  have h2 := leavesT_sum h
  rw [empty_len, Nat.mul_zero] at this
  unfold leavesT
  omega
theorem pathT_sum {p : Pth} (h : GoodP p) : (p.map (·.length)).sum + p.length * ("/" : Str).length ≤ 54 := by
  have h1 := sum_bound (f := fun x : Str => x.length) (k := 8) (xs := p) (fun x hx => (h.2 x hx).2.1)
  have h2 : ("/" : Str).length = 1 := by decide
  have := h.1
  rw [h2]
  omega
theorem pathT_len {p : Pth} (h : GoodP p) : (pathT p).length ≤ 54 := Nat.le_trans (join_len "/" p) (pathT_sum h)
theorem add_str {a b : Str} (h : a.length + b.length ≤ 16777216) : addO (.str a) (.str b) = some (.str (a ++ b)) := by
  show (if a.length + b.length ≤ sizeLine then some (D.str (a ++ b)) else none) = _
  rw [if_pos (by rw [PySem.sizeLine_eq]; exact h)]
theorem join_fl {sep : Str} {ts : List Str} (h : (ts.map (·.length)).sum + ts.length * sep.length ≤ 16777216) : joinM (.str sep) [.fl (ts.map D.str)] = some (.str (Txt.join sep ts)) := by
  show (asStrs (ts.map D.str)).bind _ = _
  rw [asStrs_m, Option.bind_some, if_pos h]
theorem join_tup {sep : Str} {ts : List Str} (h : (ts.map (·.length)).sum + ts.length * sep.length ≤ 16777216) : joinM (.str sep) [.tup (ts.map D.str)] = some (.str (Txt.join sep ts)) := by
  show (asStrs (ts.map D.str)).bind _ = _
  rw [asStrs_m, Option.bind_some, if_pos h]
theorem fmt_num {n : Int} (h : 0 ≤ n ∧ n ≤ 255) : fmtD (.int n) = some (.str (numT n)) := by
  show (if n.natAbs.log2 < 1920 then some (D.str (toString n)) else none) = _
  have : n.natAbs.log2 < 1920 := by
    have h1 : n.natAbs.log2 ≤ n.natAbs := Nat.log2_le_self _
    omega
  rw [if_pos this]
  rfl
def lineAt (m : Mdl) (rec : Pth → Str) (t : Str) (q : Pth) : Str := match aget m q with
  | some (some ls) => t ++ ("file " : Str) ++ pathT q ++ leavesT ls ++ ("\n" : Str)
  | _ => t ++ ("folder " : Str) ++ pathT q ++ ("\n" : Str) ++ rec q
def lines (m : Mdl) : Nat → Pth → Str
  | 0, _ => ""
  | n + 1, p => (within m p).foldl (fun t x => lineAt m (lines m n) t (p ++ [x])) ""
theorem fold_len {f : Str → Str → Str} {g : Str → Nat} : ∀ {xs : List Str} {t : Str}, (∀ t, ∀ x ∈ xs, (f t x).length ≤ t.length + g x) → (xs.foldl f t).length ≤ t.length + (xs.map g).sum
  | [], t, _ => by simp
  | x :: xs, t, h => by
    have h1 := h t x List.mem_cons_self
    have ih := fold_len (f := f) (g := g) (xs := xs) (t := f t x) fun t y hy => h t y (List.mem_cons_of_mem _ hy)
    rw [List.foldl_cons, List.map_cons, List.sum_cons]
    omega
theorem sum_mul {α : Type} {f : α → Nat} {k : Nat} : ∀ {xs : List α}, (xs.map fun x => k * f x).sum = k * (xs.map f).sum
  | [] => by simp
  | x :: xs => by rw [List.map_cons, List.sum_cons, List.map_cons, List.sum_cons, sum_mul (xs := xs), Nat.mul_add]
theorem lines_len {m : Mdl} (hm : Ok m) : ∀ (n : Nat) (p : Pth), (lines m n p).length ≤ 3000 * Str' m one p
  | 0, p => by rw [show lines m 0 p = "" from rfl, empty_len]; exact Nat.zero_le _
  | n + 1, p => by
    have h1 := fold_len (f := fun t x => lineAt m (lines m n) t (p ++ [x])) (g := fun x => 3000 * Pre m one (p ++ [x])) (xs := within m p) (t := "") (fun t x hx => by
      have hk : p ++ [x] ∈ m.map (·.1) := mem_within.mp hx
      have hg := key_ne hm hk
      obtain ⟨v, hv⟩ := aget_some_of hk
      have hown := own_pre (f := one) (aget_mem hv)
      have h1 : one (p ++ [x], v) = 1 := rfl
      have hpt := pathT_len hg.2
      unfold lineAt
      rw [hv]
      cases v with
      | some ls =>
        have hl := leavesT_len (hm.leaf _ (aget_mem hv) ls rfl)
        show (t ++ ("file " : Str) ++ pathT (p ++ [x]) ++ leavesT ls ++ ("\n" : Str)).length ≤ _
        simp only [Str.length_append]
        have e1 : ("file " : Str).length = 5 := by decide
        have e2 : ("\n" : Str).length = 1 := by decide
        omega
      | none =>
        have hl := lines_len hm n (p ++ [x])
        show (t ++ ("folder " : Str) ++ pathT (p ++ [x]) ++ ("\n" : Str) ++ lines m n (p ++ [x])).length ≤ _
        simp only [Str.length_append]
        have e1 : ("folder " : Str).length = 7 := by decide
        have e2 : ("\n" : Str).length = 1 := by decide
        omega)
    rw [sum_mul, empty_len] at h1
    have h2 := part (m := m) (f := one) (p := p) (within_nd hm p)
    show ((within m p).foldl (fun t x => lineAt m (lines m n) t (p ++ [x])) "").length ≤ _
    have h3 : 3000 * ((within m p).map fun x => Pre m one (p ++ [x])).sum ≤ 3000 * Str' m one p := Nat.mul_le_mul_left _ h2
    omega
theorem str_small {m : Mdl} (hm : Ok m) (p : Pth) : Str' m one p ≤ 1000 := by
  have := str_all (m := m) (f := one) (p := p)
  rw [one_len] at this
  have := hm.small
  omega
end SH

namespace SH
open PySem FL L2
/-- the join of what a list gives -/
theorem cm_str {sep : Str} {te : St Unit → Eff Unit (List D)} {s s1 : St Unit} {xs : List D} {d : D} (h : te s = .ok xs s1) (hj : joinM (.str sep) xs = some d) : eCM tyStr joinM (liftP (fC (.str sep))) te s = .ok d s1 := by
  rw [a_eCM]
  simp only [a_liftP, a_fC, oe_ok, eb_ok]
  rw [if_pos (show tyStr (.str sep) = true from rfl), h, eb_ok, hj]
  rfl
/-- a leaf's words -/
theorem leaf_words {s0 s1 s2 s3 s4 s5 : Option D} {l : Lf} (hl : GoodL l) : (eCM tyStr joinM (liftP (fC (.str ""))) (eCons (eOp addO (liftP (fLst (fCons (fC (.str " leaf")) fNil))) (eLc (eSeq (liftP (fVar 6))) (gName 7) eYes (eJ (jCons (liftP (fC (.str " "))) (jCons (eFmt (liftP (fVar 7))) jNil))) [7])) eNil)) (⟨[s0, s1, s2, s3, s4, s5, some (eL l), none], ()⟩ : St Unit) = .ok (.str (leafT l)) ⟨[s0, s1, s2, s3, s4, s5, some (eL l), none], ()⟩ := by
  have hc := compL_map (g := (gName 7 : GR Unit)) (tt := eYes) (te := (eJ (jCons (liftP (fC (.str " "))) (jCons (eFmt (liftP (fVar 7))) jNil)))) (vs := [7]) (s := ⟨[s0, s1, s2, s3, s4, s5, some (eL l), none], ()⟩) D.int (fun n => .str (numS n)) (xs := l) (fun n hn => by
    have hg := hl.2 n hn
    have hf := fmt_num hg
    have hlen := numT_len hg
    have e1 : Str.empty.length = 0 := rfl
    have e2 : (" " : Str).length = 1 := by decide
    have l1 : (Str.empty ++ (" " : Str)).length ≤ sizeLine := by rw [Str.length_append, e1, e2, PySem.sizeLine_eq]; omega
    have l2 : (Str.empty ++ (" " : Str) ++ numT n).length ≤ sizeLine := by rw [Str.length_append, Str.length_append, e1, e2, PySem.sizeLine_eq]; omega
    refine ⟨⟨[s0, s1, s2, s3, s4, s5, some (eL l), some (.int n)], ()⟩, rfl, rfl, ?_, rfl⟩
    rw [a_eJ, a_jCons]
    show ((if (Str.empty ++ (" " : Str)).length ≤ sizeLine then (jCons (eFmt (liftP (fVar 7))) jNil) (Str.empty ++ (" " : Str)) (⟨[s0, s1, s2, s3, s4, s5, some (eL l), some (.int n)], ()⟩ : St Unit) else .stuck).bind _) = _
    rw [if_pos l1, a_jCons]
    have ef : eFmt (liftP (fVar 7)) (⟨[s0, s1, s2, s3, s4, s5, some (eL l), some (.int n)], ()⟩ : St Unit) = .ok (.str (numT n)) ⟨[s0, s1, s2, s3, s4, s5, some (eL l), some (.int n)], ()⟩ := by
      rw [a_eFmt]
      show ((Out.of (fmtD (.int n))).eff _) = _
      rw [hf]
      rfl
    rw [ef, eb_ok]
    show ((if (Str.empty ++ (" " : Str) ++ numT n).length ≤ sizeLine then jNil (Str.empty ++ (" " : Str) ++ numT n) (⟨[s0, s1, s2, s3, s4, s5, some (eL l), some (.int n)], ()⟩ : St Unit) else .stuck).bind _) = _
    rw [if_pos l2]
    rfl)
  have h8 := hl.1
  have hls : lstO (l.map fun n => D.str (numS n)) = .ok (.fl _) := lstO_ok (by rw [List.length_map]; omega)
  have e0 : liftP (fLst (fCons (fC (.str " leaf")) fNil)) (⟨[s0, s1, s2, s3, s4, s5, some (eL l), none], ()⟩ : St Unit) = .ok (.fl [.str " leaf"]) ⟨[s0, s1, s2, s3, s4, s5, some (eL l), none], ()⟩ := rfl
  have e1 : eSeq (liftP (fVar 6)) (⟨[s0, s1, s2, s3, s4, s5, some (eL l), none], ()⟩ : St Unit) = .ok (l.map D.int) ⟨[s0, s1, s2, s3, s4, s5, some (eL l), none], ()⟩ := rfl
  have hadd : addO (.fl [.str " leaf"]) (.fl (l.map fun n => D.str (numS n))) = some (.fl (((" leaf" : Str) :: l.map numS).map D.str)) := by
    show (if 1 + (l.map fun n => D.str (numS n)).length ≤ sizeLine then some (D.fl ([.str " leaf"] ++ l.map fun n => D.str (numS n))) else none) = _
    rw [if_pos (by rw [List.length_map, PySem.sizeLine_eq]; omega), List.map_cons, List.map_map]
    rfl
  have hj := join_fl (sep := "") (ts := (" leaf" : Str) :: l.map numS) (by have := leafT_sum hl; rw [empty_len]; omega)
  have ec : eCons (eOp addO (liftP (fLst (fCons (fC (.str " leaf")) fNil))) (eLc (eSeq (liftP (fVar 6))) (gName 7) eYes (eJ (jCons (liftP (fC (.str " "))) (jCons (eFmt (liftP (fVar 7))) jNil))) [7])) eNil (⟨[s0, s1, s2, s3, s4, s5, some (eL l), none], ()⟩ : St Unit) = .ok [.fl (((" leaf" : Str) :: l.map numS).map D.str)] ⟨[s0, s1, s2, s3, s4, s5, some (eL l), none], ()⟩ := by
    rw [a_eCons, a_eOp, e0, eb_ok, a_eLc, e1, eb_ok, hc, eb_ok, hls, oe_ok, eb_ok, hadd]
    rfl
  exact cm_str ec hj
/-- a path's text -/
theorem path_words {s0 s1 s2 s3 s5 s6 s7 : Option D} {q : Pth} (hq : GoodP q) : (eCM tyStr joinM (liftP (fC (.str "/"))) (eCons (liftP (fVar 4)) eNil)) (⟨[s0, s1, s2, s3, some (eP q), s5, s6, s7], ()⟩ : St Unit) = .ok (.str (pathT q)) ⟨[s0, s1, s2, s3, some (eP q), s5, s6, s7], ()⟩ := by
  have hj := join_tup (sep := "/") (ts := q) (by have := pathT_sum hq; omega)
  have ec : eCons (liftP (fVar 4)) eNil (⟨[s0, s1, s2, s3, some (eP q), s5, s6, s7], ()⟩ : St Unit) = .ok [.tup (q.map D.str)] ⟨[s0, s1, s2, s3, some (eP q), s5, s6, s7], ()⟩ := rfl
  exact cm_str ec hj
theorem lines_ok {m : Mdl} (hm : Ok m) : ∀ (n : Nat) (p : Pth), p.length ≤ 6 → (∀ x ∈ p, Good x) → 7 ≤ n + p.length → F__law_lines n [eM m, eP p] = .ok (.str (lines m n p)) []
  | 0, p, hp, _, hn => by omega
  | n + 1, p, hp, hg, hn => by
    have hw := within_ok hm hg
    obtain ⟨s', e, as, bs, h1, h2, rfl⟩ := forF_on (g := (gName 3 : GR Unit)) (tb := (fSeq (fSet 4 (liftP (fOp addO (fVar 1) (fTup (fCons (fVar 3) fNil))))) (fIfS (liftP (fTest (fOp isNO (fOp ixO (fVar 0) (fVar 4)) (fC .non)))) (fSet 2 (eOp addO (eOp addO (eOp addO (liftP (fOp addO (fVar 2) (fC (.str "folder ")))) (eCM tyStr joinM (liftP (fC (.str "/"))) (eCons (liftP (fVar 4)) eNil))) (liftP (fC (.str "\n")))) (liftP (fCall0 (F__law_lines n) (fCons (fVar 0) (fCons (fVar 4) fNil)))))) (fSeq (fSet 5 (eLc (eSeq (liftP (fOp ixO (fVar 0) (fVar 4)))) (gName 6) eYes (eCM tyStr joinM (liftP (fC (.str ""))) (eCons (eOp addO (liftP (fLst (fCons (fC (.str " leaf")) fNil))) (eLc (eSeq (liftP (fVar 6))) (gName 7) eYes (eJ (jCons (liftP (fC (.str " "))) (jCons (eFmt (liftP (fVar 7))) jNil))) [7])) eNil)) [6])) (fSet 2 (eOp addO (eOp addO (eOp addO (liftP (fOp addO (fVar 2) (fC (.str "file ")))) (eCM tyStr joinM (liftP (fC (.str "/"))) (eCons (liftP (fVar 4)) eNil))) (eCM tyStr joinM (liftP (fC (.str ""))) (eCons (liftP (fVar 5)) eNil))) (liftP (fC (.str "\n"))))))))) (ws := [3, 4, 5])
      (fun xs s => ∃ as bs : List Str, within m p = as ++ bs ∧ xs = bs.map D.str ∧ s = ⟨[some (eM m), some (eP p), some (.str (as.foldl (fun t x => lineAt m (lines m n) t (p ++ [x])) "")), none, none, none, none, none], ()⟩) (fun x xs s ⟨as, bs, h1, h2, h3⟩ => by
        subst h3
        cases bs with
        | nil => cases h2
        | cons y bs =>
          obtain ⟨rfl, rfl⟩ := List.cons.inj h2
          have hk : p ++ [y] ∈ m.map (·.1) := mem_within.mp (by rw [h1]; simp)
          have hgk := key_ne hm hk
          obtain ⟨v, hv⟩ := aget_some_of hk
          have hix := ix_eM hgk.1 hv
          have hna := add_name (x := y) hp
          have hpt := pathT_len hgk.2
          -- how long the text is by now
          have hbig : (as.foldl (fun t x => lineAt m (lines m n) t (p ++ [x])) "").length ≤ 3000000 := by
            have h1' := lines_len hm (n + 1) p
            have h2' := str_small hm p
            have mono : ∀ (zs : List Str) (t : Str), t.length ≤ (zs.foldl (fun t x => lineAt m (lines m n) t (p ++ [x])) t).length := fun zs => by
              induction zs with
              | nil => exact fun t => Nat.le_refl _
              | cons z zs ih =>
                intro t
                refine Nat.le_trans ?_ (ih _)
                show t.length ≤ (lineAt m (lines m n) t (p ++ [z])).length
                unfold lineAt
                split <;> (simp only [Str.length_append]; omega)
            have h3' := mono (y :: bs) (as.foldl (fun t x => lineAt m (lines m n) t (p ++ [x])) "")
            rw [← List.foldl_append, ← h1] at h3'
            have h4' : (lines m (n + 1) p) = (within m p).foldl (fun t x => lineAt m (lines m n) t (p ++ [x])) "" := rfl
            rw [h4'] at h1'
            omega
          obtain ⟨t, ht⟩ : ∃ t : Str, t = as.foldl (fun t x => lineAt m (lines m n) t (p ++ [x])) "" := ⟨_, rfl⟩
          rw [← ht] at hbig
          rw [← ht]
          have q1 : fSet 4 (liftP (fOp addO (fVar 1) (fTup (fCons (fVar 3) fNil)))) (⟨[some (eM m), some (eP p), some (.str t), some (.str y), none, none, none, none], ()⟩ : St Unit) = .ok .nx ⟨[some (eM m), some (eP p), some (.str t), some (.str y), some (eP (p ++ [y])), none, none, none], ()⟩ := by simp [hna]
          have c0 : (" " : Str).length = 1 := by decide
          have c1 : ("folder " : Str).length = 7 := by decide
          have c2 : ("\n" : Str).length = 1 := by decide
          have c3 : ("file " : Str).length = 5 := by decide
          have hstep : (as ++ [y]).foldl (fun t x => lineAt m (lines m n) t (p ++ [x])) "" = lineAt m (lines m n) t (p ++ [y]) := by rw [List.foldl_append, ← ht]; rfl
          cases v with
          | none =>
            have ih := lines_ok hm n (p ++ [y]) hgk.2.1 hgk.2.2 (by rw [List.length_append, List.length_singleton]; omega)
            have hll := lines_len hm n (p ++ [y])
            have hss := str_small hm (p ++ [y])
            refine ⟨⟨[some (eM m), some (eP p), some (.str t), some (.str y), none, none, none, none], ()⟩, rfl, .nx, ⟨[some (eM m), some (eP p), some (.str (t ++ ("folder " : Str) ++ pathT (p ++ [y]) ++ ("\n" : Str) ++ lines m n (p ++ [y]))), some (.str y), some (eP (p ++ [y])), none, none, none], ()⟩, ?_, .inl rfl, as ++ [y], bs, by rw [h1]; simp, rfl, ?_⟩
            · rw [seq_nx q1, a_fIfS]
              have cc : liftP (fTest (fOp isNO (fOp ixO (fVar 0) (fVar 4)) (fC .non))) (⟨[some (eM m), some (eP p), some (.str t), some (.str y), some (eP (p ++ [y])), none, none, none], ()⟩ : St Unit) = .ok true ⟨[some (eM m), some (eP p), some (.str t), some (.str y), some (eP (p ++ [y])), none, none, none], ()⟩ := by simp [hix]
              rw [cc, eb_ok, if_pos rfl]
              have a1 := add_str (a := t) (b := "folder ") (by omega)
              have a2 := add_str (a := t ++ ("folder " : Str)) (b := pathT (p ++ [y])) (by simp only [Str.length_append]; omega)
              have a3 := add_str (a := t ++ ("folder " : Str) ++ pathT (p ++ [y])) (b := "\n") (by simp only [Str.length_append]; omega)
              have a4 := add_str (a := t ++ ("folder " : Str) ++ pathT (p ++ [y]) ++ ("\n" : Str)) (b := lines m n (p ++ [y])) (by simp only [Str.length_append]; omega)
              have e1 : liftP (fOp addO (fVar 2) (fC (.str "folder "))) (⟨[some (eM m), some (eP p), some (.str t), some (.str y), some (eP (p ++ [y])), none, none, none], ()⟩ : St Unit) = .ok (.str (t ++ ("folder " : Str))) ⟨[some (eM m), some (eP p), some (.str t), some (.str y), some (eP (p ++ [y])), none, none, none], ()⟩ := by
                show ((Out.of (addO (.str t) (.str "folder "))).eff _) = _
                rw [a1]
                rfl
              have e2 : liftP (fC (.str "\n")) (⟨[some (eM m), some (eP p), some (.str t), some (.str y), some (eP (p ++ [y])), none, none, none], ()⟩ : St Unit) = .ok (.str "\n") ⟨[some (eM m), some (eP p), some (.str t), some (.str y), some (eP (p ++ [y])), none, none, none], ()⟩ := rfl
              have e3 : liftP (fCall0 (F__law_lines n) (fCons (fVar 0) (fCons (fVar 4) fNil))) (⟨[some (eM m), some (eP p), some (.str t), some (.str y), some (eP (p ++ [y])), none, none, none], ()⟩ : St Unit) = .ok (.str (lines m n (p ++ [y]))) ⟨[some (eM m), some (eP p), some (.str t), some (.str y), some (eP (p ++ [y])), none, none, none], ()⟩ := by simp [ih]
              rw [a_fSet, a_eOp, a_eOp, a_eOp, e1, eb_ok, path_words hgk.2, eb_ok, a2, of_so, oe_ok, eb_ok, e2, eb_ok, a3, of_so, oe_ok, eb_ok, e3, eb_ok, a4]
              rfl
            · show (⟨[some (eM m), some (eP p), some _, none, none, none, none, none], ()⟩ : St Unit) = _
              rw [hstep]
              unfold lineAt
              rw [hv]
          | some ls =>
            have hls := hm.leaf _ (aget_mem hv) ls rfl
            have hlt := leavesT_len hls
            have hc := compL_map (g := (gName 6 : GR Unit)) (tt := eYes) (te := (eCM tyStr joinM (liftP (fC (.str ""))) (eCons (eOp addO (liftP (fLst (fCons (fC (.str " leaf")) fNil))) (eLc (eSeq (liftP (fVar 6))) (gName 7) eYes (eJ (jCons (liftP (fC (.str " "))) (jCons (eFmt (liftP (fVar 7))) jNil))) [7])) eNil))) (vs := [6]) (s := ⟨[some (eM m), some (eP p), some (.str t), some (.str y), some (eP (p ++ [y])), none, none, none], ()⟩) eL (fun l => .str (leafT l)) (xs := ls) (fun l hl => ⟨⟨[some (eM m), some (eP p), some (.str t), some (.str y), some (eP (p ++ [y])), none, some (eL l), none], ()⟩, rfl, rfl, leaf_words (hls.2 l hl), rfl⟩)
            have hlo : lstO (ls.map fun l => D.str (leafT l)) = .ok (.fl _) := lstO_ok (by rw [List.length_map]; have := hls.1; omega)
            have hmm : (ls.map fun l => D.str (leafT l)) = (ls.map leafT).map D.str := by rw [List.map_map]; rfl
            rw [hmm] at hc hlo
            have hj := join_fl (sep := "") (ts := ls.map leafT) (by have := leavesT_sum hls; rw [empty_len]; omega)
            refine ⟨⟨[some (eM m), some (eP p), some (.str t), some (.str y), none, none, none, none], ()⟩, rfl, .nx, ⟨[some (eM m), some (eP p), some (.str (t ++ ("file " : Str) ++ pathT (p ++ [y]) ++ leavesT ls ++ ("\n" : Str))), some (.str y), some (eP (p ++ [y])), some (.fl ((ls.map leafT).map D.str)), none, none], ()⟩, ?_, .inl rfl, as ++ [y], bs, by rw [h1]; simp, rfl, ?_⟩
            · rw [seq_nx q1, a_fIfS]
              have cc : liftP (fTest (fOp isNO (fOp ixO (fVar 0) (fVar 4)) (fC .non))) (⟨[some (eM m), some (eP p), some (.str t), some (.str y), some (eP (p ++ [y])), none, none, none], ()⟩ : St Unit) = .ok false ⟨[some (eM m), some (eP p), some (.str t), some (.str y), some (eP (p ++ [y])), none, none, none], ()⟩ := by simp [hix]
              rw [cc, eb_ok, if_neg (by simp)]
              have q2 : fSet 5 (eLc (eSeq (liftP (fOp ixO (fVar 0) (fVar 4)))) (gName 6) eYes (eCM tyStr joinM (liftP (fC (.str ""))) (eCons (eOp addO (liftP (fLst (fCons (fC (.str " leaf")) fNil))) (eLc (eSeq (liftP (fVar 6))) (gName 7) eYes (eJ (jCons (liftP (fC (.str " "))) (jCons (eFmt (liftP (fVar 7))) jNil))) [7])) eNil)) [6]) (⟨[some (eM m), some (eP p), some (.str t), some (.str y), some (eP (p ++ [y])), none, none, none], ()⟩ : St Unit) = .ok .nx ⟨[some (eM m), some (eP p), some (.str t), some (.str y), some (eP (p ++ [y])), some (.fl ((ls.map leafT).map D.str)), none, none], ()⟩ := by
                have e0 : eSeq (liftP (fOp ixO (fVar 0) (fVar 4))) (⟨[some (eM m), some (eP p), some (.str t), some (.str y), some (eP (p ++ [y])), none, none, none], ()⟩ : St Unit) = .ok (ls.map eL) ⟨[some (eM m), some (eP p), some (.str t), some (.str y), some (eP (p ++ [y])), none, none, none], ()⟩ := by
                  have : seqO (eV (some ls)) = some (ls.map eL) := rfl
                  simp [hix, this]
                rw [a_fSet, a_eLc, e0, eb_ok, hc, eb_ok, hlo]
                rfl
              rw [seq_nx q2]
              have a1 := add_str (a := t) (b := "file ") (by omega)
              have a2 := add_str (a := t ++ ("file " : Str)) (b := pathT (p ++ [y])) (by simp only [Str.length_append]; omega)
              have a3 := add_str (a := t ++ ("file " : Str) ++ pathT (p ++ [y])) (b := leavesT ls) (by simp only [Str.length_append]; omega)
              have a4 := add_str (a := t ++ ("file " : Str) ++ pathT (p ++ [y]) ++ leavesT ls) (b := "\n") (by simp only [Str.length_append]; omega)
              have e1 : liftP (fOp addO (fVar 2) (fC (.str "file "))) (⟨[some (eM m), some (eP p), some (.str t), some (.str y), some (eP (p ++ [y])), some (.fl ((ls.map leafT).map D.str)), none, none], ()⟩ : St Unit) = .ok (.str (t ++ ("file " : Str))) ⟨[some (eM m), some (eP p), some (.str t), some (.str y), some (eP (p ++ [y])), some (.fl ((ls.map leafT).map D.str)), none, none], ()⟩ := by
                show ((Out.of (addO (.str t) (.str "file "))).eff _) = _
                rw [a1]
                rfl
              have e3 : (eCM tyStr joinM (liftP (fC (.str ""))) (eCons (liftP (fVar 5)) eNil)) (⟨[some (eM m), some (eP p), some (.str t), some (.str y), some (eP (p ++ [y])), some (.fl ((ls.map leafT).map D.str)), none, none], ()⟩ : St Unit) = .ok (.str (leavesT ls)) ⟨[some (eM m), some (eP p), some (.str t), some (.str y), some (eP (p ++ [y])), some (.fl ((ls.map leafT).map D.str)), none, none], ()⟩ := by
                have ec : eCons (liftP (fVar 5)) eNil (⟨[some (eM m), some (eP p), some (.str t), some (.str y), some (eP (p ++ [y])), some (.fl ((ls.map leafT).map D.str)), none, none], ()⟩ : St Unit) = .ok [.fl ((ls.map leafT).map D.str)] ⟨[some (eM m), some (eP p), some (.str t), some (.str y), some (eP (p ++ [y])), some (.fl ((ls.map leafT).map D.str)), none, none], ()⟩ := rfl
                exact cm_str ec hj
              have e2 : liftP (fC (.str "\n")) (⟨[some (eM m), some (eP p), some (.str t), some (.str y), some (eP (p ++ [y])), some (.fl ((ls.map leafT).map D.str)), none, none], ()⟩ : St Unit) = .ok (.str "\n") ⟨[some (eM m), some (eP p), some (.str t), some (.str y), some (eP (p ++ [y])), some (.fl ((ls.map leafT).map D.str)), none, none], ()⟩ := rfl
              rw [a_fSet, a_eOp, a_eOp, a_eOp, e1, eb_ok, path_words hgk.2, eb_ok, a2, of_so, oe_ok, eb_ok, e3, eb_ok, a3, of_so, oe_ok, eb_ok, e2, eb_ok, a4]
              rfl
            · show (⟨[some (eM m), some (eP p), some _, none, none, none, none, none], ()⟩ : St Unit) = _
              rw [hstep]
              unfold lineAt
              rw [hv]) ((within m p).map D.str) ⟨[some (eM m), some (eP p), some (.str ""), none, none, none, none, none], ()⟩ ⟨[], within m p, rfl, rfl, rfl⟩
    have hb : bs = [] := by
      cases bs with
      | nil => rfl
      | cons y bs => cases h2
    subst hb
    rw [List.append_nil] at h1
    subst h1
    have body : r__law_lines (F__law_lines n) (startS 8 [eM m, eP p]) = .ok (.rt (.str (lines m (n + 1) p))) ⟨[some (eM m), some (eP p), some (.str (lines m (n + 1) p)), none, none, none, none, none], ()⟩ := by
      unfold r__law_lines
      have q1 : fSet 2 (liftP (fC (.str ""))) (startS 8 [eM m, eP p]) = .ok .nx (⟨[some (eM m), some (eP p), some (.str ""), none, none, none, none, none], ()⟩ : St Unit) := rfl
      rw [seq_nx q1]
      have e0 : eSeq (liftP (fCall0 F__law_within (fCons (fVar 0) (fCons (fVar 1) fNil)))) (⟨[some (eM m), some (eP p), some (.str ""), none, none, none, none, none], ()⟩ : St Unit) = .ok ((within m p).map D.str) ⟨[some (eM m), some (eP p), some (.str ""), none, none, none, none, none], ()⟩ := by simp [hw]
      rw [seq_nx (by rw [a_fFor, e0, eb_ok]; exact e)]
      rfl
    show (match r__law_lines (F__law_lines n) (startS 8 [eM m, eP p]) with
      | .ok (.rt d) s => Rs.ok d (outsS [.own .p, .own .p] s.s)
      | .ok .nx s => if Tag.beq .p .p = true then Rs.ok .non (outsS [.own .p, .own .p] s.s) else .stuck
      | .ok _ _ => .stuck
      | .exc c s => .exc c (outsS [.own .p, .own .p] s.s)
      | .stuck => .stuck) = _
    rw [body]
    rfl
def tally (t : Str) : Int := t.cps.toList.foldl (fun (n : Int) (c : Nat) => (n * 257 + (c : Int) + 1) % 2305843009213693951) 1
theorem tally_ok' {m : Mdl} (hm : Ok m) : ∃ n, F__law_tally [eM m] = .ok (.int n) [] ∧ n = tally (lines m 12 []) ∧ 0 ≤ n ∧ n < 2305843009213693951 := by
  have hl := lines_ok hm 12 [] (by simp) (fun _ z => by cases z) (by simp)
  rw [eP_nil] at hl
  obtain ⟨t, ht⟩ : ∃ t : Str, t = lines m 12 [] := ⟨_, rfl⟩
  rw [← ht] at hl ⊢
  obtain ⟨s', e, n, rfl, cs, hx, hf, h0, h1⟩ := forF_on (g := (gName 2 : GR Unit)) (tb := (fSet 1 (liftP (fOp modI (fOp addO (fOp addO (fOp mulI (fVar 1) (fC (.int 257))) (fCB ordO (fCons (fVar 2) fNil))) (fC (.int 1))) (fC (.int 2305843009213693951)))))) (ws := [2])
    (fun xs s => ∃ n : Int, s = ⟨[some (eM m), some (.int n), none], ()⟩ ∧ ∃ cs : List Nat, xs = (cs.map fun c => D.str ⟨#[c]⟩) ∧ cs.foldl (fun (n : Int) (c : Nat) => (n * 257 + (c : Int) + 1) % 2305843009213693951) n = tally t ∧ 0 ≤ n ∧ n < 2305843009213693951) (fun y ys s ⟨n, hs, cs, hxs, hf, h0, h1⟩ => by
      subst hs
      cases cs with
      | nil => cases hxs
      | cons c cs =>
        obtain ⟨rfl, rfl⟩ := List.cons.inj hxs
        have m1 : mulC n 257 = true := mulC_ok (by omega) (by omega) (by omega) (by omega)
        have z1 := Int.emod_nonneg (n * 257 + (c : Int) + 1) (b := 2305843009213693951) (by decide)
        have z2 := Int.emod_lt_of_pos (n * 257 + (c : Int) + 1) (b := 2305843009213693951) (by decide)
        have ho := ord_c (c := c)
        rw [List.foldl_cons] at hf
        obtain ⟨C, hC⟩ : ∃ C : Int, C = (c : Int) := ⟨_, rfl⟩
        rw [← hC] at ho hf z1 z2
        exact ⟨⟨[some (eM m), some (.int n), some (.str ⟨#[c]⟩)], ()⟩, rfl, .nx, ⟨[some (eM m), some (.int ((n * 257 + C + 1) % 2305843009213693951)), some (.str ⟨#[c]⟩)], ()⟩, by simp [m1, ho], .inl rfl, _, rfl, cs, rfl, hf, z1, z2⟩) (sgn t) ⟨[some (eM m), some (.int 1), none], ()⟩ ⟨1, rfl, t.cps.toList, rfl, rfl, by omega, by omega⟩
  have hcs : cs = [] := by
    cases cs with
    | nil => rfl
    | cons c cs => cases hx
  subst hcs
  have hf : n = tally t := hf
  refine ⟨n, ?_, hf, h0, h1⟩
  have body : r__law_tally (startS 3 [eM m]) = .ok (.rt (.int n)) ⟨[some (eM m), some (.int n), none], ()⟩ := by
    unfold r__law_tally
    have q1 : fSet 1 (liftP (fC (.int 1))) (startS 3 [eM m]) = .ok .nx (⟨[some (eM m), some (.int 1), none], ()⟩ : St Unit) := rfl
    rw [seq_nx q1]
    have e0 : eSeq (liftP (fCall0 (F__law_lines 12) (fCons (fVar 0) (fCons (fTup fNil) fNil)))) (⟨[some (eM m), some (.int 1), none], ()⟩ : St Unit) = .ok (sgn t) ⟨[some (eM m), some (.int 1), none], ()⟩ := by simp [hl]
    rw [seq_nx (by rw [a_fFor, e0, eb_ok]; exact e)]
    rfl
  unfold F__law_tally runF
  rw [body]
  rfl
end SH

namespace SH
open PySem FL L2
def dA : D := .tup [.str "a"]
def noDeeds : List D := [.non, .int 0, .str "out", .tup [.str "out"], .tup [.str "out", .tup []], .tup [.str "out", .str "a"], .tup [.str "out", dA, .tup [.str "b"]],
  .fl [.str "out", dA], .tup [.str "Out", dA], .tup [.str "put", dA, .int 0], .tup [.str "put", dA, .int 65, .tup []], .tup [.str "put", dA, .int (-1), .tup []], .tup [.str "put", dA, .bl true, .tup []],
  .tup [.str "put", dA, .int 0, .tup [.int 256]], .tup [.str "put", dA, .int 0, .tup (List.replicate 9 (.int 1))], .tup [.str "trim", dA, .int 65], .tup [.str "trim", dA],
  .tup [.str "move", dA, .tup []], .tup [.str "copy", .tup [.str "a", .str "abcdefghi"], .tup [.str "b"]]]
def isNo : Rs → Bool
  | .ok (.bl false) [] => true
  | _ => false
theorem isNo_eq {r : Rs} (h : isNo r = true) : r = .ok (.bl false) [] := by
  unfold isNo at h
  split at h
  · rfl
  · cases h
theorem noDeeds_no : noDeeds.all (fun x => isNo (F_is_deed [x])) = true := by decide +kernel
def others : List D := [.non, .bl true, .int 0, .str "sent", .str "sent 1;1", .fl [], .tup [], .fd false [], .tup [.str "sent"], .tup [.str "sent", .int 1, .int 1],
  .fl [.str "sent", .int 1, .tup [], .int 1], .fd false [(.inl (.inr "sent"), .int 1)],
  .tup [.str "sent", .int 1, .non, .int 1], .tup [.tup [.str "sent", .int 1, .tup [], .int 1]], .tup [.str "sent", .int 1, .fd false [], .int 1], .tup [.str "sent", .int 1, .str "", .int 1],
  .tup [.int 1, .str "sent", .tup [], .int 1]]
theorem others_no : others.all (fun x => isNo (F_is_sent [x])) = true := by decide +kernel
theorem seq_to {a b : SR Unit} {s s1 : St Unit} {r} (h : a s = .ok .nx s1) (h2 : b s1 = r) : fSeq a b s = r := by rw [seq_nx h, h2]
theorem pick {xs : List D} {n L : Int} (h : xs ≠ []) (hL : (xs.length : Int) = L) : ∃ x, ixO (.fl xs) (.int (n % L)) = some x ∧ x ∈ xs := by
  obtain ⟨x, h1, h2⟩ := mem_atI (n := n) h
  exact ⟨x, by rw [ixO_l, ← hL]; exact h1, h2⟩
theorem add_fl {as bs : List D} (h : as.length + bs.length ≤ 10000) : addO (.fl as) (.fl bs) = some (.fl (as ++ bs)) := by
  show (if as.length + bs.length ≤ sizeLine then some (D.fl (as ++ bs)) else none) = _
  rw [if_pos (by rw [PySem.sizeLine_eq]; omega)]
theorem addL {as bs cs : List D} {tl : PR Unit} {n : Int} (h1 : tl ⟨[some (.int n), some (.fl as)], ()⟩ = .ok (.fl bs)) (h2 : as.length + bs.length ≤ 10000) (h3 : as ++ bs = cs) : fSet 1 (liftP (fOp addO (fVar 1) tl)) (⟨[some (.int n), some (.fl as)], ()⟩ : St Unit) = .ok .nx ⟨[some (.int n), some (.fl cs)], ()⟩ := by
  have := add_fl h2
  rw [h3] at this
  simp [h1, this]
theorem menu_end {xs : List D} {x : D} {n L : Int} (hl : (xs.length : Int) = L) (hL : 0 < L) (h : ixO (.fl xs) (.int (n % L)) = some x) : (fRet (liftP (fOp ixO (fVar 1) (fOp modI (fVar 0) (fCB lenO (fCons (fVar 1) fNil))))) : SR Unit) ⟨[some (.int n), some (.fl xs)], ()⟩ = .ok (.rt x) ⟨[some (.int n), some (.fl xs)], ()⟩ := by
  have e : lenO [.fl xs] = some (.int L) := by rw [len_fl, hl]
  have m : modI (.int n) (.int L) = some (.int (n % L)) := by
    simp [modI, hL]
  simp [-len_fl, -ixO_l, e, m, h]
theorem nodeed_ok (n : Int) : ∃ x, F__law_no_deed [.int n] = .ok x [] ∧ F_is_deed [x] = .ok (.bl false) [] := by
  obtain ⟨x, h1, h2⟩ := pick (xs := noDeeds) (n := n) (L := 19) (by simp [noDeeds]) rfl
  have h3 := isNo_eq (List.all_eq_true.mp noDeeds_no x h2)
  refine ⟨x, ?_, h3⟩
  have body : r__law_no_deed (startS 2 [.int n]) = .ok (.rt x) ⟨[some (.int n), some (.fl noDeeds)], ()⟩ := by
    unfold r__law_no_deed
    refine seq_to (s1 := ⟨[some (.int n), some (.fl (noDeeds.take 7))], ()⟩) rfl ?_
    refine seq_to (s1 := ⟨[some (.int n), some (.fl (noDeeds.take 9))], ()⟩) (addL (bs := (noDeeds.drop 7).take 2) rfl (by decide) rfl) ?_
    refine seq_to (s1 := ⟨[some (.int n), some (.fl (noDeeds.take 13))], ()⟩) (addL (bs := (noDeeds.drop 9).take 4) rfl (by decide) rfl) ?_
    refine seq_to (s1 := ⟨[some (.int n), some (.fl (noDeeds.take 17))], ()⟩) (addL (bs := (noDeeds.drop 13).take 4) rfl (by decide) rfl) ?_
    refine seq_to (s1 := ⟨[some (.int n), some (.fl noDeeds)], ()⟩) (addL (bs := (noDeeds.drop 17).take 2) rfl (by decide) rfl) ?_
    exact menu_end (L := 19) rfl (by omega) h1
  unfold F__law_no_deed runF
  rw [body]
  rfl
theorem other_ok (n : Int) : ∃ x, F__law_other_thing [.int n] = .ok x [] ∧ F_is_sent [x] = .ok (.bl false) [] := by
  obtain ⟨x, h1, h2⟩ := pick (xs := others) (n := n) (L := 17) (by simp [others]) rfl
  have h3 := isNo_eq (List.all_eq_true.mp others_no x h2)
  refine ⟨x, ?_, h3⟩
  have body : r__law_other_thing (startS 2 [.int n]) = .ok (.rt x) ⟨[some (.int n), some (.fl others)], ()⟩ := by
    unfold r__law_other_thing
    refine seq_to (s1 := ⟨[some (.int n), some (.fl (others.take 12))], ()⟩) rfl ?_
    refine seq_to (s1 := ⟨[some (.int n), some (.fl (others.take 16))], ()⟩) (addL (bs := (others.drop 12).take 4) rfl (by decide) rfl) ?_
    refine seq_to (s1 := ⟨[some (.int n), some (.fl others)], ()⟩) (addL (bs := (others.drop 16).take 1) rfl (by decide) rfl) ?_
    exact menu_end (L := 17) rfl (by omega) h1
  unfold F__law_other_thing runF
  rw [body]
  rfl
end SH

namespace SH
open PySem FL L2
def big : Int := 2305843009213693951
def weird : List D := [.int (-1), .int 2305843009213693951, .int (10 ^ 30), .bl true, .str "1", .non, .tup [.int 1]]
theorem weird_no : weird.all (fun y => (tyD y).isSome && !inR 0 2305843009213693950 y) = true := by decide +kernel
def words : List D := [.str "Sent", .str "send", .str "", .non, .int 1]
theorem words_no {x a b c : D} (h : x ∈ words) : F_is_sent [.tup [x, a, b, c]] = .ok (.bl false) [] := by
  simp only [words, List.mem_cons, List.not_mem_nil, or_false] at h
  rcases h with rfl | rfl | rfl | rfl | rfl
  · exact sent_w (by decide)
  · exact sent_w (by decide)
  · exact sent_w (by decide)
  · exact sent_non
  · exact sent_int
theorem sl_t_to {ds : List D} {i : Int} (h : 0 ≤ i) : slO (.tup ds) none (some i) = some (.tup (ds.take i.toNat)) := by
  have := cutD_to id ds h
  rw [List.map_id, List.map_id] at this
  rw [slO_t, this]
theorem sl_t_from {ds : List D} {i : Int} (h : 0 ≤ i) : slO (.tup ds) (some i) none = some (.tup (ds.drop i.toNat)) := by
  have := cutD_from id ds h
  rw [List.map_id, List.map_id] at this
  rw [slO_t, this]
theorem add_tp {as bs : List D} (h : as.length + bs.length ≤ 10000) : addO (.tup as) (.tup bs) = some (.tup (as ++ bs)) := by
  show (if as.length + bs.length ≤ sizeLine then some (D.tup (as ++ bs)) else none) = _
  rw [if_pos (by rw [PySem.sizeLine_eq]; omega)]
def vd (d : D) : Bool := match F_is_deed [d] with
  | .ok (.bl b) _ => b
  | _ => false
theorem vd_t {d : D} {b : Bool} (h : F_is_deed [d] = .ok (.bl b) []) : F_is_deed [d] = .ok (.bl (vd d)) [] ∧ vd d = b := by
  unfold vd
  rw [h]
  exact ⟨rfl, rfl⟩
def dO : D := .tup [.str "out", dA]
def isYes : Rs → Bool
  | .ok (.bl true) [] => true
  | _ => false
theorem isYes_eq {r : Rs} (h : isYes r = true) : r = .ok (.bl true) [] := by
  unfold isYes at h
  split at h
  · rfl
  · cases h
theorem dO_ok : F_is_deed [dO] = .ok (.bl true) [] := isYes_eq (by decide +kernel)
theorem rep_ok {k : Int} (h : 0 ≤ k) (h2 : k ≤ 4000) : repO (.tup [dO]) (.int k) = some (.tup (List.replicate k.toNat dO)) := by
  have : (List.replicate k.toNat [dO]).flatten = List.replicate k.toNat dO := by
    generalize k.toNat = m
    induction m with
    | zero => rfl
    | succ m ih => rw [List.replicate_succ, List.flatten_cons, ih, List.replicate_succ]; rfl
  show (if ([dO] ≠ [] ∧ [dO].length ≤ 200) ∧ 0 ≤ k ∧ k ≤ 4000 then some (D.tup (List.replicate k.toNat [dO]).flatten) else none) = _
  rw [if_pos ⟨⟨by simp, by simp⟩, h, h2⟩, this]
theorem bent_ok {a b : Int} {ds : List D} (ha : 0 ≤ a ∧ a < 2305843009213693951) (hb : 0 ≤ b ∧ b < 2305843009213693951) (hds : ∀ d ∈ ds, F_is_deed [d] = .ok (.bl true) []) (hl : ds.length ≤ 1000) (n : Int) :
    ∃ x, F__law_bent [.tup [.str "sent", .int a, .tup ds, .int b], .int n] = .ok x [] ∧ F_is_sent [x] = .ok (.bl false) [] := by
  obtain ⟨y, hy, hyw⟩ := pick (xs := weird) (n := n / 8) (L := 7) (by simp [weird]) rfl
  have hyo := List.all_eq_true.mp weird_no y hyw
  rw [Bool.and_eq_true] at hyo
  obtain ⟨hy1, hy2⟩ := hyo
  have hy2 : inR 0 2305843009213693950 y = false := by simpa using hy2
  obtain ⟨z, hz, hzw⟩ := pick (xs := words) (n := n / 8) (L := 5) (by simp [words]) rfl
  obtain ⟨L, hL⟩ : ∃ L : Int, L = (ds.length : Int) := ⟨_, rfl⟩
  have hlen : lenO [.tup ds] = some (.int L) := by rw [len_tup, hL]
  obtain ⟨c, hc⟩ : ∃ c : Int, c = n / 8 % (L + 1) := ⟨_, rfl⟩
  have hc0 : 0 ≤ c := by rw [hc]; exact Int.emod_nonneg _ (by omega)
  have hc1 : c < L + 1 := by rw [hc]; exact Int.emod_lt_of_pos _ (by omega)
  obtain ⟨x, hx1, hx2⟩ := nodeed_ok (n / 99)
  obtain ⟨r, hr⟩ : ∃ r : Int, r = n % 8 := ⟨_, rfl⟩
  have hr8 : r = 0 ∨ r = 1 ∨ r = 2 ∨ r = 3 ∨ r = 4 ∨ r = 5 ∨ r = 6 ∨ r = 7 := by omega
  have ta : inR 0 2305843009213693950 (.int a) = true := by simp [inR]; omega
  have core : ∀ (t : SR Unit) (d : D), r__law_bent = (fSeq (fAsgG (liftP (fVar 0)) (gTup 4 (gCons (gName 2) (gCons (gName 3) (gCons (gName 4) (gCons (gName 5) gNil)))))) (fSeq (fSet 6 (liftP (fLst (fCons (fUn negI (fC (.int 1))) (fCons (fC (.int 2305843009213693951)) (fCons (fOp powI (fC (.int 10)) (fC (.int 30))) (fCons (fC (.bl true)) (fCons (fC (.str "1")) (fCons (fC .non) (fCons (fTup (fCons (fC (.int 1)) fNil)) fNil)))))))))) (fSeq (fSet 7 (liftP (fOp ixO (fVar 6) (fOp modI (fOp divI (fVar 1) (fC (.int 8))) (fC (.int 7)))))) (fSeq (fSet 8 (liftP (fOp modI (fVar 1) (fC (.int 8))))) t)))) →
      (∃ s, t ⟨[some (.tup [.str "sent", .int a, .tup ds, .int b]), some (.int n), some (.str "sent"), some (.int a), some (.tup ds), some (.int b), some (.fl weird), some y, some (.int r), none], ()⟩ = .ok (.rt d) s) → F__law_bent [.tup [.str "sent", .int a, .tup ds, .int b], .int n] = .ok d [] := fun t d ht ⟨s, hs⟩ => by
    have body : r__law_bent (startS 10 [.tup [.str "sent", .int a, .tup ds, .int b], .int n]) = .ok (.rt d) s := by
      rw [ht]
      refine seq_to (s1 := ⟨[some (.tup [.str "sent", .int a, .tup ds, .int b]), some (.int n), some (.str "sent"), some (.int a), some (.tup ds), some (.int b), none, none, none, none], ()⟩) rfl ?_
      refine seq_to (s1 := ⟨[some (.tup [.str "sent", .int a, .tup ds, .int b]), some (.int n), some (.str "sent"), some (.int a), some (.tup ds), some (.int b), some (.fl weird), none, none, none], ()⟩) rfl ?_
      refine seq_to (s1 := ⟨[some (.tup [.str "sent", .int a, .tup ds, .int b]), some (.int n), some (.str "sent"), some (.int a), some (.tup ds), some (.int b), some (.fl weird), some y, none, none], ()⟩) (by simp [-ixO_l, hy]) ?_
      exact seq_to (by simp [← hr]) hs
    have ho := outsS_none [.own .p, .own .p] s.s (by simp [Sl.isIo])
    unfold F__law_bent runF
    simp only [body, ho]
  rcases hr8 with h | h | h | h | h | h | h | h
  · rw [h] at core
    exact ⟨.fl [.str "sent", .int a, .tup ds, .int b], core _ _ rfl (by simp), sent_l⟩
  · rw [h] at core
    have : lstC [.tup ds] = some (.fl ds) := rfl
    exact ⟨.tup [.str "sent", .int a, .fl ds, .int b], core _ _ rfl (by simp [this]), sent_ld rfl rfl⟩
  · rw [h] at core
    exact ⟨.tup [.str "sent", .int a, .tup ds, .int b, .int 1], core _ _ rfl (by simp), sent_n (by simp)⟩
  · rw [h] at core
    have hw : (⟨[some (.tup [.str "sent", .int a, .tup ds, .int b]), some (.int n), some (.str "sent"), some (.int a), some (.tup ds), some (.int b), some (.fl weird), some y, some (.int 3), none], ()⟩ : St Unit) = (⟨[some (.tup [.str "sent", .int a, .tup ds, .int b]), some (.int n), some (.str "sent"), some (.int a), some (.tup ds), some (.int b), some (.fl weird), some y, some (.int 3), none], ()⟩ : St Unit) := rfl
    have hz : ixO (.fl [.str "Sent", .str "send", .str "", .non, .int 1]) (.int (n / 8 % 5)) = some z := hz
    exact ⟨.tup [z, .int a, .tup ds, .int b], core _ _ rfl (by simp [-ixO_l, hz]), words_no hzw⟩
  · rw [h] at core
    refine ⟨.tup [.str "sent", y, .tup ds, .int b], core _ _ rfl (by simp), ?_⟩
    rw [sent_t hy1 rfl hds (by omega), hy2, Bool.false_and]
  · rw [h] at core
    refine ⟨.tup [.str "sent", .int a, .tup ds, y], core _ _ rfl (by simp), ?_⟩
    rw [sent_t rfl hy1 hds (by omega), hy2, Bool.false_and, Bool.and_false]
  · rw [h] at core
    have t1 := sl_t_to (ds := ds) hc0
    have t2 := sl_t_from (ds := ds) hc0
    have t3 := add_tp (as := ds.take c.toNat) (bs := [x]) (by simp; omega)
    have t4 := add_tp (as := ds.take c.toNat ++ [x]) (bs := ds.drop c.toNat) (by simp; omega)
    have hpos : 0 < L + 1 := by omega
    refine ⟨.tup [.str "sent", .int a, .tup (ds.take c.toNat ++ [x] ++ ds.drop c.toNat), .int b], core _ _ rfl (by simp [-len_tup, -slO_t, hlen, hpos, ← hc, t1, t2, t3, t4, hx1]), ?_⟩
    rw [sent_t (v := vd) rfl rfl (fun d hd => by
      rcases List.mem_append.mp hd with hd | hd
      · rcases List.mem_append.mp hd with hd | hd
        · exact (vd_t (hds d (List.mem_of_mem_take hd))).1
        · rw [List.mem_singleton.mp hd]
          exact (vd_t hx2).1
      · exact (vd_t (hds d (List.mem_of_mem_drop hd))).1) (by simp; omega)]
    have : (ds.take c.toNat ++ [x] ++ ds.drop c.toNat).all vd = false := by
      rw [List.all_append, List.all_append, List.all_cons, (vd_t hx2).2, Bool.false_and, Bool.and_false, Bool.false_and]
    rw [this, Bool.and_false, Bool.and_false, Bool.and_false]
  · rw [h] at core
    have t1 := rep_ok (k := 1001) (by omega) (by omega)
    have t1 : repO (.tup [.tup [.str "out", .tup [.str "a"]]]) (.int 1001) = some (.tup (List.replicate 1001 dO)) := t1
    refine ⟨.tup [.str "sent", .int a, .tup (List.replicate 1001 dO), .int b], core _ _ rfl (by
      obtain ⟨xs, hxs⟩ : ∃ xs, xs = List.replicate 1001 dO := ⟨_, rfl⟩
      rw [← hxs] at t1 ⊢
      simp [-len_tup, hlen, show 0 < L + 1 by omega, ← hc, t1]), ?_⟩
    rw [sent_t (v := fun _ => true) rfl rfl (fun d hd => by rw [(List.mem_replicate.mp hd).2]; exact dO_ok) (by rw [List.length_replicate]; omega), List.length_replicate]
    have : decide (1001 ≤ 1000) = false := rfl
    rw [this, Bool.false_and, Bool.and_false, Bool.and_false]
end SH

namespace SH
open PySem FL L2

def lw0 : SR Unit := (fSet 1 (liftP (fCall0 F__law_draws (fCons (fVar 0) fNil))))
def lw1 : SR Unit := (fAsgG (callX0 F__law_two [.sl 1, .v] [1] (eCons (liftP (fC (.int 20))) eNil)) (gTupL 3 (gCons (gName 2) (gCons (gName 3) (gCons (gName 4) gNil)))))
def lw2 : SR Unit := (fSet 5 (callX0 F__law_next [.sl 1] [1] eNil))
def lw3 : SR Unit := (fSet 6 (liftP (fTup (fCons (fC (.str "sent")) (fCons (fCall0 F__law_tally (fCons (fVar 2) fNil)) (fCons (fCB tupC (fCons (fCall0 (F__law_between 12) (fCons (fVar 2) (fCons (fVar 3) (fCons (fTup fNil) fNil)))) fNil)) (fCons (fCall0 F__law_tally (fCons (fVar 3) fNil)) fNil)))))))
def lw4 : SR Unit := (fSet 7 (eTup (eCons (liftP (fC (.str "sent"))) (eCons (liftP (fOp modI (fOp mulI (fVar 5) (fC (.int 1073741827))) (fC (.int 2305843009213693951)))) (eCons (eCB tupC (eCons (eLc (eRan ran1 (eCons (liftP (fC (.int 9))) eNil)) (gName 10) eYes (callX0 F__law_deed [.sl 1, .v] [1] (eCons (liftP (fVar 2)) eNil)) [10]) eNil)) (eCons (liftP (fC (.int 0))) eNil))))))
def lw5 : SR Unit := (fSet 8 (liftP (fTup (fCons (fC (.str "sent")) (fCons (fC (.int 2305843009213693950)) (fCons (fOp repO (fTup (fCons (fTup (fCons (fC (.str "out")) (fCons (fTup (fCons (fC (.str "a")) fNil)) fNil))) fNil)) (fOp ixO (fLst (fCons (fC (.int 0)) (fCons (fC (.int 1)) (fCons (fC (.int 1000)) fNil)))) (fOp modI (fVar 5) (fC (.int 3))))) (fCons (fC (.int 1)) fNil)))))))
def lw6 : SR Unit := (fFor (eSeq (liftP (fLst (fCons (fVar 6) (fCons (fVar 7) (fCons (fVar 8) fNil)))))) (gName 9) (fIfS (liftP (fNot (fTest (fCall0 F__law_said (fCons (fVar 9) (fCons (fC (.bl true)) fNil)))))) (fRet (liftP (fC (.bl false)))) fNext) [9])
def lw7 : SR Unit := (fFor (eRan ran1 (eCons (liftP (fC (.int 10))) eNil)) (gName 10) (fSeq (fSet 11 (callX0 F__law_bent [.v, .v] [] (eCons (liftP (fOp ixO (fLst (fCons (fVar 6) (fCons (fVar 7) fNil))) (fOp modI (fVar 10) (fC (.int 2))))) (eCons (eOp addO (callX0 F__law_next [.sl 1] [1] eNil) (liftP (fVar 10))) eNil)))) (fIfS (liftP (fOr (fNot (fTest (fCall0 F__law_said (fCons (fVar 11) (fCons (fC (.bl false)) fNil))))) (fNot (fTest (fCall0 F__law_said (fCons (fCall0 F__law_other_thing (fCons (fOp addO (fVar 5) (fVar 10)) fNil)) (fCons (fC (.bl false)) fNil))))))) (fRet (liftP (fC (.bl false)))) fNext)) [10, 11])
def lw8 : SR Unit := (fSet 12 (liftP (fLst (fCons (fC (.str "sent")) (fCons (fC (.int 1)) (fCons (fLst (fCons (fTup (fCons (fC (.str "out")) (fCons (fTup (fCons (fC (.str "a")) fNil)) fNil))) fNil)) (fCons (fC (.int 1)) fNil)))))))
def lw9 : SR Unit := (fRet (liftP (fAndV (fCall0 F__law_said (fCons (fVar 12) (fCons (fC (.bl false)) fNil))) (fOp eqD (fVar 12) (fLst (fCons (fC (.str "sent")) (fCons (fC (.int 1)) (fCons (fLst (fCons (fTup (fCons (fC (.str "out")) (fCons (fTup (fCons (fC (.str "a")) fNil)) fNil))) fNil)) (fCons (fC (.int 1)) fNil)))))))))
theorem r_law_eq : r_law = fSeq lw0 (fSeq lw1 (fSeq lw2 (fSeq lw3 (fSeq lw4 (fSeq lw5 (fSeq lw6 (fSeq lw7 (fSeq lw8 (lw9))))))))) := rfl
/-- what is as due -/
def GS (x : D) : Prop := ∃ (a b : Int) (ds : List D), x = .tup [.str "sent", .int a, .tup ds, .int b] ∧ (0 ≤ a ∧ a < 2305843009213693951) ∧ (0 ≤ b ∧ b < 2305843009213693951) ∧ (∀ d ∈ ds, F_is_deed [d] = .ok (.bl true) []) ∧ ds.length ≤ 1000
theorem gs_sent {x : D} (h : GS x) : F_is_sent [x] = .ok (.bl true) [] := by
  obtain ⟨a, b, ds, rfl, ha, hb, hd, hl⟩ := h
  rw [sent_t (v := fun _ => true) rfl rfl hd (by omega)]
  have h1 : inR 0 2305843009213693950 (.int a) = true := by simp [inR]; omega
  have h2 : inR 0 2305843009213693950 (.int b) = true := by simp [inR]; omega
  have h3 : decide (ds.length ≤ 1000) = true := by simpa using hl
  have h4 : (ds.all fun _ => true) = true := by simp
  rw [h1, h2, h3, h4]
  rfl
theorem gs_bent {x : D} (h : GS x) (n : Int) : ∃ y, F__law_bent [x, .int n] = .ok y [] ∧ F_is_sent [y] = .ok (.bl false) [] := by
  obtain ⟨a, b, ds, rfl, ha, hb, hd, hl⟩ := h
  exact bent_ok ha hb hd hl n
abbrev Z (a b c d e f g h i j k l m : Option D) : St Unit := ⟨[a, b, c, d, e, f, g, h, i, j, k, l, m], ()⟩
theorem w0 {ns ds : List Int} (h : F__law_draws [eN ns] = .ok (eN ds) []) : lw0 (Z (some (eN ns)) none none none none none none none none none none none none) = .ok .nx (Z (some (eN ns)) (some (eN ds)) none none none none none none none none none none none) := by
  simp [lw0, Z, h]
theorem w1 {n0 a b c : D} {ds n1 : List Int} (h : F__law_two [eN ds, .int 20] = .ok (.fl [a, b, c]) [eN n1]) : lw1 (Z (some n0) (some (eN ds)) none none none none none none none none none none none) = .ok .nx (Z (some n0) (some (eN n1)) (some a) (some b) (some c) none none none none none none none none) := by
  simp [lw1, Z, h]
theorem w2 {n0 a b c : D} {ds n1 : List Int} {n : Int} (h : F__law_next [eN ds] = .ok (.int n) [eN n1]) : lw2 (Z (some n0) (some (eN ds)) (some a) (some b) (some c) none none none none none none none none) = .ok .nx (Z (some n0) (some (eN n1)) (some a) (some b) (some c) (some (.int n)) none none none none none none none) := by
  simp [lw2, Z, h]
theorem w3 {n0 a b c ds n s t : D} {xs : List D} (h1 : F__law_tally [a] = .ok s []) (h2 : F__law_between 12 [a, b, .tup []] = .ok (.fl xs) []) (h3 : F__law_tally [b] = .ok t []) : lw3 (Z (some n0) (some ds) (some a) (some b) (some c) (some n) none none none none none none none) = .ok .nx (Z (some n0) (some ds) (some a) (some b) (some c) (some n) (some (.tup [.str "sent", s, .tup xs, t])) none none none none none none) := by
  have : tupC [.fl xs] = some (.tup xs) := rfl
  simp [lw3, Z, h1, h2, h3, this]
theorem w4 {m : Mdl} (hm : Ok m) {n0 b c x : D} {ds : List Int} (hd : Dr ds) {n : Int} (hn : 0 ≤ n ∧ n < 2^31) : ∃ y n1, lw4 (Z (some n0) (some (eN ds)) (some (eM m)) (some b) (some c) (some (.int n)) (some x) none none none none none none) = .ok .nx (Z (some n0) (some (eN n1)) (some (eM m)) (some b) (some c) (some (.int n)) (some x) (some y) none none none none none) ∧ GS y ∧ Dr n1 := by
  have m1 : mulC n 1073741827 = true := mulC_ok (by omega) (by omega) (by omega) (by omega)
  have z1 := Int.emod_nonneg (n * 1073741827) (b := 2305843009213693951) (by decide)
  have z2 := Int.emod_lt_of_pos (n * 1073741827) (b := 2305843009213693951) (by decide)
  have hr : ran1 [.int 9] = some ((List.range 9).map fun (i : Nat) => D.int (i : Int)) := ran1_ok' (by omega) (by omega)
  obtain ⟨ys, s', c1, c2, c3, n2, c4, d2⟩ := compL_all (g := (gName 10 : GR Unit)) (tt := eYes) (te := (callX0 F__law_deed [.sl 1, .v] [1] (eCons (liftP (fVar 2)) eNil))) (vs := [10])
    (fun _ s => ∃ ms, s = Z (some n0) (some (eN ms)) (some (eM m)) (some b) (some c) (some (.int n)) (some x) none none none none none none ∧ Dr ms) (fun d => F_is_deed [d] = .ok (.bl true) []) (fun z xs s ⟨ms, hs, hd⟩ => by
      subst hs
      obtain ⟨d, m1, q1, q2, q3⟩ := deed_drawn hm hd
      exact ⟨_, rfl, _, rfl, eD d, Z (some n0) (some (eN m1)) (some (eM m)) (some b) (some c) (some (.int n)) (some x) none none none (some z) none none, by simp [Z, q1], deed_ok q2, m1, rfl, q3⟩) ((List.range 9).map fun (i : Nat) => D.int (i : Int)) (Z (some n0) (some (eN ds)) (some (eM m)) (some b) (some c) (some (.int n)) (some x) none none none none none none) ⟨ds, rfl, hd⟩
  subst c4
  rw [List.length_map, List.length_range] at c3
  have hl : lstO ys = .ok (.fl ys) := lstO_ok (by omega)
  have ht : tupC [.fl ys] = some (.tup ys) := rfl
  refine ⟨.tup [.str "sent", .int (n * 1073741827 % 2305843009213693951), .tup ys, .int 0], n2, ?_, ⟨_, _, _, rfl, ⟨z1, z2⟩, by omega, c2, by omega⟩, d2⟩
  unfold Z at c1 ⊢
  simp [lw4, m1, hr, c1, hl, ht]
theorem w5 {n0 a b c ds x6 x7 : D} {n : Int} : ∃ y, lw5 (Z (some n0) (some ds) (some a) (some b) (some c) (some (.int n)) (some x6) (some x7) none none none none none) = .ok .nx (Z (some n0) (some ds) (some a) (some b) (some c) (some (.int n)) (some x6) (some x7) (some y) none none none none) ∧ GS y := by
  have h1 : 0 ≤ n % 3 := Int.emod_nonneg _ (by decide)
  have h2 : n % 3 < 3 := Int.emod_lt_of_pos _ (by decide)
  obtain ⟨k, hk, hm⟩ := atI_some (xs := ([0, 1, 1000] : List Int)) h1 (by simpa using h2)
  have ek := atI_map D.int ([0, 1, 1000] : List Int) (n % 3)
  rw [hk] at ek
  simp only [List.map_cons, List.map_nil, Option.map_some] at ek
  have k6 : 0 ≤ k ∧ k ≤ 1000 := by simp only [List.mem_cons, List.not_mem_nil, or_false] at hm; omega
  have hr : repO (.tup [.tup [.str "out", .tup [.str "a"]]]) (.int k) = some (.tup (List.replicate k.toNat dO)) := rep_ok k6.1 (by omega)
  refine ⟨.tup [.str "sent", .int 2305843009213693950, .tup (List.replicate k.toNat dO), .int 1], ?_, ⟨_, _, _, rfl, by omega, by omega, fun d hd => by rw [(List.mem_replicate.mp hd).2]; exact dO_ok, by rw [List.length_replicate]; omega⟩⟩
  simp [lw5, Z, ek, hr]
theorem w6 {n0 a b c ds x6 x7 x8 : D} {n : Int} (h6 : GS x6) (h7 : GS x7) (h8 : GS x8) : lw6 (Z (some n0) (some ds) (some a) (some b) (some c) (some (.int n)) (some x6) (some x7) (some x8) none none none none) = .ok .nx (Z (some n0) (some ds) (some a) (some b) (some c) (some (.int n)) (some x6) (some x7) (some x8) none none none none) := by
  obtain ⟨s', e, h1, rfl⟩ := forF_on (g := (gName 9 : GR Unit)) (tb := (fIfS (liftP (fNot (fTest (fCall0 F__law_said (fCons (fVar 9) (fCons (fC (.bl true)) fNil)))))) (fRet (liftP (fC (.bl false)))) fNext)) (ws := [9])
    (fun xs s => (∀ x ∈ xs, GS x) ∧ s = Z (some n0) (some ds) (some a) (some b) (some c) (some (.int n)) (some x6) (some x7) (some x8) none none none none) (fun x xs s ⟨hx, hs⟩ => by
      subst hs
      have hs := said_ok (gs_sent (hx x List.mem_cons_self)) true
      exact ⟨_, rfl, .nx, Z (some n0) (some ds) (some a) (some b) (some c) (some (.int n)) (some x6) (some x7) (some x8) (some x) none none none, by simp [Z, hs], .inl rfl, fun y hy => hx y (List.mem_cons_of_mem _ hy), rfl⟩) [x6, x7, x8] (Z (some n0) (some ds) (some a) (some b) (some c) (some (.int n)) (some x6) (some x7) (some x8) none none none none) ⟨fun y hy => by
        simp only [List.mem_cons, List.not_mem_nil, or_false] at hy
        rcases hy with rfl | rfl | rfl
        · exact h6
        · exact h7
        · exact h8, rfl⟩
  have e0 : (eSeq (liftP (fLst (fCons (fVar 6) (fCons (fVar 7) (fCons (fVar 8) fNil)))))) (Z (some n0) (some ds) (some a) (some b) (some c) (some (.int n)) (some x6) (some x7) (some x8) none none none none) = .ok [x6, x7, x8] (Z (some n0) (some ds) (some a) (some b) (some c) (some (.int n)) (some x6) (some x7) (some x8) none none none none) := rfl
  unfold lw6
  rw [a_fFor, e0, eb_ok]
  exact e
theorem w7 {n0 a b c x6 x7 x8 : D} {ds : List Int} (hd : Dr ds) {n : Int} (h6 : GS x6) (h7 : GS x7) : ∃ n1, lw7 (Z (some n0) (some (eN ds)) (some a) (some b) (some c) (some (.int n)) (some x6) (some x7) (some x8) none none none none) = .ok .nx (Z (some n0) (some (eN n1)) (some a) (some b) (some c) (some (.int n)) (some x6) (some x7) (some x8) none none none none) := by
  have hr : ran1 [.int 10] = some ((List.range 10).map fun (i : Nat) => D.int (i : Int)) := ran1_ok' (by omega) (by omega)
  obtain ⟨s', e, n1, h1, rfl, _⟩ := forF_on (g := (gName 10 : GR Unit)) (tb := (fSeq (fSet 11 (callX0 F__law_bent [.v, .v] [] (eCons (liftP (fOp ixO (fLst (fCons (fVar 6) (fCons (fVar 7) fNil))) (fOp modI (fVar 10) (fC (.int 2))))) (eCons (eOp addO (callX0 F__law_next [.sl 1] [1] eNil) (liftP (fVar 10))) eNil)))) (fIfS (liftP (fOr (fNot (fTest (fCall0 F__law_said (fCons (fVar 11) (fCons (fC (.bl false)) fNil))))) (fNot (fTest (fCall0 F__law_said (fCons (fCall0 F__law_other_thing (fCons (fOp addO (fVar 5) (fVar 10)) fNil)) (fCons (fC (.bl false)) fNil))))))) (fRet (liftP (fC (.bl false)))) fNext))) (ws := [10, 11])
    (fun xs s => ∃ ms, Dr ms ∧ s = Z (some n0) (some (eN ms)) (some a) (some b) (some c) (some (.int n)) (some x6) (some x7) (some x8) none none none none ∧ ∀ x ∈ xs, ∃ i : Int, x = .int i) (fun x xs s ⟨ms, hd, hs, hx⟩ => by
      subst hs
      obtain ⟨i, rfl⟩ := hx x List.mem_cons_self
      obtain ⟨v, m1, q1, _, q2⟩ := next_ok hd
      have h1 : 0 ≤ i % 2 := Int.emod_nonneg _ (by decide)
      have h2 : i % 2 < 2 := Int.emod_lt_of_pos _ (by decide)
      obtain ⟨w, hw1, hw2⟩ := pick (xs := [x6, x7]) (n := i) (L := 2) (by simp) rfl
      have hw : GS w := by
        simp only [List.mem_cons, List.not_mem_nil, or_false] at hw2
        rcases hw2 with rfl | rfl
        · exact h6
        · exact h7
      obtain ⟨y, hy1, hy2⟩ := gs_bent hw (v + i)
      obtain ⟨z, hz1, hz2⟩ := other_ok (n + i)
      have k1 := said_ok hy2 false
      have k2 := said_ok hz2 false
      exact ⟨_, rfl, .nx, Z (some n0) (some (eN m1)) (some a) (some b) (some c) (some (.int n)) (some x6) (some x7) (some x8) none (some (.int i)) (some y) none, by simp [-ixO_l, Z, q1, hw1, hy1, hz1, k1, k2], .inl rfl, m1, q2, rfl, fun x h => hx x (List.mem_cons_of_mem _ h)⟩) ((List.range 10).map fun (i : Nat) => D.int (i : Int)) (Z (some n0) (some (eN ds)) (some a) (some b) (some c) (some (.int n)) (some x6) (some x7) (some x8) none none none none) ⟨ds, hd, rfl, fun x h => by
        obtain ⟨i, _, rfl⟩ := List.mem_map.mp h
        exact ⟨_, rfl⟩⟩
  refine ⟨n1, ?_⟩
  have e0 : (eRan ran1 (eCons (liftP (fC (.int 10))) eNil)) (Z (some n0) (some (eN ds)) (some a) (some b) (some c) (some (.int n)) (some x6) (some x7) (some x8) none none none none) = .ok ((List.range 10).map fun (i : Nat) => D.int (i : Int)) (Z (some n0) (some (eN ds)) (some a) (some b) (some c) (some (.int n)) (some x6) (some x7) (some x8) none none none none) := by simp [Z, hr]
  unfold lw7
  rw [a_fFor, e0, eb_ok]
  exact e
def lastL : D := .fl [.str "sent", .int 1, .fl [dO], .int 1]
theorem w8 {n0 a b c ds n x6 x7 x8 : D} : lw8 (Z (some n0) (some ds) (some a) (some b) (some c) (some n) (some x6) (some x7) (some x8) none none none none) = .ok .nx (Z (some n0) (some ds) (some a) (some b) (some c) (some n) (some x6) (some x7) (some x8) none none none (some lastL)) := rfl
theorem w9 {n0 a b c ds n x6 x7 x8 : D} : lw9 (Z (some n0) (some ds) (some a) (some b) (some c) (some n) (some x6) (some x7) (some x8) none none none (some lastL)) = .ok (.rt (.bl true)) (Z (some n0) (some ds) (some a) (some b) (some c) (some n) (some x6) (some x7) (some x8) none none none (some lastL)) := by
  have h1 : F__law_said [lastL, .bl false] = .ok (.bl true) [] := said_ok sent_l false
  have h2 : eqD lastL (.fl [.str "sent", .int 1, .fl [.tup [.str "out", .tup [.str "a"]]], .int 1]) = some (.bl true) := by
    rw [eqD_of (by decide +kernel) (by decide +kernel)]
    have : ev lastL (.fl [.str "sent", .int 1, .fl [.tup [.str "out", .tup [.str "a"]]], .int 1]) = true := by decide +kernel
    rw [this]
  simp [lw9, Z, h1, h2]
theorem law_true (ns : List Int) (hl : ns.length ≤ 63) : ∃ o, F_law [.fl (ns.map .int)] = .ok (.bl true) o := by
  refine ⟨[], ?_⟩
  obtain ⟨d0, e0, dr0⟩ := draws_ok hl
  obtain ⟨a, b, x, d1, e1, ⟨ha, sa⟩, ⟨hb, sb⟩, dr1⟩ := two_ok dr0
  obtain ⟨n, d2, e2, hn, dr2⟩ := next_ok dr1
  obtain ⟨s, hs1, _, hs2, hs3⟩ := tally_ok' ha
  obtain ⟨t, ht1, _, ht2, ht3⟩ := tally_ok' hb
  have hbt := btw_ok ha hb (by omega) (by omega) 12 [] (by simp) (fun _ z => (by cases z)) (by simp)
  rw [eP_nil] at hbt
  have hsm := btw_small ha hb 12 []
  have hgd := btw_good ha hb 12 []
  have g6 : GS (.tup [.str "sent", .int s, .tup ((between a b 12 []).map eD), .int t]) := ⟨s, t, _, rfl, ⟨hs2, hs3⟩, ⟨ht2, ht3⟩, fun d hd => by
    obtain ⟨x, hx, rfl⟩ := List.mem_map.mp hd
    exact deed_ok (hgd x hx), by rw [List.length_map]; omega⟩
  obtain ⟨y, d3, e3, g7, dr3⟩ := w4 ha (n0 := eN ns) (b := eM b) (c := x) (x := .tup [.str "sent", .int s, .tup ((between a b 12 []).map eD), .int t]) dr2 hn
  obtain ⟨z, e4, g8⟩ := w5 (n0 := eN ns) (a := eM a) (b := eM b) (c := x) (ds := eN d3) (x6 := .tup [.str "sent", .int s, .tup ((between a b 12 []).map eD), .int t]) (x7 := y) (n := n)
  obtain ⟨d5, e5⟩ := w7 dr3 (n0 := eN ns) (a := eM a) (b := eM b) (c := x) (x8 := z) (n := n) g6 g7
  have body : r_law (startS 13 [.fl (ns.map .int)]) = .ok (.rt (.bl true)) (Z (some (eN ns)) (some (eN d5)) (some (eM a)) (some (eM b)) (some x) (some (.int n)) (some (.tup [.str "sent", .int s, .tup ((between a b 12 []).map eD), .int t])) (some y) (some z) none none none (some lastL)) := by
    rw [r_law_eq]
    exact seq_to (w0 e0) (seq_to (w1 e1) (seq_to (w2 e2) (seq_to (w3 hs1 hbt ht1) (seq_to e3 (seq_to e4 (seq_to (w6 g6 g7 g8) (seq_to e5 (seq_to w8 w9))))))))
  unfold F_law runF
  rw [body]
  rfl
end SH

/-! printed by fl.py: the end of k79 -/
namespace K79
open PySem PySem.Spec PyProof.Rows L2 FL SH
open LamX (TabB)
def top_mk {w : World} {K : PySem.W.Frag} {h : Heap} {mg : Str → Option Value} {base : Heap} {tk_LETTERS : Tok} {tk_MOST_DEEDS : Tok} {tk_MOST_LEAVES : Tok} {tk_MOST_NAMES : Tok} {tk_MOST_NUMBERS : Tok} {tk_MOST_SIGNS : Tok} {p_SIZES : Addr} {oc_SIZES : Value} {od_SIZES : Option Addr} {es_SIZES : Array DictEntry} {n_SIZES : Nat} {sl_SIZES : Array (Option Value)} {tk_TALLIES : Tok} {f0 : Addr} {od0 an0 : Option Addr} {sl0 : Array (Option Value)} {oc0 kV0 dc0 pm0 cd0 ct0 : Value} {f1 : Addr} {od1 an1 : Option Addr} {sl1 : Array (Option Value)} {oc1 kV1 dc1 pm1 cd1 ct1 : Value} {f2 : Addr} {od2 an2 : Option Addr} {sl2 : Array (Option Value)} {oc2 kV2 dc2 pm2 cd2 ct2 : Value} {f3 : Addr} {od3 an3 : Option Addr} {sl3 : Array (Option Value)} {oc3 kV3 dc3 pm3 cd3 ct3 : Value} {f4 : Addr} {od4 an4 : Option Addr} {sl4 : Array (Option Value)} {oc4 kV4 dc4 pm4 cd4 ct4 : Value} {f5 : Addr} {od5 an5 : Option Addr} {sl5 : Array (Option Value)} {oc5 kV5 dc5 pm5 cd5 ct5 : Value} {f6 : Addr} {od6 an6 : Option Addr} {sl6 : Array (Option Value)} {oc6 kV6 dc6 pm6 cd6 ct6 : Value} {f7 : Addr} {od7 an7 : Option Addr} {sl7 : Array (Option Value)} {oc7 kV7 dc7 pm7 cd7 ct7 : Value} {f8 : Addr} {od8 an8 : Option Addr} {sl8 : Array (Option Value)} {oc8 kV8 dc8 pm8 cd8 ct8 : Value} {f9 : Addr} {od9 an9 : Option Addr} {sl9 : Array (Option Value)} {oc9 kV9 dc9 pm9 cd9 ct9 : Value} {f10 : Addr} {od10 an10 : Option Addr} {sl10 : Array (Option Value)} {oc10 kV10 dc10 pm10 cd10 ct10 : Value} {f11 : Addr} {od11 an11 : Option Addr} {sl11 : Array (Option Value)} {oc11 kV11 dc11 pm11 cd11 ct11 : Value} {f12 : Addr} {od12 an12 : Option Addr} {sl12 : Array (Option Value)} {oc12 kV12 dc12 pm12 cd12 ct12 : Value} {f13 : Addr} {od13 an13 : Option Addr} {sl13 : Array (Option Value)} {oc13 kV13 dc13 pm13 cd13 ct13 : Value} {f14 : Addr} {od14 an14 : Option Addr} {sl14 : Array (Option Value)} {oc14 kV14 dc14 pm14 cd14 ct14 : Value} {f15 : Addr} {od15 an15 : Option Addr} {sl15 : Array (Option Value)} {oc15 kV15 dc15 pm15 cd15 ct15 : Value} {f16 : Addr} {od16 an16 : Option Addr} {sl16 : Array (Option Value)} {oc16 kV16 dc16 pm16  ct16 : Value} {c0 P0 : Addr} {ts : List Addr} {f17 : Addr} {od17 an17 : Option Addr} {sl17 : Array (Option Value)} {oc17 kV17 dc17 pm17 cd17 ct17 : Value} {f18 : Addr} {od18 an18 : Option Addr} {sl18 : Array (Option Value)} {oc18 kV18 dc18 pm18 cd18 ct18 : Value} {f19 : Addr} {od19 an19 : Option Addr} {sl19 : Array (Option Value)} {oc19 kV19 dc19 pm19 cd19 ct19 : Value} {f20 : Addr} {od20 an20 : Option Addr} {sl20 : Array (Option Value)} {oc20 kV20 dc20 pm20 cd20 ct20 : Value} {f21 : Addr} {od21 an21 : Option Addr} {sl21 : Array (Option Value)} {oc21 kV21 dc21 pm21 cd21 ct21 : Value} {f22 : Addr} {od22 an22 : Option Addr} {sl22 : Array (Option Value)} {oc22 kV22 dc22 pm22 cd22 ct22 : Value} {f23 : Addr} {od23 an23 : Option Addr} {sl23 : Array (Option Value)} {oc23 kV23 dc23 pm23 cd23 ct23 : Value} {f24 : Addr} {od24 an24 : Option Addr} {sl24 : Array (Option Value)} {oc24 kV24 dc24 pm24 cd24 ct24 : Value} {f25 : Addr} {od25 an25 : Option Addr} {sl25 : Array (Option Value)} {oc25 kV25 dc25 pm25 cd25 ct25 : Value} {f26 : Addr} {od26 an26 : Option Addr} {sl26 : Array (Option Value)} {oc26 kV26 dc26 pm26 cd26 ct26 : Value} {f27 : Addr} {od27 an27 : Option Addr} {sl27 : Array (Option Value)} {oc27 kV27 dc27 pm27 cd27 ct27 : Value} {f28 : Addr} {od28 an28 : Option Addr} {sl28 : Array (Option Value)} {oc28 kV28 dc28 pm28 cd28 ct28 : Value} {f29 : Addr} {od29 an29 : Option Addr} {sl29 : Array (Option Value)} {oc29 kV29 dc29 pm29 cd29 ct29 : Value} {f30 : Addr} {od30 an30 : Option Addr} {sl30 : Array (Option Value)} {oc30 kV30 dc30 pm30 cd30 ct30 : Value} {f31 : Addr} {od31 an31 : Option Addr} {sl31 : Array (Option Value)} {oc31 kV31 dc31 pm31 cd31 ct31 : Value} {f32 : Addr} {od32 an32 : Option Addr} {sl32 : Array (Option Value)} {oc32 kV32 dc32 pm32 cd32 ct32 : Value} {f33 : Addr} {od33 an33 : Option Addr} {sl33 : Array (Option Value)} {oc33 kV33 dc33 pm33 cd33 ct33 : Value} {f34 : Addr} {od34 an34 : Option Addr} {sl34 : Array (Option Value)} {oc34 kV34 dc34 pm34 cd34 ct34 : Value} {f35 : Addr} {od35 an35 : Option Addr} {sl35 : Array (Option Value)} {oc35 kV35 dc35 pm35 cd35 ct35 : Value} {f36 : Addr} {od36 an36 : Option Addr} {sl36 : Array (Option Value)} {oc36 kV36 dc36 pm36 cd36 ct36 : Value} {f37 : Addr} {od37 an37 : Option Addr} {sl37 : Array (Option Value)} {oc37 kV37 dc37 pm37 cd37 ct37 : Value} {f38 : Addr} {od38 an38 : Option Addr} {sl38 : Array (Option Value)} {oc38 kV38 dc38 pm38 cd38 ct38 : Value} (X : K.In h) (G : h.Ns mainGlobals mg)
    (z_abs : PySem.W.nsIn K mainGlobals "abs" = some none)
    (z_all : PySem.W.nsIn K mainGlobals "all" = some none)
    (z_bool : PySem.W.nsIn K mainGlobals "bool" = some none)
    (z_enumerate : PySem.W.nsIn K mainGlobals "enumerate" = some none)
    (z_int : PySem.W.nsIn K mainGlobals "int" = some none)
    (z_isinstance : PySem.W.nsIn K mainGlobals "isinstance" = some none)
    (z_len : PySem.W.nsIn K mainGlobals "len" = some none)
    (z_list : PySem.W.nsIn K mainGlobals "list" = some none)
    (z_max : PySem.W.nsIn K mainGlobals "max" = some none)
    (z_min : PySem.W.nsIn K mainGlobals "min" = some none)
    (z_ord : PySem.W.nsIn K mainGlobals "ord" = some none)
    (z_range : PySem.W.nsIn K mainGlobals "range" = some none)
    (z_sorted : PySem.W.nsIn K mainGlobals "sorted" = some none)
    (z_str : PySem.W.nsIn K mainGlobals "str" = some none)
    (z_sum : PySem.W.nsIn K mainGlobals "sum" = some none)
    (z_tuple : PySem.W.nsIn K mainGlobals "tuple" = some none)
    (g_LETTERS : PySem.W.nsIn K mainGlobals "LETTERS" = some (some (.str "abcdefghijklmnopqrstuvwxyz" tk_LETTERS)))
    (g_MOST_DEEDS : PySem.W.nsIn K mainGlobals "MOST_DEEDS" = some (some (.int 1000 tk_MOST_DEEDS)))
    (g_MOST_LEAVES : PySem.W.nsIn K mainGlobals "MOST_LEAVES" = some (some (.int 64 tk_MOST_LEAVES)))
    (g_MOST_NAMES : PySem.W.nsIn K mainGlobals "MOST_NAMES" = some (some (.int 6 tk_MOST_NAMES)))
    (g_MOST_NUMBERS : PySem.W.nsIn K mainGlobals "MOST_NUMBERS" = some (some (.int 8 tk_MOST_NUMBERS)))
    (g_MOST_SIGNS : PySem.W.nsIn K mainGlobals "MOST_SIGNS" = some (some (.int 8 tk_MOST_SIGNS)))
    (g_SIZES : PySem.W.nsIn K mainGlobals "SIZES" = some (some (.ref p_SIZES))) (l_SIZES : K.lookup p_SIZES = some ⟨oc_SIZES, od_SIZES, .dict es_SIZES n_SIZES, sl_SIZES⟩) (d_SIZES : He.dicW K p_SIZES = some (He.keysIn w.params ["folder", "file", "put", "trim", "out", "move", "copy"])) (e_SIZES : es_SIZES.toList.map entI = ([("folder", 2), ("file", 2), ("put", 4), ("trim", 3), ("out", 2), ("move", 3), ("copy", 3)] : List (Str × Int)).map some)
    (g_TALLIES : PySem.W.nsIn K mainGlobals "TALLIES" = some (some (.int 2305843009213693951 tk_TALLIES)))
    (a0 : PySem.W.nsIn K mainGlobals "is_name" = some (some (.ref f0))) (l0 : K.lookup f0 = some ⟨oc0, od0, .func (PySem.W.fnOf "is_name" "is_name" (defArgs s_is_name) (defBody s_is_name) (defScope s_is_name) .none kV0 dc0 pm0 an0 cd0 ct0), sl0⟩) (c0x : PySem.W.codeIn K cd0 "is_name" = true) (k0 : PySem.W.keepIn K (.ref f0) = true)
    (a1 : PySem.W.nsIn K mainGlobals "is_path" = some (some (.ref f1))) (l1 : K.lookup f1 = some ⟨oc1, od1, .func (PySem.W.fnOf "is_path" "is_path" (defArgs s_is_path) (defBody s_is_path) (defScope s_is_path) .none kV1 dc1 pm1 an1 cd1 ct1), sl1⟩) (c1x : PySem.W.codeIn K cd1 "is_path" = true) (k1 : PySem.W.keepIn K (.ref f1) = true)
    (a2 : PySem.W.nsIn K mainGlobals "is_number" = some (some (.ref f2))) (l2 : K.lookup f2 = some ⟨oc2, od2, .func (PySem.W.fnOf "is_number" "is_number" (defArgs s_is_number) (defBody s_is_number) (defScope s_is_number) .none kV2 dc2 pm2 an2 cd2 ct2), sl2⟩) (c2x : PySem.W.codeIn K cd2 "is_number" = true) (k2 : PySem.W.keepIn K (.ref f2) = true)
    (a3 : PySem.W.nsIn K mainGlobals "is_leaf" = some (some (.ref f3))) (l3 : K.lookup f3 = some ⟨oc3, od3, .func (PySem.W.fnOf "is_leaf" "is_leaf" (defArgs s_is_leaf) (defBody s_is_leaf) (defScope s_is_leaf) .none kV3 dc3 pm3 an3 cd3 ct3), sl3⟩) (c3x : PySem.W.codeIn K cd3 "is_leaf" = true) (k3 : PySem.W.keepIn K (.ref f3) = true)
    (a4 : PySem.W.nsIn K mainGlobals "is_way" = some (some (.ref f4))) (l4 : K.lookup f4 = some ⟨oc4, od4, .func (PySem.W.fnOf "is_way" "is_way" (defArgs s_is_way) (defBody s_is_way) (defScope s_is_way) .none kV4 dc4 pm4 an4 cd4 ct4), sl4⟩) (c4x : PySem.W.codeIn K cd4 "is_way" = true) (k4 : PySem.W.keepIn K (.ref f4) = true)
    (a5 : PySem.W.nsIn K mainGlobals "is_count" = some (some (.ref f5))) (l5 : K.lookup f5 = some ⟨oc5, od5, .func (PySem.W.fnOf "is_count" "is_count" (defArgs s_is_count) (defBody s_is_count) (defScope s_is_count) .none kV5 dc5 pm5 an5 cd5 ct5), sl5⟩) (c5x : PySem.W.codeIn K cd5 "is_count" = true) (k5 : PySem.W.keepIn K (.ref f5) = true)
    (a6 : PySem.W.nsIn K mainGlobals "is_deed" = some (some (.ref f6))) (l6 : K.lookup f6 = some ⟨oc6, od6, .func (PySem.W.fnOf "is_deed" "is_deed" (defArgs s_is_deed) (defBody s_is_deed) (defScope s_is_deed) .none kV6 dc6 pm6 an6 cd6 ct6), sl6⟩) (c6x : PySem.W.codeIn K cd6 "is_deed" = true) (k6 : PySem.W.keepIn K (.ref f6) = true)
    (a7 : PySem.W.nsIn K mainGlobals "is_tally" = some (some (.ref f7))) (l7 : K.lookup f7 = some ⟨oc7, od7, .func (PySem.W.fnOf "is_tally" "is_tally" (defArgs s_is_tally) (defBody s_is_tally) (defScope s_is_tally) .none kV7 dc7 pm7 an7 cd7 ct7), sl7⟩) (c7x : PySem.W.codeIn K cd7 "is_tally" = true) (k7 : PySem.W.keepIn K (.ref f7) = true)
    (a8 : PySem.W.nsIn K mainGlobals "is_sent" = some (some (.ref f8))) (l8 : K.lookup f8 = some ⟨oc8, od8, .func (PySem.W.fnOf "is_sent" "is_sent" (defArgs s_is_sent) (defBody s_is_sent) (defScope s_is_sent) .none kV8 dc8 pm8 an8 cd8 ct8), sl8⟩) (c8x : PySem.W.codeIn K cd8 "is_sent" = true) (k8 : PySem.W.keepIn K (.ref f8) = true)
    (a9 : PySem.W.nsIn K mainGlobals "_law_mixed" = some (some (.ref f9))) (l9 : K.lookup f9 = some ⟨oc9, od9, .func (PySem.W.fnOf "_law_mixed" "_law_mixed" (defArgs s__law_mixed) (defBody s__law_mixed) (defScope s__law_mixed) .none kV9 dc9 pm9 an9 cd9 ct9), sl9⟩) (c9x : PySem.W.codeIn K cd9 "_law_mixed" = true) (k9 : PySem.W.keepIn K (.ref f9) = true)
    (a10 : PySem.W.nsIn K mainGlobals "_law_draws" = some (some (.ref f10))) (l10 : K.lookup f10 = some ⟨oc10, od10, .func (PySem.W.fnOf "_law_draws" "_law_draws" (defArgs s__law_draws) (defBody s__law_draws) (defScope s__law_draws) .none kV10 dc10 pm10 an10 cd10 ct10), sl10⟩) (c10x : PySem.W.codeIn K cd10 "_law_draws" = true) (k10 : PySem.W.keepIn K (.ref f10) = true)
    (a11 : PySem.W.nsIn K mainGlobals "_law_next" = some (some (.ref f11))) (l11 : K.lookup f11 = some ⟨oc11, od11, .func (PySem.W.fnOf "_law_next" "_law_next" (defArgs s__law_next) (defBody s__law_next) (defScope s__law_next) .none kV11 dc11 pm11 an11 cd11 ct11), sl11⟩) (c11x : PySem.W.codeIn K cd11 "_law_next" = true) (k11 : PySem.W.keepIn K (.ref f11) = true)
    (a12 : PySem.W.nsIn K mainGlobals "_law_name" = some (some (.ref f12))) (l12 : K.lookup f12 = some ⟨oc12, od12, .func (PySem.W.fnOf "_law_name" "_law_name" (defArgs s__law_name) (defBody s__law_name) (defScope s__law_name) .none kV12 dc12 pm12 an12 cd12 ct12), sl12⟩) (c12x : PySem.W.codeIn K cd12 "_law_name" = true) (k12 : PySem.W.keepIn K (.ref f12) = true)
    (a13 : PySem.W.nsIn K mainGlobals "_law_path" = some (some (.ref f13))) (l13 : K.lookup f13 = some ⟨oc13, od13, .func (PySem.W.fnOf "_law_path" "_law_path" (defArgs s__law_path) (defBody s__law_path) (defScope s__law_path) .none kV13 dc13 pm13 an13 cd13 ct13), sl13⟩) (c13x : PySem.W.codeIn K cd13 "_law_path" = true) (k13 : PySem.W.keepIn K (.ref f13) = true)
    (a14 : PySem.W.nsIn K mainGlobals "_law_leaf" = some (some (.ref f14))) (l14 : K.lookup f14 = some ⟨oc14, od14, .func (PySem.W.fnOf "_law_leaf" "_law_leaf" (defArgs s__law_leaf) (defBody s__law_leaf) (defScope s__law_leaf) .none kV14 dc14 pm14 an14 cd14 ct14), sl14⟩) (c14x : PySem.W.codeIn K cd14 "_law_leaf" = true) (k14 : PySem.W.keepIn K (.ref f14) = true)
    (a15 : PySem.W.nsIn K mainGlobals "_law_code" = some (some (.ref f15))) (l15 : K.lookup f15 = some ⟨oc15, od15, .func (PySem.W.fnOf "_law_code" "_law_code" (defArgs s__law_code) (defBody s__law_code) (defScope s__law_code) .none kV15 dc15 pm15 an15 cd15 ct15), sl15⟩) (c15x : PySem.W.codeIn K cd15 "_law_code" = true) (k15 : PySem.W.keepIn K (.ref f15) = true)
    (a16 : PySem.W.nsIn K mainGlobals "_law_within" = some (some (.ref f16))) (l16 : K.lookup f16 = some ⟨oc16, od16, .func (PySem.W.fnOf "_law_within" "_law_within" (defArgs s__law_within) (defBody s__law_within) (defScope s__law_within) .none kV16 dc16 pm16 an16 (.ref c0) ct16), sl16⟩) (c16x : PySem.W.codeIn K (.ref c0) "_law_within" = true) (k16 : PySem.W.keepIn K (.ref f16) = true)
    (mP0 : P0 ∈ ts) (hc0 : PySem.W.codeHdIn K c0 P0 = true) (nP0 : K.lookup P0 = none)
    (a17 : PySem.W.nsIn K mainGlobals "_law_is_folder" = some (some (.ref f17))) (l17 : K.lookup f17 = some ⟨oc17, od17, .func (PySem.W.fnOf "_law_is_folder" "_law_is_folder" (defArgs s__law_is_folder) (defBody s__law_is_folder) (defScope s__law_is_folder) .none kV17 dc17 pm17 an17 cd17 ct17), sl17⟩) (c17x : PySem.W.codeIn K cd17 "_law_is_folder" = true) (k17 : PySem.W.keepIn K (.ref f17) = true)
    (a18 : PySem.W.nsIn K mainGlobals "_law_under" = some (some (.ref f18))) (l18 : K.lookup f18 = some ⟨oc18, od18, .func (PySem.W.fnOf "_law_under" "_law_under" (defArgs s__law_under) (defBody s__law_under) (defScope s__law_under) .none kV18 dc18 pm18 an18 cd18 ct18), sl18⟩) (c18x : PySem.W.codeIn K cd18 "_law_under" = true) (k18 : PySem.W.keepIn K (.ref f18) = true)
    (a19 : PySem.W.nsIn K mainGlobals "_law_twin" = some (some (.ref f19))) (l19 : K.lookup f19 = some ⟨oc19, od19, .func (PySem.W.fnOf "_law_twin" "_law_twin" (defArgs s__law_twin) (defBody s__law_twin) (defScope s__law_twin) .none kV19 dc19 pm19 an19 cd19 ct19), sl19⟩) (c19x : PySem.W.codeIn K cd19 "_law_twin" = true) (k19 : PySem.W.keepIn K (.ref f19) = true)
    (a20 : PySem.W.nsIn K mainGlobals "_law_moved" = some (some (.ref f20))) (l20 : K.lookup f20 = some ⟨oc20, od20, .func (PySem.W.fnOf "_law_moved" "_law_moved" (defArgs s__law_moved) (defBody s__law_moved) (defScope s__law_moved) .none kV20 dc20 pm20 an20 cd20 ct20), sl20⟩) (c20x : PySem.W.codeIn K cd20 "_law_moved" = true) (k20 : PySem.W.keepIn K (.ref f20) = true)
    (a21 : PySem.W.nsIn K mainGlobals "_law_do" = some (some (.ref f21))) (l21 : K.lookup f21 = some ⟨oc21, od21, .func (PySem.W.fnOf "_law_do" "_law_do" (defArgs s__law_do) (defBody s__law_do) (defScope s__law_do) .none kV21 dc21 pm21 an21 cd21 ct21), sl21⟩) (c21x : PySem.W.codeIn K cd21 "_law_do" = true) (k21 : PySem.W.keepIn K (.ref f21) = true)
    (a22 : PySem.W.nsIn K mainGlobals "_law_old_path" = some (some (.ref f22))) (l22 : K.lookup f22 = some ⟨oc22, od22, .func (PySem.W.fnOf "_law_old_path" "_law_old_path" (defArgs s__law_old_path) (defBody s__law_old_path) (defScope s__law_old_path) .none kV22 dc22 pm22 an22 cd22 ct22), sl22⟩) (c22x : PySem.W.codeIn K cd22 "_law_old_path" = true) (k22 : PySem.W.keepIn K (.ref f22) = true)
    (a23 : PySem.W.nsIn K mainGlobals "_law_new_path" = some (some (.ref f23))) (l23 : K.lookup f23 = some ⟨oc23, od23, .func (PySem.W.fnOf "_law_new_path" "_law_new_path" (defArgs s__law_new_path) (defBody s__law_new_path) (defScope s__law_new_path) .none kV23 dc23 pm23 an23 cd23 ct23), sl23⟩) (c23x : PySem.W.codeIn K cd23 "_law_new_path" = true) (k23 : PySem.W.keepIn K (.ref f23) = true)
    (a24 : PySem.W.nsIn K mainGlobals "_law_deed" = some (some (.ref f24))) (l24 : K.lookup f24 = some ⟨oc24, od24, .func (PySem.W.fnOf "_law_deed" "_law_deed" (defArgs s__law_deed) (defBody s__law_deed) (defScope s__law_deed) .none kV24 dc24 pm24 an24 cd24 ct24), sl24⟩) (c24x : PySem.W.codeIn K cd24 "_law_deed" = true) (k24 : PySem.W.keepIn K (.ref f24) = true)
    (a25 : PySem.W.nsIn K mainGlobals "_law_room" = some (some (.ref f25))) (l25 : K.lookup f25 = some ⟨oc25, od25, .func (PySem.W.fnOf "_law_room" "_law_room" (defArgs s__law_room) (defBody s__law_room) (defScope s__law_room) .none kV25 dc25 pm25 an25 cd25 ct25), sl25⟩) (c25x : PySem.W.codeIn K cd25 "_law_room" = true) (k25 : PySem.W.keepIn K (.ref f25) = true)
    (a26 : PySem.W.nsIn K mainGlobals "_law_further" = some (some (.ref f26))) (l26 : K.lookup f26 = some ⟨oc26, od26, .func (PySem.W.fnOf "_law_further" "_law_further" (defArgs s__law_further) (defBody s__law_further) (defScope s__law_further) .none kV26 dc26 pm26 an26 cd26 ct26), sl26⟩) (c26x : PySem.W.codeIn K cd26 "_law_further" = true) (k26 : PySem.W.keepIn K (.ref f26) = true)
    (a27 : PySem.W.nsIn K mainGlobals "_law_two" = some (some (.ref f27))) (l27 : K.lookup f27 = some ⟨oc27, od27, .func (PySem.W.fnOf "_law_two" "_law_two" (defArgs s__law_two) (defBody s__law_two) (defScope s__law_two) .none kV27 dc27 pm27 an27 cd27 ct27), sl27⟩) (c27x : PySem.W.codeIn K cd27 "_law_two" = true) (k27 : PySem.W.keepIn K (.ref f27) = true)
    (a28 : PySem.W.nsIn K mainGlobals "_law_all_made" = some (some (.ref f28))) (l28 : K.lookup f28 = some ⟨oc28, od28, .func (PySem.W.fnOf "_law_all_made" "_law_all_made" (defArgs s__law_all_made) (defBody s__law_all_made) (defScope s__law_all_made) .none kV28 dc28 pm28 an28 cd28 ct28), sl28⟩) (c28x : PySem.W.codeIn K cd28 "_law_all_made" = true) (k28 : PySem.W.keepIn K (.ref f28) = true)
    (a29 : PySem.W.nsIn K mainGlobals "_law_on_leaves" = some (some (.ref f29))) (l29 : K.lookup f29 = some ⟨oc29, od29, .func (PySem.W.fnOf "_law_on_leaves" "_law_on_leaves" (defArgs s__law_on_leaves) (defBody s__law_on_leaves) (defScope s__law_on_leaves) .none kV29 dc29 pm29 an29 cd29 ct29), sl29⟩) (c29x : PySem.W.codeIn K cd29 "_law_on_leaves" = true) (k29 : PySem.W.keepIn K (.ref f29) = true)
    (a30 : PySem.W.nsIn K mainGlobals "_law_like" = some (some (.ref f30))) (l30 : K.lookup f30 = some ⟨oc30, od30, .func (PySem.W.fnOf "_law_like" "_law_like" (defArgs s__law_like) (defBody s__law_like) (defScope s__law_like) .none kV30 dc30 pm30 an30 cd30 ct30), sl30⟩) (c30x : PySem.W.codeIn K cd30 "_law_like" = true) (k30 : PySem.W.keepIn K (.ref f30) = true)
    (a31 : PySem.W.nsIn K mainGlobals "_law_between" = some (some (.ref f31))) (l31 : K.lookup f31 = some ⟨oc31, od31, .func (PySem.W.fnOf "_law_between" "_law_between" (defArgs s__law_between) (defBody s__law_between) (defScope s__law_between) .none kV31 dc31 pm31 an31 cd31 ct31), sl31⟩) (c31x : PySem.W.codeIn K cd31 "_law_between" = true) (k31 : PySem.W.keepIn K (.ref f31) = true)
    (a32 : PySem.W.nsIn K mainGlobals "_law_lines" = some (some (.ref f32))) (l32 : K.lookup f32 = some ⟨oc32, od32, .func (PySem.W.fnOf "_law_lines" "_law_lines" (defArgs s__law_lines) (defBody s__law_lines) (defScope s__law_lines) .none kV32 dc32 pm32 an32 cd32 ct32), sl32⟩) (c32x : PySem.W.codeIn K cd32 "_law_lines" = true) (k32 : PySem.W.keepIn K (.ref f32) = true)
    (a33 : PySem.W.nsIn K mainGlobals "_law_tally" = some (some (.ref f33))) (l33 : K.lookup f33 = some ⟨oc33, od33, .func (PySem.W.fnOf "_law_tally" "_law_tally" (defArgs s__law_tally) (defBody s__law_tally) (defScope s__law_tally) .none kV33 dc33 pm33 an33 cd33 ct33), sl33⟩) (c33x : PySem.W.codeIn K cd33 "_law_tally" = true) (k33 : PySem.W.keepIn K (.ref f33) = true)
    (a34 : PySem.W.nsIn K mainGlobals "_law_no_deed" = some (some (.ref f34))) (l34 : K.lookup f34 = some ⟨oc34, od34, .func (PySem.W.fnOf "_law_no_deed" "_law_no_deed" (defArgs s__law_no_deed) (defBody s__law_no_deed) (defScope s__law_no_deed) .none kV34 dc34 pm34 an34 cd34 ct34), sl34⟩) (c34x : PySem.W.codeIn K cd34 "_law_no_deed" = true) (k34 : PySem.W.keepIn K (.ref f34) = true)
    (a35 : PySem.W.nsIn K mainGlobals "_law_other_thing" = some (some (.ref f35))) (l35 : K.lookup f35 = some ⟨oc35, od35, .func (PySem.W.fnOf "_law_other_thing" "_law_other_thing" (defArgs s__law_other_thing) (defBody s__law_other_thing) (defScope s__law_other_thing) .none kV35 dc35 pm35 an35 cd35 ct35), sl35⟩) (c35x : PySem.W.codeIn K cd35 "_law_other_thing" = true) (k35 : PySem.W.keepIn K (.ref f35) = true)
    (a36 : PySem.W.nsIn K mainGlobals "_law_bent" = some (some (.ref f36))) (l36 : K.lookup f36 = some ⟨oc36, od36, .func (PySem.W.fnOf "_law_bent" "_law_bent" (defArgs s__law_bent) (defBody s__law_bent) (defScope s__law_bent) .none kV36 dc36 pm36 an36 cd36 ct36), sl36⟩) (c36x : PySem.W.codeIn K cd36 "_law_bent" = true) (k36 : PySem.W.keepIn K (.ref f36) = true)
    (a37 : PySem.W.nsIn K mainGlobals "_law_said" = some (some (.ref f37))) (l37 : K.lookup f37 = some ⟨oc37, od37, .func (PySem.W.fnOf "_law_said" "_law_said" (defArgs s__law_said) (defBody s__law_said) (defScope s__law_said) .none kV37 dc37 pm37 an37 cd37 ct37), sl37⟩) (c37x : PySem.W.codeIn K cd37 "_law_said" = true) (k37 : PySem.W.keepIn K (.ref f37) = true)
    (a38 : PySem.W.nsIn K mainGlobals "law" = some (some (.ref f38))) (l38 : K.lookup f38 = some ⟨oc38, od38, .func (PySem.W.fnOf "law" "law" (defArgs s_law) (defBody s_law) (defScope s_law) .none kV38 dc38 pm38 an38 cd38 ct38), sl38⟩) (c38x : PySem.W.codeIn K cd38 "law" = true) (k38 : PySem.W.keepIn K (.ref f38) = true) (TB : TabB base mg c0 P0) : @Top ⟨[(P0, "_law_within.<locals>.<lambda>")]⟩ w K mg base :=
  letI : TabT := ⟨[(P0, "_law_within.<locals>.<lambda>")]⟩
  { n_abs := PySem.W.mg_none_of X G z_abs,
    n_all := PySem.W.mg_none_of X G z_all,
    n_bool := PySem.W.mg_none_of X G z_bool,
    n_enumerate := PySem.W.mg_none_of X G z_enumerate,
    n_int := PySem.W.mg_none_of X G z_int,
    n_isinstance := PySem.W.mg_none_of X G z_isinstance,
    n_len := PySem.W.mg_none_of X G z_len,
    n_list := PySem.W.mg_none_of X G z_list,
    n_max := PySem.W.mg_none_of X G z_max,
    n_min := PySem.W.mg_none_of X G z_min,
    n_ord := PySem.W.mg_none_of X G z_ord,
    n_range := PySem.W.mg_none_of X G z_range,
    n_sorted := PySem.W.mg_none_of X G z_sorted,
    n_str := PySem.W.mg_none_of X G z_str,
    n_sum := PySem.W.mg_none_of X G z_sum,
    n_tuple := PySem.W.mg_none_of X G z_tuple,
    t_LETTERS := tk_LETTERS, g_LETTERS := PySem.W.mg_of X G g_LETTERS,
    t_MOST_DEEDS := tk_MOST_DEEDS, g_MOST_DEEDS := PySem.W.mg_of X G g_MOST_DEEDS,
    t_MOST_LEAVES := tk_MOST_LEAVES, g_MOST_LEAVES := PySem.W.mg_of X G g_MOST_LEAVES,
    t_MOST_NAMES := tk_MOST_NAMES, g_MOST_NAMES := PySem.W.mg_of X G g_MOST_NAMES,
    t_MOST_NUMBERS := tk_MOST_NUMBERS, g_MOST_NUMBERS := PySem.W.mg_of X G g_MOST_NUMBERS,
    t_MOST_SIGNS := tk_MOST_SIGNS, g_MOST_SIGNS := PySem.W.mg_of X G g_MOST_SIGNS,
    p_SIZES := p_SIZES, g_SIZES := PySem.W.mg_of X G g_SIZES, k_SIZES := ktab_ints (kvs := [("folder", 2), ("file", 2), ("put", 4), ("trim", 3), ("out", 2), ("move", 3), ("copy", 3)]) l_SIZES d_SIZES e_SIZES,
    t_TALLIES := tk_TALLIES, g_TALLIES := PySem.W.mg_of X G g_TALLIES,
    a_is_name := f0, d_is_name := _, F_is_name := fun_mk (st := s_is_name) l0 c0x k0, m_is_name := PySem.W.mg_of X G a0, b_is_name := (fun_mk (st := s_is_name) l0 c0x k0).binds (ps := ["one"]) fun _ _ _ _ _ _ us hl => match us, hl with | [_], _ => rfl,
    a_is_path := f1, d_is_path := _, F_is_path := fun_mk (st := s_is_path) l1 c1x k1, m_is_path := PySem.W.mg_of X G a1, b_is_path := (fun_mk (st := s_is_path) l1 c1x k1).binds (ps := ["one"]) fun _ _ _ _ _ _ us hl => match us, hl with | [_], _ => rfl,
    a_is_number := f2, d_is_number := _, F_is_number := fun_mk (st := s_is_number) l2 c2x k2, m_is_number := PySem.W.mg_of X G a2, b_is_number := (fun_mk (st := s_is_number) l2 c2x k2).binds (ps := ["one"]) fun _ _ _ _ _ _ us hl => match us, hl with | [_], _ => rfl,
    a_is_leaf := f3, d_is_leaf := _, F_is_leaf := fun_mk (st := s_is_leaf) l3 c3x k3, m_is_leaf := PySem.W.mg_of X G a3, b_is_leaf := (fun_mk (st := s_is_leaf) l3 c3x k3).binds (ps := ["one"]) fun _ _ _ _ _ _ us hl => match us, hl with | [_], _ => rfl,
    a_is_way := f4, d_is_way := _, F_is_way := fun_mk (st := s_is_way) l4 c4x k4, m_is_way := PySem.W.mg_of X G a4, b_is_way := (fun_mk (st := s_is_way) l4 c4x k4).binds (ps := ["one"]) fun _ _ _ _ _ _ us hl => match us, hl with | [_], _ => rfl,
    a_is_count := f5, d_is_count := _, F_is_count := fun_mk (st := s_is_count) l5 c5x k5, m_is_count := PySem.W.mg_of X G a5, b_is_count := (fun_mk (st := s_is_count) l5 c5x k5).binds (ps := ["one"]) fun _ _ _ _ _ _ us hl => match us, hl with | [_], _ => rfl,
    a_is_deed := f6, d_is_deed := _, F_is_deed := fun_mk (st := s_is_deed) l6 c6x k6, m_is_deed := PySem.W.mg_of X G a6, b_is_deed := (fun_mk (st := s_is_deed) l6 c6x k6).binds (ps := ["one"]) fun _ _ _ _ _ _ us hl => match us, hl with | [_], _ => rfl,
    a_is_tally := f7, d_is_tally := _, F_is_tally := fun_mk (st := s_is_tally) l7 c7x k7, m_is_tally := PySem.W.mg_of X G a7, b_is_tally := (fun_mk (st := s_is_tally) l7 c7x k7).binds (ps := ["one"]) fun _ _ _ _ _ _ us hl => match us, hl with | [_], _ => rfl,
    a_is_sent := f8, d_is_sent := _, F_is_sent := fun_mk (st := s_is_sent) l8 c8x k8, m_is_sent := PySem.W.mg_of X G a8, b_is_sent := (fun_mk (st := s_is_sent) l8 c8x k8).binds (ps := ["one"]) fun _ _ _ _ _ _ us hl => match us, hl with | [_], _ => rfl,
    a__law_mixed := f9, d__law_mixed := _, F__law_mixed := fun_mk (st := s__law_mixed) l9 c9x k9, m__law_mixed := PySem.W.mg_of X G a9, b__law_mixed := (fun_mk (st := s__law_mixed) l9 c9x k9).binds (ps := ["_law_cell", "_law_k"]) fun _ _ _ _ _ _ us hl => match us, hl with | [_, _], _ => rfl,
    a__law_draws := f10, d__law_draws := _, F__law_draws := fun_mk (st := s__law_draws) l10 c10x k10, m__law_draws := PySem.W.mg_of X G a10, b__law_draws := (fun_mk (st := s__law_draws) l10 c10x k10).binds (ps := ["_law_script"]) fun _ _ _ _ _ _ us hl => match us, hl with | [_], _ => rfl,
    a__law_next := f11, d__law_next := _, F__law_next := fun_mk (st := s__law_next) l11 c11x k11, m__law_next := PySem.W.mg_of X G a11, b__law_next := (fun_mk (st := s__law_next) l11 c11x k11).binds (ps := ["_law_drawn"]) fun _ _ _ _ _ _ us hl => match us, hl with | [_], _ => rfl,
    a__law_name := f12, d__law_name := _, F__law_name := fun_mk (st := s__law_name) l12 c12x k12, m__law_name := PySem.W.mg_of X G a12, b__law_name := (fun_mk (st := s__law_name) l12 c12x k12).binds (ps := ["_law_number"]) fun _ _ _ _ _ _ us hl => match us, hl with | [_], _ => rfl,
    a__law_path := f13, d__law_path := _, F__law_path := fun_mk (st := s__law_path) l13 c13x k13, m__law_path := PySem.W.mg_of X G a13, b__law_path := (fun_mk (st := s__law_path) l13 c13x k13).binds (ps := ["_law_drawn"]) fun _ _ _ _ _ _ us hl => match us, hl with | [_], _ => rfl,
    a__law_leaf := f14, d__law_leaf := _, F__law_leaf := fun_mk (st := s__law_leaf) l14 c14x k14, m__law_leaf := PySem.W.mg_of X G a14, b__law_leaf := (fun_mk (st := s__law_leaf) l14 c14x k14).binds (ps := ["_law_drawn"]) fun _ _ _ _ _ _ us hl => match us, hl with | [_], _ => rfl,
    a__law_code := f15, d__law_code := _, F__law_code := fun_mk (st := s__law_code) l15 c15x k15, m__law_code := PySem.W.mg_of X G a15, b__law_code := (fun_mk (st := s__law_code) l15 c15x k15).binds (ps := ["_law_name_here"]) fun _ _ _ _ _ _ us hl => match us, hl with | [_], _ => rfl,
    c__law_within := c0, P__law_within := P0, TB__law_within := TB, tt__law_within := rfl, a__law_within := f16, d__law_within := _, F__law_within := funT_mk (st := s__law_within) l16 c16x k16, m__law_within := PySem.W.mg_of X G a16, b__law_within := (fun_mk (st := s__law_within) l16 c16x k16).binds (ps := ["_law_model", "_law_path_here"]) fun _ _ _ _ _ _ us hl => match us, hl with | [_, _], _ => rfl,
    a__law_is_folder := f17, d__law_is_folder := _, F__law_is_folder := fun_mk (st := s__law_is_folder) l17 c17x k17, m__law_is_folder := PySem.W.mg_of X G a17, b__law_is_folder := (fun_mk (st := s__law_is_folder) l17 c17x k17).binds (ps := ["_law_model", "_law_path_here"]) fun _ _ _ _ _ _ us hl => match us, hl with | [_, _], _ => rfl,
    a__law_under := f18, d__law_under := _, F__law_under := fun_mk (st := s__law_under) l18 c18x k18, m__law_under := PySem.W.mg_of X G a18, b__law_under := (fun_mk (st := s__law_under) l18 c18x k18).binds (ps := ["_law_model", "_law_path_here"]) fun _ _ _ _ _ _ us hl => match us, hl with | [_, _], _ => rfl,
    a__law_twin := f19, d__law_twin := _, F__law_twin := fun_mk (st := s__law_twin) l19 c19x k19, m__law_twin := PySem.W.mg_of X G a19, b__law_twin := (fun_mk (st := s__law_twin) l19 c19x k19).binds (ps := ["_law_model"]) fun _ _ _ _ _ _ us hl => match us, hl with | [_], _ => rfl,
    a__law_moved := f20, d__law_moved := _, F__law_moved := fun_mk (st := s__law_moved) l20 c20x k20, m__law_moved := PySem.W.mg_of X G a20, b__law_moved := (fun_mk (st := s__law_moved) l20 c20x k20).binds (ps := ["_law_model", "_law_deed_here"]) fun _ _ _ _ _ _ us hl => match us, hl with | [_, _], _ => rfl,
    a__law_do := f21, d__law_do := _, F__law_do := fun_mk (st := s__law_do) l21 c21x k21, m__law_do := PySem.W.mg_of X G a21, b__law_do := (fun_mk (st := s__law_do) l21 c21x k21).binds (ps := ["_law_model", "_law_deed_here"]) fun _ _ _ _ _ _ us hl => match us, hl with | [_, _], _ => rfl,
    a__law_old_path := f22, d__law_old_path := _, F__law_old_path := fun_mk (st := s__law_old_path) l22 c22x k22, m__law_old_path := PySem.W.mg_of X G a22, b__law_old_path := (fun_mk (st := s__law_old_path) l22 c22x k22).binds (ps := ["_law_drawn", "_law_model"]) fun _ _ _ _ _ _ us hl => match us, hl with | [_, _], _ => rfl,
    a__law_new_path := f23, d__law_new_path := _, F__law_new_path := fun_mk (st := s__law_new_path) l23 c23x k23, m__law_new_path := PySem.W.mg_of X G a23, b__law_new_path := (fun_mk (st := s__law_new_path) l23 c23x k23).binds (ps := ["_law_drawn", "_law_model"]) fun _ _ _ _ _ _ us hl => match us, hl with | [_, _], _ => rfl,
    a__law_deed := f24, d__law_deed := _, F__law_deed := fun_mk (st := s__law_deed) l24 c24x k24, m__law_deed := PySem.W.mg_of X G a24, b__law_deed := (fun_mk (st := s__law_deed) l24 c24x k24).binds (ps := ["_law_drawn", "_law_model"]) fun _ _ _ _ _ _ us hl => match us, hl with | [_, _], _ => rfl,
    a__law_room := f25, d__law_room := _, F__law_room := fun_mk (st := s__law_room) l25 c25x k25, m__law_room := PySem.W.mg_of X G a25, b__law_room := (fun_mk (st := s__law_room) l25 c25x k25).binds (ps := ["_law_model"]) fun _ _ _ _ _ _ us hl => match us, hl with | [_], _ => rfl,
    a__law_further := f26, d__law_further := _, F__law_further := fun_mk (st := s__law_further) l26 c26x k26, m__law_further := PySem.W.mg_of X G a26, b__law_further := (fun_mk (st := s__law_further) l26 c26x k26).binds (ps := ["_law_drawn", "_law_model", "_law_most", "_law_top"]) fun _ _ _ _ _ _ us hl => match us, hl with | [_, _, _, _], _ => rfl,
    a__law_two := f27, d__law_two := _, F__law_two := fun_mk (st := s__law_two) l27 c27x k27, m__law_two := PySem.W.mg_of X G a27, b__law_two := (fun_mk (st := s__law_two) l27 c27x k27).binds (ps := ["_law_drawn", "_law_most"]) fun _ _ _ _ _ _ us hl => match us, hl with | [_, _], _ => rfl,
    a__law_all_made := f28, d__law_all_made := _, F__law_all_made := fun_mk (st := s__law_all_made) l28 c28x k28, m__law_all_made := PySem.W.mg_of X G a28, b__law_all_made := (fun_mk (st := s__law_all_made) l28 c28x k28).binds (ps := ["_law_model", "_law_path_here"]) fun _ _ _ _ _ _ us hl => match us, hl with | [_, _], _ => rfl,
    a__law_on_leaves := f29, d__law_on_leaves := _, F__law_on_leaves := fun_mk (st := s__law_on_leaves) l29 c29x k29, m__law_on_leaves := PySem.W.mg_of X G a29, b__law_on_leaves := (fun_mk (st := s__law_on_leaves) l29 c29x k29).binds (ps := ["_law_old", "_law_new", "_law_path_here"]) fun _ _ _ _ _ _ us hl => match us, hl with | [_, _, _], _ => rfl,
    a__law_like := f30, d__law_like := _, F__law_like := fun_mk (st := s__law_like) l30 c30x k30, m__law_like := PySem.W.mg_of X G a30, b__law_like := (fun_mk (st := s__law_like) l30 c30x k30).binds (ps := ["_law_first", "_law_second", "_law_path_here"]) fun _ _ _ _ _ _ us hl => match us, hl with | [_, _, _], _ => rfl,
    a__law_between := f31, d__law_between := _, F__law_between := fun_mk (st := s__law_between) l31 c31x k31, m__law_between := PySem.W.mg_of X G a31, b__law_between := (fun_mk (st := s__law_between) l31 c31x k31).binds (ps := ["_law_first", "_law_second", "_law_path_here"]) fun _ _ _ _ _ _ us hl => match us, hl with | [_, _, _], _ => rfl,
    a__law_lines := f32, d__law_lines := _, F__law_lines := fun_mk (st := s__law_lines) l32 c32x k32, m__law_lines := PySem.W.mg_of X G a32, b__law_lines := (fun_mk (st := s__law_lines) l32 c32x k32).binds (ps := ["_law_model", "_law_path_here"]) fun _ _ _ _ _ _ us hl => match us, hl with | [_, _], _ => rfl,
    a__law_tally := f33, d__law_tally := _, F__law_tally := fun_mk (st := s__law_tally) l33 c33x k33, m__law_tally := PySem.W.mg_of X G a33, b__law_tally := (fun_mk (st := s__law_tally) l33 c33x k33).binds (ps := ["_law_model"]) fun _ _ _ _ _ _ us hl => match us, hl with | [_], _ => rfl,
    a__law_no_deed := f34, d__law_no_deed := _, F__law_no_deed := fun_mk (st := s__law_no_deed) l34 c34x k34, m__law_no_deed := PySem.W.mg_of X G a34, b__law_no_deed := (fun_mk (st := s__law_no_deed) l34 c34x k34).binds (ps := ["_law_number"]) fun _ _ _ _ _ _ us hl => match us, hl with | [_], _ => rfl,
    a__law_other_thing := f35, d__law_other_thing := _, F__law_other_thing := fun_mk (st := s__law_other_thing) l35 c35x k35, m__law_other_thing := PySem.W.mg_of X G a35, b__law_other_thing := (fun_mk (st := s__law_other_thing) l35 c35x k35).binds (ps := ["_law_number"]) fun _ _ _ _ _ _ us hl => match us, hl with | [_], _ => rfl,
    a__law_bent := f36, d__law_bent := _, F__law_bent := fun_mk (st := s__law_bent) l36 c36x k36, m__law_bent := PySem.W.mg_of X G a36, b__law_bent := (fun_mk (st := s__law_bent) l36 c36x k36).binds (ps := ["_law_sent", "_law_number"]) fun _ _ _ _ _ _ us hl => match us, hl with | [_, _], _ => rfl,
    a__law_said := f37, d__law_said := _, F__law_said := fun_mk (st := s__law_said) l37 c37x k37, m__law_said := PySem.W.mg_of X G a37, b__law_said := (fun_mk (st := s__law_said) l37 c37x k37).binds (ps := ["_law_one", "_law_due"]) fun _ _ _ _ _ _ us hl => match us, hl with | [_, _], _ => rfl,
    a_law := f38, d_law := _, F_law := fun_mk (st := s_law) l38 c38x k38, m_law := PySem.W.mg_of X G a38, b_law := (fun_mk (st := s_law) l38 c38x k38).binds (ps := ["_law_script"]) fun _ _ _ _ _ _ us hl => match us, hl with | [_], _ => rfl }
theorem all_mk {l : PySem.W.OpenLaw} {w : World} {K : PySem.W.Frag} {h : Heap} {mg : Str → Option Value} {fa : Addr} {tk_LETTERS : Tok} {tk_MOST_DEEDS : Tok} {tk_MOST_LEAVES : Tok} {tk_MOST_NAMES : Tok} {tk_MOST_NUMBERS : Tok} {tk_MOST_SIGNS : Tok} {p_SIZES : Addr} {oc_SIZES : Value} {od_SIZES : Option Addr} {es_SIZES : Array DictEntry} {n_SIZES : Nat} {sl_SIZES : Array (Option Value)} {tk_TALLIES : Tok} {f0 : Addr} {od0 an0 : Option Addr} {sl0 : Array (Option Value)} {oc0 kV0 dc0 pm0 cd0 ct0 : Value} {f1 : Addr} {od1 an1 : Option Addr} {sl1 : Array (Option Value)} {oc1 kV1 dc1 pm1 cd1 ct1 : Value} {f2 : Addr} {od2 an2 : Option Addr} {sl2 : Array (Option Value)} {oc2 kV2 dc2 pm2 cd2 ct2 : Value} {f3 : Addr} {od3 an3 : Option Addr} {sl3 : Array (Option Value)} {oc3 kV3 dc3 pm3 cd3 ct3 : Value} {f4 : Addr} {od4 an4 : Option Addr} {sl4 : Array (Option Value)} {oc4 kV4 dc4 pm4 cd4 ct4 : Value} {f5 : Addr} {od5 an5 : Option Addr} {sl5 : Array (Option Value)} {oc5 kV5 dc5 pm5 cd5 ct5 : Value} {f6 : Addr} {od6 an6 : Option Addr} {sl6 : Array (Option Value)} {oc6 kV6 dc6 pm6 cd6 ct6 : Value} {f7 : Addr} {od7 an7 : Option Addr} {sl7 : Array (Option Value)} {oc7 kV7 dc7 pm7 cd7 ct7 : Value} {f8 : Addr} {od8 an8 : Option Addr} {sl8 : Array (Option Value)} {oc8 kV8 dc8 pm8 cd8 ct8 : Value} {f9 : Addr} {od9 an9 : Option Addr} {sl9 : Array (Option Value)} {oc9 kV9 dc9 pm9 cd9 ct9 : Value} {f10 : Addr} {od10 an10 : Option Addr} {sl10 : Array (Option Value)} {oc10 kV10 dc10 pm10 cd10 ct10 : Value} {f11 : Addr} {od11 an11 : Option Addr} {sl11 : Array (Option Value)} {oc11 kV11 dc11 pm11 cd11 ct11 : Value} {f12 : Addr} {od12 an12 : Option Addr} {sl12 : Array (Option Value)} {oc12 kV12 dc12 pm12 cd12 ct12 : Value} {f13 : Addr} {od13 an13 : Option Addr} {sl13 : Array (Option Value)} {oc13 kV13 dc13 pm13 cd13 ct13 : Value} {f14 : Addr} {od14 an14 : Option Addr} {sl14 : Array (Option Value)} {oc14 kV14 dc14 pm14 cd14 ct14 : Value} {f15 : Addr} {od15 an15 : Option Addr} {sl15 : Array (Option Value)} {oc15 kV15 dc15 pm15 cd15 ct15 : Value} {f16 : Addr} {od16 an16 : Option Addr} {sl16 : Array (Option Value)} {oc16 kV16 dc16 pm16  ct16 : Value} {c0 P0 : Addr} {ts : List Addr} {f17 : Addr} {od17 an17 : Option Addr} {sl17 : Array (Option Value)} {oc17 kV17 dc17 pm17 cd17 ct17 : Value} {f18 : Addr} {od18 an18 : Option Addr} {sl18 : Array (Option Value)} {oc18 kV18 dc18 pm18 cd18 ct18 : Value} {f19 : Addr} {od19 an19 : Option Addr} {sl19 : Array (Option Value)} {oc19 kV19 dc19 pm19 cd19 ct19 : Value} {f20 : Addr} {od20 an20 : Option Addr} {sl20 : Array (Option Value)} {oc20 kV20 dc20 pm20 cd20 ct20 : Value} {f21 : Addr} {od21 an21 : Option Addr} {sl21 : Array (Option Value)} {oc21 kV21 dc21 pm21 cd21 ct21 : Value} {f22 : Addr} {od22 an22 : Option Addr} {sl22 : Array (Option Value)} {oc22 kV22 dc22 pm22 cd22 ct22 : Value} {f23 : Addr} {od23 an23 : Option Addr} {sl23 : Array (Option Value)} {oc23 kV23 dc23 pm23 cd23 ct23 : Value} {f24 : Addr} {od24 an24 : Option Addr} {sl24 : Array (Option Value)} {oc24 kV24 dc24 pm24 cd24 ct24 : Value} {f25 : Addr} {od25 an25 : Option Addr} {sl25 : Array (Option Value)} {oc25 kV25 dc25 pm25 cd25 ct25 : Value} {f26 : Addr} {od26 an26 : Option Addr} {sl26 : Array (Option Value)} {oc26 kV26 dc26 pm26 cd26 ct26 : Value} {f27 : Addr} {od27 an27 : Option Addr} {sl27 : Array (Option Value)} {oc27 kV27 dc27 pm27 cd27 ct27 : Value} {f28 : Addr} {od28 an28 : Option Addr} {sl28 : Array (Option Value)} {oc28 kV28 dc28 pm28 cd28 ct28 : Value} {f29 : Addr} {od29 an29 : Option Addr} {sl29 : Array (Option Value)} {oc29 kV29 dc29 pm29 cd29 ct29 : Value} {f30 : Addr} {od30 an30 : Option Addr} {sl30 : Array (Option Value)} {oc30 kV30 dc30 pm30 cd30 ct30 : Value} {f31 : Addr} {od31 an31 : Option Addr} {sl31 : Array (Option Value)} {oc31 kV31 dc31 pm31 cd31 ct31 : Value} {f32 : Addr} {od32 an32 : Option Addr} {sl32 : Array (Option Value)} {oc32 kV32 dc32 pm32 cd32 ct32 : Value} {f33 : Addr} {od33 an33 : Option Addr} {sl33 : Array (Option Value)} {oc33 kV33 dc33 pm33 cd33 ct33 : Value} {f34 : Addr} {od34 an34 : Option Addr} {sl34 : Array (Option Value)} {oc34 kV34 dc34 pm34 cd34 ct34 : Value} {f35 : Addr} {od35 an35 : Option Addr} {sl35 : Array (Option Value)} {oc35 kV35 dc35 pm35 cd35 ct35 : Value} {f36 : Addr} {od36 an36 : Option Addr} {sl36 : Array (Option Value)} {oc36 kV36 dc36 pm36 cd36 ct36 : Value} {f37 : Addr} {od37 an37 : Option Addr} {sl37 : Array (Option Value)} {oc37 kV37 dc37 pm37 cd37 ct37 : Value} {f38 : Addr} {od38 an38 : Option Addr} {sl38 : Array (Option Value)} {oc38 kV38 dc38 pm38 cd38 ct38 : Value} (X : K.In h) (G : h.Ns mainGlobals mg) (hfa : mg "law" = some (.ref fa))
    (z_abs : PySem.W.nsIn K mainGlobals "abs" = some none)
    (z_all : PySem.W.nsIn K mainGlobals "all" = some none)
    (z_bool : PySem.W.nsIn K mainGlobals "bool" = some none)
    (z_enumerate : PySem.W.nsIn K mainGlobals "enumerate" = some none)
    (z_int : PySem.W.nsIn K mainGlobals "int" = some none)
    (z_isinstance : PySem.W.nsIn K mainGlobals "isinstance" = some none)
    (z_len : PySem.W.nsIn K mainGlobals "len" = some none)
    (z_list : PySem.W.nsIn K mainGlobals "list" = some none)
    (z_max : PySem.W.nsIn K mainGlobals "max" = some none)
    (z_min : PySem.W.nsIn K mainGlobals "min" = some none)
    (z_ord : PySem.W.nsIn K mainGlobals "ord" = some none)
    (z_range : PySem.W.nsIn K mainGlobals "range" = some none)
    (z_sorted : PySem.W.nsIn K mainGlobals "sorted" = some none)
    (z_str : PySem.W.nsIn K mainGlobals "str" = some none)
    (z_sum : PySem.W.nsIn K mainGlobals "sum" = some none)
    (z_tuple : PySem.W.nsIn K mainGlobals "tuple" = some none)
    (g_LETTERS : PySem.W.nsIn K mainGlobals "LETTERS" = some (some (.str "abcdefghijklmnopqrstuvwxyz" tk_LETTERS)))
    (g_MOST_DEEDS : PySem.W.nsIn K mainGlobals "MOST_DEEDS" = some (some (.int 1000 tk_MOST_DEEDS)))
    (g_MOST_LEAVES : PySem.W.nsIn K mainGlobals "MOST_LEAVES" = some (some (.int 64 tk_MOST_LEAVES)))
    (g_MOST_NAMES : PySem.W.nsIn K mainGlobals "MOST_NAMES" = some (some (.int 6 tk_MOST_NAMES)))
    (g_MOST_NUMBERS : PySem.W.nsIn K mainGlobals "MOST_NUMBERS" = some (some (.int 8 tk_MOST_NUMBERS)))
    (g_MOST_SIGNS : PySem.W.nsIn K mainGlobals "MOST_SIGNS" = some (some (.int 8 tk_MOST_SIGNS)))
    (g_SIZES : PySem.W.nsIn K mainGlobals "SIZES" = some (some (.ref p_SIZES))) (l_SIZES : K.lookup p_SIZES = some ⟨oc_SIZES, od_SIZES, .dict es_SIZES n_SIZES, sl_SIZES⟩) (d_SIZES : He.dicW K p_SIZES = some (He.keysIn w.params ["folder", "file", "put", "trim", "out", "move", "copy"])) (e_SIZES : es_SIZES.toList.map entI = ([("folder", 2), ("file", 2), ("put", 4), ("trim", 3), ("out", 2), ("move", 3), ("copy", 3)] : List (Str × Int)).map some)
    (g_TALLIES : PySem.W.nsIn K mainGlobals "TALLIES" = some (some (.int 2305843009213693951 tk_TALLIES)))
    (a0 : PySem.W.nsIn K mainGlobals "is_name" = some (some (.ref f0))) (l0 : K.lookup f0 = some ⟨oc0, od0, .func (PySem.W.fnOf "is_name" "is_name" (defArgs s_is_name) (defBody s_is_name) (defScope s_is_name) .none kV0 dc0 pm0 an0 cd0 ct0), sl0⟩) (c0x : PySem.W.codeIn K cd0 "is_name" = true) (k0 : PySem.W.keepIn K (.ref f0) = true)
    (a1 : PySem.W.nsIn K mainGlobals "is_path" = some (some (.ref f1))) (l1 : K.lookup f1 = some ⟨oc1, od1, .func (PySem.W.fnOf "is_path" "is_path" (defArgs s_is_path) (defBody s_is_path) (defScope s_is_path) .none kV1 dc1 pm1 an1 cd1 ct1), sl1⟩) (c1x : PySem.W.codeIn K cd1 "is_path" = true) (k1 : PySem.W.keepIn K (.ref f1) = true)
    (a2 : PySem.W.nsIn K mainGlobals "is_number" = some (some (.ref f2))) (l2 : K.lookup f2 = some ⟨oc2, od2, .func (PySem.W.fnOf "is_number" "is_number" (defArgs s_is_number) (defBody s_is_number) (defScope s_is_number) .none kV2 dc2 pm2 an2 cd2 ct2), sl2⟩) (c2x : PySem.W.codeIn K cd2 "is_number" = true) (k2 : PySem.W.keepIn K (.ref f2) = true)
    (a3 : PySem.W.nsIn K mainGlobals "is_leaf" = some (some (.ref f3))) (l3 : K.lookup f3 = some ⟨oc3, od3, .func (PySem.W.fnOf "is_leaf" "is_leaf" (defArgs s_is_leaf) (defBody s_is_leaf) (defScope s_is_leaf) .none kV3 dc3 pm3 an3 cd3 ct3), sl3⟩) (c3x : PySem.W.codeIn K cd3 "is_leaf" = true) (k3 : PySem.W.keepIn K (.ref f3) = true)
    (a4 : PySem.W.nsIn K mainGlobals "is_way" = some (some (.ref f4))) (l4 : K.lookup f4 = some ⟨oc4, od4, .func (PySem.W.fnOf "is_way" "is_way" (defArgs s_is_way) (defBody s_is_way) (defScope s_is_way) .none kV4 dc4 pm4 an4 cd4 ct4), sl4⟩) (c4x : PySem.W.codeIn K cd4 "is_way" = true) (k4 : PySem.W.keepIn K (.ref f4) = true)
    (a5 : PySem.W.nsIn K mainGlobals "is_count" = some (some (.ref f5))) (l5 : K.lookup f5 = some ⟨oc5, od5, .func (PySem.W.fnOf "is_count" "is_count" (defArgs s_is_count) (defBody s_is_count) (defScope s_is_count) .none kV5 dc5 pm5 an5 cd5 ct5), sl5⟩) (c5x : PySem.W.codeIn K cd5 "is_count" = true) (k5 : PySem.W.keepIn K (.ref f5) = true)
    (a6 : PySem.W.nsIn K mainGlobals "is_deed" = some (some (.ref f6))) (l6 : K.lookup f6 = some ⟨oc6, od6, .func (PySem.W.fnOf "is_deed" "is_deed" (defArgs s_is_deed) (defBody s_is_deed) (defScope s_is_deed) .none kV6 dc6 pm6 an6 cd6 ct6), sl6⟩) (c6x : PySem.W.codeIn K cd6 "is_deed" = true) (k6 : PySem.W.keepIn K (.ref f6) = true)
    (a7 : PySem.W.nsIn K mainGlobals "is_tally" = some (some (.ref f7))) (l7 : K.lookup f7 = some ⟨oc7, od7, .func (PySem.W.fnOf "is_tally" "is_tally" (defArgs s_is_tally) (defBody s_is_tally) (defScope s_is_tally) .none kV7 dc7 pm7 an7 cd7 ct7), sl7⟩) (c7x : PySem.W.codeIn K cd7 "is_tally" = true) (k7 : PySem.W.keepIn K (.ref f7) = true)
    (a8 : PySem.W.nsIn K mainGlobals "is_sent" = some (some (.ref f8))) (l8 : K.lookup f8 = some ⟨oc8, od8, .func (PySem.W.fnOf "is_sent" "is_sent" (defArgs s_is_sent) (defBody s_is_sent) (defScope s_is_sent) .none kV8 dc8 pm8 an8 cd8 ct8), sl8⟩) (c8x : PySem.W.codeIn K cd8 "is_sent" = true) (k8 : PySem.W.keepIn K (.ref f8) = true)
    (a9 : PySem.W.nsIn K mainGlobals "_law_mixed" = some (some (.ref f9))) (l9 : K.lookup f9 = some ⟨oc9, od9, .func (PySem.W.fnOf "_law_mixed" "_law_mixed" (defArgs s__law_mixed) (defBody s__law_mixed) (defScope s__law_mixed) .none kV9 dc9 pm9 an9 cd9 ct9), sl9⟩) (c9x : PySem.W.codeIn K cd9 "_law_mixed" = true) (k9 : PySem.W.keepIn K (.ref f9) = true)
    (a10 : PySem.W.nsIn K mainGlobals "_law_draws" = some (some (.ref f10))) (l10 : K.lookup f10 = some ⟨oc10, od10, .func (PySem.W.fnOf "_law_draws" "_law_draws" (defArgs s__law_draws) (defBody s__law_draws) (defScope s__law_draws) .none kV10 dc10 pm10 an10 cd10 ct10), sl10⟩) (c10x : PySem.W.codeIn K cd10 "_law_draws" = true) (k10 : PySem.W.keepIn K (.ref f10) = true)
    (a11 : PySem.W.nsIn K mainGlobals "_law_next" = some (some (.ref f11))) (l11 : K.lookup f11 = some ⟨oc11, od11, .func (PySem.W.fnOf "_law_next" "_law_next" (defArgs s__law_next) (defBody s__law_next) (defScope s__law_next) .none kV11 dc11 pm11 an11 cd11 ct11), sl11⟩) (c11x : PySem.W.codeIn K cd11 "_law_next" = true) (k11 : PySem.W.keepIn K (.ref f11) = true)
    (a12 : PySem.W.nsIn K mainGlobals "_law_name" = some (some (.ref f12))) (l12 : K.lookup f12 = some ⟨oc12, od12, .func (PySem.W.fnOf "_law_name" "_law_name" (defArgs s__law_name) (defBody s__law_name) (defScope s__law_name) .none kV12 dc12 pm12 an12 cd12 ct12), sl12⟩) (c12x : PySem.W.codeIn K cd12 "_law_name" = true) (k12 : PySem.W.keepIn K (.ref f12) = true)
    (a13 : PySem.W.nsIn K mainGlobals "_law_path" = some (some (.ref f13))) (l13 : K.lookup f13 = some ⟨oc13, od13, .func (PySem.W.fnOf "_law_path" "_law_path" (defArgs s__law_path) (defBody s__law_path) (defScope s__law_path) .none kV13 dc13 pm13 an13 cd13 ct13), sl13⟩) (c13x : PySem.W.codeIn K cd13 "_law_path" = true) (k13 : PySem.W.keepIn K (.ref f13) = true)
    (a14 : PySem.W.nsIn K mainGlobals "_law_leaf" = some (some (.ref f14))) (l14 : K.lookup f14 = some ⟨oc14, od14, .func (PySem.W.fnOf "_law_leaf" "_law_leaf" (defArgs s__law_leaf) (defBody s__law_leaf) (defScope s__law_leaf) .none kV14 dc14 pm14 an14 cd14 ct14), sl14⟩) (c14x : PySem.W.codeIn K cd14 "_law_leaf" = true) (k14 : PySem.W.keepIn K (.ref f14) = true)
    (a15 : PySem.W.nsIn K mainGlobals "_law_code" = some (some (.ref f15))) (l15 : K.lookup f15 = some ⟨oc15, od15, .func (PySem.W.fnOf "_law_code" "_law_code" (defArgs s__law_code) (defBody s__law_code) (defScope s__law_code) .none kV15 dc15 pm15 an15 cd15 ct15), sl15⟩) (c15x : PySem.W.codeIn K cd15 "_law_code" = true) (k15 : PySem.W.keepIn K (.ref f15) = true)
    (a16 : PySem.W.nsIn K mainGlobals "_law_within" = some (some (.ref f16))) (l16 : K.lookup f16 = some ⟨oc16, od16, .func (PySem.W.fnOf "_law_within" "_law_within" (defArgs s__law_within) (defBody s__law_within) (defScope s__law_within) .none kV16 dc16 pm16 an16 (.ref c0) ct16), sl16⟩) (c16x : PySem.W.codeIn K (.ref c0) "_law_within" = true) (k16 : PySem.W.keepIn K (.ref f16) = true)
    (mP0 : P0 ∈ ts) (hc0 : PySem.W.codeHdIn K c0 P0 = true) (nP0 : K.lookup P0 = none)
    (a17 : PySem.W.nsIn K mainGlobals "_law_is_folder" = some (some (.ref f17))) (l17 : K.lookup f17 = some ⟨oc17, od17, .func (PySem.W.fnOf "_law_is_folder" "_law_is_folder" (defArgs s__law_is_folder) (defBody s__law_is_folder) (defScope s__law_is_folder) .none kV17 dc17 pm17 an17 cd17 ct17), sl17⟩) (c17x : PySem.W.codeIn K cd17 "_law_is_folder" = true) (k17 : PySem.W.keepIn K (.ref f17) = true)
    (a18 : PySem.W.nsIn K mainGlobals "_law_under" = some (some (.ref f18))) (l18 : K.lookup f18 = some ⟨oc18, od18, .func (PySem.W.fnOf "_law_under" "_law_under" (defArgs s__law_under) (defBody s__law_under) (defScope s__law_under) .none kV18 dc18 pm18 an18 cd18 ct18), sl18⟩) (c18x : PySem.W.codeIn K cd18 "_law_under" = true) (k18 : PySem.W.keepIn K (.ref f18) = true)
    (a19 : PySem.W.nsIn K mainGlobals "_law_twin" = some (some (.ref f19))) (l19 : K.lookup f19 = some ⟨oc19, od19, .func (PySem.W.fnOf "_law_twin" "_law_twin" (defArgs s__law_twin) (defBody s__law_twin) (defScope s__law_twin) .none kV19 dc19 pm19 an19 cd19 ct19), sl19⟩) (c19x : PySem.W.codeIn K cd19 "_law_twin" = true) (k19 : PySem.W.keepIn K (.ref f19) = true)
    (a20 : PySem.W.nsIn K mainGlobals "_law_moved" = some (some (.ref f20))) (l20 : K.lookup f20 = some ⟨oc20, od20, .func (PySem.W.fnOf "_law_moved" "_law_moved" (defArgs s__law_moved) (defBody s__law_moved) (defScope s__law_moved) .none kV20 dc20 pm20 an20 cd20 ct20), sl20⟩) (c20x : PySem.W.codeIn K cd20 "_law_moved" = true) (k20 : PySem.W.keepIn K (.ref f20) = true)
    (a21 : PySem.W.nsIn K mainGlobals "_law_do" = some (some (.ref f21))) (l21 : K.lookup f21 = some ⟨oc21, od21, .func (PySem.W.fnOf "_law_do" "_law_do" (defArgs s__law_do) (defBody s__law_do) (defScope s__law_do) .none kV21 dc21 pm21 an21 cd21 ct21), sl21⟩) (c21x : PySem.W.codeIn K cd21 "_law_do" = true) (k21 : PySem.W.keepIn K (.ref f21) = true)
    (a22 : PySem.W.nsIn K mainGlobals "_law_old_path" = some (some (.ref f22))) (l22 : K.lookup f22 = some ⟨oc22, od22, .func (PySem.W.fnOf "_law_old_path" "_law_old_path" (defArgs s__law_old_path) (defBody s__law_old_path) (defScope s__law_old_path) .none kV22 dc22 pm22 an22 cd22 ct22), sl22⟩) (c22x : PySem.W.codeIn K cd22 "_law_old_path" = true) (k22 : PySem.W.keepIn K (.ref f22) = true)
    (a23 : PySem.W.nsIn K mainGlobals "_law_new_path" = some (some (.ref f23))) (l23 : K.lookup f23 = some ⟨oc23, od23, .func (PySem.W.fnOf "_law_new_path" "_law_new_path" (defArgs s__law_new_path) (defBody s__law_new_path) (defScope s__law_new_path) .none kV23 dc23 pm23 an23 cd23 ct23), sl23⟩) (c23x : PySem.W.codeIn K cd23 "_law_new_path" = true) (k23 : PySem.W.keepIn K (.ref f23) = true)
    (a24 : PySem.W.nsIn K mainGlobals "_law_deed" = some (some (.ref f24))) (l24 : K.lookup f24 = some ⟨oc24, od24, .func (PySem.W.fnOf "_law_deed" "_law_deed" (defArgs s__law_deed) (defBody s__law_deed) (defScope s__law_deed) .none kV24 dc24 pm24 an24 cd24 ct24), sl24⟩) (c24x : PySem.W.codeIn K cd24 "_law_deed" = true) (k24 : PySem.W.keepIn K (.ref f24) = true)
    (a25 : PySem.W.nsIn K mainGlobals "_law_room" = some (some (.ref f25))) (l25 : K.lookup f25 = some ⟨oc25, od25, .func (PySem.W.fnOf "_law_room" "_law_room" (defArgs s__law_room) (defBody s__law_room) (defScope s__law_room) .none kV25 dc25 pm25 an25 cd25 ct25), sl25⟩) (c25x : PySem.W.codeIn K cd25 "_law_room" = true) (k25 : PySem.W.keepIn K (.ref f25) = true)
    (a26 : PySem.W.nsIn K mainGlobals "_law_further" = some (some (.ref f26))) (l26 : K.lookup f26 = some ⟨oc26, od26, .func (PySem.W.fnOf "_law_further" "_law_further" (defArgs s__law_further) (defBody s__law_further) (defScope s__law_further) .none kV26 dc26 pm26 an26 cd26 ct26), sl26⟩) (c26x : PySem.W.codeIn K cd26 "_law_further" = true) (k26 : PySem.W.keepIn K (.ref f26) = true)
    (a27 : PySem.W.nsIn K mainGlobals "_law_two" = some (some (.ref f27))) (l27 : K.lookup f27 = some ⟨oc27, od27, .func (PySem.W.fnOf "_law_two" "_law_two" (defArgs s__law_two) (defBody s__law_two) (defScope s__law_two) .none kV27 dc27 pm27 an27 cd27 ct27), sl27⟩) (c27x : PySem.W.codeIn K cd27 "_law_two" = true) (k27 : PySem.W.keepIn K (.ref f27) = true)
    (a28 : PySem.W.nsIn K mainGlobals "_law_all_made" = some (some (.ref f28))) (l28 : K.lookup f28 = some ⟨oc28, od28, .func (PySem.W.fnOf "_law_all_made" "_law_all_made" (defArgs s__law_all_made) (defBody s__law_all_made) (defScope s__law_all_made) .none kV28 dc28 pm28 an28 cd28 ct28), sl28⟩) (c28x : PySem.W.codeIn K cd28 "_law_all_made" = true) (k28 : PySem.W.keepIn K (.ref f28) = true)
    (a29 : PySem.W.nsIn K mainGlobals "_law_on_leaves" = some (some (.ref f29))) (l29 : K.lookup f29 = some ⟨oc29, od29, .func (PySem.W.fnOf "_law_on_leaves" "_law_on_leaves" (defArgs s__law_on_leaves) (defBody s__law_on_leaves) (defScope s__law_on_leaves) .none kV29 dc29 pm29 an29 cd29 ct29), sl29⟩) (c29x : PySem.W.codeIn K cd29 "_law_on_leaves" = true) (k29 : PySem.W.keepIn K (.ref f29) = true)
    (a30 : PySem.W.nsIn K mainGlobals "_law_like" = some (some (.ref f30))) (l30 : K.lookup f30 = some ⟨oc30, od30, .func (PySem.W.fnOf "_law_like" "_law_like" (defArgs s__law_like) (defBody s__law_like) (defScope s__law_like) .none kV30 dc30 pm30 an30 cd30 ct30), sl30⟩) (c30x : PySem.W.codeIn K cd30 "_law_like" = true) (k30 : PySem.W.keepIn K (.ref f30) = true)
    (a31 : PySem.W.nsIn K mainGlobals "_law_between" = some (some (.ref f31))) (l31 : K.lookup f31 = some ⟨oc31, od31, .func (PySem.W.fnOf "_law_between" "_law_between" (defArgs s__law_between) (defBody s__law_between) (defScope s__law_between) .none kV31 dc31 pm31 an31 cd31 ct31), sl31⟩) (c31x : PySem.W.codeIn K cd31 "_law_between" = true) (k31 : PySem.W.keepIn K (.ref f31) = true)
    (a32 : PySem.W.nsIn K mainGlobals "_law_lines" = some (some (.ref f32))) (l32 : K.lookup f32 = some ⟨oc32, od32, .func (PySem.W.fnOf "_law_lines" "_law_lines" (defArgs s__law_lines) (defBody s__law_lines) (defScope s__law_lines) .none kV32 dc32 pm32 an32 cd32 ct32), sl32⟩) (c32x : PySem.W.codeIn K cd32 "_law_lines" = true) (k32 : PySem.W.keepIn K (.ref f32) = true)
    (a33 : PySem.W.nsIn K mainGlobals "_law_tally" = some (some (.ref f33))) (l33 : K.lookup f33 = some ⟨oc33, od33, .func (PySem.W.fnOf "_law_tally" "_law_tally" (defArgs s__law_tally) (defBody s__law_tally) (defScope s__law_tally) .none kV33 dc33 pm33 an33 cd33 ct33), sl33⟩) (c33x : PySem.W.codeIn K cd33 "_law_tally" = true) (k33 : PySem.W.keepIn K (.ref f33) = true)
    (a34 : PySem.W.nsIn K mainGlobals "_law_no_deed" = some (some (.ref f34))) (l34 : K.lookup f34 = some ⟨oc34, od34, .func (PySem.W.fnOf "_law_no_deed" "_law_no_deed" (defArgs s__law_no_deed) (defBody s__law_no_deed) (defScope s__law_no_deed) .none kV34 dc34 pm34 an34 cd34 ct34), sl34⟩) (c34x : PySem.W.codeIn K cd34 "_law_no_deed" = true) (k34 : PySem.W.keepIn K (.ref f34) = true)
    (a35 : PySem.W.nsIn K mainGlobals "_law_other_thing" = some (some (.ref f35))) (l35 : K.lookup f35 = some ⟨oc35, od35, .func (PySem.W.fnOf "_law_other_thing" "_law_other_thing" (defArgs s__law_other_thing) (defBody s__law_other_thing) (defScope s__law_other_thing) .none kV35 dc35 pm35 an35 cd35 ct35), sl35⟩) (c35x : PySem.W.codeIn K cd35 "_law_other_thing" = true) (k35 : PySem.W.keepIn K (.ref f35) = true)
    (a36 : PySem.W.nsIn K mainGlobals "_law_bent" = some (some (.ref f36))) (l36 : K.lookup f36 = some ⟨oc36, od36, .func (PySem.W.fnOf "_law_bent" "_law_bent" (defArgs s__law_bent) (defBody s__law_bent) (defScope s__law_bent) .none kV36 dc36 pm36 an36 cd36 ct36), sl36⟩) (c36x : PySem.W.codeIn K cd36 "_law_bent" = true) (k36 : PySem.W.keepIn K (.ref f36) = true)
    (a37 : PySem.W.nsIn K mainGlobals "_law_said" = some (some (.ref f37))) (l37 : K.lookup f37 = some ⟨oc37, od37, .func (PySem.W.fnOf "_law_said" "_law_said" (defArgs s__law_said) (defBody s__law_said) (defScope s__law_said) .none kV37 dc37 pm37 an37 cd37 ct37), sl37⟩) (c37x : PySem.W.codeIn K cd37 "_law_said" = true) (k37 : PySem.W.keepIn K (.ref f37) = true)
    (a38 : PySem.W.nsIn K mainGlobals "law" = some (some (.ref f38))) (l38 : K.lookup f38 = some ⟨oc38, od38, .func (PySem.W.fnOf "law" "law" (defArgs s_law) (defBody s_law) (defScope s_law) .none kV38 dc38 pm38 an38 cd38 ct38), sl38⟩) (c38x : PySem.W.codeIn K cd38 "law" = true) (k38 : PySem.W.keepIn K (.ref f38) = true) :
    ∃ (fd : FuncData) (c P : Addr), (PySem.W.codeHdIn K c P = true ∧ P ∈ ts) ∧ K.lookup P = none ∧ (∀ (s : Shared) (u : Value), BindsTo s fd ⟨[u], []⟩ [("_law_script", u)]) ∧ ∀ base : Heap, K.In base → base.Ns mainGlobals mg → TabB base mg c P →
      FnOk l.prog w K mg base CX0 32 fa fd ["_law_script"] (@CF ⟨[(P, "_law_within.<locals>.<lambda>")]⟩ K mg false [.own .p] .p F_law) := by
  have e := hfa.symm.trans (PySem.W.mg_of X G a38)
  cases e
  exact ⟨PySem.W.fnOf "law" "law" (defArgs s_law) (defBody s_law) (defScope s_law) .none kV38 dc38 pm38 an38 cd38 ct38, c0, P0, ⟨hc0, mP0⟩, nP0, fun s v => .of_eq rfl, fun base _ _ TB =>
    letI : TabT := ⟨[(P0, "_law_within.<locals>.<lambda>")]⟩
    ok_law (top_mk X G z_abs z_all z_bool z_enumerate z_int z_isinstance z_len z_list z_max z_min z_ord z_range z_sorted z_str z_sum z_tuple g_LETTERS g_MOST_DEEDS g_MOST_LEAVES g_MOST_NAMES g_MOST_NUMBERS g_MOST_SIGNS g_SIZES l_SIZES d_SIZES e_SIZES g_TALLIES a0 l0 c0x k0 a1 l1 c1x k1 a2 l2 c2x k2 a3 l3 c3x k3 a4 l4 c4x k4 a5 l5 c5x k5 a6 l6 c6x k6 a7 l7 c7x k7 a8 l8 c8x k8 a9 l9 c9x k9 a10 l10 c10x k10 a11 l11 c11x k11 a12 l12 c12x k12 a13 l13 c13x k13 a14 l14 c14x k14 a15 l15 c15x k15 a16 l16 c16x k16 mP0 hc0 nP0 a17 l17 c17x k17 a18 l18 c18x k18 a19 l19 c19x k19 a20 l20 c20x k20 a21 l21 c21x k21 a22 l22 c22x k22 a23 l23 c23x k23 a24 l24 c24x k24 a25 l25 c25x k25 a26 l26 c26x k26 a27 l27 c27x k27 a28 l28 c28x k28 a29 l29 c29x k29 a30 l30 c30x k30 a31 l31 c31x k31 a32 l32 c32x k32 a33 l33 c33x k33 a34 l34 c34x k34 a35 l35 c35x k35 a36 l36 c36x k36 a37 l37 c37x k37 a38 l38 c38x k38 TB)⟩
end K79
open PySem PySem.W PyProof.Rows
set_option maxRecDepth 100000 in
set_option maxHeartbeats 0 in
theorem PySem.Challenge.cw_snapshelf_k79_what_is_sent_holds : PySem.Challenge.rw_snapshelf_k79_what_is_sent.Holds := by
  w_on; o_law; k_head; (case hw => w_witness2)
  k_fill
  refine FL.walkT (l := PySem.Challenge.rw_snapshelf_k79_what_is_sent) (n := 63) (k := 32) (x := "_law_script") (qq := "_law_within.<locals>.<lambda>") (F := SH.F_law) rfl (by decide) rfl ⟨rfl, by decide, by decide⟩ (fun w h Y => ⟨PySem.W.km_in_of Y, PySem.W.km_tabs_of Y⟩) ?F (fun ns hl _ => SH.law_true ns hl)
  case F =>
    intro w mg fa h KX G hmg
    refine' K79.all_mk KX G hmg ?z_abs ?z_all ?z_bool ?z_enumerate ?z_int ?z_isinstance ?z_len ?z_list ?z_max ?z_min ?z_ord ?z_range ?z_sorted ?z_str ?z_sum ?z_tuple ?g_LETTERS ?g_MOST_DEEDS ?g_MOST_LEAVES ?g_MOST_NAMES ?g_MOST_NUMBERS ?g_MOST_SIGNS ?g_SIZES ?l_SIZES ?d_SIZES ?e_SIZES ?g_TALLIES ?a0 ?l0 ?c0x ?k0 ?a1 ?l1 ?c1x ?k1 ?a2 ?l2 ?c2x ?k2 ?a3 ?l3 ?c3x ?k3 ?a4 ?l4 ?c4x ?k4 ?a5 ?l5 ?c5x ?k5 ?a6 ?l6 ?c6x ?k6 ?a7 ?l7 ?c7x ?k7 ?a8 ?l8 ?c8x ?k8 ?a9 ?l9 ?c9x ?k9 ?a10 ?l10 ?c10x ?k10 ?a11 ?l11 ?c11x ?k11 ?a12 ?l12 ?c12x ?k12 ?a13 ?l13 ?c13x ?k13 ?a14 ?l14 ?c14x ?k14 ?a15 ?l15 ?c15x ?k15 ?a16 ?l16 ?c16x ?k16 ?mP0 ?hc0 ?nP0 ?a17 ?l17 ?c17x ?k17 ?a18 ?l18 ?c18x ?k18 ?a19 ?l19 ?c19x ?k19 ?a20 ?l20 ?c20x ?k20 ?a21 ?l21 ?c21x ?k21 ?a22 ?l22 ?c22x ?k22 ?a23 ?l23 ?c23x ?k23 ?a24 ?l24 ?c24x ?k24 ?a25 ?l25 ?c25x ?k25 ?a26 ?l26 ?c26x ?k26 ?a27 ?l27 ?c27x ?k27 ?a28 ?l28 ?c28x ?k28 ?a29 ?l29 ?c29x ?k29 ?a30 ?l30 ?c30x ?k30 ?a31 ?l31 ?c31x ?k31 ?a32 ?l32 ?c32x ?k32 ?a33 ?l33 ?c33x ?k33 ?a34 ?l34 ?c34x ?k34 ?a35 ?l35 ?c35x ?k35 ?a36 ?l36 ?c36x ?k36 ?a37 ?l37 ?c37x ?k37 ?a38 ?l38 ?c38x ?k38
    (case z_abs => k_is)
    (case z_all => k_is)
    (case z_bool => k_is)
    (case z_enumerate => k_is)
    (case z_int => k_is)
    (case z_isinstance => k_is)
    (case z_len => k_is)
    (case z_list => k_is)
    (case z_max => k_is)
    (case z_min => k_is)
    (case z_ord => k_is)
    (case z_range => k_is)
    (case z_sorted => k_is)
    (case z_str => k_is)
    (case z_sum => k_is)
    (case z_tuple => k_is)
    (case g_LETTERS => k_is)
    (case g_MOST_DEEDS => k_is)
    (case g_MOST_LEAVES => k_is)
    (case g_MOST_NAMES => k_is)
    (case g_MOST_NUMBERS => k_is)
    (case g_MOST_SIGNS => k_is)
    (case g_SIZES => k_is)
    (case l_SIZES => k_is)
    (case d_SIZES => kernel_rfl)
    (case e_SIZES => kernel_rfl)
    (case g_TALLIES => k_is)
    (case a0 => k_is)
    (case l0 => k_is)
    (case c0x => k_is)
    (case k0 => k_is)
    (case a1 => k_is)
    (case l1 => k_is)
    (case c1x => k_is)
    (case k1 => k_is)
    (case a2 => k_is)
    (case l2 => k_is)
    (case c2x => k_is)
    (case k2 => k_is)
    (case a3 => k_is)
    (case l3 => k_is)
    (case c3x => k_is)
    (case k3 => k_is)
    (case a4 => k_is)
    (case l4 => k_is)
    (case c4x => k_is)
    (case k4 => k_is)
    (case a5 => k_is)
    (case l5 => k_is)
    (case c5x => k_is)
    (case k5 => k_is)
    (case a6 => k_is)
    (case l6 => k_is)
    (case c6x => k_is)
    (case k6 => k_is)
    (case a7 => k_is)
    (case l7 => k_is)
    (case c7x => k_is)
    (case k7 => k_is)
    (case a8 => k_is)
    (case l8 => k_is)
    (case c8x => k_is)
    (case k8 => k_is)
    (case a9 => k_is)
    (case l9 => k_is)
    (case c9x => k_is)
    (case k9 => k_is)
    (case a10 => k_is)
    (case l10 => k_is)
    (case c10x => k_is)
    (case k10 => k_is)
    (case a11 => k_is)
    (case l11 => k_is)
    (case c11x => k_is)
    (case k11 => k_is)
    (case a12 => k_is)
    (case l12 => k_is)
    (case c12x => k_is)
    (case k12 => k_is)
    (case a13 => k_is)
    (case l13 => k_is)
    (case c13x => k_is)
    (case k13 => k_is)
    (case a14 => k_is)
    (case l14 => k_is)
    (case c14x => k_is)
    (case k14 => k_is)
    (case a15 => k_is)
    (case l15 => k_is)
    (case c15x => k_is)
    (case k15 => k_is)
    (case a16 => k_is)
    (case l16 => k_is)
    (case c16x => k_is)
    (case k16 => k_is)
    (case mP0 => exact List.mem_cons_self)
    (case hc0 => kernel_rfl)
    (case nP0 => kernel_rfl)
    (case a17 => k_is)
    (case l17 => k_is)
    (case c17x => k_is)
    (case k17 => k_is)
    (case a18 => k_is)
    (case l18 => k_is)
    (case c18x => k_is)
    (case k18 => k_is)
    (case a19 => k_is)
    (case l19 => k_is)
    (case c19x => k_is)
    (case k19 => k_is)
    (case a20 => k_is)
    (case l20 => k_is)
    (case c20x => k_is)
    (case k20 => k_is)
    (case a21 => k_is)
    (case l21 => k_is)
    (case c21x => k_is)
    (case k21 => k_is)
    (case a22 => k_is)
    (case l22 => k_is)
    (case c22x => k_is)
    (case k22 => k_is)
    (case a23 => k_is)
    (case l23 => k_is)
    (case c23x => k_is)
    (case k23 => k_is)
    (case a24 => k_is)
    (case l24 => k_is)
    (case c24x => k_is)
    (case k24 => k_is)
    (case a25 => k_is)
    (case l25 => k_is)
    (case c25x => k_is)
    (case k25 => k_is)
    (case a26 => k_is)
    (case l26 => k_is)
    (case c26x => k_is)
    (case k26 => k_is)
    (case a27 => k_is)
    (case l27 => k_is)
    (case c27x => k_is)
    (case k27 => k_is)
    (case a28 => k_is)
    (case l28 => k_is)
    (case c28x => k_is)
    (case k28 => k_is)
    (case a29 => k_is)
    (case l29 => k_is)
    (case c29x => k_is)
    (case k29 => k_is)
    (case a30 => k_is)
    (case l30 => k_is)
    (case c30x => k_is)
    (case k30 => k_is)
    (case a31 => k_is)
    (case l31 => k_is)
    (case c31x => k_is)
    (case k31 => k_is)
    (case a32 => k_is)
    (case l32 => k_is)
    (case c32x => k_is)
    (case k32 => k_is)
    (case a33 => k_is)
    (case l33 => k_is)
    (case c33x => k_is)
    (case k33 => k_is)
    (case a34 => k_is)
    (case l34 => k_is)
    (case c34x => k_is)
    (case k34 => k_is)
    (case a35 => k_is)
    (case l35 => k_is)
    (case c35x => k_is)
    (case k35 => k_is)
    (case a36 => k_is)
    (case l36 => k_is)
    (case c36x => k_is)
    (case k36 => k_is)
    (case a37 => k_is)
    (case l37 => k_is)
    (case c37x => k_is)
    (case k37 => k_is)
    (case a38 => k_is)
    (case l38 => k_is)
    (case c38x => k_is)
    (case k38 => k_is)
