import PyProof.Rows.All
import Wide.All
import OpenK.AllK
import Wide.FinOn
import HandS.ForMost
import HandS.Wide
import HandS.IsInst
import HandS.TupAny
import HandS.TupMul
import HandS.TupLen
import HandS.Conv
import KE.KDictWalk
import HandS.Zip
import HandS.TryOnly
import HandS.SortInts
import HandS.More
import KE.GoesEnum
import KE.GoesMore
import KE.GoesZip
import KE.KDictList
import KE.KDictSum
import HandS.Sort
import HandS.Ends
import HandS.Words
import HandS.FStrTup
import KE.DataCmp
import PySem.Challenge.RW_snapshelf_k71_looks_at_mend_papers
set_option Elab.async false
set_option linter.all false
set_option maxRecDepth 100000
set_option maxHeartbeats 4000000
/-! DA: data without addresses over the hand layer: what cannot change is a datum by itself, what can stands at an address of a small store. -/
namespace DL
open PySem PySem.Spec PyProof.Rows L2

/-- data: rows and lists that nobody writes stand by themselves; ref: an object that may be written -/
inductive D where
  | non | bl (b : Bool) | int (i : Int) | str (x : Str) | ty (n : String) | ref (a : Addr)
  | tup (ds : List D) | fl (ds : List D) | wl (ds : List D)

/-- a row that may be a dict's key -/
def kl : List D → Bool
  | [] => false
  | ds => ds.all fun d => match d with
    | .int _ => true
    | .str _ => true
    | .ty _ => true
    | _ => false
/-- what stays for ever -/
def Per : HO → Prop
  | .tup _ => True
  | .frz _ _ => True
  | _ => False
def Ext (H H' : Hp) : Prop := ∀ a o, Per o → H a = some o → H' a = some o
theorem Ext.refl (H : Hp) : Ext H H := fun _ _ _ h => h
theorem Ext.trans {H H1 H2 : Hp} (a : Ext H H1) (b : Ext H1 H2) : Ext H H2 := fun c o p h => b c o p (a c o p h)
theorem Ext.of_same {H H' : Hp} (h : Same H H') : Ext H H' := fun a o _ e => h a o e
theorem same_new {H : Hp} {p : Addr} {o : HO} (h : H p = none) : Same H (upd H p o) := fun b u q => by rw [upd_ne (ne_of_none q h)]; exact q
theorem Ext.new {H : Hp} {p : Addr} {o : HO} (h : H p = none) : Ext H (upd H p o) := .of_same (same_new h)
theorem Ext.mut {H : Hp} {p : Addr} {o u : HO} (h : H p = some u) (hu : ¬ Per u) : Ext H (upd H p o) := fun a v pv e => by
  by_cases c : a = p
  · subst c; rw [h] at e; cases e; exact absurd pv hu
  · rw [upd_ne c]; exact e

/-- a list that nobody writes -/
def SqF (K : PySem.W.Frag) (H : Hp) (a : Addr) (xs : List V) : Prop :=
  (∃ o, H a = some (.frz o (.lst xs))) ∨
    ∃ (o : Obj) (its : Array Value) (n : Nat), K.lookup a = some o ∧ o.cls = .type "list" ∧ o.dict = none ∧ o.data = .seq its n ∧ its.size ≤ sizeLine ∧ Vals xs its.toList
theorem SqF.l {K : PySem.W.Frag} {H : Hp} {a : Addr} {xs : List V} (h : SqF K H a xs) : SqL K H a xs := by
  rcases h with ⟨o, h⟩ | h
  · exact .inl (.inr ⟨o, h⟩)
  · exact .inr h
theorem SqF.ext {K : PySem.W.Frag} {H H' : Hp} {a : Addr} {xs : List V} (e : Ext H H') (h : SqF K H a xs) : SqF K H' a xs := by
  rcases h with ⟨o, h⟩ | h
  · exact .inl ⟨o, e _ _ trivial h⟩
  · exact .inr h
theorem sqT_ext {K : PySem.W.Frag} {H H' : Hp} {a : Addr} {xs : List V} (e : Ext H H') (h : SqT K H a xs) : SqT K H' a xs := by
  rcases h with (h | ⟨o, h⟩) | h
  · exact .inl (.inl (e _ _ trivial h))
  · exact .inl (.inr ⟨o, e _ _ trivial h⟩)
  · exact .inr h

mutual
/-- the value v is the datum d -/
def RD (K : PySem.W.Frag) (H : Hp) : D → V → Prop
  | .non, v => v = .non
  | .bl b, v => v = .bl b
  | .int i, v => v = .int i
  | .str x, v => v = .str x
  | .ty n, v => v = .ty n
  | .ref a, v => v = .ref a
  | .tup ds, v => ∃ a vs, v = .ref a ∧ SqT K H a vs ∧ RDs K H ds vs ∧ (kl ds = true → H a = some (.tup vs))
  | .fl ds, v => ∃ a vs, v = .ref a ∧ (∃ o, H a = some (.frz o (.lst vs))) ∧ RDs K H ds vs
  | .wl ds, v => ∃ a vs, v = .ref a ∧ SqF K H a vs ∧ RDs K H ds vs
def RDs (K : PySem.W.Frag) (H : Hp) : List D → List V → Prop
  | [], vs => vs = []
  | d :: ds, vs => ∃ v r, vs = v :: r ∧ RD K H d v ∧ RDs K H ds r
end
section
variable {K : PySem.W.Frag} {H H' : Hp}
mutual
theorem RD.ext (e : Ext H H') : ∀ {d : D} {v : V}, RD K H d v → RD K H' d v
  | .non, v, h => h
  | .bl _, v, h => h
  | .int _, v, h => h
  | .str _, v, h => h
  | .ty _, v, h => h
  | .ref _, v, h => h
  | .tup ds, v, h => by
    obtain ⟨a, vs, e1, e2, e3, e4⟩ := h
    exact ⟨a, vs, e1, sqT_ext e e2, RDs.ext e e3, fun k => e _ _ trivial (e4 k)⟩
  | .fl ds, v, h => by
    obtain ⟨a, vs, e1, ⟨o, e2⟩, e3⟩ := h
    exact ⟨a, vs, e1, ⟨o, e _ _ trivial e2⟩, RDs.ext e e3⟩
  | .wl ds, v, h => by
    obtain ⟨a, vs, e1, e2, e3⟩ := h
    exact ⟨a, vs, e1, e2.ext e, RDs.ext e e3⟩
theorem RDs.ext (e : Ext H H') : ∀ {ds : List D} {vs : List V}, RDs K H ds vs → RDs K H' ds vs
  | [], _, h => h
  | _ :: _, _, h => by
    obtain ⟨v, r, e1, e2, e3⟩ := h
    exact ⟨v, r, e1, RD.ext e e2, RDs.ext e e3⟩
end
theorem RD.newT {ds : List D} {vs : List V} {p : Addr} (hp : H p = none) (r : RDs K H ds vs) : RD K (upd H p (.tup vs)) (.tup ds) (.ref p) := ⟨p, vs, rfl, .of upd_same, r.ext (.new hp), fun _ => upd_same⟩
theorem RDs.len : ∀ {ds : List D} {vs : List V}, RDs K H ds vs → vs.length = ds.length
  | [], _, h => by cases h; rfl
  | _ :: _, _, h => by
    obtain ⟨v, r, e1, _, e3⟩ := h
    subst e1
    rw [List.length_cons, List.length_cons, RDs.len e3]
theorem RDs.get : ∀ {ds : List D} {vs : List V} {i : Nat} {d : D}, RDs K H ds vs → ds[i]? = some d → ∃ v, vs[i]? = some v ∧ RD K H d v
  | [], _, _, _, _, e => by simp at e
  | _ :: _, _, 0, _, h, e => by
    obtain ⟨v, r, e1, e2, _⟩ := h
    subst e1
    cases e
    exact ⟨v, rfl, e2⟩
  | _ :: _, _, i + 1, _, h, e => by
    obtain ⟨v, r, e1, _, e3⟩ := h
    subst e1
    exact RDs.get (i := i) e3 (by simpa using e)
theorem RDs.getV : ∀ {ds : List D} {vs : List V} {i : Nat} {v : V}, RDs K H ds vs → vs[i]? = some v → ∃ d, ds[i]? = some d ∧ RD K H d v
  | [], _, _, _, h, e => by cases h; simp at e
  | d :: _, _, 0, _, h, e => by
    obtain ⟨v, r, e1, e2, _⟩ := h
    subst e1
    cases e
    exact ⟨d, rfl, e2⟩
  | _ :: _, _, i + 1, _, h, e => by
    obtain ⟨v, r, e1, _, e3⟩ := h
    subst e1
    exact RDs.getV (i := i) e3 (by simpa using e)
theorem RDs.app : ∀ {ds es : List D} {vs us : List V}, RDs K H ds vs → RDs K H es us → RDs K H (ds ++ es) (vs ++ us)
  | [], _, _, _, h, h' => by cases h; exact h'
  | _ :: _, _, _, _, h, h' => by
    obtain ⟨v, r, e1, e2, e3⟩ := h
    subst e1
    exact ⟨v, r ++ _, rfl, e2, RDs.app e3 h'⟩
theorem RDs.one {d : D} {v : V} (h : RD K H d v) : RDs K H [d] [v] := ⟨v, [], rfl, h, rfl⟩
theorem RDs.snoc {ds : List D} {vs : List V} {d : D} {v : V} (h : RDs K H ds vs) (h' : RD K H d v) : RDs K H (ds ++ [d]) (vs ++ [v]) := h.app (.one h')
theorem RDs.set : ∀ {ds : List D} {vs : List V} {d : D} {v : V} (i : Nat), RDs K H ds vs → RD K H d v → RDs K H (ds.set i d) (vs.set i v)
  | [], _, _, _, _, h, _ => by cases h; rfl
  | _ :: _, _, _, _, 0, h, h' => by
    obtain ⟨v, r, e1, e2, e3⟩ := h
    subst e1
    exact ⟨_, r, rfl, h', e3⟩
  | _ :: _, _, _, _, i + 1, h, h' => by
    obtain ⟨v, r, e1, e2, e3⟩ := h
    subst e1
    exact ⟨v, _, rfl, e2, RDs.set i e3 h'⟩
theorem RDs.drop : ∀ {ds : List D} {vs : List V} (n : Nat), RDs K H ds vs → RDs K H (ds.drop n) (vs.drop n)
  | _, _, 0, h => h
  | [], _, n + 1, h => by cases h; rfl
  | _ :: _, _, n + 1, h => by
    obtain ⟨v, r, e1, e2, e3⟩ := h
    subst e1
    exact RDs.drop n e3
theorem RDs.take : ∀ {ds : List D} {vs : List V} (n : Nat), RDs K H ds vs → RDs K H (ds.take n) (vs.take n)
  | _, _, 0, _ => rfl
  | [], _, n + 1, h => by cases h; rfl
  | _ :: _, _, n + 1, h => by
    obtain ⟨v, r, e1, e2, e3⟩ := h
    subst e1
    exact ⟨v, _, rfl, e2, RDs.take n e3⟩
theorem RDs.erase : ∀ {ds : List D} {vs : List V} (n : Nat), RDs K H ds vs → RDs K H (ds.eraseIdx n) (vs.eraseIdx n)
  | [], _, n, h => by cases h; simp; rfl
  | _ :: _, _, 0, h => by
    obtain ⟨v, r, e1, e2, e3⟩ := h
    subst e1
    exact e3
  | _ :: _, _, n + 1, h => by
    obtain ⟨v, r, e1, e2, e3⟩ := h
    subst e1
    exact ⟨v, _, rfl, e2, RDs.erase n e3⟩
theorem RDs.rev {ds : List D} {vs : List V} (h : RDs K H ds vs) : RDs K H ds.reverse vs.reverse := by
  induction ds generalizing vs with
  | nil => cases h; rfl
  | cons d ds ih =>
    obtain ⟨v, r, e1, e2, e3⟩ := h
    subst e1
    rw [List.reverse_cons, List.reverse_cons]
    exact (ih e3).snoc e2
theorem RDs.map {α : Type} {f : α → D} {g : α → V} : ∀ {xs : List α}, (∀ x ∈ xs, RD K H (f x) (g x)) → RDs K H (xs.map f) (xs.map g)
  | [], _ => rfl
  | x :: xs, h => ⟨_, _, rfl, h x List.mem_cons_self, RDs.map fun y hy => h y (List.mem_cons_of_mem _ hy)⟩
theorem RDs.ints {xs : List Int} : RDs K H (xs.map D.int) (xs.map V.int) := .map fun _ _ => rfl
theorem RDs.of_ints : ∀ {xs : List Int} {vs : List V}, RDs K H (xs.map D.int) vs → vs = xs.map V.int
  | [], _, h => h
  | x :: xs, _, h => by
    obtain ⟨v, r, e1, e2, e3⟩ := h
    subst e1
    rw [RDs.of_ints e3, show v = .int x from e2]
    rfl
theorem RDs.of_bls : ∀ {xs : List Bool} {vs : List V}, RDs K H (xs.map D.bl) vs → vs = xs.map V.bl
  | [], _, h => h
  | x :: xs, _, h => by
    obtain ⟨v, r, e1, e2, e3⟩ := h
    subst e1
    rw [RDs.of_bls e3, show v = .bl x from e2]
    rfl
theorem RDs.of_texts : ∀ {xs : List Str} {vs : List V}, RDs K H (xs.map D.str) vs → vs = xs.map V.str
  | [], _, h => h
  | x :: xs, _, h => by
    obtain ⟨v, r, e1, e2, e3⟩ := h
    subst e1
    rw [RDs.of_texts e3, show v = .str x from e2]
    rfl
end

/-! ### the store -/
/-- keys of a dict whose keys are rows: a row of ints and texts -/
def kD : Key → D
  | .inl i => .int i
  | .inr x => .str x
inductive DO where
  | lst (ds : List D) | dK (kvs : List (Key × D)) | dT (kvs : List (List Key × D)) | zK (kvs : List (Key × D)) | zT (kvs : List (List Key × D)) | ins (C dx : Addr) (fs : List (Str × D))
abbrev Sto := Addr → Option DO
def set (μ : Sto) (a : Addr) (o : DO) : Sto := fun b => if b = a then some o else μ b
def del (μ : Sto) (a : Addr) : Sto := fun b => if b = a then none else μ b
theorem set_same {μ : Sto} {a : Addr} {o : DO} : set μ a o a = some o := by unfold set; rw [if_pos rfl]
theorem set_ne {μ : Sto} {a b : Addr} {o : DO} (h : b ≠ a) : set μ a o b = μ b := by unfold set; rw [if_neg h]
theorem set_set {μ : Sto} {a : Addr} {o u : DO} : set (set μ a o) a u = set μ a u := by
  funext b; unfold set; split <;> rfl
theorem set_new {μ : Sto} {p a : Addr} {o u : DO} (hp : μ p = none) (h : μ a = some u) : set μ p o a = some u := by
  rw [set_ne (fun e => by subst e; rw [hp] at h; cases h)]; exact h
theorem ne_new {μ : Sto} {p a : Addr} {u : DO} (hp : μ p = none) (h : μ a = some u) : a ≠ p := fun e => by subst e; rw [hp] at h; cases h
/-- less known -/
def Sub (μ μ' : Sto) : Prop := ∀ a o, μ a = some o → μ' a = some o
theorem Sub.refl (μ : Sto) : Sub μ μ := fun _ _ h => h
theorem Sub.trans {μ μ1 μ2 : Sto} (a : Sub μ μ1) (b : Sub μ1 μ2) : Sub μ μ2 := fun c o h => b c o (a c o h)
theorem Sub.new {μ : Sto} {p : Addr} {o : DO} (h : μ p = none) : Sub μ (set μ p o) := fun _ _ e => set_new h e
theorem Sub.set2 {μ μ' : Sto} {p : Addr} {o : DO} (h : Sub μ μ') : Sub (set μ p o) (set μ' p o) := fun a u e => by
  unfold set at e ⊢
  by_cases c : a = p
  · rw [if_pos c] at e ⊢; exact e
  · rw [if_neg c] at e ⊢; exact h _ _ e
theorem Sub.gone {μ μ' : Sto} {p : Addr} (h : Sub μ μ') (n : μ' p = none) : μ p = none := by
  cases e : μ p with
  | none => rfl
  | some o => rw [h _ _ e] at n; cases n
theorem Sub.newR {μ μ' : Sto} {p : Addr} {o : DO} (h : Sub μ μ') (n : μ' p = none) : Sub μ (set μ' p o) := h.trans (.new n)

def RKs {κ : Type} (K : PySem.W.Frag) (H : Hp) : List (κ × D) → List (κ × V) → Prop
  | [], vs => vs = []
  | d :: ds, vs => ∃ v r, vs = (d.1, v) :: r ∧ RD K H d.2 v ∧ RKs K H ds r
def RO (K : PySem.W.Frag) (H : Hp) : DO → HO → Prop
  | .lst ds, o => ∃ vs, o = .lst vs ∧ RDs K H ds vs
  | .dK kvs, o => ∃ vs, o = .dK vs ∧ RKs K H kvs vs
  | .dT kvs, o => ∃ vs, o = .dT vs ∧ RKs K H kvs vs
  | .zK kvs, o => ∃ b vs, o = .frz b (.dK vs) ∧ RKs K H kvs vs
  | .zT kvs, o => ∃ b vs, o = .frz b (.dT vs) ∧ RKs K H kvs vs
  | .ins C dx fs, o => ∃ vs, o = .ins C dx vs ∧ RKs K H fs vs
/-- the store is held -/
def RH (K : PySem.W.Frag) (H : Hp) (μ : Sto) : Prop := ∀ a o, μ a = some o → ∃ u, H a = some u ∧ RO K H o u
section
variable {K : PySem.W.Frag} {H H' : Hp} {μ μ' : Sto} {κ : Type}
theorem RKs.ext (e : Ext H H') : ∀ {ds : List (κ × D)} {vs : List (κ × V)}, RKs K H ds vs → RKs K H' ds vs
  | [], _, h => h
  | _ :: _, _, h => by
    obtain ⟨v, r, e1, e2, e3⟩ := h
    exact ⟨v, r, e1, e2.ext e, RKs.ext e e3⟩
theorem RKs.len : ∀ {ds : List (κ × D)} {vs : List (κ × V)}, RKs K H ds vs → vs.length = ds.length
  | [], _, h => by cases h; rfl
  | _ :: _, _, h => by
    obtain ⟨v, r, e1, _, e3⟩ := h
    subst e1
    rw [List.length_cons, List.length_cons, RKs.len e3]
theorem RKs.keys : ∀ {ds : List (κ × D)} {vs : List (κ × V)}, RKs K H ds vs → vs.map (·.1) = ds.map (·.1)
  | [], _, h => by cases h; rfl
  | _ :: _, _, h => by
    obtain ⟨v, r, e1, _, e3⟩ := h
    subst e1
    rw [List.map_cons, List.map_cons, RKs.keys e3]
theorem RKs.vals : ∀ {ds : List (κ × D)} {vs : List (κ × V)}, RKs K H ds vs → RDs K H (ds.map (·.2)) (vs.map (·.2))
  | [], _, h => by cases h; rfl
  | _ :: _, _, h => by
    obtain ⟨v, r, e1, e2, e3⟩ := h
    subst e1
    exact ⟨v, _, rfl, e2, RKs.vals e3⟩
theorem RO.ext (e : Ext H H') {o : DO} {u : HO} (h : RO K H o u) : RO K H' o u := by
  cases o with
  | lst ds => obtain ⟨vs, e1, e2⟩ := h; exact ⟨vs, e1, e2.ext e⟩
  | dK ds => obtain ⟨vs, e1, e2⟩ := h; exact ⟨vs, e1, e2.ext e⟩
  | dT ds => obtain ⟨vs, e1, e2⟩ := h; exact ⟨vs, e1, e2.ext e⟩
  | zK ds => obtain ⟨b, vs, e1, e2⟩ := h; exact ⟨b, vs, e1, e2.ext e⟩
  | zT ds => obtain ⟨b, vs, e1, e2⟩ := h; exact ⟨b, vs, e1, e2.ext e⟩
  | ins C dx ds => obtain ⟨vs, e1, e2⟩ := h; exact ⟨vs, e1, e2.ext e⟩
theorem RH.sub (h : RH K H μ') (s : Sub μ μ') : RH K H μ := fun a o e => h a o (s a o e)
theorem RH.free (h : RH K H μ) {p : Addr} (hp : H p = none) : μ p = none := by
  cases e : μ p with
  | none => rfl
  | some o => obtain ⟨u, hu, _⟩ := h p o e; rw [hp] at hu; cases hu
theorem RH.same (h : RH K H μ) (s : Same H H') : RH K H' μ := fun a o e => by
  obtain ⟨u, hu, r⟩ := h a o e
  exact ⟨u, s _ _ hu, r.ext (.of_same s)⟩
/-- a new object that is not known -/
theorem RH.new {p : Addr} {u : HO} (h : RH K H μ) (hp : H p = none) : RH K (upd H p u) μ := h.same (same_new hp)
/-- an object becomes another one: a new one, or one that was known -/
theorem RH.put {p : Addr} {u : HO} {o : DO} (h : RH K H μ) (e : Ext H (upd H p u)) (r : RO K (upd H p u) o u) : RH K (upd H p u) (set μ p o) := fun a o' q => by
  by_cases c : a = p
  · subst c; rw [set_same] at q; cases q; exact ⟨u, upd_same, r⟩
  · rw [set_ne c] at q
    obtain ⟨v, hv, r'⟩ := h a o' q
    exact ⟨v, by rw [upd_ne c]; exact hv, r'.ext e⟩
/-- an object becomes one of which nothing is known any more -/
theorem RH.drop {p : Addr} {u : HO} (h : RH K H μ) (e : Ext H (upd H p u)) : RH K (upd H p u) (del μ p) := fun a o' q => by
  unfold del at q
  by_cases c : a = p
  · rw [if_pos c] at q; cases q
  · rw [if_neg c] at q
    obtain ⟨v, hv, r'⟩ := h a o' q
    exact ⟨v, by rw [upd_ne c]; exact hv, r'.ext e⟩
end

/-! ### slots -/
abbrev DSt := List (Option D)
def RS (K : PySem.W.Frag) (H : Hp) (σ : L2.St) (Γ : DSt) : Prop := σ.length = Γ.length ∧ ∀ (i : Nat) d, Γ[i]? = some (some d) → ∃ v, σ[i]? = some (some v) ∧ RD K H d v
section
variable {K : PySem.W.Frag} {H H' : Hp} {σ : L2.St} {Γ : DSt}
theorem RS.ext (e : Ext H H') (h : RS K H σ Γ) : RS K H' σ Γ := ⟨h.1, fun i d q => by
  obtain ⟨v, e1, e2⟩ := h.2 i d q
  exact ⟨v, e1, e2.ext e⟩⟩
theorem RS.set {d : D} {v : V} (h : RS K H σ Γ) (i : Nat) (r : RD K H d v) : RS K H (σ.set i (some v)) (Γ.set i (some d)) := by
  refine ⟨by simpa using h.1, fun j e q => ?_⟩
  by_cases c : j = i
  · subst c
    have hj : j < Γ.length := by
      by_cases c : j < Γ.length
      · exact c
      · rw [List.getElem?_eq_none (by simpa using c)] at q; cases q
    rw [List.getElem?_set_self hj] at q
    cases q
    exact ⟨v, List.getElem?_set_self (h.1 ▸ hj), r⟩
  · rw [List.getElem?_set_ne (Ne.symm c)] at q ⊢
    exact h.2 j e q
@[simp] def dwipe (Γ : DSt) : List Nat → DSt
  | [] => Γ
  | i :: r => (dwipe Γ r).set i none
theorem RS.start {N : List Str} {ds : List D} {vs : List V} (r : RDs K H ds vs) : RS K H (start N vs) (ds.map some ++ List.replicate (N.length - ds.length) none) := by
  have hl := r.len
  refine ⟨by unfold L2.start; simp [hl], fun i d q => ?_⟩
  have hi : i < ds.length := by
    by_cases c : i < ds.length
    · exact c
    · rw [List.getElem?_append_right (by simpa using c), List.getElem?_replicate] at q
      split at q <;> cases q
  rw [List.getElem?_append_left (by simpa using hi), List.getElem?_map] at q
  cases e : ds[i]? with
  | none => rw [e] at q; cases q
  | some d' =>
    rw [e] at q
    cases q
    obtain ⟨v, hv, rv⟩ := r.get e
    refine ⟨v, ?_, rv⟩
    unfold L2.start
    rw [List.getElem?_append_left (by simp; omega), List.getElem?_map, hv]
    rfl
end
end DL

/-! DB: the judgements over data, and the rules that hold for every operation. -/
namespace DL
open PySem PySem.Spec PyProof.Rows L2

abbrev DK := D → Sto → Prop
abbrev DTE := DSt → Sto → DK → Prop
abbrev DTT := DSt → Sto → (Bool → Sto → Prop) → Prop
abbrev DTA := DSt → Sto → (List D → Sto → Prop) → Prop
abbrev DTO := DSt → Sto → (Option Int → Sto → Prop) → Prop
structure DEnds where
  nx : DSt → Sto → Prop
  rt : DK
  bk : DSt → Sto → Prop := fun _ _ => False
  ct : DSt → Sto → Prop := fun _ _ => False
abbrev DTS := DEnds → DSt → Sto → Prop
abbrev DTG := D → DSt → Sto → (DSt → Sto → Prop) → Prop
abbrev DTGs := List D → DSt → Sto → (DSt → Sto → Prop) → Prop

section
variable (K : PySem.W.Frag)
def Fin (H : Hp) (q : DK) (Q : VK) : Prop := ∀ v H' d μ', Ext H H' → RD K H' d v → RH K H' μ' → q d μ' → Q v H'
def FinT (H : Hp) (q : Bool → Sto → Prop) (Q : Bool → Hp → Prop) : Prop := ∀ b H' μ', Ext H H' → RH K H' μ' → q b μ' → Q b H'
def FinO (H : Hp) (q : Option Int → Sto → Prop) (Q : Option Int → Hp → Prop) : Prop := ∀ b H' μ', Ext H H' → RH K H' μ' → q b μ' → Q b H'
def FinA (H : Hp) (q : List D → Sto → Prop) (Q : List V → Hp → Prop) : Prop := ∀ vs H' ds μ', Ext H H' → RDs K H' ds vs → RH K H' μ' → q ds μ' → Q vs H'
def FinS (H : Hp) (q : DSt → Sto → Prop) (Q : L2.St → Hp → Prop) : Prop := ∀ σ' H' Γ' μ', Ext H H' → RS K H' σ' Γ' → RH K H' μ' → q Γ' μ' → Q σ' H'
structure FinE (H : Hp) (d : DEnds) (D : Ends) : Prop where
  nx : FinS K H d.nx D.nx
  rt : Fin K H d.rt D.rt
  bk : FinS K H d.bk D.bk
  ct : FinS K H d.ct D.ct
def lE (t : DTE) : TE := fun σ H Q => ∃ Γ μ q, RS K H σ Γ ∧ RH K H μ ∧ Fin K H q Q ∧ t Γ μ q
def lT (t : DTT) : TT := fun σ H Q => ∃ Γ μ q, RS K H σ Γ ∧ RH K H μ ∧ FinT K H q Q ∧ t Γ μ q
def lA (t : DTA) : TA := fun σ H Q => ∃ Γ μ q, RS K H σ Γ ∧ RH K H μ ∧ FinA K H q Q ∧ t Γ μ q
def lO (t : DTO) : TO := fun σ H Q => ∃ Γ μ q, RS K H σ Γ ∧ RH K H μ ∧ FinO K H q Q ∧ t Γ μ q
def lS (t : DTS) : TS := fun D σ H => ∃ Γ μ d, RS K H σ Γ ∧ RH K H μ ∧ FinE K H d D ∧ t d Γ μ
def lG (t : DTG) : TG := fun v σ H Q => ∃ d Γ μ q, RD K H d v ∧ RS K H σ Γ ∧ RH K H μ ∧ FinS K H q Q ∧ t d Γ μ q
def lGs (t : DTGs) : TGs := fun vs σ H Q => ∃ ds Γ μ q, RDs K H ds vs ∧ RS K H σ Γ ∧ RH K H μ ∧ FinS K H q Q ∧ t ds Γ μ q
end
structure QE (X : Cx) (e : Expr) (t : DTE) : Prop where
  r : PE X e (lE X.K t)
structure QT (X : Cx) (e : Expr) (t : DTT) : Prop where
  r : PT X e (lT X.K t)
structure QW (X : Cx) (e : Expr) (t : DTT) : Prop where
  r : PW X e (lT X.K t)
structure QA (X : Cx) (es : List Expr) (t : DTA) : Prop where
  r : PA X es (lA X.K t)
structure QO (X : Cx) (e : Option Expr) (t : DTO) : Prop where
  r : PO X e (lO X.K t)
structure QS (X : Cx) (st : Stmt) (t : DTS) : Prop where
  r : PS X st (lS X.K t)
structure QSs (X : Cx) (st : List Stmt) (t : DTS) : Prop where
  r : PSs X st (lS X.K t)
structure QG (X : Cx) (tg : Expr) (t : DTG) : Prop where
  r : PG X tg (lG X.K t)
structure QGs (X : Cx) (tgs : List Expr) (t : DTGs) : Prop where
  r : PGs X tgs (lGs X.K t)

section
variable {K : PySem.W.Frag} {H H' : Hp}
theorem Fin.ext {q : DK} {Q : VK} (h : Fin K H q Q) (e : Ext H H') : Fin K H' q Q := fun v H'' d μ' e' => h v H'' d μ' (e.trans e')
theorem FinT.ext {q : Bool → Sto → Prop} {Q : Bool → Hp → Prop} (h : FinT K H q Q) (e : Ext H H') : FinT K H' q Q := fun v H'' μ' e' => h v H'' μ' (e.trans e')
theorem FinO.ext {q : Option Int → Sto → Prop} {Q : Option Int → Hp → Prop} (h : FinO K H q Q) (e : Ext H H') : FinO K H' q Q := fun v H'' μ' e' => h v H'' μ' (e.trans e')
theorem FinA.ext {q : List D → Sto → Prop} {Q : List V → Hp → Prop} (h : FinA K H q Q) (e : Ext H H') : FinA K H' q Q := fun v H'' d μ' e' => h v H'' d μ' (e.trans e')
theorem FinS.ext {q : DSt → Sto → Prop} {Q : L2.St → Hp → Prop} (h : FinS K H q Q) (e : Ext H H') : FinS K H' q Q := fun v H'' d μ' e' => h v H'' d μ' (e.trans e')
theorem FinE.ext {d : DEnds} {D : Ends} (h : FinE K H d D) (e : Ext H H') : FinE K H' d D := ⟨h.nx.ext e, h.rt.ext e, h.bk.ext e, h.ct.ext e⟩
end
theorem PE.imp {X : Cx} {e : Expr} {t t' : TE} (h : PE X e t) (i : ∀ σ H Q, t' σ H Q → t σ H Q) : PE X e t' := ⟨fun pins s σ H Q I q => h.run pins s σ H Q I (i _ _ _ q)⟩
theorem PT.imp {X : Cx} {e : Expr} {t t' : TT} (h : PT X e t) (i : ∀ σ H Q, t' σ H Q → t σ H Q) : PT X e t' := ⟨fun pins s σ H Q I q => h.run pins s σ H Q I (i _ _ _ q)⟩
theorem PW.imp {X : Cx} {e : Expr} {t t' : TT} (h : PW X e t) (i : ∀ σ H Q, t' σ H Q → t σ H Q) : PW X e t' := ⟨fun w pins s σ H Q I q => h.run w pins s σ H Q I (i _ _ _ q)⟩
theorem PA.imp {X : Cx} {e : List Expr} {t t' : TA} (h : PA X e t) (i : ∀ σ H Q, t' σ H Q → t σ H Q) : PA X e t' := ⟨fun p pins s σ H Q I q => h.run p pins s σ H Q I (i _ _ _ q)⟩
theorem PS.imp {X : Cx} {e : Stmt} {t t' : TS} (h : PS X e t) (i : ∀ D σ H, t' D σ H → t D σ H) : PS X e t' := ⟨fun pins s σ H Q I q => h.run pins s σ H Q I (i _ _ _ q)⟩
theorem PSs.imp {X : Cx} {e : List Stmt} {t t' : TS} (h : PSs X e t) (i : ∀ D σ H, t' D σ H → t D σ H) : PSs X e t' := ⟨fun pins s σ H Q I q => h.run pins s σ H Q I (i _ _ _ q)⟩
theorem PG.imp {X : Cx} {e : Expr} {t t' : TG} (h : PG X e t) (i : ∀ v σ H Q, t' v σ H Q → t v σ H Q) : PG X e t' := ⟨fun pins s σ H v u Q I r q => h.run pins s σ H v u Q I r (i _ _ _ _ q)⟩
theorem PGs.imp {X : Cx} {e : List Expr} {t t' : TGs} (h : PGs X e t) (i : ∀ v σ H Q, t' v σ H Q → t v σ H Q) : PGs X e t' := ⟨fun pins s σ H v u Q I r q => h.run pins s σ H v u Q I r (i _ _ _ _ q)⟩
section
variable {X : Cx} {e a b : Expr} {pos : Pos}
theorem QE.imp {t t' : DTE} (h : QE X e t) (i : ∀ Γ μ q, t' Γ μ q → t Γ μ q) : QE X e t' := ⟨PE.imp h.r fun _ _ _ ⟨Γ, μ, q, a, b, c, d⟩ => ⟨Γ, μ, q, a, b, c, i _ _ _ d⟩⟩
theorem QT.imp {t t' : DTT} (h : QT X e t) (i : ∀ Γ μ q, t' Γ μ q → t Γ μ q) : QT X e t' := ⟨PT.imp h.r fun _ _ _ ⟨Γ, μ, q, a, b, c, d⟩ => ⟨Γ, μ, q, a, b, c, i _ _ _ d⟩⟩
theorem QS.imp {st : Stmt} {t t' : DTS} (h : QS X st t) (i : ∀ d Γ μ, t' d Γ μ → t d Γ μ) : QS X st t' := ⟨PS.imp h.r fun _ _ _ ⟨Γ, μ, q, a, b, c, d⟩ => ⟨Γ, μ, q, a, b, c, i _ _ _ d⟩⟩
theorem QSs.imp {st : List Stmt} {t t' : DTS} (h : QSs X st t) (i : ∀ d Γ μ, t' d Γ μ → t d Γ μ) : QSs X st t' := ⟨PSs.imp h.r fun _ _ _ ⟨Γ, μ, q, a, b, c, d⟩ => ⟨Γ, μ, q, a, b, c, i _ _ _ d⟩⟩

/-! ### names and constants -/
@[simp] def dVar (i : Nat) : DTE := fun Γ μ q => match Γ[i]? with
  | some (some d) => q d μ
  | _ => False
theorem lvar {K : PySem.W.Frag} {i : Nat} {σ : L2.St} {H : Hp} {Q : VK} (h : lE K (dVar i) σ H Q) : tVar i σ H Q := by
  obtain ⟨Γ, μ, q, h1, h2, h3, h4⟩ := h
  unfold dVar at h4
  split at h4
  · rename_i d e
    obtain ⟨v, hv, r⟩ := h1.2 i d e
    exact ⟨v, hv, h3 v H d μ (.refl H) r h2 h4⟩
  · exact h4.elim
theorem qv (i : Nat) {x : Str} {pos : Pos} (hN : X.N[i]? = some x := by rfl) (hv : Vis X.env.scope x := by first | exact Or.inl rfl | exact Or.inr (Or.inl rfl) | exact Or.inr (Or.inr rfl)) (hd : (x == ("__debug__" : Str)) = false := by decide)
    (hcd : (x == ("__classdict__" : Str)) = false := by decide) : QE X (.Name x pos) (dVar i) := ⟨PE.imp (pe_var hN hv hd hcd) fun _ _ _ h => lvar h⟩
@[simp] def dC (d : D) : DTE := fun _ μ q => q d μ
theorem lc {K : PySem.W.Frag} {d : D} {v : V} (hr : ∀ H, RD K H d v) {σ : L2.St} {H : Hp} {Q : VK} (h : lE K (dC d) σ H Q) : tC v σ H Q := by
  obtain ⟨Γ, μ, q, h1, h2, h3, h4⟩ := h
  exact h3 v H d μ (.refl H) (hr H) h2 h4
theorem qe_int {i : Int} {j} : QE X (.Constant (.int i) j pos) (dC (.int i)) := ⟨PE.imp pe_int fun _ _ _ h => lc (v := .int i) (d := .int i) (fun _ => rfl) h⟩
theorem qe_bl {i : Bool} {j} : QE X (.Constant (.bool i) j pos) (dC (.bl i)) := ⟨PE.imp pe_bl fun _ _ _ h => lc (v := .bl i) (d := .bl i) (fun _ => rfl) h⟩
theorem qe_non {j} : QE X (.Constant .none j pos) (dC .non) := ⟨PE.imp pe_non fun _ _ _ h => lc (v := .non) (d := .non) (fun _ => rfl) h⟩
theorem qe_str {i : Str} {j} : QE X (.Constant (.str i) j pos) (dC (.str i)) := ⟨PE.imp pe_str fun _ _ _ h => lc (v := .str i) (d := .str i) (fun _ => rfl) h⟩
/-- a constant of the module -/
theorem qe_glob {x : Str} {u : Value} {v : V} {d : D} (hg : Gl X x) (hm : X.mg x = some u) (r : RelV v u) (hr : ∀ H, RD X.K H d v) (h1 : (x == ("__debug__" : Str)) = false := by decide) : QE X (.Name x pos) (dC d) := ⟨PE.imp (pe_glob hg hm r h1) fun _ _ _ h => lc hr h⟩

theorem qe_globI {x : Str} {i : Int} {t : Tok} (hg : Gl X x) (hm : X.mg x = some (.int i t)) (h1 : (x == ("__debug__" : Str)) = false := by decide) : QE X (.Name x pos) (dC (.int i)) := qe_glob (v := .int i) (d := .int i) hg hm ⟨t, rfl⟩ (fun _ => rfl) h1
theorem qe_globS {x : Str} {i : Str} {t : Tok} (hg : Gl X x) (hm : X.mg x = some (.str i t)) (h1 : (x == ("__debug__" : Str)) = false := by decide) : QE X (.Name x pos) (dC (.str i)) := qe_glob (v := .str i) (d := .str i) hg hm ⟨t, rfl⟩ (fun _ => rfl) h1

/-! ### operations on values -/
def LR2 (K : PySem.W.Frag) (r : R2) (rd : D → D → Sto → DK → Prop) : Prop :=
  ∀ x y H Q dx dy μ q, RD K H dx x → RD K H dy y → RH K H μ → Fin K H q Q → rd dx dy μ q → r x y H Q
def LR1 (K : PySem.W.Frag) (r : V → Hp → VK → Prop) (rd : D → Sto → DK → Prop) : Prop :=
  ∀ x H Q dx μ q, RD K H dx x → RH K H μ → Fin K H q Q → rd dx μ q → r x H Q
def LRA (K : PySem.W.Frag) (r : List V → Hp → VK → Prop) (rd : List D → Sto → DK → Prop) : Prop :=
  ∀ xs H Q ds μ q, RDs K H ds xs → RH K H μ → Fin K H q Q → rd ds μ q → r xs H Q
@[simp] def dOp (r : D → D → Sto → DK → Prop) (ta tb : DTE) : DTE := fun Γ μ q => ta Γ μ fun x μ1 => tb Γ μ1 fun y μ2 => r x y μ2 q
@[simp] def dUn (r : D → Sto → DK → Prop) (ta : DTE) : DTE := fun Γ μ q => ta Γ μ fun x μ1 => r x μ1 q
section
variable {K : PySem.W.Frag}
theorem lop {r : R2} {rd : D → D → Sto → DK → Prop} (hr : LR2 K r rd) {ta tb : DTE} {σ : L2.St} {H : Hp} {Q : VK} (h : lE K (dOp rd ta tb) σ H Q) : tOp r (lE K ta) (lE K tb) σ H Q := by
  obtain ⟨Γ, μ, q, h1, h2, h3, h4⟩ := h
  refine ⟨Γ, μ, _, h1, h2, fun x H1 dx μ1 e1 r1 m1 h5 => ?_, h4⟩
  refine ⟨Γ, μ1, _, h1.ext e1, m1, fun y H2 dy μ2 e2 r2 m2 h6 => ?_, h5⟩
  exact hr x y H2 Q dx dy μ2 q (r1.ext e2) r2 m2 (h3.ext (e1.trans e2)) h6
theorem lun {r : V → Hp → VK → Prop} {rd : D → Sto → DK → Prop} (hr : LR1 K r rd) {ta : DTE} {σ : L2.St} {H : Hp} {Q : VK} (h : lE K (dUn rd ta) σ H Q) : tUn r (lE K ta) σ H Q := by
  obtain ⟨Γ, μ, q, h1, h2, h3, h4⟩ := h
  refine ⟨Γ, μ, _, h1, h2, fun x H1 dx μ1 e1 r1 m1 h5 => ?_, h4⟩
  exact hr x H1 Q dx μ1 q r1 m1 (h3.ext e1) h5
end
theorem qe_op {op : Operator} {r : R2} {rd : D → D → Sto → DK → Prop} {ta tb : DTE} (ho : OpR X (binaryOp op) r) (hr : LR2 X.K r rd) (ha : QE X a ta) (hb : QE X b tb) : QE X (.BinOp a op b pos) (dOp rd ta tb) :=
  ⟨PE.imp (pe_op ho ha.r hb.r) fun _ _ _ h => lop hr h⟩
theorem qe_un {op : UnaryOp} {r : V → Hp → VK → Prop} {rd : D → Sto → DK → Prop} {ta : DTE} (ho : UnR X (unaryOp op) r) (hr : LR1 X.K r rd) (ha : QE X a ta) : QE X (.UnaryOp op a pos) (dUn rd ta) :=
  ⟨PE.imp (pe_un ho ha.r) fun _ _ _ h => lun hr h⟩
theorem qe_cmp {op : CmpOp} {r : R2} {rd : D → D → Sto → DK → Prop} {ta tb : DTE} (ho : OpR X (compareOp op) r) (hr : LR2 X.K r rd) (ha : QE X a ta) (hb : QE X b tb) (hm : behindInMarks op b = false) : QE X (.Compare a [op] [b] pos) (dOp rd ta tb) :=
  ⟨PE.imp (pe_cmpR ho ha.r hb.r hm) fun _ _ _ h => lop hr h⟩
/-- a datum that is True or False -/
@[simp] def asB (d : D) (q : Bool → Prop) : Prop := match d with
  | .bl b => q b
  | _ => False
@[simp] def dTest (t : DTE) : DTT := fun Γ μ q => t Γ μ fun d μ1 => asB d fun b => q b μ1
theorem ltest {K : PySem.W.Frag} {t : TE} {td : DTE} (ht : ∀ σ H Q, lE K td σ H Q → t σ H Q) {σ : L2.St} {H : Hp} {Q : Bool → Hp → Prop} (h : lT K (dTest td) σ H Q) : t σ H fun x H1 => ∃ c, x = .bl c ∧ Q c H1 := by
  obtain ⟨Γ, μ, q, h1, h2, h3, h4⟩ := h
  refine ht _ _ _ ⟨Γ, μ, _, h1, h2, fun x H1 dx μ1 e1 r1 m1 h5 => ?_, h4⟩
  cases dx with
  | bl c => exact ⟨c, r1, h3 c H1 μ1 e1 m1 h5⟩
  | _ => exact h5.elim
theorem qt_cmp {op : CmpOp} {r : R2} {rd : D → D → Sto → DK → Prop} {ta tb : DTE} (ho : OpR X (compareOp op) r) (hr : LR2 X.K r rd) (ha : QE X a ta) (hb : QE X b tb) (hm : behindInMarks op b = false) : QT X (.Compare a [op] [b] pos) (dTest (dOp rd ta tb)) :=
  ⟨PT.imp (pt_cmpR ho ha.r hb.r hm) fun _ _ _ h => ltest (fun _ _ _ h => lop hr h) h⟩
theorem qt_val {t : DTE} (h : QE X e t) (he : ∀ whole, isTrue e X.env whole = (do let v ← whole; standAt e.pos; holding [v] (truthy v)) := by intro _; rfl) : QT X e (dTest t) :=
  ⟨PT.imp (pt_val h.r he) fun _ _ _ h => ltest (fun _ _ _ h => h) h⟩

/-! ### and, or, not, if -/
@[simp] def dAnd (t u : DTT) : DTT := fun Γ μ q => t Γ μ fun c μ1 => if c = true then u Γ μ1 q else q false μ1
@[simp] def dOr (t u : DTT) : DTT := fun Γ μ q => t Γ μ fun c μ1 => if c = true then q true μ1 else u Γ μ1 q
@[simp] def dNot (t : DTT) : DTT := fun Γ μ q => t Γ μ fun c μ1 => q (!c) μ1
variable {rest : List Expr}
theorem QW.t {t : DTT} (h : QW X e t) : QT X e t := ⟨PW.pt h.r⟩
theorem qw_and1 {t : DTT} (h : QT X a t) : QW X (.BoolOp .And [a] pos) t := ⟨pw_and1 h.r⟩
theorem qw_or1 {t : DTT} (h : QT X a t) : QW X (.BoolOp .Or [a] pos) t := ⟨pw_or1 h.r⟩
theorem qw_and {t u : DTT} (ha : QT X a t) (hb : QW X (.BoolOp .And (b :: rest) pos) u) : QW X (.BoolOp .And (a :: b :: rest) pos) (dAnd t u) := ⟨PW.imp (pw_and ha.r hb.r) fun σ H Q h => by
  obtain ⟨Γ, μ, q, h1, h2, h3, h4⟩ := h
  refine ⟨Γ, μ, _, h1, h2, fun c H1 μ1 e1 m1 h5 => ?_, h4⟩
  cases c with
  | true => exact ⟨Γ, μ1, q, h1.ext e1, m1, h3.ext e1, h5⟩
  | false => exact h3 false H1 μ1 e1 m1 h5⟩
theorem qw_or {t u : DTT} (ha : QT X a t) (hb : QW X (.BoolOp .Or (b :: rest) pos) u) : QW X (.BoolOp .Or (a :: b :: rest) pos) (dOr t u) := ⟨PW.imp (pw_or ha.r hb.r) fun σ H Q h => by
  obtain ⟨Γ, μ, q, h1, h2, h3, h4⟩ := h
  refine ⟨Γ, μ, _, h1, h2, fun c H1 μ1 e1 m1 h5 => ?_, h4⟩
  cases c with
  | true => exact h3 true H1 μ1 e1 m1 h5
  | false => exact ⟨Γ, μ1, q, h1.ext e1, m1, h3.ext e1, h5⟩⟩
theorem qt_not {t : DTT} (ha : QT X a t) : QT X (.UnaryOp .Not a pos) (dNot t) := ⟨PT.imp (pt_not ha.r) fun σ H Q h => by
  obtain ⟨Γ, μ, q, h1, h2, h3, h4⟩ := h
  exact ⟨Γ, μ, _, h1, h2, fun c H1 μ1 e1 m1 h5 => h3 _ H1 μ1 e1 m1 h5, h4⟩⟩
/-- .. as values -/
@[simp] def dAndV (ta tb : DTE) : DTE := fun Γ μ q => ta Γ μ fun x μ1 => asB x fun c => if c = true then tb Γ μ1 q else q (.bl false) μ1
@[simp] def dOrV (ta tb : DTE) : DTE := fun Γ μ q => ta Γ μ fun x μ1 => asB x fun c => if c = true then q (.bl true) μ1 else tb Γ μ1 q
@[simp] def dNotV (ta : DTE) : DTE := fun Γ μ q => ta Γ μ fun x μ1 => asB x fun c => q (.bl (!c)) μ1
theorem qe_one {op} {t : DTE} (h : QE X a t) : QE X (.BoolOp op [a] pos) t := ⟨pe_one h.r⟩
theorem qe_and {ta tb : DTE} (ha : QE X a ta) (hb : QE X (.BoolOp .And (b :: rest) pos) tb) : QE X (.BoolOp .And (a :: b :: rest) pos) (dAndV ta tb) := ⟨PE.imp (pe_and ha.r hb.r) fun σ H Q h => by
  obtain ⟨Γ, μ, q, h1, h2, h3, h4⟩ := h
  refine ⟨Γ, μ, _, h1, h2, fun x H1 dx μ1 e1 r1 m1 h5 => ?_, h4⟩
  cases dx with
  | bl c =>
    refine ⟨c, r1, ?_⟩
    cases c with
    | true => exact ⟨Γ, μ1, q, h1.ext e1, m1, h3.ext e1, h5⟩
    | false => exact h3 _ H1 (.bl false) μ1 e1 rfl m1 h5
  | _ => exact h5.elim⟩
theorem qe_or {ta tb : DTE} (ha : QE X a ta) (hb : QE X (.BoolOp .Or (b :: rest) pos) tb) : QE X (.BoolOp .Or (a :: b :: rest) pos) (dOrV ta tb) := ⟨PE.imp (pe_or ha.r hb.r) fun σ H Q h => by
  obtain ⟨Γ, μ, q, h1, h2, h3, h4⟩ := h
  refine ⟨Γ, μ, _, h1, h2, fun x H1 dx μ1 e1 r1 m1 h5 => ?_, h4⟩
  cases dx with
  | bl c =>
    refine ⟨c, r1, ?_⟩
    cases c with
    | true => exact h3 _ H1 (.bl true) μ1 e1 rfl m1 h5
    | false => exact ⟨Γ, μ1, q, h1.ext e1, m1, h3.ext e1, h5⟩
  | _ => exact h5.elim⟩
theorem qe_not {ta : DTE} (ha : QE X a ta) : QE X (.UnaryOp .Not a pos) (dNotV ta) := ⟨PE.imp (pe_not ha.r) fun σ H Q h => by
  obtain ⟨Γ, μ, q, h1, h2, h3, h4⟩ := h
  refine ⟨Γ, μ, _, h1, h2, fun x H1 dx μ1 e1 r1 m1 h5 => ?_, h4⟩
  cases dx with
  | bl c => exact ⟨c, r1, h3 _ H1 (.bl (!c)) μ1 e1 rfl m1 h5⟩
  | _ => exact h5.elim⟩
def dIf (t : DTT) (ta tb : DTE) : DTE := fun Γ μ q => t Γ μ fun c μ1 => if c = true then ta Γ μ1 q else tb Γ μ1 q
theorem qe_if {c : Expr} {t : DTT} {ta tb : DTE} (hc : QT X c t) (ha : QE X a ta) (hb : QE X b tb) : QE X (.IfExp c a b pos) (dIf t ta tb) := ⟨PE.imp (pe_ifExp hc.r ha.r hb.r) fun σ H Q h => by
  obtain ⟨Γ, μ, q, h1, h2, h3, h4⟩ := h
  refine ⟨Γ, μ, _, h1, h2, fun c H1 μ1 e1 m1 h5 => ?_, h4⟩
  cases c with
  | true => exact ⟨Γ, μ1, q, h1.ext e1, m1, h3.ext e1, h5⟩
  | false => exact ⟨Γ, μ1, q, h1.ext e1, m1, h3.ext e1, h5⟩⟩

/-! ### argument lists, displays -/
@[simp] def dNil : DTA := fun _ μ q => q [] μ
@[simp] def dCons (t : DTE) (ts : DTA) : DTA := fun Γ μ q => t Γ μ fun x μ1 => ts Γ μ1 fun xs μ2 => q (x :: xs) μ2
theorem qa_nil : QA X [] dNil := ⟨PA.imp pa_nil fun σ H Q h => by
  obtain ⟨Γ, μ, q, h1, h2, h3, h4⟩ := h
  exact h3 [] H [] μ (.refl H) rfl h2 h4⟩
theorem qa_cons {es : List Expr} {t : DTE} {ts : DTA} (ha : QE X e t) (hr : QA X es ts) (hs : starEach (e :: es) X.env = (false, eval e X.env) :: starEach es X.env := by rfl) : QA X (e :: es) (dCons t ts) := ⟨PA.imp (pa_cons ha.r hr.r hs) fun σ H Q h => by
  obtain ⟨Γ, μ, q, h1, h2, h3, h4⟩ := h
  refine ⟨Γ, μ, _, h1, h2, fun x H1 dx μ1 e1 r1 m1 h5 => ?_, h4⟩
  refine ⟨Γ, μ1, _, h1.ext e1, m1, fun xs H2 ds μ2 e2 r2 m2 h6 => ?_, h5⟩
  exact h3 _ H2 (dx :: ds) μ2 (e1.trans e2) ⟨x, xs, rfl, r1.ext e2, r2⟩ m2 h6⟩
/-- a written tuple -/
@[simp] def dTup (t : DTA) : DTE := fun Γ μ q => t Γ μ fun ds μ1 => ds.length ≤ sizeLine ∧ q (.tup ds) μ1
theorem qe_tup {es : List Expr} {x1} {t : DTA} (h : QA X es t) : QE X (.Tuple es x1 pos) (dTup t) := ⟨PE.imp (pe_tup h.r) fun σ H Q h => by
  obtain ⟨Γ, μ, q, h1, h2, h3, h4⟩ := h
  refine ⟨Γ, μ, _, h1, h2, fun vs H1 ds μ1 e1 r1 m1 h5 => ?_, h4⟩
  refine ⟨by rw [r1.len]; exact h5.1, fun p hp => ?_⟩
  refine h3 _ _ (.tup ds) μ1 (e1.trans (.new hp)) (.newT hp r1) (m1.new hp) h5.2⟩
/-- a written list, new -/
@[simp] def dLst (t : DTA) : DTE := fun Γ μ q => t Γ μ fun ds μ1 => ds.length ≤ sizeLine ∧ ∀ p, μ1 p = none → q (.ref p) (set μ1 p (.lst ds))
theorem qe_lst {es : List Expr} {t : DTA} (h : QA X es t) : QE X (.List es pos) (dLst t) := ⟨PE.imp (pe_lst h.r) fun σ H Q h => by
  obtain ⟨Γ, μ, q, h1, h2, h3, h4⟩ := h
  refine ⟨Γ, μ, _, h1, h2, fun vs H1 ds μ1 e1 r1 m1 h5 => ?_, h4⟩
  refine ⟨by rw [r1.len]; exact h5.1, fun p hp => ?_⟩
  exact h3 _ _ (.ref p) _ (e1.trans (.new hp)) rfl (m1.put (o := .lst ds) (.new hp) ⟨vs, rfl, r1.ext (.new hp)⟩) (h5.2 p (m1.free hp))⟩

/-! ### freezing: a list, a dict that is not written any more -/
/-- behind an expression: the list it gives is not written from here on -/
def dFz (t : DTE) : DTE := fun Γ μ q => t Γ μ fun d μ1 => ∃ a ds μ2, d = .ref a ∧ μ1 a = some (.lst ds) ∧ Sub μ2 μ1 ∧ μ2 a = none ∧ q (.fl ds) μ2
theorem pe_fz {t : TE} (h : PE X e t) : PE X e (fun σ H Q => t σ H fun v H1 => ∃ a u, v = .ref a ∧ H1 a = some u ∧ Mut (some u) ∧ ∀ o, Q v (upd H1 a (.frz o u))) := by
  refine ⟨fun pins s σ H Q I hw => ?_⟩
  refine thn (h.run pins s σ H _ I hw) fun v s1 ⟨x, H1, I1, r1, a, u, ex, ha, mu, q⟩ => ?_
  obtain ⟨od, I2⟩ := I1.lock ha mu
  exact ⟨x, _, I2, r1, q od⟩
theorem qe_fz {t : DTE} (h : QE X e t) : QE X e (dFz t) := ⟨PE.imp (pe_fz h.r) fun σ H Q h => by
  obtain ⟨Γ, μ, q, h1, h2, h3, h4⟩ := h
  refine ⟨Γ, μ, _, h1, h2, fun v H1 d μ1 e1 r1 m1 h5 => ?_, h4⟩
  obtain ⟨a, ds, μ2, rfl, ha, hs, hn, h6⟩ := h5
  obtain ⟨u, hu, vs, rfl, rv⟩ := m1 a _ ha
  refine ⟨a, _, r1, hu, trivial, fun o => ?_⟩
  have ex : Ext H1 (upd H1 a (.frz o (.lst vs))) := .mut hu id
  refine h3 _ _ (.fl ds) μ2 (e1.trans ex) ⟨a, vs, r1, ⟨o, upd_same⟩, rv.ext ex⟩ (fun b ob hb => ?_) h6
  have hb1 := hs b ob hb
  obtain ⟨w, hw, rw'⟩ := m1 b ob hb1
  have ne : b ≠ a := fun z => by subst z; rw [hn] at hb; cases hb
  exact ⟨w, by rw [upd_ne ne]; exact hw, rw'.ext ex⟩⟩
/-- a written list that nobody writes later -/
@[simp] def dLstF (t : DTA) : DTE := fun Γ μ q => t Γ μ fun ds μ1 => ds.length ≤ sizeLine ∧ q (.fl ds) μ1
end
end DL

/-! DCc: statements, targets, loops, comprehensions, calls of the text's own defs. -/
namespace DL
open PySem PySem.Spec PyProof.Rows L2
section
variable {X : Cx} {st : Stmt} {rest : List Stmt} {t u : DTS} {e : Expr} {te : DTE} {pos : Pos}
@[simp] def dNext : DTS := fun d Γ μ => d.nx Γ μ
@[simp] def dSeq (t u : DTS) : DTS := fun d Γ μ => t { d with nx := u d } Γ μ
theorem qss_nil : QSs X [] dNext := ⟨PSs.imp pss_nil fun D σ H ⟨Γ, μ, d, h1, h2, h3, h4⟩ => h3.nx σ H Γ μ (.refl H) h1 h2 h4⟩
theorem qss_cons (h1 : QS X st t) (h2 : QSs X rest u) : QSs X (st :: rest) (dSeq t u) := ⟨PSs.imp (pss_cons h1.r h2.r) fun D σ H ⟨Γ, μ, d, h1, h2, h3, h4⟩ =>
  ⟨Γ, μ, { d with nx := u d }, h1, h2, ⟨fun σ' H' Γ' μ' e1 r1 m1 h5 => ⟨Γ', μ', d, r1, m1, h3.ext e1, h5⟩, h3.rt, h3.bk, h3.ct⟩, h4⟩⟩
theorem qss_one (h1 : QS X st t) : QSs X [st] t := ⟨pss_one h1.r⟩
def dBreak : DTS := fun d Γ μ => d.bk Γ μ
def dCont : DTS := fun d Γ μ => d.ct Γ μ
theorem qs_pass : QS X (.Pass pos) dNext := ⟨PS.imp ps_pass fun D σ H ⟨Γ, μ, d, h1, h2, h3, h4⟩ => h3.nx σ H Γ μ (.refl H) h1 h2 h4⟩
theorem qs_break : QS X (.Break pos) dBreak := ⟨PS.imp ps_break fun D σ H ⟨Γ, μ, d, h1, h2, h3, h4⟩ => h3.bk σ H Γ μ (.refl H) h1 h2 h4⟩
theorem qs_cont : QS X (.Continue pos) dCont := ⟨PS.imp ps_continue fun D σ H ⟨Γ, μ, d, h1, h2, h3, h4⟩ => h3.ct σ H Γ μ (.refl H) h1 h2 h4⟩
theorem qs_doc {x j pos'} : QS X (.Expr (.Constant (.str x) j pos) pos') dNext := ⟨PS.imp ps_doc fun D σ H ⟨Γ, μ, d, h1, h2, h3, h4⟩ => h3.nx σ H Γ μ (.refl H) h1 h2 h4⟩
@[simp] def dDrop (te : DTE) : DTS := fun d Γ μ => te Γ μ fun _ μ1 => d.nx Γ μ1
theorem qs_expr (he : QE X e te) (hs : swapsWith e none pos.line X.env = pure false := by rfl) : QS X (.Expr e pos) (dDrop te) := ⟨PS.imp (ps_expr he.r hs) fun D σ H ⟨Γ, μ, d, h1, h2, h3, h4⟩ =>
  ⟨Γ, μ, _, h1, h2, fun v H' x μ' e1 r1 m1 h5 => h3.nx σ H' Γ μ' e1 (h1.ext e1) m1 h5, h4⟩⟩
@[simp] def dRet (te : DTE) : DTS := fun d Γ μ => te Γ μ d.rt
theorem qs_ret (he : QE X e te) : QS X (.Return (some e) pos) (dRet te) := ⟨PS.imp (ps_ret he.r) fun D σ H ⟨Γ, μ, d, h1, h2, h3, h4⟩ => ⟨Γ, μ, _, h1, h2, h3.rt, h4⟩⟩
@[simp] def dRetN : DTS := fun d _ μ => d.rt .non μ
theorem qs_retN : QS X (.Return none pos) dRetN := ⟨PS.imp ps_retN fun D σ H ⟨Γ, μ, d, h1, h2, h3, h4⟩ => h3.rt .non H .non μ (.refl H) rfl h2 h4⟩
@[simp] def dIfS (c : DTT) (t u : DTS) : DTS := fun d Γ μ => c Γ μ fun b μ1 => if b = true then t d Γ μ1 else u d Γ μ1
theorem qs_if {c : Expr} {a b : List Stmt} {tc : DTT} (hc : QT X c tc) (ha : QSs X a t) (hb : QSs X b u) : QS X (.If c a b pos) (dIfS tc t u) := ⟨PS.imp (ps_if hc.r ha.r hb.r) fun D σ H ⟨Γ, μ, d, h1, h2, h3, h4⟩ =>
  ⟨Γ, μ, _, h1, h2, fun b H1 μ1 e1 m1 h5 => by
    cases b with
    | true => exact ⟨Γ, μ1, d, h1.ext e1, m1, h3.ext e1, h5⟩
    | false => exact ⟨Γ, μ1, d, h1.ext e1, m1, h3.ext e1, h5⟩, h4⟩⟩
def dNever : DTS := fun _ _ _ => False
theorem qs_never : QS X st dNever := ⟨PS.imp (ps_never) fun D σ H ⟨Γ, μ, d, h1, h2, h3, h4⟩ => h4⟩
theorem qss_never {sts : List Stmt} : QSs X sts dNever := ⟨PSs.imp (pss_never) fun D σ H ⟨Γ, μ, d, h1, h2, h3, h4⟩ => h4⟩

/-! ### targets -/
@[simp] def dgName (i : Nat) : DTG := fun x Γ μ q => q (Γ.set i (some x)) μ
theorem qg_name {i : Nat} {x : Str} (hN : X.N.Nodup) (hi : X.N[i]? = some x) (hx : Loc X.env.scope x) (hf : X.fn x = true ∨ X.env.scope.names.lookup x = some .local := by first | exact .inl rfl | exact .inr rfl | assumption) : QG X (.Name x pos) (dgName i) :=
  ⟨PG.imp (pg_name hN hi hx hf) fun v σ H Q ⟨d, Γ, μ, q, r, h1, h2, h3, h4⟩ => h3 _ H _ μ (.refl H) (h1.set i r) h2 h4⟩
@[simp] def dgNil : DTGs := fun ds Γ μ q => ds = [] ∧ q Γ μ
@[simp] def dgCons (t : DTG) (u : DTGs) : DTGs := fun ds Γ μ q => match ds with
  | d :: r => t d Γ μ fun Γ1 μ1 => u r Γ1 μ1 q
  | [] => False
theorem qgs_nil : QGs X [] dgNil := ⟨PGs.imp pgs_nil fun vs σ H Q ⟨ds, Γ, μ, q, r, h1, h2, h3, h4⟩ => by
  obtain ⟨rfl, h4⟩ := h4
  exact ⟨r, h3 σ H Γ μ (.refl H) h1 h2 h4⟩⟩
theorem qgs_cons {es : List Expr} {t : DTG} {u : DTGs} (h1 : QG X e t) (h2 : QGs X es u) (hs : (assignEach (e :: es) X.env).map (·.2) = assign e X.env :: (assignEach es X.env).map (·.2) := by rfl) : QGs X (e :: es) (dgCons t u) :=
  ⟨PGs.imp (pgs_cons h1.r h2.r hs) fun vs σ H Q ⟨ds, Γ, μ, q, r, h1, h2, h3, h4⟩ => by
    cases ds with
    | nil => exact h4.elim
    | cons d ds =>
      obtain ⟨v, w, rfl, r1, r2⟩ := r
      refine ⟨v, w, rfl, d, Γ, μ, _, r1, h1, h2, fun σ' H' Γ' μ' e1 s1 m1 h5 => ?_, h4⟩
      exact ⟨ds, Γ', μ', q, r2.ext e1, s1, m1, h3.ext e1, h5⟩⟩
/-- a, b = a tuple -/
def dgTup (n : Nat) (t : DTGs) : DTG := fun d Γ μ q => match d with
  | .tup ds => ds.length = n ∧ t ds Γ μ q
  | _ => False
theorem qg_tup {es : List Expr} {k : Nat} {t : DTGs} {n : Nat} (hc : X.calm = true) (h : QGs X es t) (hn : (assignEach es X.env).length = n := by rfl) (hst : (assignEach es X.env).findIdx? (·.1) = none := by rfl) : QG X (.Tuple es k pos) (dgTup n t) :=
  ⟨PG.imp (pg_tup hc h.r hn hst) fun v σ H Q ⟨d, Γ, μ, q, r, h1, h2, h3, h4⟩ => by
    cases d with
    | tup ds =>
      obtain ⟨a, vs, rfl, ht, rv, _⟩ := r
      exact ⟨a, vs, rfl, ht, by rw [rv.len]; exact h4.1, ds, Γ, μ, q, rv, h1, h2, h3, h4.2⟩
    | _ => exact h4.elim⟩
/-- o[i] = v, by values -/
def LRS (K : PySem.W.Frag) (t : TSet) (td : D → D → D → Sto → (Sto → Prop) → Prop) : Prop :=
  ∀ o i v H (Q : Hp → Prop) dl dj dv μ (q : Sto → Prop), RD K H dl o → RD K H dj i → RD K H dv v → RH K H μ → (∀ H' μ', Ext H H' → RH K H' μ' → q μ' → Q H') → td dl dj dv μ q → t o i v H Q
def dgSub (to ti : DTE) (t : D → D → D → Sto → (Sto → Prop) → Prop) : DTG := fun v Γ μ q => to Γ μ fun o μ1 => ti Γ μ1 fun i μ2 => t o i v μ2 fun μ3 => q Γ μ3
theorem qg_sub {o i : Expr} {to ti : DTE} {t : TSet} {td : D → D → D → Sto → (Sto → Prop) → Prop} (ho : QE X o to) (hi : QE X i ti) (hs : PSet X t) (hl : LRS X.K t td)
    (ha : ∀ v, assign (.Subscript o i pos) X.env v = (do
      let ov ← holding [v] (eval o X.env)
      let iv ← holding [v, ov] (eval i X.env)
      standAt pos
      holding [v, ov, iv] (setItem ov iv v)
      release [v, ov, iv] []) := by intro _; rfl) : QG X (.Subscript o i pos) (dgSub to ti td) :=
  ⟨PG.imp (pg_sub ho.r hi.r hs ha) fun v σ H Q ⟨d, Γ, μ, q, r, h1, h2, h3, h4⟩ => by
    refine ⟨Γ, μ, _, h1, h2, fun ov H1 od μ1 e1 r1 m1 h5 => ?_, h4⟩
    refine ⟨Γ, μ1, _, h1.ext e1, m1, fun iv H2 id μ2 e2 r2 m2 h6 => ?_, h5⟩
    exact hl _ _ _ _ _ od id d μ2 _ (r1.ext e2) r2 (r.ext (e1.trans e2)) m2 (fun H3 μ3 e3 m3 h7 => h3 _ H3 _ μ3 ((e1.trans e2).trans e3) (h1.ext ((e1.trans e2).trans e3)) m3 h7) h6⟩
/-- target = value -/
@[simp] def dAsg (te : DTE) (g : DTG) : DTS := fun d Γ μ => te Γ μ fun x μ1 => g x Γ μ1 d.nx
theorem lasg {K : PySem.W.Frag} {te : DTE} {g : DTG} {tg : TG} (hg : ∀ v σ H Q, lG K g v σ H Q → tg v σ H Q) {D : Ends} {σ : L2.St} {H : Hp} (h : lS K (dAsg te g) D σ H) : tAsg (lE K te) tg D σ H := by
  obtain ⟨Γ, μ, d, h1, h2, h3, h4⟩ := h
  refine ⟨Γ, μ, _, h1, h2, fun x H1 dx μ1 e1 r1 m1 h5 => ?_, h4⟩
  exact hg _ _ _ _ ⟨dx, Γ, μ1, d.nx, r1, h1.ext e1, m1, h3.nx.ext e1, h5⟩
theorem qs_asg {tg : Expr} {g : DTG} (he : QE X e te) (hg : QG X tg g) (hs : swapsWithSole [tg] e pos.line X.env = pure false := by rfl) (hw : swappedStores [tg] e X.env = pure none := by rfl)
    (h1 : (assignEach [tg] X.env).map (·.2) = [assign tg X.env] := by rfl) : QS X (.Assign [tg] e pos) (dAsg te g) :=
  ⟨PS.imp (ps_asg he.r hg.r hs hw h1) fun _ _ _ h => lasg (fun _ _ _ _ h => h) h⟩
theorem qs_set {i : Nat} {x : Str} {pos' : Pos} (hN : X.N.Nodup) (hi : X.N[i]? = some x) (hx : Loc X.env.scope x) (he : QE X e te) (hs : swapsWith e (some (.Name x pos')) pos.line X.env = pure false := by rfl) (hf : X.fn x = true ∨ X.env.scope.names.lookup x = some .local := by first | exact .inl rfl | exact .inr rfl | assumption) :
    QS X (.Assign [.Name x pos'] e pos) (dAsg te (dgName i)) :=
  ⟨PS.imp (ps_set hN hi hx he.r hs hf) fun _ _ _ h => lasg (fun v σ H Q ⟨d, Γ, μ, q, r, h1, h2, h3, h4⟩ => h3 _ H _ μ (.refl H) (h1.set i r) h2 h4) h⟩
/-- name op= e -/
def dAug (i : Nat) (te : DTE) (rd : D → D → Sto → DK → Prop) : DTS := fun d Γ μ => match Γ[i]? with
  | some (some x) => te Γ μ fun y μ1 => rd x y μ1 fun z μ2 => d.nx (Γ.set i (some z)) μ2
  | _ => False
theorem qs_aug {i : Nat} {x : Str} {op : Operator} {ti : TIp} {rd : D → D → Sto → DK → Prop} {pos' : Pos} (hN : X.N.Nodup) (hi : X.N[i]? = some x) (hx : Loc X.env.scope x) (he : QE X e te) (ho : PIp X op ti) (hl : LR2 X.K ti rd)
    (hf : X.fn x = true ∨ X.env.scope.names.lookup x = some .local := by first | exact .inl rfl | exact .inr rfl | assumption) : QS X (.AugAssign (.Name x pos') op e pos) (dAug i te rd) :=
  ⟨PS.imp (ps_aug hN hi hx he.r ho hf) fun D σ H ⟨Γ, μ, d, h1, h2, h3, h4⟩ => by
    unfold dAug at h4
    split at h4
    · rename_i dx ex
      obtain ⟨v, hv, rv⟩ := h1.2 i dx ex
      refine ⟨v, hv, Γ, μ, _, h1, h2, fun y H1 dy μ1 e1 r1 m1 h5 => ?_, h4⟩
      exact hl _ _ _ _ dx dy μ1 _ (rv.ext e1) r1 m1 (fun z H2 dz μ2 e2 r2 m2 h6 => h3.nx _ H2 _ μ2 (e1.trans e2) ((h1.ext (e1.trans e2)).set i r2) m2 h6) h5
    · exact h4.elim⟩
end

/-! ### while -/
section
variable {X : Cx} {pos : Pos}
def whileD (c : DTT) (tb : DTS) (d : DEnds) : Nat → DSt → Sto → Prop
  | 0, _, _ => False
  | n + 1, Γ, μ => c Γ μ fun b μ1 => if b = true then tb { d with nx := whileD c tb d n, ct := whileD c tb d n, bk := d.nx } Γ μ1 else d.nx Γ μ1
def dWhile (c : DTT) (tb : DTS) : DTS := fun d Γ μ => ∃ n, whileD c tb d n Γ μ
theorem qs_while {c : Expr} {body : List Stmt} {tc : DTT} {tb : DTS} (hp : PassesOwn (model X.prog X.w) X.A X.env X.xe) (hc : QT X c tc) (hb : QSs X body tb) : QS X (.While c body [] pos) (dWhile tc tb) :=
  ⟨PS.imp (ps_while hp hc.r hb.r) fun D σ H ⟨Γ, μ, d, h1, h2, h3, n, h4⟩ => by
    refine ⟨fun m σ' H' => ∃ Γ' μ', Ext H H' ∧ RS X.K H' σ' Γ' ∧ RH X.K H' μ' ∧ whileD tc tb d m Γ' μ', ⟨n, Γ, μ, .refl H, h1, h2, h4⟩, ?_⟩
    rintro m σ1 H1 ⟨Γ1, μ1, e1, r1, m1, h5⟩
    cases m with
    | zero => exact h5.elim
    | succ m =>
      refine ⟨Γ1, μ1, _, r1, m1, fun b H2 μ2 e2 m2 h6 => ?_, h5⟩
      cases b with
      | true =>
        refine ⟨fun σ' H' => ∃ Γ' μ', Ext H H' ∧ RS X.K H' σ' Γ' ∧ RH X.K H' μ' ∧ whileD tc tb d m Γ' μ', fun σ' H' ⟨Γ', μ', x1, x2, x3, x4⟩ => ⟨m, Nat.lt_succ_self m, Γ', μ', x1, x2, x3, x4⟩, ?_⟩
        refine ⟨Γ1, μ2, { d with nx := whileD tc tb d m, ct := whileD tc tb d m, bk := d.nx }, r1.ext e2, m2, ⟨fun σ' H' Γ' μ' e3 r3 m3 h7 => ⟨Γ', μ', (e1.trans e2).trans e3, r3, m3, h7⟩, h3.rt.ext (e1.trans e2), h3.nx.ext (e1.trans e2), fun σ' H' Γ' μ' e3 r3 m3 h7 => ⟨Γ', μ', (e1.trans e2).trans e3, r3, m3, h7⟩⟩, h6⟩
      | false => exact h3.nx σ1 H2 Γ1 μ2 (e1.trans e2) (r1.ext e2) m2 h6⟩
end

/-! ### what is walked -/
structure DIt where
  items : List D
  ok : Sto → Prop := fun _ => True
abbrev DTI := DSt → Sto → (DIt → Sto → Prop) → Prop
def ItOk (K : PySem.W.Frag) (J : It) (it : DIt) (H : Hp) : Prop := ∀ (i : Nat) H1 μ1, Ext H H1 → RH K H1 μ1 → it.ok μ1 →
  (i = it.items.length → J.stop i H1) ∧ ∀ d, it.items[i]? = some d → J.go i H1 ∧ ∀ x H2, J.yld i H1 x H2 → Ext H1 H2 ∧ RH K H2 μ1 ∧ RD K H2 d x
def lI (K : PySem.W.Frag) (wi : DTI) : TI := fun σ H R => ∃ Γ μ q, RS K H σ Γ ∧ RH K H μ ∧ (∀ J it H1 μ1, Ext H H1 → RH K H1 μ1 → ItOk K J it H1 → q it μ1 → R J H1) ∧ wi Γ μ q
structure QI (X : Cx) (tg iter : Expr) (wi : DTI) : Prop where
  r : PI X tg iter (lI X.K wi)
theorem PI.imp {X : Cx} {tg iter : Expr} {t t' : TI} (h : PI X tg iter t) (i : ∀ σ H R, t' σ H R → t σ H R) : PI X tg iter t' := ⟨fun pins s σ H Q I q => h.run pins s σ H Q I (i _ _ _ q)⟩
theorem QI.imp {X : Cx} {tg iter : Expr} {t t' : DTI} (h : QI X tg iter t) (i : ∀ Γ μ q, t' Γ μ q → t Γ μ q) : QI X tg iter t' := ⟨PI.imp h.r fun _ _ _ ⟨Γ, μ, q, a, b, c, d⟩ => ⟨Γ, μ, q, a, b, c, i _ _ _ d⟩⟩

section
variable {X : Cx} {tg iter : Expr} {pos : Pos}
def forD (ok : Sto → Prop) (g : DTG) (tb : DTS) (d : DEnds) : List D → DSt → Sto → Prop
  | [], Γ, μ => ok μ ∧ d.nx Γ μ
  | x :: xs, Γ, μ => ok μ ∧ g x Γ μ fun Γ1 μ1 => tb { d with nx := forD ok g tb d xs, ct := forD ok g tb d xs, bk := d.nx } Γ1 μ1
theorem forD.ok {ok : Sto → Prop} {g : DTG} {tb : DTS} {d : DEnds} {xs : List D} {Γ : DSt} {μ : Sto} (h : forD ok g tb d xs Γ μ) : ok μ := by
  cases xs <;> exact h.1
def dFor (wi : DTI) (g : DTG) (tb : DTS) : DTS := fun d Γ μ => wi Γ μ fun it μ1 => forD it.ok g tb d it.items Γ μ1
theorem qs_for {body : List Stmt} {wi : DTI} {g : DTG} {tb : DTS} (hp : PassesOwn (model X.prog X.w) X.A X.env X.xe) (hc : X.calm = true) (hi : QI X tg iter wi) (hg : QG X tg g) (hb : QSs X body tb)
    (hs : ∀ x, foldedSetIterable iter X.env x = pure x := by intro _; rfl) : QS X (.For tg iter body [] pos) (dFor wi g tb) :=
  ⟨PS.imp (ps_for hp hc hi.r hg.r hb.r hs) fun D σ H ⟨Γ, μ, d, h1, h2, h3, h4⟩ => by
    refine ⟨Γ, μ, _, h1, h2, fun J it H1 μ1 e1 m1 iok h5 => ?_, h4⟩
    refine ⟨fun i m σ' H' => ∃ Γ' μ', Ext H1 H' ∧ RS X.K H' σ' Γ' ∧ RH X.K H' μ' ∧ i ≤ it.items.length ∧ m = it.items.length - i ∧ forD it.ok g tb d (it.items.drop i) Γ' μ',
      ⟨it.items.length, Γ, μ1, .refl H1, h1.ext e1, m1, Nat.zero_le _, rfl, by simpa using h5⟩, ?_⟩
    rintro i m σ2 H2 ⟨Γ2, μ2, e2, r2, m2, hi, rfl, h6⟩
    obtain ⟨k1, k2⟩ := iok i H2 μ2 e2 m2 h6.ok
    by_cases hlt : i < it.items.length
    · rw [List.drop_eq_getElem_cons hlt] at h6
      obtain ⟨_, h6⟩ := h6
      obtain ⟨go, yl⟩ := k2 _ (List.getElem?_eq_getElem hlt)
      refine .inr ⟨go, fun σ' H' => ∃ Γ' μ', Ext H1 H' ∧ RS X.K H' σ' Γ' ∧ RH X.K H' μ' ∧ forD it.ok g tb d (it.items.drop (i + 1)) Γ' μ', fun σ' H' ⟨Γ', μ', x1, x2, x3, x4⟩ =>
        ⟨it.items.length - (i + 1), by omega, Γ', μ', x1, x2, x3, hlt, rfl, x4⟩, fun x H3 y => ?_⟩
      obtain ⟨e3, m3, r3⟩ := yl x H3 y
      refine ⟨_, Γ2, μ2, _, r3, r2.ext e3, m3, fun σ' H' Γ' μ' e4 r4 m4 h7 => ?_, h6⟩
      have ea : Ext H1 H' := (e2.trans e3).trans e4
      refine ⟨Γ', μ', { d with nx := forD it.ok g tb d (it.items.drop (i + 1)), ct := forD it.ok g tb d (it.items.drop (i + 1)), bk := d.nx }, r4, m4, ⟨fun σ' H' Γ' μ' e5 r5 m5 h8 => ⟨Γ', μ', ea.trans e5, r5, m5, h8⟩, h3.rt.ext (e1.trans ea), h3.nx.ext (e1.trans ea), fun σ' H' Γ' μ' e5 r5 m5 h8 => ⟨Γ', μ', ea.trans e5, r5, m5, h8⟩⟩, h7⟩
    · have hl : i = it.items.length := by omega
      subst hl
      rw [List.drop_length] at h6
      exact .inl ⟨k1 rfl, h3.nx σ2 H2 Γ2 μ2 (e1.trans e2) r2 m2 h6.2⟩⟩

/-! ### sources -/
/-- the signs of a text -/
def sgn (x : Str) : List D := x.cps.toList.map fun c => D.str ⟨#[c]⟩
/-- the items of a list, a row, a text -/
def dSeqIt (te : DTE) : DTI := fun Γ μ q => te Γ μ fun x μ1 => match x with
  | .fl ds => q ⟨ds, fun _ => True⟩ μ1
  | .wl ds => q ⟨ds, fun _ => True⟩ μ1
  | .tup ds => q ⟨ds, fun _ => True⟩ μ1
  | .str z => q ⟨sgn z, fun _ => True⟩ μ1
  | .ref a => ∃ ds, μ1 a = some (.lst ds) ∧ q ⟨ds, fun μ2 => μ2 a = some (.lst ds)⟩ μ1
  | _ => False
theorem itok_list {K : PySem.W.Frag} {H : Hp} {a : Addr} {it : DIt} (h : ∀ H1 μ1, Ext H H1 → RH K H1 μ1 → it.ok μ1 → ∃ vs, SqL K H1 a vs ∧ RDs K H1 it.items vs) : ItOk K (Itl K a) it H := by
  intro i H1 μ1 e1 m1 ok
  obtain ⟨vs, hv, rv⟩ := h H1 μ1 e1 m1 ok
  refine ⟨fun e => ⟨vs, hv, by rw [rv.len]; omega⟩, fun d hd => ?_⟩
  obtain ⟨v, hv', rd⟩ := rv.get hd
  refine ⟨⟨vs, v, hv, hv'⟩, fun x H2 y => ?_⟩
  obtain ⟨rfl, y⟩ := y
  have := y vs hv
  rw [hv'] at this
  cases this
  exact ⟨.refl _, m1, rd⟩
end
end DL

/-! DE: comprehensions, sources, calls, defs. -/
namespace DL
open PySem PySem.Spec PyProof.Rows L2
section
variable {X : Cx} {tg iter elt : Expr} {pos : Pos}
/-! ### list comprehensions -/
theorem wipe_get {σ : L2.St} {i : Nat} : ∀ {vs : List Nat}, i ∈ vs → i < σ.length → (wipe σ vs)[i]? = some none
  | v :: vs, h, hl => by
    unfold wipe
    by_cases c : v = i
    · subst c; rw [List.getElem?_set_self (by rw [wipe_length]; exact hl)]
    · rw [List.getElem?_set_ne c]
      exact wipe_get ((List.mem_cons.mp h).resolve_left fun z => c z.symm) hl
theorem wipe_not {σ : L2.St} {i : Nat} : ∀ {vs : List Nat}, i ∉ vs → (wipe σ vs)[i]? = σ[i]?
  | [], _ => rfl
  | v :: vs, h => by
    unfold wipe
    rw [List.getElem?_set_ne fun z => h (by rw [z]; exact List.mem_cons_self)]
    exact wipe_not fun z => h (List.mem_cons_of_mem _ z)
theorem wipe_eq {σ τ : L2.St} {vs : List Nat} (hl : σ.length = τ.length) (h : ∀ i, i ∉ vs → σ[i]? = τ[i]?) : wipe σ vs = wipe τ vs := by
  refine List.ext_getElem? fun i => ?_
  by_cases c : i ∈ vs
  · by_cases b : i < σ.length
    · rw [wipe_get c b, wipe_get c (hl ▸ b)]
    · rw [List.getElem?_eq_none (by rw [wipe_length]; omega), List.getElem?_eq_none (by rw [wipe_length]; omega)]
  · rw [wipe_not c, wipe_not c]; exact h i c
theorem wipe_wipe {σ : L2.St} {vs : List Nat} : wipe (wipe σ vs) vs = wipe σ vs := wipe_eq (wipe_length σ vs) fun i h => wipe_not h
theorem wipe_set {σ : L2.St} {vs : List Nat} {i : Nat} {o : Option V} (h : i ∈ vs) : wipe (σ.set i o) vs = wipe σ vs := wipe_eq (by simp) fun j hj => List.getElem?_set_ne fun (z : i = j) => hj (by rw [← z]; exact h)
theorem dwipe_len (Γ : DSt) : ∀ vs : List Nat, (dwipe Γ vs).length = Γ.length
  | [] => rfl
  | v :: vs => by unfold dwipe; rw [List.length_set, dwipe_len Γ vs]
theorem dwipe_some {Γ : DSt} {i : Nat} {d : D} : ∀ {vs : List Nat}, (dwipe Γ vs)[i]? = some (some d) → Γ[i]? = some (some d) ∧ i ∉ vs
  | [], h => ⟨h, by simp⟩
  | v :: vs, h => by
    unfold dwipe at h
    by_cases hi : v = i
    · subst hi
      by_cases hv : v < (dwipe Γ vs).length
      · rw [List.getElem?_set_self hv] at h; cases h
      · rw [List.getElem?_eq_none (by simpa using hv)] at h; cases h
    · rw [List.getElem?_set_ne hi] at h
      obtain ⟨h1, h2⟩ := dwipe_some h
      exact ⟨h1, by simp only [List.mem_cons, not_or]; exact ⟨fun e => hi e.symm, h2⟩⟩
theorem RS.wipe {K : PySem.W.Frag} {H : Hp} {σ : L2.St} {Γ : DSt} (h : RS K H σ Γ) (vs : List Nat) : RS K H (wipe σ vs) (dwipe Γ vs) := ⟨by rw [wipe_length, dwipe_len]; exact h.1, fun i d e => by
  obtain ⟨e1, e2⟩ := dwipe_some e
  rw [wipe_not e2]
  exact h.2 i d e1⟩
/-- a comprehension's target: its own slots alone are stored -/
def lGc (K : PySem.W.Frag) (vs : List Nat) (t : DTG) : TG := fun v σ H Q => ∃ d Γ μ q, RD K H d v ∧ RS K H σ Γ ∧ RH K H μ ∧ (∀ σ' H' Γ' μ', Ext H H' → RS K H' σ' Γ' → RH K H' μ' → wipe σ' vs = wipe σ vs → q Γ' μ' → Q σ' H') ∧ t d Γ μ q
def lGsc (K : PySem.W.Frag) (vs : List Nat) (t : DTGs) : TGs := fun us σ H Q => ∃ ds Γ μ q, RDs K H ds us ∧ RS K H σ Γ ∧ RH K H μ ∧ (∀ σ' H' Γ' μ', Ext H H' → RS K H' σ' Γ' → RH K H' μ' → wipe σ' vs = wipe σ vs → q Γ' μ' → Q σ' H') ∧ t ds Γ μ q
structure QC (X : Cx) (tg : Expr) (vs : List Nat) (t : DTG) : Prop where
  r : PG X tg (lGc X.K vs t)
structure QCs (X : Cx) (tgs : List Expr) (vs : List Nat) (t : DTGs) : Prop where
  r : PGs X tgs (lGsc X.K vs t)
variable {vs : List Nat}
theorem qc_name {i : Nat} {x : Str} (hv : i ∈ vs) (hN : X.N.Nodup) (hi : X.N[i]? = some x) (hx : Loc X.env.scope x) (hf : X.fn x = true ∨ X.env.scope.names.lookup x = some .local := by first | exact .inl rfl | exact .inr rfl | assumption) : QC X (.Name x pos) vs (dgName i) :=
  ⟨PG.imp (pg_name hN hi hx hf) fun v σ H Q ⟨d, Γ, μ, q, r, h1, h2, h3, h4⟩ => h3 _ H _ μ (.refl H) (h1.set i r) h2 (wipe_set hv) h4⟩
theorem qcs_nil : QCs X [] vs dgNil := ⟨PGs.imp pgs_nil fun us σ H Q ⟨ds, Γ, μ, q, r, h1, h2, h3, h4⟩ => by
  obtain ⟨rfl, h4⟩ := h4
  exact ⟨r, h3 σ H Γ μ (.refl H) h1 h2 rfl h4⟩⟩
theorem qcs_cons {e : Expr} {es : List Expr} {t : DTG} {u : DTGs} (h1 : QC X e vs t) (h2 : QCs X es vs u) (hs : (assignEach (e :: es) X.env).map (·.2) = assign e X.env :: (assignEach es X.env).map (·.2) := by rfl) : QCs X (e :: es) vs (dgCons t u) :=
  ⟨PGs.imp (pgs_cons h1.r h2.r hs) fun us σ H Q ⟨ds, Γ, μ, q, r, h1, h2, h3, h4⟩ => by
    cases ds with
    | nil => exact h4.elim
    | cons d ds =>
      obtain ⟨v, w, rfl, r1, r2⟩ := r
      refine ⟨v, w, rfl, d, Γ, μ, _, r1, h1, h2, fun σ' H' Γ' μ' e1 s1 m1 w1 h5 => ?_, h4⟩
      exact ⟨ds, Γ', μ', q, r2.ext e1, s1, m1, fun σ2 H2 Γ2 μ2 e2 s2 m2 w2 h6 => h3 σ2 H2 Γ2 μ2 (e1.trans e2) s2 m2 (w2.trans w1) h6, h5⟩⟩
theorem qc_tup {es : List Expr} {k : Nat} {t : DTGs} {n : Nat} (hc : X.calm = true) (h : QCs X es vs t) (hn : (assignEach es X.env).length = n := by rfl) (hst : (assignEach es X.env).findIdx? (·.1) = none := by rfl) : QC X (.Tuple es k pos) vs (dgTup n t) :=
  ⟨PG.imp (pg_tup hc h.r hn hst) fun v σ H Q ⟨d, Γ, μ, q, r, h1, h2, h3, h4⟩ => by
    cases d with
    | tup ds =>
      obtain ⟨a, vs, rfl, ht, rv, _⟩ := r
      exact ⟨a, vs, rfl, ht, by rw [rv.len]; exact h4.1, ds, Γ, μ, q, rv, h1, h2, h3, h4.2⟩
    | _ => exact h4.elim⟩
structure QTs (X : Cx) (ifs : List Expr) (t : DTT) : Prop where
  r : PTs X ifs (lT X.K t)
theorem PTs.imp {X : Cx} {e : List Expr} {t t' : TT} (h : PTs X e t) (i : ∀ σ H Q, t' σ H Q → t σ H Q) : PTs X e t' := ⟨fun pins s σ H Q I q => h.run pins s σ H Q I (i _ _ _ q)⟩
@[simp] def dYes : DTT := fun _ μ q => q true μ
theorem qts_nil : QTs X [] dYes := ⟨PTs.imp pts_nil fun σ H Q ⟨Γ, μ, q, h1, h2, h3, h4⟩ => h3 true H μ (.refl H) h2 h4⟩
theorem qts_one {c : Expr} {t : DTT} (h : QT X c t) : QTs X [c] t := ⟨pts_one h.r⟩
/-- one item: its target, its test, its element (none where it is left out) -/
def elD (g : DTG) (tt : DTT) (te : DTE) (vs : List Nat) (Γ : DSt) (x : D) (μ : Sto) (q : Option D → Sto → Prop) : Prop :=
  g x (dwipe Γ vs) μ fun Γ1 μ1 => tt Γ1 μ1 fun b μ2 => if b = true then te Γ1 μ2 fun y μ3 => q (some y) μ3 else q none μ2
def compD (ok : Sto → Prop) (g : DTG) (tt : DTT) (te : DTE) (vs : List Nat) (p : Addr) (Γ : DSt) (q : Sto → Prop) : List D → Sto → Prop
  | [], μ => ok μ ∧ q μ
  | x :: xs, μ => ok μ ∧ elD g tt te vs Γ x μ fun y μ1 => match y with
    | some y => ∃ acc, μ1 p = some (.lst acc) ∧ acc.length < sizeLine ∧ compD ok g tt te vs p Γ q xs (set μ1 p (.lst (acc ++ [y])))
    | none => compD ok g tt te vs p Γ q xs μ1
theorem compD.ok {ok : Sto → Prop} {g : DTG} {tt : DTT} {te : DTE} {vs : List Nat} {p : Addr} {Γ : DSt} {q : Sto → Prop} {xs : List D} {μ : Sto} (h : compD ok g tt te vs p Γ q xs μ) : ok μ := by
  cases xs <;> exact h.1
def dLc (wi : DTI) (g : DTG) (tt : DTT) (te : DTE) (vs : List Nat) : DTE := fun Γ μ q => wi Γ μ fun it μ1 => ∀ p, μ1 p = none → compD it.ok g tt te vs p Γ (fun μ2 => q (.ref p) μ2) it.items (set μ1 p (.lst []))
theorem llc {K : PySem.W.Frag} {wi : DTI} {g : DTG} {tt : DTT} {te : DTE} {σ : L2.St} {H : Hp} {Q : VK} (h : lE K (dLc wi g tt te vs) σ H Q) : tLc (lI K wi) (lGc K vs g) (lT K tt) (lE K te) vs σ H Q := by
  obtain ⟨Γ, μ, q, h1, h2, h3, h4⟩ := h
  refine ⟨Γ, μ, _, h1, h2, fun J it H1 μ1 e1 m1 iok h5 => ?_, h4⟩
  intro p hp
  have h6 := h5 p (m1.free hp)
  have e0 : Ext H1 (upd H1 p (.lst [])) := .new hp
  refine ⟨fun i m H' => ∃ μ', Ext H1 H' ∧ RH K H' μ' ∧ i ≤ it.items.length ∧ m = it.items.length - i ∧ compD it.ok g tt te vs p Γ (fun μ2 => q (.ref p) μ2) (it.items.drop i) μ',
    ⟨it.items.length, _, e0, m1.put (o := .lst []) e0 ⟨[], rfl, rfl⟩, Nat.zero_le _, rfl, h6⟩, ?_⟩
  rintro i m H2 ⟨μ2, e2, m2, hi, rfl, h7⟩
  obtain ⟨k1, k2⟩ := iok i H2 μ2 e2 m2 h7.ok
  by_cases hlt : i < it.items.length
  · rw [List.drop_eq_getElem_cons hlt] at h7
    obtain ⟨_, h7⟩ := h7
    obtain ⟨go, yl⟩ := k2 _ (List.getElem?_eq_getElem hlt)
    refine .inr ⟨go, fun H' => ∃ μ', Ext H1 H' ∧ RH K H' μ' ∧ compD it.ok g tt te vs p Γ (fun μ2 => q (.ref p) μ2) (it.items.drop (i + 1)) μ', fun H' ⟨μ', x1, x2, x3⟩ => ⟨it.items.length - (i + 1), by omega, μ', x1, x2, hlt, rfl, x3⟩, fun x H3 y => ?_⟩
    obtain ⟨e3, m3, r3⟩ := yl x H3 y
    have ea : Ext H H3 := (e1.trans e2).trans e3
    refine ⟨_, _, μ2, _, r3, (h1.ext ea).wipe vs, m3, fun σ4 H4 Γ4 μ4 e4 r4 m4 w4 h8 => ⟨w4.trans wipe_wipe, ?_⟩, h7⟩
    refine ⟨Γ4, μ4, _, r4, m4, fun b H5 μ5 e5 m5 h9 => ?_, h8⟩
    have eb : Ext H1 H5 := ((e2.trans e3).trans e4).trans e5
    cases b with
    | true =>
      refine ⟨Γ4, μ5, _, r4.ext e5, m5, fun v H6 d μ6 e6 r6 m6 h10 => ?_, h9⟩
      obtain ⟨acc, ha, hz, h11⟩ := h10
      obtain ⟨u, hu, vs', rfl, rv⟩ := m6 p _ ha
      refine ⟨vs', hu, by rw [rv.len]; exact hz, ?_⟩
      have e7 : Ext H6 (upd H6 p (.lst (vs' ++ [v]))) := .mut hu id
      exact ⟨_, (eb.trans e6).trans e7, m6.put (o := .lst (acc ++ [d])) e7 ⟨_, rfl, (rv.snoc r6).ext e7⟩, h11⟩
    | false => exact ⟨μ5, eb, m5, h9⟩
  · have hl : i = it.items.length := by omega
    subst hl
    rw [List.drop_length] at h7
    exact .inl ⟨k1 rfl, h3 _ H2 (.ref p) μ2 (e1.trans e2) rfl m2 h7.2⟩
theorem qe_lc {ifs : List Expr} {scope : Scope} {own : List (Str × Nat)} {wi : DTI} {g : DTG} {tt : DTT} {te : DTE} (hc : X.calm = true) (hN : X.N.Nodup) (hi : QI X tg iter wi) (ok : BlkOk X.N X.env.scope scope own)
    (hg : ∀ (s : Shared) (H : Hp) (C : Addr) (cl : List (Str × Addr)) (fp : List Addr), QC (X.blk s H scope (compEnvC scope cl C X.env) fp) tg (own.map (·.2)) g) (ht : ∀ (s : Shared) (H : Hp) (C : Addr) (cl : List (Str × Addr)) (fp : List Addr), QTs (X.blk s H scope (compEnvC scope cl C X.env) fp) ifs tt)
    (he : ∀ (s : Shared) (H : Hp) (C : Addr) (cl : List (Str × Addr)) (fp : List Addr), QE (X.blk s H scope (compEnvC scope cl C X.env) fp) elt te) (hs : ∀ x, foldedSetIterable iter X.env x = pure x := by intro _; rfl) :
    QE X (.ListComp elt [⟨tg, iter, ifs, 0⟩] scope pos) (dLc wi g tt te (own.map (·.2))) :=
  ⟨PE.imp (pe_lc hc hN hi.r ok (fun s H C cl fp => (hg s H C cl fp).r) (fun s H C cl fp => (ht s H C cl fp).r) (fun s H C cl fp => (he s H C cl fp).r) hs) fun _ _ _ h => llc h⟩
theorem qs_setLc {i : Nat} {y : Str} {py spos : Pos} {ifs : List Expr} {scope : Scope} {own : List (Str × Nat)} {wi : DTI} {g : DTG} {tt : DTT} {te : DTE} (hc : X.calm = true) (hN : X.N.Nodup) (hy : X.N[i]? = some y) (hyl : X.env.scope.names.lookup y = some .local)
    (hsw : swapsWith (.ListComp elt [⟨tg, iter, ifs, 0⟩] scope pos) (some (.Name y py)) spos.line X.env = pure true) (hi : QI X tg iter wi) (ok : BlkOk X.N X.env.scope scope own)
    (hg : ∀ (s : Shared) (H : Hp) (C : Addr) (cl : List (Str × Addr)) (fp : List Addr), QC (X.blk s H scope (compEnvC scope cl C X.env) fp) tg (own.map (·.2)) g) (ht : ∀ (s : Shared) (H : Hp) (C : Addr) (cl : List (Str × Addr)) (fp : List Addr), QTs (X.blk s H scope (compEnvC scope cl C X.env) fp) ifs tt)
    (he : ∀ (s : Shared) (H : Hp) (C : Addr) (cl : List (Str × Addr)) (fp : List Addr), QE (X.blk s H scope (compEnvC scope cl C X.env) fp) elt te) (hs : ∀ x, foldedSetIterable iter X.env x = pure x := by intro _; rfl) :
    QS X (.Assign [.Name y py] (.ListComp elt [⟨tg, iter, ifs, 0⟩] scope pos) spos) (dAsg (dLc wi g tt te (own.map (·.2))) (dgName i)) :=
  ⟨PS.imp (ps_setLc hc hN hy hyl hsw hi.r ok (fun s H C cl fp => (hg s H C cl fp).r) (fun s H C cl fp => (ht s H C cl fp).r) (fun s H C cl fp => (he s H C cl fp).r) hs) fun D σ H h => by
    obtain ⟨Γ, μ, d, h1, h2, h3, h4⟩ := h
    refine llc ⟨Γ, μ, _, h1, h2, fun v H' dx μ' e r m h5 => ?_, h4⟩
    exact h3.nx _ H' _ μ' e ((h1.ext e).set i r) m h5⟩

/-! ### sources -/
theorem sqL_fun {K : PySem.W.Frag} {H H1 : Hp} {a : Addr} {xs : List V} (e : Ext H H1) (h : SqF K H a xs) : SqL K H1 a xs := (h.ext e).l
theorem itok_tup {K : PySem.W.Frag} {H : Hp} {a : Addr} {it : DIt} {vs : List V} (h : SqT K H a vs) (r : RDs K H it.items vs) : ItOk K (Itt K a) it H := by
  intro i H1 μ1 e1 m1 ok
  have hv := sqT_ext e1 h
  have rv := r.ext e1
  refine ⟨fun e => ⟨vs, hv, by rw [rv.len]; omega⟩, fun d hd => ?_⟩
  obtain ⟨v, hv', rd⟩ := rv.get hd
  refine ⟨⟨vs, v, hv, hv'⟩, fun x H2 y => ?_⟩
  obtain ⟨rfl, y⟩ := y
  have := y vs hv
  rw [hv'] at this
  cases this
  exact ⟨.refl _, m1, rd⟩
/-- lo, lo + 1, .. -/
def ran (lo : Int) (n : Nat) : List D := (List.range n).map fun (i : Nat) => D.int (lo + i)
theorem itok_range {K : PySem.W.Frag} {H : Hp} {lo : Int} {n : Nat} : ItOk K (Itr lo n) ⟨ran lo n, fun _ => True⟩ H := by
  intro i H1 μ1 e1 m1 ok
  have hl : (ran lo n).length = n := by unfold ran; simp
  refine ⟨fun e => by show n ≤ i; rw [← hl]; exact Nat.le_of_eq e.symm, fun d hd => ?_⟩
  have hi : i < n := by
    have := (List.getElem?_eq_some_iff.mp hd).1
    exact hl ▸ this
  refine ⟨hi, fun x H2 y => ?_⟩
  obtain ⟨rfl, rfl⟩ := y
  refine ⟨.refl _, m1, ?_⟩
  have : d = .int (lo + i) := by
    have h2 : (ran lo n)[i]? = some (.int (lo + i)) := by unfold ran; simp [hi]
    rw [show (⟨ran lo n, fun _ => True⟩ : DIt).items = ran lo n from rfl, h2] at hd
    cases hd; rfl
  subst this
  rfl
def dRan1 (ta : DTA) : DTI := fun Γ μ q => ta Γ μ fun ds μ1 => match ds with
  | [.int j] => (-(2 ^ 62) ≤ j ∧ j < 2 ^ 62) ∧ q ⟨ran 0 j.toNat, fun _ => True⟩ μ1
  | _ => False
def dRan2 (ta : DTA) : DTI := fun Γ μ q => ta Γ μ fun ds μ1 => match ds with
  | [.int i, .int j] => (-(2 ^ 62) ≤ i ∧ i < 2 ^ 62 ∧ -(2 ^ 62) ≤ j ∧ j < 2 ^ 62) ∧ q ⟨ran i (j - i).toNat, fun _ => True⟩ μ1
  | _ => False
theorem qi_range1 {a : Expr} {ta : DTA} {p : Pos} (hg : Gl X "range") (hm : X.mg "range" = none) (ha : QA X [a] ta) (hs : starEach [a] X.env = [(false, eval a X.env)] := by rfl) : QI X tg (.Call (.Name "range" p) [a] [] pos) (dRan1 ta) :=
  ⟨PI.imp (pi_range1 hg hm ha.r hs) fun σ H R ⟨Γ, μ, q, h1, h2, h3, h4⟩ => by
    refine ⟨Γ, μ, _, h1, h2, fun vs H1 ds μ1 e1 r1 m1 h5 => ?_, h4⟩
    split at h5
    · obtain ⟨v, r, rfl, r2, r3⟩ := r1
      cases r3
      rename_i j
      obtain rfl := (show v = .int j from r2)
      exact ⟨j, rfl, h5.1.1, h5.1.2, h3 _ _ H1 μ1 e1 m1 itok_range h5.2⟩
    · exact h5.elim⟩
theorem qi_range2 {a b : Expr} {ta : DTA} {p : Pos} (hg : Gl X "range") (hm : X.mg "range" = none) (ha : QA X [a, b] ta) (hs : starEach [a, b] X.env = [(false, eval a X.env), (false, eval b X.env)] := by rfl) (hs2 : starEach [b] X.env = [(false, eval b X.env)] := by rfl) :
    QI X tg (.Call (.Name "range" p) [a, b] [] pos) (dRan2 ta) :=
  ⟨PI.imp (pi_range2 hg hm ha.r hs hs2) fun σ H R ⟨Γ, μ, q, h1, h2, h3, h4⟩ => by
    refine ⟨Γ, μ, _, h1, h2, fun vs H1 ds μ1 e1 r1 m1 h5 => ?_, h4⟩
    split at h5
    · obtain ⟨v, r, rfl, r2, v', r', rfl, r3, r4⟩ := r1
      cases r4
      rename_i i j
      obtain rfl := (show v = .int i from r2)
      obtain rfl := (show v' = .int j from r3)
      exact ⟨i, j, rfl, h5.1, h3 _ _ H1 μ1 e1 m1 itok_range h5.2⟩
    · exact h5.elim⟩
theorem itok_str {K : PySem.W.Frag} {H : Hp} {x : Str} : ItOk K (Its x) ⟨sgn x, fun _ => True⟩ H := by
  intro i H2 μ2 e2 m2 _
  have hl : (sgn x).length = x.cps.size := by unfold sgn; simp
  refine ⟨fun e => by show x.cps.size ≤ i; rw [← hl]; exact Nat.le_of_eq e.symm, fun d hd => ?_⟩
  have hi : i < x.cps.size := by
    have := (List.getElem?_eq_some_iff.mp hd).1
    exact hl ▸ this
  refine ⟨hi, fun y H3 yy => ?_⟩
  obtain ⟨rfl, c, hc, rfl⟩ := yy
  refine ⟨.refl _, m2, ?_⟩
  have : d = .str ⟨#[c]⟩ := by
    have h2 : (sgn x)[i]? = some (.str ⟨#[c]⟩) := by unfold sgn; simp [hc]
    rw [show (⟨sgn x, fun _ => True⟩ : DIt).items = sgn x from rfl, h2] at hd
    cases hd; rfl
  subst this
  rfl
theorem pi_or {e : Expr} {w1 w2 : TI} (h1 : PI X tg e w1) (h2 : PI X tg e w2) : PI X tg e (fun σ H R => w1 σ H R ∨ w2 σ H R) := ⟨fun pins s σ H R I h => h.elim (h1.run pins s σ H R I) (h2.run pins s σ H R I)⟩
/-- a value's items by its rule: what follows the value alone is a choice -/
theorem pi_seq {e : Expr} {te : TE} (he : PE X e te) : PI X tg e (fun σ H R => te σ H fun x H1 =>
    (∃ a, x = .ref a ∧ (∃ xs, SqL X.K H1 a xs) ∧ R (Itl X.K a) H1) ∨ (∃ a, x = .ref a ∧ (∃ xs, SqT X.K H1 a xs) ∧ R (Itt X.K a) H1) ∨ ∃ z, x = .str z ∧ R (Its z) H1) := by
  refine ⟨fun pins s σ H R I h => ?_⟩
  refine thn (he.run pins s σ H _ I h) fun v s1 ⟨x, H1, I1, r1, q1⟩ => ?_
  rcases q1 with ⟨a, rfl, ⟨xs, hq⟩, q⟩ | ⟨a, rfl, ⟨xs, hq⟩, q⟩ | ⟨z, rfl, q⟩
  · cases r1
    obtain ⟨its, rv, p, hz⟩ := I1.list hq
    refine wpAny_pyIter_list p.isList ?_
    refine ⟨s1.heap.objs.size, [s1.heap.objs.size], _, _, H1, rfl, I1.kept (t' := s1.toks) fun b o e => Heap.get?_push_of_some _ e, turn_list a _, ⟨_, Heap.get?_push_size _ rfl, rfl, rfl⟩, fun b hb => ?_, q⟩
    have e : b = s1.heap.objs.size := by simpa using hb
    subst e
    exact I1.fpOk (Nat.le_refl _) (I1.hok.fresh (Nat.le_refl _))
  · cases r1
    obtain ⟨its, rv, p, hz⟩ := I1.tuple hq
    refine wpAny_pyIter_tuple (show s1.heap.IsTuple a its.toArray from p) ?_
    refine ⟨s1.heap.objs.size, [s1.heap.objs.size], _, _, H1, rfl, I1.kept (t' := s1.toks) fun b o e => Heap.get?_push_of_some _ e, turn_tuple a _, ⟨_, Heap.get?_push_size _ rfl, rfl, rfl⟩, fun b hb => ?_, q⟩
    have e : b = s1.heap.objs.size := by simpa using hb
    subst e
    exact I1.fpOk (Nat.le_refl _) (I1.hok.fresh (Nat.le_refl _))
  · obtain ⟨t, rfl⟩ := r1
    cases ha : z.cps.all (· < 128)
    · exact wpAny_pyIter_wide ha (pi_one (tk := s1.toks) I1 _ (turn_str _ z t "str_iterator" (.inr rfl)) ⟨_, Heap.get?_push_size _ rfl, rfl, rfl⟩ q)
    · exact wpAny_pyIter_ascii ha (pi_one (tk := s1.toks) I1 _ (turn_str _ z t "str_ascii_iterator" (.inl rfl)) ⟨_, Heap.get?_push_size _ rfl, rfl, rfl⟩ q)
theorem qi_seq {l : Expr} {te : DTE} (hl : QE X l te) : QI X tg l (dSeqIt te) := ⟨PI.imp (pi_seq hl.r) fun σ H R ⟨Γ, μ, q, h1, h2, h3, h4⟩ => by
  refine ⟨Γ, μ, _, h1, h2, fun x H1 dx μ1 e1 r1 m1 h5 => ?_, h4⟩
  cases dx with
  | fl ds =>
    obtain ⟨a, vs, rfl, ⟨o, ho⟩, rv⟩ := r1
    have hs : SqF X.K H1 a vs := .inl ⟨o, ho⟩
    exact .inl ⟨a, rfl, ⟨vs, hs.l⟩, h3 _ ⟨ds, fun _ => True⟩ H1 μ1 e1 m1 (itok_list fun H2 μ2 e2 m2 _ => ⟨vs, (hs.ext e2).l, rv.ext e2⟩) h5⟩
  | wl ds =>
    obtain ⟨a, vs, rfl, hs, rv⟩ := r1
    exact .inl ⟨a, rfl, ⟨vs, hs.l⟩, h3 _ ⟨ds, fun _ => True⟩ H1 μ1 e1 m1 (itok_list fun H2 μ2 e2 m2 _ => ⟨vs, (hs.ext e2).l, rv.ext e2⟩) h5⟩
  | tup ds =>
    obtain ⟨a, vs, rfl, hs, rv, _⟩ := r1
    exact .inr (.inl ⟨a, rfl, ⟨vs, hs⟩, h3 _ ⟨ds, fun _ => True⟩ H1 μ1 e1 m1 (itok_tup hs rv) h5⟩)
  | str z =>
    obtain rfl := (show x = .str z from r1)
    exact .inr (.inr ⟨z, rfl, h3 _ ⟨sgn z, fun _ => True⟩ H1 μ1 e1 m1 itok_str h5⟩)
  | ref a =>
    obtain rfl := (show x = .ref a from r1)
    obtain ⟨ds, ha, h5⟩ := h5
    obtain ⟨u, hu, vs, rfl, rv⟩ := m1 a _ ha
    refine .inl ⟨a, rfl, ⟨vs, .of hu⟩, h3 _ ⟨ds, fun μ2 => μ2 a = some (.lst ds)⟩ H1 μ1 e1 m1 (itok_list fun H2 μ2 e2 m2 ok => ?_) h5⟩
    obtain ⟨u, hu, vs, rfl, rv⟩ := m2 a _ ok
    exact ⟨vs, .of hu, rv⟩
  | _ => exact h5.elim⟩

/-! ### calls of the text's own defs -/
abbrev XDK := Addr → Sto → Prop
/-- what a def promises, over data: arguments, store, what follows, what is raised -/
abbrev DSp := List D → Sto → DK → XDK → Prop
def FinX (K : PySem.W.Frag) (H : Hp) (x : XDK) (E : XK) : Prop := ∀ C H' μ', Ext H H' → RH K H' μ' → x C μ' → E (.ref C) none H'
theorem FinX.ext {K : PySem.W.Frag} {H H' : Hp} {x : XDK} {E : XK} (h : FinX K H x E) (e : Ext H H') : FinX K H' x E := fun C H'' μ' e' => h C H'' μ' (e.trans e')
def spD (K : PySem.W.Frag) (S : DSp) : Sp := fun vs H Q E => ∃ ds μ q x, RDs K H ds vs ∧ RH K H μ ∧ Fin K H q Q ∧ FinX K H x E ∧ S ds μ q x
def noX : XDK := fun _ _ => False
@[simp] def dCall (S : DSp) (x : XDK) (t : DTA) : DTE := fun Γ μ q => t Γ μ fun ds μ1 => S ds μ1 q x
variable {CX : CXT} {k : Nat} {f : Addr} {fd : FuncData} {ps : List Str} {S : DSp} {E : XK} {x : Str} {p : Pos} {e : Expr} {es : List Expr} {t : DTA}
theorem qe_callE {xd : XDK} (hE : ∀ H, FinX X.K H xd E) (F : FnOk X.prog X.w X.K X.mg X.base CX k f fd ps (spD X.K S)) (hr : Room k X.A) (hg : Gl X x) (hm : X.mg x = some (.ref f)) (hk : PySem.W.keepIn X.K (.ref f) = true) (hb : Binds X.K fd ps []) (hx : Passes CX X E)
    (ha : QA X (e :: es) t) (hdb : (x == ("__debug__" : Str)) = false := by decide) (he : starEach (e :: es) X.env = (false, eval e X.env) :: starEach es X.env := by rfl) (hpl : (backTo pos (starEach es X.env)).any (·.1) = false := by rfl) :
    QE X (.Call (.Name x p) (e :: es) [] pos) (dCall S xd t) := ⟨PE.imp (pe_call F hr hg hm hk hb .nil hx ha.r hdb he hpl) fun σ H Q ⟨Γ, μ, q, h1, h2, h3, h4⟩ => by
  refine ⟨Γ, μ, _, h1, h2, fun vs H1 ds μ1 e1 r1 m1 h5 => ?_, h4⟩
  exact ⟨ds, μ1, q, xd, by rw [List.append_nil]; exact r1, m1, h3.ext e1, hE H1, h5⟩⟩
/-- .. that lets no exception out -/
theorem qe_call (F : FnOk X.prog X.w X.K X.mg X.base CX0 k f fd ps (spD X.K S)) (hr : Room k X.A) (hg : Gl X x) (hm : X.mg x = some (.ref f)) (hk : PySem.W.keepIn X.K (.ref f) = true) (hb : Binds X.K fd ps [])
    (ha : QA X (e :: es) t) (hdb : (x == ("__debug__" : Str)) = false := by decide) (he : starEach (e :: es) X.env = (false, eval e X.env) :: starEach es X.env := by rfl) (hpl : (backTo pos (starEach es X.env)).any (·.1) = false := by rfl) :
    QE X (.Call (.Name x p) (e :: es) [] pos) (dCall S noX t) := qe_callE (E := E0) (fun _ _ _ _ _ _ h => h.elim) F hr hg hm hk hb pass0 ha hdb he hpl
end

/-! ### a def keeps its promise -/
@[simp] def dstart (N : List Str) (ds : List D) : DSt := ds.map some ++ List.replicate (N.length - ds.length) none
/-- the ends of a def's body: what is not needed any more may be forgotten -/
@[simp] def dends (q : DK) : DEnds := { nx := fun _ μ' => ∃ μ'', Sub μ'' μ' ∧ q .non μ'', rt := fun d μ' => ∃ μ'', Sub μ'' μ' ∧ q d μ'' }
section
variable {P : Program} {w : World} {K : PySem.W.Frag} {mg : Str → Option Value} {base : Heap}
theorem okD {x qual : Str} {st : Stmt} {f : Addr} {fd : FuncData} {N ps : List Str} {k : Nat} {C : DSp} (F : L2.Fun K x qual st f fd) (S : FnScope N ps (defScope st)) (len : ∀ ds μ q x, C ds μ q x → ds.length = ps.length)
    (hbody : ∀ (cdv : Value) (A : Around) (outer : List Env) (s : Shared) (H : Hp) (E : XK), Room k (A.deeper (envOfC qual (defScope st) s.heap.objs.size f cdv)) →
      ∃ t, QSs (cxOf CX0 P w K mg base N qual (defScope st) f cdv A outer s H E).nox (defBody st) t ∧ ∀ ds μ q x, C ds μ q x → t (dends q) (dstart N ds) μ) : FnOk P w K mg base CX0 (k + 1) f fd ps (spD K C) := by
  refine F.ok S (fun vs H Q E h => ?_) (fun cdv A outer s H vs Q E hr h => ?_)
  · obtain ⟨ds, μ, q, x, r, _, _, _, h⟩ := h
    rw [r.len]
    exact len _ _ _ _ h
  · obtain ⟨t, ht, hq⟩ := hbody cdv A outer s H E hr
    refine ⟨_, ht.r, ?_⟩
    obtain ⟨ds, μ, q, x, r, m, fin, finx, h⟩ := h
    exact ⟨dstart N ds, μ, dends q, RS.start r, m, ⟨fun σ' H' Γ' μ' e1 r1 m1 ⟨μ'', h2, h3⟩ => fin _ H' .non μ'' e1 rfl (m1.sub h2) h3, fun v H' d μ' e1 r1 m1 ⟨μ'', h2, h3⟩ => fin _ H' d μ'' e1 r1 (m1.sub h2) h3, fun _ _ _ _ _ _ _ z => z, fun _ _ _ _ _ _ _ z => z⟩, hq ds μ q x h⟩
end
end DL

/-! DF: operations over data. -/
namespace DL
open PySem PySem.Spec PyProof.Rows L2

/-! ### lists and rows as data -/
def lsOf (μ : Sto) : D → Option (List D)
  | .fl ds => some ds
  | .wl ds => some ds
  | .ref a => match μ a with
    | some (.lst ds) => some ds
    | _ => none
  | _ => none
/-- lists that lie as a list lies -/
def exOf (μ : Sto) : D → Option (List D)
  | .fl ds => some ds
  | .ref a => match μ a with
    | some (.lst ds) => some ds
    | _ => none
  | _ => none
section
variable {K : PySem.W.Frag} {H : Hp} {μ : Sto} {d : D} {v : V} {ds : List D}
theorem lsOf_ok (r : RD K H d v) (m : RH K H μ) (e : lsOf μ d = some ds) : ∃ a vs, v = .ref a ∧ SqL K H a vs ∧ RDs K H ds vs := by
  cases d with
  | fl xs => cases e; obtain ⟨a, vs, e1, ⟨o, e2⟩, e3⟩ := r; exact ⟨a, vs, e1, .inl (.inr ⟨o, e2⟩), e3⟩
  | wl xs => cases e; obtain ⟨a, vs, e1, e2, e3⟩ := r; exact ⟨a, vs, e1, e2.l, e3⟩
  | ref a =>
    have e' : (match μ a with | some (.lst ds) => some ds | _ => none) = some ds := e
    split at e'
    · rename_i h
      cases e'
      obtain ⟨u, hu, vs, rfl, rv⟩ := m a _ h
      exact ⟨a, vs, r, .of hu, rv⟩
    · cases e'
  | _ => cases e
theorem exOf_ls (e : exOf μ d = some ds) : lsOf μ d = some ds := by
  cases d with
  | fl xs => exact e
  | ref a => exact e
  | _ => cases e
theorem exOf_ok (r : RD K H d v) (m : RH K H μ) (e : exOf μ d = some ds) : ∃ a vs, v = .ref a ∧ Rd H a (.lst vs) ∧ RDs K H ds vs := by
  cases d with
  | fl xs => cases e; obtain ⟨a, vs, e1, ⟨o, e2⟩, e3⟩ := r; exact ⟨a, vs, e1, .inr ⟨o, e2⟩, e3⟩
  | ref a =>
    have e' : (match μ a with | some (.lst ds) => some ds | _ => none) = some ds := e
    split at e'
    · rename_i h
      cases e'
      obtain ⟨u, hu, vs, rfl, rv⟩ := m a _ h
      exact ⟨a, vs, r, .inl hu, rv⟩
    · cases e'
  | _ => cases e
end
theorem lsOf_ref {μ : Sto} {a : Addr} {ds : List D} (h : μ a = some (.lst ds)) : lsOf μ (.ref a) = some ds := by show (match μ a with | some (.lst ds) => some ds | _ => none) = _; rw [h]
theorem exOf_ref {μ : Sto} {a : Addr} {ds : List D} (h : μ a = some (.lst ds)) : exOf μ (.ref a) = some ds := by show (match μ a with | some (.lst ds) => some ds | _ => none) = _; rw [h]
@[simp] theorem lsOf_fl {μ : Sto} {ds : List D} : lsOf μ (.fl ds) = some ds := rfl
@[simp] theorem lsOf_wl {μ : Sto} {ds : List D} : lsOf μ (.wl ds) = some ds := rfl
@[simp] theorem exOf_fl {μ : Sto} {ds : List D} : exOf μ (.fl ds) = some ds := rfl

section
variable {K : PySem.W.Frag} {H : Hp} {q : DK} {Q : VK} {μ : Sto}
theorem Fin.bl (f : Fin K H q Q) (m : RH K H μ) {b : Bool} (h : q (.bl b) μ) : Q (.bl b) H := f (.bl b) H (.bl b) μ (.refl H) rfl m h
theorem Fin.int (f : Fin K H q Q) (m : RH K H μ) {b : Int} (h : q (.int b) μ) : Q (.int b) H := f (.int b) H (.int b) μ (.refl H) rfl m h
theorem Fin.str (f : Fin K H q Q) (m : RH K H μ) {b : Str} (h : q (.str b) μ) : Q (.str b) H := f (.str b) H (.str b) μ (.refl H) rfl m h
theorem Fin.non (f : Fin K H q Q) (m : RH K H μ) (h : q .non μ) : Q .non H := f .non H .non μ (.refl H) rfl m h
end
section
variable {X : Cx}
/-! ### + -/
theorem Inv.lstR {pins : List (Addr × Obj)} {σ : L2.St} {H : Hp} {s : Shared} {a : Addr} {xs : List V} (I : Inv X pins σ H s) (h : Rd H a (.lst xs)) : xs.length ≤ sizeLine ∧ ∃ (its : List Value) (n : Nat), Vals xs its ∧ xs.length = its.length ∧ s.heap.get? a = some { cls := .type "list", data := .seq its.toArray n } := by
  obtain ⟨z, its, n, r, e⟩ := h.ok I.hok
  exact ⟨z, its, n, r, r.length, e⟩
def rCatL : R2 := fun x y H Q => ∃ l b xs zs, x = .ref l ∧ y = .ref b ∧ Rd H l (.lst xs) ∧ Rd H b (.lst zs) ∧ xs.length + zs.length ≤ sizeLine ∧ ∀ p, H p = none → Q (.ref p) (upd H p (.lst (xs ++ zs)))
theorem op_catL : OpR X (binaryOp .Add) rCatL := by
  intro pins s σ H x y v u Q I rx ry h
  obtain ⟨l, b, xs, zs, rfl, rfl, hH, hB, hz, q⟩ := h
  cases rx
  cases ry
  obtain ⟨z, its, n, r, hl, e⟩ := DL.Inv.lstR I hH
  obtain ⟨z2, its2, n2, r2, hl2, e2⟩ := DL.Inv.lstR I hB
  refine PySem.P.add_list e e2 ?_ (by rw [List.size_toArray, List.size_toArray]; omega)
  have ea : its.toArray ++ its2.toArray = (its ++ its2).toArray := by simp
  rw [ea]
  exact ⟨.ref _, _, I.lnew (t' := s.toks) (r.append r2) (by rw [List.length_append]; omega), rfl, q _ I.fresh⟩
def dAdd (x y : D) (μ : Sto) (q : DK) : Prop := match x, y with
  | .int i, .int j => q (.int (i + j)) μ
  | .str a, .str b => a.length + b.length ≤ sizeLine ∧ q (.str (a ++ b)) μ
  | .tup xs, .tup ys => xs.length + ys.length ≤ sizeLine ∧ q (.tup (xs ++ ys)) μ
  | x, y => ∃ xs ys, exOf μ x = some xs ∧ exOf μ y = some ys ∧ xs.length + ys.length ≤ sizeLine ∧ ∀ p, μ p = none → q (.ref p) (set μ p (.lst (xs ++ ys)))
def rAddA (K : PySem.W.Frag) : R2 := fun x y H Q => ((rI0 fun i j => .int (i + j)) x y H Q ∨ (∃ i j, x = .str i ∧ y = .str j ∧ i.length + j.length ≤ sizeLine ∧ Q (.str (i ++ j)) H)) ∨ (rCatA K x y H Q ∨ rCatL x y H Q)
theorem op_addA : OpR X (binaryOp .Add) (rAddA X.K) := (op_add.or op_add_str).or (op_catA.or op_catL)
theorem l_add : LR2 X.K (rAddA X.K) dAdd := by
  intro x y H Q dx dy μ q rx ry m fin h
  unfold dAdd at h
  split at h
  · exact .inl (.inl ⟨_, _, rx, ry, fin _ H (.int _) μ (.refl H) rfl m h⟩)
  · exact .inl (.inr ⟨_, _, rx, ry, h.1, fin _ H (.str _) μ (.refl H) rfl m h.2⟩)
  · rename_i xs ys
    obtain ⟨a, vs, rfl, ha, rv, ka⟩ := rx
    obtain ⟨b, us, rfl, hb, ru, kb⟩ := ry
    refine .inr (.inl ⟨a, b, vs, us, rfl, rfl, ha, hb, by rw [rv.len, ru.len]; exact h.1, fun e => ?_, fun e1 e => ?_, fun e1 e2 p hp => ?_⟩)
    · have : xs = [] := List.eq_nil_of_length_eq_zero (by rw [← rv.len, e]; rfl)
      subst this
      exact fin _ H (.tup ys) μ (.refl H) ⟨b, us, rfl, hb, ru, kb⟩ m h.2
    · have : ys = [] := List.eq_nil_of_length_eq_zero (by rw [← ru.len, e]; rfl)
      subst this
      have h2 := h.2
      rw [List.append_nil] at h2
      exact fin _ H (.tup xs) μ (.refl H) ⟨a, vs, rfl, ha, rv, ka⟩ m h2
    · exact fin _ _ (.tup (xs ++ ys)) μ (.new hp) (.newT hp (rv.app ru)) (m.new hp) h.2
  · obtain ⟨xs, ys, ex, ey, hz, h⟩ := h
    obtain ⟨a, vs, rfl, ha, rv⟩ := exOf_ok rx m ex
    obtain ⟨b, us, rfl, hb, ru⟩ := exOf_ok ry m ey
    refine .inr (.inr ⟨a, b, vs, us, rfl, rfl, ha, hb, by rw [rv.len, ru.len]; exact hz, fun p hp => ?_⟩)
    exact fin _ _ (.ref p) _ (.new hp) rfl (m.put (o := .lst (xs ++ ys)) (.new hp) ⟨_, rfl, (rv.app ru).ext (.new hp)⟩) (h p (m.free hp))
/-! ### ints -/
def dInt2 (C : Int → Int → Prop) (g : Int → Int → D) (x y : D) (μ : Sto) (q : DK) : Prop := match x, y with
  | .int i, .int j => C i j ∧ q (g i j) μ
  | _, _ => False
theorem l_int2 {C : Int → Int → Prop} {g : Int → Int → V} {gd : Int → Int → D} (hg : ∀ i j K H, RD K H (gd i j) (g i j)) : LR2 X.K (rI C g) (dInt2 C gd) := by
  intro x y H Q dx dy μ q rx ry m fin h
  unfold dInt2 at h
  split at h
  · exact ⟨_, _, rx, ry, h.1, fin _ H _ μ (.refl H) (hg _ _ _ _) m h.2⟩
  · exact h.elim
def dInt20 (g : Int → Int → D) (x y : D) (μ : Sto) (q : DK) : Prop := match x, y with
  | .int i, .int j => q (g i j) μ
  | _, _ => False
theorem l_int20 {g : Int → Int → V} {gd : Int → Int → D} (hg : ∀ i j K H, RD K H (gd i j) (g i j)) : LR2 X.K (rI0 g) (dInt20 gd) := by
  intro x y H Q dx dy μ q rx ry m fin h
  unfold dInt20 at h
  split at h
  · exact ⟨_, _, rx, ry, fin _ H _ μ (.refl H) (hg _ _ _ _) m h⟩
  · exact h.elim
abbrev dSub : D → D → Sto → DK → Prop := dInt20 fun i j => .int (i - j)
theorem l_sub : LR2 X.K (rI0 fun i j => .int (i - j)) dSub := l_int20 fun _ _ _ _ => rfl
abbrev dMulI : D → D → Sto → DK → Prop := dInt2 CMulW fun i j => .int (i * j)
theorem l_mulI : LR2 X.K (rI CMulW fun i j => .int (i * j)) dMulI := l_int2 fun _ _ _ _ => rfl
abbrev dDiv : D → D → Sto → DK → Prop := dInt2 CDivW fun i j => .int (i / j)
theorem l_div : LR2 X.K (rI CDivW fun i j => .int (i / j)) dDiv := l_int2 fun _ _ _ _ => rfl
abbrev dMod : D → D → Sto → DK → Prop := dInt2 (fun _ j => 0 < j) fun i j => .int (i % j)
theorem l_mod : LR2 X.K (rI (fun _ j => 0 < j) fun i j => .int (i % j)) dMod := l_int2 fun _ _ _ _ => rfl
abbrev dPow : D → D → Sto → DK → Prop := dInt2 CPow fun i j => .int (i ^ j.toNat)
theorem l_pow : LR2 X.K (rI CPow fun i j => .int (i ^ j.toNat)) dPow := l_int2 fun _ _ _ _ => rfl
abbrev dLt : D → D → Sto → DK → Prop := dInt20 fun i j => .bl (decide (i < j))
theorem l_lt : LR2 X.K (rI0 fun i j => .bl (decide (i < j))) dLt := l_int20 fun _ _ _ _ => rfl
abbrev dLe : D → D → Sto → DK → Prop := dInt20 fun i j => .bl (decide (i ≤ j))
theorem l_le : LR2 X.K (rI0 fun i j => .bl (decide (i ≤ j))) dLe := l_int20 fun _ _ _ _ => rfl
abbrev dGt : D → D → Sto → DK → Prop := dInt20 fun i j => .bl (decide (j < i))
theorem l_gt : LR2 X.K (rI0 fun i j => .bl (decide (j < i))) dGt := l_int20 fun _ _ _ _ => rfl
abbrev dGe : D → D → Sto → DK → Prop := dInt20 fun i j => .bl (decide (j ≤ i))
theorem l_ge : LR2 X.K (rI0 fun i j => .bl (decide (j ≤ i))) dGe := l_int20 fun _ _ _ _ => rfl
def dNeg (x : D) (μ : Sto) (q : DK) : Prop := match x with
  | .int i => q (.int (-i)) μ
  | _ => False
theorem l_neg : LR1 X.K (rU fun i => .int (-i)) dNeg := by
  intro x H Q dx μ q rx m fin h
  unfold dNeg at h
  split at h
  · exact ⟨_, rx, fin.int m h⟩
  · exact h.elim

/-! ### == -/
mutual
def pyD : D → PyData
  | .bl b => .bool b
  | .int i => .int i
  | .str x => .str x
  | .tup ds => .tuple (pyDs ds)
  | .fl ds => .list (pyDs ds)
  | .wl ds => .list (pyDs ds)
  | _ => .none
def pyDs : List D → List PyData
  | [] => []
  | d :: ds => pyD d :: pyDs ds
end
mutual
def pln : D → Bool
  | .non => true
  | .bl _ => true
  | .int _ => true
  | .str x => PyData.strOk x
  | .tup ds => plns ds
  | .fl ds => plns ds
  | .wl ds => plns ds
  | _ => false
def plns : List D → Bool
  | [] => true
  | d :: ds => pln d && plns ds
end
/-- a datum, its list read -/
def rsv (μ : Sto) : D → D
  | .ref a => match μ a with
    | some (.lst ds) => .fl ds
    | _ => .ref a
  | d => d
theorem rsv_ref {μ : Sto} {a : Addr} {ds : List D} (h : μ a = some (.lst ds)) : rsv μ (.ref a) = .fl ds := by show (match μ a with | some (.lst ds) => D.fl ds | _ => .ref a) = _; rw [h]
section
variable {K : PySem.W.Frag} {H : Hp}
mutual
theorem dp_of : ∀ {d : D} {v : V}, RD K H d v → pln d = true → Dp K H v (pyD d)
  | .non, v, r, _ => by rw [show v = .non from r]; unfold pyD; exact .non
  | .bl b, v, r, _ => by rw [show v = .bl b from r]; unfold pyD; exact .bl b
  | .int i, v, r, _ => by rw [show v = .int i from r]; unfold pyD; exact .int i
  | .str x, v, r, _ => by rw [show v = .str x from r]; unfold pyD; exact .str x
  | .ty _, v, _, p => by simp [pln] at p
  | .ref _, v, _, p => by simp [pln] at p
  | .tup ds, v, r, p => by
    obtain ⟨a, vs, e1, e2, e3, _⟩ := r
    rw [e1]
    unfold pyD
    exact .tup e2 (dps_of e3 (by simpa [pln] using p))
  | .fl ds, v, r, p => by
    obtain ⟨a, vs, e1, ⟨o, e2⟩, e3⟩ := r
    rw [e1]
    unfold pyD
    exact .lst (.inl (.inr ⟨o, e2⟩)) (dps_of e3 (by simpa [pln] using p))
  | .wl ds, v, r, p => by
    obtain ⟨a, vs, e1, e2, e3⟩ := r
    rw [e1]
    unfold pyD
    exact .lst e2.l (dps_of e3 (by simpa [pln] using p))
theorem dps_of : ∀ {ds : List D} {vs : List V}, RDs K H ds vs → plns ds = true → DpAll K H vs (pyDs ds)
  | [], _, r, _ => by rw [show _ = [] from r]; unfold pyDs; exact .nil
  | d :: ds, _, r, p => by
    obtain ⟨v, w, e1, e2, e3⟩ := r
    have p' : pln d = true ∧ plns ds = true := by simpa [plns] using p
    rw [e1]
    unfold pyDs
    exact .cons (dp_of e2 p'.1) (dps_of e3 p'.2)
end
theorem dp_rsv {μ : Sto} {d : D} {v : V} (r : RD K H d v) (m : RH K H μ) (p : pln (rsv μ d) = true) : Dp K H v (pyD (rsv μ d)) := by
  cases d with
  | ref a =>
    cases e : μ a with
    | none => rw [show rsv μ (.ref a) = .ref a by show (match μ a with | some (.lst ds) => D.fl ds | _ => .ref a) = _; rw [e]] at p; simp [pln] at p
    | some o =>
      cases o with
      | lst ds =>
        rw [rsv_ref e] at p ⊢
        obtain ⟨u, hu, vs, rfl, rv⟩ := m a _ e
        rw [show v = .ref a from r]
        unfold pyD
        exact .lst (.of hu) (dps_of rv (by simpa [pln] using p))
      | _ => rw [show rsv μ (.ref a) = .ref a by show (match μ a with | some (.lst ds) => D.fl ds | _ => .ref a) = _; rw [e]] at p; simp [pln] at p
  | _ => exact dp_of r p
end
def shp (d : D) : Bool := pln d && SeqAt.shaped (pyD d)
/-- == of two scalars -/
def eqS : D → D → Option Bool
  | .non, .non => some true
  | .non, .int _ => some false
  | .int _, .non => some false
  | .non, .bl _ => some false
  | .bl _, .non => some false
  | .non, .str _ => some false
  | .str _, .non => some false
  | .int i, .int j => some (decide (i = j))
  | .bl i, .bl j => some (decide (i = j))
  | .str i, .str j => some (decide (i = j))
  | .int _, .str _ => some false
  | .str _, .int _ => some false
  | .bl _, .str _ => some false
  | .str _, .bl _ => some false
  | _, _ => none
def dEqN (f : Bool → Bool) (x y : D) (μ : Sto) (q : DK) : Prop := match eqS x y with
  | some b => q (.bl (f b)) μ
  | none => shp (rsv μ x) = true ∧ shp (rsv μ y) = true ∧ q (.bl (f (PyData.eqv (pyD (rsv μ x)) (pyD (rsv μ y))))) μ
abbrev dEq : D → D → Sto → DK → Prop := dEqN fun b => b
abbrev dNe : D → D → Sto → DK → Prop := dEqN fun b => !b
theorem eqS_ok {K : PySem.W.Frag} {H : Hp} {x y : D} {v u : V} {b : Bool} (e : eqS x y = some b) (rx : RD K H x v) (ry : RD K H y u) : scal v u = true ∧ decide (v = u) = b := by
  cases x <;> cases y <;> simp only [eqS, reduceCtorEq] at e <;> (cases (show v = _ from rx); cases (show u = _ from ry); cases e; refine ⟨rfl, ?_⟩; simp)
theorem op_eqA (hu : X.A.units + 64 < cLine) : OpR X (compareOp .Eq) (fun x y H Q => rEq x y H Q ∨ rEqD X.K x y H Q) := op_eq.or (op_eqD hu)
theorem op_neA (hu : X.A.units + 64 < cLine) : OpR X (compareOp .NotEq) (fun x y H Q => rNe x y H Q ∨ rNeD X.K x y H Q) := op_ne.or (op_neD hu)
theorem l_eq : LR2 X.K (fun x y H Q => rEq x y H Q ∨ rEqD X.K x y H Q) dEq := by
  intro x y H Q dx dy μ q rx ry m fin h
  unfold dEq dEqN at h
  split at h
  · rename_i b e
    obtain ⟨h1, h2⟩ := eqS_ok e rx ry
    exact .inl ⟨h1, by rw [h2]; exact fin.bl m h⟩
  · obtain ⟨h1, h2, h3⟩ := h
    simp only [shp, Bool.and_eq_true] at h1 h2
    exact .inr ⟨_, _, dp_rsv rx m h1.1, dp_rsv ry m h2.1, h1.2, h2.2, fin.bl m h3⟩
theorem l_ne : LR2 X.K (fun x y H Q => rNe x y H Q ∨ rNeD X.K x y H Q) dNe := by
  intro x y H Q dx dy μ q rx ry m fin h
  unfold dNe dEqN at h
  split at h
  · rename_i b e
    obtain ⟨h1, h2⟩ := eqS_ok e rx ry
    exact .inl ⟨h1, by rw [h2]; exact fin.bl m h⟩
  · obtain ⟨h1, h2, h3⟩ := h
    simp only [shp, Bool.and_eq_true] at h1 h2
    exact .inr ⟨_, _, dp_rsv rx m h1.1, dp_rsv ry m h2.1, h1.2, h2.2, fin.bl m h3⟩
@[simp] def isNon : D → Bool
  | .non => true
  | _ => false
theorem isNon_ok {K : PySem.W.Frag} {H : Hp} {d : D} {v : V} (r : RD K H d v) : decide (v = .non) = isNon d := by
  cases d with
  | non => rw [show v = .non from r]; rfl
  | bl _ => rw [show v = _ from r]; rfl
  | int _ => rw [show v = _ from r]; rfl
  | str _ => rw [show v = _ from r]; rfl
  | ty _ => rw [show v = _ from r]; rfl
  | ref _ => rw [show v = _ from r]; rfl
  | tup _ => obtain ⟨a, _, rfl, _⟩ := r; rfl
  | fl _ => obtain ⟨a, _, rfl, _⟩ := r; rfl
  | wl _ => obtain ⟨a, _, rfl, _⟩ := r; rfl
def dIsN (x y : D) (μ : Sto) (q : DK) : Prop := match y with
  | .non => q (.bl (isNon x)) μ
  | _ => False
def dNotN (x y : D) (μ : Sto) (q : DK) : Prop := match y with
  | .non => q (.bl (!isNon x)) μ
  | _ => False
theorem l_isN : LR2 X.K (fun x y H Q => y = .non ∧ Q (.bl (decide (x = .non))) H) dIsN := by
  intro x y H Q dx dy μ q rx ry m fin h
  unfold dIsN at h
  split at h
  · exact ⟨ry, by rw [isNon_ok rx]; exact fin.bl m h⟩
  · exact h.elim
theorem l_notN : LR2 X.K (fun x y H Q => y = .non ∧ Q (.bl (!decide (x = .non))) H) dNotN := by
  intro x y H Q dx dy μ q rx ry m fin h
  unfold dNotN at h
  split at h
  · exact ⟨ry, by rw [isNon_ok rx]; exact fin.bl m h⟩
  · exact h.elim

/-! ### calls of built-ins -/
theorem lcb {K : PySem.W.Frag} {r : List V → Hp → VK → Prop} {rd : List D → Sto → DK → Prop} (hr : LRA K r rd) {ta : DTA} {σ : L2.St} {H : Hp} {Q : VK} (h : lE K (fun Γ μ q => ta Γ μ fun ds μ1 => rd ds μ1 q) σ H Q) : tCB r (lA K ta) σ H Q := by
  obtain ⟨Γ, μ, q, h1, h2, h3, h4⟩ := h
  refine ⟨Γ, μ, _, h1, h2, fun vs H1 ds μ1 e1 r1 m1 h5 => ?_, h4⟩
  exact hr vs H1 Q ds μ1 q r1 m1 (h3.ext e1) h5
@[simp] def dCB (rd : List D → Sto → DK → Prop) (ta : DTA) : DTE := fun Γ μ q => ta Γ μ fun ds μ1 => rd ds μ1 q
variable {x : Str} {p pos : Pos} {e : Expr} {es : List Expr} {t : DTA} {id T : String} {r : List V → Hp → VK → Prop} {rd : List D → Sto → DK → Prop}
theorem qe_callB (hc : CallR X (.builtin id) r) (hl : LRA X.K r rd) (hg : Gl X x) (hm : X.mg x = none) (hv : bootBuiltins x = some (.builtin id)) (ha : QA X (e :: es) t) (hn : x ≠ "__name__" := by decide) (hdb : (x == ("__debug__" : Str)) = false := by decide)
    (he : starEach (e :: es) X.env = (false, eval e X.env) :: starEach es X.env := by rfl) (hpl : (backTo pos (starEach es X.env)).any (·.1) = false := by rfl) : QE X (.Call (.Name x p) (e :: es) [] pos) (dCB rd t) :=
  ⟨PE.imp (pe_callB hc hg hm hv ha.r hn hdb he hpl) fun _ _ _ h => lcb hl h⟩
theorem qe_callTy (hc : CallR X (.type T) r) (hl : LRA X.K r rd) (hg : Gl X x) (hm : X.mg x = none) (hv : bootBuiltins x = some (.type T)) (ha : QA X (e :: es) t) (hn : x ≠ "__name__" := by decide) (hdb : (x == ("__debug__" : Str)) = false := by decide)
    (he : starEach (e :: es) X.env = (false, eval e X.env) :: starEach es X.env := by rfl) (hpl : (backTo pos (starEach es X.env)).any (·.1) = false := by rfl) : QE X (.Call (.Name x p) (e :: es) [] pos) (dCB rd t) :=
  ⟨PE.imp (pe_callTy hc hg hm hv ha.r hn hdb he hpl) fun _ _ _ h => lcb hl h⟩
/-- a built-in class as a value -/
theorem qe_ty {n : String} (hg : Gl X x) (hm : X.mg x = none) (hv : bootBuiltins x = some (.type n)) (h1 : x ≠ "__name__" := by decide) (h2 : (x == ("__debug__" : Str)) = false := by decide) : QE X (.Name x pos) (dC (.ty n)) :=
  ⟨PE.imp (pe_bltn (v := .ty n) hg hm hv rfl h1 h2) fun _ _ _ h => lc (v := .ty n) (d := .ty n) (fun _ => rfl) h⟩

/-- the kind of a datum -/
def tyO : DO → Option String
  | .lst _ => some "list"
  | .dK _ => some "dict"
  | .dT _ => some "dict"
  | .zK _ => some "dict"
  | .zT _ => none
  | .ins _ _ _ => none
def tyD (μ : Sto) : D → Option String
  | .non => some "NoneType"
  | .bl _ => some "bool"
  | .int _ => some "int"
  | .str _ => some "str"
  | .tup _ => some "tuple"
  | .fl _ => some "list"
  | .wl _ => some "list"
  | .ref a => (μ a).bind tyO
  | .ty _ => none
theorem tyD_ok {K : PySem.W.Frag} {H : Hp} {μ : Sto} {d : D} {v : V} {t : String} (r : RD K H d v) (m : RH K H μ) (e : tyD μ d = some t) : TyX K H v (.type t) := by
  cases d with
  | non => cases e; rw [show v = _ from r]; exact .base .non
  | bl b => cases e; rw [show v = _ from r]; exact .base (.bl b)
  | int b => cases e; rw [show v = _ from r]; exact .base (.int b)
  | str b => cases e; rw [show v = _ from r]; exact .base (.str b)
  | ty b => cases e
  | tup ds =>
    cases e
    obtain ⟨a, vs, rfl, h, _⟩ := r
    rcases h with (h | ⟨o, h⟩) | ⟨o, its, n, h, hc, _⟩
    · exact .base (.tup h)
    · exact .fTuple h
    · exact .kTuple h hc
  | fl ds => cases e; obtain ⟨a, vs, rfl, ⟨o, h⟩, _⟩ := r; exact .base (.frz h)
  | wl ds =>
    cases e
    obtain ⟨a, vs, rfl, h, _⟩ := r
    rcases h with ⟨o, h⟩ | ⟨o, its, n, h, hc, _⟩
    · exact .base (.frz h)
    · exact .kList h hc
  | ref a =>
    rw [show v = _ from r]
    have e : (μ a).bind tyO = some t := e
    cases q : μ a with
    | none => rw [q] at e; cases e
    | some o =>
      rw [q] at e
      obtain ⟨u, hu, ro⟩ := m a _ q
      cases o with
      | lst ds => cases e; obtain ⟨vs, rfl, _⟩ := ro; exact .base (.lst hu)
      | dK ds => cases e; obtain ⟨vs, rfl, _⟩ := ro; exact .base (.dK hu)
      | dT ds => cases e; obtain ⟨vs, rfl, _⟩ := ro; exact .base (.dT hu)
      | zK ds => cases e; obtain ⟨b, vs, rfl, _⟩ := ro; exact .fDict hu
      | zT ds => cases e
      | ins C dx fs => cases e
def isK (t T : String) : Bool := t == T || (t == "bool" && T == "int")
def kinds : List String := ["NoneType", "bool", "int", "str", "tuple", "list", "dict"]
theorem tyD_mem {μ : Sto} {d : D} {t : String} (e : tyD μ d = some t) : t ∈ kinds := by
  cases d with
  | ref a =>
    have e : (μ a).bind tyO = some t := e
    cases q : μ a with
    | none => rw [q] at e; cases e
    | some o => rw [q] at e; cases o <;> cases e <;> decide
  | ty _ => cases e
  | _ => cases e; decide
theorem isK_ok {t T : String} (ht : t ∈ kinds) (hT : T ∈ kinds) : kitB t T = some (isK t T) := by
  have h : ∀ t ∈ kinds, ∀ T ∈ kinds, kitB t T = some (isK t T) := by decide +kernel
  exact h t ht T hT
def dIsi (ds : List D) (μ : Sto) (q : DK) : Prop := match ds with
  | [d, .ty T] => T ∈ kinds ∧ ∃ t, tyD μ d = some t ∧ q (.bl (isK t T)) μ
  | _ => False
theorem l_isi : LRA X.K (rIsi X.K) dIsi := by
  intro xs H Q ds μ q r m fin h
  unfold dIsi at h
  split at h
  · rename_i d T
    obtain ⟨v, w1, rfl, r1, v2, w2, rfl, r2, rfl⟩ := r
    obtain ⟨hT, t, ht, h⟩ := h
    cases (show v2 = .ty T from r2)
    exact ⟨v, .ty T, .type t, .type T, isK t T, rfl, .ty T, tyD_ok r1 m ht, kit_ty (isK_ok (tyD_mem ht) hT), fin.bl m h⟩
  · exact h.elim
end
end DL

/-! DG: len, items, slices, stores, in, methods, built-ins. -/
namespace DL
open PySem PySem.Spec PyProof.Rows L2
section
variable {X : Cx}
/-! ### len -/
def lenD (μ : Sto) : D → Option Nat
  | .tup xs => some xs.length
  | .fl xs => some xs.length
  | .wl xs => some xs.length
  | .str z => some z.length
  | .ref a => match μ a with
    | some (.lst ds) => some ds.length
    | some (.dK ds) => some ds.length
    | some (.dT ds) => some ds.length
    | _ => none
  | _ => none
def szS : D → Prop
  | .str z => z.length ≤ sizeLine
  | _ => True
def dLen (ds : List D) (μ : Sto) (q : DK) : Prop := match ds with
  | [d] => ∃ n, lenD μ d = some n ∧ szS d ∧ q (.int (n : Int)) μ
  | _ => False
def rLenA (K : PySem.W.Frag) : List V → Hp → VK → Prop := fun xs H Q => (∃ x n, xs = [x] ∧ LenV K x H n ∧ Q (.int n) H) ∨ ((∃ a kvs, xs = [V.ref a] ∧ H a = some (.dK kvs) ∧ Q (.int kvs.length) H) ∨ rLenT xs H Q)
theorem call_lenA : CallR X (.builtin "len") (rLenA X.K) := call_len.or (call_lenD.or call_len_dT)
theorem l_len : LRA X.K (rLenA X.K) dLen := by
  intro xs H Q ds μ q r m fin h
  unfold dLen at h
  split at h
  · rename_i d
    obtain ⟨v, w1, rfl, r1, rfl⟩ := r
    obtain ⟨n, hn, hz, h⟩ := h
    cases d with
    | tup ys => cases hn; obtain ⟨a, vs, rfl, ht, rv, _⟩ := r1; exact .inl ⟨_, ys.length, rfl, .inr ⟨vs, ht, rv.len.symm⟩, fin.int m h⟩
    | fl ys => cases hn; obtain ⟨a, vs, rfl, ⟨o, ht⟩, rv⟩ := r1; exact .inl ⟨_, ys.length, rfl, .inl ⟨vs, .inl (.inr ⟨o, ht⟩), rv.len.symm⟩, fin.int m h⟩
    | wl ys => cases hn; obtain ⟨a, vs, rfl, ht, rv⟩ := r1; exact .inl ⟨_, ys.length, rfl, .inl ⟨vs, ht.l, rv.len.symm⟩, fin.int m h⟩
    | str z => cases hn; cases (show v = .str z from r1); exact .inl ⟨_, z.length, rfl, ⟨hz, rfl⟩, fin.int m h⟩
    | ref a =>
      cases (show v = .ref a from r1)
      have hn : (match μ a with
    | some (.lst ds) => some ds.length
    | some (.dK ds) => some ds.length
    | some (.dT ds) => some ds.length
    | _ => none) = some n := hn
      split at hn
      · rename_i e; cases hn; obtain ⟨u, hu, vs, rfl, rv⟩ := m a _ e; exact .inl ⟨_, _, rfl, .inl ⟨vs, .of hu, rfl⟩, by rw [rv.len]; exact fin.int m h⟩
      · rename_i e; cases hn; obtain ⟨u, hu, vs, rfl, rv⟩ := m a _ e; exact .inr (.inl ⟨a, vs, rfl, hu, by rw [rv.len]; exact fin.int m h⟩)
      · rename_i e; cases hn; obtain ⟨u, hu, vs, rfl, rv⟩ := m a _ e; exact .inr (.inr ⟨a, vs, rfl, hu, by rw [rv.len]; exact fin.int m h⟩)
      · cases hn
    | _ => cases hn
  · exact h.elim

/-! ### keys -/
def keyOf : D → Option Key
  | .int i => some (.inl i)
  | .str x => some (.inr x)
  | _ => none
def keyAll : List D → Option (List Key)
  | [] => some []
  | d :: ds => match keyOf d, keyAll ds with
    | some k, some ks => some (k :: ks)
    | _, _ => none
def keysOf : D → Option (List Key)
  | .tup (d :: ds) => keyAll (d :: ds)
  | _ => none
def valD {κ : Type} [DecidableEq κ] (kvs : List (κ × D)) (k : κ) : Option D := (kvs.find? fun kv => decide (kv.1 = k)).map (·.2)
def putD {κ : Type} [DecidableEq κ] (kvs : List (κ × D)) (k : κ) (v : D) : List (κ × D) := if (kvs.any fun kv => decide (kv.1 = k)) = true then kvs.map fun kv => if kv.1 = k then (kv.1, v) else kv else kvs ++ [(k, v)]
def dropD {κ : Type} [DecidableEq κ] (kvs : List (κ × D)) (k : κ) : List (κ × D) := kvs.filter fun kv => decide (kv.1 ≠ k)
section
variable {K : PySem.W.Frag} {H : Hp} {κ : Type} [DecidableEq κ]
theorem keyOf_ok {d : D} {v : V} {k : Key} (r : RD K H d v) (e : keyOf d = some k) : v = kV k := by
  cases d with
  | int i => cases e; exact r
  | str i => cases e; exact r
  | _ => cases e
theorem keyAll_ok : ∀ {ds : List D} {vs : List V} {ks : List Key}, RDs K H ds vs → keyAll ds = some ks → vs = ks.map kV
  | [], _, ks, r, e => by cases e; exact r
  | d :: ds, _, ks, r, e => by
    obtain ⟨v, w, rfl, r1, r2⟩ := r
    unfold keyAll at e
    split at e
    · rename_i k ks' e1 e2
      cases e
      rw [keyOf_ok r1 e1, keyAll_ok r2 e2]
      rfl
    · cases e
theorem keyAll_kl : ∀ {ds : List D} {ks : List Key}, keyAll ds = some ks → (ds.all fun d => match d with
    | .int _ => true
    | .str _ => true
    | .ty _ => true
    | _ => false) = true
  | [], ks, e => rfl
  | d :: ds, ks, e => by
    unfold keyAll at e
    split at e
    · rename_i k ks' e1 e2
      rw [List.all_cons, keyAll_kl e2, Bool.and_true]
      cases d <;> first | rfl | cases e1
    · cases e
theorem keysOf_ok {d : D} {v : V} {ks : List Key} (r : RD K H d v) (e : keysOf d = some ks) : ∃ b, v = .ref b ∧ H b = some (.tup (ks.map kV)) := by
  cases d with
  | tup ds =>
    cases ds with
    | nil => cases e
    | cons d ds =>
      have e : keyAll (d :: ds) = some ks := e
      obtain ⟨a, vs, rfl, _, rv, hk⟩ := r
      exact ⟨a, rfl, by rw [hk (keyAll_kl e), keyAll_ok rv e]⟩
  | _ => cases e
theorem valD_ok : ∀ {kvs : List (κ × D)} {vs : List (κ × V)} (k : κ), RKs K H kvs vs → (∀ d, valD kvs k = some d → ∃ v, valV vs k = some v ∧ RD K H d v) ∧ (valD kvs k = none → valV vs k = none)
  | [], _, k, r => by cases r; exact ⟨fun d e => (by cases e), fun _ => rfl⟩
  | p :: kvs, _, k, r => by
    obtain ⟨v, w, rfl, r1, r2⟩ := r
    have ih := valD_ok k r2
    unfold valD valV at *
    by_cases c : p.1 = k
    · rw [List.find?_cons_of_pos (by simpa using c), List.find?_cons_of_pos (by simpa using c)]
      exact ⟨fun d e => (by cases e; exact ⟨v, rfl, r1⟩), fun e => (by cases e)⟩
    · rw [List.find?_cons_of_neg (by simpa using c), List.find?_cons_of_neg (by simpa using c)]
      exact ih
theorem RKs.any {kvs : List (κ × D)} {vs : List (κ × V)} (k : κ) (r : RKs K H kvs vs) : (vs.any fun kv => decide (kv.1 = k)) = kvs.any fun kv => decide (kv.1 = k) := by
  have h := r.keys
  have e1 : ∀ l : List (κ × V), (l.any fun kv => decide (kv.1 = k)) = (l.map (·.1)).any fun x => decide (x = k) := fun l => by rw [List.any_map]; rfl
  have e2 : ∀ l : List (κ × D), (l.any fun kv => decide (kv.1 = k)) = (l.map (·.1)).any fun x => decide (x = k) := fun l => by rw [List.any_map]; rfl
  rw [e1, e2, h]
theorem RKs.repl : ∀ {kvs : List (κ × D)} {vs : List (κ × V)} {d : D} {v : V} (k : κ), RKs K H kvs vs → RD K H d v → RKs K H (kvs.map fun kv => if kv.1 = k then (kv.1, d) else kv) (vs.map fun kv => if kv.1 = k then (kv.1, v) else kv)
  | [], _, d, v, k, r, _ => by cases r; rfl
  | p :: kvs, _, d, v, k, r, rd => by
    obtain ⟨u, w, rfl, r1, r2⟩ := r
    have ih := RKs.repl (v := v) k r2 rd
    rw [List.map_cons, List.map_cons]
    by_cases c : p.1 = k
    · rw [if_pos c, if_pos c]; exact ⟨v, _, rfl, rd, ih⟩
    · rw [if_neg c, if_neg c]; exact ⟨u, _, rfl, r1, ih⟩
theorem RKs.snoc : ∀ {kvs : List (κ × D)} {vs : List (κ × V)} {d : D} {v : V} {k : κ}, RKs K H kvs vs → RD K H d v → RKs K H (kvs ++ [(k, d)]) (vs ++ [(k, v)])
  | [], _, d, v, k, r, rd => by cases r; exact ⟨v, [], rfl, rd, rfl⟩
  | p :: kvs, _, d, v, k, r, rd => by
    obtain ⟨u, w, rfl, r1, r2⟩ := r
    exact ⟨u, _, rfl, r1, RKs.snoc r2 rd⟩
theorem RKs.put {kvs : List (κ × D)} {vs : List (κ × V)} {d : D} {v : V} (k : κ) (r : RKs K H kvs vs) (rd : RD K H d v) : RKs K H (putD kvs k d) (putK vs k v) := by
  unfold putD putK
  rw [r.any k]
  by_cases c : (kvs.any fun kv => decide (kv.1 = k)) = true
  · rw [if_pos c, if_pos c]; exact r.repl k rd
  · rw [if_neg c, if_neg c]; exact r.snoc rd
theorem RKs.drop : ∀ {kvs : List (κ × D)} {vs : List (κ × V)} (k : κ), RKs K H kvs vs → RKs K H (dropD kvs k) (dropK vs k)
  | [], _, k, r => by cases r; rfl
  | p :: kvs, _, k, r => by
    obtain ⟨u, w, rfl, r1, r2⟩ := r
    have ih := RKs.drop k r2
    unfold dropD dropK at *
    by_cases c : p.1 ≠ k
    · rw [List.filter_cons_of_pos (by simpa using c), List.filter_cons_of_pos (by simpa using c)]; exact ⟨u, _, rfl, r1, ih⟩
    · rw [List.filter_cons_of_neg (by simpa using c), List.filter_cons_of_neg (by simpa using c)]; exact ih
end

/-! ### items -/
def ixOf (μ : Sto) : D → D → Option D
  | .str z, .int i => (atI z.cps.toList i).map fun c => .str ⟨#[c]⟩
  | .tup xs, .int i => atI xs i
  | .fl xs, .int i => atI xs i
  | .wl xs, .int i => atI xs i
  | .ref a, y => match μ a with
    | some (.lst xs) => match y with
      | .int i => atI xs i
      | _ => none
    | some (.dK kvs) => (keyOf y).bind fun k => valD kvs k
    | some (.zK kvs) => (keyOf y).bind fun k => valD kvs k
    | some (.dT kvs) => (keysOf y).bind fun k => valD kvs k
    | some (.zT kvs) => (keysOf y).bind fun k => valD kvs k
    | _ => none
  | _, _ => none
def dIx (x y : D) (μ : Sto) (q : DK) : Prop := ∃ d, ixOf μ x y = some d ∧ szS x ∧ q d μ
theorem atI_ok {K : PySem.W.Frag} {H : Hp} {ds : List D} {vs : List V} {i : Int} {d : D} (r : RDs K H ds vs) (e : atI ds i = some d) : ∃ v, atI vs i = some v ∧ RD K H d v := by
  unfold atI at e ⊢
  rw [r.len]
  cases h : ixN ds.length i with
  | none => rw [h] at e; cases e
  | some j =>
    rw [h] at e
    obtain ⟨v, h1, h2⟩ := r.get (i := j) e
    exact ⟨v, h1, h2⟩
def rIxDt : R2 := fun x y H Q => ∃ a v, x = .ref a ∧ DGet H a y (some v) ∧ Q v H
theorem ix_dict (hu : X.A.units + 1 < cLine) : IxR X rIxDt := by
  intro value slice pins s σ H x y v u Q I rx ry h hs
  obtain ⟨a, z, rfl, g, q⟩ := h
  obtain rfl : v = Value.ref a := rx
  have hT := dict_typeIs I g
  unfold subscriptTail
  refine wpAny_bind ?_
  rw [getitemInPython_of_ne hT.not_modules]
  refine wpAny_bind (wpAny_specialOf hT PySem.F.slot_dict_getitem.lookup ?_)
  have fin : wpAny (model X.prog X.w) X.A (subscripted slice false (.ref a) u) (fun r s₃ => wpAny (model X.prog X.w) X.A (letTemporaryGo value (.ref a) r >>= fun _ => pure r) (EP X pins σ Q) X.xe s₃) X.xe s := by
    rw [hs]
    refine wpAny_operating (d_getItem hu I g ry fun w' s3 I3 rw' => wpAny_bind (wpAny_letTemporaryGo (wpAny_pure ⟨z, H, I3, rw', q⟩)))
  first
    | exact wpAny_pure (wpAny_bind fin)
    | exact wpAny_bind (wpAny_pure (wpAny_bind fin))
    | exact wpAny_bind fin
def rIxA (K : PySem.W.Frag) : R2 := fun x y H Q => rIx K x y H Q ∨ rIxDt x y H Q
theorem ix_any (hu : X.A.units + 1 < cLine) : IxR X (rIxA X.K) := ix_seq.or (ix_dict hu)
theorem l_ix : LR2 X.K (rIxA X.K) dIx := by
  intro x y H Q dx dy μ q rx ry m fin h
  obtain ⟨d, e, hz, h⟩ := h
  have go : ∀ {v : V}, RD X.K H d v → Q v H := fun r => fin _ H d μ (.refl H) r m h
  unfold ixOf at e
  split at e
  · rename_i z i
    cases (show x = .str z from rx)
    cases (show y = .int i from ry)
    cases e2 : atI z.cps.toList i with
    | none => rw [e2] at e; cases e
    | some c => rw [e2] at e; cases e; exact .inl (.inr (.inr ⟨z, i, c, rfl, rfl, hz, e2, go rfl⟩))
  · rename_i xs i
    obtain ⟨a, vs, rfl, ht, rv, _⟩ := rx
    cases (show y = .int i from ry)
    obtain ⟨v, e1, r1⟩ := atI_ok rv e
    exact .inl (.inr (.inl ⟨a, vs, i, v, rfl, rfl, ht, e1, go r1⟩))
  · rename_i xs i
    obtain ⟨a, vs, rfl, ⟨o, ht⟩, rv⟩ := rx
    cases (show y = .int i from ry)
    obtain ⟨v, e1, r1⟩ := atI_ok rv e
    exact .inl (.inl ⟨a, vs, i, v, rfl, rfl, .inl (.inr ⟨o, ht⟩), e1, go r1⟩)
  · rename_i xs i
    obtain ⟨a, vs, rfl, ht, rv⟩ := rx
    cases (show y = .int i from ry)
    obtain ⟨v, e1, r1⟩ := atI_ok rv e
    exact .inl (.inl ⟨a, vs, i, v, rfl, rfl, ht.l, e1, go r1⟩)
  · rename_i a
    cases (show x = .ref a from rx)
    split at e
    · rename_i xs ha
      obtain ⟨u, hu, vs, rfl, rv⟩ := m a _ ha
      split at e
      · rename_i i
        cases (show y = .int i from ry)
        obtain ⟨v, e1, r1⟩ := atI_ok rv e
        exact .inl (.inl ⟨a, vs, i, v, rfl, rfl, .of hu, e1, go r1⟩)
      · cases e
    · rename_i kvs ha
      obtain ⟨u, hu, vs, rfl, rv⟩ := m a _ ha
      obtain ⟨k, hk, e⟩ := Option.bind_eq_some_iff.mp e
      obtain ⟨v, e1, r1⟩ := (valD_ok k rv).1 d e
      exact .inr ⟨a, v, rfl, .inl ⟨vs, k, .inl hu, keyOf_ok ry hk, e1.symm⟩, go r1⟩
    · rename_i kvs ha
      obtain ⟨u, hu, o, vs, rfl, rv⟩ := m a _ ha
      obtain ⟨k, hk, e⟩ := Option.bind_eq_some_iff.mp e
      obtain ⟨v, e1, r1⟩ := (valD_ok k rv).1 d e
      exact .inr ⟨a, v, rfl, .inl ⟨vs, k, .inr ⟨o, hu⟩, keyOf_ok ry hk, e1.symm⟩, go r1⟩
    · rename_i kvs ha
      obtain ⟨u, hu, vs, rfl, rv⟩ := m a _ ha
      obtain ⟨k, hk, e⟩ := Option.bind_eq_some_iff.mp e
      obtain ⟨v, e1, r1⟩ := (valD_ok k rv).1 d e
      obtain ⟨b, rfl, hb⟩ := keysOf_ok ry hk
      exact .inr ⟨a, v, rfl, .inr ⟨vs, k, b, .inl hu, rfl, hb, e1.symm⟩, go r1⟩
    · rename_i kvs ha
      obtain ⟨u, hu, o, vs, rfl, rv⟩ := m a _ ha
      obtain ⟨k, hk, e⟩ := Option.bind_eq_some_iff.mp e
      obtain ⟨v, e1, r1⟩ := (valD_ok k rv).1 d e
      obtain ⟨b, rfl, hb⟩ := keysOf_ok ry hk
      exact .inr ⟨a, v, rfl, .inr ⟨vs, k, b, .inr ⟨o, hu⟩, rfl, hb, e1.symm⟩, go r1⟩
    · cases e
  · cases e
theorem qe_ix {a b : Expr} {pos : Pos} {ta tb : DTE} (hu : X.A.units + 1 < cLine) (ha : QE X a ta) (hb : QE X b tb) (hs : PlainIx b := by exact fun _ _ => rfl) : QE X (.Subscript a b pos) (dOp dIx ta tb) :=
  ⟨PE.imp (pe_ix (ix_any hu) ha.r hb.r hs) fun _ _ _ h => lop l_ix h⟩

/-! ### slices -/
def cutD (xs : List D) (lo hi : Option Int) : List D := (xs.drop (HT.sIx xs.length 0 lo)).take (HT.sIx xs.length xs.length hi - HT.sIx xs.length 0 lo)
theorem cutD_ok {K : PySem.W.Frag} {H : Hp} {ds : List D} {vs : List V} (r : RDs K H ds vs) (lo hi : Option Int) : RDs K H (cutD ds lo hi) (cutV vs lo hi) := by
  unfold cutD cutV
  rw [r.len]
  exact (r.drop _).take _
def dSlv (x : D) (lo hi : Option Int) (μ : Sto) (q : DK) : Prop := match x with
  | .tup xs => q (.tup (cutD xs lo hi)) μ
  | .str z => z.length ≤ sizeLine ∧ q (.str (cutS z lo hi)) μ
  | x => ∃ xs, lsOf μ x = some xs ∧ ∀ p, μ p = none → q (.ref p) (set μ p (.lst (cutD xs lo hi)))
def rSlAll (K : PySem.W.Frag) : V → Option Int → Option Int → Hp → VK → Prop := fun x lo hi H Q => rSlA K x lo hi H Q ∨ (rSlL K x lo hi H Q ∨ rSlS x lo hi H Q)
theorem sl_all : SlR X (rSlAll X.K) := sl_tupA.or (sl_list.or sl_str)
theorem l_sl {x : V} {lo hi : Option Int} {H : Hp} {Q : VK} {dx : D} {μ : Sto} {q : DK} (rx : RD X.K H dx x) (m : RH X.K H μ) (fin : Fin X.K H q Q) (h : dSlv dx lo hi μ q) : rSlAll X.K x lo hi H Q := by
  unfold dSlv at h
  split at h
  · rename_i xs
    obtain ⟨a, vs, rfl, ht, rv, hk⟩ := rx
    refine .inl ⟨a, vs, rfl, ht, fun e => ?_, fun _ p hp => fin _ _ _ μ (.new hp) (.newT hp (cutD_ok rv lo hi)) (m.new hp) h⟩
    have e2 : cutD xs lo hi = xs := by
      unfold cutD
      rw [← rv.len, e.1, e.2, List.drop_zero, Nat.sub_zero, rv.len, List.take_length]
    rw [e2] at h
    exact fin _ H (.tup xs) μ (.refl H) ⟨a, vs, rfl, ht, rv, hk⟩ m h
  · cases (show x = .str _ from rx)
    exact .inr (.inr ⟨_, rfl, h.1, fin.str m h.2⟩)
  · obtain ⟨xs, hx, h⟩ := h
    obtain ⟨a, vs, rfl, hl, rv⟩ := lsOf_ok rx m hx
    exact .inr (.inl ⟨a, vs, rfl, hl, fun p hp => fin _ _ (.ref p) _ (.new hp) rfl (m.put (o := .lst (cutD xs lo hi)) (.new hp) ⟨_, rfl, (cutD_ok rv lo hi).ext (.new hp)⟩) (h p (m.free hp))⟩)
def dNoPart : DTO := fun _ μ q => q none μ
def dPart (t : DTE) : DTO := fun Γ μ q => t Γ μ fun x μ1 => match x with
  | .int i => q (some i) μ1
  | _ => False
theorem qo_none : QO X none dNoPart := ⟨⟨fun pins s σ H Q I ⟨Γ, μ, q, h1, h2, h3, h4⟩ => (po_none (X := X)).run pins s σ H Q I (h3 none H μ (.refl H) h2 h4)⟩⟩
theorem qo_some {e : Expr} {t : DTE} (h : QE X e t) : QO X (some e) (dPart t) := ⟨⟨fun pins s σ H Q I ⟨Γ, μ, q, h1, h2, h3, h4⟩ => (po_some h.r).run pins s σ H Q I (by
  refine ⟨Γ, μ, _, h1, h2, fun v H1 d μ1 e1 r1 m1 h5 => ?_, h4⟩
  cases d with
  | int i => exact ⟨i, r1, h3 _ H1 μ1 e1 m1 h5⟩
  | _ => exact h5.elim)⟩⟩
def dSl (t : DTE) (tl th : DTO) : DTE := fun Γ μ q => t Γ μ fun x μ1 => tl Γ μ1 fun lo μ2 => th Γ μ2 fun hi μ3 => dSlv x lo hi μ3 q
theorem qe_slice {e : Expr} {lo hi : Option Expr} {p2 pos : Pos} {t : DTE} {tl th : DTO} (he : QE X e t) (hl : QO X lo tl) (hh : QO X hi th) : QE X (.Subscript e (.Slice lo hi none p2) pos) (dSl t tl th) :=
  ⟨PE.imp (pe_slice sl_all he.r hl.r hh.r) fun σ H Q ⟨Γ, μ, q, h1, h2, h3, h4⟩ => by
    refine ⟨Γ, μ, _, h1, h2, fun x H1 dx μ1 e1 r1 m1 h5 => ?_, h4⟩
    refine ⟨Γ, μ1, _, h1.ext e1, m1, fun lo H2 μ2 e2 m2 h6 => ?_, h5⟩
    refine ⟨Γ, μ2, _, h1.ext (e1.trans e2), m2, fun hi H3 μ3 e3 m3 h7 => ?_, h6⟩
    exact l_sl (r1.ext (e2.trans e3)) m3 (h3.ext (e1.trans (e2.trans e3))) h7⟩

/-! ### stores -/
def rSetA : TSet := fun o i v H Q => rSetL o i v H Q ∨ ∃ a H', o = .ref a ∧ DPut H a i v H' ∧ Q H'
theorem set_any (hu : X.A.units + 1 < cLine) : PSet X rSetA := by
  intro pins s σ H o i v ov iv u Q I ro ri rv h
  rcases h with h | ⟨a, H', rfl, g, q⟩
  · exact set_list pins s σ H o i v ov iv u Q I ro ri rv h
  · obtain rfl : ov = Value.ref a := ro
    exact d_setItem hu I g ri rv fun s' I' => ⟨H', I', q⟩
def dSet (o i v : D) (μ : Sto) (q : Sto → Prop) : Prop := match o with
  | .ref a => match μ a with
    | some (.lst xs) => match i with
      | .int k => ∃ j, ixN xs.length k = some j ∧ q (set μ a (.lst (xs.set j v)))
      | _ => False
    | some (.dK kvs) => ∃ k, keyOf i = some k ∧ kvs.length < sizeLine ∧ q (set μ a (.dK (putD kvs k v)))
    | some (.dT kvs) => ∃ k, keysOf i = some k ∧ kvs.length < sizeLine ∧ q (set μ a (.dT (putD kvs k v)))
    | _ => False
  | _ => False
theorem l_set : LRS X.K rSetA dSet := by
  intro o i v H Q dl dj dv μ q ro ri rv m fin h
  unfold dSet at h
  split at h
  · rename_i a
    cases (show o = .ref a from ro)
    split at h
    · rename_i xs ha
      obtain ⟨u, hu, vs, rfl, r⟩ := m a _ ha
      split at h
      · rename_i k
        cases (show i = .int k from ri)
        obtain ⟨j, hj, h⟩ := h
        have ex : Ext H (upd H a (.lst (vs.set j v))) := .mut hu id
        exact .inl ⟨a, vs, k, j, rfl, rfl, hu, by rw [r.len]; exact hj, fin _ _ ex (m.put (o := .lst (xs.set j dv)) ex ⟨_, rfl, (r.set j rv).ext ex⟩) h⟩
      · exact h.elim
    · rename_i kvs ha
      obtain ⟨u, hu, vs, rfl, r⟩ := m a _ ha
      obtain ⟨k, hk, hz, h⟩ := h
      have ex : Ext H (upd H a (.dK (putK vs k v))) := .mut hu id
      exact .inr ⟨a, _, rfl, .inl ⟨vs, k, hu, keyOf_ok ri hk, by rw [r.len]; exact hz, rfl⟩, fin _ _ ex (m.put (o := .dK (putD kvs k dv)) ex ⟨_, rfl, (r.put k rv).ext ex⟩) h⟩
    · rename_i kvs ha
      obtain ⟨u, hu, vs, rfl, r⟩ := m a _ ha
      obtain ⟨k, hk, hz, h⟩ := h
      obtain ⟨b, rfl, hb⟩ := keysOf_ok ri hk
      have ex : Ext H (upd H a (.dT (putK vs k v))) := .mut hu id
      exact .inr ⟨a, _, rfl, .inr ⟨vs, k, b, hu, rfl, hb, by rw [r.len]; exact hz, rfl⟩, fin _ _ ex (m.put (o := .dT (putD kvs k dv)) ex ⟨_, rfl, (r.put k rv).ext ex⟩) h⟩
    · exact h.elim
  · exact h.elim
end
end DL

/-! DH: in, methods, built-ins, dicts. -/
namespace DL
open PySem PySem.Spec PyProof.Rows L2
section
variable {X : Cx}
/-! ### in -/
def flD : D → Bool
  | .non => true
  | .bl _ => true
  | .int _ => true
  | .str _ => true
  | _ => false
def eqF : D → D → Bool
  | .non, .non => true
  | .bl a, .bl b => a == b
  | .bl a, .int b => (if a then 1 else 0) == b
  | .int a, .bl b => a == (if b then 1 else 0)
  | .int a, .int b => a == b
  | .str a, .str b => a == b
  | _, _ => false
def inSeq (x : D) (ys : List D) : Option Bool := if flD x = true ∧ ys.all flD = true then some (ys.any fun y => eqF y x) else none
def inOf (μ : Sto) : D → D → Option Bool
  | .str c, .str z => match c.cps.toList with
    | [n] => some (decide (n ∈ z.cps.toList))
    | _ => none
  | x, .tup ys => inSeq x ys
  | x, .fl ys => inSeq x ys
  | x, .wl ys => inSeq x ys
  | x, .ref a => match μ a with
    | some (.lst ys) => inSeq x ys
    | some (.dK kvs) => (keyOf x).map fun k => (valD kvs k).isSome
    | some (.zK kvs) => (keyOf x).map fun k => (valD kvs k).isSome
    | some (.dT kvs) => (keysOf x).map fun k => (valD kvs k).isSome
    | some (.zT kvs) => (keysOf x).map fun k => (valD kvs k).isSome
    | _ => none
  | _, _ => none
def dInN (f : Bool → Bool) (x y : D) (μ : Sto) (q : DK) : Prop := ∃ b, inOf μ x y = some b ∧ q (.bl (f b)) μ
abbrev dIn : D → D → Sto → DK → Prop := dInN fun b => b
abbrev dNin : D → D → Sto → DK → Prop := dInN fun b => !b
def rInA (K : PySem.W.Frag) (n : Bool) : R2 := fun x y H Q =>
  (∃ (c : Nat) (z : Str), x = .str ⟨#[c]⟩ ∧ y = .str z ∧ Q (.bl (if n then !decide (c ∈ z.cps.toList) else decide (c ∈ z.cps.toList))) H) ∨
  (rIn K n x y H Q ∨ ∃ a o, y = .ref a ∧ DGet H a x o ∧ Q (.bl (if n then !o.isSome else o.isSome)) H)
theorem op_in_d (hu : X.A.units + 1 < cLine) : OpR X (compareOp .In) (fun x y H Q => ∃ a o, y = .ref a ∧ DGet H a x o ∧ Q (.bl o.isSome) H) := by
  intro pins s σ H x y v u Q I rx ry h
  obtain ⟨a, o, rfl, g, q⟩ := h
  obtain rfl : u = Value.ref a := ry
  exact d_in hu I g rx fun s3 I3 => ⟨.bl o.isSome, H, I3, rfl, q⟩
theorem op_nin_d (hu : X.A.units + 1 < cLine) : OpR X (compareOp .NotIn) (fun x y H Q => ∃ a o, y = .ref a ∧ DGet H a x o ∧ Q (.bl (!o.isSome)) H) := by
  intro pins s σ H x y v u Q I rx ry h
  obtain ⟨a, o, rfl, g, q⟩ := h
  obtain rfl : u = Value.ref a := ry
  exact d_notIn hu I g rx fun s3 I3 => ⟨.bl (!o.isSome), H, I3, rfl, q⟩
theorem op_inA (hu : X.A.units + 1 < cLine) : OpR X (compareOp .In) (rInA X.K false) := op_in_sign.or (op_in_seq.or (op_in_d hu))
theorem op_ninA (hu : X.A.units + 1 < cLine) : OpR X (compareOp .NotIn) (rInA X.K true) := op_notIn_sign.or (op_notIn_seq.or (op_nin_d hu))
def flV : D → V
  | .bl b => .bl b
  | .int i => .int i
  | .str x => .str x
  | _ => .non
theorem flV_ok {K : PySem.W.Frag} {H : Hp} {d : D} {v : V} (r : RD K H d v) (h : flD d = true) : v = flV d := by
  cases d with
  | non => exact r
  | bl b => exact r
  | int b => exact r
  | str b => exact r
  | _ => cases h
theorem flD_ok {K : PySem.W.Frag} {H : Hp} {d : D} {v : V} (r : RD K H d v) (h : flD d = true) : flatV v = true := by
  rw [flV_ok r h]
  cases d <;> first | rfl | cases h
theorem flDs_ok {K : PySem.W.Frag} {H : Hp} : ∀ {ds : List D} {vs : List V}, RDs K H ds vs → ds.all flD = true → vs.all flatV = true
  | [], _, r, _ => by cases r; rfl
  | d :: ds, _, r, h => by
    obtain ⟨v, w, rfl, r1, r2⟩ := r
    rw [List.all_cons, Bool.and_eq_true] at h ⊢
    exact ⟨flD_ok r1 h.1, flDs_ok r2 h.2⟩
theorem eqF_ok {K : PySem.W.Frag} {H : Hp} {x y : D} {v u : V} (rx : RD K H x v) (ry : RD K H y u) (hx : flD x = true) (hy : flD y = true) : eqV v u = eqF x y := by
  rw [flV_ok rx hx, flV_ok ry hy]
  cases x <;> cases y <;> first
    | rfl
    | (simp [flD] at hx; done)
    | (simp [flD] at hy; done)
theorem inSeq_ok {K : PySem.W.Frag} {H : Hp} {x : D} {v : V} {ys : List D} {us : List V} {b : Bool} (rx : RD K H x v) (ry : RDs K H ys us) (h : inSeq x ys = some b) : flatV v = true ∧ us.all flatV = true ∧ inV v us = b := by
  unfold inSeq at h
  split at h
  · rename_i c
    cases h
    refine ⟨flD_ok rx c.1, flDs_ok ry c.2, ?_⟩
    unfold inV
    have go : ∀ {ys : List D} {us : List V}, RDs K H ys us → ys.all flD = true → (us.any fun y => eqV y v) = ys.any fun y => eqF y x := by
      intro ys
      induction ys with
      | nil => intro us r _; cases r; rfl
      | cons d ds ih =>
        intro us r hd
        obtain ⟨w, ws, rfl, r1, r2⟩ := r
        rw [List.all_cons, Bool.and_eq_true] at hd
        rw [List.any_cons, List.any_cons, eqF_ok r1 rx hd.1 c.1, ih r2 hd.2]
    exact go ry c.2
  · cases h
theorem l_inN (n : Bool) : LR2 X.K (rInA X.K n) (dInN fun b => if n then !b else b) := by
  intro x y H Q dx dy μ q rx ry m fin h
  obtain ⟨b, e, h⟩ := h
  have hq := fin.bl m h
  have sq : ∀ {a : Addr} {ys : List D} {us : List V}, (SqL X.K H a us ∨ SqT X.K H a us) → RDs X.K H ys us → inSeq dx ys = some b → y = .ref a → rInA X.K n x y H Q := fun {a ys us} hs r e ey => by
    obtain ⟨h1, h2, h3⟩ := inSeq_ok rx r e
    refine .inr (.inl ⟨a, us, ey, hs, h1, h2, ?_⟩)
    rw [h3]
    exact hq
  unfold inOf at e
  split at e
  · rename_i c z
    cases (show x = .str c from rx)
    cases (show y = .str z from ry)
    split at e
    · rename_i k hc
      cases e
      have : c = ⟨#[k]⟩ := by
        cases c with
        | mk a =>
          have : a.toList = [k] := hc
          congr 1
          rw [← Array.toArray_toList (xs := a), this]
      subst this
      exact .inl ⟨k, z, rfl, rfl, hq⟩
    · cases e
  · obtain ⟨a, vs, rfl, ht, rv, _⟩ := ry
    exact sq (.inr ht) rv e rfl
  · obtain ⟨a, vs, rfl, ⟨o, ht⟩, rv⟩ := ry
    exact sq (.inl (.inl (.inr ⟨o, ht⟩))) rv e rfl
  · obtain ⟨a, vs, rfl, ht, rv⟩ := ry
    exact sq (.inl ht.l) rv e rfl
  · rename_i a
    cases (show y = .ref a from ry)
    have dd : ∀ {o : Option V}, DGet H a x o → o.isSome = b → rInA X.K n x (.ref a) H Q := fun {o} g eb => .inr (.inr ⟨a, o, rfl, g, by rw [eb]; exact hq⟩)
    have so : ∀ {κ : Type} [DecidableEq κ] {kvs : List (κ × D)} {vs : List (κ × V)} (k : κ), RKs X.K H kvs vs → (valV vs k).isSome = (valD kvs k).isSome := fun {κ _ kvs vs} k r => by
      obtain ⟨h1, h2⟩ := valD_ok k r
      cases e : valD kvs k with
      | none => rw [h2 e]; rfl
      | some d => obtain ⟨v, hv, _⟩ := h1 d e; rw [hv]; rfl
    split at e
    · rename_i ys ha
      obtain ⟨u, hu, vs, rfl, rv⟩ := m a _ ha
      exact sq (.inl (.of hu)) rv e rfl
    · rename_i kvs ha
      obtain ⟨u, hu, vs, rfl, rv⟩ := m a _ ha
      obtain ⟨k, hk, rfl⟩ := Option.map_eq_some_iff.mp e
      exact dd (.inl ⟨vs, k, .inl hu, keyOf_ok rx hk, rfl⟩) (so k rv)
    · rename_i kvs ha
      obtain ⟨u, hu, o, vs, rfl, rv⟩ := m a _ ha
      obtain ⟨k, hk, rfl⟩ := Option.map_eq_some_iff.mp e
      exact dd (.inl ⟨vs, k, .inr ⟨o, hu⟩, keyOf_ok rx hk, rfl⟩) (so k rv)
    · rename_i kvs ha
      obtain ⟨u, hu, vs, rfl, rv⟩ := m a _ ha
      obtain ⟨k, hk, rfl⟩ := Option.map_eq_some_iff.mp e
      obtain ⟨b, rfl, hb⟩ := keysOf_ok rx hk
      exact dd (.inr ⟨vs, k, b, .inl hu, rfl, hb, rfl⟩) (so k rv)
    · rename_i kvs ha
      obtain ⟨u, hu, o, vs, rfl, rv⟩ := m a _ ha
      obtain ⟨k, hk, rfl⟩ := Option.map_eq_some_iff.mp e
      obtain ⟨b, rfl, hb⟩ := keysOf_ok rx hk
      exact dd (.inr ⟨vs, k, b, .inr ⟨o, hu⟩, rfl, hb, rfl⟩) (so k rv)
    · cases e
  · cases e
theorem l_in : LR2 X.K (rInA X.K false) dIn := l_inN false
theorem l_nin : LR2 X.K (rInA X.K true) dNin := l_inN true

/-! ### methods of built-in types -/
def LRM (K : PySem.W.Frag) (r : V → List V → Hp → VK → Prop) (rd : D → List D → Sto → DK → Prop) : Prop :=
  ∀ x xs H Q dx ds μ q, RD K H dx x → RDs K H ds xs → RH K H μ → Fin K H q Q → rd dx ds μ q → r x xs H Q
/-- the receiver's kind -/
def tyM (T : String) (μ : Sto) (d : D) : Prop := match d with
  | .str _ => T = "str"
  | .fl _ => T = "list"
  | .wl _ => T = "list"
  | .ref a => match μ a with
    | some (.lst _) => T = "list"
    | some (.dK _) => T = "dict"
    | some (.dT _) => T = "dict"
    | _ => False
  | _ => False
theorem tyM_ok {K : PySem.W.Frag} {H : Hp} {μ : Sto} {d : D} {v : V} {T : String} (r : RD K H d v) (m : RH K H μ) (h : tyM T μ d) : tyV K T v H := by
  unfold tyM at h
  split at h
  · cases (show v = .str _ from r); exact h
  · obtain ⟨a, vs, rfl, ⟨o, ht⟩, _⟩ := r; exact .inl ⟨h, vs, .inl (.inr ⟨o, ht⟩)⟩
  · obtain ⟨a, vs, rfl, ht, _⟩ := r; exact .inl ⟨h, vs, ht.l⟩
  · rename_i a
    cases (show v = .ref a from r)
    split at h
    · rename_i ha; obtain ⟨u, hu, vs, rfl, _⟩ := m a _ ha; exact .inl ⟨h, vs, .of hu⟩
    · rename_i ha; obtain ⟨u, hu, vs, rfl, _⟩ := m a _ ha; exact .inr (.inr (.inl ⟨h, .inl ⟨vs, hu⟩⟩))
    · rename_i ha; obtain ⟨u, hu, vs, rfl, _⟩ := m a _ ha; exact .inr (.inr (.inl ⟨h, .inr ⟨vs, hu⟩⟩))
    · exact h.elim
  · exact h.elim
def dBM (T : String) (rd : D → List D → Sto → DK → Prop) (to : DTE) (t : DTA) : DTE := fun Γ μ q => to Γ μ fun x μ1 => tyM T μ1 x ∧ t Γ μ1 fun xs μ2 => rd x xs μ2 q
variable {o e : Expr} {es : List Expr} {to : DTE} {t : DTA} {name : Str} {apos cpos : Pos} {T id : String} {r : V → List V → Hp → VK → Prop} {rd : D → List D → Sto → DK → Prop}
theorem qe_bm (pa : PlainAttrs T) (slot : Slot T name id) (hty : typeOf (.builtin id) = pure (.type "method_descriptor")) (hm : MtR X id r) (hl : LRM X.K r rd) (ho : QE X o to) (ha : QA X (e :: es) t)
    (hbase : attributeBase o name X.env (eval o X.env) = eval o X.env := by rfl)
    (hfew : ((backTo cpos (starEach (e :: es) X.env)).all (fun x => !x.1) && (backToKw cpos (keywordEach [] X.env)).all (fun x => x.1.isSome)
      && decide ((e :: es).length + ([] : List Keyword).length + (if ([] : List Keyword).isEmpty then 0 else 1) < 30)) = true := by rfl)
    (hline : (apos.endLine == cpos.line) = true := by rfl) (hs : starEach (e :: es) X.env = (false, eval e X.env) :: starEach es X.env := by rfl) (hplain : (backTo cpos (starEach es X.env)).any (·.1) = false := by rfl) :
    QE X (.Call (.Attribute o name apos) (e :: es) [] cpos) (dBM T rd to t) :=
  ⟨PE.imp (pe_bm pa slot hty hm ho.r ha.r hbase hfew hline hs hplain) fun σ H Q ⟨Γ, μ, q, h1, h2, h3, h4⟩ => by
    refine ⟨Γ, μ, _, h1, h2, fun x H1 dx μ1 e1 r1 m1 h5 => ⟨tyM_ok r1 m1 h5.1, ?_⟩, h4⟩
    refine ⟨Γ, μ1, _, h1.ext e1, m1, fun xs H2 ds μ2 e2 r2 m2 h6 => ?_, h5.2⟩
    exact hl _ _ _ _ _ _ _ _ (r1.ext e2) r2 m2 (h3.ext (e1.trans e2)) h6⟩
def dBM0 (T : String) (rd : D → List D → Sto → DK → Prop) (to : DTE) : DTE := fun Γ μ q => to Γ μ fun x μ1 => tyM T μ1 x ∧ rd x [] μ1 q
theorem qe_bm0 (pa : PlainAttrs T) (slot : Slot T name id) (hty : typeOf (.builtin id) = pure (.type "method_descriptor")) (hm : MtR X id r) (hl : LRM X.K r rd) (ho : QE X o to)
    (hbase : attributeBase o name X.env (eval o X.env) = eval o X.env := by rfl) (hline : (apos.endLine == cpos.line) = true := by rfl) : QE X (.Call (.Attribute o name apos) [] [] cpos) (dBM0 T rd to) :=
  ⟨PE.imp (pe_bm0 pa slot hty hm ho.r hbase hline) fun σ H Q ⟨Γ, μ, q, h1, h2, h3, h4⟩ => by
    refine ⟨Γ, μ, _, h1, h2, fun x H1 dx μ1 e1 r1 m1 h5 => ⟨tyM_ok r1 m1 h5.1, ?_⟩, h4⟩
    exact hl _ [] _ _ _ [] _ _ r1 rfl m1 (h3.ext e1) h5.2⟩
def dAppend (x : D) (xs : List D) (μ : Sto) (q : DK) : Prop := match x, xs with
  | .ref a, [y] => ∃ ds, μ a = some (.lst ds) ∧ ds.length < sizeLine ∧ q .non (set μ a (.lst (ds ++ [y])))
  | _, _ => False
theorem l_append : LRM X.K rAppend dAppend := by
  intro x xs H Q dx ds μ q rx rv m fin h
  unfold dAppend at h
  split at h
  · rename_i a y
    cases (show x = .ref a from rx)
    obtain ⟨v, w, rfl, r1, rfl⟩ := rv
    obtain ⟨ds, ha, hz, h⟩ := h
    obtain ⟨u, hu, vs, rfl, r⟩ := m a _ ha
    have ex : Ext H (upd H a (.lst (vs ++ [v]))) := .mut hu id
    exact ⟨a, vs, v, rfl, rfl, hu, by rw [r.len]; exact hz, fin _ _ .non _ ex rfl (m.put (o := .lst (ds ++ [y])) ex ⟨_, rfl, (r.snoc r1).ext ex⟩) h⟩
  · exact h.elim
/-- extend by a list -/
def rExtL : V → List V → Hp → VK → Prop := fun x vs H Q => ∃ l b xs zs, x = .ref l ∧ vs = [.ref b] ∧ H l = some (.lst xs) ∧ Rd H b (.lst zs) ∧ xs.length + zs.length ≤ sizeLine ∧ Q .non (upd H l (.lst (xs ++ zs)))
theorem mt_extL : MtR X "list.extend" rExtL := by
  intro pins s σ H x vs v us Q I rx rv h
  obtain ⟨l, b, xs, zs, rfl, rfl, hH, hB, hz, q⟩ := h
  cases rx
  obtain ⟨u, rfl, ru⟩ := vals1 rv
  cases ru
  obtain ⟨z, its, n, r, hl, e⟩ := I.lstM hH
  obtain ⟨z2, its2, n2, r2, hl2, e2⟩ := DL.Inv.lstR I hB
  have hsz : its.toArray.size + its2.toArray.size ≤ sizeLine := by rw [List.size_toArray, List.size_toArray]; omega
  have hlong : ¬ (!its.toArray.isEmpty && Builtin.List.listTooLong (its.toArray.size + its2.toArray.size)) = true := by
    rw [notLongL hsz, Bool.and_false]
    exact Bool.false_ne_true
  refine call_meets PySem.F.slot_list_extend ⟨_, e, rfl⟩ PySem.F.entry_list_extend (PySem.F.args_list_extend_2 _ _)
    (AutoSeq1.list_extend_list_list_0 l its.toArray n b its2.toArray n2 hlong (by rw [List.size_toArray]; omega) (by omega)) ⟨e, e2, ?_⟩
  refine ⟨.non, _, I.lset (its' := its ++ its2) hH e (by simp) (r.append r2) ?_, rfl, q⟩
  rw [List.length_append]
  omega
def dExtend (x : D) (xs : List D) (μ : Sto) (q : DK) : Prop := match x, xs with
  | .ref a, [y] => ∃ ds es, μ a = some (.lst ds) ∧ exOf μ y = some es ∧ ds.length + es.length ≤ sizeLine ∧ q .non (set μ a (.lst (ds ++ es)))
  | _, _ => False
theorem l_extend : LRM X.K rExtL dExtend := by
  intro x xs H Q dx ds μ q rx rv m fin h
  unfold dExtend at h
  split at h
  · rename_i a y
    cases (show x = .ref a from rx)
    obtain ⟨v, w, rfl, r1, rfl⟩ := rv
    obtain ⟨ds, es, ha, he, hz, h⟩ := h
    obtain ⟨u, hu, vs, rfl, r⟩ := m a _ ha
    obtain ⟨b, ws, rfl, hb, r2⟩ := exOf_ok r1 m he
    have ex : Ext H (upd H a (.lst (vs ++ ws))) := .mut hu id
    exact ⟨a, b, vs, ws, rfl, rfl, hu, hb, by rw [r.len, r2.len]; exact hz, fin _ _ .non _ ex rfl (m.put (o := .lst (ds ++ es)) ex ⟨_, rfl, (r.app r2).ext ex⟩) h⟩
  · exact h.elim
/-- pop(i) of a list -/
def dPopAt (x : D) (xs : List D) (μ : Sto) (q : DK) : Prop := match x, xs with
  | .ref a, [.int i] => ∃ ds k d, μ a = some (.lst ds) ∧ (-(2 ^ 63) ≤ i ∧ i < 2 ^ 63) ∧ seqIndex? i ds.length = some k ∧ ds[k]? = some d ∧ q d (set μ a (.lst (ds.eraseIdx k)))
  | _, _ => False
theorem l_popAt : LRM X.K rPopAt dPopAt := by
  intro x xs H Q dx ds μ q rx rv m fin h
  unfold dPopAt at h
  split at h
  · rename_i a i
    cases (show x = .ref a from rx)
    obtain ⟨v, w, rfl, r1, rfl⟩ := rv
    cases (show v = .int i from r1)
    obtain ⟨ds, k, d, ha, hb, hk, hd, h⟩ := h
    obtain ⟨u, hu, vs, rfl, r⟩ := m a _ ha
    obtain ⟨y, hy, ry⟩ := r.get hd
    have ex : Ext H (upd H a (.lst (vs.eraseIdx k))) := .mut hu id
    exact ⟨a, vs, i, k, y, rfl, rfl, hu, hb.1, hb.2, by rw [r.len]; exact hk, hy, fin _ _ d _ ex (ry.ext ex) (m.put (o := .lst (ds.eraseIdx k)) ex ⟨_, rfl, (r.erase k).ext ex⟩) h⟩
  · exact h.elim

/-! ### built-ins -/
def dAbs (ds : List D) (μ : Sto) (q : DK) : Prop := match ds with
  | [.int i] => q (.int (if i < 0 then -i else i)) μ
  | _ => False
theorem l_abs : LRA X.K (fun xs H Q => ∃ i, xs = [.int i] ∧ Q (.int (if i < 0 then -i else i)) H) dAbs := by
  intro xs H Q ds μ q r m fin h
  unfold dAbs at h
  split at h
  · rename_i i
    obtain ⟨v, w, rfl, r1, rfl⟩ := r
    cases (show v = .int i from r1)
    exact ⟨i, rfl, fin.int m h⟩
  · exact h.elim
def dMax2 (ds : List D) (μ : Sto) (q : DK) : Prop := match ds with
  | [.int i, .int j] => q (.int (if j > i then j else i)) μ
  | _ => False
theorem l_max2 : LRA X.K (fun xs H Q => ∃ i j, xs = [.int i, .int j] ∧ Q (.int (if j > i then j else i)) H) dMax2 := by
  intro xs H Q ds μ q r m fin h
  unfold dMax2 at h
  split at h
  · rename_i i j
    obtain ⟨v, w, rfl, r1, v2, w2, rfl, r2, rfl⟩ := r
    cases (show v = .int i from r1)
    cases (show v2 = .int j from r2)
    exact ⟨i, j, rfl, fin.int m h⟩
  · exact h.elim
def dMin2 (ds : List D) (μ : Sto) (q : DK) : Prop := match ds with
  | [.int i, .int j] => q (.int (if j < i then j else i)) μ
  | _ => False
theorem l_min2 : LRA X.K (fun xs H Q => ∃ i j, xs = [.int i, .int j] ∧ Q (.int (if j < i then j else i)) H) dMin2 := by
  intro xs H Q ds μ q r m fin h
  unfold dMin2 at h
  split at h
  · rename_i i j
    obtain ⟨v, w, rfl, r1, v2, w2, rfl, r2, rfl⟩ := r
    cases (show v = .int i from r1)
    cases (show v2 = .int j from r2)
    exact ⟨i, j, rfl, fin.int m h⟩
  · exact h.elim
def dIntC (ds : List D) (μ : Sto) (q : DK) : Prop := match ds with
  | [.int i] => q (.int i) μ
  | [.bl b] => q (.int (if b then 1 else 0)) μ
  | [.str z] => ∃ n, PySem.intText? z = some n ∧ z.length ≤ 640 ∧ q (.int n) μ
  | _ => False
theorem call_intA : CallR X (.type "int") (fun xs H Q => ((∃ i, xs = [.int i] ∧ Q (.int i) H) ∨ ∃ k, xs = [.bl k] ∧ Q (.int (if k then 1 else 0)) H) ∨ ∃ a n, xs = [.str a] ∧ PySem.intText? a = some n ∧ a.length ≤ 640 ∧ Q (.int n) H) := call_int1.or call_int_str
theorem l_intC : LRA X.K (fun xs H Q => ((∃ i, xs = [.int i] ∧ Q (.int i) H) ∨ ∃ k, xs = [.bl k] ∧ Q (.int (if k then 1 else 0)) H) ∨ ∃ a n, xs = [.str a] ∧ PySem.intText? a = some n ∧ a.length ≤ 640 ∧ Q (.int n) H) dIntC := by
  intro xs H Q ds μ q r m fin h
  unfold dIntC at h
  split at h
  · rename_i i; obtain ⟨v, w, rfl, r1, rfl⟩ := r; cases (show v = .int i from r1); exact .inl (.inl ⟨i, rfl, fin.int m h⟩)
  · rename_i i; obtain ⟨v, w, rfl, r1, rfl⟩ := r; cases (show v = .bl i from r1); exact .inl (.inr ⟨i, rfl, fin.int m h⟩)
  · rename_i z; obtain ⟨v, w, rfl, r1, rfl⟩ := r; cases (show v = .str z from r1); obtain ⟨n, h1, h2, h3⟩ := h; exact .inr ⟨z, n, rfl, h1, h2, fin.int m h3⟩
  · exact h.elim
def dStrI (ds : List D) (μ : Sto) (q : DK) : Prop := match ds with
  | [.int i] => i.natAbs.log2 < 1920 ∧ q (.str (toString i)) μ
  | _ => False
theorem l_strI : LRA X.K (fun xs H Q => ∃ i, xs = [.int i] ∧ i.natAbs.log2 < 1920 ∧ Q (.str (toString i)) H) dStrI := by
  intro xs H Q ds μ q r m fin h
  unfold dStrI at h
  split at h
  · rename_i i; obtain ⟨v, w, rfl, r1, rfl⟩ := r; cases (show v = .int i from r1); exact ⟨i, rfl, h.1, fin.str m h.2⟩
  · exact h.elim
def dOrd (ds : List D) (μ : Sto) (q : DK) : Prop := match ds with
  | [.str z] => z.length = 1 ∧ q (.int (z.cps.getD 0 0 : Nat)) μ
  | _ => False
theorem l_ord : LRA X.K (fun xs H Q => ∃ x, xs = [.str x] ∧ x.length = 1 ∧ Q (.int (x.cps.getD 0 0 : Nat)) H) dOrd := by
  intro xs H Q ds μ q r m fin h
  unfold dOrd at h
  split at h
  · rename_i z; obtain ⟨v, w, rfl, r1, rfl⟩ := r; cases (show v = .str z from r1); exact ⟨z, rfl, h.1, fin.int m h.2⟩
  · exact h.elim
def dSum (ds : List D) (μ : Sto) (q : DK) : Prop := match ds with
  | [d] => ∃ ns : List Int, lsOf μ d = some (ns.map D.int) ∧ q (.int ns.sum) μ
  | _ => False
theorem l_sum : LRA X.K (rSum X.K) dSum := by
  intro xs H Q ds μ q r m fin h
  unfold dSum at h
  split at h
  · obtain ⟨v, w, rfl, r1, rfl⟩ := r
    obtain ⟨ns, hn, h⟩ := h
    obtain ⟨a, vs, rfl, hs, rv⟩ := lsOf_ok r1 m hn
    cases RDs.of_ints rv
    exact ⟨a, ns, rfl, hs, fin.int m h⟩
  · exact h.elim
def dMaxL (ds : List D) (μ : Sto) (q : DK) : Prop := match ds with
  | [d] => ∃ ns : List Int, lsOf μ d = some (ns.map D.int) ∧ 0 < ns.length ∧ ∀ n, n ∈ ns → (∀ y ∈ ns, y ≤ n) → q (.int n) μ
  | _ => False
theorem l_maxL : LRA X.K (rMax X.K) dMaxL := by
  intro xs H Q ds μ q r m fin h
  unfold dMaxL at h
  split at h
  · obtain ⟨v, w, rfl, r1, rfl⟩ := r
    obtain ⟨ns, hn, hl, h⟩ := h
    obtain ⟨a, vs, rfl, hs, rv⟩ := lsOf_ok r1 m hn
    cases RDs.of_ints rv
    exact ⟨a, ns, rfl, hs, hl, fun n h1 h2 => fin.int m (h n h1 h2)⟩
  · exact h.elim
def dAll (ds : List D) (μ : Sto) (q : DK) : Prop := match ds with
  | [d] => ∃ bs : List Bool, lsOf μ d = some (bs.map D.bl) ∧ q (.bl (bs.all _root_.id)) μ
  | _ => False
theorem l_all : LRA X.K (rAll X.K) dAll := by
  intro xs H Q ds μ q r m fin h
  unfold dAll at h
  split at h
  · obtain ⟨v, w, rfl, r1, rfl⟩ := r
    obtain ⟨ns, hn, h⟩ := h
    obtain ⟨a, vs, rfl, hs, rv⟩ := lsOf_ok r1 m hn
    cases RDs.of_bls rv
    exact ⟨a, ns, rfl, hs, fin.bl m h⟩
  · exact h.elim
def dAny (ds : List D) (μ : Sto) (q : DK) : Prop := match ds with
  | [d] => ∃ bs : List Bool, lsOf μ d = some (bs.map D.bl) ∧ q (.bl (bs.any _root_.id)) μ
  | _ => False
theorem l_any : LRA X.K (rAny X.K) dAny := by
  intro xs H Q ds μ q r m fin h
  unfold dAny at h
  split at h
  · obtain ⟨v, w, rfl, r1, rfl⟩ := r
    obtain ⟨ns, hn, h⟩ := h
    obtain ⟨a, vs, rfl, hs, rv⟩ := lsOf_ok r1 m hn
    cases RDs.of_bls rv
    exact ⟨a, ns, rfl, hs, fin.bl m h⟩
  · exact h.elim
/-- tuple(a list), tuple(a row) -/
def dTupC (ds : List D) (μ : Sto) (q : DK) : Prop := match ds with
  | [.tup xs] => q (.tup xs) μ
  | [d] => ∃ xs, lsOf μ d = some xs ∧ q (.tup xs) μ
  | _ => False
def rTupC (K : PySem.W.Frag) : List V → Hp → VK → Prop := fun xs H Q => ∃ p ys, xs = [.ref p] ∧ ((SqL K H p ys ∧ ∀ l, H l = none → Q (.ref l) (upd H l (.tup ys))) ∨ (SqT K H p ys ∧ Q (.ref p) H))
theorem l_tupC : LRA X.K (rTupC X.K) dTupC := by
  intro xs H Q ds μ q r m fin h
  unfold dTupC at h
  split at h
  · rename_i ys
    obtain ⟨v, w, rfl, r1, rfl⟩ := r
    obtain ⟨a, vs, rfl, ht, rv, hk⟩ := r1
    exact ⟨a, vs, rfl, .inr ⟨ht, fin _ H (.tup ys) μ (.refl H) ⟨a, vs, rfl, ht, rv, hk⟩ m h⟩⟩
  · obtain ⟨v, w, rfl, r1, rfl⟩ := r
    obtain ⟨ys, hn, h⟩ := h
    obtain ⟨a, vs, rfl, hs, rv⟩ := lsOf_ok r1 m hn
    exact ⟨a, vs, rfl, .inl ⟨hs, fun p hp => fin _ _ (.tup ys) μ (.new hp) (.newT hp rv) (m.new hp) h⟩⟩
  · exact h.elim
/-- list(a list), list(a row) -/
def dLstC (ds : List D) (μ : Sto) (q : DK) : Prop := match ds with
  | [.tup xs] => ∀ p, μ p = none → q (.ref p) (set μ p (.lst xs))
  | [d] => ∃ xs, lsOf μ d = some xs ∧ ∀ p, μ p = none → q (.ref p) (set μ p (.lst xs))
  | _ => False
theorem l_lstC : LRA X.K (fun xs H Q => ∃ p ys, xs = [.ref p] ∧ (SqL X.K H p ys ∨ SqT X.K H p ys) ∧ ∀ l, H l = none → Q (.ref l) (upd H l (.lst ys))) dLstC := by
  intro xs H Q ds μ q r m fin h
  unfold dLstC at h
  split at h
  · rename_i ys
    obtain ⟨v, w, rfl, r1, rfl⟩ := r
    obtain ⟨a, vs, rfl, ht, rv, hk⟩ := r1
    exact ⟨a, vs, rfl, .inr ht, fun p hp => fin _ _ (.ref p) _ (.new hp) rfl (m.put (o := .lst ys) (.new hp) ⟨_, rfl, rv.ext (.new hp)⟩) (h p (m.free hp))⟩
  · obtain ⟨v, w, rfl, r1, rfl⟩ := r
    obtain ⟨ys, hn, h⟩ := h
    obtain ⟨a, vs, rfl, hs, rv⟩ := lsOf_ok r1 m hn
    exact ⟨a, vs, rfl, .inl hs, fun p hp => fin _ _ (.ref p) _ (.new hp) rfl (m.put (o := .lst ys) (.new hp) ⟨_, rfl, rv.ext (.new hp)⟩) (h p (m.free hp))⟩
  · exact h.elim
/-- join of texts -/
def dJoin (x : D) (xs : List D) (μ : Sto) (q : DK) : Prop := match x, xs with
  | .str a, [.tup ds] => ∃ ys : List Str, ds = ys.map D.str ∧ (ys.map (·.length)).sum + ys.length * a.length ≤ 16777216 ∧ q (.str (Txt.join a ys)) μ
  | .str a, [d] => ∃ ys : List Str, lsOf μ d = some (ys.map D.str) ∧ (ys.map (·.length)).sum + ys.length * a.length ≤ 16777216 ∧ q (.str (Txt.join a ys)) μ
  | _, _ => False
def rJoin (K : PySem.W.Frag) : V → List V → Hp → VK → Prop := fun x xs H Q => ∃ a p, ∃ ys : List Str, x = .str a ∧ xs = [.ref p] ∧ (SqL K H p (ys.map V.str) ∨ SqT K H p (ys.map V.str)) ∧ (ys.map (·.length)).sum + ys.length * a.length ≤ 16777216 ∧ Q (.str (Txt.join a ys)) H
theorem l_join : LRM X.K (rJoin X.K) dJoin := by
  intro x xs H Q dx ds μ q rx rv m fin h
  unfold dJoin at h
  split at h
  · rename_i a es
    cases (show x = .str a from rx)
    obtain ⟨v, w, rfl, r1, rfl⟩ := rv
    obtain ⟨p, vs, rfl, ht, rv, _⟩ := r1
    obtain ⟨ys, rfl, hz, h⟩ := h
    cases RDs.of_texts rv
    exact ⟨a, p, ys, rfl, rfl, .inr ht, hz, fin.str m h⟩
  · rename_i a d _
    cases (show x = .str a from rx)
    obtain ⟨v, w, rfl, r1, rfl⟩ := rv
    obtain ⟨ys, hn, hz, h⟩ := h
    obtain ⟨p, vs, rfl, hs, rv⟩ := lsOf_ok r1 m hn
    cases RDs.of_texts rv
    exact ⟨a, p, ys, rfl, rfl, .inl hs, hz, fin.str m h⟩
  · exact h.elim
/-- {} -/
def dNewT : DTE := fun _ μ q => ∀ p, μ p = none → q (.ref p) (set μ p (.dT []))
def dNewK : DTE := fun _ μ q => ∀ p, μ p = none → q (.ref p) (set μ p (.dK []))
theorem qe_newT {pos : Pos} : QE X (.Dict [] [] pos) dNewT := ⟨PE.imp pe_dnewT fun σ H Q ⟨Γ, μ, q, h1, h2, h3, h4⟩ p hp => h3 _ _ (.ref p) _ (.new hp) rfl (h2.put (o := .dT []) (.new hp) ⟨[], rfl, rfl⟩) (h4 p (h2.free hp))⟩
theorem qe_newK {pos : Pos} : QE X (.Dict [] [] pos) dNewK := ⟨PE.imp pe_dnewK fun σ H Q ⟨Γ, μ, q, h1, h2, h3, h4⟩ p hp => h3 _ _ (.ref p) _ (.new hp) rfl (h2.put (o := .dK []) (.new hp) ⟨[], rfl, rfl⟩) (h4 p (h2.free hp))⟩
end
end DL

/-! DI: what is made and not written later; locked dicts walked; pairs walked. -/
namespace DL
open PySem PySem.Spec PyProof.Rows L2
section
variable {X : Cx}
/-! ### frozen forms -/
/-- behind an expression: the object it gives may be frozen -/
theorem pe_fzo {e : Expr} {t : TE} (h : PE X e t) : PE X e (fun σ H Q => t σ H fun v H1 => Q v H1 ∨ ∃ a u, v = .ref a ∧ H1 a = some u ∧ Mut (some u) ∧ ∀ o, Q v (upd H1 a (.frz o u))) := by
  refine ⟨fun pins s σ H Q I hw => ?_⟩
  refine thn (h.run pins s σ H _ I hw) fun v s1 ⟨x, H1, I1, r1, q⟩ => ?_
  rcases q with q | ⟨a, u, ex, ha, mu, q⟩
  · exact ⟨x, H1, I1, r1, q⟩
  · obtain ⟨od, I2⟩ := I1.lock ha mu
    exact ⟨x, _, I2, r1, q od⟩
/-- a fresh list is known: it is frozen at once, or kept -/
def dFzo (t : DTE) : DTE := fun Γ μ q => t Γ μ fun d μ1 => q d μ1 ∨ ∃ a ds μ2, d = .ref a ∧ μ1 a = some (.lst ds) ∧ Sub μ2 μ1 ∧ μ2 a = none ∧ q (.fl ds) μ2
theorem qe_fzo {e : Expr} {t : DTE} (h : QE X e t) : QE X e (dFzo t) := ⟨PE.imp (pe_fzo h.r) fun σ H Q h => by
  obtain ⟨Γ, μ, q, h1, h2, h3, h4⟩ := h
  refine ⟨Γ, μ, _, h1, h2, fun v H1 d μ1 e1 r1 m1 h5 => ?_, h4⟩
  rcases h5 with h5 | h5
  · exact .inl (h3 _ _ _ _ e1 r1 m1 h5)
  obtain ⟨a, ds, μ2, rfl, ha, hs, hn, h6⟩ := h5
  obtain ⟨u, hu, vs, rfl, rv⟩ := m1 a _ ha
  refine .inr ⟨a, _, r1, hu, trivial, fun o => ?_⟩
  have ex : Ext H1 (upd H1 a (.frz o (.lst vs))) := .mut hu id
  refine h3 _ _ (.fl ds) μ2 (e1.trans ex) ⟨a, vs, r1, ⟨o, upd_same⟩, rv.ext ex⟩ (fun b ob hb => ?_) h6
  have hb1 := hs b ob hb
  obtain ⟨w, hw, rw'⟩ := m1 b ob hb1
  have ne : b ≠ a := fun z => by subst z; rw [hn] at hb; cases hb
  exact ⟨w, by rw [upd_ne ne]; exact hw, rw'.ext ex⟩⟩
theorem fz_new {q : DK} {μ : Sto} {ds : List D} (h : q (.fl ds) μ) : ∀ p, μ p = none → ∃ a es μ2, D.ref p = .ref a ∧ set μ p (.lst ds) a = some (.lst es) ∧ Sub μ2 (set μ p (.lst ds)) ∧ μ2 a = none ∧ q (.fl es) μ2 :=
  fun p hp => ⟨p, ds, μ, rfl, set_same, .new hp, hp, h⟩
/-- x + y, a list that comes is not written later -/
def dAddF (x y : D) (μ : Sto) (q : DK) : Prop := match x, y with
  | .int i, .int j => q (.int (i + j)) μ
  | .str a, .str b => a.length + b.length ≤ sizeLine ∧ q (.str (a ++ b)) μ
  | .tup xs, .tup ys => xs.length + ys.length ≤ sizeLine ∧ q (.tup (xs ++ ys)) μ
  | x, y => ∃ xs ys, exOf μ x = some xs ∧ exOf μ y = some ys ∧ xs.length + ys.length ≤ sizeLine ∧ q (.fl (xs ++ ys)) μ
theorem addF_add {x y : D} {μ : Sto} {q : DK} (h : dAddF x y μ q) : dAdd x y μ fun d μ1 => q d μ1 ∨ ∃ a ds μ2, d = .ref a ∧ μ1 a = some (.lst ds) ∧ Sub μ2 μ1 ∧ μ2 a = none ∧ q (.fl ds) μ2 := by
  unfold dAddF at h
  unfold dAdd
  split at h
  · exact .inl h
  · exact ⟨h.1, .inl h.2⟩
  · exact ⟨h.1, .inl h.2⟩
  · obtain ⟨xs, ys, ex, ey, hz, h⟩ := h
    cases x <;> cases y <;> first | (cases ex; done) | (cases ey; done) | exact ⟨xs, ys, ex, ey, hz, fun p hp => .inr (fz_new h p hp)⟩
end
section
variable {X : Cx} {a b : Expr} {pos : Pos}
/-- an operation on values, its answer frozen where it may be -/
theorem qe_opF {op : Operator} {r : R2} {rd rf : D → D → Sto → DK → Prop} {ta tb : DTE} (ho : OpR X (binaryOp op) r) (hr : LR2 X.K r rd) (hf : ∀ x y μ q, rf x y μ q → rd x y μ fun d μ1 => q d μ1 ∨ ∃ a ds μ2, d = .ref a ∧ μ1 a = some (.lst ds) ∧ Sub μ2 μ1 ∧ μ2 a = none ∧ q (.fl ds) μ2)
    (ha : QE X a ta) (hb : QE X b tb) : QE X (.BinOp a op b pos) (dOp rf ta tb) := ⟨PE.imp (pe_fzo (pe_op ho ha.r hb.r)) fun σ H Q h => by
  obtain ⟨Γ, μ, q, h1, h2, h3, h4⟩ := h
  refine ⟨Γ, μ, _, h1, h2, fun x H1 dx μ1 e1 r1 m1 h5 => ?_, h4⟩
  refine ⟨Γ, μ1, _, h1.ext e1, m1, fun y H2 dy μ2 e2 r2 m2 h6 => ?_, h5⟩
  refine hr x y H2 _ dx dy μ2 _ (r1.ext e2) r2 m2 (fun v H3 d μ3 e3 r3 m3 h7 => ?_) (hf _ _ _ _ h6)
  have e03 := (e1.trans e2).trans e3
  rcases h7 with h7 | ⟨p, ds, μ4, rfl, hp, hs, hn, h7⟩
  · exact .inl (h3 _ _ _ _ e03 r3 m3 h7)
  obtain ⟨u, hu, vs, rfl, rv⟩ := m3 p _ hp
  refine .inr ⟨p, _, r3, hu, trivial, fun o => ?_⟩
  have ex : Ext H3 (upd H3 p (.frz o (.lst vs))) := .mut hu id
  refine h3 _ _ (.fl ds) μ4 (e03.trans ex) ⟨p, vs, r3, ⟨o, upd_same⟩, rv.ext ex⟩ (fun b ob hb => ?_) h7
  obtain ⟨w, hw, rw'⟩ := m3 b ob (hs b ob hb)
  have ne : b ≠ p := fun z => by subst z; rw [hn] at hb; cases hb
  exact ⟨w, by rw [upd_ne ne]; exact hw, rw'.ext ex⟩⟩
theorem qe_addF {ta tb : DTE} (ha : QE X a ta) (hb : QE X b tb) : QE X (.BinOp a .Add b pos) (dOp dAddF ta tb) := qe_opF op_addA l_add (fun _ _ _ _ h => addF_add h) ha hb
/-- a slice, a list that comes is not written later -/
def dSlvF (x : D) (lo hi : Option Int) (μ : Sto) (q : DK) : Prop := match x with
  | .tup xs => q (.tup (cutD xs lo hi)) μ
  | .str z => z.length ≤ sizeLine ∧ q (.str (cutS z lo hi)) μ
  | x => ∃ xs, lsOf μ x = some xs ∧ q (.fl (cutD xs lo hi)) μ
def dSlF (t : DTE) (tl th : DTO) : DTE := fun Γ μ q => t Γ μ fun x μ1 => tl Γ μ1 fun lo μ2 => th Γ μ2 fun hi μ3 => dSlvF x lo hi μ3 q
theorem pe_lift_fz {e : Expr} {t : TE} {td : DTE} (h : PE X e t) (hl : ∀ σ H Q, (∃ Γ μ q, RS X.K H σ Γ ∧ RH X.K H μ ∧ Fin X.K H (fun d μ1 => q d μ1 ∨ ∃ a ds μ2, d = .ref a ∧ μ1 a = some (.lst ds) ∧ Sub μ2 μ1 ∧ μ2 a = none ∧ q (.fl ds) μ2) Q ∧ td Γ μ q) → t σ H Q) : QE X e td := ⟨PE.imp (pe_fzo h) fun σ H Q h => by
  obtain ⟨Γ, μ, q, h1, h2, h3, h4⟩ := h
  refine hl _ _ _ ⟨Γ, μ, q, h1, h2, fun v H3 d μ3 e3 r3 m3 h7 => ?_, h4⟩
  rcases h7 with h7 | ⟨p, ds, μ4, rfl, hp, hs, hn, h7⟩
  · exact .inl (h3 _ _ _ _ e3 r3 m3 h7)
  obtain ⟨u, hu, vs, rfl, rv⟩ := m3 p _ hp
  refine .inr ⟨p, _, r3, hu, trivial, fun o => ?_⟩
  have ex : Ext H3 (upd H3 p (.frz o (.lst vs))) := .mut hu id
  refine h3 _ _ (.fl ds) μ4 (e3.trans ex) ⟨p, vs, r3, ⟨o, upd_same⟩, rv.ext ex⟩ (fun b ob hb => ?_) h7
  obtain ⟨w, hw, rw'⟩ := m3 b ob (hs b ob hb)
  have ne : b ≠ p := fun z => by subst z; rw [hn] at hb; cases hb
  exact ⟨w, by rw [upd_ne ne]; exact hw, rw'.ext ex⟩⟩
theorem qe_sliceF {e : Expr} {lo hi : Option Expr} {p2 : Pos} {t : DTE} {tl th : DTO} (he : QE X e t) (hl : QO X lo tl) (hh : QO X hi th) : QE X (.Subscript e (.Slice lo hi none p2) pos) (dSlF t tl th) :=
  pe_lift_fz (pe_slice sl_all he.r hl.r hh.r) fun σ H Q ⟨Γ, μ, q, h1, h2, h3, h4⟩ => by
    refine ⟨Γ, μ, _, h1, h2, fun x H1 dx μ1 e1 r1 m1 h5 => ?_, h4⟩
    refine ⟨Γ, μ1, _, h1.ext e1, m1, fun lo H2 μ2 e2 m2 h6 => ?_, h5⟩
    refine ⟨Γ, μ2, _, h1.ext (e1.trans e2), m2, fun hi H3 μ3 e3 m3 h7 => ?_, h6⟩
    refine l_sl (r1.ext (e2.trans e3)) m3 (h3.ext (e1.trans (e2.trans e3))) ?_
    unfold dSlvF at h7
    unfold dSlv
    split at h7
    · exact .inl h7
    · exact ⟨h7.1, .inl h7.2⟩
    · obtain ⟨xs, hx, h7⟩ := h7
      cases x <;> first | (cases hx; done) | exact ⟨xs, hx, fun p hp => .inr (fz_new h7 p hp)⟩
theorem qe_lstF {es : List Expr} {t : DTA} (h : QA X es t) : QE X (.List es pos) (dLstF t) :=
  pe_lift_fz (pe_lst h.r) fun σ H Q ⟨Γ, μ, q, h1, h2, h3, h4⟩ => by
    refine ⟨Γ, μ, _, h1, h2, fun vs H1 ds μ1 e1 r1 m1 h5 => ?_, h4⟩
    refine ⟨by rw [r1.len]; exact h5.1, fun p hp => ?_⟩
    exact h3 _ _ (.ref p) _ (e1.trans (.new hp)) rfl (m1.put (o := .lst ds) (.new hp) ⟨vs, rfl, r1.ext (.new hp)⟩) (.inr (fz_new h5.2 p (m1.free hp)))

/-! ### a name's list is not written any more -/
def dFzN (i : Nat) (t : DTS) : DTS := fun d Γ μ => t { d with nx := fun Γ1 μ1 => ∃ a ds μ2, Γ1[i]? = some (some (.ref a)) ∧ μ1 a = some (.lst ds) ∧ Sub μ2 μ1 ∧ μ2 a = none ∧ d.nx (Γ1.set i (some (.fl ds))) μ2 } Γ μ
theorem ps_fzn {st : Stmt} {i : Nat} {t : TS} (h : PS X st t) : PS X st (fun D σ H => t { D with nx := fun σ' H1 => ∃ a u, σ'[i]? = some (some (.ref a)) ∧ H1 a = some u ∧ Mut (some u) ∧ ∀ o, D.nx σ' (upd H1 a (.frz o u)) } σ H) := by
  refine ⟨fun pins s σ H D I hw => ?_⟩
  refine thn (h.run pins s σ H _ I hw) fun f s1 q => ?_
  cases f with
  | next =>
    obtain ⟨σ', H1, I1, a, u, _, ha, mu, q⟩ := q
    obtain ⟨od, I2⟩ := I1.lock ha mu
    exact ⟨σ', _, I2, q od⟩
  | brk => exact q
  | cont => exact q
  | ret v => exact q
theorem qs_fzn {st : Stmt} {i : Nat} {t : DTS} (h : QS X st t) : QS X st (dFzN i t) := ⟨PS.imp (ps_fzn (i := i) h.r) fun D σ H ⟨Γ, μ, d, h1, h2, h3, h4⟩ => by
  refine ⟨Γ, μ, { d with nx := fun Γ1 μ1 => ∃ a ds μ2, Γ1[i]? = some (some (.ref a)) ∧ μ1 a = some (.lst ds) ∧ Sub μ2 μ1 ∧ μ2 a = none ∧ d.nx (Γ1.set i (some (.fl ds))) μ2 }, h1, h2, ⟨fun σ' H1 Γ1 μ1 e1 r1 m1 h5 => ?_, h3.rt, h3.bk, h3.ct⟩, h4⟩
  obtain ⟨a, ds, μ2, hi, ha, hs, hn, h6⟩ := h5
  obtain ⟨v, hv, rv⟩ := r1.2 i _ hi
  cases (show v = .ref a from rv)
  obtain ⟨u, hu, vs, rfl, rd⟩ := m1 a _ ha
  refine ⟨a, _, hv, hu, trivial, fun o => ?_⟩
  have ex : Ext H1 (upd H1 a (.frz o (.lst vs))) := .mut hu id
  have hσ : σ' = σ'.set i (some (.ref a)) := by
    refine List.ext_getElem? fun j => ?_
    by_cases c : i = j
    · subst c; rw [hv, List.getElem?_set_self (List.getElem?_eq_some_iff.mp hv).1]
    · rw [List.getElem?_set_ne c]
  refine h3.nx σ' _ _ μ2 (e1.trans ex) ?_ (fun b ob hb => ?_) h6
  · rw [hσ]
    exact (r1.ext ex).set i ⟨a, vs, rfl, ⟨o, upd_same⟩, rd.ext ex⟩
  · obtain ⟨w, hw, rw'⟩ := m1 b ob (hs b ob hb)
    have ne : b ≠ a := fun z => by subst z; rw [hn] at hb; cases hb
    exact ⟨w, by rw [upd_ne ne]; exact hw, rw'.ext ex⟩⟩

/-! ### locks -/
def lkd : DO → Option DO
  | .dK k => some (.zK k)
  | .dT k => some (.zT k)
  | _ => none
theorem sqT_unlock {K : PySem.W.Frag} {H : Hp} {d : Addr} {o : Obj} {u : HO} (hd : H d = some (.frz o u)) (hu : ∀ xs, u ≠ .tup xs) {a : Addr} {vs : List V} (h : SqT K H a vs) : SqT K (upd H d u) a vs := by
  rcases h with (h | ⟨b, h⟩) | h
  · exact .inl (.inl (by rw [upd_ne (fun z => by subst z; rw [hd] at h; cases h)]; exact h))
  · exact .inl (.inr ⟨b, by rw [upd_ne (fun z => by subst z; rw [hd] at h; cases h; exact hu _ rfl)]; exact h⟩)
  · exact .inr h
mutual
theorem RD.unlock {K : PySem.W.Frag} {H : Hp} {d : Addr} {o : Obj} {u : HO} (hd : H d = some (.frz o u)) (hu : ∀ xs, u ≠ .tup xs) (hl : ∀ xs, u ≠ .lst xs) : ∀ {x : D} {v : V}, RD K H x v → RD K (upd H d u) x v
  | .non, v, h => h
  | .bl _, v, h => h
  | .int _, v, h => h
  | .str _, v, h => h
  | .ty _, v, h => h
  | .ref _, v, h => h
  | .tup ds, v, h => by
    obtain ⟨a, vs, e1, e2, e3, e4⟩ := h
    exact ⟨a, vs, e1, sqT_unlock hd hu e2, RDs.unlock hd hu hl e3, fun k => by rw [upd_ne (fun z => by subst z; have := e4 k; rw [hd] at this; cases this)]; exact e4 k⟩
  | .fl ds, v, h => by
    obtain ⟨a, vs, e1, ⟨b, e2⟩, e3⟩ := h
    exact ⟨a, vs, e1, ⟨b, by rw [upd_ne (fun z => by subst z; rw [hd] at e2; cases e2; exact hl _ rfl)]; exact e2⟩, RDs.unlock hd hu hl e3⟩
  | .wl ds, v, h => by
    obtain ⟨a, vs, e1, e2, e3⟩ := h
    refine ⟨a, vs, e1, ?_, RDs.unlock hd hu hl e3⟩
    rcases e2 with ⟨b, e2⟩ | e2
    · exact .inl ⟨b, by rw [upd_ne (fun z => by subst z; rw [hd] at e2; cases e2; exact hl _ rfl)]; exact e2⟩
    · exact .inr e2
theorem RDs.unlock {K : PySem.W.Frag} {H : Hp} {d : Addr} {o : Obj} {u : HO} (hd : H d = some (.frz o u)) (hu : ∀ xs, u ≠ .tup xs) (hl : ∀ xs, u ≠ .lst xs) : ∀ {x : List D} {v : List V}, RDs K H x v → RDs K (upd H d u) x v
  | [], _, h => h
  | _ :: _, _, h => by
    obtain ⟨v, r, e1, e2, e3⟩ := h
    exact ⟨v, r, e1, RD.unlock hd hu hl e2, RDs.unlock hd hu hl e3⟩
end
section
variable {K : PySem.W.Frag} {H : Hp} {d : Addr} {o : Obj} {u : HO} {κ : Type}
theorem RKs.unlock (hd : H d = some (.frz o u)) (hu : ∀ xs, u ≠ .tup xs) (hl : ∀ xs, u ≠ .lst xs) : ∀ {x : List (κ × D)} {v : List (κ × V)}, RKs K H x v → RKs K (upd H d u) x v
  | [], _, h => h
  | _ :: _, _, h => by
    obtain ⟨v, r, e1, e2, e3⟩ := h
    exact ⟨v, r, e1, e2.unlock hd hu hl, RKs.unlock hd hu hl e3⟩
theorem RO.unlock (hd : H d = some (.frz o u)) (hu : ∀ xs, u ≠ .tup xs) (hl : ∀ xs, u ≠ .lst xs) {ob : DO} {w : HO} (h : RO K H ob w) : RO K (upd H d u) ob w := by
  cases ob with
  | lst ds => obtain ⟨vs, e1, e2⟩ := h; exact ⟨vs, e1, e2.unlock hd hu hl⟩
  | dK ds => obtain ⟨vs, e1, e2⟩ := h; exact ⟨vs, e1, e2.unlock hd hu hl⟩
  | dT ds => obtain ⟨vs, e1, e2⟩ := h; exact ⟨vs, e1, e2.unlock hd hu hl⟩
  | zK ds => obtain ⟨b, vs, e1, e2⟩ := h; exact ⟨b, vs, e1, e2.unlock hd hu hl⟩
  | zT ds => obtain ⟨b, vs, e1, e2⟩ := h; exact ⟨b, vs, e1, e2.unlock hd hu hl⟩
  | ins C dx ds => obtain ⟨vs, e1, e2⟩ := h; exact ⟨vs, e1, e2.unlock hd hu hl⟩
/-- what is known of a dict, and of the locked one -/
theorem lock_of {μ : Sto} {ob z : DO} (m : RH K H μ) (ha : μ d = some ob) (hz : lkd ob = some z) : ∃ u, H d = some u ∧ Mut (some u) ∧ (∀ xs, u ≠ .tup xs) ∧ (∀ xs, u ≠ .lst xs) ∧ RO K H ob u ∧
    ∀ od, Ext H (upd H d (.frz od u)) ∧ RH K (upd H d (.frz od u)) (set μ d z) := by
  obtain ⟨u, hu, ro⟩ := m d ob ha
  cases ob with
  | dK ds =>
    cases hz
    obtain ⟨vs, rfl, r⟩ := id ro
    refine ⟨_, hu, trivial, fun _ z => (by cases z), fun _ z => (by cases z), ro, fun od => ⟨.mut hu id, m.put (o := .zK ds) (.mut hu id) ⟨od, vs, rfl, r.ext (.mut hu id)⟩⟩⟩
  | dT ds =>
    cases hz
    obtain ⟨vs, rfl, r⟩ := id ro
    refine ⟨_, hu, trivial, fun _ z => (by cases z), fun _ z => (by cases z), ro, fun od => ⟨.mut hu id, m.put (o := .zT ds) (.mut hu id) ⟨od, vs, rfl, r.ext (.mut hu id)⟩⟩⟩
  | _ => cases hz
theorem unlock_of {μ' : Sto} {ob : DO} {H' : Hp} {od : Obj} (hd : H d = some u) (hn : ¬ Per u) (hu : ∀ xs, u ≠ .tup xs) (hl : ∀ xs, u ≠ .lst xs) (ro : RO K H ob u) (e : Ext (upd H d (.frz od u)) H') (m : RH K H' μ') :
    H' d = some (.frz od u) ∧ Ext H (upd H' d u) ∧ RH K (upd H' d u) (set μ' d ob) := by
  have h1 : H' d = some (.frz od u) := e _ _ trivial upd_same
  have ex : Ext H (upd H' d u) := fun a o p q => by
    by_cases c : a = d
    · subst c; rw [hd] at q; cases q; exact absurd p hn
    · rw [upd_ne c]; exact e _ _ p (by rw [upd_ne c]; exact q)
  refine ⟨h1, ex, fun b w hb => ?_⟩
  by_cases c : b = d
  · subst c; rw [set_same] at hb; cases hb; exact ⟨u, upd_same, ro.ext ex⟩
  · rw [set_ne c] at hb
    obtain ⟨v, hv, r⟩ := m b w hb
    exact ⟨v, by rw [upd_ne c]; exact hv, r.unlock h1 hu hl⟩
end
def dLockE (t : DTE) : DTE := fun Γ μ q => ∃ a o z, μ a = some o ∧ lkd o = some z ∧ t Γ (set μ a z) fun d μ' => q d (set μ' a o)
def dLock (t : DTS) : DTS := fun d Γ μ => ∃ a o z, μ a = some o ∧ lkd o = some z ∧ t ⟨fun Γ' μ' => d.nx Γ' (set μ' a o), fun x μ' => d.rt x (set μ' a o), fun Γ' μ' => d.bk Γ' (set μ' a o), fun Γ' μ' => d.ct Γ' (set μ' a o)⟩ Γ (set μ a z)
theorem mut_noper {u : HO} (h : Mut (some u)) : ¬ Per u := by cases u <;> first | exact id | exact h.elim
theorem qe_lock {e : Expr} {t : DTE} (h : QE X e t) : QE X e (dLockE t) := ⟨PE.imp (pe_lock h.r) fun σ H Q ⟨Γ, μ, q, h1, h2, h3, a, ob, z, ha, hz, h4⟩ => by
  obtain ⟨u, hu, mu, n1, n2, ro, hod⟩ := lock_of h2 ha hz
  refine ⟨a, u, hu, mu, fun od => ?_⟩
  obtain ⟨e1, m1⟩ := hod od
  refine ⟨Γ, _, _, h1.ext e1, m1, fun v H' d μ' e2 r2 m2 h5 => ?_, h4⟩
  obtain ⟨k1, k2, k3⟩ := unlock_of hu (mut_noper mu) n1 n2 ro e2 m2
  exact ⟨k1, h3 _ _ d _ k2 (r2.unlock k1 n1 n2) k3 h5⟩⟩
theorem RS.unlock {K : PySem.W.Frag} {H : Hp} {d : Addr} {o : Obj} {u : HO} {σ : L2.St} {Γ : DSt} (hd : H d = some (.frz o u)) (hu : ∀ xs, u ≠ .tup xs) (hl : ∀ xs, u ≠ .lst xs) (h : RS K H σ Γ) : RS K (upd H d u) σ Γ := ⟨h.1, fun i x e => by
  obtain ⟨v, h1, h2⟩ := h.2 i x e
  exact ⟨v, h1, h2.unlock hd hu hl⟩⟩
theorem qs_lock {st : Stmt} {t : DTS} (h : QS X st t) : QS X st (dLock t) := ⟨PS.imp (ps_lock h.r) fun D σ H ⟨Γ, μ, d, h1, h2, h3, a, ob, z, ha, hz, h4⟩ => by
  obtain ⟨u, hu, mu, n1, n2, ro, hod⟩ := lock_of h2 ha hz
  refine ⟨a, u, hu, mu, fun od => ?_⟩
  obtain ⟨e1, m1⟩ := hod od
  have fin : ∀ {q : DSt → Sto → Prop} {Q : L2.St → Hp → Prop}, FinS X.K H q Q → FinS X.K (upd H a (.frz od u)) (fun Γ' μ' => q Γ' (set μ' a ob)) (fun σ' H' => H' a = some (.frz od u) ∧ Q σ' (upd H' a u)) := fun f σ' H' Γ' μ' e2 r2 m2 h5 => by
    obtain ⟨k1, k2, k3⟩ := unlock_of hu (mut_noper mu) n1 n2 ro e2 m2
    exact ⟨k1, f _ _ _ _ k2 (r2.unlock k1 n1 n2) k3 h5⟩
  refine ⟨Γ, _, _, h1.ext e1, m1, ⟨fin h3.nx, fun v H' x μ' e2 r2 m2 h5 => ?_, fin h3.bk, fin h3.ct⟩, h4⟩
  obtain ⟨k1, k2, k3⟩ := unlock_of hu (mut_noper mu) n1 n2 ro e2 m2
  exact ⟨k1, h3.rt _ _ x _ k2 (r2.unlock k1 n1 n2) k3 h5⟩⟩
theorem set_back {μ : Sto} {a : Addr} {o z : DO} (h : μ a = some o) : set (set μ a z) a o = μ := by
  rw [set_set]
  funext b
  unfold set
  by_cases c : b = a
  · rw [if_pos c, c, h]
  · rw [if_neg c]
end
end DL

/-! DJ: lists unpacked, isinstance of several kinds, rows times ints, displays of dicts, sorted keys, texts of data. -/
namespace DL
open PySem PySem.Spec PyProof.Rows L2
section
variable {X : Cx}
/-! ### a, b = a list -/
def dgTupL (n : Nat) (t : DTGs) : DTG := fun d Γ μ q => ∃ ds, lsOf μ d = some ds ∧ ds.length = n ∧ t ds Γ μ q
theorem qg_tupL {es : List Expr} {k : Nat} {pos : Pos} {t : DTGs} {n : Nat} (hc : X.calm = true) (h : QGs X es t) (hn : (assignEach es X.env).length = n := by rfl) (hst : (assignEach es X.env).findIdx? (·.1) = none := by rfl) : QG X (.Tuple es k pos) (dgTupL n t) :=
  ⟨PG.imp (pg_lst hc h.r hn hst) fun v σ H Q ⟨d, Γ, μ, q, r, h1, h2, h3, ds, e, hl, h4⟩ => by
    obtain ⟨a, vs, rfl, hs, rv⟩ := lsOf_ok r h2 e
    exact ⟨a, vs, rfl, hs, by rw [rv.len]; exact hl, ds, Γ, μ, q, rv, h1, h2, h3, h4⟩⟩

/-! ### isinstance(x, (T, U)) -/
def dIsiT (ds : List D) (μ : Sto) (q : DK) : Prop := match ds with
  | [d, .tup cs] => ∃ Ts : List String, cs = Ts.map D.ty ∧ Ts ≠ [] ∧ (∀ T ∈ Ts, T ∈ kinds) ∧ ∃ t, tyD μ d = some t ∧ q (.bl (Ts.any fun T => isK t T)) μ
  | _ => False
theorem RDs.of_tys {K : PySem.W.Frag} {H : Hp} : ∀ {xs : List String} {vs : List V}, RDs K H (xs.map D.ty) vs → vs = xs.map V.ty
  | [], _, h => h
  | x :: xs, _, h => by
    obtain ⟨v, r, e1, e2, e3⟩ := h
    subst e1
    rw [RDs.of_tys e3, show v = .ty x from e2]
    rfl
theorem kl_tys : ∀ {Ts : List String}, Ts ≠ [] → kl (Ts.map D.ty) = true
  | [], h => absurd rfl h
  | T :: Ts, _ => by
    rw [List.map_cons]
    simp [kl]
theorem paired_tys : ∀ {Ts : List String}, Paired ClsV (Ts.map V.ty) (Ts.map Value.type)
  | [] => .nil
  | T :: _ => .cons (.ty T) paired_tys
theorem kitAny_tys {K : PySem.W.Frag} {t : String} (ht : t ∈ kinds) : ∀ {Ts : List String}, (∀ T ∈ Ts, T ∈ kinds) → PySem.W.kitAny K (.type t) (Ts.map Value.type) = some (Ts.any fun T => isK t T)
  | [], _ => kitAny_nil
  | T :: Ts, h => by
    have ih := kitAny_tys (K := K) ht (Ts := Ts) fun x hx => h x (List.mem_cons_of_mem _ hx)
    refine kitAny_cons (kit_ty (isK_ok ht (h T List.mem_cons_self))) (fun e => ?_) fun e => ?_
    · rw [ih, List.any_cons, e, Bool.false_or]
    · rw [List.any_cons, e, Bool.true_or]
theorem l_isiT : LRA X.K (rIsiT X.K) dIsiT := by
  intro xs H Q ds μ q r m fin h
  unfold dIsiT at h
  split at h
  · rename_i d cs
    obtain ⟨v, w1, rfl, r1, v2, w2, rfl, r2, rfl⟩ := r
    obtain ⟨Ts, rfl, hne, hT, t, ht, h⟩ := h
    obtain ⟨a, vs, rfl, _, rv, hk⟩ := r2
    have := hk (kl_tys hne)
    rw [RDs.of_tys rv] at this
    exact ⟨v, a, _, .type t, _, _, rfl, this, paired_tys, tyD_ok r1 m ht, kitAny_tys (tyD_mem ht) hT, fin.bl m h⟩
  · exact h.elim

/-! ### a row times an int -/
def dRepT (x y : D) (μ : Sto) (q : DK) : Prop := match x, y with
  | .tup xs, .int k => xs ≠ [] ∧ (2 ≤ k ∧ k ≤ 1000) ∧ xs.length ≤ 1000 ∧ q (.tup (List.replicate k.toNat xs).flatten) μ
  | _, _ => False
theorem RDs.rep {K : PySem.W.Frag} {H : Hp} {ds : List D} {vs : List V} (r : RDs K H ds vs) : ∀ n : Nat, RDs K H (List.replicate n ds).flatten (List.replicate n vs).flatten
  | 0 => rfl
  | n + 1 => by
    rw [List.replicate_succ, List.replicate_succ, List.flatten_cons, List.flatten_cons]
    exact r.app (RDs.rep r n)
theorem l_repT : LR2 X.K (rRepT X.K) dRepT := by
  intro x y H Q dx dy μ q rx ry m fin h
  unfold dRepT at h
  split at h
  · rename_i xs k
    obtain ⟨hne, hk, hl, h⟩ := h
    obtain ⟨a, vs, rfl, ht, rv, _⟩ := rx
    cases (show y = .int k from ry)
    refine ⟨a, k, vs, rfl, rfl, ht, fun e => hne ?_, hk.1, hk.2, by rw [rv.len]; exact hl, fun p hp => fin _ _ (.tup _) μ (.new hp) (.newT hp (rv.rep _)) (m.new hp) h⟩
    refine List.eq_nil_of_length_eq_zero ?_
    rw [← rv.len, e]
    rfl
  · exact h.elim

/-! ### {k: v}, one pair -/
def dDisp1 (tk tv : DTE) : DTE := fun Γ μ q => ∀ p, μ p = none → tk Γ (set μ p (.dK [])) fun k μ1 => tv Γ μ1 fun d μ2 => μ2 p = some (.dK []) ∧ ∃ κ, keyOf k = some κ ∧ q (.ref p) (set μ2 p (.dK [(κ, d)]))
theorem qe_disp1 {k v : Expr} {pos : Pos} {tk tv : DTE} (hk : QE X k tk) (hv : QE X v tv) : QE X (.Dict [some k] [v] pos) (dDisp1 tk tv) :=
  ⟨PE.imp (pe_disp (pps_cons hk.r hv.r pps_nil) rfl rfl (by simp) (by simp)) fun σ H Q ⟨Γ, μ, q, h1, h2, h3, h4⟩ p hp => by
    have e0 : Ext H (upd H p (.dK [])) := .new hp
    refine ⟨Γ, _, _, h1.ext e0, h2.put (o := .dK []) e0 ⟨[], rfl, rfl⟩, fun x H1 dx μ1 e1 r1 m1 h5 => ?_, h4 p (h2.free hp)⟩
    refine ⟨Γ, μ1, _, h1.ext (e0.trans e1), m1, fun y H2 dy μ2 e2 r2 m2 h6 => ?_, h5⟩
    obtain ⟨ha, κ, hκ, h7⟩ := h6
    obtain ⟨u, hu, vs, rfl, rv⟩ := m2 p _ ha
    cases rv
    have ex : Ext H2 (upd H2 p (.dK [(κ, y)])) := .mut hu id
    refine ⟨hu, [(κ, y)], by rw [keyOf_ok (r1.ext e2) hκ]; rfl, by simp, ?_⟩
    exact h3 _ _ (.ref p) _ ((e0.trans e1).trans (e2.trans ex)) rfl (m2.put (o := .dK [(κ, dy)]) ex ⟨_, rfl, y, [], rfl, r2.ext ex, rfl⟩) h7⟩

/-! ### the text of data -/
end
def mapO {α : Type} (f : D → Option α) : List D → Option (List α)
  | [] => some []
  | d :: ds => match f d, mapO f ds with
    | some x, some xs => some (x :: xs)
    | _, _ => none
/-- data, lists at addresses read, n deep at most -/
def pyM (μ : Sto) : Nat → D → Option PyData
  | 0, _ => none
  | n + 1, d => match d with
    | .non => some .none
    | .bl b => some (.bool b)
    | .int i => some (.int i)
    | .str x => some (.str x)
    | .tup ds => (mapO (pyM μ n) ds).map .tuple
    | .fl ds => (mapO (pyM μ n) ds).map .list
    | .wl ds => (mapO (pyM μ n) ds).map .list
    | .ref a => match μ a with
      | some (.lst ds) => (mapO (pyM μ n) ds).map .list
      | _ => none
    | .ty _ => none
section
variable {K : PySem.W.Frag} {H : Hp} {μ : Sto}
theorem dps_mapO {f : D → Option PyData} (hf : ∀ d v p, RD K H d v → f d = some p → Dp K H v p) : ∀ {ds : List D} {vs : List V} {ps : List PyData}, RDs K H ds vs → mapO f ds = some ps → DpAll K H vs ps
  | [], _, ps, r, e => by cases e; cases (show _ = [] from r); exact .nil
  | d :: ds, _, ps, r, e => by
    obtain ⟨v, w, rfl, r1, r2⟩ := r
    unfold mapO at e
    split at e
    · rename_i x xs e1 e2
      cases e
      exact .cons (hf _ _ _ r1 e1) (dps_mapO hf r2 e2)
    · cases e
theorem dp_pyM (m : RH K H μ) : ∀ (n : Nat) (d : D) (v : V) (p : PyData), RD K H d v → pyM μ n d = some p → Dp K H v p
  | 0, _, _, _, _, e => by cases e
  | n + 1, d, v, p, r, e => by
    unfold pyM at e
    split at e
    · cases e; rw [show v = .non from r]; exact .non
    · cases e; rw [show v = _ from r]; exact .bl _
    · cases e; rw [show v = _ from r]; exact .int _
    · cases e; rw [show v = _ from r]; exact .str _
    · obtain ⟨a, vs, rfl, h, rv, _⟩ := r
      obtain ⟨ps, hp, rfl⟩ := Option.map_eq_some_iff.mp e
      exact .tup h (dps_mapO (dp_pyM m n) rv hp)
    · obtain ⟨a, vs, rfl, ⟨o, h⟩, rv⟩ := r
      obtain ⟨ps, hp, rfl⟩ := Option.map_eq_some_iff.mp e
      exact .lst (.inl (.inr ⟨o, h⟩)) (dps_mapO (dp_pyM m n) rv hp)
    · obtain ⟨a, vs, rfl, h, rv⟩ := r
      obtain ⟨ps, hp, rfl⟩ := Option.map_eq_some_iff.mp e
      exact .lst h.l (dps_mapO (dp_pyM m n) rv hp)
    · rename_i a
      rw [show v = .ref a from r]
      split at e
      · rename_i ds ha
        obtain ⟨u, hu, vs, rfl, rv⟩ := m a _ ha
        obtain ⟨ps, hp, rfl⟩ := Option.map_eq_some_iff.mp e
        exact .lst (.of hu) (dps_mapO (dp_pyM m n) rv hp)
      · cases e
    · cases e
end
theorem nodicts_mapO {f : D → Option PyData} (hf : ∀ d p, f d = some p → p.hasDict = false) : ∀ {ds : List D} {ps : List PyData}, mapO f ds = some ps → PyData.hasDictAll ps = false
  | [], ps, e => by cases e; rfl
  | d :: ds, ps, e => by
    unfold mapO at e
    split at e
    · rename_i x xs e1 e2
      cases e
      rw [PyData.hasDictAll, hf _ _ e1, nodicts_mapO hf e2]
      rfl
    · cases e
theorem nodict_pyM {μ : Sto} : ∀ (n : Nat) (d : D) (p : PyData), pyM μ n d = some p → p.hasDict = false
  | 0, _, _, e => by cases e
  | n + 1, d, p, e => by
    unfold pyM at e
    split at e
    all_goals first
      | (cases e; done)
      | (cases e; simp [PyData.hasDict]; done)
      | (obtain ⟨ps, hp, rfl⟩ := Option.map_eq_some_iff.mp e; rw [PyData.hasDict]; exact nodicts_mapO (nodict_pyM n) hp)
      | (split at e
         · obtain ⟨ps, hp, rfl⟩ := Option.map_eq_some_iff.mp e
           rw [PyData.hasDict]
           exact nodicts_mapO (nodict_pyM n) hp
         · cases e)
section
variable {X : Cx}
def rStrD (K : PySem.W.Frag) : List V → Hp → VK → Prop := fun xs H Q =>
  (((∃ i, xs = [.int i] ∧ i.natAbs.log2 < 1920 ∧ Q (.str (toString i)) H) ∨ (∃ z, xs = [.str z] ∧ Q (.str z) H)) ∨ (xs = [.non] ∧ Q (.str "None") H)) ∨
    ((∃ a p, xs = [.ref a] ∧ Dp K H (.ref a) p ∧ p.showable = true ∧ p.hasDict = false ∧ p.depth ≤ 40 ∧ p.shown.length ≤ sizeLine ∧ Q (.str p.shown) H) ∨ ∃ a, xs = [.ref a] ∧ H a = some (.dK []) ∧ Q (.str "{}") H)
theorem call_strD (hg : X.A.guards = some []) (hu : X.A.units + 64 < cLine) : CallR X (.type "str") (rStrD X.K) := by
  intro pins s σ H xs us Q I r h
  rcases h with ((h | ⟨z, rfl, q⟩) | ⟨rfl, q⟩) | (⟨a, p, rfl, dp, hs, hn, hd, hz, q⟩ | ⟨a, rfl, ha, q⟩)
  · exact call_str_int pins s σ H xs us Q I r h
  · obtain ⟨u, rfl, t, rfl⟩ := vals1 r
    exact PySem.P.str_of_str ⟨.str z, H, I, ⟨_, rfl⟩, q⟩
  · obtain ⟨u, rfl, r1⟩ := vals1 r
    cases r1
    exact PySem.P.str_of_none ⟨.str _, H, I.tok _, ⟨_, rfl⟩, q⟩
  · obtain ⟨u, rfl, r1⟩ := vals1 r
    obtain ⟨as, rd⟩ := dp.reads I _ _ u r1
    cases (show u = Value.ref a from r1)
    exact str_of_reads rd hs (PyData.noDict_hsm hn) hg (by omega) (fun _ _ e => e) (fun h' u tk hk => ⟨.str _, H, I.kept (t' := tk) hk, ⟨u, rfl⟩, q⟩) hz
  · obtain ⟨u, rfl, r1⟩ := vals1 r
    cases (show u = Value.ref a from r1)
    obtain ⟨_, hsys, vs, rel, dof⟩ := dk_of I.hok ha
    cases rel
    obtain ⟨ep, o, es, ho, hx, hdat, hr⟩ := dof.dictAt
    have l1 := hr.2.1.length
    have he : es.toList = [] := List.eq_nil_of_length_eq_zero (by simpa using l1)
    have rd : Reads s.heap (.ref a) (.dict []) (a :: [] ++ []) := .dict ho hx.1 hdat (by rw [he]; exact .nil) (by rw [he]; exact .nil)
    refine str_of_reads rd (by simp [PyData.showable, PyData.showableKv]) (fun _ hm => ?_) hg (by simp only [PyData.depth, PyData.depthKv]; omega) (fun _ _ e => e) (fun h' u tk hk => ⟨.str _, H, I.kept (t' := tk) hk, ⟨u, rfl⟩, ?_⟩) (by decide +kernel)
    · have : sysModules = a := by simpa using hm
      rw [this] at hsys
      simp at hsys
    · exact q
def isBox : D → Bool
  | .tup _ => true
  | .fl _ => true
  | .wl _ => true
  | .ref _ => true
  | _ => false
theorem isBox_ok {K : PySem.W.Frag} {H : Hp} {d : D} {v : V} (r : RD K H d v) (h : isBox d = true) : ∃ a, v = .ref a := by
  cases d with
  | tup _ => obtain ⟨a, _, rfl, _⟩ := r; exact ⟨a, rfl⟩
  | fl _ => obtain ⟨a, _, rfl, _⟩ := r; exact ⟨a, rfl⟩
  | wl _ => obtain ⟨a, _, rfl, _⟩ := r; exact ⟨a, rfl⟩
  | ref a => exact ⟨a, r⟩
  | _ => cases h
def dStr (ds : List D) (μ : Sto) (q : DK) : Prop := match ds with
  | [.int i] => i.natAbs.log2 < 1920 ∧ q (.str (toString i)) μ
  | [.str z] => q (.str z) μ
  | [.non] => q (.str "None") μ
  | [d] => (isBox d = true ∧ ∃ n p, pyM μ n d = some p ∧ p.showable = true ∧ p.depth ≤ 40 ∧ p.shown.length ≤ sizeLine ∧ q (.str p.shown) μ) ∨ ∃ a, d = .ref a ∧ μ a = some (.dK []) ∧ q (.str "{}") μ
  | _ => False
theorem l_str : LRA X.K (rStrD X.K) dStr := by
  intro xs H Q ds μ q r m fin h
  unfold dStr at h
  split at h
  · rename_i i
    obtain ⟨v, w, rfl, r1, rfl⟩ := r
    cases (show v = .int i from r1)
    exact .inl (.inl (.inl ⟨i, rfl, h.1, fin.str m h.2⟩))
  · rename_i z
    obtain ⟨v, w, rfl, r1, rfl⟩ := r
    cases (show v = .str z from r1)
    exact .inl (.inl (.inr ⟨z, rfl, fin.str m h⟩))
  · obtain ⟨v, w, rfl, r1, rfl⟩ := r
    cases (show v = .non from r1)
    exact .inl (.inr ⟨rfl, fin.str m h⟩)
  · obtain ⟨v, w, rfl, r1, rfl⟩ := r
    rcases h with ⟨hb, n, p, hp, hs, hd, hz, h⟩ | ⟨a, rfl, ha, h⟩
    · obtain ⟨a, rfl⟩ := isBox_ok r1 hb
      exact .inr (.inl ⟨a, p, rfl, dp_pyM m n _ _ p r1 hp, hs, nodict_pyM n _ p hp, hd, hz, fin.str m h⟩)
    · cases (show v = .ref a from r1)
      obtain ⟨u, hu, vs, rfl, rv⟩ := m a _ ha
      cases rv
      exact .inr (.inr ⟨a, rfl, hu, fin.str m h⟩)
  · exact h.elim
end

/-! ### zip of two lists or rows, mixed -/
def SqB (K : PySem.W.Frag) (b : Bool) (H : Hp) (a : Addr) (xs : List V) : Prop := match b with
  | true => SqT K H a xs
  | false => SqL K H a xs
def AtB (b : Bool) (h : Heap) (it a : Addr) (i : Nat) : Prop := match b with
  | true => h.IsTupleIter it a i
  | false => h.IsListIter it a i
def HasB (b : Bool) (h : Heap) (a : Addr) (its : Array Value) : Prop := match b with
  | true => h.IsTuple a its
  | false => h.IsList a its
section
variable {X : Cx} {pins : List (Addr × Obj)} {σ : L2.St} {H : Hp} {s : Shared} {b : Bool} {a : Addr} {xs ys : List V}
theorem SqB.has (I : Inv X pins σ H s) (h : SqB X.K b H a xs) : ∃ its : List Value, Vals xs its ∧ HasB b s.heap a its.toArray := by
  cases b with
  | true => obtain ⟨its, rv, p, _⟩ := I.tuple h; exact ⟨its, rv, p⟩
  | false => obtain ⟨its, rv, p, _⟩ := I.list h; exact ⟨its, rv, p.isList⟩
theorem SqB.inj (I : Inv X pins σ H s) (h : SqB X.K b H a xs) (h' : SqB X.K b H a ys) : xs = ys := by
  cases b with
  | true => exact I.tuple_inj h h'
  | false => exact I.list_inj h h'
theorem AtB.obj {h : Heap} {it : Addr} {i : Nat} (x : AtB b h it a i) : ∃ (o : Obj) (v : Array Value), h.get? it = some o ∧ o.data = .fields v := by
  cases b with
  | true => obtain ⟨o, e, _, d⟩ := x; exact ⟨o, _, e, d⟩
  | false => obtain ⟨o, e, _, d⟩ := x; exact ⟨o, _, e, d⟩
theorem AtB.at' {h h' : Heap} {it : Addr} {i : Nat} (x : AtB b h it a i) (k : ∀ o, h.get? it = some o → h'.get? it = some o) : AtB b h' it a i := by
  cases b with
  | true => exact Heap.IsTupleIter.at x k
  | false => exact Heap.IsListIter.at x k
theorem HasB.lt {h : Heap} {its : Array Value} (x : HasB b h a its) : a < h.objs.size := by
  cases b with
  | true => obtain ⟨o, e, _⟩ := x; exact Heap.lt_size e
  | false => obtain ⟨o, e, _⟩ := x; exact Heap.lt_size e
theorem drawsB {prog : Program} {w : World} {A : Around} (hh : A.handled = none) (b : Bool) (it a : Addr) (hne : a ≠ it) (its : Array Value) :
    Draws prog w A it [it, a] its.size (fun i v => its[i]? = some v) (fun i h => AtB b h it a i ∧ HasB b h a its) := by
  cases b with
  | true => exact .tuple hh it a hne its
  | false => exact .list hh it a hne its
theorem beginsB (b : Bool) (a : Addr) (its : Array Value) : ∃ o : Obj, Begins (.ref a) o (fun h => HasB b h a its) ∧ ∀ (h : Heap) (it : Addr), h.get? it = some o → AtB b h it a 0 := by
  cases b with
  | true => exact ⟨_, begins_tuple a its, fun h it e => ⟨_, e, rfl, rfl⟩⟩
  | false => exact ⟨_, begins_list a its, fun h it e => ⟨_, e, rfl, rfl⟩⟩
end
/-- pairs of what stands at a and at c -/
def ItzB (K : PySem.W.Frag) (b1 b2 : Bool) (a c : Addr) : It where
  go := fun i H => ∃ (xs ys : List V) (x y : V), SqB K b1 H a xs ∧ SqB K b2 H c ys ∧ xs[i]? = some x ∧ ys[i]? = some y
  yld := fun i H v H' => ∃ p x y, v = .ref p ∧ H p = none ∧ H' = upd H p (.tup [x, y]) ∧ (∀ xs, SqB K b1 H a xs → xs[i]? = some x) ∧ ∀ ys, SqB K b2 H c ys → ys[i]? = some y
  stop := fun i H => ∃ xs ys : List V, SqB K b1 H a xs ∧ SqB K b2 H c ys ∧ i ≤ xs.length ∧ i ≤ ys.length ∧ (i = xs.length ∨ i = ys.length)
end DL

/-! DK0: zip walked, sorted keys. -/
namespace DL
open PySem PySem.Spec PyProof.Rows L2
def ZSt (b1 b2 : Bool) (z TI TO i1 i2 a c : Addr) (i : Nat) (h : Heap) : Prop :=
  IsZip h z TI TO .none ∧ IsTupOf2 h TI (.ref i1) (.ref i2) ∧ (∃ x y, IsTupOf2 h TO x y) ∧ AtB b1 h i1 a i ∧ AtB b2 h i2 c i
theorem turn_zipB {P : Program} {w : World} {K : PySem.W.Frag} {elts : List Expr} {kk : Nat} {tpos : Pos} {b1 b2 : Bool} {a c z TI TO i1 i2 : Addr} (S : ZipSep2 z TI TO i1 i2 [i1, a] [i2, c]) (ha : a ≠ i1) (hc : c ≠ i2) :
    Turn P w K (.Tuple elts kk tpos) (ItzB K b1 b2 a c) [z, TI, TO, i1, i2] z (ZSt b1 b2 z TI TO i1 i2 a c) := by
  have five : ∀ {x : Addr}, x ∈ [z, TI, TO, i1, i2] → x = z ∨ x = TI ∨ x = TO ∨ x = i1 ∨ x = i2 := fun h => by simpa using h
  have i12 : i1 ≠ i2 := fun e => S.sep1_2 (by rw [e]; exact S.mem2)
  refine ⟨by simp, fun i h st x hx => ?_, fun i h h' st k => ?_, ?_, ?_, fun A i s Q E st h => wpAny_pyIter_zip st.1 h⟩
  · obtain ⟨hz, hTI, ⟨x0, y0, hTO⟩, h1, h2⟩ := st
    obtain ⟨o1, v1, e1, d1⟩ := h1.obj
    obtain ⟨o2, v2, e2, d2⟩ := h2.obj
    rcases five hx with rfl | rfl | rfl | rfl | rfl
    · exact ⟨_, hz, fun v q => nomatch q⟩
    · exact ⟨_, hTI, fun v q => nomatch q⟩
    · exact ⟨_, hTO, fun v q => nomatch q⟩
    · exact ⟨o1, e1, fun v q => by rw [d1] at q; cases q⟩
    · exact ⟨o2, e2, fun v q => by rw [d2] at q; cases q⟩
  · obtain ⟨hz, hTI, ⟨x0, y0, hTO⟩, h1, h2⟩ := st
    exact ⟨k z (by simp) _ hz, k TI (by simp) _ hTI, ⟨x0, y0, k TO (by simp) _ hTO⟩, h1.at' fun o q => k i1 (by simp) o q, h2.at' fun o q => k i2 (by simp) o q⟩
  · intro X hP hw hK hcalm i pins s σ H E I hf st hg
    subst hP hw hK
    obtain ⟨hz, hTI, ⟨x0, y0, hTO⟩, h1, h2⟩ := st
    obtain ⟨xs, ys, x, y, qx, qy, hx, hy⟩ := hg
    obtain ⟨u, rv, p1⟩ := SqB.has I qx
    obtain ⟨u2, rv2, p2⟩ := SqB.has I qy
    have l1 : i < u.toArray.size := by rw [List.size_toArray, ← rv.length]; exact (List.getElem?_eq_some_iff.mp hx).1
    have l2 : i < u2.toArray.size := by rw [List.size_toArray, ← rv2.length]; exact (List.getElem?_eq_some_iff.mp hy).1
    have zl : z < s.heap.objs.size := Heap.lt_size hz
    have D1 := drawsB (prog := X.prog) (w := X.w) (A := X.A.in1) (show X.A.in1.handled = none from I.ok.hd hcalm) b1 i1 a ha u.toArray
    have D2 := drawsB (prog := X.prog) (w := X.w) (A := X.A.in1) (show X.A.in1.handled = none from I.ok.hd hcalm) b2 i2 c hc u2.toArray
    refine wpAny_pyNext_zipD2_item S D1 D2 hz hTI hTO ⟨h1, p1⟩ ⟨h2, p2⟩ l1 l2 fun w1 w2 h' tk e1 e2 z' TO' st1 st2 hT hsz hk => ?_
    have r1 : RelV x w1 := by
      obtain ⟨w, hw, r⟩ := rv.get hx
      have : u[i]? = some w1 := by simpa using e1
      rw [hw] at this; cases this; exact r
    have r2 : RelV y w2 := by
      obtain ⟨w, hw, r⟩ := rv2.get hy
      have : u2[i]? = some w2 := by simpa using e2
      rw [hw] at this; cases this; exact r
    refine ⟨_, rfl, wpAny_letOwnedTupleGo_zip (s := { s with heap := h', toks := tk }) z' fun h'' z'' sb => ?_⟩
    have hT2 : h''.get? s.heap.objs.size = some { cls := .type "tuple", data := .seq #[w1, w2] } := (sb.2 _ (Nat.ne_of_gt zl)).trans hT
    have new : ObjOk X.prog X.w (upd H s.heap.objs.size (.tup [x, y])) h'' s.heap.objs.size (.tup [x, y]) :=
      ⟨show 2 ≤ sizeLine by decide, [w1, w2], .cons r1 (.cons r2 .nil), ⟨_, hT2, rfl, _, rfl⟩⟩
    have kk2 : ∀ b o, b ∉ [z, TI, TO, i1, i2] → s.heap.get? b = some o → h''.get? b = some o := fun b o hb q => by
      simp only [List.mem_cons, List.not_mem_nil, or_false, not_or] at hb
      exact (sb.2 b hb.1).trans (hk b o hb.1 hb.2.2.1 hb.2.2.2.1 hb.2.2.2.2 q)
    have I1 : Inv X pins σ (upd H s.heap.objs.size (.tup [x, y])) { s with heap := h'', toks := tk } := I.turnedNew (t' := tk) (ch := [z, TI, TO, i1, i2]) kk2 hf (Nat.le_refl _) new
    refine ⟨.ref s.heap.objs.size, _, I1, rfl, ⟨_, x, y, rfl, I.hok.fresh (Nat.le_refl _), rfl, fun l hl => by rw [SqB.inj I hl qx]; exact hx, fun l hl => by rw [SqB.inj I hl qy]; exact hy⟩, ⟨z'', ?_, ⟨w1, w2, ?_⟩, ?_, ?_⟩, fun b hb => ?_⟩
    · exact (sb.2 _ S.TIz).trans (hk _ _ S.TIz S.TITO S.TIi1 S.TIi2 hTI)
    · exact (sb.2 _ S.TOz).trans TO'
    · exact st1.1.at' fun o q => (sb.2 _ S.zi1.symm).trans q
    · exact st2.1.at' fun o q => (sb.2 _ S.zi2.symm).trans q
    · have hlt : b < s.heap.objs.size := by
        rcases five hb with rfl | rfl | rfl | rfl | rfl
        · exact zl
        · exact Heap.lt_size hTI
        · exact Heap.lt_size hTO
        · obtain ⟨_, _, e, _⟩ := h1.obj; exact Heap.lt_size e
        · obtain ⟨_, _, e, _⟩ := h2.obj; exact Heap.lt_size e
      rw [upd_ne (Nat.ne_of_lt hlt)]
      exact (hf b hb).1
  · intro X hP hw hK hcalm i pins s σ H E I hf st hg
    subst hP hw hK
    obtain ⟨hz, hTI, ⟨x0, y0, hTO⟩, h1, h2⟩ := st
    obtain ⟨xs, ys, qx, qy, k1, k2, hend⟩ := hg
    obtain ⟨u, rv, p1⟩ := SqB.has I qx
    obtain ⟨u2, rv2, p2⟩ := SqB.has I qy
    have l1 := rv.length
    have l2 := rv2.length
    have D1 := drawsB (prog := X.prog) (w := X.w) (A := X.A.in1) (show X.A.in1.handled = none from I.ok.hd hcalm) b1 i1 a ha u.toArray
    have D2 := drawsB (prog := X.prog) (w := X.w) (A := X.A.in1) (show X.A.in1.handled = none from I.ok.hd hcalm) b2 i2 c hc u2.toArray
    refine wpAny_pyNext_zipD2_end S D1 D2 hz hTI hTO ⟨h1, p1⟩ ⟨h2, p2⟩ (by rw [List.size_toArray]; omega) (by rw [List.size_toArray]; omega)
      (by rw [List.size_toArray, List.size_toArray]; omega) fun h' tk hk => ⟨rfl, I.turnedL (t' := tk) (ch := [z, TI, TO, i1, i2]) (fun b o hb q => ?_) hf⟩
    simp only [List.mem_cons, List.not_mem_nil, or_false, not_or] at hb
    exact hk b o hb.1 hb.2.2.1 hb.2.2.2.1 hb.2.2.2.2 q
def iZipB (K : PySem.W.Frag) (ta : TA) : TI := fun σ H R => ta σ H fun vs H1 => ∃ b1 b2 a c xs ys, vs = [.ref a, .ref c] ∧ SqB K b1 H1 a xs ∧ SqB K b2 H1 c ys ∧ R (ItzB K b1 b2 a c) H1
theorem pi_zipB {X : Cx} {e e2 : Expr} {ta : TA} {p pos tpos : Pos} {elts : List Expr} {kk : Nat} (hg : Gl X "zip") (hm : X.mg "zip" = none) (ha : PA X [e, e2] ta)
    (hs : starEach [e, e2] X.env = (false, eval e X.env) :: starEach [e2] X.env := by rfl) (hpl : (backTo pos (starEach [e2] X.env)).any (·.1) = false := by rfl) :
    PI X (.Tuple elts kk tpos) (.Call (.Name "zip" p) [e, e2] [] pos) (iZipB X.K ta) := by
  refine ⟨fun pins s σ H R I h => Call_ (ld_blt I hg hm PyProof.Rows.boot_zip (PyProof.Rows.callWith_type1 (thn (ha.run pos pins s σ H _ I h) fun us s1 ⟨vs, H1, I1, r1, q1⟩ => ?_) hs hpl))⟩
  obtain ⟨b1, b2, a, c, xs, ys, rfl, qx, qy, q⟩ := q1
  obtain ⟨u1, u2, rfl, ra, rc⟩ := vals2 r1
  cases (show u1 = Value.ref a from ra)
  cases (show u2 = Value.ref c from rc)
  obtain ⟨its, rv, p1⟩ := SqB.has I1 qx
  obtain ⟨its2, rv2, p2⟩ := SqB.has I1 qy
  obtain ⟨o1, B1, g1⟩ := beginsB b1 a its.toArray
  obtain ⟨o2, B2, g2⟩ := beginsB b2 c its2.toArray
  have la := p1.lt
  have lc := p2.lt
  refine zip_begins2 B1 B2 p1 p2 fun h' hz hTI hTO e1 e2 hsz hk => wpAny_pyIter_zip hz ?_
  have S : ZipSep2 (s1.heap.objs.size + 4) (s1.heap.objs.size + 2) (s1.heap.objs.size + 3) s1.heap.objs.size (s1.heap.objs.size + 1) [s1.heap.objs.size, a] [s1.heap.objs.size + 1, c] :=
    zip_sep2 (fp1 := [a]) (fp2 := [c]) (fun b hb => by rw [List.mem_singleton.mp hb]; exact la) (fun b hb => by rw [List.mem_singleton.mp hb]; exact lc)
  refine ⟨s1.heap.objs.size + 4, [s1.heap.objs.size + 4, s1.heap.objs.size + 2, s1.heap.objs.size + 3, s1.heap.objs.size, s1.heap.objs.size + 1], _, _, H1, rfl, I1.kept (t' := s1.toks) hk, turn_zipB S (Nat.ne_of_lt la) (Nat.ne_of_lt (Nat.lt_succ_of_lt lc)), ⟨hz, hTI, ⟨_, _, hTO⟩, g1 _ _ e1, g2 _ _ e2⟩, fun b hb => ?_, q⟩
  have hle : s1.heap.objs.size ≤ b := by
    have e' : b = s1.heap.objs.size + 4 ∨ b = s1.heap.objs.size + 2 ∨ b = s1.heap.objs.size + 3 ∨ b = s1.heap.objs.size ∨ b = s1.heap.objs.size + 1 := by simpa using hb
    rcases e' with z | z | z | z | z <;> rw [z] <;> first | exact Nat.le_add_right _ _ | exact Nat.le_refl _
  exact I1.fpOk hle (I1.hok.fresh hle)

/-- lists, rows -/
def sqOf (μ : Sto) : D → Option (List D)
  | .tup ds => some ds
  | d => lsOf μ d
theorem sqOf_ok {K : PySem.W.Frag} {H : Hp} {μ : Sto} {d : D} {v : V} {ds : List D} (r : RD K H d v) (m : RH K H μ) (e : sqOf μ d = some ds) : ∃ b a vs, v = .ref a ∧ SqB K b H a vs ∧ RDs K H ds vs := by
  cases d with
  | tup xs =>
    cases e
    obtain ⟨a, vs, rfl, h, rv, _⟩ := r
    exact ⟨true, a, vs, rfl, h, rv⟩
  | _ => obtain ⟨a, vs, e1, e2, e3⟩ := lsOf_ok r m e; exact ⟨false, a, vs, e1, e2, e3⟩
/-- the kind of sequence, the same while the store says the same -/
def kindB : D → Bool
  | .tup _ => true
  | _ => false
theorem sqOf_at {K : PySem.W.Frag} {H : Hp} {μ : Sto} {d : D} {a : Addr} {ds : List D} (r : RD K H d (.ref a)) (m : RH K H μ) (e : sqOf μ d = some ds) : ∃ vs, SqB K (kindB d) H a vs ∧ RDs K H ds vs := by
  cases d with
  | tup xs =>
    cases e
    obtain ⟨b, vs, e1, h, rv, _⟩ := r
    cases e1
    exact ⟨vs, h, rv⟩
  | _ => obtain ⟨b, vs, e1, e2, e3⟩ := lsOf_ok r m e; cases e1; exact ⟨vs, e2, e3⟩
theorem itok_zip {K : PySem.W.Frag} {H : Hp} {a c : Addr} {d1 d2 : D} {xs ys : List D} (r1 : RD K H d1 (.ref a)) (r2 : RD K H d2 (.ref c)) :
    ItOk K (ItzB K (kindB d1) (kindB d2) a c) ⟨List.zipWith (fun x y => D.tup [x, y]) xs ys, fun μ1 => sqOf μ1 d1 = some xs ∧ sqOf μ1 d2 = some ys⟩ H := by
  intro i H1 μ1 e1 m1 ok
  obtain ⟨vs, h1, rv1⟩ := sqOf_at (r1.ext e1) m1 ok.1
  obtain ⟨us, h2, rv2⟩ := sqOf_at (r2.ext e1) m1 ok.2
  have l1 := rv1.len
  have l2 := rv2.len
  have hl : (List.zipWith (fun x y => D.tup [x, y]) xs ys).length = min xs.length ys.length := List.length_zipWith
  refine ⟨fun e => ?_, fun d hd => ?_⟩
  · have e : i = (List.zipWith (fun x y => D.tup [x, y]) xs ys).length := e
    exact ⟨vs, us, h1, h2, by omega, by omega, by omega⟩
  · have hd : (List.zipWith (fun x y => D.tup [x, y]) xs ys)[i]? = some d := hd
    rw [List.getElem?_zipWith] at hd
    cases hx : xs[i]? with
    | none => rw [hx] at hd; simp at hd
    | some x =>
      cases hy : ys[i]? with
      | none => rw [hx, hy] at hd; simp at hd
      | some y =>
        rw [hx, hy] at hd
        cases hd
        obtain ⟨v, hv, rv⟩ := rv1.get hx
        obtain ⟨u, hu, ru⟩ := rv2.get hy
        refine ⟨⟨vs, us, v, u, h1, h2, hv, hu⟩, fun z H2 yy => ?_⟩
        obtain ⟨p, v', u', rfl, hp, rfl, q1, q2⟩ := yy
        have z1 := q1 vs h1
        have z2 := q2 us h2
        rw [hv] at z1
        rw [hu] at z2
        cases z1
        cases z2
        exact ⟨.new hp, m1.new hp, .newT hp ⟨v, [u], rfl, rv, u, [], rfl, ru, rfl⟩⟩
/-- zip(x, y) -/
def dZip (ta : DTA) : DTI := fun Γ μ q => ta Γ μ fun ds μ1 => match ds with
  | [x, y] => ∃ xs ys, sqOf μ1 x = some xs ∧ sqOf μ1 y = some ys ∧ q ⟨List.zipWith (fun x y => D.tup [x, y]) xs ys, fun μ2 => sqOf μ2 x = some xs ∧ sqOf μ2 y = some ys⟩ μ1
  | _ => False
theorem qi_zip {X : Cx} {e e2 : Expr} {ta : DTA} {p pos tpos : Pos} {elts : List Expr} {kk : Nat} (hg : Gl X "zip") (hm : X.mg "zip" = none) (ha : QA X [e, e2] ta)
    (hs : starEach [e, e2] X.env = (false, eval e X.env) :: starEach [e2] X.env := by rfl) (hpl : (backTo pos (starEach [e2] X.env)).any (·.1) = false := by rfl) :
    QI X (.Tuple elts kk tpos) (.Call (.Name "zip" p) [e, e2] [] pos) (dZip ta) :=
  ⟨PI.imp (pi_zipB hg hm ha.r hs hpl) fun σ H R ⟨Γ, μ, q, h1, h2, h3, h4⟩ => by
    refine ⟨Γ, μ, _, h1, h2, fun vs H1 ds μ1 e1 r1 m1 h5 => ?_, h4⟩
    split at h5
    · rename_i x y
      obtain ⟨xs, ys, hx, hy, h5⟩ := h5
      obtain ⟨v, r, rfl, rx, v', r', rfl, ry, rfl⟩ := r1
      obtain ⟨_, a, _, rfl, _, _⟩ := sqOf_ok rx m1 hx
      obtain ⟨_, c, _, rfl, _, _⟩ := sqOf_ok ry m1 hy
      obtain ⟨vs, q1, _⟩ := sqOf_at rx m1 hx
      obtain ⟨us, q2, _⟩ := sqOf_at ry m1 hy
      exact ⟨_, _, a, c, vs, us, rfl, q1, q2, h3 _ _ H1 μ1 e1 m1 (itok_zip rx ry) h5⟩
    · exact h5.elim⟩
end DL

/-! DK1: sorted(d.keys()), ints. -/
namespace DL
open PySem PySem.Spec PyProof.Rows L2
section
variable {X : Cx} {o : Expr} {p pos apos mpos : Pos} {td : TE}
theorem sorted_keysI {pins : List (Addr × Obj)} {σ : L2.St} {H : Hp} {s : Shared} {r a : Addr} {ks : List Int} {vs : List (Key × Value)} {ep : Nat} {Q : VK} (hcalm : X.calm = true) (I : Inv X pins σ H s) (hv : PySem.W.KdlKeysView s.heap r a)
    (hat : s.heap.DictAt (mixKind X.prog X.w) a vs ep) (hkeys : vs.map (·.1) = ks.map Sum.inl) (h64 : ks.length < 64)
    (q : ∀ (ys : List Int) (p : Addr), ys.Perm ks → ys.Pairwise (· ≤ ·) → H p = none → Q (.ref p) (upd H p (.lst (ys.map V.int)))) :
    wpAny (model X.prog X.w) X.A (call (.builtin "sorted") [.ref r]) (EP X pins σ Q) X.xe s := by
  have hl : vs.length = ks.length := by
    have e := congrArg List.length hkeys
    simpa using e
  have h16 : vs.length ≤ sizeLine := by rw [hl, sizeLine_eq]; omega
  refine Calls.call_function_entry PyProof.Rows.kind_sorted PyProof.Rows.plain_sorted PyProof.Rows.entry_sorted (PyProof.Rows.args_sorted1 _) ?_
  unfold Builtin.«sorted»
  refine wpAny_bind (m := checkCount "sorted" 1 1 _) (wpAny_pure (wpAny_bind (PySem.W.kdu_collect (A := X.A.in1) (PySem.W.kdl_keys (r := r) (knd := mixKind X.prog X.w) (kvs := vs) (ep := ep)) (I.ok.hd hcalm) ⟨hv, hat⟩ h16 fun h' tk acc hk hacc => ?_)))
  have hal : acc.toList.length = ks.length := by rw [Array.length_toList, hacc.1, hl]
  have hS : IntsAre acc.toList ks := ints_each hal fun j v e => by
    obtain ⟨k, x, e1, e2⟩ := hacc.2 j v (by rw [← Array.getElem?_toList]; exact e)
    have e3 : (ks.map Sum.inl : List Key)[j]? = some k := by rw [← hkeys, List.getElem?_map, e1]; rfl
    rw [List.getElem?_map] at e3
    obtain ⟨y, e4, e5⟩ := Option.map_eq_some_iff.mp e3
    subst e5
    rcases keyIs_shape (show keyIs (Sum.inl y) v = true from e2) with ⟨i, t, ek, ev⟩ | ⟨z, t, ek, ev⟩
    · cases ek; exact ⟨y, t, e4, ev⟩
    · cases ek
  have I1 : Inv X pins σ H { s with heap := h', toks := tk } := I.kept hk
  refine wpAny_bind (wpAny_newList ?_ (by rw [hal, sizeLine_eq]; omega))
  have hoL : (h'.push (seqObj "list" acc.toList.toArray 0)).get? h'.objs.size = some (seqObj "list" acc.toList.toArray 0) := Heap.get?_push_size _ rfl
  show wpAny _ _ _ _ _ { s with heap := h'.push (seqObj "list" acc.toList.toArray 0), toks := tk }
  have hcount : acc.toList.length < 64 := by omega
  refine wpAny_bind (wpAny_holding (wpAny_call_entry PyProof.Rows.slot_list_sort ⟨_, hoL, rfl⟩ PyProof.Rows.entry_list_sort (PyProof.Rows.list_sort_tree (s := { s with heap := h'.push (seqObj "list" acc.toList.toArray 0), toks := tk }) hoL hS hcount fun out ys g1 g2 g3 => ⟨_, rfl, ?_⟩) (PyProof.Rows.args_list_sort _)))
  obtain ⟨e', he'⟩ := PyProof.Rows.sortedHeap_at (vs := acc.toList) (out := out) hoL
  have hlen : (ys.map V.int).length ≤ sizeLine := by
    rw [List.length_map, g2.length_eq, sizeLine_eq]
    omega
  have fresh : H h'.objs.size = none := I1.hok.fresh (Nat.le_refl _)
  have old : ∀ b u, h'.get? b = some u → (PyProof.Rows.sortedHeap (h'.push (seqObj "list" acc.toList.toArray 0)) h'.objs.size acc.toList out).get? b = some u := fun b u e => by
    have hb : b < h'.objs.size := Heap.lt_size e
    rw [PyProof.Rows.sortedHeap_old (Nat.ne_of_lt hb) (by rw [size_push']; exact Nat.lt_succ_of_lt hb)]
    exact Heap.get?_push_of_some _ e
  have nw : ObjOk X.prog X.w (upd H h'.objs.size (.lst (ys.map V.int))) (PyProof.Rows.sortedHeap (h'.push (seqObj "list" acc.toList.toArray 0)) h'.objs.size acc.toList out) h'.objs.size (.lst (ys.map V.int)) :=
    ⟨hlen, out.toList, e', vals_of_ints g1, by rw [Array.toArray_toList]; exact he'⟩
  exact wpAny_pure ⟨_, rfl, .ref h'.objs.size, _, I1.laid (t' := tk) old (Nat.le_refl _) nw, rfl, q ys _ g2 g3 fresh⟩
def tSortKI (td : TE) : TE := fun σ H Q => td σ H fun x H1 => ∃ a kvs ks, x = V.ref a ∧ H1 a = some (.dK kvs) ∧ kvs.map (·.1) = ks.map Sum.inl ∧ ks.length < 64 ∧
  ∀ (ys : List Int) (p : Addr), ys.Perm ks → ys.Pairwise (· ≤ ·) → H1 p = none → Q (.ref p) (upd H1 p (.lst (ys.map V.int)))
theorem pe_sortKI (hc : X.calm = true) (hg : Gl X "sorted") (hm : X.mg "sorted" = none) (hd : PE X o td) (hbase : attributeBase o "keys" X.env (eval o X.env) = eval o X.env := by rfl) (hline : (apos.endLine == mpos.line) = true := by rfl)
    (hse : starEach [Expr.Call (.Attribute o "keys" apos) [] [] mpos] X.env = [(false, eval (Expr.Call (.Attribute o "keys" apos) [] [] mpos) X.env)] := by rfl) :
    PE X (.Call (.Name "sorted" p) [.Call (.Attribute o "keys" apos) [] [] mpos] [] pos) (tSortKI td) := by
  refine ⟨fun pins s σ H Q I h => wpAny_Call_Name_kw (ld_blt I hg hm (u := .builtin "sorted") (by first | rfl | decide +kernel) ?_ (by first | decide +kernel | decide) (by first | decide +kernel | decide))⟩
  rw [hse]
  refine PySem.callWith_builtin1 (wpAny_Call_method0_late hbase hline (thn (hd.run pins s σ H _ I h) fun v s1 ⟨x, H1, I1, r1, a, kvs, ks, ex, ha, hks, h64, q⟩ => ?_))
  subst ex
  obtain rfl : v = Value.ref a := r1
  obtain ⟨_, hsys, vs, rel, dof⟩ := dk_of I1.hok ha
  obtain ⟨ep, dat⟩ := dof.dictAt
  obtain ⟨ob, es, ho, ex, _⟩ := id dat
  refine ⟨"dict", "dict.keys", F.plainAttrs_dict, F.slot_dict_keys, F.type_dict_keys, ⟨ob, ho, ex.1⟩, fun b e => ?_, Calls.callWith_builtin rfl (PySem.evalArgs_none ?_)⟩
  · cases e
    exact ⟨ob, ho, ex.2.1⟩
  have keep : ∀ b u, s1.heap.get? b = some u → (s1.heap.push { cls := .type "dict_keys", data := .fields #[.ref a] }).get? b = some u := fun b u e => Heap.get?_push_of_some _ e
  refine call_meetsIn F.slot_dict_keys ⟨ob, ho, ex.1⟩ F.entry_dict_keys (F.args_dict_keys_1 _) (PySem.W.kdl_meets_keys (mixKind X.prog X.w) a hsys) ⟨⟨vs, dof⟩, ?_⟩
  exact sorted_keysI hc (I1.kept (t' := s1.toks) keep) ⟨_, Heap.get?_push_size _ rfl, rfl, rfl⟩ (dat.keep keep) (rel.keys.symm.trans hks) h64 q
end
end DL

/-! DK2: the law's own def, run where no text of an object is under way. -/
namespace DL
open PySem PySem.Spec PyProof.Rows L2
/-- a def's promise where nothing's text is under way -/
def RunsG (P : Program) (w : World) (K : PySem.W.Frag) (mg : Str → Option Value) (base : Heap) (k : Nat) (f : Addr) (fd : FuncData) (ps : List Str) (sp : Sp) : Prop :=
  ∀ (A : Around) (outer : List Env) (s : Shared) (H : Hp) (args : Args) (us : List Value) (vs : List V) (Q : VK) (E : XK), Room k A → A.guards = some [] → Env0 P w K mg base A outer s H → BindsTo s fd args (ps.zip us) → Vals vs us → sp vs H Q E →
    codeAny (model P w) A (.call (.ref f) args) (CR CX0 outer P w H s Q E) s
section
variable {P : Program} {w : World} {K : PySem.W.Frag} {mg : Str → Option Value} {base : Heap}
theorem okG {x qual : Str} {st : Stmt} {f : Addr} {fd : FuncData} {N ps : List Str} {k : Nat} {C : DSp} (F : L2.Fun K x qual st f fd) (S : FnScope N ps (defScope st)) (len : ∀ ds μ q x, C ds μ q x → ds.length = ps.length)
    (hbody : ∀ (cdv : Value) (A : Around) (outer : List Env) (s : Shared) (H : Hp) (E : XK), Room k (A.deeper (envOfC qual (defScope st) s.heap.objs.size f cdv)) → A.guards = some [] →
      ∃ t, QSs (cxOf CX0 P w K mg base N qual (defScope st) f cdv A outer s H E).nox (defBody st) t ∧ ∀ ds μ q x, C ds μ q x → t (dends q) (dstart N ds) μ) : RunsG P w K mg base (k + 1) f fd ps (spD K C) := by
  obtain ⟨oc, od, kV, doc, pm, an, cdv, ct, osl, rfl, lk, hcd⟩ := F.ex
  intro A outer s H args us vs Q E hr hgd e0 hb rv ⟨ds, μ, q, xd, rd, m, fin, finx, hC⟩
  have hl : vs.length = ps.length := by rw [rd.len]; exact len _ _ _ _ hC
  have up : ∀ b o, base.get? b = some o → s.heap.get? b = some o := fun b o e => (e0.bs b o e).1
  have KX : K.In s.heap := e0.mod.kin.keeps up
  have lim : s.heap.NoLimit := e0.mod.nolimit.keeps up
  have hkind : ∀ y ∈ ps.zip us, (defScope st).names.lookup y.1 = some .local ∨ ((defScope st).names.lookup y.1 = some .cell ∧ ((cellsFrom (s.heap.objs.size + 1) (defScope st).names []).lookup y.1).isSome = true) := by
    rintro ⟨n, v⟩ hy
    exact (S.par n (List.of_mem_zip hy).1).imp_right fun q => ⟨q, PySem.W.cellsFrom_some _ _ _ (.inl q)⟩
  refine codeAny_call_function hr.depth (KX _ _ lk) rfl S.co S.gen rfl (PySem.W.codeRec_of KX hcd) (hb _ _ _ _ (wpAny_newFunctionEnv_cells S.kind hkind fun env he s1 x => ?_))
  subst he
  refine ⟨lim.keeps x.toInCall.keep, codeAny_func ?_⟩
  obtain ⟨t, ht, hq⟩ := hbody cdv A outer s H E (hr.deeper _) hgd
  have I := inv_start (CX := CX0) (E := E) S hr.hd e0 hl rv x
  have ends : FinE K H (dends q) { nx := fun _ H' => Q .non H', rt := Q } :=
    ⟨fun σ' H' Γ' μ' e1 r1 m1 ⟨μ'', h2, h3⟩ => fin _ H' .non μ'' e1 rfl (m1.sub h2) h3, fun v H' d μ' e1 r1 m1 ⟨μ'', h2, h3⟩ => fin _ H' d μ'' e1 r1 (m1.sub h2) h3, fun _ _ _ _ _ _ _ z => z, fun _ _ _ _ _ _ _ z => z⟩
  have body := ht.r.nox.run [] s1 (start N vs) H { nx := fun _ H' => Q .non H', rt := Q } I ⟨dstart N ds, μ, dends q, RS.start rd, m, ends, hq _ _ _ _ hC⟩
  refine wpAny_mono body (fun fl s' hs => ?_) fun e s' hs => hs
  cases fl with
  | ret u =>
    obtain ⟨v, σ', H', J, r1, q1⟩ := hs
    exact (⟨v, H', J.os, J.bare, J.base, J.hok, r1, q1⟩ : CE outer P w H s Q u s')
  | next =>
    obtain ⟨σ', H', J, q1⟩ := hs
    exact (⟨.non, H', J.os, J.bare, J.base, J.hok, rfl, q1⟩ : CE outer P w H s Q Value.none s')
  | brk =>
    obtain ⟨_, _, _, q⟩ := hs
    exact False.elim q
  | cont =>
    obtain ⟨_, _, _, q⟩ := hs
    exact False.elim q
end

/-- the law's def is called with its script: as L2.law_call, for a def run where no text is under way -/
theorem lawG {P : Program} {w : World} {K : PySem.W.Frag} {mg mb : Str → Option Value} {k : Nat} {fa a : Addr} {fd : FuncData} {x : Str} {C : DSp} {s₁ : Shared} {vs : List Value} {ns : List Int}
    (KX : K.In s₁.heap) (hns : s₁.heap.Ns mainGlobals mg) (hb : s₁.heap.Ns builtinsNs mb) (hbb : ∀ x : Str, x ≠ "__name__" → mb x = bootBuiltins x) (hlim : s₁.heap.NoLimit) (hg : s₁.gens = #[])
    (ha : s₁.heap.get? a = some { cls := .type "list", data := .seq vs.toArray }) (hi : IntsAre vs ns) (hl : ns.length ≤ sizeLine) (hr : Room k callerA)
    (F : ∀ base : Heap, K.In base → base.Ns mainGlobals mg → RunsG P w K mg base k fa fd [x] (spD K C)) (hbind : ∀ (s : Shared) (u : Value), BindsTo s fd ⟨[u], []⟩ [(x, u)])
    (hC : ∀ μ, (∀ b, μ b = none) → C [.wl (ns.map D.int)] μ (fun d _ => d = .bl true) noX) :
    codeAny (model P w) callerA (.call (.ref fa) ⟨[.ref a], []⟩) (fun r s' => r = .ok (.ret (.bool true)) ∧ OldK s₁.heap s'.heap ∧ s'.os = s₁.os ∧ AllBare s'.gens) s₁ := by
  have rv : Vals (ns.map V.int) vs := vals_ints hi
  have lenV := hi.length
  have key : ∀ H : Hp, Only H → SqF K H a (ns.map V.int) → HOk P w H s₁.heap → (∀ b, H b ≠ none → b = a ∧ K.lookup a = none) →
      codeAny (model P w) callerA (.call (.ref fa) ⟨[.ref a], []⟩) (fun r s' => r = .ok (.ret (.bool true)) ∧ OldK s₁.heap s'.heap ∧ s'.os = s₁.os ∧ AllBare s'.gens) s₁ := by
    intro H hO hS hok hA
    have free : ∀ {b : Addr} {o : Obj}, s₁.heap.get? b = some o → (∀ es ep, o.data = .dict es ep → H b = none) := fun {b o} e es ep d => by
      by_cases q : H b = none
      · exact q
      · have e' := (hA b q).1
        subst e'
        rw [ha] at e
        cases e
        cases d
    have nsH : ∀ {b : Addr} {m : Str → Option Value}, s₁.heap.Ns b m → (hidT s₁.heap H).Ns b m := fun ⟨o, es, ep, e, d, r⟩ => ⟨o, es, ep, hidT_get e (free e es ep d), d, r⟩
    have inH : K.In (hidT s₁.heap H) := fun b o e => hidT_get (KX b o e) (by
      by_cases q : H b = none
      · exact q
      · obtain ⟨e1, e2⟩ := hA b q
        subst e1
        rw [e2] at e
        cases e)
    obtain ⟨mc, c1, c2⟩ := hlim
    have e0 : Env0 P w K mg (hidT s₁.heap H) callerA [] s₁ H :=
      ⟨rfl, ⟨inH, nsH hns, ⟨mb, nsH hb, hbb⟩, ⟨mc, nsH c1, c2⟩⟩, fun b o e => of_hidT e, Nat.le_of_eq (hidT_size _ _), trivial, fun b hb => (by cases hb), hok, .of_eq hg⟩
    have sp : spD K C [.ref a] H (fun v _ => v = .bl true) (fun _ _ _ => False) := by
      refine ⟨[.wl (ns.map D.int)], fun _ => none, fun d _ => d = .bl true, noX, ⟨.ref a, [], rfl, ⟨a, _, rfl, hS, .ints⟩, rfl⟩, fun b o q => (by cases q), fun v H' d μ' _ r _ e => ?_, fun _ _ _ _ _ z => z, hC _ fun _ => rfl⟩
      subst e
      exact r
    refine codeAny_mono (F _ inH (nsH hns) callerA [] s₁ H ⟨[.ref a], []⟩ [.ref a] [.ref a] _ _ hr rfl e0 (hbind s₁ (.ref a)) (.cons rfl .nil) sp) fun r s' h => ?_
    match r, h with
    | .error e, h => exact False.elim h
    | .ok .next, h => exact False.elim h
    | .ok .brk, h => exact False.elim h
    | .ok .cont, h => exact False.elim h
    | .ok (.ret u), h =>
      obtain ⟨v, H', os, bare, un, hok', r', q⟩ := h
      have q' : v = .bl true := q
      subst q'
      obtain rfl : u = Value.bool true := r'
      refine ⟨rfl, OldK.of_keep fun b o e => ?_, os, bare⟩
      rcases hO b with z | ⟨ob, xs, z⟩
      · exact un.keep b o e z (fun q => (by cases q)) (by simp)
      · have z2 := un.frzs b ob _ z
        have e1 := (hok b _ z).1
        have e2 := (hok' b _ z2).1
        rw [e] at e1
        cases e1
        exact e2
  cases hk : K.lookup a with
  | some o =>
    have e := KX a o hk
    rw [ha] at e
    cases e
    have z : vs.toArray.size ≤ sizeLine := by rw [List.size_toArray, lenV]; exact hl
    exact key (fun _ => none) (fun _ => .inl rfl) (.inr ⟨_, vs.toArray, _, hk, rfl, rfl, rfl, z, by simpa using rv⟩) (fun b u z => by cases (show (none : Option HO) = some u from z)) fun b z => absurd rfl z
  | none =>
    let H : Hp := fun b => if b = a then some (.frz { cls := .type "list", data := .seq vs.toArray } (.lst (ns.map V.int))) else none
    have Ha : H a = some (.frz { cls := .type "list", data := .seq vs.toArray } (.lst (ns.map V.int))) := if_pos rfl
    have Hb : ∀ b, b ≠ a → H b = none := fun b c => if_neg c
    refine key H (fun b => ?_) (.inl ⟨_, Ha⟩) (fun b u z => ?_) fun b z => ?_
    · by_cases c : b = a
      · subst c; exact .inr ⟨_, _, Ha⟩
      · exact .inl (Hb b c)
    · by_cases c : b = a
      · subst c
        rw [Ha] at z
        cases z
        exact ⟨ha, by rw [List.length_map]; exact hl, vs, _, rv, ha⟩
      · rw [Hb b c] at z
        cases z
    · by_cases c : b = a
      · exact ⟨c, hk⟩
      · exact absurd (Hb b c) z
/-- the end of a law -/
theorem walkG {l : PySem.W.OpenLaw} {n k : Nat} {q : Program} {loose : List Str} {XP : (Str → Option Value) → Heap → Prop} {YP : World → Heap → Prop} {d : DefRec} {K : Params → PySem.W.Frag} {C : DSp} {x : Str}
    (hn : l.most = some n) (hn2 : n ≤ sizeLine) (hdf : d.params.defaults = []) (hr : Room k callerA) (hY : ∀ (w : World) (h : Heap), YP w h → (K w.params).In h)
    (F : ∀ (w : World) (mg : Str → Option Value) (fa : Addr) (h : Heap), (K w.params).In h → h.Ns mainGlobals mg → mg d.name = some (.ref fa) →
      ∃ fd : FuncData, (∀ (s : Shared) (u : Value), BindsTo s fd ⟨[u], []⟩ [(x, u)]) ∧ ∀ base : Heap, (K w.params).In base → base.Ns mainGlobals mg → RunsG l.prog w (K w.params) mg base k fa fd [x] (spD (K w.params) C))
    (hC : ∀ (ns : List Int) μ, ns.length ≤ n → (∀ b, μ b = none) → C [.wl (ns.map D.int)] μ (fun d _ => d = .bl true) noX) :
    PySem.W.WalkO q loose XP YP l.row.toRowW d [] (fun f vs => PySem.call f vs) := by
  refine Att.attach_call hn hdf fun w s₀ s₁ mg mb fa o pm cd doc a vs ns G Y ho hd hcd hmg hobj hints hlen hg => ?_
  have KX := hY w _ Y
  obtain ⟨fd, hb, hF⟩ := F w mg fa _ KX G.T.g hmg
  exact lawG KX G.T.g G.T.b G.T.builtins G.T.nolimit hg hobj hints (Nat.le_trans hlen hn2) hr hF hb fun μ hμ => hC ns μ hlen hμ
/-! ### sorted(d.keys()), over data -/
def dSortKI (to : DTE) : DTE := fun Γ μ q => to Γ μ fun x μ1 => ∃ a kvs ks, x = .ref a ∧ μ1 a = some (.dK kvs) ∧ kvs.map (·.1) = ks.map Sum.inl ∧ ks.length < 64 ∧
  ∀ ys : List Int, ys.Perm ks → ys.Pairwise (· ≤ ·) → q (.fl (ys.map .int)) μ1
theorem qe_sortKI {X : Cx} {o : Expr} {p pos apos mpos : Pos} {to : DTE} (hc : X.calm = true) (hg : Gl X "sorted") (hm : X.mg "sorted" = none) (hd : QE X o to) (hbase : attributeBase o "keys" X.env (eval o X.env) = eval o X.env := by rfl) (hline : (apos.endLine == mpos.line) = true := by rfl)
    (hse : starEach [Expr.Call (.Attribute o "keys" apos) [] [] mpos] X.env = [(false, eval (Expr.Call (.Attribute o "keys" apos) [] [] mpos) X.env)] := by rfl) :
    QE X (.Call (.Name "sorted" p) [.Call (.Attribute o "keys" apos) [] [] mpos] [] pos) (dSortKI to) :=
  pe_lift_fz (pe_sortKI hc hg hm hd.r hbase hline hse) fun σ H Q ⟨Γ, μ, q, h1, h2, h3, h4⟩ => by
    refine ⟨Γ, μ, _, h1, h2, fun v H1 d μ1 e1 r1 m1 h5 => ?_, h4⟩
    obtain ⟨a, kvs, ks, rfl, ha, hk, h64, h5⟩ := h5
    obtain ⟨u, hu, vs, rfl, rv⟩ := m1 a _ ha
    refine ⟨a, vs, ks, r1, hu, rv.keys.trans hk, h64, fun ys p y1 y2 hp => ?_⟩
    exact h3 _ _ (.ref p) _ (e1.trans (.new hp)) rfl (m1.put (o := .lst (ys.map D.int)) (.new hp) ⟨_, rfl, .ints⟩) (.inr (fz_new (h5 ys y1 y2) p (m1.free hp)))
end DL

/-! DM: how readings are shown: loops, comprehensions. -/
namespace DL
open PySem PySem.Spec PyProof.Rows L2
@[simp] theorem dgTup_eq {n : Nat} {t : DTGs} {ds : List D} {Γ : DSt} {μ : Sto} {q : DSt → Sto → Prop} : dgTup n t (.tup ds) Γ μ q ↔ ds.length = n ∧ t ds Γ μ q := Iff.rfl
@[simp] theorem sub_set {μ : Sto} {p : Addr} {o : DO} (h : μ p = none) : Sub μ (set μ p o) := .new h
theorem Sub.at' {μ μ' : Sto} {a : Addr} {o : DO} (s : Sub μ μ') (h : μ a = some o) : μ' a = some o := s a o h
/-- what is known of lists stays known -/
theorem Sub.ls {μ μ' : Sto} (s : Sub μ μ') {d : D} {ds : List D} (h : lsOf μ d = some ds) : lsOf μ' d = some ds := by
  cases d with
  | ref a =>
    have e : (match μ a with | some (.lst ds) => some ds | _ => none) = some ds := h
    split at e
    · rename_i z; cases e; exact lsOf_ref (s a _ z)
    · cases e
  | _ => exact h
theorem Sub.sq {μ μ' : Sto} (s : Sub μ μ') {d : D} {ds : List D} (h : sqOf μ d = some ds) : sqOf μ' d = some ds := by
  cases d with
  | ref a => exact Sub.ls s (d := .ref a) h
  | _ => exact h
theorem Sub.ty {μ μ' : Sto} (s : Sub μ μ') {d : D} {t : String} (h : tyD μ d = some t) : tyD μ' d = some t := by
  cases d with
  | ref a =>
    have e : (μ a).bind tyO = some t := h
    obtain ⟨o, h1, h2⟩ := Option.bind_eq_some_iff.mp e
    show (μ' a).bind tyO = some t
    rw [s a o h1]
    exact h2
  | _ => exact h
/-- a loop by what holds ahead of each turn -/
theorem forD_by {ok : Sto → Prop} {g : DTG} {tb : DTS} {d : DEnds} (I : List D → DSt → Sto → Prop) (h0 : ∀ Γ μ, I [] Γ μ → ok μ ∧ d.nx Γ μ)
    (h1 : ∀ x xs Γ μ, I (x :: xs) Γ μ → ok μ ∧ ∀ F : DSt → Sto → Prop, (∀ Γ' μ', I xs Γ' μ' → F Γ' μ') → g x Γ μ fun Γ1 μ1 => tb { d with nx := F, ct := F, bk := d.nx } Γ1 μ1) : ∀ xs Γ μ, I xs Γ μ → forD ok g tb d xs Γ μ
  | [], Γ, μ, h => h0 Γ μ h
  | x :: xs, Γ, μ, h => by
    obtain ⟨a, b⟩ := h1 x xs Γ μ h
    exact ⟨a, b _ fun Γ' μ' h' => forD_by I h0 h1 xs Γ' μ' h'⟩
/-- a comprehension whose elements leave the store as it is -/
theorem comp_any {ok : Sto → Prop} {g : DTG} {tt : DTT} {te : DTE} {vs : List Nat} {Γ : DSt} {R : Sto → Prop} {μ : Sto} {p : Addr} {f : D → Option D} (hp : μ p = none) (hok : ∀ μ', Sub μ μ' → ok μ') : ∀ (xs acc : List D),
    (∀ x ∈ xs, ∀ μ', Sub μ μ' → ∀ k : Option D → Sto → Prop, k (f x) μ' → elD g tt te vs Γ x μ' k) → acc.length + xs.length ≤ sizeLine → R (set μ p (.lst (acc ++ xs.filterMap f))) →
    compD ok g tt te vs p Γ R xs (set μ p (.lst acc))
  | [], acc, _, _, h => ⟨hok _ (.new hp), by simpa using h⟩
  | x :: xs, acc, hx, hz, h => by
    refine ⟨hok _ (.new hp), hx x List.mem_cons_self _ (.new hp) _ ?_⟩
    have hz' : acc.length + (xs.length + 1) ≤ sizeLine := hz
    have hr := fun y hy => hx y (List.mem_cons_of_mem _ hy)
    cases e : f x with
    | none =>
      rw [List.filterMap_cons_none e] at h
      exact comp_any hp hok xs acc hr (by omega) h
    | some y =>
      rw [List.filterMap_cons_some e] at h
      refine ⟨acc, set_same, by omega, ?_⟩
      rw [set_set]
      exact comp_any hp hok xs (acc ++ [y]) hr (by rw [List.length_append]; show acc.length + 1 + xs.length ≤ _; omega) (by rw [List.append_assoc]; exact h)
theorem lc_any {ts te : DTE} {g : DTG} {tt : DTT} {vs : List Nat} {Γ : DSt} {q : DK} {μ : Sto} {d : D} {ds : List D} (f : D → Option D) (hs : ∀ k : DK, k d μ → ts Γ μ k) (hd : sqOf μ d = some ds)
    (hx : ∀ x ∈ ds, ∀ μ', Sub μ μ' → ∀ k : Option D → Sto → Prop, k (f x) μ' → elD g tt te vs Γ x μ' k) (hz : ds.length ≤ sizeLine) (h : ∀ p, μ p = none → q (.ref p) (set μ p (.lst (ds.filterMap f)))) : dLc (dSeqIt ts) g tt te vs Γ μ q := by
  show ts Γ μ _
  refine hs _ ?_
  cases d with
  | tup xs => cases hd; exact fun p hp => comp_any (R := fun μ2 => q (.ref p) μ2) hp (fun _ _ => trivial) _ [] hx (by simpa using hz) (by simpa using h p hp)
  | fl xs => cases hd; exact fun p hp => comp_any (R := fun μ2 => q (.ref p) μ2) hp (fun _ _ => trivial) _ [] hx (by simpa using hz) (by simpa using h p hp)
  | wl xs => cases hd; exact fun p hp => comp_any (R := fun μ2 => q (.ref p) μ2) hp (fun _ _ => trivial) _ [] hx (by simpa using hz) (by simpa using h p hp)
  | ref a =>
    have e : (match μ a with | some (.lst ds) => some ds | _ => none) = some ds := hd
    split at e
    · rename_i z
      cases e
      exact ⟨_, z, fun p hp => comp_any (R := fun μ2 => q (.ref p) μ2) hp (fun _ s => s a _ z) _ [] hx (by simpa using hz) (by simpa using h p hp)⟩
    · cases e
  | _ => cases hd
/-- [.. for x in a list or a row], frozen -/
theorem fz_lc {ts te : DTE} {g : DTG} {tt : DTT} {vs : List Nat} {Γ : DSt} {q : DK} {μ : Sto} {d : D} {ds : List D} (f : D → Option D) (hs : ∀ k : DK, k d μ → ts Γ μ k) (hd : sqOf μ d = some ds)
    (hx : ∀ x ∈ ds, ∀ μ', Sub μ μ' → ∀ k : Option D → Sto → Prop, k (f x) μ' → elD g tt te vs Γ x μ' k) (hz : ds.length ≤ sizeLine) (h : q (.fl (ds.filterMap f)) μ) : dFz (dLc (dSeqIt ts) g tt te vs) Γ μ q :=
  lc_any f hs hd hx hz fun p hp => ⟨p, _, μ, rfl, set_same, .new hp, hp, h⟩
theorem fzn_lc {i : Nat} {ts te : DTE} {g : DTG} {tt : DTT} {vs : List Nat} {Γ : DSt} {e : DEnds} {μ : Sto} {d : D} {ds : List D} (f : D → Option D) (hs : ∀ k : DK, k d μ → ts Γ μ k) (hd : sqOf μ d = some ds)
    (hx : ∀ x ∈ ds, ∀ μ', Sub μ μ' → ∀ k : Option D → Sto → Prop, k (f x) μ' → elD g tt te vs Γ x μ' k) (hz : ds.length ≤ sizeLine) (hi : i < Γ.length) (h : e.nx (Γ.set i (some (.fl (ds.filterMap f)))) μ) : dFzN i (dAsg (dLc (dSeqIt ts) g tt te vs) (dgName i)) e Γ μ :=
  lc_any (q := fun x μ1 => dgName i x Γ μ1 _) f hs hd hx hz fun p hp => ⟨p, _, μ, List.getElem?_set_self hi, set_same, .new hp, hp, by rw [List.set_set]; exact h⟩
/-- [.. for x, y in zip(a, b)], frozen -/
theorem fz_zip {ta : DTA} {te : DTE} {g : DTG} {tt : DTT} {vs : List Nat} {Γ : DSt} {q : DK} {μ : Sto} {x y : D} {xs ys : List D} (f : D → Option D) (hs : ∀ k : List D → Sto → Prop, k [x, y] μ → ta Γ μ k) (hd : sqOf μ x = some xs) (he : sqOf μ y = some ys)
    (hx : ∀ z ∈ List.zipWith (fun x y => D.tup [x, y]) xs ys, ∀ μ', Sub μ μ' → ∀ k : Option D → Sto → Prop, k (f z) μ' → elD g tt te vs Γ z μ' k) (hz : xs.length ≤ sizeLine) (h : q (.fl ((List.zipWith (fun x y => D.tup [x, y]) xs ys).filterMap f)) μ) : dFz (dLc (dZip ta) g tt te vs) Γ μ q := by
  show ta Γ μ _
  refine hs _ ⟨xs, ys, hd, he, ?_⟩
  intro p hp
  refine comp_any (R := fun μ2 => ∃ a ds μ3, D.ref p = .ref a ∧ μ2 a = some (.lst ds) ∧ Sub μ3 μ2 ∧ μ3 a = none ∧ q (.fl ds) μ3) hp (fun _ s => ⟨s.sq hd, s.sq he⟩) _ [] hx ?_ ⟨p, _, μ, rfl, set_same, .new hp, hp, by simpa using h⟩
  show 0 + (List.zipWith _ xs ys).length ≤ _
  rw [List.length_zipWith]
  omega
end DL
namespace DL
open PySem PySem.Spec PyProof.Rows L2
theorem while_by {c : DTT} {tb : DTS} {d : DEnds} (I : Nat → DSt → Sto → Prop) (h : ∀ n Γ μ (F : DSt → Sto → Prop), I n Γ μ → (∀ m, m < n → ∀ Γ' μ', I m Γ' μ' → F Γ' μ') → c Γ μ fun b μ1 => if b = true then tb { d with nx := F, ct := F, bk := d.nx } Γ μ1 else d.nx Γ μ1) {n : Nat} {Γ : DSt} {μ : Sto} (h0 : I n Γ μ) : dWhile c tb d Γ μ := by
  have go : ∀ f n Γ μ, n < f → I n Γ μ → whileD c tb d f Γ μ := by
    intro f
    induction f with
    | zero => intro n Γ μ hn; omega
    | succ f ih => intro n Γ μ hn hi; exact h n Γ μ _ hi fun m hm Γ' μ' hi' => ih m Γ' μ' (by omega) hi'
  exact ⟨n + 1, go _ _ _ _ (Nat.lt_succ_self n) h0⟩
@[simp] theorem dAbs_i {i : Int} {μ : Sto} {q : DK} : dAbs [.int i] μ q ↔ q (.int (if i < 0 then -i else i)) μ := Iff.rfl
@[simp] theorem dMin2_ii {i j : Int} {μ : Sto} {q : DK} : dMin2 [.int i, .int j] μ q ↔ q (.int (if j < i then j else i)) μ := Iff.rfl
@[simp] theorem dMax2_ii {i j : Int} {μ : Sto} {q : DK} : dMax2 [.int i, .int j] μ q ↔ q (.int (if j > i then j else i)) μ := Iff.rfl
@[simp] theorem lenD_wl {μ : Sto} {ds : List D} : lenD μ (.wl ds) = some ds.length := rfl
theorem lenD_ref {μ : Sto} {a : Addr} {ds : List D} (h : μ a = some (.lst ds)) : lenD μ (.ref a) = some ds.length := by simp [lenD, h]
theorem no_ok {P : Program} {w : World} {K : PySem.W.Frag} {mg : Str → Option Value} {base : Heap} {f : Addr} {fd : FuncData} {ps : List Str} {k : Nat} {C : DSp} (h : ∀ ds μ q x, C ds μ q x → False) : FnOk P w K mg base CX0 k f fd ps (spD K C) :=
  ⟨fun _ _ _ _ ⟨_, _, _, _, _, _, _, _, z⟩ => (h _ _ _ _ z).elim, fun _ _ _ _ _ _ _ _ _ _ _ _ _ ⟨_, _, _, _, _, _, _, _, z⟩ => (h _ _ _ _ z).elim⟩
@[simp] theorem tyD_non {μ : Sto} : tyD μ (.non) = some "NoneType" := rfl
@[simp] theorem tyD_bl {μ : Sto} {b : Bool} : tyD μ (.bl b) = some "bool" := rfl
@[simp] theorem tyD_int {μ : Sto} {i : Int} : tyD μ (.int i) = some "int" := rfl
@[simp] theorem tyD_str {μ : Sto} {x : Str} : tyD μ (.str x) = some "str" := rfl
@[simp] theorem tyD_tup {μ : Sto} {ds : List D} : tyD μ (.tup ds) = some "tuple" := rfl
@[simp] theorem tyD_fl {μ : Sto} {ds : List D} : tyD μ (.fl ds) = some "list" := rfl
@[simp] theorem tyD_wl {μ : Sto} {ds : List D} : tyD μ (.wl ds) = some "list" := rfl
@[simp] theorem isK_NoneType_bool : isK "NoneType" "bool" = false := by decide
@[simp] theorem isK_NoneType_int : isK "NoneType" "int" = false := by decide
@[simp] theorem isK_NoneType_tuple : isK "NoneType" "tuple" = false := by decide
@[simp] theorem isK_NoneType_list : isK "NoneType" "list" = false := by decide
@[simp] theorem isK_NoneType_str : isK "NoneType" "str" = false := by decide
@[simp] theorem isK_NoneType_dict : isK "NoneType" "dict" = false := by decide
@[simp] theorem isK_bool_bool : isK "bool" "bool" = true := by decide
@[simp] theorem isK_bool_int : isK "bool" "int" = true := by decide
@[simp] theorem isK_bool_tuple : isK "bool" "tuple" = false := by decide
@[simp] theorem isK_bool_list : isK "bool" "list" = false := by decide
@[simp] theorem isK_bool_str : isK "bool" "str" = false := by decide
@[simp] theorem isK_bool_dict : isK "bool" "dict" = false := by decide
@[simp] theorem isK_int_bool : isK "int" "bool" = false := by decide
@[simp] theorem isK_int_int : isK "int" "int" = true := by decide
@[simp] theorem isK_int_tuple : isK "int" "tuple" = false := by decide
@[simp] theorem isK_int_list : isK "int" "list" = false := by decide
@[simp] theorem isK_int_str : isK "int" "str" = false := by decide
@[simp] theorem isK_int_dict : isK "int" "dict" = false := by decide
@[simp] theorem isK_str_bool : isK "str" "bool" = false := by decide
@[simp] theorem isK_str_int : isK "str" "int" = false := by decide
@[simp] theorem isK_str_tuple : isK "str" "tuple" = false := by decide
@[simp] theorem isK_str_list : isK "str" "list" = false := by decide
@[simp] theorem isK_str_str : isK "str" "str" = true := by decide
@[simp] theorem isK_str_dict : isK "str" "dict" = false := by decide
@[simp] theorem isK_tuple_bool : isK "tuple" "bool" = false := by decide
@[simp] theorem isK_tuple_int : isK "tuple" "int" = false := by decide
@[simp] theorem isK_tuple_tuple : isK "tuple" "tuple" = true := by decide
@[simp] theorem isK_tuple_list : isK "tuple" "list" = false := by decide
@[simp] theorem isK_tuple_str : isK "tuple" "str" = false := by decide
@[simp] theorem isK_tuple_dict : isK "tuple" "dict" = false := by decide
@[simp] theorem isK_list_bool : isK "list" "bool" = false := by decide
@[simp] theorem isK_list_int : isK "list" "int" = false := by decide
@[simp] theorem isK_list_tuple : isK "list" "tuple" = false := by decide
@[simp] theorem isK_list_list : isK "list" "list" = true := by decide
@[simp] theorem isK_list_str : isK "list" "str" = false := by decide
@[simp] theorem isK_list_dict : isK "list" "dict" = false := by decide
@[simp] theorem isK_dict_bool : isK "dict" "bool" = false := by decide
@[simp] theorem isK_dict_int : isK "dict" "int" = false := by decide
@[simp] theorem isK_dict_tuple : isK "dict" "tuple" = false := by decide
@[simp] theorem isK_dict_list : isK "dict" "list" = false := by decide
@[simp] theorem isK_dict_str : isK "dict" "str" = false := by decide
@[simp] theorem isK_dict_dict : isK "dict" "dict" = true := by decide
@[simp] theorem kinds_NoneType : "NoneType" ∈ kinds := by decide
@[simp] theorem kinds_bool : "bool" ∈ kinds := by decide
@[simp] theorem kinds_int : "int" ∈ kinds := by decide
@[simp] theorem kinds_str : "str" ∈ kinds := by decide
@[simp] theorem kinds_tuple : "tuple" ∈ kinds := by decide
@[simp] theorem kinds_list : "list" ∈ kinds := by decide
@[simp] theorem kinds_dict : "dict" ∈ kinds := by decide
@[simp] theorem szS_tup {ds : List D} : szS (.tup ds) := trivial
@[simp] theorem szS_fl {ds : List D} : szS (.fl ds) := trivial
@[simp] theorem szS_wl {ds : List D} : szS (.wl ds) := trivial
@[simp] theorem szS_ref {a : Addr} : szS (.ref a) := trivial
@[simp] theorem lenD_tup {μ : Sto} {ds : List D} : lenD μ (.tup ds) = some ds.length := rfl
@[simp] theorem lenD_fl {μ : Sto} {ds : List D} : lenD μ (.fl ds) = some ds.length := rfl
theorem atI_n {α : Type} {xs : List α} {i : Nat} : atI xs (i : Int) = xs[i]? := by
  unfold atI ixN
  by_cases h : i < xs.length
  · simp [h]
  · simp [h]
@[simp] theorem atI_0 {α : Type} {xs : List α} : atI xs 0 = xs[0]? := atI_n (i := 0)
@[simp] theorem atI_1 {α : Type} {xs : List α} : atI xs 1 = xs[1]? := atI_n (i := 1)
@[simp] theorem atI_2 {α : Type} {xs : List α} : atI xs 2 = xs[2]? := atI_n (i := 2)
@[simp] theorem dIsi_eq {d : D} {T : String} {μ : Sto} {q : DK} : dIsi [d, .ty T] μ q ↔ T ∈ kinds ∧ ∃ t, tyD μ d = some t ∧ q (.bl (isK t T)) μ := Iff.rfl
theorem dVar_eq {i : Nat} {Γ : DSt} {μ : Sto} {q : DK} {d : D} (h : Γ[i]? = some (some d)) : dVar i Γ μ q ↔ q d μ := by unfold dVar; rw [h]
@[simp] theorem dEqN_ii {f : Bool → Bool} {i j : Int} {μ : Sto} {q : DK} : dEqN f (.int i) (.int j) μ q ↔ q (.bl (f (decide (i = j)))) μ := Iff.rfl
@[simp] theorem dEqN_bb {f : Bool → Bool} {i j : Bool} {μ : Sto} {q : DK} : dEqN f (.bl i) (.bl j) μ q ↔ q (.bl (f (decide (i = j)))) μ := Iff.rfl
@[simp] theorem dEqN_ss {f : Bool → Bool} {i j : Str} {μ : Sto} {q : DK} : dEqN f (.str i) (.str j) μ q ↔ q (.bl (f (decide (i = j)))) μ := Iff.rfl
theorem dEqN_of {f : Bool → Bool} {x y : D} {μ : Sto} {q : DK} (h : eqS x y = none) (hx : shp (rsv μ x) = true) (hy : shp (rsv μ y) = true) (hq : q (.bl (f (PyData.eqv (pyD (rsv μ x)) (pyD (rsv μ y))))) μ) : dEqN f x y μ q := by
  unfold dEqN
  rw [h]
  exact ⟨hx, hy, hq⟩
theorem dIx_of {x y d : D} {μ : Sto} {q : DK} (h : ixOf μ x y = some d) (hz : szS x) (hq : q d μ) : dIx x y μ q := ⟨d, h, hz, hq⟩
@[simp] theorem dIx_tup {xs : List D} {i : Int} {μ : Sto} {q : DK} : dIx (.tup xs) (.int i) μ q ↔ ∃ d, atI xs i = some d ∧ q d μ := ⟨fun ⟨d, h, _, hq⟩ => ⟨d, h, hq⟩, fun ⟨d, h, hq⟩ => ⟨d, h, trivial, hq⟩⟩
@[simp] theorem dIx_fl {xs : List D} {i : Int} {μ : Sto} {q : DK} : dIx (.fl xs) (.int i) μ q ↔ ∃ d, atI xs i = some d ∧ q d μ := ⟨fun ⟨d, h, _, hq⟩ => ⟨d, h, hq⟩, fun ⟨d, h, hq⟩ => ⟨d, h, trivial, hq⟩⟩
@[simp] theorem dAddF_ii {i j : Int} {μ : Sto} {q : DK} : dAddF (.int i) (.int j) μ q ↔ q (.int (i + j)) μ := Iff.rfl
@[simp] theorem dAddF_tt {xs ys : List D} {μ : Sto} {q : DK} : dAddF (.tup xs) (.tup ys) μ q ↔ xs.length + ys.length ≤ sizeLine ∧ q (.tup (xs ++ ys)) μ := Iff.rfl
@[simp] theorem dAddF_ff {xs ys : List D} {μ : Sto} {q : DK} : dAddF (.fl xs) (.fl ys) μ q ↔ xs.length + ys.length ≤ sizeLine ∧ q (.fl (xs ++ ys)) μ := ⟨fun ⟨_, _, h1, h2, h3, h4⟩ => by cases h1; cases h2; exact ⟨h3, h4⟩, fun ⟨h3, h4⟩ => ⟨_, _, rfl, rfl, h3, h4⟩⟩
@[simp] theorem dInt2_ii {C : Int → Int → Prop} {g : Int → Int → D} {i j : Int} {μ : Sto} {q : DK} : dInt2 C g (.int i) (.int j) μ q ↔ C i j ∧ q (g i j) μ := Iff.rfl
@[simp] theorem dInt20_ii {g : Int → Int → D} {i j : Int} {μ : Sto} {q : DK} : dInt20 g (.int i) (.int j) μ q ↔ q (g i j) μ := Iff.rfl
@[simp] theorem dLen_eq {d : D} {μ : Sto} {q : DK} : dLen [d] μ q ↔ ∃ n, lenD μ d = some n ∧ szS d ∧ q (.int (n : Int)) μ := Iff.rfl
@[simp] theorem dNotN_eq {d : D} {μ : Sto} {q : DK} : dNotN d .non μ q ↔ q (.bl (!DL.isNon d)) μ := Iff.rfl
@[simp] theorem dIsN_eq {d : D} {μ : Sto} {q : DK} : dIsN d .non μ q ↔ q (.bl (DL.isNon d)) μ := Iff.rfl
theorem len2 {α : Type} {a b : α} : [a, b].length ≤ sizeLine := Nat.le_of_lt (small1000 (by simp))
theorem szl {n : Nat} (h : n ≤ 1000) : n ≤ sizeLine := Nat.le_of_lt (small1000 h)
@[simp] theorem sz0 : (0 : Nat) ≤ sizeLine := szl (by decide)
@[simp] theorem sz1 : (1 : Nat) ≤ sizeLine := szl (by decide)
@[simp] theorem sz2 : (2 : Nat) ≤ sizeLine := szl (by decide)
@[simp] theorem sz3 : (3 : Nat) ≤ sizeLine := szl (by decide)
@[simp] theorem sz4 : (4 : Nat) ≤ sizeLine := szl (by decide)
@[simp] theorem sz5 : (5 : Nat) ≤ sizeLine := szl (by decide)
@[simp] theorem sz6 : (6 : Nat) ≤ sizeLine := szl (by decide)
@[simp] theorem sz7 : (7 : Nat) ≤ sizeLine := szl (by decide)
@[simp] theorem sz8 : (8 : Nat) ≤ sizeLine := szl (by decide)
theorem ixOf_ref {μ : Sto} {a : Addr} {xs : List D} {i : Int} (h : μ a = some (.lst xs)) : ixOf μ (.ref a) (.int i) = atI xs i := by simp [ixOf, h]
@[simp] theorem szs0 : (0 : Nat) < sizeLine := small1000 (by decide)
@[simp] theorem szs1 : (1 : Nat) < sizeLine := small1000 (by decide)
@[simp] theorem szs2 : (2 : Nat) < sizeLine := small1000 (by decide)
@[simp] theorem szs3 : (3 : Nat) < sizeLine := small1000 (by decide)
@[simp] theorem szs4 : (4 : Nat) < sizeLine := small1000 (by decide)
@[simp] theorem szs5 : (5 : Nat) < sizeLine := small1000 (by decide)
@[simp] theorem szs6 : (6 : Nat) < sizeLine := small1000 (by decide)
@[simp] theorem szs7 : (7 : Nat) < sizeLine := small1000 (by decide)
@[simp] theorem szs8 : (8 : Nat) < sizeLine := small1000 (by decide)
theorem set_swap {μ : Sto} {a b : Addr} {x y z : DO} (h : a ≠ b) : set (set (set μ a x) b y) a z = set (set μ a z) b y := by
  funext c
  unfold DL.set
  by_cases c0 : c = a
  · subst c0; simp [h]
  · simp [c0]
/-- a place of a known list is written -/
theorem set_at {μ : Sto} {a : Addr} {xs : List D} {k : Nat} {v : D} {q : Sto → Prop} (h : μ a = some (.lst xs)) (hk : k < xs.length) (hq : q (set μ a (.lst (xs.set k v)))) : dSet (.ref a) (.int (k : Int)) v μ q := by
  simp [dSet, h]
  exact ⟨k, by unfold ixN; simp [hk], hq⟩
@[simp] theorem rsv_fl {μ : Sto} {ds : List D} : rsv μ (.fl ds) = .fl ds := rfl
@[simp] theorem rsv_tup {μ : Sto} {ds : List D} : rsv μ (.tup ds) = .tup ds := rfl
theorem log2_lt {i : Int} {n k : Nat} (h : i.natAbs < 2 ^ n) (hk : n ≤ k) (h0 : 0 < n) : i.natAbs.log2 < k := by
  by_cases c : i.natAbs = 0
  · rw [c]; have : Nat.log2 0 = 0 := by decide
    omega
  · have := (Nat.log2_lt c).mpr h
    omega
end DL

/-! C71: what each def of k71 answers, over data. -/
namespace K71
open PySem PySem.Spec PyProof.Rows L2 DL
/-! ### numbers, contents, cells -/
def isI : D → Bool
  | .int _ => true
  | _ => false
/-- what a content may hold -/
def Lf : D → Prop
  | .int i => 0 ≤ i ∧ i < 2 ^ 40
  | .bl _ => True
  | _ => False
/-- a content that was drawn: ints -/
def Num (d : D) : Prop := ∃ n : Int, d = .int n ∧ 0 ≤ n ∧ n < 2 ^ 40
def Cts (d : D) : Prop := ∃ vs, d = .tup vs ∧ vs.length ≤ 20 ∧ ∀ v ∈ vs, Num v
def Cell (c : D) : Prop := c = .non ∨ c = .int 7 ∨ c = .str "rot" ∨ c = .tup [] ∨ c = .tup [.int 1, .int 2, .int 3] ∨ ∃ s vs, c = .tup [.int s, .tup vs] ∧ (0 ≤ s ∧ s < 2 ^ 40) ∧ vs.length ≤ 20 ∧ ∀ v ∈ vs, Lf v
def sumI : Int → List D → Int
  | f, [] => f
  | f, .int n :: r => sumI ((f * 65599 + n + 1) % 2147483647) r
  | f, _ :: r => sumI f r
def rightD (spot : Int) : D → Bool
  | .tup [.int s, .tup vs] => vs.all isI && decide (s = sumI (spot + 1) vs)
  | _ => false
def eqD (x y : D) : Bool := PyData.eqv (pyD x) (pyD y)
def ct : D → D
  | .tup [_, d] => d
  | _ => .non
/-- the two copies, each whole or not -/
def whole (spot : Int) (c1 c2 x : D) : Bool × Bool := match x with
  | .non => (rightD spot c1, rightD spot c2 && (!rightD spot c1 || eqD (ct c1) (ct c2)))
  | x => (rightD spot c1 && eqD (ct c1) x, rightD spot c2 && eqD (ct c2) x)
def fateD (spot : Int) (c1 c2 x : D) : Int := match whole spot c1 c2 x with
  | (true, true) => 0
  | (false, true) => 1
  | (true, false) => 2
  | (false, false) => 3
/-- a content told, or none -/
def Ctn (x : D) : Prop := x = .non ∨ Cts x
def rowsD (ps : List (Nat × Int)) : List D := ps.map fun p => .tup [.int (p.1 : Int), .int p.2]
def spotsD (ps : List (Nat × D)) : List D := ps.map fun p => .tup [.int (p.1 : Int), p.2]
/-- the cell at a place -/
def nth (A : List D) (i : Nat) : D := A.getD i .non
def fatesD (A B : List D) (ps : List (Nat × D)) : List (Nat × Int) := ps.map fun p => (p.1, fateD p.1 (nth A p.1) (nth B p.1) p.2)
def SpOk (m : Nat) (ps : List (Nat × D)) : Prop := m ≤ 20 ∧ ps.length ≤ 40 ∧ ∀ p ∈ ps, p.1 < m ∧ Ctn p.2
def Cells (m : Nat) (A : List D) : Prop := A.length = m ∧ ∀ c ∈ A, Cell c
/-! ### rows of a paper -/
def Sm (d : D) : Prop := (∃ i : Int, d = .int i ∧ -100 < i ∧ i < 100) ∨ (∃ b, d = .bl b) ∨ ∃ x, d = .str x ∧ x ∈ (["0", "1", "2", "3"] : List Str)
def Row (r : D) : Prop := (∃ xs, r = .tup xs ∧ xs.length ≤ 3 ∧ ∀ x ∈ xs, Sm x) ∨ ∃ xs, r = .fl xs ∧ xs.length ≤ 3 ∧ ∀ x ∈ xs, Sm x
def Pap (μ : Sto) (p : D) : Prop := p = .non ∨ p = .str "paper" ∨ p = .int 0 ∨ (∃ h, p = .ref h ∧ μ h = some (.dK [])) ∨ (∃ rs, p = .tup rs ∧ rs.length ≤ 200 ∧ ∀ r ∈ rs, Row r ∨ Sm r) ∨ ∃ rs, p = .fl rs ∧ rs.length ≤ 200 ∧ ∀ r ∈ rs, Row r
def isRow : D → Bool
  | .tup [a, b] => isI a && isI b
  | _ => false
def isPap : D → Bool
  | .fl rs => rs.all isRow
  | _ => false
/-! ### likeness -/
def isTup : D → Bool
  | .tup _ => true
  | _ => false
def isB : D → Bool
  | .bl _ => true
  | _ => false
def like (μ : Sto) : Nat → D → D → Bool
  | 0, _, _ => false
  | n + 1, x, y => match sqOf μ x, sqOf μ y with
    | some xs, some ys => (isTup x == isTup y && decide (xs.length = ys.length)) && (List.zipWith (like μ n) xs ys).all _root_.id
    | none, none => (isB x == isB y) && eqD x y
    | _, _ => false
/-- data that may be compared, n deep at most (S: also where a sequence meets a leaf) -/
def Cmp (S : Bool) (μ : Sto) : Nat → D → D → Prop
  | 0, _, _ => False
  | n + 1, x, y => ((∃ t, tyD μ x = some t) ∧ ∃ t, tyD μ y = some t) ∧ match sqOf μ x, sqOf μ y with
    | some xs, some ys => xs.length ≤ 1000 ∧ ys.length ≤ 1000 ∧ ∀ z ∈ xs.zip ys, Cmp S μ n z.1 z.2
    | none, none => shp x = true ∧ shp y = true
    | _, _ => S = true → shp (rsv μ x) = true ∧ shp (rsv μ y) = true
/-! ### the cells due -/
def dueStep (A B : List D) (Y : List D × List D) (p : Nat × Int) : List D × List D := (if p.2 = 1 then Y.1.set p.1 (nth B p.1) else Y.1, if p.2 = 2 then Y.2.set p.1 (nth A p.1) else Y.2)
def dueD (A B : List D) (ps : List (Nat × Int)) : List D × List D := ps.foldl (dueStep A B) (A, B)
def sameL (xs ys : List D) : Bool := decide (xs.length = ys.length) && (List.zipWith (like (fun _ => none) 3) xs ys).all _root_.id
/-! ### the contracts -/
def C_is_number : DSp := fun ds μ q _ => ∃ d t, ds = [d] ∧ tyD μ d = some t ∧ q (.bl (isI d)) μ
def C_is_content : DSp := fun ds μ q _ => ∃ d, ds = [d] ∧ ((∃ vs, d = .tup vs ∧ vs.length ≤ 20 ∧ (∀ v ∈ vs, Lf v) ∧ q (.bl (vs.all isI)) μ) ∨ ((∀ vs, d ≠ .tup vs) ∧ (∃ t, tyD μ d = some t) ∧ q (.bl false) μ))
def C_sum_of : DSp := fun ds μ q _ => ∃ (s : Int) (vs : List D), ds = [.int s, .tup vs] ∧ (0 ≤ s ∧ s < 1000) ∧ (∀ v ∈ vs, Num v) ∧ q (.int (sumI (s + 1) vs)) μ
def C__law_sum : DSp := C_sum_of
def C_is_right : DSp := fun ds μ q _ => ∃ (s : Int) (c : D), ds = [.int s, c] ∧ (0 ≤ s ∧ s < 1000) ∧ Cell c ∧ q (.bl (rightD s c)) μ
def C__law_is_right : DSp := C_is_right
def C_are_whole : DSp := fun ds μ q _ => ∃ (s : Int) (c1 c2 x : D), ds = [.int s, .fl [c1, c2], x] ∧ (0 ≤ s ∧ s < 1000) ∧ Cell c1 ∧ Cell c2 ∧ Ctn x ∧ q (.fl [.bl (whole s c1 c2 x).1, .bl (whole s c1 c2 x).2]) μ
def C_fate_of : DSp := fun ds μ q _ => ∃ (s : Int) (c1 c2 x : D), ds = [.int s, .fl [c1, c2], x] ∧ (0 ≤ s ∧ s < 1000) ∧ Cell c1 ∧ Cell c2 ∧ Ctn x ∧ q (.int (fateD s c1 c2 x)) μ
def C__law_fate : DSp := fun ds μ q _ => ∃ (s : Int) (c1 c2 x : D), ds = [.int s, c1, c2, x] ∧ (0 ≤ s ∧ s < 1000) ∧ Cell c1 ∧ Cell c2 ∧ Ctn x ∧ q (.int (fateD s c1 c2 x)) μ
def C_fates_of : DSp := fun ds μ q _ => ∃ a b A B m ps, ds = [.tup [a, b], .fl (spotsD ps)] ∧ lsOf μ a = some A ∧ lsOf μ b = some B ∧ Cells m A ∧ Cells m B ∧ SpOk m ps ∧ q (.fl (rowsD (fatesD A B ps))) μ
def C_is_paper : DSp := fun ds μ q _ => ∃ p, ds = [p] ∧ Pap μ p ∧ q (.bl (isPap p)) μ
def C_are_same (n : Nat) : DSp := fun ds μ q _ => ∃ x y, ds = [x, y] ∧ Cmp true μ n x y ∧ q (.bl (like μ n x y)) μ
def C__law_like (n : Nat) : DSp := fun ds μ q _ => ∃ x y, ds = [x, y] ∧ Cmp false μ n x y ∧ q (.bl (like μ n x y)) μ
def C_cells_due : DSp := fun ds μ q _ => ∃ a b A B m ps, ds = [.tup [a, b], .fl (rowsD ps)] ∧ lsOf μ a = some A ∧ lsOf μ b = some B ∧ Cells m A ∧ Cells m B ∧ m ≤ 20 ∧ (∀ p ∈ ps, p.1 < m) ∧
  ∀ p0 p1, μ p0 = none → μ p1 = none → p0 ≠ p1 → q (.fl [.ref p0, .ref p1]) (set (set μ p0 (.lst (dueD A B ps).1)) p1 (.lst (dueD A B ps).2))
def mendD (p : D) (A B C E : List D) (ps : List (Nat × D)) : Bool :=
  (isPap p && eqD p (.fl (rowsD (fatesD A B ps)))) && (sameL (dueD A B (fatesD A B ps)).1 C && sameL (dueD A B (fatesD A B ps)).2 E)
def C_mend_holds : DSp := fun ds μ q _ => ∃ p a b c e A B C E m ps, ds = [p, .tup [a, b], .tup [c, e], .fl (spotsD ps)] ∧ Pap μ p ∧ lsOf μ a = some A ∧ lsOf μ b = some B ∧ lsOf μ c = some C ∧ lsOf μ e = some E ∧ Cells m A ∧ Cells m B ∧ Cells m C ∧ Cells m E ∧ SpOk m ps ∧ q (.bl (mendD p A B C E ps)) μ
def C__law_mixed : DSp := fun ds μ q _ => ∃ c k : Int, ds = [.int c, .int k] ∧ (0 ≤ k ∧ k < 10000) ∧ ∀ n : Int, 0 ≤ n → n < 2 ^ 31 → q (.int n) μ
/-- the numbers drawn -/
def Dr (ns : List Int) : Prop := ns.length ≤ 1000000 ∧ ∀ n ∈ ns, 0 ≤ n ∧ n < 2 ^ 31
def C__law_draws : DSp := fun ds μ q _ => ∃ cs : List Int, ds = [.wl (cs.map D.int)] ∧ cs.length ≤ 63 ∧ ∀ a ns, μ a = none → Dr ns → q (.ref a) (set μ a (.lst (ns.map D.int)))
def C__law_next : DSp := fun ds μ q _ => ∃ a ns, ds = [.ref a] ∧ μ a = some (.lst (ns.map D.int)) ∧ Dr ns ∧ ∀ (n : Int) ns', 0 ≤ n → n < 2 ^ 31 → Dr ns' → q (.int n) (set μ a (.lst (ns'.map D.int)))
def Three (d : D) : Prop := ∃ x y z, d = .fl [x, y, z] ∧ Cts x ∧ Cts y ∧ Cts z
def C__law_heads : DSp := fun ds μ q _ => ∃ r m : Int, ds = [.int r, .int m] ∧ (0 ≤ r ∧ r ≤ 1) ∧ (12 ≤ m ∧ m ≤ 20) ∧ ∀ h x y, μ h = none → Three x → Three y → q (.ref h) (set μ h (.dK [(.inl r, x), (.inl (2 + r), y)]))
def Heads (μ : Sto) (h : Addr) (r : Int) : Prop := (0 ≤ r ∧ r ≤ 1) ∧ ∃ x y, μ h = some (.dK [(.inl r, x), (.inl (2 + r), y)]) ∧ Three x ∧ Three y
def C__law_contents : DSp := fun ds μ q _ => ∃ h r, ∃ s : Int, ds = [.ref h, .int s] ∧ Heads μ h r ∧ ∀ x, Three x → q x μ
def C__law_cell : DSp := fun ds μ q _ => ∃ s n : Int, ∃ x, ds = [.int s, .int n, x] ∧ (0 ≤ s ∧ s < 1000) ∧ (0 ≤ n ∧ n < 2 ^ 31) ∧ Three x ∧ ∀ c, Cell c → q c μ
def C__law_spots : DSp := fun ds μ q _ => ∃ a ns h r, ∃ m : Nat, ds = [.ref a, .ref h, .int (m : Int)] ∧ μ a = some (.lst (ns.map D.int)) ∧ Dr ns ∧ Heads μ h r ∧ a ≠ h ∧ (12 ≤ m ∧ m ≤ 20) ∧
  ∀ ps ns', SpOk m ps → Dr ns' → q (.fl (spotsD ps)) (set μ a (.lst (ns'.map D.int)))
def C__law_due : DSp := fun ds μ q _ => ∃ a b A B m ps, ds = [.fl [a, b], .fl (spotsD ps)] ∧ lsOf μ a = some A ∧ lsOf μ b = some B ∧ Cells m A ∧ Cells m B ∧ SpOk m ps ∧
  ∀ p0 p1, μ p0 = none → μ p1 = none → p0 ≠ p1 → q (.fl [.fl (rowsD (fatesD A B ps)), .fl [.ref p0, .ref p1]]) (set (set μ p0 (.lst (dueD A B (fatesD A B ps)).1)) p1 (.lst (dueD A B (fatesD A B ps)).2))
def C__law_row_bent : DSp := fun ds μ q _ => ∃ s f n : Int, ds = [.tup [.int s, .int f], .int n] ∧ (0 ≤ s ∧ s < 20) ∧ (0 ≤ f ∧ f ≤ 3) ∧ 0 ≤ n ∧ ∀ r, Row r → q r μ
def C__law_paper_bent : DSp := fun ds μ q _ => ∃ ps, ∃ n : Int, ds = [.fl (rowsD ps), .int n] ∧ ps.length ≤ 40 ∧ (∀ p ∈ ps, p.1 < 20 ∧ 0 ≤ p.2 ∧ p.2 ≤ 3) ∧ 0 ≤ n ∧ (∀ p, (∀ h, p ≠ .ref h) → Pap μ p → q p μ) ∧ ∀ h, μ h = none → q (.ref h) (set μ h (.dK []))
def C__law_one_for_true : DSp := fun ds μ q _ => ∃ c, ds = [c] ∧ Cell c ∧ ∀ c', Cell c' → q c' μ
def C__law_cells_bent : DSp := fun ds μ q _ => ∃ a b A B h r m, ∃ n : Int, ds = [.fl [.ref a, .ref b], .ref h, .int n] ∧ μ a = some (.lst A) ∧ μ b = some (.lst B) ∧ a ≠ b ∧ Cells m A ∧ Cells m B ∧ (1 ≤ m ∧ m ≤ 20) ∧ Heads μ h r ∧ (0 ≤ n ∧ n < 2 ^ 31) ∧
  ∀ A' B', Cells m A' → Cells m B' → q .non (set (set μ a (.lst A')) b (.lst B'))
def C_law : DSp := fun ds μ q _ => ∃ cs : List Int, ds = [.wl (cs.map D.int)] ∧ cs.length ≤ 63 ∧ (∀ b, μ b = none) ∧ q (.bl true) μ
end K71

namespace K71
open PySem PySem.Spec PyProof.Rows L2 DL
abbrev N_is_number : List Str := ["one"]
def r_is_number : DTS := (dRet (dAndV (dCB dIsi (dCons (dVar 0) (dCons (dC (.ty "int")) dNil))) (dNotV (dCB dIsi (dCons (dVar 0) (dCons (dC (.ty "bool")) dNil))))))
abbrev N_is_content : List Str := ["one", "number"]
def r_is_content : DTS := (dRet (dAndV (dCB dIsi (dCons (dVar 0) (dCons (dC (.ty "tuple")) dNil))) (dCB dAll (dCons (dFz (dLc (dSeqIt (dVar 0)) (dgName 1) dYes (dAndV (dCall C_is_number noX (dCons (dVar 1) dNil)) (dOp dGe (dVar 1) (dC (.int 0)))) [1])) dNil))))
abbrev N_sum_of : List Str := ["spot", "content", "found", "number"]
def r_sum_of : DTS := (dSeq (dAsg (dOp dAddF (dVar 0) (dC (.int 1))) (dgName 2)) (dSeq (dFor (dSeqIt (dVar 1)) (dgName 3) (dAsg (dOp dMod (dOp dAddF (dOp dAddF (dOp dMulI (dVar 2) (dC (.int 65599))) (dVar 3)) (dC (.int 1))) (dC (.int 2147483647))) (dgName 2))) (dRet (dVar 2))))
abbrev N_is_right : List Str := ["spot", "cell"]
def r_is_right : DTS := (dSeq (dIfS (dOr (dNot (dTest (dCB dIsi (dCons (dVar 1) (dCons (dC (.ty "tuple")) dNil))))) (dOr (dTest (dOp dNe (dCB dLen (dCons (dVar 1) dNil)) (dC (.int 2)))) (dNot (dTest (dCall C_is_number noX (dCons (dOp dIx (dVar 1) (dC (.int 0))) dNil)))))) (dRet (dC (.bl false))) dNext) (dRet (dAndV (dCall C_is_content noX (dCons (dOp dIx (dVar 1) (dC (.int 1))) dNil)) (dOp dEq (dOp dIx (dVar 1) (dC (.int 0))) (dCall C_sum_of noX (dCons (dVar 0) (dCons (dOp dIx (dVar 1) (dC (.int 1))) dNil)))))))
abbrev N_are_whole : List Str := ["spot", "cells", "content", "first", "second", "cell"]
def r_are_whole : DTS := (dSeq (dAsg (dFz (dLc (dSeqIt (dVar 1)) (dgName 5) dYes (dCall C_is_right noX (dCons (dVar 0) (dCons (dVar 5) dNil))) [5])) (dgTupL 2 (dgCons (dgName 3) (dgCons (dgName 4) dgNil)))) (dSeq (dIfS (dTest (dOp dNotN (dVar 2) (dC .non))) (dRet (dLstF (dCons (dAndV (dVar 3) (dOp dEq (dOp dIx (dOp dIx (dVar 1) (dC (.int 0))) (dC (.int 1))) (dVar 2))) (dCons (dAndV (dVar 4) (dOp dEq (dOp dIx (dOp dIx (dVar 1) (dC (.int 1))) (dC (.int 1))) (dVar 2))) dNil)))) dNext) (dRet (dLstF (dCons (dVar 3) (dCons (dAndV (dVar 4) (dOrV (dNotV (dVar 3)) (dOp dEq (dOp dIx (dOp dIx (dVar 1) (dC (.int 0))) (dC (.int 1))) (dOp dIx (dOp dIx (dVar 1) (dC (.int 1))) (dC (.int 1)))))) dNil))))))
abbrev N_fate_of : List Str := ["spot", "cells", "content", "first", "second"]
def r_fate_of : DTS := (dSeq (dAsg (dCall C_are_whole noX (dCons (dVar 0) (dCons (dVar 1) (dCons (dVar 2) dNil)))) (dgTupL 2 (dgCons (dgName 3) (dgCons (dgName 4) dgNil)))) (dSeq (dIfS (dAnd (dTest (dVar 3)) (dTest (dVar 4))) (dRet (dC (.int 0))) dNext) (dSeq (dIfS (dTest (dVar 4)) (dRet (dC (.int 1))) dNext) (dSeq (dIfS (dTest (dVar 3)) (dRet (dC (.int 2))) dNext) (dRet (dC (.int 3)))))))
abbrev N_fates_of : List Str := ["ahead", "spots", "found", "spot", "content", "cells"]
def r_fates_of : DTS := (dSeq (dAsg (dLst dNil) (dgName 2)) (dSeq (dFor (dSeqIt (dVar 1)) (dgTup 2 (dgCons (dgName 3) (dgCons (dgName 4) dgNil))) (dDrop (dBM "list" dAppend (dVar 2) (dCons (dTup (dCons (dVar 3) (dCons (dCall C_fate_of noX (dCons (dVar 3) (dCons (dFz (dLc (dSeqIt (dVar 0)) (dgName 5) dYes (dOp dIx (dVar 5) (dVar 3)) [5])) (dCons (dVar 4) dNil)))) dNil))) dNil)))) (dRet (dFz (dVar 2)))))
abbrev N_is_paper : List Str := ["one", "row"]
def r_is_paper : DTS := (dSeq (dIfS (dNot (dTest (dCB dIsi (dCons (dVar 0) (dCons (dC (.ty "list")) dNil))))) (dRet (dC (.bl false))) dNext) (dSeq (dFor (dSeqIt (dVar 0)) (dgName 1) (dIfS (dOr (dNot (dTest (dCB dIsi (dCons (dVar 1) (dCons (dC (.ty "tuple")) dNil))))) (dOr (dTest (dOp dNe (dCB dLen (dCons (dVar 1) dNil)) (dC (.int 2)))) (dOr (dNot (dTest (dCall C_is_number noX (dCons (dOp dIx (dVar 1) (dC (.int 0))) dNil)))) (dNot (dTest (dCall C_is_number noX (dCons (dOp dIx (dVar 1) (dC (.int 1))) dNil))))))) (dRet (dC (.bl false))) dNext)) (dRet (dC (.bl true)))))
abbrev N_are_same : List Str := ["one", "other", "here", "there"]
def r_are_same (C : DSp) : DTS := (dSeq (dIfS (dAnd (dTest (dCB dIsiT (dCons (dVar 0) (dCons (dTup (dCons (dC (.ty "tuple")) (dCons (dC (.ty "list")) dNil))) dNil)))) (dTest (dCB dIsiT (dCons (dVar 1) (dCons (dTup (dCons (dC (.ty "tuple")) (dCons (dC (.ty "list")) dNil))) dNil))))) (dSeq (dIfS (dOr (dTest (dOp dNe (dCB dIsi (dCons (dVar 0) (dCons (dC (.ty "list")) dNil))) (dCB dIsi (dCons (dVar 1) (dCons (dC (.ty "list")) dNil))))) (dTest (dOp dNe (dCB dLen (dCons (dVar 0) dNil)) (dCB dLen (dCons (dVar 1) dNil))))) (dRet (dC (.bl false))) dNext) (dRet (dCB dAll (dCons (dFz (dLc (dZip (dCons (dVar 0) (dCons (dVar 1) dNil))) (dgTup 2 (dgCons (dgName 2) (dgCons (dgName 3) dgNil))) dYes (dCall C noX (dCons (dVar 2) (dCons (dVar 3) dNil))) [2, 3])) dNil)))) dNext) (dRet (dAndV (dOp dEq (dCB dIsi (dCons (dVar 0) (dCons (dC (.ty "bool")) dNil))) (dCB dIsi (dCons (dVar 1) (dCons (dC (.ty "bool")) dNil)))) (dOp dEq (dVar 0) (dVar 1)))))
abbrev N_cells_due : List Str := ["ahead", "fates", "due", "spot", "fate", "cells"]
def r_cells_due : DTS := (dSeq (dFzN 2 (dAsg (dLc (dSeqIt (dVar 0)) (dgName 5) dYes (dCB dLstC (dCons (dVar 5) dNil)) [5]) (dgName 2))) (dSeq (dFor (dSeqIt (dVar 1)) (dgTup 2 (dgCons (dgName 3) (dgCons (dgName 4) dgNil))) (dSeq (dIfS (dTest (dOp dEq (dVar 4) (dC (.int 1)))) (dAsg (dOp dIx (dOp dIx (dVar 0) (dC (.int 1))) (dVar 3)) (dgSub (dOp dIx (dVar 2) (dC (.int 0))) (dVar 3) dSet)) dNext) (dIfS (dTest (dOp dEq (dVar 4) (dC (.int 2)))) (dAsg (dOp dIx (dOp dIx (dVar 0) (dC (.int 0))) (dVar 3)) (dgSub (dOp dIx (dVar 2) (dC (.int 1))) (dVar 3) dSet)) dNext))) (dRet (dVar 2))))
abbrev N_mend_holds : List Str := ["paper", "ahead", "behind", "spots", "due", "cells", "one", "other"]
def r_mend_holds : DTS := (dSeq (dIfS (dOr (dNot (dTest (dCall C_is_paper noX (dCons (dVar 0) dNil)))) (dTest (dOp dNe (dVar 0) (dCall C_fates_of noX (dCons (dVar 1) (dCons (dVar 3) dNil)))))) (dRet (dC (.bl false))) dNext) (dSeq (dFor (dZip (dCons (dCall C_cells_due noX (dCons (dVar 1) (dCons (dVar 0) dNil))) (dCons (dVar 2) dNil))) (dgTup 2 (dgCons (dgName 4) (dgCons (dgName 5) dgNil))) (dIfS (dOr (dTest (dOp dNe (dCB dLen (dCons (dVar 4) dNil)) (dCB dLen (dCons (dVar 5) dNil)))) (dNot (dTest (dCB dAll (dCons (dFz (dLc (dZip (dCons (dVar 4) (dCons (dVar 5) dNil))) (dgTup 2 (dgCons (dgName 6) (dgCons (dgName 7) dgNil))) dYes (dCall (C_are_same 3) noX (dCons (dVar 6) (dCons (dVar 7) dNil))) [6, 7])) dNil))))) (dRet (dC (.bl false))) dNext)) (dRet (dC (.bl true)))))
abbrev N__law_mixed : List Str := ["_law_cell_here", "_law_k", "_law_number"]
def r__law_mixed : DTS := (dSeq (dAsg (dOp dMod (dOp dAddF (dOp dAddF (dOp dMulI (dOp dMod (dVar 0) (dC (.int 2147483647))) (dC (.int 48271))) (dOp dMulI (dOp dMulI (dC (.int 7919)) (dVar 1)) (dVar 1))) (dC (.int 104729))) (dC (.int 2147483647))) (dgName 2)) (dRet (dOp dMod (dOp dMulI (dVar 2) (dVar 2)) (dC (.int 2147483629)))))
abbrev N__law_draws : List Str := ["_law_script", "_law_drawn", "_law_k", "_law_cell_here", "_law_j"]
def r__law_draws : DTS := (dSeq (dAsg (dLst dNil) (dgName 1)) (dSeq (dFor (dRan1 (dCons (dCB dMin2 (dCons (dCB dLen (dCons (dVar 0) dNil)) (dCons (dC (.int 63)) dNil))) dNil)) (dgName 2) (dSeq (dAsg (dCB dAbs (dCons (dOp dIx (dVar 0) (dVar 2)) dNil)) (dgName 3)) (dSeq (dIfS (dTest (dOp dLt (dVar 3) (dOp dPow (dC (.int 10)) (dC (.int 18))))) (dFor (dRan1 (dCons (dC (.int 12)) dNil)) (dgName 4) (dDrop (dBM "list" dAppend (dVar 1) (dCons (dCall C__law_mixed noX (dCons (dCall C__law_mixed noX (dCons (dVar 3) (dCons (dOp dAddF (dOp dMulI (dC (.int 3)) (dVar 4)) (dC (.int 1))) dNil))) (dCons (dOp dAddF (dOp dAddF (dVar 4) (dVar 2)) (dC (.int 2))) dNil))) dNil)))) dNext) (dSeq (dWhile (dAnd (dTest (dOp dGe (dVar 3) (dOp dPow (dC (.int 10)) (dC (.int 18))))) (dTest (dOp dLt (dCB dLen (dCons (dVar 1) dNil)) (dC (.int 900))))) (dSeq (dDrop (dBM "list" dAppend (dVar 1) (dCons (dOp dMod (dVar 3) (dC (.int 2147483629))) dNil))) (dAsg (dOp dDiv (dVar 3) (dC (.int 2147483629))) (dgName 3)))) (dIfS (dTest (dOp dGe (dVar 3) (dC (.int 2147483629)))) (dDrop (dBM "list" dAppend (dVar 1) (dCons (dOp dMod (dVar 3) (dC (.int 2147483629))) dNil))) dNext))))) (dRet (dVar 1))))
abbrev N__law_next : List Str := ["_law_drawn"]
def r__law_next : DTS := (dSeq (dIfS (dTest (dOp dEq (dVar 0) (dLstF dNil))) (dRet (dC (.int 0))) dNext) (dRet (dBM "list" dPopAt (dVar 0) (dCons (dC (.int 0)) dNil))))
abbrev N__law_sum : List Str := ["_law_spot", "_law_content", "_law_total", "_law_number"]
def r__law_sum : DTS := (dSeq (dAsg (dOp dAddF (dVar 0) (dC (.int 1))) (dgName 2)) (dSeq (dFor (dSeqIt (dVar 1)) (dgName 3) (dAsg (dOp dMod (dOp dAddF (dOp dAddF (dOp dMulI (dVar 2) (dC (.int 65599))) (dVar 3)) (dC (.int 1))) (dC (.int 2147483647))) (dgName 2))) (dRet (dVar 2))))
abbrev N__law_heads : List Str := ["_law_root", "_law_many", "_law_zeros", "_law_found"]
def r__law_heads : DTS := (dSeq (dAsg (dOp dRepT (dTup (dCons (dC (.int 0)) dNil)) (dOp dSub (dVar 1) (dC (.int 4)))) (dgName 2)) (dSeq (dAsg (dDisp1 (dVar 0) (dLstF (dCons (dTup (dCons (dOp dAddF (dC (.int 4)) (dVar 0)) (dCons (dC (.int 0)) dNil))) (dCons (dTup (dCons (dOp dAddF (dC (.int 2)) (dVar 0)) (dCons (dC (.int 0)) dNil))) (dCons (dTup (dCons (dOp dAddF (dC (.int 4)) (dVar 0)) (dCons (dC (.int 1)) dNil))) dNil))))) (dgName 3)) (dSeq (dAsg (dLstF (dCons (dOp dAddF (dTup (dCons (dOp dAddF (dC (.int 4)) (dVar 0)) dNil)) (dVar 2)) (dCons (dOp dAddF (dTup (dCons (dOp dAddF (dC (.int 2)) (dVar 0)) dNil)) (dVar 2)) (dCons (dOp dAddF (dTup (dCons (dOp dAddF (dC (.int 4)) (dVar 0)) (dCons (dC (.int 1)) dNil))) (dSlF (dVar 2) (dPart (dC (.int 1))) dNoPart)) dNil)))) (dgSub (dVar 3) (dOp dAddF (dC (.int 2)) (dVar 0)) dSet)) (dRet (dVar 3)))))
abbrev N__law_contents : List Str := ["_law_heads_here", "_law_spot"]
def r__law_contents : DTS := (dSeq (dIfS (dTest (dOp dIn (dVar 1) (dVar 0))) (dRet (dOp dIx (dVar 0) (dVar 1))) dNext) (dRet (dLstF (dCons (dTup (dCons (dC (.int 0)) (dCons (dC (.int 1)) (dCons (dC (.int 2)) dNil)))) (dCons (dTup dNil) (dCons (dTup (dCons (dC (.int 3)) (dCons (dC (.int 1)) (dCons (dC (.int 5)) dNil)))) dNil))))))
abbrev N__law_cell : List Str := ["_law_spot", "_law_number", "_law_contents_here", "_law_content", "_law_right", "_law_odd"]
def r__law_cell : DTS := (dSeq (dAsg (dOp dIx (dVar 2) (dOp dMod (dOp dDiv (dVar 1) (dC (.int 8))) (dC (.int 3)))) (dgName 3)) (dSeq (dAsg (dTup (dCons (dCall C__law_sum noX (dCons (dVar 0) (dCons (dVar 3) dNil))) (dCons (dVar 3) dNil))) (dgName 4)) (dSeq (dAsg (dOp dIx (dLstF (dCons (dTup (dCons (dC (.int 1)) (dCons (dC (.int 2)) (dCons (dC (.int 3)) dNil)))) (dCons (dC (.str "rot")) (dCons (dTup dNil) (dCons (dTup (dCons (dC (.int 1)) (dCons (dTup (dCons (dC (.bl true)) dNil)) dNil))) dNil))))) (dOp dMod (dOp dDiv (dVar 1) (dC (.int 32))) (dC (.int 4)))) (dgName 5)) (dRet (dOp dIx (dLstF (dCons (dVar 4) (dCons (dVar 4) (dCons (dVar 4) (dCons (dVar 4) (dCons (dC .non) (dCons (dC (.int 7)) (dCons (dTup (dCons (dOp dAddF (dOp dIx (dVar 4) (dC (.int 0))) (dC (.int 1))) (dCons (dVar 3) dNil))) (dCons (dVar 5) dNil))))))))) (dOp dMod (dVar 1) (dC (.int 8))))))))
abbrev N__law_is_right : List Str := ["_law_spot", "_law_cell_here", "_law_one"]
def r__law_is_right : DTS := (dSeq (dIfS (dOr (dNot (dTest (dCB dIsi (dCons (dVar 1) (dCons (dC (.ty "tuple")) dNil))))) (dTest (dOp dNe (dCB dLen (dCons (dVar 1) dNil)) (dC (.int 2))))) (dRet (dC (.bl false))) dNext) (dSeq (dIfS (dOr (dTest (dCB dIsi (dCons (dOp dIx (dVar 1) (dC (.int 0))) (dCons (dC (.ty "bool")) dNil)))) (dNot (dTest (dCB dIsi (dCons (dOp dIx (dVar 1) (dC (.int 0))) (dCons (dC (.ty "int")) dNil)))))) (dRet (dC (.bl false))) dNext) (dSeq (dIfS (dOr (dNot (dTest (dCB dIsi (dCons (dOp dIx (dVar 1) (dC (.int 1))) (dCons (dC (.ty "tuple")) dNil))))) (dTest (dOp dNe (dFz (dLc (dSeqIt (dOp dIx (dVar 1) (dC (.int 1)))) (dgName 2) (dTest (dCB dIsi (dCons (dVar 2) (dCons (dC (.ty "bool")) dNil)))) (dVar 2) [2])) (dLstF dNil)))) (dRet (dC (.bl false))) dNext) (dRet (dOp dEq (dOp dIx (dVar 1) (dC (.int 0))) (dCall C__law_sum noX (dCons (dVar 0) (dCons (dOp dIx (dVar 1) (dC (.int 1))) dNil))))))))
abbrev N__law_fate : List Str := ["_law_spot", "_law_first", "_law_second", "_law_content", "_law_good"]
def r__law_fate : DTS := (dSeq (dAsg (dLstF (dCons (dCall C__law_is_right noX (dCons (dVar 0) (dCons (dVar 1) dNil))) (dCons (dCall C__law_is_right noX (dCons (dVar 0) (dCons (dVar 2) dNil))) dNil))) (dgName 4)) (dSeq (dIfS (dTest (dOp dNotN (dVar 3) (dC .non))) (dAsg (dLstF (dCons (dAndV (dOp dIx (dVar 4) (dC (.int 0))) (dOp dEq (dOp dIx (dVar 1) (dC (.int 1))) (dVar 3))) (dCons (dAndV (dOp dIx (dVar 4) (dC (.int 1))) (dOp dEq (dOp dIx (dVar 2) (dC (.int 1))) (dVar 3))) dNil))) (dgName 4)) (dIfS (dAnd (dTest (dOp dEq (dVar 4) (dLstF (dCons (dC (.bl true)) (dCons (dC (.bl true)) dNil))))) (dTest (dOp dNe (dOp dIx (dVar 1) (dC (.int 1))) (dOp dIx (dVar 2) (dC (.int 1)))))) (dAsg (dLstF (dCons (dC (.bl true)) (dCons (dC (.bl false)) dNil))) (dgName 4)) dNext)) (dRet (dOp dIx (dOp dIx (dLstF (dCons (dLstF (dCons (dC (.int 3)) (dCons (dC (.int 1)) dNil))) (dCons (dLstF (dCons (dC (.int 2)) (dCons (dC (.int 0)) dNil))) dNil))) (dCB dIntC (dCons (dOp dIx (dVar 4) (dC (.int 0))) dNil))) (dCB dIntC (dCons (dOp dIx (dVar 4) (dC (.int 1))) dNil))))))
abbrev N__law_spots : List Str := ["_law_drawn", "_law_heads_here", "_law_many", "_law_found", "_law_spot", "_law_number"]
def r__law_spots : DTS := (dSeq (dAsg (dLc (dSeqIt (dSortKI (dVar 1))) (dgName 4) dYes (dTup (dCons (dVar 4) (dCons (dOp dIx (dOp dIx (dVar 1) (dVar 4)) (dC (.int 0))) dNil))) [4]) (dgName 3)) (dSeq (dFor (dRan2 (dCons (dC (.int 4)) (dCons (dVar 2) dNil))) (dgName 4) (dSeq (dAsg (dCall C__law_next noX (dCons (dVar 0) dNil)) (dgName 5)) (dIfS (dTest (dOp dNe (dOp dMod (dVar 5) (dC (.int 3))) (dC (.int 0)))) (dDrop (dBM "list" dAppend (dVar 3) (dCons (dTup (dCons (dVar 4) (dCons (dOp dIx (dLstF (dCons (dC .non) (dCons (dTup (dCons (dC (.int 0)) (dCons (dC (.int 1)) (dCons (dC (.int 2)) dNil)))) (dCons (dTup dNil) (dCons (dTup (dCons (dC (.int 3)) (dCons (dC (.int 1)) (dCons (dC (.int 5)) dNil)))) dNil))))) (dOp dMod (dOp dDiv (dVar 5) (dC (.int 3))) (dC (.int 4)))) dNil))) dNil))) dNext))) (dRet (dFz (dVar 3)))))
abbrev N__law_due : List Str := ["_law_cells", "_law_spots_here", "_law_paper", "_law_later", "_law_spot", "_law_content", "_law_fate_here"]
def r__law_due : DTS := (dSeq (dAsg (dLst dNil) (dgName 2)) (dSeq (dAsg (dLstF (dCons (dCB dLstC (dCons (dOp dIx (dVar 0) (dC (.int 0))) dNil)) (dCons (dCB dLstC (dCons (dOp dIx (dVar 0) (dC (.int 1))) dNil)) dNil))) (dgName 3)) (dSeq (dFor (dSeqIt (dVar 1)) (dgTup 2 (dgCons (dgName 4) (dgCons (dgName 5) dgNil))) (dSeq (dAsg (dCall C__law_fate noX (dCons (dVar 4) (dCons (dOp dIx (dOp dIx (dVar 0) (dC (.int 0))) (dVar 4)) (dCons (dOp dIx (dOp dIx (dVar 0) (dC (.int 1))) (dVar 4)) (dCons (dVar 5) dNil))))) (dgName 6)) (dSeq (dDrop (dBM "list" dAppend (dVar 2) (dCons (dTup (dCons (dVar 4) (dCons (dVar 6) dNil))) dNil))) (dSeq (dIfS (dTest (dOp dEq (dVar 6) (dC (.int 1)))) (dAsg (dOp dIx (dOp dIx (dVar 0) (dC (.int 1))) (dVar 4)) (dgSub (dOp dIx (dVar 3) (dC (.int 0))) (dVar 4) dSet)) dNext) (dIfS (dTest (dOp dEq (dVar 6) (dC (.int 2)))) (dAsg (dOp dIx (dOp dIx (dVar 0) (dC (.int 0))) (dVar 4)) (dgSub (dOp dIx (dVar 3) (dC (.int 1))) (dVar 4) dSet)) dNext))))) (dRet (dLstF (dCons (dFz (dVar 2)) (dCons (dVar 3) dNil)))))))
abbrev N__law_row_bent : List Str := ["_law_row", "_law_number", "_law_spot", "_law_fate_here", "_law_other", "_law_menu"]
def r__law_row_bent : DTS := (dSeq (dAsg (dVar 0) (dgTup 2 (dgCons (dgName 2) (dgCons (dgName 3) dgNil)))) (dSeq (dAsg (dTup (dCons (dVar 2) (dCons (dOp dMod (dOp dAddF (dOp dAddF (dVar 3) (dC (.int 1))) (dOp dMod (dOp dDiv (dVar 1) (dC (.int 8))) (dC (.int 3)))) (dC (.int 4))) dNil))) (dgName 4)) (dSeq (dAsg (dLstF (dCons (dVar 4) (dCons (dVar 4) (dCons (dTup (dCons (dVar 2) (dCons (dOp dEq (dVar 3) (dC (.int 1))) dNil))) (dCons (dTup (dCons (dOp dAddF (dVar 2) (dC (.int 1))) (dCons (dVar 3) dNil))) (dCons (dTup (dCons (dVar 2) (dCons (dVar 3) (dCons (dC (.int 0)) dNil)))) dNil)))))) (dgName 5)) (dSeq (dAsg (dOp dAddF (dVar 5) (dLstF (dCons (dLstF (dCons (dVar 2) (dCons (dVar 3) dNil))) (dCons (dTup (dCons (dVar 2) (dCons (dCB dStrI (dCons (dVar 3) dNil)) dNil))) dNil)))) (dgName 5)) (dRet (dOp dIx (dOp dAddF (dVar 5) (dLstF (dCons (dTup (dCons (dOp dEq (dVar 2) (dC (.int 1))) (dCons (dVar 3) dNil))) dNil))) (dOp dMod (dVar 1) (dC (.int 8)))))))))
abbrev N__law_paper_bent : List Str := ["_law_paper", "_law_number", "_law_at", "_law_way", "_law_back", "_law_row"]
def r__law_paper_bent : DTS := (dSeq (dAsg (dOp dMod (dOp dDiv (dVar 1) (dC (.int 8))) (dCB dMax2 (dCons (dC (.int 1)) (dCons (dCB dLen (dCons (dVar 0) dNil)) dNil)))) (dgName 2)) (dSeq (dAsg (dOp dMod (dVar 1) (dC (.int 8))) (dgName 3)) (dSeq (dIfS (dOr (dTest (dOp dEq (dVar 0) (dLstF dNil))) (dTest (dOp dEq (dVar 3) (dC (.int 7))))) (dRet (dOp dIx (dLstF (dCons (dTup dNil) (dCons (dC .non) (dCons (dC (.str "paper")) (dCons dNewK (dCons (dC (.int 0)) (dCons (dOp dAddF (dVar 0) (dLstF (dCons (dTup (dCons (dC (.int 0)) (dCons (dC (.int 0)) dNil))) dNil))) (dCons (dTup (dCons (dC (.int 0)) (dCons (dC (.int 0)) dNil))) dNil)))))))) (dOp dMod (dOp dDiv (dVar 1) (dC (.int 64))) (dC (.int 7))))) dNext) (dSeq (dIfS (dTest (dOp dEq (dVar 3) (dC (.int 0)))) (dRet (dOp dAddF (dSlF (dVar 0) dNoPart (dPart (dVar 2))) (dSlF (dVar 0) (dPart (dOp dAddF (dVar 2) (dC (.int 1)))) dNoPart))) dNext) (dSeq (dIfS (dTest (dOp dEq (dVar 3) (dC (.int 1)))) (dRet (dOp dAddF (dSlF (dVar 0) dNoPart (dPart (dOp dAddF (dVar 2) (dC (.int 1))))) (dSlF (dVar 0) (dPart (dVar 2)) dNoPart))) dNext) (dSeq (dIfS (dTest (dOp dEq (dVar 3) (dC (.int 2)))) (dSeq (dAsg (dOp dAddF (dLstF (dCons (dOp dIx (dVar 0) (dVar 2)) dNil)) (dSlF (dVar 0) (dPart (dOp dAddF (dVar 2) (dC (.int 2)))) dNoPart)) (dgName 4)) (dRet (dOp dAddF (dOp dAddF (dSlF (dVar 0) dNoPart (dPart (dVar 2))) (dSlF (dVar 0) (dPart (dOp dAddF (dVar 2) (dC (.int 1)))) (dPart (dOp dAddF (dVar 2) (dC (.int 2)))))) (dVar 4)))) dNext) (dSeq (dIfS (dTest (dOp dEq (dVar 3) (dC (.int 3)))) (dRet (dCB dTupC (dCons (dVar 0) dNil))) dNext) (dSeq (dAsg (dCall C__law_row_bent noX (dCons (dOp dIx (dVar 0) (dVar 2)) (dCons (dOp dDiv (dVar 1) (dC (.int 64))) dNil))) (dgName 5)) (dRet (dOp dAddF (dOp dAddF (dSlF (dVar 0) dNoPart (dPart (dVar 2))) (dLstF (dCons (dVar 5) dNil))) (dSlF (dVar 0) (dPart (dOp dAddF (dVar 2) (dC (.int 1)))) dNoPart)))))))))))
abbrev N__law_one_for_true : List Str := ["_law_cell_here", "_law_content", "_law_one"]
def r__law_one_for_true : DTS := (dSeq (dIfS (dAnd (dTest (dCB dIsi (dCons (dVar 0) (dCons (dC (.ty "tuple")) dNil)))) (dAnd (dTest (dOp dEq (dCB dLen (dCons (dVar 0) dNil)) (dC (.int 2)))) (dTest (dCB dIsi (dCons (dOp dIx (dVar 0) (dC (.int 1))) (dCons (dC (.ty "tuple")) dNil)))))) (dSeq (dFzN 1 (dAsg (dLc (dSeqIt (dOp dIx (dVar 0) (dC (.int 1)))) (dgName 2) dYes (dOp dIx (dLstF (dCons (dVar 2) (dCons (dC (.bl true)) dNil))) (dCB dIntC (dCons (dOp dEq (dVar 2) (dC (.int 1))) dNil))) [2]) (dgName 1))) (dRet (dTup (dCons (dOp dIx (dVar 0) (dC (.int 0))) (dCons (dCB dTupC (dCons (dVar 1) dNil)) dNil))))) dNext) (dRet (dVar 0)))
abbrev N__law_cells_bent : List Str := ["_law_cells", "_law_heads_here", "_law_number", "_law_copy", "_law_spot"]
def r__law_cells_bent : DTS := (dSeq (dAsg (dOp dMod (dVar 2) (dC (.int 2))) (dgName 3)) (dSeq (dAsg (dOp dMod (dOp dDiv (dVar 2) (dC (.int 2))) (dCB dLen (dCons (dOp dIx (dVar 0) (dVar 3)) dNil))) (dgName 4)) (dIfS (dTest (dOp dEq (dOp dMod (dOp dDiv (dVar 2) (dC (.int 64))) (dC (.int 4))) (dC (.int 0)))) (dAsg (dCall C__law_one_for_true noX (dCons (dOp dIx (dOp dIx (dVar 0) (dVar 3)) (dVar 4)) dNil)) (dgSub (dOp dIx (dVar 0) (dVar 3)) (dVar 4) dSet)) (dAsg (dCall C__law_cell noX (dCons (dVar 4) (dCons (dOp dDiv (dVar 2) (dC (.int 256))) (dCons (dCall C__law_contents noX (dCons (dVar 1) (dCons (dVar 4) dNil))) dNil)))) (dgSub (dOp dIx (dVar 0) (dVar 3)) (dVar 4) dSet)))))
abbrev N__law_like : List Str := ["_law_one", "_law_other", "_law_here", "_law_there"]
def r__law_like (C : DSp) : DTS := (dSeq (dIfS (dTest (dOp dNe (dCB dIsi (dCons (dVar 0) (dCons (dC (.ty "tuple")) dNil))) (dCB dIsi (dCons (dVar 1) (dCons (dC (.ty "tuple")) dNil))))) (dRet (dC (.bl false))) dNext) (dSeq (dIfS (dTest (dOp dNe (dCB dIsi (dCons (dVar 0) (dCons (dC (.ty "list")) dNil))) (dCB dIsi (dCons (dVar 1) (dCons (dC (.ty "list")) dNil))))) (dRet (dC (.bl false))) dNext) (dSeq (dIfS (dOr (dTest (dCB dIsi (dCons (dVar 0) (dCons (dC (.ty "tuple")) dNil)))) (dTest (dCB dIsi (dCons (dVar 0) (dCons (dC (.ty "list")) dNil))))) (dSeq (dIfS (dTest (dOp dNe (dCB dLen (dCons (dVar 0) dNil)) (dCB dLen (dCons (dVar 1) dNil)))) (dRet (dC (.bl false))) dNext) (dRet (dCB dAll (dCons (dFz (dLc (dZip (dCons (dVar 0) (dCons (dVar 1) dNil))) (dgTup 2 (dgCons (dgName 2) (dgCons (dgName 3) dgNil))) dYes (dCall C noX (dCons (dVar 2) (dCons (dVar 3) dNil))) [2, 3])) dNil)))) dNext) (dRet (dAndV (dOp dEq (dCB dIsi (dCons (dVar 0) (dCons (dC (.ty "bool")) dNil))) (dCB dIsi (dCons (dVar 1) (dCons (dC (.ty "bool")) dNil)))) (dOp dEq (dVar 0) (dVar 1)))))))
abbrev N_law : List Str := ["_law_script", "_law_drawn", "_law_number", "_law_many", "_law_heads_here", "_law_ahead", "_law_spot", "_law_contents_here", "_law_spots_here", "_law_due_here", "_law_due_cells", "_law_paper", "_law_later", "_law_handed", "_law_told", "_law_cells"]
def r_law_17 : DTS := (dRet (dOp dEq (dVar 14) (dAndV (dCall (C__law_like 5) noX (dCons (dVar 11) (dCons (dVar 9) dNil))) (dCall (C__law_like 5) noX (dCons (dVar 12) (dCons (dVar 10) dNil))))))
def r_law_16 : DTS := (dSeq (dIfS (dOr (dNot (dTest (dCB dIsi (dCons (dVar 14) (dCons (dC (.ty "bool")) dNil))))) (dTest (dOp dNe (dVar 13) (dLstF (dCons (dCB dStr (dCons (dVar 11) dNil)) (dCons (dCB dStr (dCons (dVar 5) dNil)) (dCons (dCB dStr (dCons (dVar 12) dNil)) (dCons (dCB dStr (dCons (dVar 8) dNil)) dNil)))))))) (dRet (dC (.bl false))) dNext) r_law_17)
def r_law_15 : DTS := (dSeq (dAsg (dCall C_mend_holds noX (dCons (dVar 11) (dCons (dTup (dCons (dOp dIx (dVar 5) (dC (.int 0))) (dCons (dOp dIx (dVar 5) (dC (.int 1))) dNil))) (dCons (dTup (dCons (dOp dIx (dVar 12) (dC (.int 0))) (dCons (dOp dIx (dVar 12) (dC (.int 1))) dNil))) (dCons (dVar 8) dNil))))) (dgName 14)) r_law_16)
def r_law_14 : DTS := (dSeq (dAsg (dLstF (dCons (dCB dStr (dCons (dVar 11) dNil)) (dCons (dCB dStr (dCons (dVar 5) dNil)) (dCons (dCB dStr (dCons (dVar 12) dNil)) (dCons (dCB dStr (dCons (dVar 8) dNil)) dNil))))) (dgName 13)) r_law_15)
def r_law_13 : DTS := (dSeq (dIfS (dTest (dOp dEq (dOp dMod (dOp dDiv (dVar 2) (dC (.int 4))) (dC (.int 4))) (dC (.int 3)))) (dDrop (dCall C__law_cells_bent noX (dCons (dVar 12) (dCons (dVar 4) (dCons (dCall C__law_next noX (dCons (dVar 1) dNil)) dNil))))) dNext) r_law_14)
def r_law_12 : DTS := (dSeq (dIfS (dTest (dOp dGt (dOp dMod (dVar 2) (dC (.int 4))) (dC (.int 1)))) (dAsg (dCall C__law_paper_bent noX (dCons (dVar 11) (dCons (dCall C__law_next noX (dCons (dVar 1) dNil)) dNil))) (dgName 11)) dNext) r_law_13)
def r_law_11 : DTS := (dSeq (dAsg (dCall C__law_next noX (dCons (dVar 1) dNil)) (dgName 2)) r_law_12)
def r_law_10 : DTS := (dSeq (dFzN 12 (dAsg (dLc (dSeqIt (dVar 10)) (dgName 15) dYes (dCB dLstC (dCons (dVar 15) dNil)) [15]) (dgName 12))) r_law_11)
def r_law_9 : DTS := (dSeq (dAsg (dFz (dCB dLstC (dCons (dVar 9) dNil))) (dgName 11)) r_law_10)
def r_law_8 : DTS := (dSeq (dAsg (dCall C__law_due noX (dCons (dVar 5) (dCons (dVar 8) dNil))) (dgTupL 2 (dgCons (dgName 9) (dgCons (dgName 10) dgNil)))) r_law_9)
def r_law_7 : DTS := (dSeq (dAsg (dCall C__law_spots noX (dCons (dVar 1) (dCons (dVar 4) (dCons (dVar 3) dNil)))) (dgName 8)) r_law_8)
def r_law_6 : DTS := (dSeq (dFor (dRan1 (dCons (dVar 3) dNil)) (dgName 6) (dSeq (dAsg (dCall C__law_contents noX (dCons (dVar 4) (dCons (dVar 6) dNil))) (dgName 7)) (dSeq (dDrop (dBM "list" dAppend (dOp dIx (dVar 5) (dC (.int 0))) (dCons (dCall C__law_cell noX (dCons (dVar 6) (dCons (dCall C__law_next noX (dCons (dVar 1) dNil)) (dCons (dVar 7) dNil)))) dNil))) (dDrop (dBM "list" dAppend (dOp dIx (dVar 5) (dC (.int 1))) (dCons (dCall C__law_cell noX (dCons (dVar 6) (dCons (dCall C__law_next noX (dCons (dVar 1) dNil)) (dCons (dVar 7) dNil)))) dNil)))))) r_law_7)
def r_law_5 : DTS := (dSeq (dAsg (dLstF (dCons (dLst dNil) (dCons (dLst dNil) dNil))) (dgName 5)) r_law_6)
def r_law_4 : DTS := (dSeq (dAsg (dCall C__law_heads noX (dCons (dOp dMod (dVar 2) (dC (.int 2))) (dCons (dVar 3) dNil))) (dgName 4)) r_law_5)
def r_law_3 : DTS := (dSeq (dAsg (dOp dAddF (dC (.int 12)) (dOp dMod (dOp dDiv (dVar 2) (dC (.int 2))) (dC (.int 9)))) (dgName 3)) r_law_4)
def r_law_2 : DTS := (dSeq (dAsg (dCall C__law_next noX (dCons (dVar 1) dNil)) (dgName 2)) r_law_3)
def r_law : DTS := (dSeq (dAsg (dCall C__law_draws noX (dCons (dVar 0) dNil)) (dgName 1)) r_law_2)
end K71

namespace K71
open PySem PySem.Spec PyProof.Rows L2 DL
theorem fwd {q : DK} {d : D} {μ : Sto} (h : q d μ) : ∃ μ'', DL.Sub μ'' μ ∧ q d μ'' := ⟨μ, .refl μ, h⟩
theorem isI_ty {μ : Sto} {d : D} {t : String} (h : tyD μ d = some t) : isI d = (isK t "int" && !isK t "bool") := by
  cases d with
  | ref a =>
    have e : (μ a).bind tyO = some t := h
    obtain ⟨o, h1, h2⟩ := Option.bind_eq_some_iff.mp e
    cases o <;> cases h2 <;> rfl
  | ty _ => cases h
  | _ => cases h; rfl
theorem l_is_number : ∀ ds μ q x, C_is_number ds μ q x → ds.length = 1 := by
  rintro _ μ q x ⟨d, t, rfl, _⟩; rfl
theorem m_is_number : ∀ ds μ q x, C_is_number ds μ q x → r_is_number (dends q) (dstart N_is_number ds) μ := by
  rintro _ μ q x ⟨d, t, rfl, ht, h⟩
  rw [isI_ty ht] at h
  simp [r_is_number, ht, kinds]
  cases e1 : isK t "int" <;> simp [e1] at h ⊢ <;> exact fwd h
theorem lf_ty {d : D} (h : Lf d) {μ : Sto} : ∃ t, tyD μ d = some t := by
  cases d <;> first | exact ⟨_, rfl⟩ | exact h.elim
theorem num_lf {d : D} (h : Num d) : Lf d := by obtain ⟨n, rfl, h1, h2⟩ := h; exact ⟨h1, h2⟩
theorem szl20 {n : Nat} (h : n ≤ 1000) : n ≤ sizeLine := Nat.le_of_lt (small1000 h)
theorem l_is_content : ∀ ds μ q x, C_is_content ds μ q x → ds.length = 1 := by
  rintro _ μ q x ⟨d, rfl, _⟩; rfl
theorem all_map_bl {α : Type} (f : α → Bool) : ∀ xs : List α, (xs.filterMap fun x => some (D.bl (f x))) = (xs.map f).map D.bl
  | [] => rfl
  | x :: xs => by simp [all_map_bl f xs]
theorem all_ids {α : Type} (f : α → Bool) (xs : List α) : (xs.map f).all _root_.id = xs.all f := by rw [List.all_map]; rfl
theorem m_is_content : ∀ ds μ q x, C_is_content ds μ q x → r_is_content (dends q) (dstart N_is_content ds) μ := by
  rintro _ μ q x ⟨d, rfl, h⟩
  rcases h with ⟨vs, rfl, hl, hv, h⟩ | ⟨hn, ⟨t, ht⟩, h⟩
  · simp [r_is_content, tyD, isK, kinds]
    refine fz_lc (d := .tup vs) (ds := vs) (fun v => some (.bl (isI v))) (fun k hk => hk) rfl (fun v hv' μ' s k hk => ?_) (szl20 (by omega)) ?_
    · obtain ⟨t, ht⟩ := lf_ty (hv v hv') (μ := μ')
      simp [elD]
      refine ⟨v, t, rfl, ht, ?_⟩
      cases v with
      | int i => have := (hv _ hv').1; simp [isI, dInt20, this, hk]; simpa [isI] using hk
      | _ => simpa [isI] using hk
    · rw [all_map_bl]
      refine ⟨_, rfl, ?_⟩
      rw [all_ids]
      exact fwd h
  · have e : isK t "tuple" = false := by
      cases d with
      | tup vs => exact absurd rfl (hn vs)
      | ref a =>
        have e : (μ a).bind tyO = some t := ht
        obtain ⟨o, h1, h2⟩ := Option.bind_eq_some_iff.mp e
        cases o <;> cases h2 <;> rfl
      | ty _ => cases ht
      | _ => cases ht; rfl
    simp [r_is_content, ht, kinds, e]
    exact fwd h
theorem l_sum_of : ∀ ds μ q x, C_sum_of ds μ q x → ds.length = 2 := by
  rintro _ μ q x ⟨s, vs, rfl, _⟩; rfl
theorem mulOk {i : Int} (h0 : 0 ≤ i) (h : i < 2 ^ 40) : CMulW i 65599 := by
  unfold CMulW
  have h1 : i.natAbs.log2 < 900000 := log2_lt (n := 40) (by omega) (by omega) (by omega)
  have h2 : (65599 : Int).natAbs.log2 < 100000 := by decide
  omega
theorem m_sum_of : ∀ ds μ q x, C_sum_of ds μ q x → r_sum_of (dends q) (dstart N_sum_of ds) μ := by
  rintro _ μ q x ⟨s, vs, rfl, hs, hv, h⟩
  simp [r_sum_of]
  show forD _ _ _ _ vs _ _
  refine forD_by (fun xs Γ μ' => ∃ (f : Int) (o : Option D), Γ = [some (.int s), some (.tup vs), some (.int f), o] ∧ μ' = μ ∧ (0 ≤ f ∧ f < 2 ^ 31) ∧ (∀ v ∈ xs, Num v) ∧ q (.int (sumI f xs)) μ) (fun Γ μ' h => ?_) (fun v xs Γ μ' h => ?_) vs _ _ ⟨s + 1, none, rfl, rfl, (by omega), hv, h⟩
  · obtain ⟨f, o, rfl, rfl, hf, _, h⟩ := h
    exact ⟨trivial, by simpa [sumI] using fwd h⟩
  · obtain ⟨f, o, rfl, rfl, hf, hx, h⟩ := h
    obtain ⟨n, rfl, n0, n1⟩ := hx v List.mem_cons_self
    refine ⟨trivial, fun F hF => ?_⟩
    simp
    refine ⟨mulOk hf.1 (by omega), hF _ _ ⟨_, _, rfl, rfl, ⟨Int.emod_nonneg _ (by omega), ?_⟩, fun y hy => hx y (List.mem_cons_of_mem _ hy), h⟩⟩
    have := Int.emod_lt_of_pos (f * 65599 + n + 1) (show (0:Int) < 2147483647 by omega)
    omega
theorem l__law_sum : ∀ ds μ q x, C__law_sum ds μ q x → ds.length = 2 := l_sum_of
theorem m__law_sum : ∀ ds μ q x, C__law_sum ds μ q x → r__law_sum (dends q) (dstart N__law_sum ds) μ := m_sum_of
theorem l_is_right : ∀ ds μ q x, C_is_right ds μ q x → ds.length = 2 := by
  rintro _ μ q x ⟨s, c, rfl, _⟩; rfl
theorem num_of_all {vs : List D} (h : ∀ v ∈ vs, Lf v) (e : vs.all isI = true) : ∀ v ∈ vs, Num v := fun v hv => by
  have h1 := h v hv
  have h2 := List.all_eq_true.mp e v hv
  cases v with
  | int i => exact ⟨i, rfl, h1⟩
  | _ => cases h2
theorem m_is_right : ∀ ds μ q x, C_is_right ds μ q x → r_is_right (dends q) (dstart N_is_right ds) μ := by
  rintro _ μ q x ⟨s, c, rfl, hs, hc, h⟩
  rcases hc with rfl | rfl | rfl | rfl | rfl | ⟨i, vs, rfl, hi, hl, hv⟩
  · simp [r_is_right, tyD, isK, kinds]
    exact fwd h
  · simp [r_is_right, tyD, isK, kinds]
    exact fwd h
  · simp [r_is_right, tyD, isK, kinds]
    exact fwd h
  · simp [r_is_right, tyD, isK, kinds, lenD, szS]
    exact fwd h
  · simp [r_is_right, tyD, isK, kinds, lenD, szS]
    exact fwd h
  · simp [r_is_right, tyD, isK, kinds, lenD, szS]
    refine ⟨_, _, rfl, rfl, ?_⟩
    simp [isI]
    refine ⟨_, rfl, .inl ⟨vs, rfl, hl, hv, ?_⟩⟩
    cases e : vs.all isI with
    | false =>
      simp
      have h' : rightD s (.tup [.int i, .tup vs]) = false := by simp [rightD, e]
      rw [h'] at h
      exact fwd h
    | true =>
      simp
      refine ⟨s, vs, rfl, hs, num_of_all hv e, ?_⟩
      simp
      have h' : rightD s (.tup [.int i, .tup vs]) = decide (i = sumI (s + 1) vs) := by simp [rightD, e]
      rw [h'] at h
      exact fwd h
end K71

namespace K71
open PySem PySem.Spec PyProof.Rows L2 DL
theorem l__law_is_right : ∀ ds μ q x, C__law_is_right ds μ q x → ds.length = 2 := l_is_right
theorem plns_bl : ∀ {vs : List D}, (∀ v ∈ vs, Lf v) → plns vs = true
  | [], _ => rfl
  | v :: vs, h => by
    rw [plns, plns_bl fun x hx => h x (List.mem_cons_of_mem _ hx), Bool.and_true]
    have := h v List.mem_cons_self
    cases v <;> first | rfl | exact this.elim
theorem lay_lf : ∀ {vs : List D}, (∀ v ∈ vs, Lf v) → PyData.canLayAll0 (pyDs vs) = true ∧ PyData.depthAll (pyDs vs) = 0
  | [], _ => ⟨rfl, rfl⟩
  | v :: vs, h => by
    obtain ⟨h1, h2⟩ := lay_lf fun x hx => h x (List.mem_cons_of_mem _ hx)
    have := h v List.mem_cons_self
    rw [pyDs, PyData.canLayAll0, PyData.depthAll, h1, h2]
    cases v <;> first | exact ⟨rfl, rfl⟩ | exact this.elim
theorem shp_lfs {vs : List D} (h : ∀ v ∈ vs, Lf v) : shp (.fl vs) = true ∧ shp (.tup vs) = true := by
  obtain ⟨h1, h2⟩ := lay_lf h
  have h3 := plns_bl h
  constructor <;> simp [shp, pln, h3, SeqAt.shaped, pyD, PyData.canLay0, PyData.depth, h1, h2]
theorem eqv_nil {ds : List D} : PyData.eqv (pyD (.fl ds)) (pyD (.fl [])) = ds.isEmpty := by
  cases ds <;> simp [pyD, pyDs, PyData.eqv, PyData.eqvAll]
theorem dNe_nil {vs : List D} {μ : Sto} {q : DK} (hv : ∀ v ∈ vs, Lf v) (h : q (.bl (!vs.isEmpty)) μ) : dNe (.fl vs) (.fl []) μ q := by
  unfold dNe dEqN
  simp only [eqS]
  refine ⟨(shp_lfs hv).1, (shp_lfs (vs := []) (by simp)).1, ?_⟩
  show q (.bl (!PyData.eqv (pyD (.fl vs)) (pyD (.fl [])))) μ
  rw [eqv_nil]
  exact h
theorem bools_empty {vs : List D} (h : ∀ v ∈ vs, Lf v) : (vs.filterMap fun v => if isB v = true then some v else none).isEmpty = vs.all isI := by
  induction vs with
  | nil => rfl
  | cons v vs ih =>
    have hv := h v List.mem_cons_self
    have ih := ih fun x hx => h x (List.mem_cons_of_mem _ hx)
    cases v <;> first | exact hv.elim | simp_all [isB, isI]
theorem m__law_is_right : ∀ ds μ q x, C__law_is_right ds μ q x → r__law_is_right (dends q) (dstart N__law_is_right ds) μ := by
  rintro _ μ q x ⟨s, c, rfl, hs, hc, h⟩
  rcases hc with rfl | rfl | rfl | rfl | rfl | ⟨i, vs, rfl, hi, hl, hv⟩
  · simp [r__law_is_right, tyD, isK, kinds]
    exact fwd h
  · simp [r__law_is_right, tyD, isK, kinds]
    exact fwd h
  · simp [r__law_is_right, tyD, isK, kinds]
    exact fwd h
  · simp [r__law_is_right, tyD, isK, kinds, lenD, szS]
    exact fwd h
  · simp [r__law_is_right, tyD, isK, kinds, lenD, szS]
    exact fwd h
  · simp [r__law_is_right, tyD, isK, kinds, lenD, szS]
    refine fz_lc (d := .tup vs) (ds := vs) (fun v => if isB v = true then some v else none) (fun k hk => ?_) rfl (fun v hv' μ' s' k hk => ?_) (szl20 (by omega)) ?_
    · simpa using hk
    · obtain ⟨t, ht⟩ := lf_ty (hv v hv') (μ := μ')
      simp [elD]
      refine ⟨t, ht, ?_⟩
      have := hv v hv'
      cases v <;> first | exact this.elim | (cases ht; simpa [isK, isB] using hk)
    · have hf : ∀ v ∈ vs.filterMap (fun v => if isB v = true then some v else none), Lf v := fun v h' => by
        obtain ⟨y, hy, e⟩ := List.mem_filterMap.mp h'
        split at e
        · cases e; exact hv _ hy
        · cases e
      refine ⟨(shp_lfs hf).1, (shp_lfs (vs := []) (by simp)).1, ?_⟩
      show (match D.bl (!PyData.eqv (pyD (.fl (vs.filterMap fun v => if isB v = true then some v else none))) (pyD (.fl []))) with | .bl b => if b = true then _ else _ | _ => False)
      rw [eqv_nil, bools_empty hv]
      cases e : vs.all isI with
      | false =>
        have h' : rightD s (.tup [.int i, .tup vs]) = false := by simp [rightD, e]
        rw [h'] at h
        exact fwd h
      | true =>
        refine ⟨s, vs, rfl, hs, num_of_all hv e, ?_⟩
        have h' : rightD s (.tup [.int i, .tup vs]) = decide (i = sumI (s + 1) vs) := by simp [rightD, e]
        rw [h'] at h
        exact fwd h
theorem l_are_whole : ∀ ds μ q x, C_are_whole ds μ q x → ds.length = 3 := by
  rintro _ μ q x ⟨s, c1, c2, y, rfl, _⟩; rfl
theorem dEqN_tup {f : Bool → Bool} {xs ys : List D} {μ : Sto} {q : DK} (hx : ∀ v ∈ xs, Lf v) (hy : ∀ v ∈ ys, Lf v) (hq : q (.bl (f (eqD (.tup xs) (.tup ys)))) μ) : dEqN f (.tup xs) (.tup ys) μ q :=
  dEqN_of rfl (shp_lfs hx).2 (shp_lfs hy).2 hq
/-- a cell that is right has a content -/
theorem right_ct {s : Int} {c : D} (hc : Cell c) (h : rightD s c = true) : ∃ i vs, c = .tup [.int i, .tup vs] ∧ ct c = .tup vs ∧ vs.length ≤ 20 ∧ ∀ v ∈ vs, Lf v := by
  rcases hc with rfl | rfl | rfl | rfl | rfl | ⟨i, vs, rfl, hi, hl, hv⟩
  · cases h
  · cases h
  · cases h
  · cases h
  · cases h
  · exact ⟨i, vs, rfl, rfl, hl, hv⟩
theorem cts_ct {x : D} (h : Cts x) : ∃ vs, x = .tup vs ∧ ∀ v ∈ vs, Lf v := by
  obtain ⟨vs, rfl, _, hv⟩ := h
  exact ⟨vs, rfl, fun v h => num_lf (hv v h)⟩
theorem m_are_whole : ∀ ds μ q x, C_are_whole ds μ q x → r_are_whole (dends q) (dstart N_are_whole ds) μ := by
  rintro _ μ q x ⟨s, c1, c2, y, rfl, hs, h1, h2, hy, h⟩
  simp [r_are_whole]
  refine fz_lc (d := .fl [c1, c2]) (ds := [c1, c2]) (fun c => some (.bl (rightD s c))) (fun k hk => hk) rfl (fun c hc μ' s' k hk => ?_) len2 ?_
  · simp [elD]
    refine ⟨s, c, rfl, hs, ?_, hk⟩
    rcases List.mem_cons.mp hc with rfl | hc
    · exact h1
    · rw [List.mem_singleton.mp hc]; exact h2
  refine ⟨_, rfl, rfl, ?_⟩
  simp only [List.filterMap_cons, List.filterMap_nil]
  simp
  rcases hy with rfl | hy
  · simp only [whole] at h
    cases e2 : rightD s c2 with
    | false =>
      rw [e2] at h
      simp
      exact fwd h
    | true =>
      cases e1 : rightD s c1 with
      | false =>
        rw [e1, e2] at h
        simp
        exact fwd h
      | true =>
        obtain ⟨i1, v1, rfl, ct1, _, hv1⟩ := right_ct h1 e1
        obtain ⟨i2, v2, rfl, ct2, _, hv2⟩ := right_ct h2 e2
        rw [e1, e2, ct1, ct2] at h
        simp at h
        simp
        exact dEqN_tup hv1 hv2 (fwd h)
  · obtain ⟨w, rfl, hw⟩ := cts_ct hy
    simp only [whole] at h
    cases e1 : rightD s c1 with
    | false =>
      cases e2 : rightD s c2 with
      | false =>
        rw [e1, e2] at h
        simp
        exact fwd h
      | true =>
        obtain ⟨i2, v2, rfl, ct2, _, hv2⟩ := right_ct h2 e2
        rw [e1, e2, ct2] at h
        simp at h
        simp
        exact dEqN_tup hv2 hw (fwd h)
    | true =>
      obtain ⟨i1, v1, rfl, ct1, _, hv1⟩ := right_ct h1 e1
      cases e2 : rightD s c2 with
      | false =>
        rw [e1, e2, ct1] at h
        simp at h
        simp
        exact dEqN_tup hv1 hw (fwd h)
      | true =>
        obtain ⟨i2, v2, rfl, ct2, _, hv2⟩ := right_ct h2 e2
        rw [e1, e2, ct1, ct2] at h
        simp at h
        simp
        exact dEqN_tup hv1 hw (dEqN_tup hv2 hw (fwd h))
theorem l_fate_of : ∀ ds μ q x, C_fate_of ds μ q x → ds.length = 3 := by
  rintro _ μ q x ⟨s, c1, c2, y, rfl, _⟩; rfl
theorem m_fate_of : ∀ ds μ q x, C_fate_of ds μ q x → r_fate_of (dends q) (dstart N_fate_of ds) μ := by
  rintro _ μ q x ⟨s, c1, c2, y, rfl, hs, h1, h2, hy, h⟩
  simp [r_fate_of]
  refine ⟨s, c1, c2, y, rfl, hs, h1, h2, hy, ?_⟩
  refine ⟨_, rfl, rfl, ?_⟩
  unfold fateD at h
  generalize whole s c1 c2 y = w at h ⊢
  obtain ⟨b1, b2⟩ := w
  simp
  cases b1 <;> cases b2 <;> exact fwd h
theorem l__law_fate : ∀ ds μ q x, C__law_fate ds μ q x → ds.length = 4 := by
  rintro _ μ q x ⟨s, c1, c2, y, rfl, _⟩; rfl
theorem pick_fate {s : Int} {c1 c2 y : D} {b1 b2 : Bool} {μ : Sto} {q : DK} (e : whole s c1 c2 y = (b1, b2)) (h : q (.int (fateD s c1 c2 y)) μ) :
    dCB dIntC (dCons (dC (.bl b1)) dNil) [] μ fun i μ1 => dIx (.fl [.fl [.int 3, .int 1], .fl [.int 2, .int 0]]) i μ1 fun r μ2 => dCB dIntC (dCons (dC (.bl b2)) dNil) [] μ2 fun j μ3 => dIx r j μ3 q := by
  unfold fateD at h
  rw [e] at h
  cases b1 <;> cases b2 <;> simpa [dIntC] using h
theorem eq_tt {b1 b2 : Bool} {μ : Sto} {q : DK} (h : q (.bl (b1 && b2)) μ) : dEq (.fl [.bl b1, .bl b2]) (.fl [.bl true, .bl true]) μ q := by
  refine dEqN_of rfl (shp_lfs (by simp [Lf])).1 (shp_lfs (by simp [Lf])).1 ?_
  cases b1 <;> cases b2 <;> exact h
theorem m__law_fate : ∀ ds μ q x, C__law_fate ds μ q x → r__law_fate (dends q) (dstart N__law_fate ds) μ := by
  rintro _ μ q x ⟨s, c1, c2, y, rfl, hs, h1, h2, hy, h⟩
  simp [r__law_fate]
  refine ⟨s, c1, rfl, hs, h1, ⟨s, c2, rfl, hs, h2, ?_⟩⟩
  have fin : ∀ b1 b2, whole s c1 c2 y = (b1, b2) → dCB dIntC (dCons (dC (.bl b1)) dNil) [] μ fun i μ1 => dIx (.fl [.fl [.int 3, .int 1], .fl [.int 2, .int 0]]) i μ1 fun r μ2 => dCB dIntC (dCons (dC (.bl b2)) dNil) [] μ2 fun j μ3 => dIx r j μ3 fun d μ' => ∃ μ'', DL.Sub μ'' μ' ∧ q d μ'' := fun b1 b2 e => pick_fate e (fwd h)
  rcases hy with rfl | hy
  · simp
    cases e1 : rightD s c1 with
    | false =>
      refine eq_tt ?_
      have := fin false (rightD s c2) (by simp [whole, e1])
      simpa [e1] using this
    | true =>
      cases e2 : rightD s c2 with
      | false =>
        refine eq_tt ?_
        have := fin true false (by simp [whole, e1, e2])
        simpa [e1, e2] using this
      | true =>
        obtain ⟨i1, v1, rfl, ct1, _, hv1⟩ := right_ct h1 e1
        obtain ⟨i2, v2, rfl, ct2, _, hv2⟩ := right_ct h2 e2
        refine eq_tt ?_
        simp
        refine dEqN_tup hv1 hv2 ?_
        have := fin true (eqD (.tup v1) (.tup v2)) (by simp [whole, e1, e2, ct1, ct2])
        cases e3 : eqD (.tup v1) (.tup v2) <;> rw [e3] at this <;> simpa using this
  · obtain ⟨w, rfl, hw⟩ := cts_ct hy
    simp
    cases e1 : rightD s c1 with
    | false =>
      cases e2 : rightD s c2 with
      | false =>
        have := fin false false (by simp [whole, e1, e2])
        simpa using this
      | true =>
        obtain ⟨i2, v2, rfl, ct2, _, hv2⟩ := right_ct h2 e2
        simp
        refine dEqN_tup hv2 hw ?_
        have := fin false (eqD (.tup v2) (.tup w)) (by simp [whole, e1, e2, ct2])
        simpa using this
    | true =>
      obtain ⟨i1, v1, rfl, ct1, _, hv1⟩ := right_ct h1 e1
      cases e2 : rightD s c2 with
      | false =>
        simp
        refine dEqN_tup hv1 hw ?_
        have := fin (eqD (.tup v1) (.tup w)) false (by simp [whole, e1, e2, ct1])
        simpa using this
      | true =>
        obtain ⟨i2, v2, rfl, ct2, _, hv2⟩ := right_ct h2 e2
        simp
        refine dEqN_tup hv1 hw (dEqN_tup hv2 hw ?_)
        have := fin (eqD (.tup v1) (.tup w)) (eqD (.tup v2) (.tup w)) (by simp [whole, e1, e2, ct1, ct2])
        simpa using this
end K71

namespace K71
open PySem PySem.Spec PyProof.Rows L2 DL
theorem ls_ix {μ : Sto} {d : D} {ds : List D} {i : Nat} {x : D} (h : lsOf μ d = some ds) (e : ds[i]? = some x) : ixOf μ d (.int (i : Int)) = some x := by
  cases d with
  | fl xs => cases h; exact (atI_n).trans e
  | wl xs => cases h; exact (atI_n).trans e
  | ref a =>
    have h' : (match μ a with | some (.lst ds) => some ds | _ => none) = some ds := h
    split at h'
    · rename_i z
      cases h'
      exact (ixOf_ref z).trans (atI_n.trans e)
    · cases h'
  | _ => cases h
theorem sz_ls {μ : Sto} {d : D} {ds : List D} (h : lsOf μ d = some ds) : szS d := by cases d <;> first | trivial | cases h
theorem ls_dIx {μ : Sto} {d : D} {ds : List D} {i : Nat} {x : D} {q : DK} (h : lsOf μ d = some ds) (e : ds[i]? = some x) (hq : q x μ) : dIx d (.int (i : Int)) μ q := ⟨x, ls_ix h e, sz_ls h, hq⟩
theorem cells_get {m i : Nat} {A : List D} (h : Cells m A) (hi : i < m) : A[i]? = some (nth A i) ∧ Cell (nth A i) := by
  have hl : i < A.length := by rw [h.1]; exact hi
  have e : A[i]? = some (nth A i) := by
    unfold nth
    rw [List.getD_eq_getElem?_getD, List.getElem?_eq_getElem hl]; rfl
  exact ⟨e, h.2 _ (List.mem_of_getElem? e)⟩
theorem l_fates_of : ∀ ds μ q x, C_fates_of ds μ q x → ds.length = 2 := by
  rintro _ μ q x ⟨a, b, A, B, m, ps, rfl, _⟩; rfl
theorem m_fates_of : ∀ ds μ q x, C_fates_of ds μ q x → r_fates_of (dends q) (dstart N_fates_of ds) μ := by
  rintro _ μ q x ⟨a, b, A, B, m, ps, rfl, hA, hB, cA, cB, ⟨hm, hps, hp⟩, h⟩
  simp [r_fates_of]
  intro p hpn
  show forD _ _ _ _ (spotsD ps) _ _
  refine forD_by (fun xs Γ μ' => ∃ (qs : List (Nat × D)) (done : List (Nat × Int)) (o3 o4 : Option D), xs = spotsD qs ∧ Γ = [some (.tup [a, b]), some (.fl (spotsD ps)), some (.ref p), o3, o4, none] ∧ μ' = set μ p (.lst (rowsD done)) ∧ (∀ z ∈ qs, z.1 < m ∧ Ctn z.2) ∧ done.length + qs.length ≤ 40 ∧ fatesD A B ps = done ++ fatesD A B qs)
    ?_ ?_ _ _ _ ⟨ps, [], none, none, rfl, rfl, rfl, hp, by simpa using hps, rfl⟩
  · rintro Γ μ' ⟨qs, done, o3, o4, hx, rfl, rfl, _, _, he⟩
    cases qs with
    | cons z qs => cases hx
    | nil =>
      rw [he] at h
      refine ⟨trivial, p, _, μ, rfl, set_same, .new hpn, hpn, μ, .refl μ, ?_⟩
      simpa [fatesD] using h
  · rintro x xs Γ μ' ⟨qs, done, o3, o4, hx, rfl, rfl, hz, hl, he⟩
    cases qs with
    | nil => cases hx
    | cons z qs =>
      obtain ⟨s, c⟩ := z
      cases hx
      obtain ⟨h1, h2⟩ := hz _ List.mem_cons_self
      have hl' : done.length + (qs.length + 1) ≤ 40 := hl
      obtain ⟨ea, ca⟩ := cells_get cA h1
      obtain ⟨eb, cb⟩ := cells_get cB h1
      refine ⟨trivial, fun F hF => ?_⟩
      simp [dBM, tyM, set_same]
      have sA : ∀ {μ'}, DL.Sub (set μ p (.lst (rowsD done))) μ' → lsOf μ' a = some A := fun s => s.ls ((DL.Sub.new hpn).ls hA)
      have sB : ∀ {μ'}, DL.Sub (set μ p (.lst (rowsD done))) μ' → lsOf μ' b = some B := fun s => s.ls ((DL.Sub.new hpn).ls hB)
      refine fz_lc (d := .tup [a, b]) (ds := [a, b]) (fun y => (lsOf (set μ p (.lst (rowsD done))) y).bind fun L => L[s]?) (fun k hk => hk) rfl (fun y hy μ' s' k hk => ?_) len2 ?_
      · simp [elD]
        rcases List.mem_cons.mp hy with rfl | hy
        · rw [sA (.refl _)] at hk
          exact ls_dIx (sA s') ea (by rw [show ((some A).bind fun L => L[s]?) = some (nth A s) from ea] at hk; exact hk)
        · cases List.mem_singleton.mp hy
          rw [sB (.refl _)] at hk
          exact ls_dIx (sB s') eb (by rw [show ((some B).bind fun L => L[s]?) = some (nth B s) from eb] at hk; exact hk)
      · simp only [List.filterMap_cons, List.filterMap_nil, sA (.refl _), sB (.refl _), ea, eb, Option.bind_some]
        refine ⟨(s : Int), _, _, c, rfl, (by have : s < m := h1; omega), ca, cb, h2, ?_⟩
        simp
        refine ⟨_, set_same, ?_, ?_⟩
        · simp [rowsD]
          exact Nat.lt_of_lt_of_le (by omega) (szl (n := 1000) (by omega))
        · rw [set_set]
          refine hF _ _ ⟨qs, done ++ [(s, fateD s (nth A s) (nth B s) c)], _, _, rfl, rfl, by simp [rowsD], fun z hz' => hz z (List.mem_cons_of_mem _ hz'), by simp; omega, ?_⟩
          rw [he]
          simp [fatesD]
end K71

namespace K71
open PySem PySem.Spec PyProof.Rows L2 DL
theorem sm_ty {d : D} (h : Sm d) {μ : Sto} : ∃ t, tyD μ d = some t := by
  rcases h with ⟨i, rfl, _⟩ | ⟨b, rfl⟩ | ⟨x, rfl, _⟩ <;> exact ⟨_, rfl⟩
theorem l_is_paper : ∀ ds μ q x, C_is_paper ds μ q x → ds.length = 1 := by
  rintro _ μ q x ⟨p, rfl, _⟩; rfl
theorem m_is_paper : ∀ ds μ q x, C_is_paper ds μ q x → r_is_paper (dends q) (dstart N_is_paper ds) μ := by
  rintro _ μ q x ⟨p, rfl, hp, h⟩
  rcases hp with rfl | rfl | rfl | ⟨a, rfl, ha⟩ | ⟨rs, rfl, _⟩ | ⟨rs, rfl, hl, hr⟩
  · simp [r_is_paper, tyD, isK, kinds]
    exact fwd h
  · simp [r_is_paper, tyD, isK, kinds]
    exact fwd h
  · simp [r_is_paper, tyD, isK, kinds]
    exact fwd h
  · simp [r_is_paper, tyD, isK, kinds, ha, tyO]
    exact fwd h
  · simp [r_is_paper, tyD, isK, kinds]
    exact fwd h
  · simp [r_is_paper, tyD, isK, kinds]
    show forD _ _ _ _ rs _ _
    refine forD_by (fun xs Γ μ' => ∃ (o : Option D), Γ = [some (.fl rs), o] ∧ μ' = μ ∧ (∀ r ∈ xs, Row r) ∧ q (.bl (xs.all isRow)) μ) ?_ ?_ _ _ _ ⟨none, rfl, rfl, hr, h⟩
    · rintro Γ μ' ⟨o, rfl, rfl, _, h⟩
      exact ⟨trivial, by simpa using fwd h⟩
    · rintro r xs Γ μ' ⟨o, rfl, rfl, hx, h⟩
      have hr := hx r List.mem_cons_self
      refine ⟨trivial, fun F hF => ?_⟩
      have no : isRow r = false → ∃ μ'', DL.Sub μ'' μ' ∧ q (.bl false) μ'' := fun e => by
        rw [List.all_cons, e] at h
        exact fwd h
      rcases hr with ⟨ys, rfl, hl, hy⟩ | ⟨ys, rfl, _⟩
      · match ys, hl, hy with
        | [], _, _ => simp [lenD, szS]; exact no rfl
        | [a], _, _ => simp [lenD, szS]; exact no rfl
        | [a, b, c], _, _ => simp [lenD, szS]; exact no rfl
        | a :: b :: c :: d :: e, hl, _ => simp at hl
        | [a, b], _, hy =>
          obtain ⟨t, ht⟩ := sm_ty (hy a (by simp)) (μ := μ')
          obtain ⟨u, hu⟩ := sm_ty (hy b (by simp)) (μ := μ')
          simp [lenD, szS]
          refine ⟨_, _, rfl, ht, ?_⟩
          cases e1 : isI a with
          | false => simp; exact no (by simp [isRow, e1])
          | true =>
            simp
            refine ⟨_, _, rfl, hu, ?_⟩
            cases e2 : isI b with
            | false => simp; exact no (by simp [isRow, e2])
            | true =>
              simp
              refine hF _ _ ⟨_, rfl, rfl, fun y hy => hx y (List.mem_cons_of_mem _ hy), ?_⟩
              simpa [isRow, e1, e2] using h
      · simp
        exact no rfl
end K71

namespace K71
open PySem PySem.Spec PyProof.Rows L2 DL
/-! ### are_same, _law_like -/
theorem sq_some {μ : Sto} {x : D} {xs : List D} (h : sqOf μ x = some xs) : tyD μ x = some (if isTup x = true then "tuple" else "list") ∧ lenD μ x = some xs.length ∧ szS x ∧ isB x = false := by
  cases x with
  | tup ds => cases h; exact ⟨rfl, rfl, trivial, rfl⟩
  | fl ds => cases h; exact ⟨rfl, rfl, trivial, rfl⟩
  | wl ds => cases h; exact ⟨rfl, rfl, trivial, rfl⟩
  | ref a =>
    have h' : (match μ a with | some (.lst ds) => some ds | _ => none) = some xs := h
    split at h'
    · rename_i z
      cases h'
      refine ⟨?_, ?_, trivial, rfl⟩
      · show (μ a).bind tyO = some "list"
        rw [z]
        rfl
      · show (match μ a with | some (.lst ds) => some ds.length | some (.dK ds) => some ds.length | some (.dT ds) => some ds.length | _ => none) = _
        rw [z]
    · cases h'
  | _ => cases h
theorem sq_none {μ : Sto} {x : D} {t : String} (h : sqOf μ x = none) (ht : tyD μ x = some t) : isK t "tuple" = false ∧ isK t "list" = false ∧ isK t "bool" = isB x := by
  cases x with
  | tup ds => cases h
  | fl ds => cases h
  | wl ds => cases h
  | ty n => cases ht
  | ref a =>
    have h' : (match μ a with | some (.lst ds) => some ds | _ => none) = none := h
    have e : (μ a).bind tyO = some t := ht
    obtain ⟨o, h1, h2⟩ := Option.bind_eq_some_iff.mp e
    rw [h1] at h'
    cases o with
    | lst ds => cases h'
    | zT ds => cases h2
    | ins C dx fs => cases h2
    | _ => cases h2; exact ⟨by simp, by simp, by simp [isB]⟩
  | _ => cases ht; exact ⟨by simp, by simp, by simp [isB]⟩
theorem sq_sub {μ μ' : Sto} (s : DL.Sub μ μ') {x : D} {t : String} (ht : tyD μ x = some t) : sqOf μ' x = sqOf μ x := by
  cases x with
  | ref a =>
    have e : (μ a).bind tyO = some t := ht
    obtain ⟨o, h1, h2⟩ := Option.bind_eq_some_iff.mp e
    show (match μ' a with | some (.lst ds) => some ds | _ => none) = (match μ a with | some (.lst ds) => some ds | _ => none)
    rw [h1, s a o h1]
  | _ => rfl
theorem rsv_sub {μ μ' : Sto} (s : DL.Sub μ μ') {x : D} {t : String} (ht : tyD μ x = some t) : rsv μ' x = rsv μ x := by
  cases x with
  | ref a =>
    have e : (μ a).bind tyO = some t := ht
    obtain ⟨o, h1, h2⟩ := Option.bind_eq_some_iff.mp e
    show (match μ' a with | some (.lst ds) => D.fl ds | _ => .ref a) = (match μ a with | some (.lst ds) => D.fl ds | _ => .ref a)
    rw [h1, s a o h1]
  | _ => rfl
theorem all_zip_congr {f g : D → D → Bool} : ∀ {xs ys : List D}, (∀ z ∈ xs.zip ys, f z.1 z.2 = g z.1 z.2) → List.zipWith f xs ys = List.zipWith g xs ys
  | [], _, _ => by simp
  | _ :: _, [], _ => by simp
  | x :: xs, y :: ys, h => by
    rw [List.zipWith_cons_cons, List.zipWith_cons_cons, all_zip_congr fun z hz => h z (List.mem_cons_of_mem _ hz), h (x, y) List.mem_cons_self]
theorem cmp_sub {S : Bool} {μ μ' : Sto} (s : DL.Sub μ μ') : ∀ {n : Nat} {x y : D}, Cmp S μ n x y → Cmp S μ' n x y ∧ like μ' n x y = like μ n x y
  | 0, _, _, h => h.elim
  | n + 1, x, y, h => by
    obtain ⟨⟨⟨t, ht⟩, u, hu⟩, h⟩ := h
    have ex := sq_sub s ht
    have ey := sq_sub s hu
    unfold Cmp like
    rw [ex, ey, rsv_sub s ht, rsv_sub s hu]
    refine ⟨⟨⟨⟨t, s.ty ht⟩, u, s.ty hu⟩, ?_⟩, ?_⟩
    · split at h
      · exact ⟨h.1, h.2.1, fun z hz => (cmp_sub s (h.2.2 z hz)).1⟩
      · exact h
      · exact h
    · split at h
      · rename_i e1 e2
        rw [all_zip_congr fun z hz => (cmp_sub s (h.2.2 z hz)).2]
      · rfl
      · rfl
def pr (g : D → D → Bool) : D → Option D
  | .tup [a, b] => some (.bl (g a b))
  | _ => none
theorem zip_fm (g : D → D → Bool) : ∀ xs ys : List D, (List.zipWith (fun x y => D.tup [x, y]) xs ys).filterMap (pr g) = (List.zipWith g xs ys).map D.bl
  | [], _ => by simp
  | _ :: _, [] => by simp
  | x :: xs, y :: ys => by
    rw [List.zipWith_cons_cons, List.zipWith_cons_cons, List.filterMap_cons_some (f := pr g) (b := .bl (g x y)) rfl, zip_fm g xs ys]
    rfl
theorem zip_mem : ∀ {xs ys : List D} {z : D}, z ∈ List.zipWith (fun x y => D.tup [x, y]) xs ys → ∃ a b, z = .tup [a, b] ∧ (a, b) ∈ xs.zip ys
  | [], _, z, h => by simp at h
  | _ :: _, [], z, h => by simp at h
  | x :: xs, y :: ys, z, h => by
    rw [List.zipWith_cons_cons] at h
    rcases List.mem_cons.mp h with rfl | h
    · exact ⟨x, y, rfl, List.mem_cons_self⟩
    · obtain ⟨a, b, e, hm⟩ := zip_mem h
      exact ⟨a, b, e, List.mem_cons_of_mem _ hm⟩
theorem beq_dec {α : Type} [DecidableEq α] [BEq α] [LawfulBEq α] (a b : α) : (a == b) = decide (a = b) := by
  by_cases h : a = b
  · subst h; simp
  · simp [h]
theorem eqS_eqD {x y : D} {b : Bool} (h : eqS x y = some b) : eqD x y = b := by
  cases x <;> cases y <;> simp only [eqS, reduceCtorEq, Option.some.injEq] at h <;> subst h <;> simp [eqD, pyD, PyData.eqv, beq_dec]
theorem shp_rsv {μ : Sto} {x : D} (h : shp x = true) : rsv μ x = x := by
  cases x with
  | ref a => simp [shp, pln] at h
  | _ => rfl
theorem eqS_rsv {μ : Sto} {x y : D} {b : Bool} (h : eqS x y = some b) : rsv μ x = x ∧ rsv μ y = y := by
  cases x <;> cases y <;> first | exact ⟨rfl, rfl⟩ | cases h
theorem eq_by {μ : Sto} {x y : D} {q : DK} {f : Bool → Bool} (hx : shp (rsv μ x) = true) (hy : shp (rsv μ y) = true) (h : q (.bl (f (eqD (rsv μ x) (rsv μ y)))) μ) : dEqN f x y μ q := by
  cases e : eqS x y with
  | some b =>
    unfold dEqN
    rw [e]
    obtain ⟨h1, h2⟩ := eqS_rsv (μ := μ) e
    rw [h1, h2, eqS_eqD e] at h
    exact h
  | none => exact dEqN_of e hx hy h
/-- a sequence is no leaf -/
theorem eq_mixed {μ : Sto} {x y : D} {xs : List D} {t : String} (hx : sqOf μ x = some xs) (hy : sqOf μ y = none) (ht : tyD μ y = some t) (hs : shp (rsv μ y) = true) : eqD (rsv μ x) (rsv μ y) = false ∧ eqD (rsv μ y) (rsv μ x) = false := by
  have h1 : ∃ ds, rsv μ x = .tup ds ∨ rsv μ x = .fl ds ∨ rsv μ x = .wl ds := by
    cases x with
    | tup ds => exact ⟨ds, .inl rfl⟩
    | fl ds => exact ⟨ds, .inr (.inl rfl)⟩
    | wl ds => exact ⟨ds, .inr (.inr rfl)⟩
    | ref a =>
      have h' : (match μ a with | some (.lst ds) => some ds | _ => none) = some xs := hx
      split at h'
      · rename_i z; exact ⟨_, .inr (.inl (rsv_ref z))⟩
      · cases h'
    | _ => cases hx
  have h2 : rsv μ y = .non ∨ (∃ b, rsv μ y = .bl b) ∨ (∃ i, rsv μ y = .int i) ∨ ∃ z, rsv μ y = .str z := by
    cases y with
    | non => exact .inl rfl
    | bl b => exact .inr (.inl ⟨b, rfl⟩)
    | int b => exact .inr (.inr (.inl ⟨b, rfl⟩))
    | str b => exact .inr (.inr (.inr ⟨b, rfl⟩))
    | ref a =>
      have h' : (match μ a with | some (.lst ds) => some ds | _ => none) = none := hy
      split at h'
      · cases h'
      · rename_i hn
        have : rsv μ (.ref a) = .ref a := by
          show (match μ a with | some (.lst ds) => D.fl ds | _ => .ref a) = _
          split
          · rename_i z; exact absurd z (hn _)
          · rfl
        rw [this] at hs
        simp [shp, pln] at hs
    | ty n => cases ht
    | _ => cases hy
  obtain ⟨ds, h1⟩ := h1
  rcases h1 with h1 | h1 | h1 <;> rcases h2 with h2 | ⟨b, h2⟩ | ⟨b, h2⟩ | ⟨b, h2⟩ <;> rw [h1, h2] <;> simp [eqD, pyD, PyData.eqv]
theorem z_are_same {ds : List D} {μ : Sto} {q : DK} {x : XDK} : C_are_same 0 ds μ q x → False := by
  rintro ⟨x, y, rfl, h, _⟩; exact h
theorem z__law_like {ds : List D} {μ : Sto} {q : DK} {x : XDK} : C__law_like 0 ds μ q x → False := by
  rintro ⟨x, y, rfl, h, _⟩; exact h
theorem l_are_same {n : Nat} : ∀ ds μ q x, C_are_same n ds μ q x → ds.length = 2 := by
  rintro _ μ q x ⟨a, b, rfl, _⟩; rfl
theorem l__law_like {n : Nat} : ∀ ds μ q x, C__law_like n ds μ q x → ds.length = 2 := by
  rintro _ μ q x ⟨a, b, rfl, _⟩; rfl
theorem isiT_of {d : D} {Ts : List String} {μ : Sto} {q : DK} {t : String} (hT : ∀ T ∈ Ts, T ∈ kinds) (hn : Ts ≠ []) (ht : tyD μ d = some t) (h : q (.bl (Ts.any fun T => isK t T)) μ) : dIsiT [d, .tup (Ts.map D.ty)] μ q := ⟨Ts, rfl, hn, hT, t, ht, h⟩
theorem isiTL {d : D} {μ : Sto} {q : DK} {t : String} (ht : tyD μ d = some t) (h : q (.bl (isK t "tuple" || isK t "list")) μ) : dIsiT [d, .tup [.ty "tuple", .ty "list"]] μ q :=
  isiT_of (Ts := ["tuple", "list"]) (by simp) (by simp) ht (by simpa using h)
theorem zip_all {n : Nat} {S : Bool} {C : DSp} {x y : D} {xs ys : List D} {μ : Sto} {q : DK} (hC : ∀ a b μ' q, Cmp S μ' n a b → q (.bl (like μ' n a b)) μ' → C [a, b] μ' q noX) (ex : sqOf μ x = some xs) (ey : sqOf μ y = some ys)
    (hl : xs.length ≤ 1000) (hc : ∀ z ∈ xs.zip ys, Cmp S μ n z.1 z.2) (h : q (.bl ((List.zipWith (like μ n) xs ys).all _root_.id)) μ) :
    dFz (dLc (dZip (dCons (dVar 0) (dCons (dVar 1) dNil))) (dgTup 2 (dgCons (dgName 2) (dgCons (dgName 3) dgNil))) dYes (dCall C noX (dCons (dVar 2) (dCons (dVar 3) dNil))) [2, 3]) [some x, some y, none, none] μ fun x μ1 => dAll [x] μ1 fun d μ' => ∃ μ'', DL.Sub μ'' μ' ∧ q d μ'' := by
  refine fz_zip (pr (like μ n)) (fun k hk => hk) ex ey (fun z hz μ' s k hk => ?_) (szl hl) ?_
  · obtain ⟨a, b, rfl, hm⟩ := zip_mem hz
    obtain ⟨c1, c2⟩ := cmp_sub s (hc _ hm)
    simp [elD]
    refine hC a b μ' _ c1 ?_
    rw [c2]
    exact hk
  · rw [zip_fm]
    exact ⟨_, rfl, fwd h⟩
theorem kind_or (b : Bool) : isK (if b = true then "tuple" else "list") "tuple" = b ∧ isK (if b = true then "tuple" else "list") "list" = !b ∧ isK (if b = true then "tuple" else "list") "bool" = false := by cases b <;> simp
theorem m_are_same (n : Nat) : ∀ ds μ q x, C_are_same (n + 1) ds μ q x → r_are_same (C_are_same n) (dends q) (dstart N_are_same ds) μ := by
  rintro _ μ q _ ⟨x, y, rfl, ⟨⟨⟨t, ht⟩, u, hu⟩, hc⟩, h⟩
  simp [r_are_same]
  refine isiTL ht ?_
  unfold like at h
  cases ex : sqOf μ x with
  | none =>
    obtain ⟨t1, t2, t3⟩ := sq_none ex ht
    simp [t1, t2]
    rw [ex] at h hc
    refine ⟨t, ht, u, hu, ?_⟩
    cases ey : sqOf μ y with
    | none =>
      obtain ⟨u1, u2, u3⟩ := sq_none ey hu
      rw [ey] at h hc
      have hx : shp x = true := hc.1
      have hy : shp y = true := hc.2
      rw [t3, u3]
      by_cases e : isB x = isB y
      · rw [if_pos e]
        refine eq_by (by rw [shp_rsv hx]; exact hx) (by rw [shp_rsv hy]; exact hy) ?_
        rw [shp_rsv hx, shp_rsv hy]
        have h : q (.bl ((isB x == isB y) && eqD x y)) μ := h
        rw [beq_iff_eq.mpr e] at h
        exact fwd h
      · rw [if_neg e]
        have h : q (.bl ((isB x == isB y) && eqD x y)) μ := h
        rw [beq_eq_false_iff_ne.mpr e] at h
        exact fwd h
    | some ys =>
      rw [ey] at h hc
      obtain ⟨hx, hy⟩ := hc rfl
      by_cases e : isK t "bool" = isK u "bool"
      · rw [if_pos e]
        refine eq_by hx hy ?_
        rw [(eq_mixed ey ex ht hx).2]
        exact fwd h
      · rw [if_neg e]
        exact fwd h
  | some xs =>
    obtain ⟨x1, x2, x3, x4⟩ := sq_some ex
    rw [ht] at x1
    cases x1
    obtain ⟨k1, k2, k3⟩ := kind_or (isTup x)
    have : (isK (if isTup x = true then "tuple" else "list") "tuple" || isK (if isTup x = true then "tuple" else "list") "list") = true := by rw [k1, k2]; cases isTup x <;> rfl
    rw [this]
    simp only [if_true]
    refine isiTL hu ?_
    cases ey : sqOf μ y with
    | none =>
      obtain ⟨u1, u2, u3⟩ := sq_none ey hu
      rw [ex, ey] at h hc
      obtain ⟨hx, hy⟩ := hc rfl
      simp [u1, u2]
      refine ⟨_, ht, u, hu, ?_⟩
      rw [k3]
      by_cases e : false = isK u "bool"
      · rw [if_pos e]
        refine eq_by hx hy ?_
        rw [(eq_mixed ex ey hu hy).1]
        exact fwd h
      · rw [if_neg e]
        exact fwd h
    | some ys =>
      obtain ⟨y1, y2, y3, y4⟩ := sq_some ey
      rw [hu] at y1
      cases y1
      obtain ⟨j1, j2, j3⟩ := kind_or (isTup y)
      have : (isK (if isTup y = true then "tuple" else "list") "tuple" || isK (if isTup y = true then "tuple" else "list") "list") = true := by rw [j1, j2]; cases isTup y <;> rfl
      rw [this]
      simp only [if_true]
      rw [ex, ey] at h hc
      obtain ⟨l1, l2, hz⟩ := hc
      refine ⟨_, ht, _, hu, ?_⟩
      rw [k2, j2]
      have h : q (.bl (((isTup x == isTup y) && decide (xs.length = ys.length)) && (List.zipWith (like μ n) xs ys).all _root_.id)) μ := h
      by_cases e : isTup x = isTup y
      · rw [beq_iff_eq.mpr e] at h
        rw [if_pos (by rw [e])]
        refine ⟨_, x2, x3, _, y2, y3, ?_⟩
        by_cases el : xs.length = ys.length
        · rw [if_pos (by rw [el])]
          rw [decide_eq_true el] at h
          exact zip_all (fun a b μ' q c hq => ⟨a, b, rfl, c, hq⟩) ex ey l1 hz h
        · rw [if_neg (by omega)]
          rw [decide_eq_false el] at h
          exact fwd h
      · rw [beq_eq_false_iff_ne.mpr e] at h
        rw [if_neg (fun z => e (by simpa using z))]
        exact fwd h
end K71

namespace K71
open PySem PySem.Spec PyProof.Rows L2 DL
theorem m__law_like (n : Nat) : ∀ ds μ q x, C__law_like (n + 1) ds μ q x → r__law_like (C__law_like n) (dends q) (dstart N__law_like ds) μ := by
  rintro _ μ q _ ⟨x, y, rfl, ⟨⟨⟨t, ht⟩, u, hu⟩, hc⟩, h⟩
  simp [r__law_like]
  unfold like at h
  refine ⟨t, ht, u, hu, ?_⟩
  cases ex : sqOf μ x with
  | none =>
    obtain ⟨t1, t2, t3⟩ := sq_none ex ht
    rw [ex] at h hc
    cases ey : sqOf μ y with
    | none =>
      obtain ⟨u1, u2, u3⟩ := sq_none ey hu
      rw [ey] at h hc
      have hx : shp x = true := hc.1
      have hy : shp y = true := hc.2
      have h : q (.bl ((isB x == isB y) && eqD x y)) μ := h
      rw [t1, u1, if_pos rfl]
      refine ⟨t, ht, u, hu, ?_⟩
      rw [t2, u2, if_pos rfl]
      refine ⟨t, ht, ?_⟩
      rw [t1]
      simp only [Bool.false_eq_true, if_false]
      refine ⟨t, ht, ?_⟩
      rw [t2]
      simp only [Bool.false_eq_true, if_false]
      refine ⟨t, ht, u, hu, ?_⟩
      rw [t3, u3]
      by_cases e : isB x = isB y
      · rw [if_pos e]
        rw [beq_iff_eq.mpr e] at h
        refine eq_by (by rw [shp_rsv hx]; exact hx) (by rw [shp_rsv hy]; exact hy) ?_
        rw [shp_rsv hx, shp_rsv hy]
        exact fwd h
      · rw [if_neg e]
        rw [beq_eq_false_iff_ne.mpr e] at h
        exact fwd h
    | some ys =>
      obtain ⟨y1, y2, y3, y4⟩ := sq_some ey
      rw [hu] at y1
      cases y1
      obtain ⟨j1, j2, j3⟩ := kind_or (isTup y)
      rw [ey] at h
      have h : q (.bl false) μ := h
      rw [t1, j1]
      cases hT : isTup y with
      | true =>
        rw [if_neg (by simp)]
        exact fwd h
      | false =>
        rw [if_pos rfl]
        refine ⟨t, ht, _, hu, ?_⟩
        rw [t2, j2, if_neg (by simp [hT])]
        exact fwd h
  | some xs =>
    obtain ⟨x1, x2, x3, x4⟩ := sq_some ex
    rw [ht] at x1
    cases x1
    obtain ⟨k1, k2, k3⟩ := kind_or (isTup x)
    rw [ex] at h hc
    cases ey : sqOf μ y with
    | none =>
      obtain ⟨u1, u2, u3⟩ := sq_none ey hu
      rw [ey] at h
      have h : q (.bl false) μ := h
      rw [k1, u1]
      cases hT : isTup x with
      | true =>
        rw [if_neg (by simp)]
        exact fwd h
      | false =>
        rw [if_pos rfl]
        refine ⟨_, ht, u, hu, ?_⟩
        rw [k2, u2, if_neg (by simp [hT])]
        exact fwd h
    | some ys =>
      obtain ⟨y1, y2, y3, y4⟩ := sq_some ey
      rw [hu] at y1
      cases y1
      obtain ⟨j1, j2, j3⟩ := kind_or (isTup y)
      rw [ey] at h hc
      obtain ⟨l1, l2, hz⟩ := hc
      have h : q (.bl (((isTup x == isTup y) && decide (xs.length = ys.length)) && (List.zipWith (like μ n) xs ys).all _root_.id)) μ := h
      rw [k1, j1]
      by_cases e : isTup x = isTup y
      · rw [beq_iff_eq.mpr e] at h
        rw [if_pos e]
        refine ⟨_, ht, _, hu, ?_⟩
        rw [k2, j2, if_pos (by rw [e])]
        refine ⟨_, ht, ?_⟩
        rw [k1]
        have go : ∃ n_1, lenD μ x = some n_1 ∧ szS x ∧ ∃ n_2, lenD μ y = some n_2 ∧ szS y ∧ if (n_1 : Int) = (n_2 : Int) then
              dFz (dLc (dZip (dCons (dVar 0) (dCons (dVar 1) dNil))) (dgTup 2 (dgCons (dgName 2) (dgCons (dgName 3) dgNil))) dYes (dCall (C__law_like n) noX (dCons (dVar 2) (dCons (dVar 3) dNil))) [2, 3]) [some x, some y, none, none] μ fun x μ1 => dAll [x] μ1 fun d μ' => ∃ μ'', DL.Sub μ'' μ' ∧ q d μ''
            else ∃ μ'', DL.Sub μ'' μ ∧ q (D.bl false) μ'' := by
          refine ⟨_, x2, x3, _, y2, y3, ?_⟩
          by_cases el : xs.length = ys.length
          · rw [if_pos (by rw [el])]
            rw [decide_eq_true el] at h
            exact zip_all (fun a b μ' q c hq => ⟨a, b, rfl, c, hq⟩) ex ey l1 hz h
          · rw [if_neg (by omega)]
            rw [decide_eq_false el] at h
            exact fwd h
        cases hT : isTup x with
        | true =>
          simp only [if_true]
          exact go
        | false =>
          simp only [Bool.false_eq_true, if_false]
          refine ⟨_, ht, ?_⟩
          rw [k2, hT]
          simp only [Bool.not_false, if_true]
          exact go
      · rw [beq_eq_false_iff_ne.mpr e] at h
        rw [if_neg e]
        exact fwd h
/-! ### cells_due -/
theorem l_cells_due : ∀ ds μ q x, C_cells_due ds μ q x → ds.length = 2 := by
  rintro _ μ q x ⟨a, b, A, B, m, ps, rfl, _⟩; rfl
theorem due_len {A B : List D} : ∀ (ps : List (Nat × Int)) (Y : List D × List D), (ps.foldl (dueStep A B) Y).1.length = Y.1.length ∧ (ps.foldl (dueStep A B) Y).2.length = Y.2.length
  | [], Y => ⟨rfl, rfl⟩
  | p :: ps, Y => by
    obtain ⟨h1, h2⟩ := due_len ps (dueStep A B Y p)
    rw [List.foldl_cons, h1, h2]
    unfold dueStep
    constructor <;> (dsimp only; split <;> simp)
theorem dLstC_ls {d : D} {ds : List D} {μ : Sto} {q : DK} (h : lsOf μ d = some ds) (hq : ∀ p, μ p = none → q (.ref p) (set μ p (.lst ds))) : dLstC [d] μ q := by
  cases d with
  | tup xs => cases h
  | _ => exact ⟨ds, h, hq⟩
theorem ls_src {src : D} {a b : D} (hsrc : src = .tup [a, b] ∨ src = .fl [a, b]) {ts : DTE} {g : DTG} {tt : DTT} {te : DTE} {vs : List Nat} {Γ : DSt} {μ : Sto} {q : DK} (hs : ∀ k : DK, k src μ → ts Γ μ k)
    (h : ∀ p, μ p = none → compD (fun _ => True) g tt te vs p Γ (fun μ2 => q (.ref p) μ2) [a, b] (set μ p (.lst []))) : dLc (dSeqIt ts) g tt te vs Γ μ q := by
  show ts Γ μ _
  refine hs _ ?_
  rcases hsrc with rfl | rfl <;> exact h
/-- [list(x) for x in (a, b)] -/
theorem two_lists {i v : Nat} {ts : DTE} {Γ : DSt} {μ : Sto} {e : DEnds} {src a b : D} {A B : List D} (hsrc : src = .tup [a, b] ∨ src = .fl [a, b]) (hs : ∀ k : DK, k src μ → ts Γ μ k) (hA : lsOf μ a = some A) (hB : lsOf μ b = some B) (hi : i < Γ.length) (hv : v < Γ.length)
    (h : ∀ p0 p1, μ p0 = none → μ p1 = none → p0 ≠ p1 → e.nx (Γ.set i (some (.fl [.ref p0, .ref p1]))) (set (set μ p0 (.lst A)) p1 (.lst B))) :
    dFzN i (dAsg (dLc (dSeqIt ts) (dgName v) dYes (dCB dLstC (dCons (dVar v) dNil)) [v]) (dgName i)) e Γ μ := by
  refine ls_src (q := fun x μ1 => dgName i x Γ μ1 _) hsrc hs fun p hp => ?_
  have var : ∀ (x : D) (μ' : Sto) (k : DK), k x μ' → dVar v ((dwipe Γ [v]).set v (some x)) μ' k := fun x μ' k hk => by
    unfold dVar
    rw [List.getElem?_set_self (by rw [dwipe_len]; exact hv)]
    exact hk
  have s0 : DL.Sub μ (set μ p (.lst [])) := .new hp
  refine ⟨trivial, var a _ _ (dLstC_ls (s0.ls hA) fun p0 n0 => ?_)⟩
  have hp0 : p0 ≠ p := fun z => by subst z; rw [set_same] at n0; cases n0
  rw [set_ne hp0] at n0
  refine ⟨[], by rw [set_ne (Ne.symm hp0), set_same], by simp, ?_⟩
  have s1 : DL.Sub μ (set (set (set μ p (.lst [])) p0 (.lst A)) p (.lst ([] ++ [.ref p0]))) := fun c o hc => by
    have c1 : c ≠ p := fun z => by subst z; rw [hp] at hc; cases hc
    have c2 : c ≠ p0 := fun z => by subst z; rw [n0] at hc; cases hc
    rw [set_ne c1, set_ne c2, set_ne c1]
    exact hc
  refine ⟨trivial, var b _ _ (dLstC_ls (s1.ls hB) fun p1 n1 => ?_)⟩
  have hp1 : p1 ≠ p := fun z => by subst z; rw [set_same] at n1; cases n1
  rw [set_ne hp1] at n1
  have h10 : p1 ≠ p0 := fun z => by subst z; rw [set_same] at n1; cases n1
  rw [set_ne h10, set_ne hp1] at n1
  refine ⟨[.ref p0], by rw [set_ne (Ne.symm hp1), set_same]; rfl, by simp, trivial, ?_⟩
  refine ⟨p, _, set (set μ p0 (.lst A)) p1 (.lst B), List.getElem?_set_self hi, set_same, fun c o hc => ?_, by rw [set_ne (Ne.symm hp1), set_ne (Ne.symm hp0)]; exact hp, ?_⟩
  · by_cases c1 : c = p1
    · subst c1
      rw [set_same] at hc
      rw [set_ne hp1, set_same]
      exact hc
    · rw [set_ne c1] at hc
      by_cases c0 : c = p0
      · subst c0
        rw [set_same] at hc
        rw [set_ne hp0, set_ne c1, set_ne hp0, set_same]
        exact hc
      · rw [set_ne c0] at hc
        have cp : c ≠ p := fun z => by subst z; rw [hp] at hc; cases hc
        rw [set_ne cp, set_ne c1, set_ne cp, set_ne c0, set_ne cp]
        exact hc
  · rw [List.set_set]
    exact h p0 p1 n0 n1 (Ne.symm h10)
theorem m_cells_due : ∀ ds μ q x, C_cells_due ds μ q x → r_cells_due (dends q) (dstart N_cells_due ds) μ := by
  rintro _ μ q x ⟨a, b, A, B, m, ps, rfl, hA, hB, cA, cB, hm, hps, h⟩
  simp [r_cells_due]
  refine two_lists (src := .tup [a, b]) (.inl rfl) (fun k hk => hk) hA hB (by simp) (by simp) fun p0 p1 n0 n1 hne => ?_
  have hq := h p0 p1 n0 n1 hne
  show forD _ _ _ _ (rowsD ps) _ _
  have sub : ∀ Y : List D × List D, DL.Sub μ (set (set μ p0 (.lst Y.1)) p1 (.lst Y.2)) := fun Y => by
    refine (DL.Sub.new n0).trans (.new ?_)
    rw [set_ne (Ne.symm hne)]
    exact n1
  refine forD_by (fun xs Γ μ' => ∃ (qs : List (Nat × Int)) (Y : List D × List D) (o3 o4 : Option D), xs = rowsD qs ∧ Γ = [some (.tup [a, b]), some (.fl (rowsD ps)), some (.fl [.ref p0, .ref p1]), o3, o4, none] ∧ μ' = set (set μ p0 (.lst Y.1)) p1 (.lst Y.2) ∧ (∀ z ∈ qs, z.1 < m) ∧ Y.1.length = m ∧ Y.2.length = m ∧ dueD A B ps = qs.foldl (dueStep A B) Y)
    ?_ ?_ _ _ _ ⟨ps, (A, B), none, none, rfl, rfl, rfl, hps, cA.1, cB.1, rfl⟩
  · rintro Γ μ' ⟨qs, Y, o3, o4, hx, rfl, rfl, _, _, _, he⟩
    cases qs with
    | cons z qs => cases hx
    | nil =>
      rw [he] at hq
      refine ⟨trivial, ?_⟩
      simp
      exact fwd hq
  · rintro x xs Γ μ' ⟨qs, Y, o3, o4, hx, rfl, rfl, hz, l0, l1, he⟩
    cases qs with
    | nil => cases hx
    | cons z qs =>
      obtain ⟨s, f⟩ := z
      cases hx
      have h1 : s < m := hz _ List.mem_cons_self
      obtain ⟨ea, ca⟩ := cells_get cA h1
      obtain ⟨eb, cb⟩ := cells_get cB h1
      refine ⟨trivial, fun F hF => ?_⟩
      simp
      have fin : F [some (.tup [a, b]), some (.fl (rowsD ps)), some (.fl [.ref p0, .ref p1]), some (.int (s : Int)), some (.int f), none] (set (set μ p0 (.lst (dueStep A B Y (s, f)).1)) p1 (.lst (dueStep A B Y (s, f)).2)) := by
        refine hF _ _ ⟨qs, dueStep A B Y (s, f), _, _, rfl, rfl, rfl, fun z hz' => hz z (List.mem_cons_of_mem _ hz'), ?_, ?_, he⟩
        · rw [← l0]; exact (due_len [(s, f)] Y).1
        · rw [← l1]; exact (due_len [(s, f)] Y).2
      by_cases f1 : f = 1
      · subst f1
        simp
        refine ls_dIx ((sub Y).ls hB) eb ?_
        simp [dgSub]
        refine set_at (xs := Y.1) (by rw [set_ne hne, set_same]) (by omega) ?_
        rw [set_swap hne]
        exact fin
      · simp [f1]
        by_cases f2 : f = 2
        · subst f2
          simp
          refine ls_dIx ((sub Y).ls hA) ea ?_
          simp [dgSub]
          refine set_at (xs := Y.2) set_same (by omega) ?_
          rw [set_set]
          exact fin
        · simp [f2]
          have e : dueStep A B Y (s, f) = Y := by unfold dueStep; simp [f1, f2]
          rw [e] at fin
          exact fin
end K71

namespace K71
open PySem PySem.Spec PyProof.Rows L2 DL
/-! ### mend_holds -/
/-- data without addresses, n deep at most, that may be compared -/
def good : Nat → D → Bool
  | 0, _ => false
  | n + 1, x => shp x && match x with
    | .tup xs => decide (xs.length ≤ 1000) && xs.all (good n)
    | .fl xs => decide (xs.length ≤ 1000) && xs.all (good n)
    | .non => true
    | .bl _ => true
    | .int _ => true
    | .str _ => true
    | _ => false
theorem good_sq {n : Nat} {x : D} (h : good (n + 1) x = true) (μ : Sto) : shp x = true ∧ (∃ t, tyD μ x = some t) ∧ ∀ xs, sqOf μ x = some xs → xs.length ≤ 1000 ∧ ∀ y ∈ xs, good n y = true := by
  unfold good at h
  rw [Bool.and_eq_true] at h
  refine ⟨h.1, ?_⟩
  have h2 := h.2
  cases x with
  | tup xs =>
    simp only [Bool.and_eq_true, decide_eq_true_eq, List.all_eq_true] at h2
    exact ⟨⟨_, rfl⟩, fun ys e => by cases e; exact h2⟩
  | fl xs =>
    simp only [Bool.and_eq_true, decide_eq_true_eq, List.all_eq_true] at h2
    exact ⟨⟨_, rfl⟩, fun ys e => by cases e; exact h2⟩
  | wl _ => cases h2
  | ref _ => cases h2
  | ty _ => cases h2
  | _ => exact ⟨⟨_, rfl⟩, fun ys e => by cases e⟩
theorem good_cmp {S : Bool} {μ : Sto} : ∀ {n : Nat} {x y : D}, good n x = true → good n y = true → Cmp S μ n x y
  | 0, _, _, h, _ => by cases h
  | n + 1, x, y, hx, hy => by
    obtain ⟨sx, tx, qx⟩ := good_sq hx μ
    obtain ⟨sy, ty, qy⟩ := good_sq hy μ
    refine ⟨⟨tx, ty⟩, ?_⟩
    cases ex : sqOf μ x with
    | none =>
      cases ey : sqOf μ y with
      | none => exact ⟨sx, sy⟩
      | some ys => exact fun _ => ⟨by rw [shp_rsv sx]; exact sx, by rw [shp_rsv sy]; exact sy⟩
    | some xs =>
      cases ey : sqOf μ y with
      | none => exact fun _ => ⟨by rw [shp_rsv sx]; exact sx, by rw [shp_rsv sy]; exact sy⟩
      | some ys =>
        obtain ⟨l1, g1⟩ := qx xs ex
        obtain ⟨l2, g2⟩ := qy ys ey
        exact ⟨l1, l2, fun z hz => good_cmp (g1 _ (List.of_mem_zip hz).1) (g2 _ (List.of_mem_zip hz).2)⟩
theorem like_any {μ : Sto} {n : Nat} {x y : D} (hx : good n x = true) (hy : good n y = true) : like μ n x y = like (fun _ => none) n x y :=
  (cmp_sub (S := true) (μ := fun _ => none) (fun _ _ h => by cases h) (good_cmp hx hy)).2
theorem lf_good {n : Nat} {v : D} (h : Lf v) : good (n + 1) v = true := by
  cases v <;> first | exact h.elim | simp [good, shp, pln, SeqAt.shaped, pyD, PyData.canLay0, PyData.depth]
theorem lfs_good {n : Nat} {vs : List D} (h : ∀ v ∈ vs, Lf v) (hl : vs.length ≤ 1000) : good (n + 2) (.tup vs) = true := by
  unfold good
  rw [(shp_lfs h).2]
  simp only [Bool.true_and, Bool.and_eq_true, decide_eq_true_eq, List.all_eq_true]
  exact ⟨hl, fun v hv => lf_good (h v hv)⟩
theorem cell_good {c : D} (h : Cell c) : good 3 c = true := by
  rcases h with rfl | rfl | rfl | rfl | rfl | ⟨s, vs, rfl, _, hl, hv⟩
  · decide
  · decide
  · decide +kernel
  · decide
  · decide
  · unfold good
    obtain ⟨h1, h2⟩ := lay_lf hv
    have h3 := plns_bl hv
    have e : shp (.tup [.int s, .tup vs]) = true := by simp [shp, pln, plns, h3, SeqAt.shaped, pyD, pyDs, PyData.canLay0, PyData.canLayAll0, PyData.depth, PyData.depthAll, h1, h2]
    rw [e]
    simp [lfs_good hv (show vs.length ≤ 1000 by omega)]
    simp [good, shp, pln, SeqAt.shaped, pyD, PyData.canLay0, PyData.depth]
/-! a paper like the fates told is these -/
theorem isRow_ints {r : D} (h : isRow r = true) : ∃ i j, r = .tup [.int i, .int j] := by
  unfold isRow at h
  split at h
  · rename_i a b
    rw [Bool.and_eq_true] at h
    obtain ⟨h1, h2⟩ := h
    cases a <;> first | (cases h1; done) | skip
    cases b <;> first | (cases h2; done) | exact ⟨_, _, rfl⟩
  · cases h
theorem eqv_rows : ∀ {rs : List D} {ps : List (Nat × Int)}, (∀ r ∈ rs, isRow r = true) → PyData.eqvAll (pyDs rs) (pyDs (rowsD ps)) = true → rs = rowsD ps
  | [], [], _, _ => rfl
  | [], _ :: _, _, h => by simp [rowsD, pyDs, PyData.eqvAll] at h
  | _ :: _, [], _, h => by simp [rowsD, pyDs, PyData.eqvAll] at h
  | r :: rs, p :: ps, hr, h => by
    obtain ⟨i, j, rfl⟩ := isRow_ints (hr _ List.mem_cons_self)
    simp only [rowsD, List.map_cons, pyDs, PyData.eqvAll, Bool.and_eq_true, pyD, PyData.eqv, beq_iff_eq] at h
    obtain ⟨⟨h1, h2, _⟩, h3⟩ := h
    rw [eqv_rows (fun r h => hr r (List.mem_cons_of_mem _ h)) h3, h1, h2]
    rfl
theorem rows_ok : ∀ {rs : List D}, (∀ r ∈ rs, isRow r = true) → plns rs = true ∧ PyData.canLayAll0 (pyDs rs) = true ∧ PyData.depthAll (pyDs rs) ≤ 1
  | [], _ => ⟨rfl, rfl, by simp [pyDs, PyData.depthAll]⟩
  | r :: rs, h => by
    obtain ⟨i, j, rfl⟩ := isRow_ints (h _ List.mem_cons_self)
    obtain ⟨h1, h2, h3⟩ := rows_ok fun r hr => h r (List.mem_cons_of_mem _ hr)
    refine ⟨by simp [plns, pln, h1], by simp [pyDs, pyD, PyData.canLayAll0, PyData.canLay0, h2], ?_⟩
    simp only [pyDs, pyD, PyData.depthAll, PyData.depth]
    omega
theorem shp_rows {rs : List D} (h : ∀ r ∈ rs, isRow r = true) : shp (.fl rs) = true := by
  obtain ⟨h1, h2, h3⟩ := rows_ok h
  simp only [shp, pln, h1, SeqAt.shaped, pyD, PyData.canLay0, h2, PyData.depth, Bool.true_and, decide_eq_true_eq]
  omega
theorem rowsD_row {ps : List (Nat × Int)} : ∀ r ∈ rowsD ps, isRow r = true := fun r hr => by
  obtain ⟨p, _, rfl⟩ := List.mem_map.mp hr
  rfl
theorem fates_lt {m : Nat} {A B : List D} {ps : List (Nat × D)} (h : SpOk m ps) : ∀ p ∈ fatesD A B ps, p.1 < m := fun p hp => by
  obtain ⟨z, hz, rfl⟩ := List.mem_map.mp hp
  exact (h.2.2 z hz).1
theorem due_cells {A B : List D} {m : Nat} (cA : Cells m A) (cB : Cells m B) : ∀ (ps : List (Nat × Int)) (Y : List D × List D), (∀ p ∈ ps, p.1 < m) → Cells m Y.1 → Cells m Y.2 → Cells m (ps.foldl (dueStep A B) Y).1 ∧ Cells m (ps.foldl (dueStep A B) Y).2
  | [], Y, _, h1, h2 => ⟨h1, h2⟩
  | p :: ps, Y, hp, h1, h2 => by
    have hs := hp p List.mem_cons_self
    have put : ∀ {Z : List D} {c : D}, Cells m Z → Cell c → Cells m (Z.set p.1 c) := fun {Z c} hZ hc => ⟨by rw [List.length_set]; exact hZ.1, fun x hx => by
      rcases List.mem_or_eq_of_mem_set hx with h | h
      · exact hZ.2 x h
      · rw [h]; exact hc⟩
    refine due_cells cA cB ps _ (fun z hz => hp z (List.mem_cons_of_mem _ hz)) ?_ ?_
    · unfold dueStep
      dsimp only
      split
      · exact put h1 (cells_get cB hs).2
      · exact h1
    · unfold dueStep
      dsimp only
      split
      · exact put h2 (cells_get cA hs).2
      · exact h2
theorem len_ls {μ : Sto} {d : D} {ds : List D} (h : lsOf μ d = some ds) : lenD μ d = some ds.length ∧ szS d ∧ sqOf μ d = some ds := by
  have h' : sqOf μ d = some ds := by cases d <;> first | exact h | cases h
  obtain ⟨_, h2, h3, _⟩ := sq_some h'
  exact ⟨h2, h3, h'⟩
theorem all_id_map (bs : List Bool) : bs.all _root_.id = bs.all _root_.id := rfl
theorem same_all {x0 x1 x2 x3 : Option D} {u c : D} {X C : List D} {m : Nat} {μ : Sto} {q : DK} (hX : sqOf μ u = some X) (hC : sqOf μ c = some C) (cX : Cells m X) (cC : Cells m C) (hm : m ≤ 20) (h : q (.fl ((List.zipWith (like (fun _ => none) 3) X C).map D.bl)) μ) :
    dFz (dLc (dZip (dCons (dVar 4) (dCons (dVar 5) dNil))) (dgTup 2 (dgCons (dgName 6) (dgCons (dgName 7) dgNil))) dYes (dCall (C_are_same 3) noX (dCons (dVar 6) (dCons (dVar 7) dNil))) [6, 7]) [x0, x1, x2, x3, some u, some c, none, none] μ q := by
  refine fz_zip (pr (like (fun _ => none) 3)) (fun k hk => hk) hX hC (fun z hz μ' s k hk => ?_) (szl (by rw [cX.1]; omega)) ?_
  · obtain ⟨a, b, rfl, hm⟩ := zip_mem hz
    have ga := cell_good (cX.2 a (List.of_mem_zip hm).1)
    have gb := cell_good (cC.2 b (List.of_mem_zip hm).2)
    simp [elD]
    refine ⟨a, b, rfl, good_cmp ga gb, ?_⟩
    rw [like_any ga gb]
    exact hk
  · rw [zip_fm]
    exact h
theorem l_mend_holds : ∀ ds μ q x, C_mend_holds ds μ q x → ds.length = 4 := by
  rintro _ μ q x ⟨p, a, b, c, e, A, B, C, E, m, ps, rfl, _⟩; rfl
theorem m_mend_holds : ∀ ds μ q x, C_mend_holds ds μ q x → r_mend_holds (dends q) (dstart N_mend_holds ds) μ := by
  rintro _ μ q x ⟨p, a, b, c, e, A, B, C, E, m, ps, rfl, hp, hA, hB, hC, hE, cA, cB, cC, cE, sp, h⟩
  simp [r_mend_holds]
  refine ⟨p, rfl, hp, ?_⟩
  unfold mendD at h
  cases e1 : isPap p with
  | false =>
    rw [e1] at h
    simp
    exact fwd h
  | true =>
    rw [e1] at h
    simp
    have hp' : ∃ rs, p = .fl rs ∧ ∀ r ∈ rs, isRow r = true := by
      cases p with
      | fl rs => exact ⟨rs, rfl, List.all_eq_true.mp e1⟩
      | _ => cases e1
    obtain ⟨rs, rfl, hr⟩ := hp'
    refine ⟨a, b, A, B, m, ps, rfl, hA, hB, cA, cB, sp, ?_⟩
    refine eq_by (shp_rows hr) (shp_rows rowsD_row) ?_
    cases e2 : eqD (.fl rs) (.fl (rowsD (fatesD A B ps))) with
    | false =>
      rw [e2] at h
      simp [e2]
      exact fwd h
    | true =>
      rw [e2] at h
      have hrs : rs = rowsD (fatesD A B ps) := eqv_rows hr (by simpa [eqD, pyD, PyData.eqv] using e2)
      subst hrs
      simp [e2, dFor, dZip]
      refine ⟨a, b, A, B, m, fatesD A B ps, rfl, hA, hB, cA, cB, sp.1, fates_lt sp, fun p0 p1 n0 n1 hne => ?_⟩
      refine ⟨_, rfl, _, rfl, ?_⟩
      obtain ⟨d0, d1⟩ := due_cells cA cB (fatesD A B ps) (A, B) (fates_lt sp) cA cB
      have d0 : Cells m (dueD A B (fatesD A B ps)).1 := d0
      have d1 : Cells m (dueD A B (fatesD A B ps)).2 := d1
      have sub : DL.Sub μ (set (set μ p0 (.lst (dueD A B (fatesD A B ps)).1)) p1 (.lst (dueD A B (fatesD A B ps)).2)) := (DL.Sub.new n0).trans (.new (by rw [set_ne (Ne.symm hne)]; exact n1))
      generalize hμ : set (set μ p0 (.lst (dueD A B (fatesD A B ps)).1)) p1 (.lst (dueD A B (fatesD A B ps)).2) = μ1 at sub
      have g0 : μ1 p0 = some (.lst (dueD A B (fatesD A B ps)).1) := by rw [← hμ, set_ne hne, set_same]
      have g1 : μ1 p1 = some (.lst (dueD A B (fatesD A B ps)).2) := by rw [← hμ, set_same]
      have back : ∀ b, q (.bl b) μ → ∃ μ'', DL.Sub μ'' μ1 ∧ q (.bl b) μ'' := fun b hb => ⟨μ, sub, hb⟩
      generalize (dueD A B (fatesD A B ps)).1 = X at *
      generalize (dueD A B (fatesD A B ps)).2 = Y at *
      obtain ⟨lX, _, qX⟩ := len_ls (lsOf_ref g0)
      obtain ⟨lY, _, qY⟩ := len_ls (lsOf_ref g1)
      obtain ⟨lC, zC, qC⟩ := len_ls (sub.ls hC)
      obtain ⟨lE, zE, qE⟩ := len_ls (sub.ls hE)
      refine ⟨⟨rfl, rfl⟩, ?_⟩
      simp
      refine ⟨_, lX, _, lC, zC, ?_⟩
      rw [d0.1, cC.1, if_pos rfl]
      refine same_all qX qC d0 cC sp.1 ?_
      refine ⟨_, rfl, ?_⟩
      rw [all_id_map]
      have hs1 : sameL X C = (List.zipWith (like (fun _ => none) 3) X C).all _root_.id := by unfold sameL; rw [d0.1, cC.1]; simp
      have hs2 : sameL Y E = (List.zipWith (like (fun _ => none) 3) Y E).all _root_.id := by unfold sameL; rw [d1.1, cE.1]; simp
      rw [hs1, hs2] at h
      cases e3 : (List.zipWith (like (fun _ => none) 3) X C).all _root_.id with
      | false =>
        rw [e3] at h
        simp
        exact back _ h
      | true =>
        rw [e3] at h
        simp
        refine ⟨⟨rfl, rfl⟩, ?_⟩
        simp
        refine ⟨_, lY, _, lE, zE, ?_⟩
        rw [d1.1, cE.1, if_pos rfl]
        refine same_all qY qE d1 cE sp.1 ?_
        refine ⟨_, rfl, ?_⟩
        rw [all_id_map]
        cases e4 : (List.zipWith (like (fun _ => none) 3) Y E).all _root_.id with
        | false =>
          rw [e4] at h
          simp
          exact back _ h
        | true =>
          rw [e4] at h
          simp
          exact ⟨⟨rfl, rfl⟩, back _ h⟩
end K71

namespace K71
open PySem PySem.Spec PyProof.Rows L2 DL
theorem mulW {i j : Int} (hi : i.natAbs < 2 ^ 64) (hj : j.natAbs < 2 ^ 64) : CMulW i j := by
  unfold CMulW
  have h1 : i.natAbs.log2 < 400000 := log2_lt (n := 64) hi (by omega) (by omega)
  have h2 : j.natAbs.log2 < 400000 := log2_lt (n := 64) hj (by omega) (by omega)
  omega
theorem l__law_mixed : ∀ ds μ q x, C__law_mixed ds μ q x → ds.length = 2 := by
  rintro _ μ q x ⟨c, k, rfl, _⟩; rfl
theorem m__law_mixed : ∀ ds μ q x, C__law_mixed ds μ q x → r__law_mixed (dends q) (dstart N__law_mixed ds) μ := by
  rintro _ μ q x ⟨c, k, rfl, hk, h⟩
  have e0 := Int.emod_nonneg c (show (2147483647 : Int) ≠ 0 by omega)
  have e1 := Int.emod_lt_of_pos c (show (0 : Int) < 2147483647 by omega)
  simp [r__law_mixed]
  generalize c % 2147483647 = y at e0 e1 ⊢
  have k2 : (7919 * k).natAbs < 2 ^ 64 := by omega
  refine ⟨mulW (by omega) (by omega), mulW (by omega) (by omega), mulW k2 (by omega), ?_⟩
  have f0 := Int.emod_nonneg (y * 48271 + 7919 * k * k + 104729) (show (2147483647 : Int) ≠ 0 by omega)
  have f1 := Int.emod_lt_of_pos (y * 48271 + 7919 * k * k + 104729) (show (0 : Int) < 2147483647 by omega)
  generalize (y * 48271 + 7919 * k * k + 104729) % 2147483647 = z at f0 f1 ⊢
  refine ⟨mulW (by omega) (by omega), fwd (h _ (Int.emod_nonneg _ (by omega)) ?_)⟩
  have := Int.emod_lt_of_pos (z * z) (show (0 : Int) < 2147483629 by omega)
  omega
theorem set_self {μ : Sto} {a : Addr} {o : DO} (h : μ a = some o) : set μ a o = μ := by
  funext b
  unfold DL.set
  by_cases c : b = a
  · subst c; rw [if_pos rfl, h]
  · rw [if_neg c]
theorem dr_lf {ns : List Int} (h : Dr ns) : ∀ v ∈ ns.map D.int, Lf v := fun v hv => by
  obtain ⟨n, hn, rfl⟩ := List.mem_map.mp hv
  have := h.2 n hn
  exact ⟨this.1, by omega⟩
theorem l__law_next : ∀ ds μ q x, C__law_next ds μ q x → ds.length = 1 := by
  rintro _ μ q x ⟨a, ns, rfl, _⟩; rfl
theorem m__law_next : ∀ ds μ q x, C__law_next ds μ q x → r__law_next (dends q) (dstart N__law_next ds) μ := by
  rintro _ μ q x ⟨a, ns, rfl, ha, hd, h⟩
  simp [r__law_next]
  refine eq_by (by rw [rsv_ref ha]; exact (shp_lfs (dr_lf hd)).1) (shp_lfs (vs := []) (by simp)).1 ?_
  rw [rsv_ref ha]
  have e : eqD (.fl (ns.map D.int)) (rsv μ (.fl [])) = ns.isEmpty := by
    show PyData.eqv (pyD (.fl (ns.map D.int))) (pyD (.fl [])) = _
    rw [eqv_nil]
    cases ns <;> rfl
  rw [e]
  cases ns with
  | nil =>
    simp
    have := h 0 [] (by omega) (by omega) hd
    rw [set_self ha] at this
    exact fwd this
  | cons n ns =>
    simp [dBM, tyM, ha, dPopAt]
    have hn := hd.2 n List.mem_cons_self
    refine ⟨0, by simp [seqIndex?], D.int n, by simp, fwd ?_⟩
    simp
    exact h n ns hn.1 hn.2 ⟨Nat.le_trans (Nat.le_succ _) hd.1, fun y hy => hd.2 y (List.mem_cons_of_mem _ hy)⟩
/-! ### the numbers drawn -/
theorem l__law_draws : ∀ ds μ q x, C__law_draws ds μ q x → ds.length = 1 := by
  rintro _ μ q x ⟨cs, rfl, _⟩; rfl
theorem dr_snoc {ns : List Int} {n : Int} (h : ns.length < 1000000) (hd : Dr ns) (h0 : 0 ≤ n) (h1 : n < 2 ^ 31) : Dr (ns ++ [n]) := ⟨by rw [List.length_append]; exact h, fun y hy => by
  rcases List.mem_append.mp hy with hy | hy
  · exact hd.2 y hy
  · rw [List.mem_singleton.mp hy]; exact ⟨h0, h1⟩⟩
theorem app_at {μ : Sto} {a : Addr} {ns : List Int} {n : Int} {q : DK} (h : μ a = some (.lst (ns.map D.int))) (hl : ns.length < 1000000) (hq : q .non (set μ a (.lst ((ns ++ [n]).map D.int)))) : dAppend (.ref a) [.int n] μ q :=
  ⟨_, h, by rw [List.length_map, sizeLine_eq]; omega, by rw [List.map_append] at hq; exact hq⟩
theorem ran_mem {lo : Int} {n : Nat} {x : D} (h : x ∈ ran lo n) : ∃ i : Nat, i < n ∧ x = .int (lo + i) := by
  obtain ⟨i, hi, rfl⟩ := List.mem_map.mp h
  exact ⟨i, List.mem_range.mp hi, rfl⟩
theorem draws_rest {a : Addr} {x0 x2 o4 : Option D} {c : Int} {μ : Sto} {e : DEnds} {ns : List Int} (hc : 0 ≤ c) (hd : Dr ns) (hz : ns.length ≤ 3000)
    (h : ∀ (ms : List Int) (q3 q4 : Option D), Dr ms → ms.length ≤ max ns.length 900 + 1 → e.nx [x0, some (.ref a), x2, q3, q4] (set μ a (.lst (ms.map D.int)))) :
    dWhile (dAnd (dTest (dOp dGe (dVar 3) (dOp dPow (dC (D.int 10)) (dC (D.int 18))))) (dTest (dOp dLt (dCB dLen (dCons (dVar 1) dNil)) (dC (D.int 900)))))
      (dSeq (dDrop (dBM "list" dAppend (dVar 1) (dCons (dOp dMod (dVar 3) (dC (D.int 2147483629))) dNil))) (dAsg (dOp dDiv (dVar 3) (dC (D.int 2147483629))) (dgName 3)))
      { e with nx := dIfS (dTest (dOp dGe (dVar 3) (dC (D.int 2147483629)))) (dDrop (dBM "list" dAppend (dVar 1) (dCons (dOp dMod (dVar 3) (dC (D.int 2147483629))) dNil))) dNext e }
      [x0, some (.ref a), x2, some (.int c), o4] (set μ a (.lst (ns.map D.int))) := by
  have pow : CPow 10 18 := ⟨by omega, by omega, by decide⟩
  have md : ∀ c : Int, 0 ≤ c % 2147483629 ∧ c % 2147483629 < 2 ^ 31 := fun c => by
    have h0 := Int.emod_nonneg c (show (2147483629 : Int) ≠ 0 by omega)
    have h1 := Int.emod_lt_of_pos c (show (0 : Int) < 2147483629 by omega)
    omega
  refine while_by (fun n Γ μ' => ∃ (ms : List Int) (c : Int), 0 ≤ c ∧ Γ = [x0, some (.ref a), x2, some (.int c), o4] ∧ μ' = set μ a (.lst (ms.map D.int)) ∧ Dr ms ∧ ms.length ≤ max ns.length 900 ∧ n = 900 - ms.length) ?_ ⟨ns, c, hc, rfl, rfl, hd, by omega, rfl⟩
  rintro n Γ μ' F ⟨ms, c, hc, rfl, rfl, hm, hl, rfl⟩ hF
  have out : dIfS (dTest (dOp dGe (dVar 3) (dC (D.int 2147483629)))) (dDrop (dBM "list" dAppend (dVar 1) (dCons (dOp dMod (dVar 3) (dC (D.int 2147483629))) dNil))) dNext e [x0, some (.ref a), x2, some (.int c), o4] (set μ a (.lst (ms.map D.int))) := by
    simp
    split
    · simp [dBM, tyM, set_same]
      refine app_at (ns := ms) set_same (by omega) ?_
      rw [set_set]
      exact h _ _ _ (dr_snoc (by omega) hm (md c).1 (md c).2) (by rw [List.length_append]; simp; omega)
    · exact h ms _ _ hm (by omega)
  simp [pow]
  by_cases c1 : (1000000000000000000 : Int) ≤ c
  · simp [c1]
    refine ⟨_, lenD_ref set_same, ?_⟩
    rw [List.length_map]
    by_cases c2 : (ms.length : Int) < 900
    · rw [if_pos c2]
      simp [dBM, tyM, set_same]
      refine app_at (ns := ms) set_same (by omega) ?_
      rw [set_set]
      refine ⟨⟨by omega, by decide⟩, hF (900 - (ms.length + 1)) (by omega) _ _ ⟨ms ++ [c % 2147483629], c / 2147483629, Int.ediv_nonneg hc (by omega), rfl, rfl, dr_snoc (by omega) hm (md c).1 (md c).2, ?_, ?_⟩⟩
      · rw [List.length_append]; simp; omega
      · rw [List.length_append]; simp
    · rw [if_neg c2]
      simpa using out
  · simp [c1]
    simpa using out
theorem m__law_draws : ∀ ds μ q x, C__law_draws ds μ q x → r__law_draws (dends q) (dstart N__law_draws ds) μ := by
  rintro _ μ q x ⟨cs, rfl, hl, h⟩
  simp [r__law_draws]
  intro a hn
  simp [dFor, dRan1]
  have e : (if (63 : Int) < (cs.length : Int) then 63 else (cs.length : Int)) = (cs.length : Int) := if_neg (by omega)
  rw [e]
  refine ⟨by omega, ?_⟩
  rw [Int.toNat_natCast]
  refine forD_by (fun xs Γ μ' => ∃ (ns : List Int) (o2 o3 o4 : Option D), (∀ x ∈ xs, ∃ i : Nat, i < cs.length ∧ x = .int (0 + i)) ∧ Γ = [some (.wl (cs.map D.int)), some (.ref a), o2, o3, o4] ∧ μ' = set μ a (.lst (ns.map D.int)) ∧ Dr ns ∧ xs.length ≤ 63 ∧ ns.length + 20 * xs.length ≤ 3000)
    ?_ ?_ _ _ _ ⟨[], none, none, none, fun x hx => ran_mem hx, rfl, rfl, ⟨by simp, by simp⟩, (by simp [ran]; omega), by simp [ran]; omega⟩
  · rintro Γ μ' ⟨ns, o2, o3, o4, _, rfl, rfl, hd, _, _⟩
    refine ⟨trivial, ?_⟩
    simp
    exact fwd (h a ns hn hd)
  · rintro x xs Γ μ' ⟨ns, o2, o3, o4, hx, rfl, rfl, hd, h63, hz⟩
    obtain ⟨k, hk, rfl⟩ := hx x List.mem_cons_self
    have hx' := fun y hy => hx y (List.mem_cons_of_mem _ hy)
    have h63' : xs.length + 1 ≤ 63 := h63
    have hz' : ns.length + 20 * (xs.length + 1) ≤ 3000 := hz
    refine ⟨trivial, fun F hF => ?_⟩
    obtain ⟨c0, hc0⟩ : ∃ c : Int, cs[k]? = some c := ⟨_, List.getElem?_eq_getElem hk⟩
    simp
    refine ⟨.int c0, ls_ix (ds := cs.map D.int) rfl (by rw [List.getElem?_map, hc0]; rfl), ?_⟩
    simp
    have hc : 0 ≤ (if c0 < 0 then -c0 else c0) := by split <;> omega
    generalize (if c0 < 0 then -c0 else c0) = c at hc ⊢
    have pow : CPow 10 18 := ⟨by omega, by omega, by decide⟩
    refine ⟨pow, ?_⟩
    have hc0' : 0 ≤ c := hc
    split
    · rename_i hlt
      simp [dFor, dRan1]
      refine forD_by (fun ys Γ μ' => ∃ (ms : List Int) (p4 : Option D), (∀ y ∈ ys, ∃ j : Nat, j < 12 ∧ y = .int (0 + j)) ∧ Γ = [some (.wl (cs.map D.int)), some (.ref a), some (.int (k : Int)), some (.int c), p4] ∧ μ' = set μ a (.lst (ms.map D.int)) ∧ Dr ms ∧ ms.length + ys.length ≤ ns.length + 12)
        ?_ ?_ _ _ _ ⟨ns, o4, fun y hy => ran_mem hy, rfl, rfl, hd, by simp [ran]⟩
      · rintro Γ μ' ⟨ms, p4, _, rfl, rfl, hm, hml⟩
        refine ⟨trivial, ?_⟩
        have hml' : ms.length ≤ ns.length + 12 := hml
        refine draws_rest (e := { nx := F, rt := _, bk := _, ct := F }) hc0' hm (by omega) fun ms' q3 q4 hm' hl' => hF _ _ ⟨ms', _, _, _, hx', rfl, rfl, hm', by omega, by omega⟩
      · rintro y ys Γ μ' ⟨ms, p4, hy, rfl, rfl, hm, hml⟩
        obtain ⟨j, hj, rfl⟩ := hy y List.mem_cons_self
        have hml' : ms.length + (ys.length + 1) ≤ ns.length + 12 := hml
        refine ⟨trivial, fun G hG => ?_⟩
        simp [dBM, tyM, set_same]
        refine ⟨mulW (by omega) (by omega), c, 3 * (j : Int) + 1, rfl, ⟨by omega, by omega⟩, fun n h0 h1 => ?_⟩
        simp
        refine ⟨n, (j : Int) + k + 2, rfl, ⟨by omega, by omega⟩, fun n' h0' h1' => ?_⟩
        refine app_at (ns := ms) set_same (by omega) ?_
        rw [set_set]
        refine hG _ _ ⟨ms ++ [n'], _, fun z hz => hy z (List.mem_cons_of_mem _ hz), rfl, rfl, dr_snoc (by omega) hm h0' h1', ?_⟩
        rw [List.length_append]
        simp
        omega
    · refine draws_rest (e := { nx := F, rt := _, bk := _, ct := F }) hc0' hd (by omega) fun ms' q3 q4 hm' hl' => hF _ _ ⟨ms', _, _, _, hx', rfl, rfl, hm', by omega, by omega⟩
end K71

namespace K71
open PySem PySem.Spec PyProof.Rows L2 DL
/-! ### what stands on the disk -/
theorem num_c {n : Int} (h0 : 0 ≤ n) (h1 : n < 2 ^ 40) : Num (.int n) := ⟨n, rfl, h0, h1⟩
theorem cts_of {vs : List D} (hl : vs.length ≤ 20) (h : ∀ v ∈ vs, Num v) : Cts (.tup vs) := ⟨vs, rfl, hl, h⟩
theorem cutD_mem {xs : List D} {lo hi : Option Int} {x : D} (h : x ∈ cutD xs lo hi) : x ∈ xs := List.mem_of_mem_drop (List.mem_of_mem_take h)
theorem cutD_len {xs : List D} {lo hi : Option Int} : (cutD xs lo hi).length ≤ xs.length := by
  unfold DL.cutD
  rw [List.length_take, List.length_drop]
  omega
theorem l__law_heads : ∀ ds μ q x, C__law_heads ds μ q x → ds.length = 2 := by
  rintro _ μ q x ⟨r, m, rfl, _⟩; rfl
@[simp] theorem dSlvF_tup {xs : List D} {lo hi : Option Int} {μ : Sto} {q : DK} : dSlvF (.tup xs) lo hi μ q ↔ q (.tup (cutD xs lo hi)) μ := Iff.rfl
@[simp] theorem dSlvF_fl {xs : List D} {lo hi : Option Int} {μ : Sto} {q : DK} : dSlvF (.fl xs) lo hi μ q ↔ q (.fl (cutD xs lo hi)) μ := ⟨fun ⟨_, h, hq⟩ => by cases h; exact hq, fun h => ⟨_, rfl, h⟩⟩
theorem cons_cts {a : Int} {vs : List D} (h0 : 0 ≤ a) (h1 : a < 2 ^ 40) (hl : vs.length ≤ 19) (h : ∀ v ∈ vs, Num v) : Cts (.tup (D.int a :: vs)) := cts_of (by simp; omega) fun v hv => by
  rcases List.mem_cons.mp hv with rfl | hv
  · exact num_c h0 h1
  · exact h v hv
theorem m__law_heads : ∀ ds μ q x, C__law_heads ds μ q x → r__law_heads (dends q) (dstart N__law_heads ds) μ := by
  rintro _ μ q x ⟨r, m, rfl, hr, hm, h⟩
  simp [r__law_heads, dRepT]
  refine ⟨by omega, ?_⟩
  have z1 : (List.replicate (m - 4).toNat (D.int 0)).length = (m - 4).toNat := List.length_replicate
  have z2 : ∀ v ∈ List.replicate (m - 4).toNat (D.int 0), Num v := fun v hv => by
    rw [List.eq_of_mem_replicate hv]
    exact num_c (by omega) (by omega)
  generalize List.replicate (m - 4).toNat (D.int 0) = zs at z1 z2 ⊢
  have zl : zs.length ≤ 16 := by omega
  intro p hp
  simp [set_same]
  refine ⟨.inl r, rfl, ?_⟩
  rw [set_set]
  have s1 : 1 + zs.length ≤ sizeLine := szl (by omega)
  have s2 : zs.length + 1 ≤ sizeLine := szl (by omega)
  have cl : (cutD zs (some 1) none).length ≤ 16 := Nat.le_trans cutD_len zl
  have s3 : (cutD zs (some 1) none).length + 1 + 1 ≤ sizeLine := szl (by omega)
  have s4 : 2 + (cutD zs (some 1) none).length ≤ sizeLine := szl (by omega)
  have r2 : ¬ r = 2 + r := by omega
  simp [dSlF, dNoPart, dPart, s1, s2, s3, s4, r2, dgSub, dSet, set_same, set_set, keyOf, putD]
  have n0 : Num (.int 0) := num_c (by omega) (by omega)
  have n1 : Num (.int 1) := num_c (by omega) (by omega)
  refine ⟨szl (by omega), fwd (h p _ _ hp ?_ ?_)⟩
  · refine ⟨_, _, _, rfl, ?_, ?_, ?_⟩
    · exact cons_cts (by omega) (by omega) (by simp) (by simpa using n0)
    · exact cons_cts (by omega) (by omega) (by simp) (by simpa using n0)
    · exact cons_cts (by omega) (by omega) (by simp) (by simpa using n1)
  · refine ⟨_, _, _, rfl, ?_, ?_, ?_⟩
    · exact cons_cts (by omega) (by omega) (by omega) z2
    · exact cons_cts (by omega) (by omega) (by omega) z2
    · refine cons_cts (by omega) (by omega) (by simp; omega) fun v hv => ?_
      rcases List.mem_cons.mp hv with rfl | hv
      · exact n1
      · exact z2 v (cutD_mem hv)
theorem l__law_contents : ∀ ds μ q x, C__law_contents ds μ q x → ds.length = 2 := by
  rintro _ μ q x ⟨h, r, s, rfl, _⟩; rfl
theorem m__law_contents : ∀ ds μ q x, C__law_contents ds μ q x → r__law_contents (dends q) (dstart N__law_contents ds) μ := by
  rintro _ μ q _ ⟨h, r, s, rfl, ⟨hr, x, y, hh, tx, ty⟩, hq⟩
  simp [r__law_contents, dInN, inOf, hh, keyOf]
  have n0 : Num (.int 0) := num_c (by omega) (by omega)
  have n1 : Num (.int 1) := num_c (by omega) (by omega)
  have n2 : Num (.int 2) := num_c (by omega) (by omega)
  have n3 : Num (.int 3) := num_c (by omega) (by omega)
  have n5 : Num (.int 5) := num_c (by omega) (by omega)
  by_cases e1 : s = r
  · subst e1
    have v : valD [((Sum.inl s : Key), x), (.inl (2 + s), y)] (.inl s) = some x := by simp [valD]
    simp [v]
    exact ⟨x, by simp [ixOf, hh, keyOf, v], trivial, fwd (hq x tx)⟩
  · by_cases e2 : s = 2 + r
    · subst e2
      have v : valD [((Sum.inl r : Key), x), (.inl (2 + r), y)] (.inl (2 + r)) = some y := by
        have : ¬ ((Sum.inl r : Key) = .inl (2 + r)) := fun z => by injection z; omega
        simp [valD, this]
      simp [v]
      exact ⟨y, by simp [ixOf, hh, keyOf, v], trivial, fwd (hq y ty)⟩
    · have v : valD [((Sum.inl r : Key), x), (.inl (2 + r), y)] (.inl s) = none := by
        have a1 : ¬ ((Sum.inl r : Key) = .inl s) := fun z => by injection z; omega
        have a2 : ¬ ((Sum.inl (2 + r) : Key) = .inl s) := fun z => by injection z; omega
        simp [valD, a1, a2]
      simp [v]
      exact fwd (hq _ ⟨_, _, _, rfl, cts_of (by simp) (by simp [n0, n1, n2]), cts_of (by simp) (by simp), cts_of (by simp) (by simp [n3, n1, n5])⟩)
/-- some item -/
theorem atI_some {xs : List D} {j : Int} (h0 : 0 ≤ j) (h1 : j < xs.length) : ∃ d, atI xs j = some d ∧ d ∈ xs := by
  obtain ⟨n, rfl⟩ := Int.eq_ofNat_of_zero_le h0
  have hn : n < xs.length := by omega
  exact ⟨xs[n], by rw [show ((n : Nat) : Int) = (n : Int) from rfl, atI_n, List.getElem?_eq_getElem hn], List.getElem_mem hn⟩
theorem pick {xs : List D} {j m : Int} {μ : Sto} {q : DK} (hm : 0 < m) (hl : m ≤ xs.length) (h : ∀ d ∈ xs, q d μ) : dIx (.fl xs) (.int (j % m)) μ q := by
  obtain ⟨d, e, hd⟩ := atI_some (xs := xs) (Int.emod_nonneg j (by omega)) (Int.lt_of_lt_of_le (Int.emod_lt_of_pos j hm) hl)
  exact ⟨d, e, trivial, h d hd⟩
theorem sumI_bd : ∀ {vs : List D} {f : Int}, 0 ≤ f → f < 2 ^ 31 → (∀ v ∈ vs, Num v) → 0 ≤ sumI f vs ∧ sumI f vs < 2 ^ 31
  | [], f, h0, h1, _ => ⟨h0, h1⟩
  | v :: vs, f, h0, h1, h => by
    obtain ⟨n, rfl, n0, n1⟩ := h v List.mem_cons_self
    unfold sumI
    refine sumI_bd (Int.emod_nonneg _ (by omega)) ?_ fun v hv => h v (List.mem_cons_of_mem _ hv)
    have := Int.emod_lt_of_pos (f * 65599 + n + 1) (show (0 : Int) < 2147483647 by omega)
    omega
theorem l__law_cell : ∀ ds μ q x, C__law_cell ds μ q x → ds.length = 3 := by
  rintro _ μ q _ ⟨s, n, x, rfl, _⟩; rfl
theorem divOk {i j : Int} (h0 : 0 < j) (h1 : j < 2 ^ 64) : CDivW i j := ⟨h0, log2_lt (n := 64) (by omega) (by omega) (by omega)⟩
theorem cell_of {s : Int} {vs : List D} (h0 : 0 ≤ s) (h1 : s < 2 ^ 40) (hl : vs.length ≤ 20) (h : ∀ v ∈ vs, Lf v) : Cell (.tup [.int s, .tup vs]) := .inr (.inr (.inr (.inr (.inr ⟨s, vs, rfl, ⟨h0, h1⟩, hl, h⟩))))
theorem m__law_cell : ∀ ds μ q x, C__law_cell ds μ q x → r__law_cell (dends q) (dstart N__law_cell ds) μ := by
  rintro _ μ q _ ⟨s, n, x, rfl, hs, hn, ⟨x, y, z, rfl, hx, hy, hz⟩, h⟩
  simp only [r__law_cell, dSeq, dAsg, dOp, dVar, dC, dstart, dgName]
  simp
  refine ⟨divOk (by omega) (by omega), ?_⟩
  have hp : ∀ d ∈ [x, y, z], Cts d := by
    intro d hd
    simp at hd
    rcases hd with rfl | rfl | rfl <;> assumption
  obtain ⟨d, e, hd⟩ := atI_some (xs := [x, y, z]) (Int.emod_nonneg (n / 8) (show (3 : Int) ≠ 0 by omega)) (Int.emod_lt_of_pos (n / 8) (show (0 : Int) < 3 by omega))
  refine ⟨d, e, ?_⟩
  obtain ⟨vs, rfl, hl, hv⟩ := hp d hd
  refine ⟨s, vs, rfl, hs, hv, ?_⟩
  obtain ⟨b0, b1⟩ := sumI_bd (f := s + 1) (by omega) (by omega) hv
  simp
  refine ⟨divOk (by omega) (by omega), ?_⟩
  generalize sumI (s + 1) vs = t at b0 b1 ⊢
  have lv : ∀ v ∈ vs, Lf v := fun v h => num_lf (hv v h)
  obtain ⟨o, e2, ho⟩ := atI_some (xs := [.tup [.int 1, .int 2, .int 3], .str "rot", .tup [], .tup [.int 1, .tup [.bl true]]]) (Int.emod_nonneg (n / 32) (show (4 : Int) ≠ 0 by omega)) (Int.emod_lt_of_pos (n / 32) (show (0 : Int) < 4 by omega))
  refine ⟨o, e2, ?_⟩
  have co : Cell o := by
    simp at ho
    rcases ho with rfl | rfl | rfl | rfl
    · exact .inr (.inr (.inr (.inr (.inl rfl))))
    · exact .inr (.inr (.inl rfl))
    · exact .inr (.inr (.inr (.inl rfl)))
    · exact cell_of (by omega) (by omega) (by simp) (by simp [Lf])
  have c1 : Cell (.tup [.int t, .tup vs]) := cell_of b0 (by omega) hl lv
  have c2 : Cell (.tup [.int (t + 1), .tup vs]) := cell_of (by omega) (by omega) hl lv
  obtain ⟨c, e3, hc⟩ := atI_some (xs := [.tup [.int t, .tup vs], .tup [.int t, .tup vs], .tup [.int t, .tup vs], .tup [.int t, .tup vs], .non, .int 7, .tup [.int (t + 1), .tup vs], o]) (Int.emod_nonneg n (show (8 : Int) ≠ 0 by omega)) (Int.emod_lt_of_pos n (show (0 : Int) < 8 by omega))
  refine ⟨c, e3, fwd (h c ?_)⟩
  simp at hc
  rcases hc with rfl | rfl | rfl | rfl | rfl
  · exact c1
  · exact .inl rfl
  · exact .inr (.inl rfl)
  · exact c2
  · exact co
end K71

namespace K71
open PySem PySem.Spec PyProof.Rows L2 DL
theorem heads_1 {μ : Sto} {h : Addr} {r : Int} {x y : D} (hh : μ h = some (.dK [(.inl r, x), (.inl (2 + r), y)])) : ixOf μ (.ref h) (.int r) = some x := by
  simp [ixOf, hh, keyOf, valD]
theorem heads_2 {μ : Sto} {h : Addr} {r : Int} {x y : D} (hh : μ h = some (.dK [(.inl r, x), (.inl (2 + r), y)])) : ixOf μ (.ref h) (.int (2 + r)) = some y := by
  have : ¬ ((Sum.inl r : Key) = .inl (2 + r)) := fun z => by injection z; omega
  simp [ixOf, hh, keyOf, valD, this]
theorem app_ls {μ : Sto} {a : Addr} {xs : List D} {v : D} {q : DK} (h : μ a = some (.lst xs)) (hl : xs.length ≤ 1000) (hq : q .non (set μ a (.lst (xs ++ [v])))) : dAppend (.ref a) [v] μ q := ⟨_, h, Nat.lt_of_le_of_lt hl (by rw [sizeLine_eq]; omega), hq⟩
theorem l__law_spots : ∀ ds μ q x, C__law_spots ds μ q x → ds.length = 3 := by
  rintro _ μ q _ ⟨a, ns, h, r, m, rfl, _⟩; rfl
theorem m__law_spots : ∀ ds μ q x, C__law_spots ds μ q x → r__law_spots (dends q) (dstart N__law_spots ds) μ := by
  rintro _ μ q _ ⟨a, ns, h, r, m, rfl, ha, hd, ⟨hr, x, y, hh, ⟨x0, x1, x2, rfl, cx, _, _⟩, ⟨y0, y1, y2, rfl, cy, _, _⟩⟩, hah, hm, hq⟩
  simp [r__law_spots]
  refine ⟨h, [(.inl r, .fl [x0, x1, x2]), (.inl (2 + r), .fl [y0, y1, y2])], [r, 2 + r], rfl, hh, rfl, by simp, fun ys hy _ => ?_⟩
  have hys : ∀ i ∈ ys, i = r ∨ i = 2 + r := fun i hi => by simpa using hy.mem_iff.mp hi
  have hyl : ys.length = 2 := hy.length_eq
  intro p hp
  have hpa : p ≠ a := fun z => by subst z; rw [hp] at ha; cases ha
  have hph : p ≠ h := fun z => by subst z; rw [hp] at hh; cases hh
  let f : D → Option D := fun d => match d with
    | .int i => some (.tup [.int i, if i = r then x0 else y0])
    | _ => none
  refine comp_any (f := f) (R := fun μ2 => _) hp (fun _ _ => trivial) (ys.map D.int) [] (fun d hd' μ' s k hk => ?_) (by simp [hyl]) ?_
  · obtain ⟨i, hi, rfl⟩ := List.mem_map.mp hd'
    simp [elD]
    rcases hys i hi with rfl | rfl
    · refine ⟨_, heads_1 (s h _ hh), trivial, ?_⟩
      simp
      simpa [f] using hk
    · refine ⟨_, heads_2 (s h _ hh), trivial, ?_⟩
      simp
      have : ¬ (2 + r = r) := by omega
      simpa [f, this] using hk
  · let ps0 : List (Nat × D) := ys.map fun i => (i.toNat, if i = r then x0 else y0)
    have e0 : (ys.map D.int).filterMap f = spotsD ps0 := by
      have go : ∀ zs : List Int, (∀ i ∈ zs, 0 ≤ i) → (zs.map D.int).filterMap f = spotsD (zs.map fun i => (i.toNat, if i = r then x0 else y0)) := by
        intro zs
        induction zs with
        | nil => intro _; rfl
        | cons z zs ih =>
          intro hz
          have h0 := hz z List.mem_cons_self
          rw [List.map_cons, List.filterMap_cons_some (f := f) (b := .tup [.int z, if z = r then x0 else y0]) rfl, ih fun i hi => hz i (List.mem_cons_of_mem _ hi)]
          simp [spotsD, Int.toNat_of_nonneg h0]
      exact go ys fun i hi => by rcases hys i hi with e | e <;> omega
    rw [List.nil_append, e0]
    have ok0 : ∀ z ∈ ps0, z.1 < m ∧ Ctn z.2 := fun z hz => by
      obtain ⟨i, hi, rfl⟩ := List.mem_map.mp hz
      refine ⟨?_, ?_⟩
      · rcases hys i hi with e | e <;> (show i.toNat < m; omega)
      · show Ctn (if i = r then x0 else y0)
        split
        · exact .inr cx
        · exact .inr cy
    simp [dFor, dRan2]
    refine ⟨by omega, ?_⟩
    have l0 : ps0.length = 2 := by simp [ps0, hyl]
    refine forD_by (fun xs Γ μ' => ∃ (ps : List (Nat × D)) (ms : List Int) (o4 o5 : Option D), (∀ z ∈ xs, ∃ i : Nat, i < ((m : Int) - 4).toNat ∧ z = .int (4 + i)) ∧ Γ = [some (.ref a), some (.ref h), some (.int (m : Int)), some (.ref p), o4, o5] ∧ μ' = set (set μ p (.lst (spotsD ps))) a (.lst (ms.map D.int)) ∧ Dr ms ∧ (∀ z ∈ ps, z.1 < m ∧ Ctn z.2) ∧ ps.length + xs.length ≤ 40)
      ?_ ?_ _ _ _ ⟨ps0, ns, none, none, fun z hz => ran_mem hz, rfl, ?_, hd, ok0, by rw [l0]; simp [ran]; omega⟩
    · rintro Γ μ' ⟨ps, ms, o4, o5, _, rfl, rfl, hm', hok, hl⟩
      refine ⟨trivial, ?_⟩
      simp
      refine ⟨p, _, set μ a (.lst (ms.map D.int)), rfl, by rw [set_ne hpa, set_same], fun c o hc => ?_, by rw [set_ne hpa]; exact hp, fwd (hq ps ms ⟨hm.2, by simpa using hl, hok⟩ hm')⟩
      by_cases c1 : c = a
      · subst c1; rw [set_same] at hc ⊢; exact hc
      · rw [set_ne c1] at hc ⊢
        rw [set_ne (fun z => by subst z; rw [hp] at hc; cases hc)]
        exact hc
    · rintro z xs Γ μ' ⟨ps, ms, o4, o5, hz, rfl, rfl, hm', hok, hl⟩
      obtain ⟨i, hi, rfl⟩ := hz z List.mem_cons_self
      have hl' : ps.length + (xs.length + 1) ≤ 40 := hl
      refine ⟨trivial, fun F hF => ?_⟩
      simp
      refine ⟨a, ms, rfl, set_same, hm', fun n ms' n0 n1 hm2 => ?_⟩
      rw [set_set]
      simp
      split
      · exact hF _ _ ⟨ps, ms', _, _, fun w hw => hz w (List.mem_cons_of_mem _ hw), rfl, rfl, hm2, hok, by omega⟩
      · simp [dBM, tyM, set_ne hpa, set_same]
        refine ⟨divOk (by omega) (by omega), ?_⟩
        obtain ⟨d, ed, hd2⟩ := atI_some (xs := [.non, .tup [.int 0, .int 1, .int 2], .tup [], .tup [.int 3, .int 1, .int 5]]) (Int.emod_nonneg (n / 3) (show (4 : Int) ≠ 0 by omega)) (Int.emod_lt_of_pos (n / 3) (show (0 : Int) < 4 by omega))
        refine ⟨d, ed, app_ls (by rw [set_ne hpa, set_same]) (by simp [spotsD]; omega) ?_⟩
        rw [set_swap hpa]
        have cd : Ctn d := by
          simp at hd2
          rcases hd2 with rfl | rfl | rfl | rfl
          · exact .inl rfl
          · exact .inr (cts_of (by simp) (by intro v hv; simp at hv; rcases hv with rfl | rfl | rfl <;> exact num_c (by omega) (by omega)))
          · exact .inr (cts_of (by simp) (by simp))
          · exact .inr (cts_of (by simp) (by intro v hv; simp at hv; rcases hv with rfl | rfl | rfl <;> exact num_c (by omega) (by omega)))
        refine hF _ _ ⟨ps ++ [(4 + i, d)], ms', _, _, fun w hw => hz w (List.mem_cons_of_mem _ hw), rfl, by simp [spotsD], hm2, fun w hw => ?_, by simp; omega⟩
        rcases List.mem_append.mp hw with hw | hw
        · exact hok w hw
        · rw [List.mem_singleton.mp hw]
          exact ⟨by show 4 + i < m; omega, cd⟩
    · exact (set_self (μ := set μ p (.lst (spotsD ps0))) (a := a) (by rw [set_ne (Ne.symm hpa)]; exact ha)).symm
end K71

namespace K71
open PySem PySem.Spec PyProof.Rows L2 DL
theorem l__law_due : ∀ ds μ q x, C__law_due ds μ q x → ds.length = 2 := by
  rintro _ μ q x ⟨a, b, A, B, m, ps, rfl, _⟩; rfl
theorem set_comm {μ : Sto} {a b : Addr} {x y : DO} (h : a ≠ b) : set (set μ a x) b y = set (set μ b y) a x := by
  funext c
  unfold DL.set
  by_cases c0 : c = a
  · subst c0; simp [h]
  · simp [c0]
theorem m__law_due : ∀ ds μ q x, C__law_due ds μ q x → r__law_due (dends q) (dstart N__law_due ds) μ := by
  rintro _ μ q x ⟨a, b, A, B, m, ps, rfl, hA, hB, cA, cB, sp, h⟩
  simp [r__law_due]
  intro p hp
  refine dLstC_ls ((DL.Sub.new hp).ls hA) fun p0 n0 => dLstC_ls (((DL.Sub.new hp).trans (.new n0)).ls hB) fun p1 n1 => ?_
  have h0 : p0 ≠ p := fun z => by subst z; rw [set_same] at n0; cases n0
  rw [set_ne h0] at n0
  have h10 : p1 ≠ p0 := fun z => by subst z; rw [set_same] at n1; cases n1
  rw [set_ne h10] at n1
  have h1 : p1 ≠ p := fun z => by subst z; rw [set_same] at n1; cases n1
  rw [set_ne h1] at n1
  have hq := h p0 p1 n0 n1 (Ne.symm h10)
  have sub : ∀ X Y Z : DO, DL.Sub μ (set (set (set μ p X) p0 Y) p1 Z) := fun X Y Z c o hc => by
    rw [set_ne (fun z => by subst z; rw [n1] at hc; cases hc), set_ne (fun z => by subst z; rw [n0] at hc; cases hc), set_ne (fun z => by subst z; rw [hp] at hc; cases hc)]
    exact hc
  have at_p : ∀ X Y Z : DO, set (set (set μ p X) p0 Y) p1 Z p = some X := fun X Y Z => by rw [set_ne (Ne.symm h1), set_ne (Ne.symm h0), set_same]
  have at_0 : ∀ X Y Z : DO, set (set (set μ p X) p0 Y) p1 Z p0 = some Y := fun X Y Z => by rw [set_ne (Ne.symm h10), set_same]
  have at_1 : ∀ X Y Z : DO, set (set (set μ p X) p0 Y) p1 Z p1 = some Z := fun X Y Z => set_same
  have up_p : ∀ X Y Z X' : DO, set (set (set (set μ p X) p0 Y) p1 Z) p X' = set (set (set μ p X') p0 Y) p1 Z := fun X Y Z X' => by
    rw [set_comm h1, set_comm h0, set_set]
  have up_0 : ∀ X Y Z Y' : DO, set (set (set (set μ p X) p0 Y) p1 Z) p0 Y' = set (set (set μ p X) p0 Y') p1 Z := fun X Y Z Y' => by rw [set_comm h10, set_set]
  show forD _ _ _ _ (spotsD ps) _ _
  refine forD_by (fun xs Γ μ' => ∃ (qs : List (Nat × D)) (done : List (Nat × Int)) (Y : List D × List D) (o4 o5 o6 : Option D), xs = spotsD qs ∧ Γ = [some (.fl [a, b]), some (.fl (spotsD ps)), some (.ref p), some (.fl [.ref p0, .ref p1]), o4, o5, o6] ∧
      μ' = set (set (set μ p (.lst (rowsD done))) p0 (.lst Y.1)) p1 (.lst Y.2) ∧ (∀ z ∈ qs, z.1 < m ∧ Ctn z.2) ∧ done.length + qs.length ≤ 40 ∧ Y.1.length = m ∧ Y.2.length = m ∧ fatesD A B ps = done ++ fatesD A B qs ∧ dueD A B (fatesD A B ps) = (fatesD A B qs).foldl (dueStep A B) Y)
    ?_ ?_ _ _ _ ⟨ps, [], (A, B), none, none, none, rfl, rfl, rfl, sp.2.2, by simpa using sp.2.1, cA.1, cB.1, rfl, rfl⟩
  · rintro Γ μ' ⟨qs, done, Y, o4, o5, o6, hx, rfl, rfl, _, _, _, _, he, hdue⟩
    cases qs with
    | cons z qs => cases hx
    | nil =>
      rw [hdue, he] at hq
      refine ⟨trivial, ?_⟩
      simp
      refine ⟨p, _, set (set μ p0 (.lst Y.1)) p1 (.lst Y.2), rfl, at_p _ _ _, fun c o hc => ?_, by rw [set_ne (Ne.symm h1), set_ne (Ne.symm h0)]; exact hp, ?_⟩
      · by_cases c1 : c = p1
        · subst c1; rw [set_same] at hc ⊢; exact hc
        · rw [set_ne c1] at hc ⊢
          by_cases c0 : c = p0
          · subst c0; rw [set_same] at hc ⊢; exact hc
          · rw [set_ne c0] at hc ⊢
            rw [set_ne (fun z => by subst z; rw [hp] at hc; cases hc)]
            exact hc
      · refine fwd ?_
        simpa [fatesD] using hq
  · rintro x xs Γ μ' ⟨qs, done, Y, o4, o5, o6, hx, rfl, rfl, hz, hl, l0, l1, he, hdue⟩
    cases qs with
    | nil => cases hx
    | cons z qs =>
      obtain ⟨s, c⟩ := z
      cases hx
      obtain ⟨hs, hc⟩ := hz _ List.mem_cons_self
      have hs : s < m := hs
      have hm := sp.1
      have hl' : done.length + (qs.length + 1) ≤ 40 := hl
      obtain ⟨ea, ca⟩ := cells_get cA hs
      obtain ⟨eb, cb⟩ := cells_get cB hs
      refine ⟨trivial, fun F hF => ?_⟩
      simp
      refine ls_dIx ((sub _ _ _).ls hA) ea ?_
      refine ls_dIx ((sub _ _ _).ls hB) eb ?_
      refine ⟨(s : Int), nth A s, nth B s, c, rfl, ⟨by omega, by omega⟩, ca, cb, hc, ?_⟩
      have hf : fatesD A B ((s, c) :: qs) = (s, fateD s (nth A s) (nth B s) c) :: fatesD A B qs := rfl
      rw [hf] at he hdue
      generalize fateD s (nth A s) (nth B s) c = g at he hdue ⊢
      simp [dBM, tyM, at_p]
      refine app_ls (at_p _ _ _) (by simp [rowsD]; omega) ?_
      rw [up_p]
      have fin : F [some (.fl [a, b]), some (.fl (spotsD ps)), some (.ref p), some (.fl [.ref p0, .ref p1]), some (.int (s : Int)), some c, some (.int g)] (set (set (set μ p (.lst (rowsD done ++ [.tup [.int (s : Int), .int g]]))) p0 (.lst (dueStep A B Y (s, g)).1)) p1 (.lst (dueStep A B Y (s, g)).2)) := by
        refine hF _ _ ⟨qs, done ++ [(s, g)], dueStep A B Y (s, g), _, _, _, rfl, rfl, by simp [rowsD], fun z hz' => hz z (List.mem_cons_of_mem _ hz'), by simp; omega, ?_, ?_, by rw [he]; simp, hdue⟩
        · rw [← l0]; exact (due_len [(s, g)] Y).1
        · rw [← l1]; exact (due_len [(s, g)] Y).2
      by_cases f1 : g = 1
      · subst f1
        simp
        refine ls_dIx ((sub _ _ _).ls hB) eb ?_
        simp [dgSub]
        refine set_at (xs := Y.1) (at_0 _ _ _) (by omega) ?_
        rw [up_0]
        exact fin
      · simp [f1]
        by_cases f2 : g = 2
        · subst f2
          simp
          refine ls_dIx ((sub _ _ _).ls hA) ea ?_
          simp [dgSub]
          refine set_at (xs := Y.2) (at_1 _ _ _) (by omega) ?_
          rw [set_set]
          exact fin
        · simp [f2]
          have e : dueStep A B Y (s, g) = Y := by unfold dueStep; simp [f1, f2]
          rw [e] at fin
          exact fin
end K71

namespace K71
open PySem PySem.Spec PyProof.Rows L2 DL
/-! ### what is bent -/
theorem sm_int {i : Int} (h0 : -100 < i) (h1 : i < 100) : Sm (.int i) := .inl ⟨i, rfl, h0, h1⟩
theorem sm_bl {b : Bool} : Sm (.bl b) := .inr (.inl ⟨b, rfl⟩)
theorem row_2 {a b : D} (ha : Sm a) (hb : Sm b) : Row (.tup [a, b]) := .inl ⟨_, rfl, by simp, by simp [ha, hb]⟩
theorem l__law_row_bent : ∀ ds μ q x, C__law_row_bent ds μ q x → ds.length = 2 := by
  rintro _ μ q _ ⟨s, f, n, rfl, _⟩; rfl
theorem str_digit {f : Int} (h0 : 0 ≤ f) (h1 : f ≤ 3) : Sm (.str (toString f)) := by
  refine .inr (.inr ⟨_, rfl, ?_⟩)
  have : f = 0 ∨ f = 1 ∨ f = 2 ∨ f = 3 := by omega
  rcases this with rfl | rfl | rfl | rfl <;> decide +kernel
theorem strI_at {i : Int} {μ : Sto} {q : DK} (h : i.natAbs.log2 < 1920) (hq : q (.str (Str.ofString (toString i))) μ) : dStrI [.int i] μ q := ⟨h, hq⟩
theorem pick_by {L : List D} {j m : Int} {Q : D → Prop} (hm : 0 < m) (hl : m ≤ L.length) (h : ∀ d ∈ L, Q d) : ∃ d, atI L (j % m) = some d ∧ Q d := by
  obtain ⟨d, e, hd⟩ := atI_some (xs := L) (Int.emod_nonneg j (by omega)) (Int.lt_of_lt_of_le (Int.emod_lt_of_pos j hm) hl)
  exact ⟨d, e, h d hd⟩
theorem in8 {a b c d e f g i x : D} (h : x ∈ [a, b, c, d, e, f, g, i]) {Q : D → Prop} (ha : Q a) (hb : Q b) (hc : Q c) (hd : Q d) (he : Q e) (hf : Q f) (hg : Q g) (hi : Q i) : Q x := by
  simp only [List.mem_cons, List.not_mem_nil, or_false] at h
  rcases h with rfl | rfl | rfl | rfl | rfl | rfl | rfl | rfl <;> assumption
theorem m__law_row_bent : ∀ ds μ q x, C__law_row_bent ds μ q x → r__law_row_bent (dends q) (dstart N__law_row_bent ds) μ := by
  rintro _ μ q _ ⟨s, f, n, rfl, hs, hf, hn, h⟩
  have e0 : dstart N__law_row_bent [.tup [.int s, .int f], .int n] = [some (.tup [.int s, .int f]), some (.int n), none, none, none, none] := rfl
  rw [e0]
  simp only [r__law_row_bent, dSeq, dAsg, dOp, dVar, dC, dgName, dgTup_eq, dgCons, dgNil, dTup, dCons, dNil, dLstF, dRet, dCB, dEqN_ii, dAddF_ii, dAddF_ff, dInt2_ii, dends, List.set_cons_zero, List.set_cons_succ, List.getElem?_cons_zero, List.getElem?_cons_succ, dIx_fl, List.cons_append, List.nil_append, List.length_cons, List.length_nil]
  have g0 := Int.emod_nonneg (f + 1 + n / 8 % 3) (show (4 : Int) ≠ 0 by omega)
  have g1 := Int.emod_lt_of_pos (f + 1 + n / 8 % 3) (show (0 : Int) < 4 by omega)
  generalize (f + 1 + n / 8 % 3) % 4 = g at g0 g1 ⊢
  have z : ∀ k : Nat, k ≤ 100 → k ≤ sizeLine := fun k hk => szl (by omega)
  refine ⟨trivial, trivial, divOk (by omega) (by omega), by omega, by omega, z _ (by omega), z _ (by omega), z _ (by omega), z _ (by omega), z _ (by omega), z _ (by omega), strI_at (log2_lt (n := 64) (by omega) (by omega) (by omega)) ?_⟩
  have ss : Sm (.int s) := sm_int (by omega) (by omega)
  have sf : Sm (.int f) := sm_int (by omega) (by omega)
  have s0 : Sm (.int 0) := sm_int (by omega) (by omega)
  have sd : Sm (.str (Str.ofString (toString f))) := str_digit hf.1 hf.2
  generalize Str.ofString (toString f) = t at sd ⊢
  refine ⟨z _ (by omega), z _ (by omega), z _ (by omega), z _ (by omega), z _ (by omega), z _ (by omega), by omega, pick_by (by omega) (Int.le_refl 8) fun d hd => fwd (h d ?_)⟩
  exact in8 hd (row_2 ss (sm_int (by omega) (by omega))) (row_2 ss (sm_int (by omega) (by omega))) (row_2 ss sm_bl) (row_2 (sm_int (by omega) (by omega)) sf)
    (.inl ⟨_, rfl, Nat.le_refl 3, by simp [ss, sf, s0]⟩) (.inr ⟨_, rfl, by simp, by simp [ss, sf]⟩) (row_2 ss sd) (row_2 sm_bl sf)
theorem l__law_paper_bent : ∀ ds μ q x, C__law_paper_bent ds μ q x → ds.length = 2 := by
  rintro _ μ q _ ⟨ps, n, rfl, _⟩; rfl
theorem rowsD_Row {ps : List (Nat × Int)} (h : ∀ p ∈ ps, p.1 < 20 ∧ 0 ≤ p.2 ∧ p.2 ≤ 3) : ∀ r ∈ rowsD ps, Row r := fun r hr => by
  obtain ⟨p, hp, rfl⟩ := List.mem_map.mp hr
  have := h p hp
  exact row_2 (sm_int (by omega) (by omega)) (sm_int (by omega) (by omega))
theorem pap_fl {μ : Sto} {rs : List D} (hl : rs.length ≤ 200) (h : ∀ r ∈ rs, Row r) : Pap μ (.fl rs) := .inr (.inr (.inr (.inr (.inr ⟨rs, rfl, hl, h⟩))))
theorem pap_tup {μ : Sto} {rs : List D} (hl : rs.length ≤ 200) (h : ∀ r ∈ rs, Row r ∨ Sm r) : Pap μ (.tup rs) := .inr (.inr (.inr (.inr (.inl ⟨rs, rfl, hl, h⟩))))
theorem ifI {i : Nat} {k w : Int} {Γ : DSt} {μ : Sto} {d : DEnds} {t u : DTS} (hg : Γ[i]? = some (some (.int w))) (h1 : w = k → t d Γ μ) (h2 : w ≠ k → u d Γ μ) : dIfS (dTest (dOp dEq (dVar i) (dC (.int k)))) t u d Γ μ := by
  simp only [dIfS, dTest, dOp, dVar, hg, dC, dEqN_ii, asB]
  by_cases e : w = k
  · rw [decide_eq_true e, if_pos rfl]; exact h1 e
  · rw [decide_eq_false e, if_neg (by simp)]; exact h2 e
theorem ifE {i j : Nat} {k w : Int} {rs : List D} {Γ : DSt} {μ : Sto} {d : DEnds} {t u : DTS} (hg0 : Γ[i]? = some (some (.fl rs))) (hg : Γ[j]? = some (some (.int w))) (hs : shp (.fl rs) = true) (h1 : rs = [] ∨ w = k → t d Γ μ) (h2 : rs ≠ [] → w ≠ k → u d Γ μ) :
    dIfS (dOr (dTest (dOp dEq (dVar i) (dLstF dNil))) (dTest (dOp dEq (dVar j) (dC (.int k))))) t u d Γ μ := by
  simp only [dIfS, dOr, dTest, dOp, dVar, hg0, dLstF, dNil]
  refine ⟨szl (by simp), eq_by hs (shp_lfs (vs := []) (by simp)).1 ?_⟩
  rw [show eqD (rsv μ (.fl rs)) (rsv μ (.fl [])) = rs.isEmpty from eqv_nil]
  cases rs with
  | nil =>
    simp only [List.isEmpty_nil, asB, if_true]
    exact h1 (.inl rfl)
  | cons r rs =>
    simp only [List.isEmpty_cons, asB, Bool.false_eq_true, if_false, hg, dC, dEqN_ii]
    by_cases e : w = k
    · rw [decide_eq_true e, if_pos rfl]; exact h1 (.inr e)
    · rw [decide_eq_false e, if_neg (by simp)]; exact h2 (by simp) e
theorem m__law_paper_bent : ∀ ds μ q x, C__law_paper_bent ds μ q x → r__law_paper_bent (dends q) (dstart N__law_paper_bent ds) μ := by
  rintro _ μ q _ ⟨ps, n, rfl, hl, hp, hn, h, hd⟩
  have hR := rowsD_Row hp
  have nf : ∀ {rs : List D}, ∀ h, D.fl rs ≠ .ref h := fun h z => by cases z
  have nt : ∀ {rs : List D}, ∀ h, D.tup rs ≠ .ref h := fun h z => by cases z
  have ln : (rowsD ps).length = ps.length := by simp [rowsD]
  have e0 : dstart N__law_paper_bent [.fl (rowsD ps), .int n] = [some (.fl (rowsD ps)), some (.int n), none, none, none, none] := rfl
  rw [e0]
  have cl : ∀ lo hi, (DL.cutD (rowsD ps) lo hi).length ≤ 40 := fun lo hi => Nat.le_trans cutD_len (by omega)
  have hs : shp (.fl (rowsD ps)) = true := shp_rows rowsD_row
  have hmem : ∀ r ∈ rowsD ps, ∃ p : Nat × Int, p ∈ ps ∧ D.tup [.int (p.1 : Int), .int p.2] = r := fun r hr => List.mem_map.mp hr
  generalize rowsD ps = rs at hR ln cl hs hmem ⊢
  have hrs : rs.length ≤ 40 := by omega
  have Rc : ∀ lo hi, ∀ r ∈ DL.cutD rs lo hi, Row r := fun lo hi r hr => hR r (cutD_mem hr)
  have z : ∀ k : Nat, k ≤ 900 → k ≤ sizeLine := fun k hk => szl (by omega)
  have s0 : Sm (.int 0) := sm_int (by omega) (by omega)
  have menu : ∀ (Γ : DSt) (μ0 : Sto) (p : Addr), Γ[0]? = some (some (.fl rs)) → Γ[1]? = some (some (.int n)) → μ0 = μ → dRet (dOp dIx (dLstF (dCons (dTup dNil) (dCons (dC .non) (dCons (dC (.str "paper")) (dCons dNewK (dCons (dC (.int 0)) (dCons (dOp dAddF (dVar 0) (dLstF (dCons (dTup (dCons (dC (.int 0)) (dCons (dC (.int 0)) dNil))) dNil))) (dCons (dTup (dCons (dC (.int 0)) (dCons (dC (.int 0)) dNil))) dNil)))))))) (dOp dMod (dOp dDiv (dVar 1) (dC (.int 64))) (dC (.int 7)))) (dends q) Γ μ0 := by
    intro Γ μ0 p g0 g1 e
    subst e
    simp only [dOp, dVar, g0, g1, dC, dTup, dCons, dNil, dLstF, dRet, dAddF_ff, dInt2_ii, dends, dIx_fl, List.length_cons, List.length_nil, dNewK]
    refine ⟨z _ (by omega), fun p hp => ⟨z _ (by omega), z _ (by omega), z _ (by omega), z _ (by omega), z _ (by omega), divOk (by omega) (by omega), by omega, pick_by (by omega) (Int.le_refl 7) fun d hd' => ?_⟩⟩
    simp only [List.mem_cons, List.not_mem_nil, or_false] at hd'
    rcases hd' with rfl | rfl | rfl | rfl | rfl | rfl | rfl
    · exact ⟨μ0, .new hp, h _ nt (pap_tup (by simp) (by simp))⟩
    · exact ⟨μ0, .new hp, h _ (fun h z => by cases z) (.inl rfl)⟩
    · exact ⟨μ0, .new hp, h _ (fun h z => by cases z) (.inr (.inl rfl))⟩
    · exact fwd (hd p hp)
    · exact ⟨μ0, .new hp, h _ (fun h z => by cases z) (.inr (.inr (.inl rfl)))⟩
    · refine ⟨μ0, .new hp, h _ nf (pap_fl (by rw [List.length_append]; simp; omega) fun r hr => ?_)⟩
      rcases List.mem_append.mp hr with hr | hr
      · exact hR r hr
      · rw [List.mem_singleton.mp hr]; exact row_2 s0 s0
    · refine ⟨μ0, .new hp, h _ nt (pap_tup (by simp) fun r hr => ?_)⟩
      simp only [List.mem_cons, List.not_mem_nil, or_false, or_self] at hr
      subst hr
      exact .inr s0
  simp only [r__law_paper_bent, dSeq, dAsg, dOp, dVar, dC, dgName, dCB, dCons, dNil, dInt2_ii, dMax2_ii, dLen_eq, lenD_fl, szS_fl, Option.some.injEq, exists_eq_left', true_and, List.set_cons_zero, List.set_cons_succ, List.getElem?_cons_zero, List.getElem?_cons_succ]
  have a0 : (0 : Int) ≤ n / 8 % (if (rs.length : Int) > 1 then (rs.length : Int) else 1) := Int.emod_nonneg _ (by split <;> omega)
  have a1 : n / 8 % (if (rs.length : Int) > 1 then (rs.length : Int) else 1) < (if (rs.length : Int) > 1 then (rs.length : Int) else 1) := Int.emod_lt_of_pos _ (by split <;> omega)
  refine ⟨divOk (by omega) (by omega), by split <;> omega, ?_⟩
  generalize n / 8 % (if (rs.length : Int) > 1 then (rs.length : Int) else 1) = at' at a0 a1 ⊢
  refine ⟨by omega, ?_⟩
  refine ifE (w := n % 8) rfl rfl hs (fun _ => menu _ μ 0 rfl rfl rfl) fun e _ => ?_
  · have hl0 : 0 < rs.length := List.length_pos_iff.mpr e
    have al : at' < rs.length := by
      split at a1
      · exact a1
      · omega
    obtain ⟨row, er, hrow⟩ := atI_some (xs := rs) a0 al
    have rr := hR row hrow
    simp only [dNext, dSeq]
    refine ifI (w := n % 8) (i := 3) rfl (fun _ => ?_) fun _ => ?_
    · simp only [dRet, dOp, dSlF, dNoPart, dPart, dVar, dAddF_ii, dC, dSlvF_fl, dAddF_ff, dends, List.getElem?_cons_zero, List.getElem?_cons_succ]
      have c1 := cl none (some at'); have c2 := cl (some (at' + 1)) none
      refine ⟨z _ (by omega), fwd (h _ nf (pap_fl (by rw [List.length_append]; omega) fun r hr => ?_))⟩
      rcases List.mem_append.mp hr with hr | hr <;> exact Rc _ _ r hr
    simp only [dNext, dSeq]
    refine ifI (w := n % 8) (i := 3) rfl (fun _ => ?_) fun _ => ?_
    · simp only [dRet, dOp, dSlF, dNoPart, dPart, dVar, dAddF_ii, dC, dSlvF_fl, dAddF_ff, dends, List.getElem?_cons_zero, List.getElem?_cons_succ]
      have c1 := cl none (some (at' + 1)); have c2 := cl (some at') none
      refine ⟨z _ (by omega), fwd (h _ nf (pap_fl (by rw [List.length_append]; omega) fun r hr => ?_))⟩
      rcases List.mem_append.mp hr with hr | hr <;> exact Rc _ _ r hr
    simp only [dNext, dSeq]
    refine ifI (w := n % 8) (i := 3) rfl (fun _ => ?_) fun _ => ?_
    · simp only [dSeq, dAsg, dgName, dRet, dOp, dSlF, dNoPart, dPart, dVar, dAddF_ii, dC, dSlvF_fl, dAddF_ff, dends, dLstF, dCons, dNil, dIx_fl, er, Option.some.injEq, exists_eq_left', List.getElem?_cons_zero, List.getElem?_cons_succ, List.set_cons_zero, List.set_cons_succ]
      have c1 := cl none (some at'); have c2 := cl (some (at' + 1)) (some (at' + 2)); have c3 := cl (some (at' + 2)) none
      refine ⟨z _ (Nat.le_of_lt (by simp)), z _ (by simp; omega), z _ (by omega), z _ (by simp; omega), fwd (h _ nf (pap_fl (by simp; omega) fun r hr => ?_))⟩
      rcases List.mem_append.mp hr with hr | hr
      · rcases List.mem_append.mp hr with hr | hr <;> exact Rc _ _ r hr
      · rcases List.mem_append.mp hr with hr | hr
        · rw [List.mem_singleton.mp hr]; exact rr
        · exact Rc _ _ r hr
    simp only [dNext, dSeq]
    refine ifI (w := n % 8) (i := 3) rfl (fun _ => ?_) fun _ => ?_
    · exact ⟨rs, rfl, fwd (h _ nt (pap_tup (by omega) fun r hr => .inl (hR r hr)))⟩
    · simp only [dSeq, dAsg, dgName, dRet, dOp, dSlF, dNoPart, dPart, dVar, dAddF_ii, dC, dSlvF_fl, dAddF_ff, dInt2_ii, dends, dLstF, dCall, dCons, dNil, dIx_fl, List.getElem?_cons_zero, List.getElem?_cons_succ, List.set_cons_zero, List.set_cons_succ]
      obtain ⟨p, hp', rfl⟩ := hmem row hrow
      refine ⟨_, er, trivial, divOk (by omega) (by omega), (p.1 : Int), p.2, n / 64, rfl, ?_, (hp p hp').2, Int.ediv_nonneg hn (by omega), fun r hr => ?_⟩
      · have := (hp p hp').1
        omega
      · have c1 := cl none (some at'); have c2 := cl (some (at' + 1)) none
        simp only [dgName, dRet, dLstF, dCons, dNil, dVar, dSlF, dOp, dNoPart, dPart, dC, dAddF_ii, dAddF_ff, dSlvF_fl, List.getElem?_cons_zero, List.getElem?_cons_succ, List.set_cons_zero, List.set_cons_succ]
        refine ⟨szl (n := 1) (by omega), z _ (by simp; omega), z _ (by simp; omega), fwd (h _ nf (pap_fl (by simp; omega) fun w hw => ?_))⟩
        rcases List.mem_append.mp hw with hw | hw
        · rcases List.mem_append.mp hw with hw | hw
          · exact Rc _ _ w hw
          · rw [List.mem_singleton.mp hw]; exact hr
        · exact Rc _ _ w hw
end K71

namespace K71
open PySem PySem.Spec PyProof.Rows L2 DL
theorem l__law_one_for_true : ∀ ds μ q x, C__law_one_for_true ds μ q x → ds.length = 1 := by
  rintro _ μ q _ ⟨c, rfl, _⟩; rfl
/-- True for 1 -/
def oneT : D → D
  | .int i => if i = 1 then .bl true else .int i
  | .bl b => if b = true then .bl true else .bl b
  | d => d
theorem oneT_lf {v : D} (h : Lf v) : Lf (oneT v) := by
  cases v with
  | int i =>
    show Lf (if i = 1 then D.bl true else D.int i)
    by_cases e : i = 1
    · rw [if_pos e]; trivial
    · rw [if_neg e]; exact h
  | bl b => cases b <;> trivial
  | _ => exact h.elim
theorem one_pick {v : D} (h : Lf v) {μ : Sto} {q : DK} (hq : q (oneT v) μ) : dEq v (.int 1) μ fun e μ1 => dIntC [e] μ1 fun i μ2 => dIx (.fl [v, .bl true]) i μ2 q := by
  cases v with
  | int i =>
    refine dEqN_ii.mpr ?_
    simp only [oneT] at hq
    by_cases e : i = 1
    · rw [if_pos e] at hq
      rw [decide_eq_true e]
      exact ⟨.bl true, rfl, trivial, hq⟩
    · rw [if_neg e] at hq
      rw [decide_eq_false e]
      exact ⟨.int i, rfl, trivial, hq⟩
  | bl b =>
    refine eq_by (x := .bl b) (by simp [rsv, shp, pln, SeqAt.shaped, pyD, PyData.canLay0, PyData.depth]) (by simp [rsv, shp, pln, SeqAt.shaped, pyD, PyData.canLay0, PyData.depth]) ?_
    cases b with
    | true => exact ⟨.bl true, rfl, trivial, hq⟩
    | false => exact ⟨.bl false, rfl, trivial, hq⟩
  | _ => exact h.elim
theorem m__law_one_for_true : ∀ ds μ q x, C__law_one_for_true ds μ q x → r__law_one_for_true (dends q) (dstart N__law_one_for_true ds) μ := by
  rintro _ μ q _ ⟨c, rfl, hc, h⟩
  have hc' := hc
  rcases hc with rfl | rfl | rfl | rfl | rfl | ⟨i, vs, rfl, hi, hl, hv⟩
  · simp [r__law_one_for_true]
    exact fwd (h _ hc')
  · simp [r__law_one_for_true]
    exact fwd (h _ hc')
  · simp [r__law_one_for_true]
    exact fwd (h _ hc')
  · simp [r__law_one_for_true]
    exact fwd (h _ hc')
  · simp [r__law_one_for_true]
    exact fwd (h _ hc')
  · simp [r__law_one_for_true]
    refine fzn_lc (d := .tup vs) (ds := vs) (fun v => some (oneT v)) (fun k hk => ?_) rfl (fun v hv' μ' s' k hk => ?_) (szl (by omega)) (by simp) ?_
    · simp
      exact hk
    · simp [elD]
      exact one_pick (hv v hv') hk
    · have e : vs.filterMap (fun v => some (oneT v)) = vs.map oneT := by
        clear hl hv hc' h
        induction vs with
        | nil => rfl
        | cons v vs ih => rw [List.filterMap_cons_some (f := fun v => some (oneT v)) (b := oneT v) rfl, ih]; rfl
      rw [e]
      simp
      refine ⟨_, rfl, fwd (h _ (cell_of hi.1 hi.2 (by simp; omega) fun v hv' => ?_))⟩
      obtain ⟨w, hw, rfl⟩ := List.mem_map.mp hv'
      exact oneT_lf (hv w hw)
theorem l__law_cells_bent : ∀ ds μ q x, C__law_cells_bent ds μ q x → ds.length = 3 := by
  rintro _ μ q _ ⟨a, b, A, B, h, r, m, n, rfl, _⟩; rfl
theorem put_cells {m k : Nat} {A : List D} {c : D} (h : Cells m A) (hc : Cell c) : Cells m (A.set k c) := ⟨by rw [List.length_set]; exact h.1, fun x hx => by
  rcases List.mem_or_eq_of_mem_set hx with e | e
  · exact h.2 x e
  · rw [e]; exact hc⟩
theorem m__law_cells_bent : ∀ ds μ q x, C__law_cells_bent ds μ q x → r__law_cells_bent (dends q) (dstart N__law_cells_bent ds) μ := by
  rintro _ μ q _ ⟨a, b, A, B, h, r, m, n, rfl, ha, hb, hab, cA, cB, hm, hh, hn, hq⟩
  -- the copy that is bent
  have key : ∀ (j : Int) (u : Addr) (U : List D), (j = 0 ∨ j = 1) → atI [D.ref a, D.ref b] j = some (.ref u) → μ u = some (.lst U) → Cells m U → (∀ U', Cells m U' → ∃ μ'', DL.Sub μ'' (set μ u (.lst U')) ∧ q .non μ'') → n % 2 = j →
      r__law_cells_bent (dends q) (dstart N__law_cells_bent [.fl [.ref a, .ref b], .ref h, .int n]) μ := by
    intro j u U hj hat hu cU hq' hnj
    have e0 : dstart N__law_cells_bent [.fl [.ref a, .ref b], .ref h, .int n] = [some (.fl [.ref a, .ref b]), some (.ref h), some (.int n), none, none] := rfl
    rw [e0]
    simp only [r__law_cells_bent, dSeq, dAsg, dOp, dVar, dC, dgName, dCB, dCons, dNil, dInt2_ii, dLen_eq, dIx_fl, hnj, List.set_cons_zero, List.set_cons_succ, List.getElem?_cons_zero, List.getElem?_cons_succ]
    refine ⟨by omega, divOk (by omega) (by omega), _, hat, _, lenD_ref hu, trivial, by have := cU.1; omega, ?_⟩
    have ul := cU.1
    have s0 := Int.emod_nonneg (n / 2) (show (U.length : Int) ≠ 0 by omega)
    have s1 := Int.emod_lt_of_pos (n / 2) (show (0 : Int) < (U.length : Int) by omega)
    generalize n / 2 % (U.length : Int) = s at s0 s1 ⊢
    obtain ⟨k, rfl⟩ := Int.eq_ofNat_of_zero_le s0
    have hk : k < U.length := by omega
    have ck : Cell U[k] := cU.2 _ (List.getElem_mem hk)
    have put : ∀ c, Cell c → dgSub (dOp dIx (dVar 0) (dVar 3)) (dVar 4) dSet c [some (.fl [.ref a, .ref b]), some (.ref h), some (.int n), some (.int j), some (.int (k : Int))] μ (dends q).nx := fun c hc => by
      simp only [dgSub, dOp, dVar, List.getElem?_cons_zero, List.getElem?_cons_succ, dIx_fl]
      refine ⟨_, hat, set_at hu hk ?_⟩
      exact hq' _ (put_cells cU hc)
    simp only [dIfS, dTest, dOp, dVar, dC, dInt2_ii, dEqN_ii, asB, List.getElem?_cons_zero, List.getElem?_cons_succ]
    refine ⟨divOk (by omega) (by omega), by omega, ?_⟩
    by_cases e : n / 64 % 4 = 0
    · rw [decide_eq_true e, if_pos rfl]
      simp only [dAsg, dCall, dCons, dNil, dOp, dVar, List.getElem?_cons_zero, List.getElem?_cons_succ, dIx_fl]
      refine ⟨_, hat, _, (ixOf_ref hu).trans (atI_n.trans (List.getElem?_eq_getElem hk)), trivial, _, rfl, ck, fun c' hc' => put c' hc'⟩
    · rw [decide_eq_false e, if_neg (by simp)]
      simp only [dAsg, dCall, dCons, dNil, dOp, dVar, dC, dInt2_ii, List.getElem?_cons_zero, List.getElem?_cons_succ]
      refine ⟨divOk (by omega) (by omega), h, r, (k : Int), rfl, hh, fun x hx => ?_⟩
      exact ⟨(k : Int), n / 256, x, rfl, ⟨by omega, by omega⟩, ⟨Int.ediv_nonneg hn.1 (by omega), by omega⟩, hx, fun c hc => put c hc⟩
  rcases (show n % 2 = 0 ∨ n % 2 = 1 by omega) with e | e
  · refine key 0 a A (.inl rfl) rfl ha cA (fun U' hU => ⟨_, ?_, hq U' B hU cB⟩) e
    rw [set_self (μ := set μ a (.lst U')) (a := b) (by rw [set_ne (Ne.symm hab)]; exact hb)]
    exact .refl _
  · refine key 1 b B (.inr rfl) rfl hb cB (fun U' hU => ⟨_, ?_, hq A U' cA hU⟩) e
    rw [set_self (μ := μ) (a := a) ha]
    exact .refl _
end K71

namespace K71
open PySem PySem.Spec PyProof.Rows L2 DL
/-! ### texts of the data -/
theorem strOk_app {a b : Str} (ha : PyData.strOk a = true) (hb : PyData.strOk b = true) : PyData.strOk (a ++ b) = true := by
  unfold PyData.strOk at *
  rw [Str.cps_append, Array.all_append, ha, hb]
  rfl
theorem strOk_of (s : String) : PyData.strOk (Str.ofString s) = true := by
  unfold PyData.strOk
  rw [Str.ofString_eq_toList, Array.all_eq_true']
  intro x hx
  have hx' : x ∈ s.toList.map Char.toNat := by simpa using hx
  obtain ⟨c, _, rfl⟩ := List.mem_map.mp hx'
  have := c.valid
  rcases this with h | h
  · exact decide_eq_true (Nat.lt_trans h (by decide))
  · exact decide_eq_true h.2
def Tx (k : Nat) (p : PyData) : Prop := p.shown.length ≤ k ∧ PyData.strOk p.shown = true ∧ p.showable = true
theorem tx_int {i : Int} (h : i.natAbs < 2 ^ 40) : Tx 45 (.int i) := by
  have hl : i.natAbs.log2 < 41 := log2_lt (n := 40) h (by omega) (by omega)
  refine ⟨?_, ?_, ?_⟩
  · rw [PyData.shown, PySem.ofString_length]
    have := int_text_length_le (by omega) hl
    omega
  · rw [PyData.shown]; exact strOk_of _
  · rw [PyData.showable]; exact decide_eq_true (by omega)
theorem piled_le {k : Nat} : ∀ {ps : List PyData}, (∀ p ∈ ps, Tx k p) → piled (PyData.shownAll ps) ≤ (k + 2) * ps.length
  | [], _ => by simp [PyData.shownAll, piled]
  | p :: ps, h => by
    have h1 := (h p List.mem_cons_self).1
    have h2 := piled_le fun x hx => h x (List.mem_cons_of_mem _ hx)
    rw [PyData.shownAll, piled_cons, List.length_cons, Nat.mul_add]
    omega
theorem shownAll_len : ∀ ps : List PyData, (PyData.shownAll ps).length = ps.length
  | [] => rfl
  | p :: ps => by rw [PyData.shownAll, List.length_cons, List.length_cons, shownAll_len ps]
theorem oks {k : Nat} : ∀ {ps : List PyData}, (∀ p ∈ ps, Tx k p) → (∀ t ∈ PyData.shownAll ps, PyData.strOk t = true) ∧ PyData.showableAll ps = true
  | [], _ => ⟨by simp [PyData.shownAll], rfl⟩
  | p :: ps, h => by
    obtain ⟨h1, h2⟩ := oks fun x hx => h x (List.mem_cons_of_mem _ hx)
    have h0 := h p List.mem_cons_self
    refine ⟨fun t ht => ?_, ?_⟩
    · rw [PyData.shownAll] at ht
      rcases List.mem_cons.mp ht with rfl | ht
      · exact h0.2.1
      · exact h1 t ht
    · rw [PyData.showableAll, h0.2.2, h2]
      rfl
theorem from_le : ∀ (ts : List Str) (k : Nat) (acc : Str), (textFrom k acc ts).length ≤ acc.length + piled ts ∧ (PyData.strOk acc = true → (∀ t ∈ ts, PyData.strOk t = true) → PyData.strOk (textFrom k acc ts) = true)
  | [], k, acc => ⟨Nat.le_refl _, fun h _ => h⟩
  | t :: ts, k, acc => by
    obtain ⟨h1, h2⟩ := from_le ts (k + 1) (acc ++ (if k > 0 then ", " else "" : String) ++ t)
    have e : (acc ++ (if k > 0 then ", " else "" : String) ++ t).length ≤ acc.length + 2 + t.length := by
      rw [strLen_append, strLen_append, PySem.ofString_length]
      have : (if k > 0 then ", " else "" : String).length ≤ 2 := by split <;> decide
      omega
    refine ⟨?_, fun ha ht => ?_⟩
    · rw [piled_cons]
      show (textFrom (k + 1) _ ts).length ≤ _
      omega
    · exact h2 (strOk_app (strOk_app ha (strOk_of _)) (ht t List.mem_cons_self)) fun x hx => ht x (List.mem_cons_of_mem _ hx)
theorem join_ok : ∀ ts : List Str, (∀ t ∈ ts, PyData.strOk t = true) → PyData.strOk (Str.join ", " ts) = true
  | [], _ => strOk_of ""
  | [x], h => h x (by simp)
  | x :: y :: r, h => strOk_app (strOk_app (h x (by simp)) (strOk_of _)) (join_ok (y :: r) fun t ht => h t (List.mem_cons_of_mem _ ht))
theorem tx_tup {k n : Nat} {ps : List PyData} (h : ∀ p ∈ ps, Tx k p) (hl : ps.length ≤ n) : Tx ((k + 2) * n + 2) (.tuple ps) := by
  obtain ⟨o1, o2⟩ := oks h
  refine ⟨?_, ?_, ?_⟩
  · rw [PyData.shown]
    have h1 := fmt_text (PyData.shownAll ps)
    have h2 := piled_le h
    have h3 : (k + 2) * ps.length ≤ (k + 2) * n := Nat.mul_le_mul_left _ hl
    omega
  · rw [PyData.shown]
    unfold tupleText
    exact strOk_app (strOk_app (strOk_of _) (join_ok _ o1)) (strOk_of _)
  · rw [PyData.showable]; exact o2
theorem tx_list {k n : Nat} {ps : List PyData} (h : ∀ p ∈ ps, Tx k p) (hl : ps.length ≤ n) : Tx ((k + 2) * n + 2) (.list ps) := by
  obtain ⟨o1, o2⟩ := oks h
  refine ⟨?_, ?_, ?_⟩
  · rw [PyData.shown]
    unfold listText
    obtain ⟨f1, _⟩ := from_le (PyData.shownAll ps) 0 "["
    rw [strLen_append, PySem.ofString_length]
    rw [PySem.ofString_length] at f1
    have e1 : ("[" : String).length = 1 := rfl
    have e2 : ("]" : String).length = 1 := rfl
    have h2 := piled_le h
    have h3 : (k + 2) * ps.length ≤ (k + 2) * n := Nat.mul_le_mul_left _ hl
    omega
  · rw [PyData.shown]
    unfold listText
    exact strOk_app ((from_le (PyData.shownAll ps) 0 "[").2 (strOk_of _) o1) (strOk_of _)
  · rw [PyData.showable]; exact o2
theorem Tx.mono {j k : Nat} {p : PyData} (h : Tx j p) (hk : j ≤ k) : Tx k p := ⟨Nat.le_trans h.1 hk, h.2⟩
/-- a datum whose text is known, n deep, of k signs at most -/
def Tk (μ : Sto) (k n : Nat) (d : D) : Prop := ∃ p, pyM μ n d = some p ∧ Tx k p ∧ p.depth ≤ n
theorem tks {μ : Sto} {k n : Nat} : ∀ {ds : List D}, (∀ d ∈ ds, Tk μ k n d) → ∃ ps, mapO (pyM μ n) ds = some ps ∧ ps.length = ds.length ∧ (∀ p ∈ ps, Tx k p) ∧ PyData.depthAll ps ≤ n
  | [], _ => ⟨[], rfl, rfl, by simp, by simp [PyData.depthAll]⟩
  | d :: ds, h => by
    obtain ⟨p, h1, h2, h3⟩ := h d List.mem_cons_self
    obtain ⟨ps, e1, e2, e3, e4⟩ := tks fun x hx => h x (List.mem_cons_of_mem _ hx)
    refine ⟨p :: ps, by simp [mapO, h1, e1], by simp [e2], fun x hx => ?_, ?_⟩
    · rcases List.mem_cons.mp hx with rfl | hx
      · exact h2
      · exact e3 x hx
    · rw [PyData.depthAll]
      omega
theorem tk_tup {μ : Sto} {k n m : Nat} {ds : List D} (h : ∀ d ∈ ds, Tk μ k n d) (hl : ds.length ≤ m) : Tk μ ((k + 2) * m + 2) (n + 1) (.tup ds) := by
  obtain ⟨ps, e1, e2, e3, e4⟩ := tks h
  exact ⟨.tuple ps, by simp [pyM, e1], tx_tup e3 (by omega), by rw [PyData.depth]; omega⟩
theorem tk_fl {μ : Sto} {k n m : Nat} {ds : List D} (h : ∀ d ∈ ds, Tk μ k n d) (hl : ds.length ≤ m) : Tk μ ((k + 2) * m + 2) (n + 1) (.fl ds) := by
  obtain ⟨ps, e1, e2, e3, e4⟩ := tks h
  exact ⟨.list ps, by simp [pyM, e1], tx_list e3 (by omega), by rw [PyData.depth]; omega⟩
theorem tk_ref {μ : Sto} {k n m : Nat} {a : Addr} {ds : List D} (ha : μ a = some (.lst ds)) (h : ∀ d ∈ ds, Tk μ k n d) (hl : ds.length ≤ m) : Tk μ ((k + 2) * m + 2) (n + 1) (.ref a) := by
  obtain ⟨ps, e1, e2, e3, e4⟩ := tks h
  exact ⟨.list ps, by simp [pyM, ha, e1], tx_list e3 (by omega), by rw [PyData.depth]; omega⟩
theorem tk_int {μ : Sto} {n : Nat} {i : Int} (h : i.natAbs < 2 ^ 40) : Tk μ 45 (n + 1) (.int i) := ⟨_, rfl, tx_int h, by rw [PyData.depth]; omega⟩
theorem tk_bl {μ : Sto} {n : Nat} {b : Bool} : Tk μ 45 (n + 1) (.bl b) := ⟨_, rfl, by cases b <;> exact ⟨by decide +kernel, by decide +kernel, rfl⟩, by rw [PyData.depth]; omega⟩
theorem tk_non {μ : Sto} {n : Nat} : Tk μ 45 (n + 1) .non := ⟨_, rfl, ⟨by decide +kernel, by decide +kernel, rfl⟩, by rw [PyData.depth]; omega⟩
theorem tk_str {μ : Sto} {n : Nat} {x : Str} (h : x ∈ (["rot", "0", "1", "2", "3"] : List Str)) : Tk μ 45 (n + 1) (.str x) := by
  refine ⟨_, rfl, ?_, by rw [PyData.depth]; omega⟩
  have : ∀ x ∈ (["rot", "0", "1", "2", "3"] : List Str), (reprText x).length ≤ 45 ∧ PyData.strOk (reprText x) = true := by decide +kernel
  obtain ⟨h1, h2⟩ := this x h
  exact ⟨by rw [PyData.shown]; exact h1, by rw [PyData.shown]; exact h2, by rw [PyData.showable]⟩
theorem tk_up {μ : Sto} {j k n : Nat} {d : D} (h : Tk μ j n d) (hk : j ≤ k) : Tk μ k n d := by
  obtain ⟨p, h1, h2, h3⟩ := h
  exact ⟨p, h1, h2.mono hk, h3⟩
theorem tk_lf {μ : Sto} {n : Nat} {d : D} (h : Lf d) : Tk μ 45 (n + 1) d := by
  cases d with
  | int i => exact tk_int (by have := h.1; have := h.2; omega)
  | bl b => exact tk_bl
  | _ => exact h.elim
theorem tk_cell {μ : Sto} {c : D} (h : Cell c) : Tk μ 2000 3 c := by
  rcases h with rfl | rfl | rfl | rfl | rfl | ⟨s, vs, rfl, hs, hl, hv⟩
  · exact tk_up tk_non (by omega)
  · exact tk_up (tk_int (by omega)) (by omega)
  · exact tk_up (tk_str (by simp)) (by omega)
  · exact tk_up (tk_tup (k := 45) (m := 0) (by simp) (by simp)) (by omega)
  · refine tk_up (tk_tup (k := 45) (m := 3) (fun d hd => ?_) (by simp)) (by omega)
    simp at hd
    rcases hd with rfl | rfl | rfl <;> exact tk_int (by omega)
  · refine tk_up (tk_tup (k := 942) (m := 2) (fun d hd => ?_) (by simp)) (by omega)
    simp at hd
    rcases hd with rfl | rfl
    · exact tk_up (tk_int (by omega)) (by omega)
    · exact tk_up (tk_tup (k := 45) (m := 20) (fun v hv' => tk_lf (hv v hv')) hl) (by omega)
theorem tk_sm {μ : Sto} {n : Nat} {d : D} (h : Sm d) : Tk μ 45 (n + 1) d := by
  rcases h with ⟨i, rfl, h0, h1⟩ | ⟨b, rfl⟩ | ⟨x, rfl, hx⟩
  · exact tk_int (by omega)
  · exact tk_bl
  · exact tk_str (List.mem_cons_of_mem _ hx)
theorem tk_row {μ : Sto} {d : D} (h : Row d) : Tk μ 200 2 d := by
  rcases h with ⟨xs, rfl, hl, hx⟩ | ⟨xs, rfl, hl, hx⟩
  · exact tk_up (tk_tup (k := 45) (m := 3) (fun x h => tk_sm (hx x h)) hl) (by omega)
  · exact tk_up (tk_fl (k := 45) (m := 3) (fun x h => tk_sm (hx x h)) hl) (by omega)
/-- the text that str gives -/
def Txt (μ : Sto) (d : D) (t : Str) : Prop := PyData.strOk t = true ∧ ∀ q : DK, q (.str t) μ → dStr [d] μ q
theorem txt_box {μ : Sto} {k n : Nat} {d : D} (hb : isBox d = true) (h : Tk μ k n d) (hk : k ≤ 16000000) (hn : n ≤ 40) : ∃ t, Txt μ d t := by
  obtain ⟨p, h1, h2, h3⟩ := h
  refine ⟨p.shown, h2.2.1, fun q hq => ?_⟩
  have go : isBox d = true ∧ ∃ n p, pyM μ n d = some p ∧ p.showable = true ∧ p.depth ≤ 40 ∧ p.shown.length ≤ sizeLine ∧ q (.str p.shown) μ := ⟨hb, n, p, h1, h2.2.2, by omega, by rw [sizeLine_eq]; have := h2.1; omega, hq⟩
  cases d with
  | tup _ => exact .inl go
  | fl _ => exact .inl go
  | wl _ => exact .inl go
  | ref _ => exact .inl go
  | _ => cases hb
theorem txt_pap {μ : Sto} {p : D} (h : Pap μ p) : ∃ t, Txt μ p t := by
  rcases h with rfl | rfl | rfl | ⟨a, rfl, ha⟩ | ⟨rs, rfl, hl, hr⟩ | ⟨rs, rfl, hl, hr⟩
  · exact ⟨"None", by decide +kernel, fun q hq => hq⟩
  · exact ⟨"paper", by decide +kernel, fun q hq => hq⟩
  · exact ⟨Str.ofString (toString (0 : Int)), strOk_of _, fun q hq => ⟨by decide +kernel, hq⟩⟩
  · exact ⟨"{}", by decide +kernel, fun q hq => .inr ⟨a, rfl, ha, hq⟩⟩
  · refine txt_box rfl (tk_tup (k := 200) (n := 2) (m := 200) (fun r h => ?_) hl) (by omega) (by omega)
    rcases hr r h with h | h
    · exact tk_row h
    · exact tk_up (tk_sm h) (by omega)
  · exact txt_box rfl (tk_fl (k := 200) (n := 2) (m := 200) (fun r h => tk_row (hr r h)) hl) (by omega) (by omega)
end K71

namespace K71
open PySem PySem.Spec PyProof.Rows L2 DL
/-! ### the plain law -/
theorem like_int {μ : Sto} {n : Nat} {a : D} {i : Int} (h : like μ (n + 1) a (.int i) = true) : a = .int i := by
  unfold like at h
  rw [show sqOf μ (.int i) = none from rfl] at h
  cases e : sqOf μ a with
  | some xs => rw [e] at h; cases h
  | none =>
    rw [e] at h
    have h : ((isB a == false) && eqD a (.int i)) = true := h
    rw [Bool.and_eq_true] at h
    obtain ⟨h1, h2⟩ := h
    cases a with
    | int j =>
      have : j = i := by simpa [eqD, pyD, PyData.eqv] using h2
      rw [this]
    | bl b => cases h1
    | _ => first | (simp [eqD, pyD, PyData.eqv] at h2; done) | cases e
theorem like_intR {μ : Sto} {n : Nat} {i : Int} : like μ (n + 1) (.int i) (.int i) = true := by
  unfold like
  rw [show sqOf μ (.int i) = none from rfl]
  show ((isB (.int i) == isB (.int i)) && eqD (.int i) (.int i)) = true
  simp [eqD, pyD, PyData.eqv]
theorem like_seq {μ : Sto} {n : Nat} {x y : D} {xs ys : List D} (hx : sqOf μ x = some xs) (hy : sqOf μ y = some ys) : like μ (n + 1) x y = (((isTup x == isTup y) && decide (xs.length = ys.length)) && (List.zipWith (like μ n) xs ys).all _root_.id) := by
  rw [like, hx, hy]
theorem like_mix {μ : Sto} {n : Nat} {x y : D} {ys : List D} (hx : sqOf μ x = none) (hy : sqOf μ y = some ys) : like μ (n + 1) x y = false := by
  rw [like, hx, hy]
theorem like_row {μ : Sto} {n : Nat} {r : D} {p : Nat × Int} (hr : Row r) : like μ (n + 2) r (.tup [.int (p.1 : Int), .int p.2]) = true ↔ r = .tup [.int (p.1 : Int), .int p.2] := by
  constructor
  · intro h
    rcases hr with ⟨xs, rfl, _⟩ | ⟨xs, rfl, _⟩
    · rw [like_seq (xs := xs) (ys := [.int (p.1 : Int), .int p.2]) rfl rfl, Bool.and_eq_true, Bool.and_eq_true] at h
      obtain ⟨⟨_, h2⟩, h3⟩ := h
      have hl : xs.length = 2 := of_decide_eq_true h2
      match xs, hl with
      | [a, b], _ =>
        simp only [List.zipWith_cons_cons, List.zipWith_nil_right, List.all_cons, List.all_nil, Bool.and_true, Bool.and_eq_true] at h3
        rw [like_int h3.1, like_int h3.2]
    · rw [like_seq (xs := xs) (ys := [.int (p.1 : Int), .int p.2]) rfl rfl] at h
      cases h
  · rintro rfl
    rw [like_seq (xs := [.int (p.1 : Int), .int p.2]) (ys := [.int (p.1 : Int), .int p.2]) rfl rfl]
    simp only [List.zipWith_cons_cons, List.zipWith_nil_right, List.all_cons, List.all_nil, like_intR]
    rfl
theorem like_rows {μ : Sto} {n : Nat} : ∀ {rs : List D} {fs : List (Nat × Int)}, (∀ r ∈ rs, Row r) → (decide (rs.length = (rowsD fs).length) && (List.zipWith (like μ (n + 2)) rs (rowsD fs)).all _root_.id) = true → rs = rowsD fs
  | [], [], _, _ => rfl
  | [], f :: fs, _, h => by simp [rowsD] at h
  | r :: rs, [], _, h => by simp [rowsD] at h
  | r :: rs, f :: fs, hr, h => by
    have e : rowsD (f :: fs) = .tup [.int (f.1 : Int), .int f.2] :: rowsD fs := rfl
    rw [e, List.zipWith_cons_cons, List.all_cons, Bool.and_eq_true, Bool.and_eq_true] at h
    obtain ⟨h1, h2, h3⟩ := h
    have hl : rs.length = (rowsD fs).length := by simpa using of_decide_eq_true h1
    rw [e, (like_row (hr r List.mem_cons_self)).mp h2, like_rows (fun r h => hr r (List.mem_cons_of_mem _ h)) (by rw [decide_eq_true hl, h3]; rfl)]
theorem rowsD_Row' {m : Nat} {A B : List D} {ps : List (Nat × D)} (h : SpOk m ps) : ∀ r ∈ rowsD (fatesD A B ps), Row r := by
  refine rowsD_Row fun p hp => ?_
  obtain ⟨z, hz, rfl⟩ := List.mem_map.mp hp
  refine ⟨Nat.lt_of_lt_of_le (h.2.2 z hz).1 h.1, ?_⟩
  show 0 ≤ fateD _ _ _ _ ∧ fateD _ _ _ _ ≤ 3
  unfold fateD
  split <;> omega
theorem like_pap {μ : Sto} {n : Nat} {p : D} {fs : List (Nat × Int)} (hp : Pap μ p) (hf : ∀ r ∈ rowsD fs, Row r) : like μ (n + 3) p (.fl (rowsD fs)) = true ↔ p = .fl (rowsD fs) := by
  have hy : sqOf μ (.fl (rowsD fs)) = some (rowsD fs) := rfl
  rcases hp with rfl | rfl | rfl | ⟨a, rfl, ha⟩ | ⟨rs, rfl, hl, hr⟩ | ⟨rs, rfl, hl, hr⟩
  · rw [like_mix rfl hy]; simp
  · rw [like_mix rfl hy]; simp
  · rw [like_mix rfl hy]; simp
  · rw [like_mix (by show (match μ a with | some (.lst ds) => some ds | _ => none) = none; rw [ha]) hy]; simp
  · rw [like_seq (xs := rs) rfl hy]
    show (((true == false) && _) && _) = true ↔ _
    simp
  · rw [like_seq (xs := rs) rfl hy]
    constructor
    · intro h
      have h : (decide (rs.length = (rowsD fs).length) && (List.zipWith (like μ (n + 2)) rs (rowsD fs)).all _root_.id) = true := h
      rw [like_rows hr h]
    · intro h
      cases h
      have go : ∀ ss : List D, (∀ r ∈ ss, Row r ∧ ∃ f : Nat × Int, r = .tup [.int (f.1 : Int), .int f.2]) → (List.zipWith (like μ (n + 2)) ss ss).all _root_.id = true := by
        intro ss
        induction ss with
        | nil => intro _; rfl
        | cons r ss ih =>
          intro hs
          obtain ⟨hrow, f, rfl⟩ := hs r List.mem_cons_self
          rw [List.zipWith_cons_cons, List.all_cons, ih fun r h => hs r (List.mem_cons_of_mem _ h), Bool.and_true]
          exact (like_row hrow).mpr rfl
      rw [go _ fun r hr => ?_]
      · simp
      · obtain ⟨f, _, e⟩ := List.mem_map.mp hr
        exact ⟨hf r hr, f, e.symm⟩
theorem eqD_comm (x y : D) : eqD x y = eqD y x := PySem.W.eqv_comm _ _
theorem zip_comm {f : D → D → Bool} (h : ∀ x y, f x y = f y x) : ∀ xs ys : List D, (List.zipWith f xs ys).all _root_.id = (List.zipWith f ys xs).all _root_.id
  | [], ys => by cases ys <;> rfl
  | x :: xs, [] => rfl
  | x :: xs, y :: ys => by rw [List.zipWith_cons_cons, List.zipWith_cons_cons, List.all_cons, List.all_cons, h x y, zip_comm h xs ys]
theorem like_comm {μ : Sto} : ∀ (n : Nat) (x y : D), like μ n x y = like μ n y x
  | 0, _, _ => rfl
  | n + 1, x, y => by
    unfold like
    cases ex : sqOf μ x with
    | none =>
      cases ey : sqOf μ y with
      | none =>
        show ((isB x == isB y) && eqD x y) = ((isB y == isB x) && eqD y x)
        rw [eqD_comm, Bool.beq_comm]
      | some ys => rfl
    | some xs =>
      cases ey : sqOf μ y with
      | none => rfl
      | some ys =>
        show (((isTup x == isTup y) && decide (xs.length = ys.length)) && (List.zipWith (like μ n) xs ys).all _root_.id) = (((isTup y == isTup x) && decide (ys.length = xs.length)) && (List.zipWith (like μ n) ys xs).all _root_.id)
        rw [zip_comm (like_comm n) xs ys, Bool.beq_comm, decide_eq_decide.mpr eq_comm]
theorem same_like {m : Nat} {μ : Sto} {X C : List D} (cX : Cells m X) (cC : Cells m C) {a b : Addr} (ha : μ a = some (.lst C)) (hb : μ b = some (.lst X)) : like μ 4 (.ref a) (.ref b) = sameL X C := by
  rw [like_seq (n := 3) (xs := C) (ys := X) (show sqOf μ (.ref a) = some C from lsOf_ref ha) (show sqOf μ (.ref b) = some X from lsOf_ref hb)]
  show ((true && decide (C.length = X.length)) && _) = _
  unfold sameL
  rw [Bool.true_and, cX.1, cC.1, zip_comm (like_comm 3) C X, all_zip_congr (f := like μ 3) (g := like (fun _ => none) 3) fun z hz => like_any (cell_good (cX.2 _ (List.of_mem_zip hz).1)) (cell_good (cC.2 _ (List.of_mem_zip hz).2))]
theorem row_good {r : D} {n : Nat} (h : Row r ∨ Sm r) : good (n + 2) r = true := by
  have sm : ∀ {d : D} {n : Nat}, Sm d → good (n + 1) d = true := fun {d n} h => by
    rcases h with ⟨i, rfl, _⟩ | ⟨b, rfl⟩ | ⟨x, rfl, hx⟩
    · simp [good, shp, pln, SeqAt.shaped, pyD, PyData.canLay0, PyData.depth]
    · simp [good, shp, pln, SeqAt.shaped, pyD, PyData.canLay0, PyData.depth]
    · have : PyData.strOk x = true := by
        have : ∀ x ∈ (["0", "1", "2", "3"] : List Str), PyData.strOk x = true := by decide +kernel
        exact this x hx
      simp [good, shp, pln, SeqAt.shaped, pyD, PyData.canLay0, PyData.depth, this]
  have sms : ∀ {xs : List D}, (∀ x ∈ xs, Sm x) → plns xs = true ∧ PyData.canLayAll0 (pyDs xs) = true ∧ PyData.depthAll (pyDs xs) = 0 := fun {xs} => by
    induction xs with
    | nil => intro _; exact ⟨rfl, rfl, rfl⟩
    | cons x xs ih =>
      intro h
      obtain ⟨h1, h2, h3⟩ := ih fun y hy => h y (List.mem_cons_of_mem _ hy)
      have hx := h x List.mem_cons_self
      rw [plns, pyDs, PyData.canLayAll0, PyData.depthAll, h1, h2, h3]
      rcases hx with ⟨i, rfl, _⟩ | ⟨b, rfl⟩ | ⟨x, rfl, hx⟩
      · exact ⟨rfl, rfl, rfl⟩
      · exact ⟨rfl, rfl, rfl⟩
      · have : PyData.strOk x = true := by
          have : ∀ x ∈ (["0", "1", "2", "3"] : List Str), PyData.strOk x = true := by decide +kernel
          exact this x hx
        simp [pln, pyD, PyData.canLay0, PyData.depth, this]
  rcases h with (⟨xs, rfl, hl, hx⟩ | ⟨xs, rfl, hl, hx⟩) | h
  · obtain ⟨h1, h2, h3⟩ := sms hx
    have hl' : xs.length ≤ 1000 := by omega
    have e : shp (.tup xs) = true := by simp [shp, pln, SeqAt.shaped, pyD, PyData.canLay0, PyData.depth, h1, h2, h3]
    unfold good
    rw [e]
    simp only [Bool.true_and, Bool.and_eq_true, decide_eq_true_eq, List.all_eq_true]
    exact ⟨hl', fun x h => sm (hx x h)⟩
  · obtain ⟨h1, h2, h3⟩ := sms hx
    have hl' : xs.length ≤ 1000 := by omega
    have e : shp (.fl xs) = true := by simp [shp, pln, SeqAt.shaped, pyD, PyData.canLay0, PyData.depth, h1, h2, h3]
    unfold good
    rw [e]
    simp only [Bool.true_and, Bool.and_eq_true, decide_eq_true_eq, List.all_eq_true]
    exact ⟨hl', fun x h => sm (hx x h)⟩
  · exact sm h
theorem pap_cmp {μ : Sto} {p : D} {fs : List (Nat × Int)} (hp : Pap μ p) (hl : fs.length ≤ 40) (hf : ∀ r ∈ rowsD fs, Row r) : Cmp false μ 5 p (.fl (rowsD fs)) := by
  have hy : sqOf μ (.fl (rowsD fs)) = some (rowsD fs) := rfl
  have ln : (rowsD fs).length ≤ 1000 := by simp [rowsD]; omega
  have mix : sqOf μ p = none → (∃ t, tyD μ p = some t) → Cmp false μ 5 p (.fl (rowsD fs)) := fun e ht => by
    refine ⟨⟨ht, _, rfl⟩, ?_⟩
    rw [e, hy]
    exact fun z => by cases z
  rcases hp with rfl | rfl | rfl | ⟨a, rfl, ha⟩ | ⟨rs, rfl, hl, hr⟩ | ⟨rs, rfl, hl, hr⟩
  · exact mix rfl ⟨_, rfl⟩
  · exact mix rfl ⟨_, rfl⟩
  · exact mix rfl ⟨_, rfl⟩
  · exact mix (by show (match μ a with | some (.lst ds) => some ds | _ => none) = none; rw [ha]) ⟨"dict", by show (μ a).bind tyO = _; rw [ha]; rfl⟩
  · refine ⟨⟨⟨_, rfl⟩, _, rfl⟩, ?_⟩
    show rs.length ≤ 1000 ∧ (rowsD fs).length ≤ 1000 ∧ _
    exact ⟨by omega, ln, fun z hz => good_cmp (row_good (n := 2) (hr _ (List.of_mem_zip hz).1)) (row_good (n := 2) (.inl (hf _ (List.of_mem_zip hz).2)))⟩
  · refine ⟨⟨⟨_, rfl⟩, _, rfl⟩, ?_⟩
    show rs.length ≤ 1000 ∧ (rowsD fs).length ≤ 1000 ∧ _
    exact ⟨by omega, ln, fun z hz => good_cmp (row_good (n := 2) (.inl (hr _ (List.of_mem_zip hz).1))) (row_good (n := 2) (.inl (hf _ (List.of_mem_zip hz).2)))⟩
theorem two_cmp {μ : Sto} {m : Nat} {a b c e : Addr} {A B C E : List D} (ha : μ a = some (.lst A)) (hb : μ b = some (.lst B)) (hc : μ c = some (.lst C)) (he : μ e = some (.lst E)) (cA : Cells m A) (cB : Cells m B) (cC : Cells m C) (cE : Cells m E) (hm : m ≤ 20) :
    Cmp false μ 5 (.fl [.ref a, .ref b]) (.fl [.ref c, .ref e]) := by
  have one : ∀ {a c : Addr} {A C : List D}, μ a = some (.lst A) → μ c = some (.lst C) → Cells m A → Cells m C → Cmp false μ 4 (.ref a) (.ref c) := fun {a c A C} ha hc cA cC => by
    refine ⟨⟨⟨"list", by show (μ a).bind tyO = _; rw [ha]; rfl⟩, "list", by show (μ c).bind tyO = _; rw [hc]; rfl⟩, ?_⟩
    rw [show sqOf μ (.ref a) = some A from lsOf_ref ha, show sqOf μ (.ref c) = some C from lsOf_ref hc]
    exact ⟨by rw [cA.1]; omega, by rw [cC.1]; omega, fun z hz => good_cmp (cell_good (cA.2 _ (List.of_mem_zip hz).1)) (cell_good (cC.2 _ (List.of_mem_zip hz).2))⟩
  refine ⟨⟨⟨_, rfl⟩, _, rfl⟩, ?_⟩
  show 2 ≤ 1000 ∧ 2 ≤ 1000 ∧ _
  refine ⟨by omega, by omega, fun z hz => ?_⟩
  simp at hz
  rcases hz with rfl | rfl
  · exact one ha hc cA cC
  · exact one hb he cB cE
/-- what is told is what the law reckons -/
theorem plain {μ : Sto} {m : Nat} {p : D} {A B C E : List D} {ps : List (Nat × D)} {l0 l1 d0 d1 : Addr} (hp : Pap μ p) (sp : SpOk m ps) (cA : Cells m A) (cB : Cells m B) (cC : Cells m C) (cE : Cells m E)
    (h0 : μ l0 = some (.lst C)) (h1 : μ l1 = some (.lst E)) (g0 : μ d0 = some (.lst (dueD A B (fatesD A B ps)).1)) (g1 : μ d1 = some (.lst (dueD A B (fatesD A B ps)).2)) :
    mendD p A B C E ps = (like μ 5 p (.fl (rowsD (fatesD A B ps))) && like μ 5 (.fl [.ref l0, .ref l1]) (.fl [.ref d0, .ref d1])) := by
  obtain ⟨k0, k1⟩ := due_cells cA cB (fatesD A B ps) (A, B) (fates_lt sp) cA cB
  have e2 : like μ 5 (.fl [.ref l0, .ref l1]) (.fl [.ref d0, .ref d1]) = (sameL (dueD A B (fatesD A B ps)).1 C && sameL (dueD A B (fatesD A B ps)).2 E) := by
    rw [like_seq (n := 4) (xs := [.ref l0, .ref l1]) (ys := [.ref d0, .ref d1]) rfl rfl]
    show ((true && true) && (like μ 4 (.ref l0) (.ref d0) && (like μ 4 (.ref l1) (.ref d1) && true))) = _
    rw [same_like (X := (dueD A B (fatesD A B ps)).1) k0 cC h0 g0, same_like (X := (dueD A B (fatesD A B ps)).2) k1 cE h1 g1, Bool.and_true, Bool.true_and, Bool.and_true]
  have e1 : (isPap p && eqD p (.fl (rowsD (fatesD A B ps)))) = like μ 5 p (.fl (rowsD (fatesD A B ps))) := by
    have hL := like_pap (μ := μ) (n := 2) hp (rowsD_Row' (A := A) (B := B) sp)
    rw [Bool.eq_iff_iff, hL, Bool.and_eq_true]
    constructor
    · rintro ⟨i1, i2⟩
      cases p with
      | fl rs => rw [eqv_rows (List.all_eq_true.mp i1) (by simpa [eqD, pyD, PyData.eqv] using i2)]
      | _ => cases i1
    · rintro rfl
      refine ⟨List.all_eq_true.mpr rowsD_row, ?_⟩
      exact SeqAt.eqv_refl _ (by
        have h := shp_rows (rowsD_row (ps := fatesD A B ps))
        simp only [shp, SeqAt.shaped, Bool.and_eq_true] at h
        exact h.2.1)
  unfold mendD
  rw [e1, e2]
end K71

namespace K71
open PySem PySem.Spec PyProof.Rows L2 DL
/-! ### the law, from its end -/
theorem tk_cells {μ : Sto} {m : Nat} {a : Addr} {A : List D} (h : μ a = some (.lst A)) (c : Cells m A) (hm : m ≤ 20) : Tk μ 41000 4 (.ref a) :=
  tk_up (tk_ref (k := 2000) (n := 3) (m := 20) h (fun x hx => tk_cell (c.2 x hx)) (by rw [c.1]; exact hm)) (by omega)
theorem txt_two {μ : Sto} {m : Nat} {a b : Addr} {A B : List D} (ha : μ a = some (.lst A)) (hb : μ b = some (.lst B)) (cA : Cells m A) (cB : Cells m B) (hm : m ≤ 20) : ∃ t, Txt μ (.fl [.ref a, .ref b]) t := by
  refine txt_box rfl (tk_fl (k := 41000) (n := 4) (m := 2) (fun d hd => ?_) (by simp)) (by omega) (by omega)
  simp only [List.mem_cons, List.not_mem_nil, or_false] at hd
  rcases hd with rfl | rfl
  · exact tk_cells ha cA hm
  · exact tk_cells hb cB hm
theorem txt_spots {μ : Sto} {m : Nat} {ps : List (Nat × D)} (h : SpOk m ps) : ∃ t, Txt μ (.fl (spotsD ps)) t := by
  refine txt_box rfl (tk_fl (k := 2000) (n := 3) (m := 40) (fun d hd => ?_) (by simp [spotsD]; exact h.2.1)) (by omega) (by omega)
  obtain ⟨p, hp, rfl⟩ := List.mem_map.mp hd
  obtain ⟨h1, h2⟩ := h.2.2 p hp
  have hm := h.1
  refine tk_up (tk_tup (k := 942) (n := 2) (m := 2) (fun d hd => ?_) (by simp)) (by omega)
  simp only [List.mem_cons, List.not_mem_nil, or_false] at hd
  rcases hd with rfl | rfl
  · exact tk_up (tk_int (by omega)) (by omega)
  · rcases h2 with h2 | ⟨vs, h2, hl, hv⟩
    · rw [h2]; exact tk_up tk_non (by omega)
    · rw [h2]; exact tk_up (tk_tup (k := 45) (n := 1) (m := 20) (fun v hv' => tk_lf (num_lf (hv v hv'))) hl) (by omega)
theorem shp_strs : ∀ {ts : List Str}, (∀ t ∈ ts, PyData.strOk t = true) → plns (ts.map D.str) = true ∧ PyData.canLayAll0 (pyDs (ts.map D.str)) = true ∧ PyData.depthAll (pyDs (ts.map D.str)) = 0
  | [], _ => ⟨rfl, rfl, rfl⟩
  | t :: ts, h => by
    obtain ⟨h1, h2, h3⟩ := shp_strs fun x hx => h x (List.mem_cons_of_mem _ hx)
    have h0 := h t List.mem_cons_self
    rw [List.map_cons, plns, pyDs, PyData.canLayAll0, PyData.depthAll, h1, h2, h3]
    simp [pln, pyD, PyData.canLay0, PyData.depth, h0]
theorem eq_strs {ts : List Str} (h : ∀ t ∈ ts, PyData.strOk t = true) {μ : Sto} {q : DK} {f : Bool → Bool} (hq : q (.bl (f true)) μ) : dEqN f (.fl (ts.map D.str)) (.fl (ts.map D.str)) μ q := by
  obtain ⟨h1, h2, h3⟩ := shp_strs h
  have hs : shp (.fl (ts.map D.str)) = true := by simp only [shp, pln, SeqAt.shaped, pyD, PyData.canLay0, PyData.depth, h1, h2, h3]; decide
  refine eq_by hs hs ?_
  have e : eqD (rsv μ (.fl (ts.map D.str))) (rsv μ (.fl (ts.map D.str))) = true := SeqAt.eqv_refl _ (by show PyData.canLay0 (pyD (.fl (ts.map D.str))) = true; rw [pyD, PyData.canLay0]; exact h2)
  rw [e]
  exact hq
theorem m_14 {q : DK} {μ : Sto} {m : Nat} {x0 x1 x2 x3 x4 x6 x7 x15 : Option D} {p0 p1 d0 d1 l0 l1 : Addr} {A B C E : List D} {ps : List (Nat × D)} {pap : D}
    (hA : μ p0 = some (.lst A)) (hB : μ p1 = some (.lst B)) (hC : μ l0 = some (.lst C)) (hE : μ l1 = some (.lst E)) (g0 : μ d0 = some (.lst (dueD A B (fatesD A B ps)).1)) (g1 : μ d1 = some (.lst (dueD A B (fatesD A B ps)).2))
    (cA : Cells m A) (cB : Cells m B) (cC : Cells m C) (cE : Cells m E) (sp : SpOk m ps) (hp : Pap μ pap) (hq : ∃ μ'', DL.Sub μ'' μ ∧ q (.bl true) μ'') :
    r_law_14 (dends q) [x0, x1, x2, x3, x4, some (.fl [.ref p0, .ref p1]), x6, x7, some (.fl (spotsD ps)), some (.fl (rowsD (fatesD A B ps))), some (.fl [.ref d0, .ref d1]), some pap, some (.fl [.ref l0, .ref l1]), none, none, x15] μ := by
  have hm := sp.1
  obtain ⟨t1, h1⟩ := txt_pap hp
  obtain ⟨t2, h2⟩ := txt_two hA hB cA cB hm
  obtain ⟨t3, h3⟩ := txt_two hC hE cC cE hm
  obtain ⟨t4, h4⟩ := txt_spots (μ := μ) sp
  obtain ⟨k0, k1⟩ := due_cells cA cB (fatesD A B ps) (A, B) (fates_lt sp) cA cB
  have hts : ∀ t ∈ [t1, t2, t3, t4], PyData.strOk t = true := by
    intro t ht
    simp only [List.mem_cons, List.not_mem_nil, or_false] at ht
    rcases ht with rfl | rfl | rfl | rfl
    · exact h1.1
    · exact h2.1
    · exact h3.1
    · exact h4.1
  simp only [r_law_14, dSeq, dAsg, dLstF, dCons, dNil, dCB, dVar, dgName, List.set_cons_zero, List.set_cons_succ, List.getElem?_cons_zero, List.getElem?_cons_succ]
  refine h1.2 _ (h2.2 _ (h3.2 _ (h4.2 _ ⟨szl (by simp), ?_⟩)))
  simp only [r_law_15, dSeq, dAsg, dCall, dTup, dOp, dC, dCons, dNil, dVar, dgName, dIx_fl, atI_0, atI_1, List.set_cons_zero, List.set_cons_succ, List.getElem?_cons_zero, List.getElem?_cons_succ, Option.some.injEq, exists_eq_left']
  refine ⟨szl (by simp), szl (by simp), pap, .ref p0, .ref p1, .ref l0, .ref l1, A, B, C, E, m, ps, rfl, hp, lsOf_ref hA, lsOf_ref hB, lsOf_ref hC, lsOf_ref hE, cA, cB, cC, cE, sp, ?_⟩
  rw [plain hp sp cA cB cC cE hC hE g0 g1]
  simp only [r_law_16, dSeq, dIfS, dOr, dNot, dTest, dCB, dCons, dNil, dVar, dC, dOp, dLstF, asB, dIsi_eq, List.getElem?_cons_zero, List.getElem?_cons_succ]
  refine ⟨by simp, _, rfl, ?_⟩
  rw [isK_bool_bool]
  show (if (!true) = true then _ else _)
  rw [if_neg (by simp)]
  refine h1.2 _ (h2.2 _ (h3.2 _ (h4.2 _ ⟨szl (by simp), ?_⟩)))
  refine eq_strs (ts := [t1, t2, t3, t4]) hts ?_
  show (if (!true) = true then _ else _)
  rw [if_neg (by simp)]
  have hf := rowsD_Row' (A := A) (B := B) sp
  have hfl : (fatesD A B ps).length ≤ 40 := by simp [fatesD]; exact sp.2.1
  simp only [dNext, r_law_17, dRet, dOp, dVar, dAndV, dCall, dCons, dNil, List.getElem?_cons_zero, List.getElem?_cons_succ]
  refine ⟨pap, _, rfl, pap_cmp hp hfl hf, ?_⟩
  cases e1 : like μ 5 pap (.fl (rowsD (fatesD A B ps))) with
  | false =>
    simp only [asB, Bool.false_eq_true, if_false]
    exact dEqN_bb.mpr (by rw [Bool.false_and, decide_eq_true rfl]; exact hq)
  | true =>
    simp only [asB, if_true]
    refine ⟨_, _, rfl, two_cmp hC hE g0 g1 cC cE k0 k1 hm, ?_⟩
    rw [Bool.true_and]
    refine dEqN_bb.mpr ?_
    rw [decide_eq_true rfl]
    exact hq
end K71

namespace K71
open PySem PySem.Spec PyProof.Rows L2 DL
/-- what stands in the store behind the drawing -/
structure Sit (μ : Sto) (m : Nat) (a h p0 p1 d0 d1 l0 l1 : Addr) (r : Int) (A B : List D) (ps : List (Nat × D)) : Prop where
  dr : ∃ ns, μ a = some (.lst (ns.map D.int)) ∧ Dr ns
  hh : Heads μ h r
  hA : μ p0 = some (.lst A)
  hB : μ p1 = some (.lst B)
  g0 : μ d0 = some (.lst (dueD A B (fatesD A B ps)).1)
  g1 : μ d1 = some (.lst (dueD A B (fatesD A B ps)).2)
  lt : ∃ C E, μ l0 = some (.lst C) ∧ μ l1 = some (.lst E) ∧ Cells m C ∧ Cells m E
  an : h ≠ a ∧ p0 ≠ a ∧ p1 ≠ a ∧ d0 ≠ a ∧ d1 ≠ a ∧ l0 ≠ a ∧ l1 ≠ a
  ln : (h ≠ l0 ∧ p0 ≠ l0 ∧ p1 ≠ l0 ∧ d0 ≠ l0 ∧ d1 ≠ l0) ∧ (h ≠ l1 ∧ p0 ≠ l1 ∧ p1 ≠ l1 ∧ d0 ≠ l1 ∧ d1 ≠ l1) ∧ l0 ≠ l1
section
variable {μ : Sto} {m : Nat} {a h p0 p1 d0 d1 l0 l1 : Addr} {r : Int} {A B : List D} {ps : List (Nat × D)}
theorem Heads.set {b : Addr} {o : DO} (H : Heads μ h r) (n : h ≠ b) : Heads (set μ b o) h r := ⟨H.1, let ⟨x, y, e, t⟩ := H.2; ⟨x, y, by rw [set_ne n]; exact e, t⟩⟩
theorem Sit.draw (S : Sit μ m a h p0 p1 d0 d1 l0 l1 r A B ps) {ns : List Int} (hd : Dr ns) : Sit (set μ a (.lst (ns.map D.int))) m a h p0 p1 d0 d1 l0 l1 r A B ps := by
  obtain ⟨n1, n2, n3, n4, n5, n6, n7⟩ := S.an
  obtain ⟨C, E, e1, e2, e3, e4⟩ := S.lt
  exact ⟨⟨ns, set_same, hd⟩, S.hh.set n1, by rw [set_ne n2]; exact S.hA, by rw [set_ne n3]; exact S.hB, by rw [set_ne n4]; exact S.g0, by rw [set_ne n5]; exact S.g1, ⟨C, E, by rw [set_ne n6]; exact e1, by rw [set_ne n7]; exact e2, e3, e4⟩, S.an, S.ln⟩
theorem Sit.later (S : Sit μ m a h p0 p1 d0 d1 l0 l1 r A B ps) {C E : List D} (cC : Cells m C) (cE : Cells m E) : Sit (set (set μ l0 (.lst C)) l1 (.lst E)) m a h p0 p1 d0 d1 l0 l1 r A B ps := by
  obtain ⟨⟨u1, u2, u3, u4, u5⟩, ⟨v1, v2, v3, v4, v5⟩, w⟩ := S.ln
  obtain ⟨ns, e, hd⟩ := S.dr
  obtain ⟨_, _, _, _, _, n6, n7⟩ := S.an
  exact ⟨⟨ns, by rw [set_ne (Ne.symm n7), set_ne (Ne.symm n6)]; exact e, hd⟩, (S.hh.set u1).set v1, by rw [set_ne v2, set_ne u2]; exact S.hA, by rw [set_ne v3, set_ne u3]; exact S.hB, by rw [set_ne v4, set_ne u4]; exact S.g0, by rw [set_ne v5, set_ne u5]; exact S.g1, ⟨C, E, by rw [set_ne w, set_same], set_same, cC, cE⟩, S.an, S.ln⟩
theorem Sit.more {μ' : Sto} (S : Sit μ m a h p0 p1 d0 d1 l0 l1 r A B ps) (s : DL.Sub μ μ') : Sit μ' m a h p0 p1 d0 d1 l0 l1 r A B ps := by
  obtain ⟨C, E, e1, e2, e3, e4⟩ := S.lt
  obtain ⟨ns, e, hd⟩ := S.dr
  exact ⟨⟨ns, s _ _ e, hd⟩, ⟨S.hh.1, let ⟨x, y, e, t⟩ := S.hh.2; ⟨x, y, s _ _ e, t⟩⟩, s _ _ S.hA, s _ _ S.hB, s _ _ S.g0, s _ _ S.g1, ⟨C, E, s _ _ e1, s _ _ e2, e3, e4⟩, S.an, S.ln⟩
theorem Pap.set {p : D} {b : Addr} {xs : List D} {o : DO} (hp : Pap μ p) (hb : μ b = some (.lst xs)) : Pap (set μ b o) p := by
  rcases hp with e | e | e | ⟨g, e, hg⟩ | e | e
  · exact .inl e
  · exact .inr (.inl e)
  · exact .inr (.inr (.inl e))
  · refine .inr (.inr (.inr (.inl ⟨g, e, ?_⟩)))
    rw [set_ne (fun z => by subst z; rw [hg] at hb; cases hb)]
    exact hg
  · exact .inr (.inr (.inr (.inr (.inl e))))
  · exact .inr (.inr (.inr (.inr (.inr e))))
theorem m_13 {q : DK} {x0 x6 x7 x15 : Option D} {n : Int} {pap : D} (S : Sit μ m a h p0 p1 d0 d1 l0 l1 r A B ps) (cA : Cells m A) (cB : Cells m B) (sp : SpOk m ps) (h1m : 1 ≤ m) (hp : Pap μ pap) (hq : ∀ μ, ∃ μ'', DL.Sub μ'' μ ∧ q (.bl true) μ'') :
    r_law_13 (dends q) [x0, some (.ref a), some (.int n), some (.int (m : Int)), some (.ref h), some (.fl [.ref p0, .ref p1]), x6, x7, some (.fl (spotsD ps)), some (.fl (rowsD (fatesD A B ps))), some (.fl [.ref d0, .ref d1]), some pap, some (.fl [.ref l0, .ref l1]), none, none, x15] μ := by
  have fin : ∀ {μ' : Sto}, Sit μ' m a h p0 p1 d0 d1 l0 l1 r A B ps → Pap μ' pap → r_law_14 (dends q) [x0, some (.ref a), some (.int n), some (.int (m : Int)), some (.ref h), some (.fl [.ref p0, .ref p1]), x6, x7, some (.fl (spotsD ps)), some (.fl (rowsD (fatesD A B ps))), some (.fl [.ref d0, .ref d1]), some pap, some (.fl [.ref l0, .ref l1]), none, none, x15] μ' := fun S hp => by
    obtain ⟨C, E, e1, e2, cC, cE⟩ := S.lt
    exact m_14 S.hA S.hB e1 e2 S.g0 S.g1 cA cB cC cE sp hp (hq _)
  simp only [r_law_13, dSeq, dIfS, dTest, dOp, dVar, dC, dInt2_ii, dEqN_ii, asB, List.getElem?_cons_zero, List.getElem?_cons_succ]
  refine ⟨divOk (by omega) (by omega), by omega, ?_⟩
  by_cases e : n / 4 % 4 = 3
  · rw [decide_eq_true e, if_pos rfl]
    simp only [dDrop, dCall, dCons, dNil, dVar, List.getElem?_cons_zero, List.getElem?_cons_succ]
    obtain ⟨ns, ea, hd⟩ := S.dr
    refine ⟨a, ns, rfl, ea, hd, fun k ns' k0 k1 hd' => ?_⟩
    have S1 := S.draw hd'
    have hp1 : Pap (set μ a (.lst (ns'.map D.int))) pap := hp.set ea
    obtain ⟨C, E, e1, e2, cC, cE⟩ := S1.lt
    refine ⟨l0, l1, C, E, h, r, m, k, rfl, e1, e2, S1.ln.2.2, cC, cE, ⟨h1m, sp.1⟩, S1.hh, ⟨k0, k1⟩, fun C' E' cC' cE' => ?_⟩
    refine fin (S1.later cC' cE') ((hp1.set e1).set (xs := E) ?_)
    rw [set_ne (Ne.symm S1.ln.2.2)]
    exact e2
  · rw [decide_eq_false e, if_neg (by simp)]
    exact fin S hp
theorem m_12 {q : DK} {x0 x6 x7 x15 : Option D} {n : Int} (S : Sit μ m a h p0 p1 d0 d1 l0 l1 r A B ps) (cA : Cells m A) (cB : Cells m B) (sp : SpOk m ps) (h1m : 1 ≤ m) (hq : ∀ μ, ∃ μ'', DL.Sub μ'' μ ∧ q (.bl true) μ'') :
    r_law_12 (dends q) [x0, some (.ref a), some (.int n), some (.int (m : Int)), some (.ref h), some (.fl [.ref p0, .ref p1]), x6, x7, some (.fl (spotsD ps)), some (.fl (rowsD (fatesD A B ps))), some (.fl [.ref d0, .ref d1]), some (.fl (rowsD (fatesD A B ps))), some (.fl [.ref l0, .ref l1]), none, none, x15] μ := by
  have hf := rowsD_Row' (A := A) (B := B) sp
  have hfl : (fatesD A B ps).length ≤ 40 := by simp [fatesD]; exact sp.2.1
  simp only [r_law_12, dSeq, dIfS, dTest, dOp, dVar, dC, dInt2_ii, dInt20_ii, asB, List.getElem?_cons_zero, List.getElem?_cons_succ]
  refine ⟨by omega, ?_⟩
  by_cases e : 1 < n % 4
  · rw [decide_eq_true e, if_pos rfl]
    simp only [dAsg, dCall, dCons, dNil, dVar, dgName, List.getElem?_cons_zero, List.getElem?_cons_succ, List.set_cons_zero, List.set_cons_succ]
    obtain ⟨ns, ea, hd⟩ := S.dr
    refine ⟨a, ns, rfl, ea, hd, fun k ns' k0 k1 hd' => ?_⟩
    have S1 := S.draw hd'
    refine ⟨fatesD A B ps, k, rfl, hfl, fun p hp => ?_, k0, fun p hn hp => ?_, fun g hg => ?_⟩
    · obtain ⟨z, hz, rfl⟩ := List.mem_map.mp hp
      refine ⟨Nat.lt_of_lt_of_le (sp.2.2 z hz).1 sp.1, ?_⟩
      show 0 ≤ fateD _ _ _ _ ∧ fateD _ _ _ _ ≤ 3
      unfold fateD
      split <;> omega
    · exact m_13 S1 cA cB sp h1m hp hq
    · exact m_13 (S1.more (.new hg)) cA cB sp h1m (.inr (.inr (.inr (.inl ⟨g, rfl, set_same⟩)))) hq
  · rw [decide_eq_false e, if_neg (by simp)]
    exact m_13 S cA cB sp h1m (pap_fl (by simp [rowsD]; omega) hf) hq
end
end K71

namespace K71
open PySem PySem.Spec PyProof.Rows L2 DL
theorem l_law : ∀ ds μ q x, C_law ds μ q x → ds.length = 1 := by
  rintro _ μ q _ ⟨cs, rfl, _⟩; rfl
section
variable {μ : Sto} {m : Nat} {a h p0 p1 d0 d1 l0 l1 : Addr} {r : Int} {A B : List D} {ps : List (Nat × D)}
theorem m_11 {q : DK} {x0 x2 x6 x7 x15 : Option D} (S : Sit μ m a h p0 p1 d0 d1 l0 l1 r A B ps) (cA : Cells m A) (cB : Cells m B) (sp : SpOk m ps) (h1m : 1 ≤ m) (hq : ∀ μ, ∃ μ'', DL.Sub μ'' μ ∧ q (.bl true) μ'') :
    r_law_11 (dends q) [x0, some (.ref a), x2, some (.int (m : Int)), some (.ref h), some (.fl [.ref p0, .ref p1]), x6, x7, some (.fl (spotsD ps)), some (.fl (rowsD (fatesD A B ps))), some (.fl [.ref d0, .ref d1]), some (.fl (rowsD (fatesD A B ps))), some (.fl [.ref l0, .ref l1]), none, none, x15] μ := by
  obtain ⟨ns, ea, hd⟩ := S.dr
  simp only [r_law_11, dSeq, dAsg, dCall, dCons, dNil, dVar, dgName, List.getElem?_cons_zero, List.getElem?_cons_succ, List.set_cons_zero, List.set_cons_succ]
  exact ⟨a, ns, rfl, ea, hd, fun k ns' k0 k1 hd' => m_12 (S.draw hd') cA cB sp h1m hq⟩
theorem ne_of_val {b c : Addr} {o : DO} (hb : μ b = none) (hc : μ c = some o) : c ≠ b := fun z => by subst z; rw [hb] at hc; cases hc
theorem m_7 {q : DK} {x0 x2 x6 x7 : Option D} {ns : List Int} (ha : μ a = some (.lst (ns.map D.int))) (hd : Dr ns) (hh : Heads μ h r) (hA : μ p0 = some (.lst A)) (hB : μ p1 = some (.lst B)) (cA : Cells m A) (cB : Cells m B) (hm : 12 ≤ m ∧ m ≤ 20)
    (n1 : h ≠ a) (n2 : p0 ≠ a) (n3 : p1 ≠ a) (hq : ∀ μ, ∃ μ'', DL.Sub μ'' μ ∧ q (.bl true) μ'') :
    r_law_7 (dends q) [x0, some (.ref a), x2, some (.int (m : Int)), some (.ref h), some (.fl [.ref p0, .ref p1]), x6, x7, none, none, none, none, none, none, none, none] μ := by
  simp only [r_law_7, dSeq, dAsg, dCall, dCons, dNil, dVar, dgName, List.getElem?_cons_zero, List.getElem?_cons_succ, List.set_cons_zero, List.set_cons_succ]
  refine ⟨a, ns, h, r, m, rfl, ha, hd, hh, Ne.symm n1, hm, fun ps ns' sp hd' => ?_⟩
  have ea : set μ a (.lst (ns'.map D.int)) a = some (.lst (ns'.map D.int)) := set_same
  have eh := hh.set (o := .lst (ns'.map D.int)) n1
  have eA : set μ a (.lst (ns'.map D.int)) p0 = some (.lst A) := by rw [set_ne n2]; exact hA
  have eB : set μ a (.lst (ns'.map D.int)) p1 = some (.lst B) := by rw [set_ne n3]; exact hB
  generalize set μ a (.lst (ns'.map D.int)) = μ1 at ea eh eA eB
  simp only [r_law_8, dSeq, dAsg, dCall, dCons, dNil, dVar, List.getElem?_cons_zero, List.getElem?_cons_succ]
  refine ⟨.ref p0, .ref p1, A, B, m, ps, rfl, lsOf_ref eA, lsOf_ref eB, cA, cB, sp, fun d0 d1 f0 f1 hne => ?_⟩
  have s2 : DL.Sub μ1 (set (set μ1 d0 (.lst (dueD A B (fatesD A B ps)).1)) d1 (.lst (dueD A B (fatesD A B ps)).2)) := (DL.Sub.new f0).trans (.new (by rw [set_ne (Ne.symm hne)]; exact f1))
  have g0 : set (set μ1 d0 (.lst (dueD A B (fatesD A B ps)).1)) d1 (.lst (dueD A B (fatesD A B ps)).2) d0 = some (.lst (dueD A B (fatesD A B ps)).1) := by rw [set_ne hne, set_same]
  have g1 : set (set μ1 d0 (.lst (dueD A B (fatesD A B ps)).1)) d1 (.lst (dueD A B (fatesD A B ps)).2) d1 = some (.lst (dueD A B (fatesD A B ps)).2) := set_same
  have b0 := ne_of_val f0 ea
  have b1 := ne_of_val f1 ea
  generalize set (set μ1 d0 (.lst (dueD A B (fatesD A B ps)).1)) d1 (.lst (dueD A B (fatesD A B ps)).2) = μ2 at s2 g0 g1
  refine ⟨_, rfl, rfl, ?_⟩
  simp only [dgCons, dgNil, dgName, List.set_cons_zero, List.set_cons_succ, true_and]
  simp only [r_law_9, dSeq, dAsg, dFz, dCB, dCons, dNil, dVar, dgName, List.getElem?_cons_zero, List.getElem?_cons_succ, List.set_cons_zero, List.set_cons_succ]
  refine dLstC_ls (ds := rowsD (fatesD A B ps)) rfl fun p hp => ⟨p, _, μ2, rfl, set_same, .new hp, hp, ?_⟩
  simp only [r_law_10, dSeq]
  obtain ⟨k0, k1⟩ := due_cells cA cB (fatesD A B ps) (A, B) (fates_lt sp) cA cB
  refine two_lists (src := .fl [.ref d0, .ref d1]) (.inr rfl) (fun k hk => hk) (lsOf_ref g0) (lsOf_ref g1) (by simp) (by simp) fun l0 l1 q0 q1 hl => ?_
  have s3 : DL.Sub μ2 (set (set μ2 l0 (.lst (dueD A B (fatesD A B ps)).1)) l1 (.lst (dueD A B (fatesD A B ps)).2)) := (DL.Sub.new q0).trans (.new (by rw [set_ne (Ne.symm hl)]; exact q1))
  obtain ⟨x, y, ehx, tx, ty⟩ := eh.2
  have vh := s2 _ _ ehx
  have va := s2 _ _ ea
  have vA := s2 _ _ eA
  have vB := s2 _ _ eB
  refine m_11 (S := ⟨⟨ns', s3 _ _ va, hd'⟩, ⟨eh.1, x, y, s3 _ _ vh, tx, ty⟩, s3 _ _ vA, s3 _ _ vB, s3 _ _ g0, s3 _ _ g1, ⟨(dueD A B (fatesD A B ps)).1, (dueD A B (fatesD A B ps)).2, by rw [set_ne hl, set_same], set_same, k0, k1⟩,
    ⟨n1, n2, n3, Ne.symm b0, Ne.symm b1, Ne.symm (ne_of_val q0 va), Ne.symm (ne_of_val q1 va)⟩, ⟨ne_of_val q0 vh, ne_of_val q0 vA, ne_of_val q0 vB, ne_of_val q0 g0, ne_of_val q0 g1⟩, ⟨ne_of_val q1 vh, ne_of_val q1 vA, ne_of_val q1 vB, ne_of_val q1 g0, ne_of_val q1 g1⟩, hl⟩) cA cB sp (by omega) hq
end
theorem m_law : ∀ ds μ q x, C_law ds μ q x → r_law (dends q) (dstart N_law ds) μ := by
  rintro _ μ q _ ⟨cs, rfl, hl, hμ, hq⟩
  have hq' : ∀ μ', ∃ μ'', DL.Sub μ'' μ' ∧ q (.bl true) μ'' := fun μ' => ⟨μ, fun b o z => (by rw [hμ b] at z; cases z), hq⟩
  have e0 : dstart N_law [.wl (cs.map D.int)] = [some (.wl (cs.map D.int)), none, none, none, none, none, none, none, none, none, none, none, none, none, none, none] := rfl
  rw [e0]
  simp only [r_law, r_law_2, r_law_3, r_law_4, dSeq, dAsg, dOp, dVar, dC, dgName, dCall, dCons, dNil, dInt2_ii, dAddF_ii, List.set_cons_zero, List.set_cons_succ, List.getElem?_cons_zero, List.getElem?_cons_succ]
  refine ⟨cs, rfl, hl, fun a ns na hd => ⟨a, ns, rfl, set_same, hd, fun n ns n0 n1 hd => ?_⟩⟩
  rw [set_set]
  refine ⟨divOk (by omega) (by omega), by omega, ?_⟩
  obtain ⟨m, em⟩ := Int.eq_ofNat_of_zero_le (show (0 : Int) ≤ 12 + n / 2 % 9 by omega)
  have hm : 12 ≤ m ∧ m ≤ 20 := by omega
  have em' : 12 + n / 2 % 9 = (m : Int) := em
  simp only [dAddF_ii, em', dInt2_ii]
  refine ⟨by omega, n % 2, (m : Int), rfl, ⟨by omega, by omega⟩, ⟨by omega, by omega⟩, fun h x y nh tx ty => ?_⟩
  have ha : set μ a (.lst (ns.map D.int)) a = some (.lst (ns.map D.int)) := set_same
  have hah := ne_of_val nh ha
  have v0 : set (set μ a (.lst (ns.map D.int))) h (.dK [(.inl (n % 2), x), (.inl (2 + n % 2), y)]) a = some (.lst (ns.map D.int)) := by rw [set_ne hah]; exact ha
  have hh : Heads (set (set μ a (.lst (ns.map D.int))) h (.dK [(.inl (n % 2), x), (.inl (2 + n % 2), y)])) h (n % 2) := ⟨⟨by omega, by omega⟩, x, y, set_same, tx, ty⟩
  generalize set (set μ a (.lst (ns.map D.int))) h (.dK [(.inl (n % 2), x), (.inl (2 + n % 2), y)]) = μ1 at v0 hh
  simp only [r_law_5, dSeq, dAsg, dLstF, dLst, dCons, dNil, dgName, List.set_cons_zero, List.set_cons_succ]
  refine ⟨szl (by simp), fun p0 f0 => ⟨szl (by simp), fun p1 f1 => ⟨szl (by simp), ?_⟩⟩⟩
  have h10 : p1 ≠ p0 := fun z => by subst z; rw [set_same] at f1; cases f1
  have f1' : μ1 p1 = none := by rw [set_ne h10] at f1; exact f1
  have a0 := ne_of_val f0 v0
  have a1 := ne_of_val f1' v0
  obtain ⟨x', y', hx', _⟩ := hh.2
  have b0 := ne_of_val f0 hx'
  have b1 := ne_of_val f1' hx'
  simp only [r_law_6, dSeq, dFor, dRan1, dCons, dNil, dVar, List.getElem?_cons_zero, List.getElem?_cons_succ]
  refine ⟨⟨by omega, by omega⟩, ?_⟩
  rw [Int.toNat_natCast]
  refine forD_by (fun xs Γ μ' => ∃ (A B : List D) (ms : List Int) (o6 o7 : Option D), (∀ z ∈ xs, ∃ i : Nat, i < m ∧ z = .int (0 + i)) ∧ Γ = [some (.wl (cs.map D.int)), some (.ref a), some (.int n), some (.int (m : Int)), some (.ref h), some (.fl [.ref p0, .ref p1]), o6, o7, none, none, none, none, none, none, none, none] ∧
      μ' a = some (.lst (ms.map D.int)) ∧ Dr ms ∧ Heads μ' h (n % 2) ∧ μ' p0 = some (.lst A) ∧ μ' p1 = some (.lst B) ∧ (∀ c ∈ A, Cell c) ∧ (∀ c ∈ B, Cell c) ∧ A.length + xs.length = m ∧ B.length + xs.length = m)
    ?_ ?_ _ _ _ ⟨[], [], ns, none, none, fun z hz => ran_mem hz, rfl, by rw [set_ne a1, set_ne a0]; exact v0, hd, (hh.set b0).set b1, by rw [set_ne (Ne.symm h10), set_same], set_same, by simp, by simp, by simp [ran], by simp [ran]⟩
  · rintro Γ μ' ⟨A, B, ms, o6, o7, _, rfl, va, hd, vh, vA, vB, cA, cB, lA, lB⟩
    refine ⟨trivial, ?_⟩
    exact m_7 va hd vh vA vB ⟨by simpa using lA, cA⟩ ⟨by simpa using lB, cB⟩ hm (Ne.symm hah) (Ne.symm a0) (Ne.symm a1) hq'
  · rintro z xs Γ μ' ⟨A, B, ms, o6, o7, hz, rfl, va, hd, vh, vA, vB, cA, cB, lA, lB⟩
    obtain ⟨i, hi, rfl⟩ := hz z List.mem_cons_self
    refine ⟨trivial, fun F hF => ?_⟩
    simp only [dSeq, dAsg, dDrop, dCall, dBM, dOp, dC, dCons, dNil, dVar, dgName, dIx_fl, atI_0, atI_1, Int.zero_add, List.set_cons_zero, List.set_cons_succ, List.getElem?_cons_zero, List.getElem?_cons_succ, Option.some.injEq, exists_eq_left']
    refine ⟨h, n % 2, (i : Int), rfl, vh, fun w tw => ?_⟩
    refine ⟨by simp [tyM, vA], a, ms, rfl, va, hd, fun k ms1 k0 k1 hd1 => ⟨(i : Int), k, w, rfl, ⟨by omega, by omega⟩, ⟨k0, k1⟩, tw, fun c hc => ?_⟩⟩
    refine app_ls (xs := A) (by rw [set_ne (Ne.symm a0)]; exact vA) (by omega) ?_
    refine ⟨by simp [tyM, set_ne h10, set_ne (Ne.symm a1), vB], a, ms1, rfl, by rw [set_ne a0, set_same], hd1, fun k ms2 k0 k1 hd2 => ⟨(i : Int), k, w, rfl, ⟨by omega, by omega⟩, ⟨k0, k1⟩, tw, fun c2 hc2 => ?_⟩⟩
    refine app_ls (xs := B) (by rw [set_ne (Ne.symm a1), set_ne h10, set_ne (Ne.symm a1)]; exact vB) (by omega) ?_
    have ins : ∀ {L : List D} {c : D}, (∀ x ∈ L, Cell x) → Cell c → ∀ x ∈ L ++ [c], Cell x := fun {L c} hL hc x hx => by
      rcases List.mem_append.mp hx with hx | hx
      · exact hL x hx
      · rw [List.mem_singleton.mp hx]; exact hc
    refine hF _ _ ⟨A ++ [c], B ++ [c2], ms2, _, _, fun y hy => hz y (List.mem_cons_of_mem _ hy), rfl, by rw [set_ne a1, set_same], hd2, (((vh.set (Ne.symm hah)).set b0).set (Ne.symm hah)).set b1, ?_, set_same, ins cA hc, ins cB hc2, ?_, ?_⟩
    · rw [set_ne (Ne.symm h10), set_ne (Ne.symm a0), set_same]
    · simp at lA ⊢; omega
    · simp at lB ⊢; omega
end K71

namespace K71
open PySem PySem.Spec PyProof.Rows L2 DL
def top (i : Nat) : Stmt := PySem.Challenge.pw_snapshelf_k71_looks_at_mend_papers.main.body.getD i (.Pass ⟨0, 0, 0, 0⟩)
abbrev s_is_number : Stmt := top 3
theorem sc_is_number : FnScope N_is_number ["one"] (defScope s_is_number) := ⟨rfl, rfl, rfl, by decide +kernel, rfl, by decide +kernel, by decide +kernel⟩
abbrev s_is_content : Stmt := top 4
theorem sc_is_content : FnScope N_is_content ["one"] (defScope s_is_content) := ⟨rfl, rfl, rfl, by decide +kernel, rfl, by decide +kernel, by decide +kernel⟩
abbrev s_sum_of : Stmt := top 5
theorem sc_sum_of : FnScope N_sum_of ["spot", "content"] (defScope s_sum_of) := ⟨rfl, rfl, rfl, by decide +kernel, rfl, by decide +kernel, by decide +kernel⟩
abbrev s_is_right : Stmt := top 6
theorem sc_is_right : FnScope N_is_right ["spot", "cell"] (defScope s_is_right) := ⟨rfl, rfl, rfl, by decide +kernel, rfl, by decide +kernel, by decide +kernel⟩
abbrev s_are_whole : Stmt := top 12
theorem sc_are_whole : FnScope N_are_whole ["spot", "cells", "content"] (defScope s_are_whole) := ⟨rfl, rfl, rfl, by decide +kernel, rfl, by decide +kernel, by decide +kernel⟩
abbrev s_fate_of : Stmt := top 13
theorem sc_fate_of : FnScope N_fate_of ["spot", "cells", "content"] (defScope s_fate_of) := ⟨rfl, rfl, rfl, by decide +kernel, rfl, by decide +kernel, by decide +kernel⟩
abbrev s_fates_of : Stmt := top 14
theorem sc_fates_of : FnScope N_fates_of ["ahead", "spots"] (defScope s_fates_of) := ⟨rfl, rfl, rfl, by decide +kernel, rfl, by decide +kernel, by decide +kernel⟩
abbrev s_is_paper : Stmt := top 15
theorem sc_is_paper : FnScope N_is_paper ["one"] (defScope s_is_paper) := ⟨rfl, rfl, rfl, by decide +kernel, rfl, by decide +kernel, by decide +kernel⟩
abbrev s_are_same : Stmt := top 16
theorem sc_are_same : FnScope N_are_same ["one", "other"] (defScope s_are_same) := ⟨rfl, rfl, rfl, by decide +kernel, rfl, by decide +kernel, by decide +kernel⟩
abbrev s_cells_due : Stmt := top 17
theorem sc_cells_due : FnScope N_cells_due ["ahead", "fates"] (defScope s_cells_due) := ⟨rfl, rfl, rfl, by decide +kernel, rfl, by decide +kernel, by decide +kernel⟩
abbrev s_mend_holds : Stmt := top 18
theorem sc_mend_holds : FnScope N_mend_holds ["paper", "ahead", "behind", "spots"] (defScope s_mend_holds) := ⟨rfl, rfl, rfl, by decide +kernel, rfl, by decide +kernel, by decide +kernel⟩
abbrev s__law_mixed : Stmt := top 20
theorem sc__law_mixed : FnScope N__law_mixed ["_law_cell_here", "_law_k"] (defScope s__law_mixed) := ⟨rfl, rfl, rfl, by decide +kernel, rfl, by decide +kernel, by decide +kernel⟩
abbrev s__law_draws : Stmt := top 21
theorem sc__law_draws : FnScope N__law_draws ["_law_script"] (defScope s__law_draws) := ⟨rfl, rfl, rfl, by decide +kernel, rfl, by decide +kernel, by decide +kernel⟩
abbrev s__law_next : Stmt := top 22
theorem sc__law_next : FnScope N__law_next ["_law_drawn"] (defScope s__law_next) := ⟨rfl, rfl, rfl, by decide +kernel, rfl, by decide +kernel, by decide +kernel⟩
abbrev s__law_sum : Stmt := top 23
theorem sc__law_sum : FnScope N__law_sum ["_law_spot", "_law_content"] (defScope s__law_sum) := ⟨rfl, rfl, rfl, by decide +kernel, rfl, by decide +kernel, by decide +kernel⟩
abbrev s__law_heads : Stmt := top 24
theorem sc__law_heads : FnScope N__law_heads ["_law_root", "_law_many"] (defScope s__law_heads) := ⟨rfl, rfl, rfl, by decide +kernel, rfl, by decide +kernel, by decide +kernel⟩
abbrev s__law_contents : Stmt := top 25
theorem sc__law_contents : FnScope N__law_contents ["_law_heads_here", "_law_spot"] (defScope s__law_contents) := ⟨rfl, rfl, rfl, by decide +kernel, rfl, by decide +kernel, by decide +kernel⟩
abbrev s__law_cell : Stmt := top 26
theorem sc__law_cell : FnScope N__law_cell ["_law_spot", "_law_number", "_law_contents_here"] (defScope s__law_cell) := ⟨rfl, rfl, rfl, by decide +kernel, rfl, by decide +kernel, by decide +kernel⟩
abbrev s__law_is_right : Stmt := top 27
theorem sc__law_is_right : FnScope N__law_is_right ["_law_spot", "_law_cell_here"] (defScope s__law_is_right) := ⟨rfl, rfl, rfl, by decide +kernel, rfl, by decide +kernel, by decide +kernel⟩
abbrev s__law_fate : Stmt := top 28
theorem sc__law_fate : FnScope N__law_fate ["_law_spot", "_law_first", "_law_second", "_law_content"] (defScope s__law_fate) := ⟨rfl, rfl, rfl, by decide +kernel, rfl, by decide +kernel, by decide +kernel⟩
abbrev s__law_spots : Stmt := top 29
theorem sc__law_spots : FnScope N__law_spots ["_law_drawn", "_law_heads_here", "_law_many"] (defScope s__law_spots) := ⟨rfl, rfl, rfl, by decide +kernel, rfl, by decide +kernel, by decide +kernel⟩
abbrev s__law_due : Stmt := top 30
theorem sc__law_due : FnScope N__law_due ["_law_cells", "_law_spots_here"] (defScope s__law_due) := ⟨rfl, rfl, rfl, by decide +kernel, rfl, by decide +kernel, by decide +kernel⟩
abbrev s__law_row_bent : Stmt := top 31
theorem sc__law_row_bent : FnScope N__law_row_bent ["_law_row", "_law_number"] (defScope s__law_row_bent) := ⟨rfl, rfl, rfl, by decide +kernel, rfl, by decide +kernel, by decide +kernel⟩
abbrev s__law_paper_bent : Stmt := top 32
theorem sc__law_paper_bent : FnScope N__law_paper_bent ["_law_paper", "_law_number"] (defScope s__law_paper_bent) := ⟨rfl, rfl, rfl, by decide +kernel, rfl, by decide +kernel, by decide +kernel⟩
abbrev s__law_one_for_true : Stmt := top 33
theorem sc__law_one_for_true : FnScope N__law_one_for_true ["_law_cell_here"] (defScope s__law_one_for_true) := ⟨rfl, rfl, rfl, by decide +kernel, rfl, by decide +kernel, by decide +kernel⟩
abbrev s__law_cells_bent : Stmt := top 34
theorem sc__law_cells_bent : FnScope N__law_cells_bent ["_law_cells", "_law_heads_here", "_law_number"] (defScope s__law_cells_bent) := ⟨rfl, rfl, rfl, by decide +kernel, rfl, by decide +kernel, by decide +kernel⟩
abbrev s__law_like : Stmt := top 35
theorem sc__law_like : FnScope N__law_like ["_law_one", "_law_other"] (defScope s__law_like) := ⟨rfl, rfl, rfl, by decide +kernel, rfl, by decide +kernel, by decide +kernel⟩
abbrev s_law : Stmt := top 36
theorem sc_law : FnScope N_law ["_law_script"] (defScope s_law) := ⟨rfl, rfl, rfl, by decide +kernel, rfl, by decide +kernel, by decide +kernel⟩
structure Top (K : PySem.W.Frag) (mg : Str → Option Value) where
  n_abs : mg "abs" = none
  n_all : mg "all" = none
  n_bool : mg "bool" = none
  n_int : mg "int" = none
  n_isinstance : mg "isinstance" = none
  n_len : mg "len" = none
  n_list : mg "list" = none
  n_max : mg "max" = none
  n_min : mg "min" = none
  n_range : mg "range" = none
  n_sorted : mg "sorted" = none
  n_str : mg "str" = none
  n_tuple : mg "tuple" = none
  n_zip : mg "zip" = none
  t_BOTH : Tok
  g_BOTH : mg "BOTH" = some (.int 0 t_BOTH)
  t_FACTOR : Tok
  g_FACTOR : mg "FACTOR" = some (.int 65599 t_FACTOR)
  t_FIRST_MENDED : Tok
  g_FIRST_MENDED : mg "FIRST_MENDED" = some (.int 1 t_FIRST_MENDED)
  t_NEITHER : Tok
  g_NEITHER : mg "NEITHER" = some (.int 3 t_NEITHER)
  t_ROUND : Tok
  g_ROUND : mg "ROUND" = some (.int 2147483647 t_ROUND)
  t_SECOND_MENDED : Tok
  g_SECOND_MENDED : mg "SECOND_MENDED" = some (.int 2 t_SECOND_MENDED)
  a_is_number : Addr
  d_is_number : FuncData
  F_is_number : L2.Fun K "is_number" "is_number" s_is_number a_is_number d_is_number
  m_is_number : mg "is_number" = some (.ref a_is_number)
  b_is_number : Binds K d_is_number ["one"] []
  a_is_content : Addr
  d_is_content : FuncData
  F_is_content : L2.Fun K "is_content" "is_content" s_is_content a_is_content d_is_content
  m_is_content : mg "is_content" = some (.ref a_is_content)
  b_is_content : Binds K d_is_content ["one"] []
  a_sum_of : Addr
  d_sum_of : FuncData
  F_sum_of : L2.Fun K "sum_of" "sum_of" s_sum_of a_sum_of d_sum_of
  m_sum_of : mg "sum_of" = some (.ref a_sum_of)
  b_sum_of : Binds K d_sum_of ["spot", "content"] []
  a_is_right : Addr
  d_is_right : FuncData
  F_is_right : L2.Fun K "is_right" "is_right" s_is_right a_is_right d_is_right
  m_is_right : mg "is_right" = some (.ref a_is_right)
  b_is_right : Binds K d_is_right ["spot", "cell"] []
  a_are_whole : Addr
  d_are_whole : FuncData
  F_are_whole : L2.Fun K "are_whole" "are_whole" s_are_whole a_are_whole d_are_whole
  m_are_whole : mg "are_whole" = some (.ref a_are_whole)
  b_are_whole : Binds K d_are_whole ["spot", "cells", "content"] []
  a_fate_of : Addr
  d_fate_of : FuncData
  F_fate_of : L2.Fun K "fate_of" "fate_of" s_fate_of a_fate_of d_fate_of
  m_fate_of : mg "fate_of" = some (.ref a_fate_of)
  b_fate_of : Binds K d_fate_of ["spot", "cells", "content"] []
  a_fates_of : Addr
  d_fates_of : FuncData
  F_fates_of : L2.Fun K "fates_of" "fates_of" s_fates_of a_fates_of d_fates_of
  m_fates_of : mg "fates_of" = some (.ref a_fates_of)
  b_fates_of : Binds K d_fates_of ["ahead", "spots"] []
  a_is_paper : Addr
  d_is_paper : FuncData
  F_is_paper : L2.Fun K "is_paper" "is_paper" s_is_paper a_is_paper d_is_paper
  m_is_paper : mg "is_paper" = some (.ref a_is_paper)
  b_is_paper : Binds K d_is_paper ["one"] []
  a_are_same : Addr
  d_are_same : FuncData
  F_are_same : L2.Fun K "are_same" "are_same" s_are_same a_are_same d_are_same
  m_are_same : mg "are_same" = some (.ref a_are_same)
  b_are_same : Binds K d_are_same ["one", "other"] []
  a_cells_due : Addr
  d_cells_due : FuncData
  F_cells_due : L2.Fun K "cells_due" "cells_due" s_cells_due a_cells_due d_cells_due
  m_cells_due : mg "cells_due" = some (.ref a_cells_due)
  b_cells_due : Binds K d_cells_due ["ahead", "fates"] []
  a_mend_holds : Addr
  d_mend_holds : FuncData
  F_mend_holds : L2.Fun K "mend_holds" "mend_holds" s_mend_holds a_mend_holds d_mend_holds
  m_mend_holds : mg "mend_holds" = some (.ref a_mend_holds)
  b_mend_holds : Binds K d_mend_holds ["paper", "ahead", "behind", "spots"] []
  a__law_mixed : Addr
  d__law_mixed : FuncData
  F__law_mixed : L2.Fun K "_law_mixed" "_law_mixed" s__law_mixed a__law_mixed d__law_mixed
  m__law_mixed : mg "_law_mixed" = some (.ref a__law_mixed)
  b__law_mixed : Binds K d__law_mixed ["_law_cell_here", "_law_k"] []
  a__law_draws : Addr
  d__law_draws : FuncData
  F__law_draws : L2.Fun K "_law_draws" "_law_draws" s__law_draws a__law_draws d__law_draws
  m__law_draws : mg "_law_draws" = some (.ref a__law_draws)
  b__law_draws : Binds K d__law_draws ["_law_script"] []
  a__law_next : Addr
  d__law_next : FuncData
  F__law_next : L2.Fun K "_law_next" "_law_next" s__law_next a__law_next d__law_next
  m__law_next : mg "_law_next" = some (.ref a__law_next)
  b__law_next : Binds K d__law_next ["_law_drawn"] []
  a__law_sum : Addr
  d__law_sum : FuncData
  F__law_sum : L2.Fun K "_law_sum" "_law_sum" s__law_sum a__law_sum d__law_sum
  m__law_sum : mg "_law_sum" = some (.ref a__law_sum)
  b__law_sum : Binds K d__law_sum ["_law_spot", "_law_content"] []
  a__law_heads : Addr
  d__law_heads : FuncData
  F__law_heads : L2.Fun K "_law_heads" "_law_heads" s__law_heads a__law_heads d__law_heads
  m__law_heads : mg "_law_heads" = some (.ref a__law_heads)
  b__law_heads : Binds K d__law_heads ["_law_root", "_law_many"] []
  a__law_contents : Addr
  d__law_contents : FuncData
  F__law_contents : L2.Fun K "_law_contents" "_law_contents" s__law_contents a__law_contents d__law_contents
  m__law_contents : mg "_law_contents" = some (.ref a__law_contents)
  b__law_contents : Binds K d__law_contents ["_law_heads_here", "_law_spot"] []
  a__law_cell : Addr
  d__law_cell : FuncData
  F__law_cell : L2.Fun K "_law_cell" "_law_cell" s__law_cell a__law_cell d__law_cell
  m__law_cell : mg "_law_cell" = some (.ref a__law_cell)
  b__law_cell : Binds K d__law_cell ["_law_spot", "_law_number", "_law_contents_here"] []
  a__law_is_right : Addr
  d__law_is_right : FuncData
  F__law_is_right : L2.Fun K "_law_is_right" "_law_is_right" s__law_is_right a__law_is_right d__law_is_right
  m__law_is_right : mg "_law_is_right" = some (.ref a__law_is_right)
  b__law_is_right : Binds K d__law_is_right ["_law_spot", "_law_cell_here"] []
  a__law_fate : Addr
  d__law_fate : FuncData
  F__law_fate : L2.Fun K "_law_fate" "_law_fate" s__law_fate a__law_fate d__law_fate
  m__law_fate : mg "_law_fate" = some (.ref a__law_fate)
  b__law_fate : Binds K d__law_fate ["_law_spot", "_law_first", "_law_second", "_law_content"] []
  a__law_spots : Addr
  d__law_spots : FuncData
  F__law_spots : L2.Fun K "_law_spots" "_law_spots" s__law_spots a__law_spots d__law_spots
  m__law_spots : mg "_law_spots" = some (.ref a__law_spots)
  b__law_spots : Binds K d__law_spots ["_law_drawn", "_law_heads_here", "_law_many"] []
  a__law_due : Addr
  d__law_due : FuncData
  F__law_due : L2.Fun K "_law_due" "_law_due" s__law_due a__law_due d__law_due
  m__law_due : mg "_law_due" = some (.ref a__law_due)
  b__law_due : Binds K d__law_due ["_law_cells", "_law_spots_here"] []
  a__law_row_bent : Addr
  d__law_row_bent : FuncData
  F__law_row_bent : L2.Fun K "_law_row_bent" "_law_row_bent" s__law_row_bent a__law_row_bent d__law_row_bent
  m__law_row_bent : mg "_law_row_bent" = some (.ref a__law_row_bent)
  b__law_row_bent : Binds K d__law_row_bent ["_law_row", "_law_number"] []
  a__law_paper_bent : Addr
  d__law_paper_bent : FuncData
  F__law_paper_bent : L2.Fun K "_law_paper_bent" "_law_paper_bent" s__law_paper_bent a__law_paper_bent d__law_paper_bent
  m__law_paper_bent : mg "_law_paper_bent" = some (.ref a__law_paper_bent)
  b__law_paper_bent : Binds K d__law_paper_bent ["_law_paper", "_law_number"] []
  a__law_one_for_true : Addr
  d__law_one_for_true : FuncData
  F__law_one_for_true : L2.Fun K "_law_one_for_true" "_law_one_for_true" s__law_one_for_true a__law_one_for_true d__law_one_for_true
  m__law_one_for_true : mg "_law_one_for_true" = some (.ref a__law_one_for_true)
  b__law_one_for_true : Binds K d__law_one_for_true ["_law_cell_here"] []
  a__law_cells_bent : Addr
  d__law_cells_bent : FuncData
  F__law_cells_bent : L2.Fun K "_law_cells_bent" "_law_cells_bent" s__law_cells_bent a__law_cells_bent d__law_cells_bent
  m__law_cells_bent : mg "_law_cells_bent" = some (.ref a__law_cells_bent)
  b__law_cells_bent : Binds K d__law_cells_bent ["_law_cells", "_law_heads_here", "_law_number"] []
  a__law_like : Addr
  d__law_like : FuncData
  F__law_like : L2.Fun K "_law_like" "_law_like" s__law_like a__law_like d__law_like
  m__law_like : mg "_law_like" = some (.ref a__law_like)
  b__law_like : Binds K d__law_like ["_law_one", "_law_other"] []
  a_law : Addr
  d_law : FuncData
  F_law : L2.Fun K "law" "law" s_law a_law d_law
  m_law : mg "law" = some (.ref a_law)
  b_law : Binds K d_law ["_law_script"] []
section
variable {P : Program} {w : World} {K : PySem.W.Frag} {mg : Str → Option Value} {base : Heap}
theorem q_is_number (T : Top K mg) {cdv : Value} {A : Around} {outer : List Env} {s : Shared} {H : Hp} {E : XK} (hr : Room 0 (A.deeper (envOfC "is_number" (defScope s_is_number) s.heap.objs.size T.a_is_number cdv))) : QSs (cxOf CX0 P w K mg base N_is_number "is_number" (defScope s_is_number) T.a_is_number cdv A outer s H E).nox (defBody s_is_number) r_is_number :=
  (qss_one (qs_ret (qe_and (qe_callB call_isi l_isi rfl T.n_isinstance (by decide +kernel) (qa_cons (qv 0) (qa_cons (qe_ty rfl T.n_int (by decide +kernel)) qa_nil))) (qe_one (qe_not (qe_callB call_isi l_isi rfl T.n_isinstance (by decide +kernel) (qa_cons (qv 0) (qa_cons (qe_ty rfl T.n_bool (by decide +kernel)) qa_nil))))))))
theorem ok_is_number (T : Top K mg) : FnOk P w K mg base CX0 1 T.a_is_number T.d_is_number ["one"] (spD K C_is_number) := okD T.F_is_number sc_is_number l_is_number fun cdv A outer s H E hr => ⟨r_is_number, q_is_number T hr, m_is_number⟩
theorem q_sum_of (T : Top K mg) {cdv : Value} {A : Around} {outer : List Env} {s : Shared} {H : Hp} {E : XK} (hr : Room 0 (A.deeper (envOfC "sum_of" (defScope s_sum_of) s.heap.objs.size T.a_sum_of cdv))) : QSs (cxOf CX0 P w K mg base N_sum_of "sum_of" (defScope s_sum_of) T.a_sum_of cdv A outer s H E).nox (defBody s_sum_of) r_sum_of :=
  (qss_cons (qs_set (i := 2) sc_sum_of.nd rfl (.inl rfl) (qe_addF (qv 0) qe_int)) (qss_cons (qs_for PassesOwn.never rfl (qi_seq (qv 1)) (qg_name (i := 3) sc_sum_of.nd rfl (.inl rfl)) (qss_one (qs_set (i := 2) sc_sum_of.nd rfl (.inl rfl) (qe_op op_mod l_mod (qe_addF (qe_addF (qe_op op_mulW l_mulI (qv 2) (qe_globI rfl T.g_FACTOR)) (qv 3)) qe_int) (qe_globI rfl T.g_ROUND))))) (qss_one (qs_ret (qv 2)))))
theorem ok_sum_of (T : Top K mg) : FnOk P w K mg base CX0 1 T.a_sum_of T.d_sum_of ["spot", "content"] (spD K C_sum_of) := okD T.F_sum_of sc_sum_of l_sum_of fun cdv A outer s H E hr => ⟨r_sum_of, q_sum_of T hr, m_sum_of⟩
theorem q_cells_due (T : Top K mg) {cdv : Value} {A : Around} {outer : List Env} {s : Shared} {H : Hp} {E : XK} (hr : Room 0 (A.deeper (envOfC "cells_due" (defScope s_cells_due) s.heap.objs.size T.a_cells_due cdv))) : QSs (cxOf CX0 P w K mg base N_cells_due "cells_due" (defScope s_cells_due) T.a_cells_due cdv A outer s H E).nox (defBody s_cells_due) r_cells_due :=
  (qss_cons (qs_fzn (i := 2) (qs_setLc (i := 2) (own := [("cells", 5)]) rfl sc_cells_due.nd rfl rfl (sw_true rfl rfl rfl (by decide +kernel)) (qi_seq (qv 0)) (blkOk_by (N := N_cells_due) (sc := defScope s_cells_due) (by decide +kernel)) (fun _ _ _ _ _ => (qc_name (i := 5) (by decide) sc_cells_due.nd rfl (.inl rfl))) (fun _ _ _ _ _ => qts_nil) (fun _ _ _ _ _ => (qe_callTy call_list_of l_lstC rfl T.n_list (by decide +kernel) (qa_cons (qv 5) qa_nil))))) (qss_cons (qs_for PassesOwn.never rfl (qi_seq (qv 1)) (qg_tup rfl (qgs_cons (qg_name (i := 3) sc_cells_due.nd rfl (.inl rfl)) (qgs_cons (qg_name (i := 4) sc_cells_due.nd rfl (.inl rfl)) qgs_nil))) (qss_cons (qs_if (qt_cmp (op_eqA hr.units) l_eq (qv 4) (qe_globI rfl T.g_FIRST_MENDED) (nomark _)) (qss_one (qs_asg (qe_ix (hu_of hr) (qe_ix (hu_of hr) (qv 0) qe_int) (qv 3)) (qg_sub (qe_ix (hu_of hr) (qv 2) qe_int) (qv 3) (set_any (hu_of hr)) l_set))) qss_nil) (qss_one (qs_if (qt_cmp (op_eqA hr.units) l_eq (qv 4) (qe_globI rfl T.g_SECOND_MENDED) (nomark _)) (qss_one (qs_asg (qe_ix (hu_of hr) (qe_ix (hu_of hr) (qv 0) qe_int) (qv 3)) (qg_sub (qe_ix (hu_of hr) (qv 2) qe_int) (qv 3) (set_any (hu_of hr)) l_set))) qss_nil)))) (qss_one (qs_ret (qv 2)))))
theorem ok_cells_due (T : Top K mg) : FnOk P w K mg base CX0 1 T.a_cells_due T.d_cells_due ["ahead", "fates"] (spD K C_cells_due) := okD T.F_cells_due sc_cells_due l_cells_due fun cdv A outer s H E hr => ⟨r_cells_due, q_cells_due T hr, m_cells_due⟩
theorem q__law_mixed (T : Top K mg) {cdv : Value} {A : Around} {outer : List Env} {s : Shared} {H : Hp} {E : XK} (hr : Room 0 (A.deeper (envOfC "_law_mixed" (defScope s__law_mixed) s.heap.objs.size T.a__law_mixed cdv))) : QSs (cxOf CX0 P w K mg base N__law_mixed "_law_mixed" (defScope s__law_mixed) T.a__law_mixed cdv A outer s H E).nox (defBody s__law_mixed) r__law_mixed :=
  (qss_cons (qs_set (i := 2) sc__law_mixed.nd rfl (.inl rfl) (qe_op op_mod l_mod (qe_addF (qe_addF (qe_op op_mulW l_mulI (qe_op op_mod l_mod (qv 0) qe_int) qe_int) (qe_op op_mulW l_mulI (qe_op op_mulW l_mulI qe_int (qv 1)) (qv 1))) qe_int) qe_int)) (qss_one (qs_ret (qe_op op_mod l_mod (qe_op op_mulW l_mulI (qv 2) (qv 2)) qe_int))))
theorem ok__law_mixed (T : Top K mg) : FnOk P w K mg base CX0 1 T.a__law_mixed T.d__law_mixed ["_law_cell_here", "_law_k"] (spD K C__law_mixed) := okD T.F__law_mixed sc__law_mixed l__law_mixed fun cdv A outer s H E hr => ⟨r__law_mixed, q__law_mixed T hr, m__law_mixed⟩
theorem q__law_next (T : Top K mg) {cdv : Value} {A : Around} {outer : List Env} {s : Shared} {H : Hp} {E : XK} (hr : Room 0 (A.deeper (envOfC "_law_next" (defScope s__law_next) s.heap.objs.size T.a__law_next cdv))) : QSs (cxOf CX0 P w K mg base N__law_next "_law_next" (defScope s__law_next) T.a__law_next cdv A outer s H E).nox (defBody s__law_next) r__law_next :=
  (qss_cons (qs_if (qt_cmp (op_eqA hr.units) l_eq (qv 0) (qe_lstF qa_nil) (nomark _)) (qss_one (qs_ret qe_int)) qss_nil) (qss_one (qs_ret (qe_bm PySem.F.plainAttrs_list PySem.F.slot_list_pop PySem.F.type_list_pop mt_popAt l_popAt (qv 0) (qa_cons qe_int qa_nil)))))
theorem ok__law_next (T : Top K mg) : FnOk P w K mg base CX0 1 T.a__law_next T.d__law_next ["_law_drawn"] (spD K C__law_next) := okD T.F__law_next sc__law_next l__law_next fun cdv A outer s H E hr => ⟨r__law_next, q__law_next T hr, m__law_next⟩
theorem q__law_sum (T : Top K mg) {cdv : Value} {A : Around} {outer : List Env} {s : Shared} {H : Hp} {E : XK} (hr : Room 0 (A.deeper (envOfC "_law_sum" (defScope s__law_sum) s.heap.objs.size T.a__law_sum cdv))) : QSs (cxOf CX0 P w K mg base N__law_sum "_law_sum" (defScope s__law_sum) T.a__law_sum cdv A outer s H E).nox (defBody s__law_sum) r__law_sum :=
  (qss_cons (qs_set (i := 2) sc__law_sum.nd rfl (.inl rfl) (qe_addF (qv 0) qe_int)) (qss_cons (qs_for PassesOwn.never rfl (qi_seq (qv 1)) (qg_name (i := 3) sc__law_sum.nd rfl (.inl rfl)) (qss_one (qs_set (i := 2) sc__law_sum.nd rfl (.inl rfl) (qe_op op_mod l_mod (qe_addF (qe_addF (qe_op op_mulW l_mulI (qv 2) qe_int) (qv 3)) qe_int) qe_int)))) (qss_one (qs_ret (qv 2)))))
theorem ok__law_sum (T : Top K mg) : FnOk P w K mg base CX0 1 T.a__law_sum T.d__law_sum ["_law_spot", "_law_content"] (spD K C__law_sum) := okD T.F__law_sum sc__law_sum l__law_sum fun cdv A outer s H E hr => ⟨r__law_sum, q__law_sum T hr, m__law_sum⟩
theorem q__law_heads (T : Top K mg) {cdv : Value} {A : Around} {outer : List Env} {s : Shared} {H : Hp} {E : XK} (hr : Room 0 (A.deeper (envOfC "_law_heads" (defScope s__law_heads) s.heap.objs.size T.a__law_heads cdv))) : QSs (cxOf CX0 P w K mg base N__law_heads "_law_heads" (defScope s__law_heads) T.a__law_heads cdv A outer s H E).nox (defBody s__law_heads) r__law_heads :=
  (qss_cons (qs_set (i := 2) sc__law_heads.nd rfl (.inl rfl) (qe_op op_repT l_repT (qe_tup (qa_cons qe_int qa_nil)) (qe_op op_sub l_sub (qv 1) qe_int))) (qss_cons (qs_set (i := 3) sc__law_heads.nd rfl (.inl rfl) (qe_disp1 (qv 0) (qe_lstF (qa_cons (qe_tup (qa_cons (qe_addF qe_int (qv 0)) (qa_cons qe_int qa_nil))) (qa_cons (qe_tup (qa_cons (qe_addF qe_int (qv 0)) (qa_cons qe_int qa_nil))) (qa_cons (qe_tup (qa_cons (qe_addF qe_int (qv 0)) (qa_cons qe_int qa_nil))) qa_nil)))))) (qss_cons (qs_asg (qe_lstF (qa_cons (qe_addF (qe_tup (qa_cons (qe_addF qe_int (qv 0)) qa_nil)) (qv 2)) (qa_cons (qe_addF (qe_tup (qa_cons (qe_addF qe_int (qv 0)) qa_nil)) (qv 2)) (qa_cons (qe_addF (qe_tup (qa_cons (qe_addF qe_int (qv 0)) (qa_cons qe_int qa_nil))) (qe_sliceF (qv 2) (qo_some qe_int) qo_none)) qa_nil)))) (qg_sub (qv 3) (qe_addF qe_int (qv 0)) (set_any (hu_of hr)) l_set)) (qss_one (qs_ret (qv 3))))))
theorem ok__law_heads (T : Top K mg) : FnOk P w K mg base CX0 1 T.a__law_heads T.d__law_heads ["_law_root", "_law_many"] (spD K C__law_heads) := okD T.F__law_heads sc__law_heads l__law_heads fun cdv A outer s H E hr => ⟨r__law_heads, q__law_heads T hr, m__law_heads⟩
theorem q__law_contents (T : Top K mg) {cdv : Value} {A : Around} {outer : List Env} {s : Shared} {H : Hp} {E : XK} (hr : Room 0 (A.deeper (envOfC "_law_contents" (defScope s__law_contents) s.heap.objs.size T.a__law_contents cdv))) : QSs (cxOf CX0 P w K mg base N__law_contents "_law_contents" (defScope s__law_contents) T.a__law_contents cdv A outer s H E).nox (defBody s__law_contents) r__law_contents :=
  (qss_cons (qs_if (qt_cmp (op_inA (hu_of hr)) l_in (qv 1) (qv 0) rfl) (qss_one (qs_ret (qe_ix (hu_of hr) (qv 0) (qv 1)))) qss_nil) (qss_one (qs_ret (qe_lstF (qa_cons (qe_tup (qa_cons qe_int (qa_cons qe_int (qa_cons qe_int qa_nil)))) (qa_cons (qe_tup qa_nil) (qa_cons (qe_tup (qa_cons qe_int (qa_cons qe_int (qa_cons qe_int qa_nil)))) qa_nil)))))))
theorem ok__law_contents (T : Top K mg) : FnOk P w K mg base CX0 1 T.a__law_contents T.d__law_contents ["_law_heads_here", "_law_spot"] (spD K C__law_contents) := okD T.F__law_contents sc__law_contents l__law_contents fun cdv A outer s H E hr => ⟨r__law_contents, q__law_contents T hr, m__law_contents⟩
theorem q__law_row_bent (T : Top K mg) {cdv : Value} {A : Around} {outer : List Env} {s : Shared} {H : Hp} {E : XK} (hr : Room 0 (A.deeper (envOfC "_law_row_bent" (defScope s__law_row_bent) s.heap.objs.size T.a__law_row_bent cdv))) : QSs (cxOf CX0 P w K mg base N__law_row_bent "_law_row_bent" (defScope s__law_row_bent) T.a__law_row_bent cdv A outer s H E).nox (defBody s__law_row_bent) r__law_row_bent :=
  (qss_cons (qs_asg (qv 0) (qg_tup rfl (qgs_cons (qg_name (i := 2) sc__law_row_bent.nd rfl (.inl rfl)) (qgs_cons (qg_name (i := 3) sc__law_row_bent.nd rfl (.inl rfl)) qgs_nil)))) (qss_cons (qs_set (i := 4) sc__law_row_bent.nd rfl (.inl rfl) (qe_tup (qa_cons (qv 2) (qa_cons (qe_op op_mod l_mod (qe_addF (qe_addF (qv 3) qe_int) (qe_op op_mod l_mod (qe_op op_fdivW l_div (qv 1) qe_int) qe_int)) qe_int) qa_nil)))) (qss_cons (qs_set (i := 5) sc__law_row_bent.nd rfl (.inl rfl) (qe_lstF (qa_cons (qv 4) (qa_cons (qv 4) (qa_cons (qe_tup (qa_cons (qv 2) (qa_cons (qe_cmp (op_eqA hr.units) l_eq (qv 3) qe_int (nomark _)) qa_nil))) (qa_cons (qe_tup (qa_cons (qe_addF (qv 2) qe_int) (qa_cons (qv 3) qa_nil))) (qa_cons (qe_tup (qa_cons (qv 2) (qa_cons (qv 3) (qa_cons qe_int qa_nil)))) qa_nil))))))) (qss_cons (qs_set (i := 5) sc__law_row_bent.nd rfl (.inl rfl) (qe_addF (qv 5) (qe_lstF (qa_cons (qe_lstF (qa_cons (qv 2) (qa_cons (qv 3) qa_nil))) (qa_cons (qe_tup (qa_cons (qv 2) (qa_cons (qe_callTy call_str_int l_strI rfl T.n_str (by decide +kernel) (qa_cons (qv 3) qa_nil)) qa_nil))) qa_nil))))) (qss_one (qs_ret (qe_ix (hu_of hr) (qe_addF (qv 5) (qe_lstF (qa_cons (qe_tup (qa_cons (qe_cmp (op_eqA hr.units) l_eq (qv 2) qe_int (nomark _)) (qa_cons (qv 3) qa_nil))) qa_nil))) (qe_op op_mod l_mod (qv 1) qe_int))))))))
theorem ok__law_row_bent (T : Top K mg) : FnOk P w K mg base CX0 1 T.a__law_row_bent T.d__law_row_bent ["_law_row", "_law_number"] (spD K C__law_row_bent) := okD T.F__law_row_bent sc__law_row_bent l__law_row_bent fun cdv A outer s H E hr => ⟨r__law_row_bent, q__law_row_bent T hr, m__law_row_bent⟩
theorem q__law_one_for_true (T : Top K mg) {cdv : Value} {A : Around} {outer : List Env} {s : Shared} {H : Hp} {E : XK} (hr : Room 0 (A.deeper (envOfC "_law_one_for_true" (defScope s__law_one_for_true) s.heap.objs.size T.a__law_one_for_true cdv))) : QSs (cxOf CX0 P w K mg base N__law_one_for_true "_law_one_for_true" (defScope s__law_one_for_true) T.a__law_one_for_true cdv A outer s H E).nox (defBody s__law_one_for_true) r__law_one_for_true :=
  (qss_cons (qs_if (QW.t (qw_and (qt_val (qe_callB call_isi l_isi rfl T.n_isinstance (by decide +kernel) (qa_cons (qv 0) (qa_cons (qe_ty rfl T.n_tuple (by decide +kernel)) qa_nil)))) (qw_and (qt_cmp (op_eqA hr.units) l_eq (qe_callB call_lenA l_len rfl T.n_len (by decide +kernel) (qa_cons (qv 0) qa_nil)) qe_int (nomark _)) (qw_and1 (qt_val (qe_callB call_isi l_isi rfl T.n_isinstance (by decide +kernel) (qa_cons (qe_ix (hu_of hr) (qv 0) qe_int) (qa_cons (qe_ty rfl T.n_tuple (by decide +kernel)) qa_nil)))))))) (qss_cons (qs_fzn (i := 1) (qs_setLc (i := 1) (own := [("_law_one", 2)]) rfl sc__law_one_for_true.nd rfl rfl (sw_true rfl rfl rfl (by decide +kernel)) (qi_seq (qe_ix (hu_of hr) (qv 0) qe_int)) (blkOk_by (N := N__law_one_for_true) (sc := defScope s__law_one_for_true) (by decide +kernel)) (fun _ _ _ _ _ => (qc_name (i := 2) (by decide) sc__law_one_for_true.nd rfl (.inl rfl))) (fun _ _ _ _ _ => qts_nil) (fun _ _ _ _ _ => (qe_ix (hu_of hr) (qe_lstF (qa_cons (qv 2) (qa_cons qe_bl qa_nil))) (qe_callTy call_intA l_intC rfl T.n_int (by decide +kernel) (qa_cons (qe_cmp (op_eqA hr.units) l_eq (qv 2) qe_int (nomark _)) qa_nil)))))) (qss_one (qs_ret (qe_tup (qa_cons (qe_ix (hu_of hr) (qv 0) qe_int) (qa_cons (qe_callTy call_tuple_of l_tupC rfl T.n_tuple (by decide +kernel) (qa_cons (qv 1) qa_nil)) qa_nil)))))) qss_nil) (qss_one (qs_ret (qv 0))))
theorem ok__law_one_for_true (T : Top K mg) : FnOk P w K mg base CX0 1 T.a__law_one_for_true T.d__law_one_for_true ["_law_cell_here"] (spD K C__law_one_for_true) := okD T.F__law_one_for_true sc__law_one_for_true l__law_one_for_true fun cdv A outer s H E hr => ⟨r__law_one_for_true, q__law_one_for_true T hr, m__law_one_for_true⟩
theorem q_is_content (T : Top K mg) {cdv : Value} {A : Around} {outer : List Env} {s : Shared} {H : Hp} {E : XK} (hr : Room 1 (A.deeper (envOfC "is_content" (defScope s_is_content) s.heap.objs.size T.a_is_content cdv))) : QSs (cxOf CX0 P w K mg base N_is_content "is_content" (defScope s_is_content) T.a_is_content cdv A outer s H E).nox (defBody s_is_content) r_is_content :=
  (qss_one (qs_ret (qe_and (qe_callB call_isi l_isi rfl T.n_isinstance (by decide +kernel) (qa_cons (qv 0) (qa_cons (qe_ty rfl T.n_tuple (by decide +kernel)) qa_nil))) (qe_one (qe_callB (cr_all rfl) l_all rfl T.n_all (by decide +kernel) (qa_cons (qe_fz (qe_lc (own := [("number", 1)]) rfl sc_is_content.nd (qi_seq (qv 0)) (blkOk_by (N := N_is_content) (sc := defScope s_is_content) (by decide +kernel)) (fun _ _ _ _ _ => (qc_name (i := 1) (by decide) sc_is_content.nd rfl (.inl rfl))) (fun _ _ _ _ _ => qts_nil) (fun _ _ _ _ _ => (qe_and (qe_call (ok_is_number T) hr rfl T.m_is_number T.F_is_number.kp T.b_is_number (qa_cons (qv 1) qa_nil)) (qe_one (qe_cmp op_ge l_ge (qv 1) qe_int (nomark _))))))) qa_nil))))))
theorem ok_is_content (T : Top K mg) : FnOk P w K mg base CX0 2 T.a_is_content T.d_is_content ["one"] (spD K C_is_content) := okD T.F_is_content sc_is_content l_is_content fun cdv A outer s H E hr => ⟨r_is_content, q_is_content T hr, m_is_content⟩
theorem q_is_paper (T : Top K mg) {cdv : Value} {A : Around} {outer : List Env} {s : Shared} {H : Hp} {E : XK} (hr : Room 1 (A.deeper (envOfC "is_paper" (defScope s_is_paper) s.heap.objs.size T.a_is_paper cdv))) : QSs (cxOf CX0 P w K mg base N_is_paper "is_paper" (defScope s_is_paper) T.a_is_paper cdv A outer s H E).nox (defBody s_is_paper) r_is_paper :=
  (qss_cons (qs_if (qt_not (qt_val (qe_callB call_isi l_isi rfl T.n_isinstance (by decide +kernel) (qa_cons (qv 0) (qa_cons (qe_ty rfl T.n_list (by decide +kernel)) qa_nil))))) (qss_one (qs_ret qe_bl)) qss_nil) (qss_cons (qs_for PassesOwn.never rfl (qi_seq (qv 0)) (qg_name (i := 1) sc_is_paper.nd rfl (.inl rfl)) (qss_one (qs_if (QW.t (qw_or (qt_not (qt_val (qe_callB call_isi l_isi rfl T.n_isinstance (by decide +kernel) (qa_cons (qv 1) (qa_cons (qe_ty rfl T.n_tuple (by decide +kernel)) qa_nil))))) (qw_or (qt_cmp (op_neA hr.units) l_ne (qe_callB call_lenA l_len rfl T.n_len (by decide +kernel) (qa_cons (qv 1) qa_nil)) qe_int (nomark _)) (qw_or (qt_not (qt_val (qe_call (ok_is_number T) hr rfl T.m_is_number T.F_is_number.kp T.b_is_number (qa_cons (qe_ix (hu_of hr) (qv 1) qe_int) qa_nil)))) (qw_or1 (qt_not (qt_val (qe_call (ok_is_number T) hr rfl T.m_is_number T.F_is_number.kp T.b_is_number (qa_cons (qe_ix (hu_of hr) (qv 1) qe_int) qa_nil))))))))) (qss_one (qs_ret qe_bl)) qss_nil))) (qss_one (qs_ret qe_bl))))
theorem ok_is_paper (T : Top K mg) : FnOk P w K mg base CX0 2 T.a_is_paper T.d_is_paper ["one"] (spD K C_is_paper) := okD T.F_is_paper sc_is_paper l_is_paper fun cdv A outer s H E hr => ⟨r_is_paper, q_is_paper T hr, m_is_paper⟩
theorem q__law_draws (T : Top K mg) {cdv : Value} {A : Around} {outer : List Env} {s : Shared} {H : Hp} {E : XK} (hr : Room 1 (A.deeper (envOfC "_law_draws" (defScope s__law_draws) s.heap.objs.size T.a__law_draws cdv))) : QSs (cxOf CX0 P w K mg base N__law_draws "_law_draws" (defScope s__law_draws) T.a__law_draws cdv A outer s H E).nox (defBody s__law_draws) r__law_draws :=
  (qss_cons (qs_set (i := 1) sc__law_draws.nd rfl (.inl rfl) (qe_lst qa_nil)) (qss_cons (qs_for PassesOwn.never rfl (qi_range1 rfl T.n_range (qa_cons (qe_callB (call_min2 rfl) l_min2 rfl T.n_min (by decide +kernel) (qa_cons (qe_callB call_lenA l_len rfl T.n_len (by decide +kernel) (qa_cons (qv 0) qa_nil)) (qa_cons qe_int qa_nil))) qa_nil)) (qg_name (i := 2) sc__law_draws.nd rfl (.inl rfl)) (qss_cons (qs_set (i := 3) sc__law_draws.nd rfl (.inl rfl) (qe_callB call_abs l_abs rfl T.n_abs (by decide +kernel) (qa_cons (qe_ix (hu_of hr) (qv 0) (qv 2)) qa_nil))) (qss_cons (qs_if (qt_cmp op_lt l_lt (qv 3) (qe_op op_pow l_pow qe_int qe_int) (nomark _)) (qss_one (qs_for PassesOwn.never rfl (qi_range1 rfl T.n_range (qa_cons qe_int qa_nil)) (qg_name (i := 4) sc__law_draws.nd rfl (.inl rfl)) (qss_one (qs_expr (qe_bm PySem.F.plainAttrs_list PySem.F.slot_list_append PySem.F.type_list_append mt_append l_append (qv 1) (qa_cons (qe_call (ok__law_mixed T) hr rfl T.m__law_mixed T.F__law_mixed.kp T.b__law_mixed (qa_cons (qe_call (ok__law_mixed T) hr rfl T.m__law_mixed T.F__law_mixed.kp T.b__law_mixed (qa_cons (qv 3) (qa_cons (qe_addF (qe_op op_mulW l_mulI qe_int (qv 4)) qe_int) qa_nil))) (qa_cons (qe_addF (qe_addF (qv 4) (qv 2)) qe_int) qa_nil))) qa_nil)))))) qss_nil) (qss_cons (qs_while PassesOwn.never (QW.t (qw_and (qt_cmp op_ge l_ge (qv 3) (qe_op op_pow l_pow qe_int qe_int) (nomark _)) (qw_and1 (qt_cmp op_lt l_lt (qe_callB call_lenA l_len rfl T.n_len (by decide +kernel) (qa_cons (qv 1) qa_nil)) qe_int (nomark _))))) (qss_cons (qs_expr (qe_bm PySem.F.plainAttrs_list PySem.F.slot_list_append PySem.F.type_list_append mt_append l_append (qv 1) (qa_cons (qe_op op_mod l_mod (qv 3) qe_int) qa_nil))) (qss_one (qs_set (i := 3) sc__law_draws.nd rfl (.inl rfl) (qe_op op_fdivW l_div (qv 3) qe_int))))) (qss_one (qs_if (qt_cmp op_ge l_ge (qv 3) qe_int (nomark _)) (qss_one (qs_expr (qe_bm PySem.F.plainAttrs_list PySem.F.slot_list_append PySem.F.type_list_append mt_append l_append (qv 1) (qa_cons (qe_op op_mod l_mod (qv 3) qe_int) qa_nil)))) qss_nil)))))) (qss_one (qs_ret (qv 1)))))
theorem ok__law_draws (T : Top K mg) : FnOk P w K mg base CX0 2 T.a__law_draws T.d__law_draws ["_law_script"] (spD K C__law_draws) := okD T.F__law_draws sc__law_draws l__law_draws fun cdv A outer s H E hr => ⟨r__law_draws, q__law_draws T hr, m__law_draws⟩
theorem q__law_cell (T : Top K mg) {cdv : Value} {A : Around} {outer : List Env} {s : Shared} {H : Hp} {E : XK} (hr : Room 1 (A.deeper (envOfC "_law_cell" (defScope s__law_cell) s.heap.objs.size T.a__law_cell cdv))) : QSs (cxOf CX0 P w K mg base N__law_cell "_law_cell" (defScope s__law_cell) T.a__law_cell cdv A outer s H E).nox (defBody s__law_cell) r__law_cell :=
  (qss_cons (qs_set (i := 3) sc__law_cell.nd rfl (.inl rfl) (qe_ix (hu_of hr) (qv 2) (qe_op op_mod l_mod (qe_op op_fdivW l_div (qv 1) qe_int) qe_int))) (qss_cons (qs_set (i := 4) sc__law_cell.nd rfl (.inl rfl) (qe_tup (qa_cons (qe_call (ok__law_sum T) hr rfl T.m__law_sum T.F__law_sum.kp T.b__law_sum (qa_cons (qv 0) (qa_cons (qv 3) qa_nil))) (qa_cons (qv 3) qa_nil)))) (qss_cons (qs_set (i := 5) sc__law_cell.nd rfl (.inl rfl) (qe_ix (hu_of hr) (qe_lstF (qa_cons (qe_tup (qa_cons qe_int (qa_cons qe_int (qa_cons qe_int qa_nil)))) (qa_cons qe_str (qa_cons (qe_tup qa_nil) (qa_cons (qe_tup (qa_cons qe_int (qa_cons (qe_tup (qa_cons qe_bl qa_nil)) qa_nil))) qa_nil))))) (qe_op op_mod l_mod (qe_op op_fdivW l_div (qv 1) qe_int) qe_int))) (qss_one (qs_ret (qe_ix (hu_of hr) (qe_lstF (qa_cons (qv 4) (qa_cons (qv 4) (qa_cons (qv 4) (qa_cons (qv 4) (qa_cons qe_non (qa_cons qe_int (qa_cons (qe_tup (qa_cons (qe_addF (qe_ix (hu_of hr) (qv 4) qe_int) qe_int) (qa_cons (qv 3) qa_nil))) (qa_cons (qv 5) qa_nil))))))))) (qe_op op_mod l_mod (qv 1) qe_int)))))))
theorem ok__law_cell (T : Top K mg) : FnOk P w K mg base CX0 2 T.a__law_cell T.d__law_cell ["_law_spot", "_law_number", "_law_contents_here"] (spD K C__law_cell) := okD T.F__law_cell sc__law_cell l__law_cell fun cdv A outer s H E hr => ⟨r__law_cell, q__law_cell T hr, m__law_cell⟩
theorem q__law_is_right (T : Top K mg) {cdv : Value} {A : Around} {outer : List Env} {s : Shared} {H : Hp} {E : XK} (hr : Room 1 (A.deeper (envOfC "_law_is_right" (defScope s__law_is_right) s.heap.objs.size T.a__law_is_right cdv))) : QSs (cxOf CX0 P w K mg base N__law_is_right "_law_is_right" (defScope s__law_is_right) T.a__law_is_right cdv A outer s H E).nox (defBody s__law_is_right) r__law_is_right :=
  (qss_cons (qs_if (QW.t (qw_or (qt_not (qt_val (qe_callB call_isi l_isi rfl T.n_isinstance (by decide +kernel) (qa_cons (qv 1) (qa_cons (qe_ty rfl T.n_tuple (by decide +kernel)) qa_nil))))) (qw_or1 (qt_cmp (op_neA hr.units) l_ne (qe_callB call_lenA l_len rfl T.n_len (by decide +kernel) (qa_cons (qv 1) qa_nil)) qe_int (nomark _))))) (qss_one (qs_ret qe_bl)) qss_nil) (qss_cons (qs_if (QW.t (qw_or (qt_val (qe_callB call_isi l_isi rfl T.n_isinstance (by decide +kernel) (qa_cons (qe_ix (hu_of hr) (qv 1) qe_int) (qa_cons (qe_ty rfl T.n_bool (by decide +kernel)) qa_nil)))) (qw_or1 (qt_not (qt_val (qe_callB call_isi l_isi rfl T.n_isinstance (by decide +kernel) (qa_cons (qe_ix (hu_of hr) (qv 1) qe_int) (qa_cons (qe_ty rfl T.n_int (by decide +kernel)) qa_nil)))))))) (qss_one (qs_ret qe_bl)) qss_nil) (qss_cons (qs_if (QW.t (qw_or (qt_not (qt_val (qe_callB call_isi l_isi rfl T.n_isinstance (by decide +kernel) (qa_cons (qe_ix (hu_of hr) (qv 1) qe_int) (qa_cons (qe_ty rfl T.n_tuple (by decide +kernel)) qa_nil))))) (qw_or1 (qt_cmp (op_neA hr.units) l_ne (qe_fz (qe_lc (own := [("_law_one", 2)]) rfl sc__law_is_right.nd (qi_seq (qe_ix (hu_of hr) (qv 1) qe_int)) (blkOk_by (N := N__law_is_right) (sc := defScope s__law_is_right) (by decide +kernel)) (fun _ _ _ _ _ => (qc_name (i := 2) (by decide) sc__law_is_right.nd rfl (.inl rfl))) (fun _ _ _ _ _ => (qts_one (qt_val (qe_callB call_isi l_isi rfl T.n_isinstance (by decide +kernel) (qa_cons (qv 2) (qa_cons (qe_ty rfl T.n_bool (by decide +kernel)) qa_nil)))))) (fun _ _ _ _ _ => (qv 2)))) (qe_lstF qa_nil) (nomark _))))) (qss_one (qs_ret qe_bl)) qss_nil) (qss_one (qs_ret (qe_cmp (op_eqA hr.units) l_eq (qe_ix (hu_of hr) (qv 1) qe_int) (qe_call (ok__law_sum T) hr rfl T.m__law_sum T.F__law_sum.kp T.b__law_sum (qa_cons (qv 0) (qa_cons (qe_ix (hu_of hr) (qv 1) qe_int) qa_nil))) (nomark _)))))))
theorem ok__law_is_right (T : Top K mg) : FnOk P w K mg base CX0 2 T.a__law_is_right T.d__law_is_right ["_law_spot", "_law_cell_here"] (spD K C__law_is_right) := okD T.F__law_is_right sc__law_is_right l__law_is_right fun cdv A outer s H E hr => ⟨r__law_is_right, q__law_is_right T hr, m__law_is_right⟩
theorem q__law_spots (T : Top K mg) {cdv : Value} {A : Around} {outer : List Env} {s : Shared} {H : Hp} {E : XK} (hr : Room 1 (A.deeper (envOfC "_law_spots" (defScope s__law_spots) s.heap.objs.size T.a__law_spots cdv))) : QSs (cxOf CX0 P w K mg base N__law_spots "_law_spots" (defScope s__law_spots) T.a__law_spots cdv A outer s H E).nox (defBody s__law_spots) r__law_spots :=
  (qss_cons (qs_setLc (i := 3) (own := [("_law_spot", 4)]) rfl sc__law_spots.nd rfl rfl (sw_true rfl rfl rfl (by decide +kernel)) (qi_seq (qe_sortKI rfl rfl T.n_sorted (qv 1))) (blkOk_by (N := N__law_spots) (sc := defScope s__law_spots) (by decide +kernel)) (fun _ _ _ _ _ => (qc_name (i := 4) (by decide) sc__law_spots.nd rfl (.inl rfl))) (fun _ _ _ _ _ => qts_nil) (fun _ _ _ _ _ => (qe_tup (qa_cons (qv 4) (qa_cons (qe_ix (hu_of hr) (qe_ix (hu_of hr) (qv 1) (qv 4)) qe_int) qa_nil))))) (qss_cons (qs_for PassesOwn.never rfl (qi_range2 rfl T.n_range (qa_cons qe_int (qa_cons (qv 2) qa_nil))) (qg_name (i := 4) sc__law_spots.nd rfl (.inl rfl)) (qss_cons (qs_set (i := 5) sc__law_spots.nd rfl (.inl rfl) (qe_call (ok__law_next T) hr rfl T.m__law_next T.F__law_next.kp T.b__law_next (qa_cons (qv 0) qa_nil))) (qss_one (qs_if (qt_cmp (op_neA hr.units) l_ne (qe_op op_mod l_mod (qv 5) qe_int) qe_int (nomark _)) (qss_one (qs_expr (qe_bm PySem.F.plainAttrs_list PySem.F.slot_list_append PySem.F.type_list_append mt_append l_append (qv 3) (qa_cons (qe_tup (qa_cons (qv 4) (qa_cons (qe_ix (hu_of hr) (qe_lstF (qa_cons qe_non (qa_cons (qe_tup (qa_cons qe_int (qa_cons qe_int (qa_cons qe_int qa_nil)))) (qa_cons (qe_tup qa_nil) (qa_cons (qe_tup (qa_cons qe_int (qa_cons qe_int (qa_cons qe_int qa_nil)))) qa_nil))))) (qe_op op_mod l_mod (qe_op op_fdivW l_div (qv 5) qe_int) qe_int)) qa_nil))) qa_nil)))) qss_nil)))) (qss_one (qs_ret (qe_fz (qv 3))))))
theorem ok__law_spots (T : Top K mg) : FnOk P w K mg base CX0 2 T.a__law_spots T.d__law_spots ["_law_drawn", "_law_heads_here", "_law_many"] (spD K C__law_spots) := okD T.F__law_spots sc__law_spots l__law_spots fun cdv A outer s H E hr => ⟨r__law_spots, q__law_spots T hr, m__law_spots⟩
theorem q__law_paper_bent (T : Top K mg) {cdv : Value} {A : Around} {outer : List Env} {s : Shared} {H : Hp} {E : XK} (hr : Room 1 (A.deeper (envOfC "_law_paper_bent" (defScope s__law_paper_bent) s.heap.objs.size T.a__law_paper_bent cdv))) : QSs (cxOf CX0 P w K mg base N__law_paper_bent "_law_paper_bent" (defScope s__law_paper_bent) T.a__law_paper_bent cdv A outer s H E).nox (defBody s__law_paper_bent) r__law_paper_bent :=
  (qss_cons (qs_set (i := 2) sc__law_paper_bent.nd rfl (.inl rfl) (qe_op op_mod l_mod (qe_op op_fdivW l_div (qv 1) qe_int) (qe_callB (call_max2 rfl) l_max2 rfl T.n_max (by decide +kernel) (qa_cons qe_int (qa_cons (qe_callB call_lenA l_len rfl T.n_len (by decide +kernel) (qa_cons (qv 0) qa_nil)) qa_nil))))) (qss_cons (qs_set (i := 3) sc__law_paper_bent.nd rfl (.inl rfl) (qe_op op_mod l_mod (qv 1) qe_int)) (qss_cons (qs_if (QW.t (qw_or (qt_cmp (op_eqA hr.units) l_eq (qv 0) (qe_lstF qa_nil) (nomark _)) (qw_or1 (qt_cmp (op_eqA hr.units) l_eq (qv 3) qe_int (nomark _))))) (qss_one (qs_ret (qe_ix (hu_of hr) (qe_lstF (qa_cons (qe_tup qa_nil) (qa_cons qe_non (qa_cons qe_str (qa_cons qe_newK (qa_cons qe_int (qa_cons (qe_addF (qv 0) (qe_lstF (qa_cons (qe_tup (qa_cons qe_int (qa_cons qe_int qa_nil))) qa_nil))) (qa_cons (qe_tup (qa_cons qe_int (qa_cons qe_int qa_nil))) qa_nil)))))))) (qe_op op_mod l_mod (qe_op op_fdivW l_div (qv 1) qe_int) qe_int)))) qss_nil) (qss_cons (qs_if (qt_cmp (op_eqA hr.units) l_eq (qv 3) qe_int (nomark _)) (qss_one (qs_ret (qe_addF (qe_sliceF (qv 0) qo_none (qo_some (qv 2))) (qe_sliceF (qv 0) (qo_some (qe_addF (qv 2) qe_int)) qo_none)))) qss_nil) (qss_cons (qs_if (qt_cmp (op_eqA hr.units) l_eq (qv 3) qe_int (nomark _)) (qss_one (qs_ret (qe_addF (qe_sliceF (qv 0) qo_none (qo_some (qe_addF (qv 2) qe_int))) (qe_sliceF (qv 0) (qo_some (qv 2)) qo_none)))) qss_nil) (qss_cons (qs_if (qt_cmp (op_eqA hr.units) l_eq (qv 3) qe_int (nomark _)) (qss_cons (qs_set (i := 4) sc__law_paper_bent.nd rfl (.inl rfl) (qe_addF (qe_lstF (qa_cons (qe_ix (hu_of hr) (qv 0) (qv 2)) qa_nil)) (qe_sliceF (qv 0) (qo_some (qe_addF (qv 2) qe_int)) qo_none))) (qss_one (qs_ret (qe_addF (qe_addF (qe_sliceF (qv 0) qo_none (qo_some (qv 2))) (qe_sliceF (qv 0) (qo_some (qe_addF (qv 2) qe_int)) (qo_some (qe_addF (qv 2) qe_int)))) (qv 4))))) qss_nil) (qss_cons (qs_if (qt_cmp (op_eqA hr.units) l_eq (qv 3) qe_int (nomark _)) (qss_one (qs_ret (qe_callTy call_tuple_of l_tupC rfl T.n_tuple (by decide +kernel) (qa_cons (qv 0) qa_nil)))) qss_nil) (qss_cons (qs_set (i := 5) sc__law_paper_bent.nd rfl (.inl rfl) (qe_call (ok__law_row_bent T) hr rfl T.m__law_row_bent T.F__law_row_bent.kp T.b__law_row_bent (qa_cons (qe_ix (hu_of hr) (qv 0) (qv 2)) (qa_cons (qe_op op_fdivW l_div (qv 1) qe_int) qa_nil)))) (qss_one (qs_ret (qe_addF (qe_addF (qe_sliceF (qv 0) qo_none (qo_some (qv 2))) (qe_lstF (qa_cons (qv 5) qa_nil))) (qe_sliceF (qv 0) (qo_some (qe_addF (qv 2) qe_int)) qo_none))))))))))))
theorem ok__law_paper_bent (T : Top K mg) : FnOk P w K mg base CX0 2 T.a__law_paper_bent T.d__law_paper_bent ["_law_paper", "_law_number"] (spD K C__law_paper_bent) := okD T.F__law_paper_bent sc__law_paper_bent l__law_paper_bent fun cdv A outer s H E hr => ⟨r__law_paper_bent, q__law_paper_bent T hr, m__law_paper_bent⟩
theorem q_is_right (T : Top K mg) {cdv : Value} {A : Around} {outer : List Env} {s : Shared} {H : Hp} {E : XK} (hr : Room 2 (A.deeper (envOfC "is_right" (defScope s_is_right) s.heap.objs.size T.a_is_right cdv))) : QSs (cxOf CX0 P w K mg base N_is_right "is_right" (defScope s_is_right) T.a_is_right cdv A outer s H E).nox (defBody s_is_right) r_is_right :=
  (qss_cons (qs_if (QW.t (qw_or (qt_not (qt_val (qe_callB call_isi l_isi rfl T.n_isinstance (by decide +kernel) (qa_cons (qv 1) (qa_cons (qe_ty rfl T.n_tuple (by decide +kernel)) qa_nil))))) (qw_or (qt_cmp (op_neA hr.units) l_ne (qe_callB call_lenA l_len rfl T.n_len (by decide +kernel) (qa_cons (qv 1) qa_nil)) qe_int (nomark _)) (qw_or1 (qt_not (qt_val (qe_call (ok_is_number T) (hr.mono (by decide)) rfl T.m_is_number T.F_is_number.kp T.b_is_number (qa_cons (qe_ix (hu_of hr) (qv 1) qe_int) qa_nil)))))))) (qss_one (qs_ret qe_bl)) qss_nil) (qss_one (qs_ret (qe_and (qe_call (ok_is_content T) hr rfl T.m_is_content T.F_is_content.kp T.b_is_content (qa_cons (qe_ix (hu_of hr) (qv 1) qe_int) qa_nil)) (qe_one (qe_cmp (op_eqA hr.units) l_eq (qe_ix (hu_of hr) (qv 1) qe_int) (qe_call (ok_sum_of T) (hr.mono (by decide)) rfl T.m_sum_of T.F_sum_of.kp T.b_sum_of (qa_cons (qv 0) (qa_cons (qe_ix (hu_of hr) (qv 1) qe_int) qa_nil))) (nomark _)))))))
theorem ok_is_right (T : Top K mg) : FnOk P w K mg base CX0 3 T.a_is_right T.d_is_right ["spot", "cell"] (spD K C_is_right) := okD T.F_is_right sc_is_right l_is_right fun cdv A outer s H E hr => ⟨r_is_right, q_is_right T hr, m_is_right⟩
theorem q_are_same (T : Top K mg) {k : Nat} {C : DSp} (ok : FnOk P w K mg base CX0 k T.a_are_same T.d_are_same ["one", "other"] (spD K C)) {cdv : Value} {A : Around} {outer : List Env} {s : Shared} {H : Hp} {E : XK} (hr : Room k (A.deeper (envOfC "are_same" (defScope s_are_same) s.heap.objs.size T.a_are_same cdv))) : QSs (cxOf CX0 P w K mg base N_are_same "are_same" (defScope s_are_same) T.a_are_same cdv A outer s H E).nox (defBody s_are_same) (r_are_same C) :=
  (qss_cons (qs_if (QW.t (qw_and (qt_val (qe_callB call_isiT l_isiT rfl T.n_isinstance (by decide +kernel) (qa_cons (qv 0) (qa_cons (qe_tup (qa_cons (qe_ty rfl T.n_tuple (by decide +kernel)) (qa_cons (qe_ty rfl T.n_list (by decide +kernel)) qa_nil))) qa_nil)))) (qw_and1 (qt_val (qe_callB call_isiT l_isiT rfl T.n_isinstance (by decide +kernel) (qa_cons (qv 1) (qa_cons (qe_tup (qa_cons (qe_ty rfl T.n_tuple (by decide +kernel)) (qa_cons (qe_ty rfl T.n_list (by decide +kernel)) qa_nil))) qa_nil))))))) (qss_cons (qs_if (QW.t (qw_or (qt_cmp (op_neA hr.units) l_ne (qe_callB call_isi l_isi rfl T.n_isinstance (by decide +kernel) (qa_cons (qv 0) (qa_cons (qe_ty rfl T.n_list (by decide +kernel)) qa_nil))) (qe_callB call_isi l_isi rfl T.n_isinstance (by decide +kernel) (qa_cons (qv 1) (qa_cons (qe_ty rfl T.n_list (by decide +kernel)) qa_nil))) (nomark _)) (qw_or1 (qt_cmp (op_neA hr.units) l_ne (qe_callB call_lenA l_len rfl T.n_len (by decide +kernel) (qa_cons (qv 0) qa_nil)) (qe_callB call_lenA l_len rfl T.n_len (by decide +kernel) (qa_cons (qv 1) qa_nil)) (nomark _))))) (qss_one (qs_ret qe_bl)) qss_nil) (qss_one (qs_ret (qe_callB (cr_all rfl) l_all rfl T.n_all (by decide +kernel) (qa_cons (qe_fz (qe_lc (own := [("here", 2), ("there", 3)]) rfl sc_are_same.nd (qi_zip rfl T.n_zip (qa_cons (qv 0) (qa_cons (qv 1) qa_nil))) (blkOk_by (N := N_are_same) (sc := defScope s_are_same) (by decide +kernel)) (fun _ _ _ _ _ => (qc_tup rfl (qcs_cons (qc_name (i := 2) (by decide) sc_are_same.nd rfl (.inl rfl)) (qcs_cons (qc_name (i := 3) (by decide) sc_are_same.nd rfl (.inl rfl)) qcs_nil)))) (fun _ _ _ _ _ => qts_nil) (fun _ _ _ _ _ => (qe_call ok hr rfl T.m_are_same T.F_are_same.kp T.b_are_same (qa_cons (qv 2) (qa_cons (qv 3) qa_nil)))))) qa_nil))))) qss_nil) (qss_one (qs_ret (qe_and (qe_cmp (op_eqA hr.units) l_eq (qe_callB call_isi l_isi rfl T.n_isinstance (by decide +kernel) (qa_cons (qv 0) (qa_cons (qe_ty rfl T.n_bool (by decide +kernel)) qa_nil))) (qe_callB call_isi l_isi rfl T.n_isinstance (by decide +kernel) (qa_cons (qv 1) (qa_cons (qe_ty rfl T.n_bool (by decide +kernel)) qa_nil))) (nomark _)) (qe_one (qe_cmp (op_eqA hr.units) l_eq (qv 0) (qv 1) (nomark _)))))))
theorem okn_are_same (T : Top K mg) : ∀ n, FnOk P w K mg base CX0 n T.a_are_same T.d_are_same ["one", "other"] (spD K (C_are_same n))
  | 0 => no_ok fun _ _ _ _ h => z_are_same h
  | n + 1 => okD T.F_are_same sc_are_same l_are_same fun cdv A outer s H E hr => ⟨r_are_same (C_are_same n), q_are_same T (okn_are_same T n) hr, m_are_same n⟩
theorem ok_are_same (T : Top K mg) : FnOk P w K mg base CX0 3 T.a_are_same T.d_are_same ["one", "other"] (spD K (C_are_same 3)) := okn_are_same T 3
theorem q__law_fate (T : Top K mg) {cdv : Value} {A : Around} {outer : List Env} {s : Shared} {H : Hp} {E : XK} (hr : Room 2 (A.deeper (envOfC "_law_fate" (defScope s__law_fate) s.heap.objs.size T.a__law_fate cdv))) : QSs (cxOf CX0 P w K mg base N__law_fate "_law_fate" (defScope s__law_fate) T.a__law_fate cdv A outer s H E).nox (defBody s__law_fate) r__law_fate :=
  (qss_cons (qs_set (i := 4) sc__law_fate.nd rfl (.inl rfl) (qe_lstF (qa_cons (qe_call (ok__law_is_right T) hr rfl T.m__law_is_right T.F__law_is_right.kp T.b__law_is_right (qa_cons (qv 0) (qa_cons (qv 1) qa_nil))) (qa_cons (qe_call (ok__law_is_right T) hr rfl T.m__law_is_right T.F__law_is_right.kp T.b__law_is_right (qa_cons (qv 0) (qa_cons (qv 2) qa_nil))) qa_nil)))) (qss_cons (qs_if (qt_cmp op_notN l_notN (qv 3) qe_non (nomark _)) (qss_one (qs_set (i := 4) sc__law_fate.nd rfl (.inl rfl) (qe_lstF (qa_cons (qe_and (qe_ix (hu_of hr) (qv 4) qe_int) (qe_one (qe_cmp (op_eqA hr.units) l_eq (qe_ix (hu_of hr) (qv 1) qe_int) (qv 3) (nomark _)))) (qa_cons (qe_and (qe_ix (hu_of hr) (qv 4) qe_int) (qe_one (qe_cmp (op_eqA hr.units) l_eq (qe_ix (hu_of hr) (qv 2) qe_int) (qv 3) (nomark _)))) qa_nil))))) (qss_one (qs_if (QW.t (qw_and (qt_cmp (op_eqA hr.units) l_eq (qv 4) (qe_lstF (qa_cons qe_bl (qa_cons qe_bl qa_nil))) (nomark _)) (qw_and1 (qt_cmp (op_neA hr.units) l_ne (qe_ix (hu_of hr) (qv 1) qe_int) (qe_ix (hu_of hr) (qv 2) qe_int) (nomark _))))) (qss_one (qs_set (i := 4) sc__law_fate.nd rfl (.inl rfl) (qe_lstF (qa_cons qe_bl (qa_cons qe_bl qa_nil))))) qss_nil))) (qss_one (qs_ret (qe_ix (hu_of hr) (qe_ix (hu_of hr) (qe_lstF (qa_cons (qe_lstF (qa_cons qe_int (qa_cons qe_int qa_nil))) (qa_cons (qe_lstF (qa_cons qe_int (qa_cons qe_int qa_nil))) qa_nil))) (qe_callTy call_intA l_intC rfl T.n_int (by decide +kernel) (qa_cons (qe_ix (hu_of hr) (qv 4) qe_int) qa_nil))) (qe_callTy call_intA l_intC rfl T.n_int (by decide +kernel) (qa_cons (qe_ix (hu_of hr) (qv 4) qe_int) qa_nil)))))))
theorem ok__law_fate (T : Top K mg) : FnOk P w K mg base CX0 3 T.a__law_fate T.d__law_fate ["_law_spot", "_law_first", "_law_second", "_law_content"] (spD K C__law_fate) := okD T.F__law_fate sc__law_fate l__law_fate fun cdv A outer s H E hr => ⟨r__law_fate, q__law_fate T hr, m__law_fate⟩
theorem q__law_cells_bent (T : Top K mg) {cdv : Value} {A : Around} {outer : List Env} {s : Shared} {H : Hp} {E : XK} (hr : Room 2 (A.deeper (envOfC "_law_cells_bent" (defScope s__law_cells_bent) s.heap.objs.size T.a__law_cells_bent cdv))) : QSs (cxOf CX0 P w K mg base N__law_cells_bent "_law_cells_bent" (defScope s__law_cells_bent) T.a__law_cells_bent cdv A outer s H E).nox (defBody s__law_cells_bent) r__law_cells_bent :=
  (qss_cons (qs_set (i := 3) sc__law_cells_bent.nd rfl (.inl rfl) (qe_op op_mod l_mod (qv 2) qe_int)) (qss_cons (qs_set (i := 4) sc__law_cells_bent.nd rfl (.inl rfl) (qe_op op_mod l_mod (qe_op op_fdivW l_div (qv 2) qe_int) (qe_callB call_lenA l_len rfl T.n_len (by decide +kernel) (qa_cons (qe_ix (hu_of hr) (qv 0) (qv 3)) qa_nil)))) (qss_one (qs_if (qt_cmp (op_eqA hr.units) l_eq (qe_op op_mod l_mod (qe_op op_fdivW l_div (qv 2) qe_int) qe_int) qe_int (nomark _)) (qss_one (qs_asg (qe_call (ok__law_one_for_true T) (hr.mono (by decide)) rfl T.m__law_one_for_true T.F__law_one_for_true.kp T.b__law_one_for_true (qa_cons (qe_ix (hu_of hr) (qe_ix (hu_of hr) (qv 0) (qv 3)) (qv 4)) qa_nil)) (qg_sub (qe_ix (hu_of hr) (qv 0) (qv 3)) (qv 4) (set_any (hu_of hr)) l_set))) (qss_one (qs_asg (qe_call (ok__law_cell T) hr rfl T.m__law_cell T.F__law_cell.kp T.b__law_cell (qa_cons (qv 4) (qa_cons (qe_op op_fdivW l_div (qv 2) qe_int) (qa_cons (qe_call (ok__law_contents T) (hr.mono (by decide)) rfl T.m__law_contents T.F__law_contents.kp T.b__law_contents (qa_cons (qv 1) (qa_cons (qv 4) qa_nil))) qa_nil)))) (qg_sub (qe_ix (hu_of hr) (qv 0) (qv 3)) (qv 4) (set_any (hu_of hr)) l_set)))))))
theorem ok__law_cells_bent (T : Top K mg) : FnOk P w K mg base CX0 3 T.a__law_cells_bent T.d__law_cells_bent ["_law_cells", "_law_heads_here", "_law_number"] (spD K C__law_cells_bent) := okD T.F__law_cells_bent sc__law_cells_bent l__law_cells_bent fun cdv A outer s H E hr => ⟨r__law_cells_bent, q__law_cells_bent T hr, m__law_cells_bent⟩
theorem q_are_whole (T : Top K mg) {cdv : Value} {A : Around} {outer : List Env} {s : Shared} {H : Hp} {E : XK} (hr : Room 3 (A.deeper (envOfC "are_whole" (defScope s_are_whole) s.heap.objs.size T.a_are_whole cdv))) : QSs (cxOf CX0 P w K mg base N_are_whole "are_whole" (defScope s_are_whole) T.a_are_whole cdv A outer s H E).nox (defBody s_are_whole) r_are_whole :=
  (qss_cons (qs_asg (qe_fz (qe_lc (own := [("cell", 5)]) rfl sc_are_whole.nd (qi_seq (qv 1)) (blkOk_by (N := N_are_whole) (sc := defScope s_are_whole) (by decide +kernel)) (fun _ _ _ _ _ => (qc_name (i := 5) (by decide) sc_are_whole.nd rfl (.inl rfl))) (fun _ _ _ _ _ => qts_nil) (fun _ _ _ _ _ => (qe_call (ok_is_right T) hr rfl T.m_is_right T.F_is_right.kp T.b_is_right (qa_cons (qv 0) (qa_cons (qv 5) qa_nil)))))) (qg_tupL rfl (qgs_cons (qg_name (i := 3) sc_are_whole.nd rfl (.inl rfl)) (qgs_cons (qg_name (i := 4) sc_are_whole.nd rfl (.inl rfl)) qgs_nil)))) (qss_cons (qs_if (qt_cmp op_notN l_notN (qv 2) qe_non (nomark _)) (qss_one (qs_ret (qe_lstF (qa_cons (qe_and (qv 3) (qe_one (qe_cmp (op_eqA hr.units) l_eq (qe_ix (hu_of hr) (qe_ix (hu_of hr) (qv 1) qe_int) qe_int) (qv 2) (nomark _)))) (qa_cons (qe_and (qv 4) (qe_one (qe_cmp (op_eqA hr.units) l_eq (qe_ix (hu_of hr) (qe_ix (hu_of hr) (qv 1) qe_int) qe_int) (qv 2) (nomark _)))) qa_nil))))) qss_nil) (qss_one (qs_ret (qe_lstF (qa_cons (qv 3) (qa_cons (qe_and (qv 4) (qe_one (qe_or (qe_not (qv 3)) (qe_one (qe_cmp (op_eqA hr.units) l_eq (qe_ix (hu_of hr) (qe_ix (hu_of hr) (qv 1) qe_int) qe_int) (qe_ix (hu_of hr) (qe_ix (hu_of hr) (qv 1) qe_int) qe_int) (nomark _)))))) qa_nil)))))))
theorem ok_are_whole (T : Top K mg) : FnOk P w K mg base CX0 4 T.a_are_whole T.d_are_whole ["spot", "cells", "content"] (spD K C_are_whole) := okD T.F_are_whole sc_are_whole l_are_whole fun cdv A outer s H E hr => ⟨r_are_whole, q_are_whole T hr, m_are_whole⟩
theorem q__law_due (T : Top K mg) {cdv : Value} {A : Around} {outer : List Env} {s : Shared} {H : Hp} {E : XK} (hr : Room 3 (A.deeper (envOfC "_law_due" (defScope s__law_due) s.heap.objs.size T.a__law_due cdv))) : QSs (cxOf CX0 P w K mg base N__law_due "_law_due" (defScope s__law_due) T.a__law_due cdv A outer s H E).nox (defBody s__law_due) r__law_due :=
  (qss_cons (qs_set (i := 2) sc__law_due.nd rfl (.inl rfl) (qe_lst qa_nil)) (qss_cons (qs_set (i := 3) sc__law_due.nd rfl (.inl rfl) (qe_lstF (qa_cons (qe_callTy call_list_of l_lstC rfl T.n_list (by decide +kernel) (qa_cons (qe_ix (hu_of hr) (qv 0) qe_int) qa_nil)) (qa_cons (qe_callTy call_list_of l_lstC rfl T.n_list (by decide +kernel) (qa_cons (qe_ix (hu_of hr) (qv 0) qe_int) qa_nil)) qa_nil)))) (qss_cons (qs_for PassesOwn.never rfl (qi_seq (qv 1)) (qg_tup rfl (qgs_cons (qg_name (i := 4) sc__law_due.nd rfl (.inl rfl)) (qgs_cons (qg_name (i := 5) sc__law_due.nd rfl (.inl rfl)) qgs_nil))) (qss_cons (qs_set (i := 6) sc__law_due.nd rfl (.inl rfl) (qe_call (ok__law_fate T) hr rfl T.m__law_fate T.F__law_fate.kp T.b__law_fate (qa_cons (qv 4) (qa_cons (qe_ix (hu_of hr) (qe_ix (hu_of hr) (qv 0) qe_int) (qv 4)) (qa_cons (qe_ix (hu_of hr) (qe_ix (hu_of hr) (qv 0) qe_int) (qv 4)) (qa_cons (qv 5) qa_nil)))))) (qss_cons (qs_expr (qe_bm PySem.F.plainAttrs_list PySem.F.slot_list_append PySem.F.type_list_append mt_append l_append (qv 2) (qa_cons (qe_tup (qa_cons (qv 4) (qa_cons (qv 6) qa_nil))) qa_nil))) (qss_cons (qs_if (qt_cmp (op_eqA hr.units) l_eq (qv 6) qe_int (nomark _)) (qss_one (qs_asg (qe_ix (hu_of hr) (qe_ix (hu_of hr) (qv 0) qe_int) (qv 4)) (qg_sub (qe_ix (hu_of hr) (qv 3) qe_int) (qv 4) (set_any (hu_of hr)) l_set))) qss_nil) (qss_one (qs_if (qt_cmp (op_eqA hr.units) l_eq (qv 6) qe_int (nomark _)) (qss_one (qs_asg (qe_ix (hu_of hr) (qe_ix (hu_of hr) (qv 0) qe_int) (qv 4)) (qg_sub (qe_ix (hu_of hr) (qv 3) qe_int) (qv 4) (set_any (hu_of hr)) l_set))) qss_nil)))))) (qss_one (qs_ret (qe_lstF (qa_cons (qe_fz (qv 2)) (qa_cons (qv 3) qa_nil))))))))
theorem ok__law_due (T : Top K mg) : FnOk P w K mg base CX0 4 T.a__law_due T.d__law_due ["_law_cells", "_law_spots_here"] (spD K C__law_due) := okD T.F__law_due sc__law_due l__law_due fun cdv A outer s H E hr => ⟨r__law_due, q__law_due T hr, m__law_due⟩
theorem q_fate_of (T : Top K mg) {cdv : Value} {A : Around} {outer : List Env} {s : Shared} {H : Hp} {E : XK} (hr : Room 4 (A.deeper (envOfC "fate_of" (defScope s_fate_of) s.heap.objs.size T.a_fate_of cdv))) : QSs (cxOf CX0 P w K mg base N_fate_of "fate_of" (defScope s_fate_of) T.a_fate_of cdv A outer s H E).nox (defBody s_fate_of) r_fate_of :=
  (qss_cons (qs_asg (qe_call (ok_are_whole T) hr rfl T.m_are_whole T.F_are_whole.kp T.b_are_whole (qa_cons (qv 0) (qa_cons (qv 1) (qa_cons (qv 2) qa_nil)))) (qg_tupL rfl (qgs_cons (qg_name (i := 3) sc_fate_of.nd rfl (.inl rfl)) (qgs_cons (qg_name (i := 4) sc_fate_of.nd rfl (.inl rfl)) qgs_nil)))) (qss_cons (qs_if (QW.t (qw_and (qt_val (qv 3)) (qw_and1 (qt_val (qv 4))))) (qss_one (qs_ret (qe_globI rfl T.g_BOTH))) qss_nil) (qss_cons (qs_if (qt_val (qv 4)) (qss_one (qs_ret (qe_globI rfl T.g_FIRST_MENDED))) qss_nil) (qss_cons (qs_if (qt_val (qv 3)) (qss_one (qs_ret (qe_globI rfl T.g_SECOND_MENDED))) qss_nil) (qss_one (qs_ret (qe_globI rfl T.g_NEITHER)))))))
theorem ok_fate_of (T : Top K mg) : FnOk P w K mg base CX0 5 T.a_fate_of T.d_fate_of ["spot", "cells", "content"] (spD K C_fate_of) := okD T.F_fate_of sc_fate_of l_fate_of fun cdv A outer s H E hr => ⟨r_fate_of, q_fate_of T hr, m_fate_of⟩
theorem q__law_like (T : Top K mg) {k : Nat} {C : DSp} (ok : FnOk P w K mg base CX0 k T.a__law_like T.d__law_like ["_law_one", "_law_other"] (spD K C)) {cdv : Value} {A : Around} {outer : List Env} {s : Shared} {H : Hp} {E : XK} (hr : Room k (A.deeper (envOfC "_law_like" (defScope s__law_like) s.heap.objs.size T.a__law_like cdv))) : QSs (cxOf CX0 P w K mg base N__law_like "_law_like" (defScope s__law_like) T.a__law_like cdv A outer s H E).nox (defBody s__law_like) (r__law_like C) :=
  (qss_cons (qs_if (qt_cmp (op_neA hr.units) l_ne (qe_callB call_isi l_isi rfl T.n_isinstance (by decide +kernel) (qa_cons (qv 0) (qa_cons (qe_ty rfl T.n_tuple (by decide +kernel)) qa_nil))) (qe_callB call_isi l_isi rfl T.n_isinstance (by decide +kernel) (qa_cons (qv 1) (qa_cons (qe_ty rfl T.n_tuple (by decide +kernel)) qa_nil))) (nomark _)) (qss_one (qs_ret qe_bl)) qss_nil) (qss_cons (qs_if (qt_cmp (op_neA hr.units) l_ne (qe_callB call_isi l_isi rfl T.n_isinstance (by decide +kernel) (qa_cons (qv 0) (qa_cons (qe_ty rfl T.n_list (by decide +kernel)) qa_nil))) (qe_callB call_isi l_isi rfl T.n_isinstance (by decide +kernel) (qa_cons (qv 1) (qa_cons (qe_ty rfl T.n_list (by decide +kernel)) qa_nil))) (nomark _)) (qss_one (qs_ret qe_bl)) qss_nil) (qss_cons (qs_if (QW.t (qw_or (qt_val (qe_callB call_isi l_isi rfl T.n_isinstance (by decide +kernel) (qa_cons (qv 0) (qa_cons (qe_ty rfl T.n_tuple (by decide +kernel)) qa_nil)))) (qw_or1 (qt_val (qe_callB call_isi l_isi rfl T.n_isinstance (by decide +kernel) (qa_cons (qv 0) (qa_cons (qe_ty rfl T.n_list (by decide +kernel)) qa_nil))))))) (qss_cons (qs_if (qt_cmp (op_neA hr.units) l_ne (qe_callB call_lenA l_len rfl T.n_len (by decide +kernel) (qa_cons (qv 0) qa_nil)) (qe_callB call_lenA l_len rfl T.n_len (by decide +kernel) (qa_cons (qv 1) qa_nil)) (nomark _)) (qss_one (qs_ret qe_bl)) qss_nil) (qss_one (qs_ret (qe_callB (cr_all rfl) l_all rfl T.n_all (by decide +kernel) (qa_cons (qe_fz (qe_lc (own := [("_law_here", 2), ("_law_there", 3)]) rfl sc__law_like.nd (qi_zip rfl T.n_zip (qa_cons (qv 0) (qa_cons (qv 1) qa_nil))) (blkOk_by (N := N__law_like) (sc := defScope s__law_like) (by decide +kernel)) (fun _ _ _ _ _ => (qc_tup rfl (qcs_cons (qc_name (i := 2) (by decide) sc__law_like.nd rfl (.inl rfl)) (qcs_cons (qc_name (i := 3) (by decide) sc__law_like.nd rfl (.inl rfl)) qcs_nil)))) (fun _ _ _ _ _ => qts_nil) (fun _ _ _ _ _ => (qe_call ok hr rfl T.m__law_like T.F__law_like.kp T.b__law_like (qa_cons (qv 2) (qa_cons (qv 3) qa_nil)))))) qa_nil))))) qss_nil) (qss_one (qs_ret (qe_and (qe_cmp (op_eqA hr.units) l_eq (qe_callB call_isi l_isi rfl T.n_isinstance (by decide +kernel) (qa_cons (qv 0) (qa_cons (qe_ty rfl T.n_bool (by decide +kernel)) qa_nil))) (qe_callB call_isi l_isi rfl T.n_isinstance (by decide +kernel) (qa_cons (qv 1) (qa_cons (qe_ty rfl T.n_bool (by decide +kernel)) qa_nil))) (nomark _)) (qe_one (qe_cmp (op_eqA hr.units) l_eq (qv 0) (qv 1) (nomark _)))))))))
theorem okn__law_like (T : Top K mg) : ∀ n, FnOk P w K mg base CX0 n T.a__law_like T.d__law_like ["_law_one", "_law_other"] (spD K (C__law_like n))
  | 0 => no_ok fun _ _ _ _ h => z__law_like h
  | n + 1 => okD T.F__law_like sc__law_like l__law_like fun cdv A outer s H E hr => ⟨r__law_like (C__law_like n), q__law_like T (okn__law_like T n) hr, m__law_like n⟩
theorem ok__law_like (T : Top K mg) : FnOk P w K mg base CX0 5 T.a__law_like T.d__law_like ["_law_one", "_law_other"] (spD K (C__law_like 5)) := okn__law_like T 5
theorem q_fates_of (T : Top K mg) {cdv : Value} {A : Around} {outer : List Env} {s : Shared} {H : Hp} {E : XK} (hr : Room 5 (A.deeper (envOfC "fates_of" (defScope s_fates_of) s.heap.objs.size T.a_fates_of cdv))) : QSs (cxOf CX0 P w K mg base N_fates_of "fates_of" (defScope s_fates_of) T.a_fates_of cdv A outer s H E).nox (defBody s_fates_of) r_fates_of :=
  (qss_cons (qs_set (i := 2) sc_fates_of.nd rfl (.inl rfl) (qe_lst qa_nil)) (qss_cons (qs_for PassesOwn.never rfl (qi_seq (qv 1)) (qg_tup rfl (qgs_cons (qg_name (i := 3) sc_fates_of.nd rfl (.inr rfl)) (qgs_cons (qg_name (i := 4) sc_fates_of.nd rfl (.inl rfl)) qgs_nil))) (qss_one (qs_expr (qe_bm PySem.F.plainAttrs_list PySem.F.slot_list_append PySem.F.type_list_append mt_append l_append (qv 2) (qa_cons (qe_tup (qa_cons (qv 3) (qa_cons (qe_call (ok_fate_of T) hr rfl T.m_fate_of T.F_fate_of.kp T.b_fate_of (qa_cons (qv 3) (qa_cons (qe_fz (qe_lc (own := [("cells", 5)]) rfl sc_fates_of.nd (qi_seq (qv 0)) (blkOk_by (N := N_fates_of) (sc := defScope s_fates_of) (by decide +kernel)) (fun _ _ _ _ _ => (qc_name (i := 5) (by decide) sc_fates_of.nd rfl (.inl rfl))) (fun _ _ _ _ _ => qts_nil) (fun _ _ _ _ _ => (qe_ix (hu_of hr) (qv 5) (qv 3))))) (qa_cons (qv 4) qa_nil)))) qa_nil))) qa_nil))))) (qss_one (qs_ret (qe_fz (qv 2))))))
theorem ok_fates_of (T : Top K mg) : FnOk P w K mg base CX0 6 T.a_fates_of T.d_fates_of ["ahead", "spots"] (spD K C_fates_of) := okD T.F_fates_of sc_fates_of l_fates_of fun cdv A outer s H E hr => ⟨r_fates_of, q_fates_of T hr, m_fates_of⟩
theorem q_mend_holds (T : Top K mg) {cdv : Value} {A : Around} {outer : List Env} {s : Shared} {H : Hp} {E : XK} (hr : Room 6 (A.deeper (envOfC "mend_holds" (defScope s_mend_holds) s.heap.objs.size T.a_mend_holds cdv))) : QSs (cxOf CX0 P w K mg base N_mend_holds "mend_holds" (defScope s_mend_holds) T.a_mend_holds cdv A outer s H E).nox (defBody s_mend_holds) r_mend_holds :=
  (qss_cons (qs_if (QW.t (qw_or (qt_not (qt_val (qe_call (ok_is_paper T) (hr.mono (by decide)) rfl T.m_is_paper T.F_is_paper.kp T.b_is_paper (qa_cons (qv 0) qa_nil)))) (qw_or1 (qt_cmp (op_neA hr.units) l_ne (qv 0) (qe_call (ok_fates_of T) hr rfl T.m_fates_of T.F_fates_of.kp T.b_fates_of (qa_cons (qv 1) (qa_cons (qv 3) qa_nil))) (nomark _))))) (qss_one (qs_ret qe_bl)) qss_nil) (qss_cons (qs_for PassesOwn.never rfl (qi_zip rfl T.n_zip (qa_cons (qe_call (ok_cells_due T) (hr.mono (by decide)) rfl T.m_cells_due T.F_cells_due.kp T.b_cells_due (qa_cons (qv 1) (qa_cons (qv 0) qa_nil))) (qa_cons (qv 2) qa_nil))) (qg_tup rfl (qgs_cons (qg_name (i := 4) sc_mend_holds.nd rfl (.inl rfl)) (qgs_cons (qg_name (i := 5) sc_mend_holds.nd rfl (.inl rfl)) qgs_nil))) (qss_one (qs_if (QW.t (qw_or (qt_cmp (op_neA hr.units) l_ne (qe_callB call_lenA l_len rfl T.n_len (by decide +kernel) (qa_cons (qv 4) qa_nil)) (qe_callB call_lenA l_len rfl T.n_len (by decide +kernel) (qa_cons (qv 5) qa_nil)) (nomark _)) (qw_or1 (qt_not (qt_val (qe_callB (cr_all rfl) l_all rfl T.n_all (by decide +kernel) (qa_cons (qe_fz (qe_lc (own := [("one", 6), ("other", 7)]) rfl sc_mend_holds.nd (qi_zip rfl T.n_zip (qa_cons (qv 4) (qa_cons (qv 5) qa_nil))) (blkOk_by (N := N_mend_holds) (sc := defScope s_mend_holds) (by decide +kernel)) (fun _ _ _ _ _ => (qc_tup rfl (qcs_cons (qc_name (i := 6) (by decide) sc_mend_holds.nd rfl (.inl rfl)) (qcs_cons (qc_name (i := 7) (by decide) sc_mend_holds.nd rfl (.inl rfl)) qcs_nil)))) (fun _ _ _ _ _ => qts_nil) (fun _ _ _ _ _ => (qe_call (ok_are_same T) (hr.mono (by decide)) rfl T.m_are_same T.F_are_same.kp T.b_are_same (qa_cons (qv 6) (qa_cons (qv 7) qa_nil)))))) qa_nil))))))) (qss_one (qs_ret qe_bl)) qss_nil))) (qss_one (qs_ret qe_bl))))
theorem ok_mend_holds (T : Top K mg) : FnOk P w K mg base CX0 7 T.a_mend_holds T.d_mend_holds ["paper", "ahead", "behind", "spots"] (spD K C_mend_holds) := okD T.F_mend_holds sc_mend_holds l_mend_holds fun cdv A outer s H E hr => ⟨r_mend_holds, q_mend_holds T hr, m_mend_holds⟩
theorem q_law (T : Top K mg) {cdv : Value} {A : Around} {outer : List Env} {s : Shared} {H : Hp} {E : XK} (hr : Room 7 (A.deeper (envOfC "law" (defScope s_law) s.heap.objs.size T.a_law cdv))) (hgd : A.guards = some []) : QSs (cxOf CX0 P w K mg base N_law "law" (defScope s_law) T.a_law cdv A outer s H E).nox (defBody s_law) r_law :=
  (qss_cons (qs_set (i := 1) sc_law.nd rfl (.inl rfl) (qe_call (ok__law_draws T) (hr.mono (by decide)) rfl T.m__law_draws T.F__law_draws.kp T.b__law_draws (qa_cons (qv 0) qa_nil))) (qss_cons (qs_set (i := 2) sc_law.nd rfl (.inl rfl) (qe_call (ok__law_next T) (hr.mono (by decide)) rfl T.m__law_next T.F__law_next.kp T.b__law_next (qa_cons (qv 1) qa_nil))) (qss_cons (qs_set (i := 3) sc_law.nd rfl (.inl rfl) (qe_addF qe_int (qe_op op_mod l_mod (qe_op op_fdivW l_div (qv 2) qe_int) qe_int))) (qss_cons (qs_set (i := 4) sc_law.nd rfl (.inl rfl) (qe_call (ok__law_heads T) (hr.mono (by decide)) rfl T.m__law_heads T.F__law_heads.kp T.b__law_heads (qa_cons (qe_op op_mod l_mod (qv 2) qe_int) (qa_cons (qv 3) qa_nil)))) (qss_cons (qs_set (i := 5) sc_law.nd rfl (.inl rfl) (qe_lstF (qa_cons (qe_lst qa_nil) (qa_cons (qe_lst qa_nil) qa_nil)))) (qss_cons (qs_for PassesOwn.never rfl (qi_range1 rfl T.n_range (qa_cons (qv 3) qa_nil)) (qg_name (i := 6) sc_law.nd rfl (.inl rfl)) (qss_cons (qs_set (i := 7) sc_law.nd rfl (.inl rfl) (qe_call (ok__law_contents T) (hr.mono (by decide)) rfl T.m__law_contents T.F__law_contents.kp T.b__law_contents (qa_cons (qv 4) (qa_cons (qv 6) qa_nil)))) (qss_cons (qs_expr (qe_bm PySem.F.plainAttrs_list PySem.F.slot_list_append PySem.F.type_list_append mt_append l_append (qe_ix (hu_of hr) (qv 5) qe_int) (qa_cons (qe_call (ok__law_cell T) (hr.mono (by decide)) rfl T.m__law_cell T.F__law_cell.kp T.b__law_cell (qa_cons (qv 6) (qa_cons (qe_call (ok__law_next T) (hr.mono (by decide)) rfl T.m__law_next T.F__law_next.kp T.b__law_next (qa_cons (qv 1) qa_nil)) (qa_cons (qv 7) qa_nil)))) qa_nil))) (qss_one (qs_expr (qe_bm PySem.F.plainAttrs_list PySem.F.slot_list_append PySem.F.type_list_append mt_append l_append (qe_ix (hu_of hr) (qv 5) qe_int) (qa_cons (qe_call (ok__law_cell T) (hr.mono (by decide)) rfl T.m__law_cell T.F__law_cell.kp T.b__law_cell (qa_cons (qv 6) (qa_cons (qe_call (ok__law_next T) (hr.mono (by decide)) rfl T.m__law_next T.F__law_next.kp T.b__law_next (qa_cons (qv 1) qa_nil)) (qa_cons (qv 7) qa_nil)))) qa_nil))))))) (qss_cons (qs_set (i := 8) sc_law.nd rfl (.inl rfl) (qe_call (ok__law_spots T) (hr.mono (by decide)) rfl T.m__law_spots T.F__law_spots.kp T.b__law_spots (qa_cons (qv 1) (qa_cons (qv 4) (qa_cons (qv 3) qa_nil))))) (qss_cons (qs_asg (qe_call (ok__law_due T) (hr.mono (by decide)) rfl T.m__law_due T.F__law_due.kp T.b__law_due (qa_cons (qv 5) (qa_cons (qv 8) qa_nil))) (qg_tupL rfl (qgs_cons (qg_name (i := 9) sc_law.nd rfl (.inl rfl)) (qgs_cons (qg_name (i := 10) sc_law.nd rfl (.inl rfl)) qgs_nil)))) (qss_cons (qs_set (i := 11) sc_law.nd rfl (.inl rfl) (qe_fz (qe_callTy call_list_of l_lstC rfl T.n_list (by decide +kernel) (qa_cons (qv 9) qa_nil)))) (qss_cons (qs_fzn (i := 12) (qs_setLc (i := 12) (own := [("_law_cells", 15)]) rfl sc_law.nd rfl rfl (sw_true rfl rfl rfl (by decide +kernel)) (qi_seq (qv 10)) (blkOk_by (N := N_law) (sc := defScope s_law) (by decide +kernel)) (fun _ _ _ _ _ => (qc_name (i := 15) (by decide) sc_law.nd rfl (.inl rfl))) (fun _ _ _ _ _ => qts_nil) (fun _ _ _ _ _ => (qe_callTy call_list_of l_lstC rfl T.n_list (by decide +kernel) (qa_cons (qv 15) qa_nil))))) (qss_cons (qs_set (i := 2) sc_law.nd rfl (.inl rfl) (qe_call (ok__law_next T) (hr.mono (by decide)) rfl T.m__law_next T.F__law_next.kp T.b__law_next (qa_cons (qv 1) qa_nil))) (qss_cons (qs_if (qt_cmp op_gt l_gt (qe_op op_mod l_mod (qv 2) qe_int) qe_int (nomark _)) (qss_one (qs_set (i := 11) sc_law.nd rfl (.inl rfl) (qe_call (ok__law_paper_bent T) (hr.mono (by decide)) rfl T.m__law_paper_bent T.F__law_paper_bent.kp T.b__law_paper_bent (qa_cons (qv 11) (qa_cons (qe_call (ok__law_next T) (hr.mono (by decide)) rfl T.m__law_next T.F__law_next.kp T.b__law_next (qa_cons (qv 1) qa_nil)) qa_nil))))) qss_nil) (qss_cons (qs_if (qt_cmp (op_eqA hr.units) l_eq (qe_op op_mod l_mod (qe_op op_fdivW l_div (qv 2) qe_int) qe_int) qe_int (nomark _)) (qss_one (qs_expr (qe_call (ok__law_cells_bent T) (hr.mono (by decide)) rfl T.m__law_cells_bent T.F__law_cells_bent.kp T.b__law_cells_bent (qa_cons (qv 12) (qa_cons (qv 4) (qa_cons (qe_call (ok__law_next T) (hr.mono (by decide)) rfl T.m__law_next T.F__law_next.kp T.b__law_next (qa_cons (qv 1) qa_nil)) qa_nil)))))) qss_nil) (qss_cons (qs_set (i := 13) sc_law.nd rfl (.inl rfl) (qe_lstF (qa_cons (qe_callTy (call_strD hgd hr.units) l_str rfl T.n_str (by decide +kernel) (qa_cons (qv 11) qa_nil)) (qa_cons (qe_callTy (call_strD hgd hr.units) l_str rfl T.n_str (by decide +kernel) (qa_cons (qv 5) qa_nil)) (qa_cons (qe_callTy (call_strD hgd hr.units) l_str rfl T.n_str (by decide +kernel) (qa_cons (qv 12) qa_nil)) (qa_cons (qe_callTy (call_strD hgd hr.units) l_str rfl T.n_str (by decide +kernel) (qa_cons (qv 8) qa_nil)) qa_nil)))))) (qss_cons (qs_set (i := 14) sc_law.nd rfl (.inl rfl) (qe_call (ok_mend_holds T) hr rfl T.m_mend_holds T.F_mend_holds.kp T.b_mend_holds (qa_cons (qv 11) (qa_cons (qe_tup (qa_cons (qe_ix (hu_of hr) (qv 5) qe_int) (qa_cons (qe_ix (hu_of hr) (qv 5) qe_int) qa_nil))) (qa_cons (qe_tup (qa_cons (qe_ix (hu_of hr) (qv 12) qe_int) (qa_cons (qe_ix (hu_of hr) (qv 12) qe_int) qa_nil))) (qa_cons (qv 8) qa_nil)))))) (qss_cons (qs_if (QW.t (qw_or (qt_not (qt_val (qe_callB call_isi l_isi rfl T.n_isinstance (by decide +kernel) (qa_cons (qv 14) (qa_cons (qe_ty rfl T.n_bool (by decide +kernel)) qa_nil))))) (qw_or1 (qt_cmp (op_neA hr.units) l_ne (qv 13) (qe_lstF (qa_cons (qe_callTy (call_strD hgd hr.units) l_str rfl T.n_str (by decide +kernel) (qa_cons (qv 11) qa_nil)) (qa_cons (qe_callTy (call_strD hgd hr.units) l_str rfl T.n_str (by decide +kernel) (qa_cons (qv 5) qa_nil)) (qa_cons (qe_callTy (call_strD hgd hr.units) l_str rfl T.n_str (by decide +kernel) (qa_cons (qv 12) qa_nil)) (qa_cons (qe_callTy (call_strD hgd hr.units) l_str rfl T.n_str (by decide +kernel) (qa_cons (qv 8) qa_nil)) qa_nil))))) (nomark _))))) (qss_one (qs_ret qe_bl)) qss_nil) (qss_one (qs_ret (qe_cmp (op_eqA hr.units) l_eq (qv 14) (qe_and (qe_call (ok__law_like T) (hr.mono (by decide)) rfl T.m__law_like T.F__law_like.kp T.b__law_like (qa_cons (qv 11) (qa_cons (qv 9) qa_nil))) (qe_one (qe_call (ok__law_like T) (hr.mono (by decide)) rfl T.m__law_like T.F__law_like.kp T.b__law_like (qa_cons (qv 12) (qa_cons (qv 10) qa_nil))))) (nomark _))))))))))))))))))))
theorem ok_law (T : Top K mg) : RunsG P w K mg base 8 T.a_law T.d_law ["_law_script"] (spD K C_law) := okG T.F_law sc_law l_law fun cdv A outer s H E hr hgd => ⟨r_law, q_law T hr hgd, m_law⟩
end
end K71

namespace K71
open PySem PySem.Spec PyProof.Rows L2 DL
def top_mk {K : PySem.W.Frag} {h : Heap} {mg : Str → Option Value} {tk_BOTH : Tok} {tk_FACTOR : Tok} {tk_FIRST_MENDED : Tok} {tk_NEITHER : Tok} {tk_ROUND : Tok} {tk_SECOND_MENDED : Tok} {f0 : Addr} {od0 an0 : Option Addr} {sl0 : Array (Option Value)} {oc0 kV0 dc0 pm0 cd0 ct0 : Value} {f1 : Addr} {od1 an1 : Option Addr} {sl1 : Array (Option Value)} {oc1 kV1 dc1 pm1 cd1 ct1 : Value} {f2 : Addr} {od2 an2 : Option Addr} {sl2 : Array (Option Value)} {oc2 kV2 dc2 pm2 cd2 ct2 : Value} {f3 : Addr} {od3 an3 : Option Addr} {sl3 : Array (Option Value)} {oc3 kV3 dc3 pm3 cd3 ct3 : Value} {f4 : Addr} {od4 an4 : Option Addr} {sl4 : Array (Option Value)} {oc4 kV4 dc4 pm4 cd4 ct4 : Value} {f5 : Addr} {od5 an5 : Option Addr} {sl5 : Array (Option Value)} {oc5 kV5 dc5 pm5 cd5 ct5 : Value} {f6 : Addr} {od6 an6 : Option Addr} {sl6 : Array (Option Value)} {oc6 kV6 dc6 pm6 cd6 ct6 : Value} {f7 : Addr} {od7 an7 : Option Addr} {sl7 : Array (Option Value)} {oc7 kV7 dc7 pm7 cd7 ct7 : Value} {f8 : Addr} {od8 an8 : Option Addr} {sl8 : Array (Option Value)} {oc8 kV8 dc8 pm8 cd8 ct8 : Value} {f9 : Addr} {od9 an9 : Option Addr} {sl9 : Array (Option Value)} {oc9 kV9 dc9 pm9 cd9 ct9 : Value} {f10 : Addr} {od10 an10 : Option Addr} {sl10 : Array (Option Value)} {oc10 kV10 dc10 pm10 cd10 ct10 : Value} {f11 : Addr} {od11 an11 : Option Addr} {sl11 : Array (Option Value)} {oc11 kV11 dc11 pm11 cd11 ct11 : Value} {f12 : Addr} {od12 an12 : Option Addr} {sl12 : Array (Option Value)} {oc12 kV12 dc12 pm12 cd12 ct12 : Value} {f13 : Addr} {od13 an13 : Option Addr} {sl13 : Array (Option Value)} {oc13 kV13 dc13 pm13 cd13 ct13 : Value} {f14 : Addr} {od14 an14 : Option Addr} {sl14 : Array (Option Value)} {oc14 kV14 dc14 pm14 cd14 ct14 : Value} {f15 : Addr} {od15 an15 : Option Addr} {sl15 : Array (Option Value)} {oc15 kV15 dc15 pm15 cd15 ct15 : Value} {f16 : Addr} {od16 an16 : Option Addr} {sl16 : Array (Option Value)} {oc16 kV16 dc16 pm16 cd16 ct16 : Value} {f17 : Addr} {od17 an17 : Option Addr} {sl17 : Array (Option Value)} {oc17 kV17 dc17 pm17 cd17 ct17 : Value} {f18 : Addr} {od18 an18 : Option Addr} {sl18 : Array (Option Value)} {oc18 kV18 dc18 pm18 cd18 ct18 : Value} {f19 : Addr} {od19 an19 : Option Addr} {sl19 : Array (Option Value)} {oc19 kV19 dc19 pm19 cd19 ct19 : Value} {f20 : Addr} {od20 an20 : Option Addr} {sl20 : Array (Option Value)} {oc20 kV20 dc20 pm20 cd20 ct20 : Value} {f21 : Addr} {od21 an21 : Option Addr} {sl21 : Array (Option Value)} {oc21 kV21 dc21 pm21 cd21 ct21 : Value} {f22 : Addr} {od22 an22 : Option Addr} {sl22 : Array (Option Value)} {oc22 kV22 dc22 pm22 cd22 ct22 : Value} {f23 : Addr} {od23 an23 : Option Addr} {sl23 : Array (Option Value)} {oc23 kV23 dc23 pm23 cd23 ct23 : Value} {f24 : Addr} {od24 an24 : Option Addr} {sl24 : Array (Option Value)} {oc24 kV24 dc24 pm24 cd24 ct24 : Value} {f25 : Addr} {od25 an25 : Option Addr} {sl25 : Array (Option Value)} {oc25 kV25 dc25 pm25 cd25 ct25 : Value} {f26 : Addr} {od26 an26 : Option Addr} {sl26 : Array (Option Value)} {oc26 kV26 dc26 pm26 cd26 ct26 : Value} {f27 : Addr} {od27 an27 : Option Addr} {sl27 : Array (Option Value)} {oc27 kV27 dc27 pm27 cd27 ct27 : Value} (X : K.In h) (G : h.Ns mainGlobals mg)
    (z_abs : PySem.W.nsIn K mainGlobals "abs" = some none)
    (z_all : PySem.W.nsIn K mainGlobals "all" = some none)
    (z_bool : PySem.W.nsIn K mainGlobals "bool" = some none)
    (z_int : PySem.W.nsIn K mainGlobals "int" = some none)
    (z_isinstance : PySem.W.nsIn K mainGlobals "isinstance" = some none)
    (z_len : PySem.W.nsIn K mainGlobals "len" = some none)
    (z_list : PySem.W.nsIn K mainGlobals "list" = some none)
    (z_max : PySem.W.nsIn K mainGlobals "max" = some none)
    (z_min : PySem.W.nsIn K mainGlobals "min" = some none)
    (z_range : PySem.W.nsIn K mainGlobals "range" = some none)
    (z_sorted : PySem.W.nsIn K mainGlobals "sorted" = some none)
    (z_str : PySem.W.nsIn K mainGlobals "str" = some none)
    (z_tuple : PySem.W.nsIn K mainGlobals "tuple" = some none)
    (z_zip : PySem.W.nsIn K mainGlobals "zip" = some none)
    (g_BOTH : PySem.W.nsIn K mainGlobals "BOTH" = some (some (.int 0 tk_BOTH)))
    (g_FACTOR : PySem.W.nsIn K mainGlobals "FACTOR" = some (some (.int 65599 tk_FACTOR)))
    (g_FIRST_MENDED : PySem.W.nsIn K mainGlobals "FIRST_MENDED" = some (some (.int 1 tk_FIRST_MENDED)))
    (g_NEITHER : PySem.W.nsIn K mainGlobals "NEITHER" = some (some (.int 3 tk_NEITHER)))
    (g_ROUND : PySem.W.nsIn K mainGlobals "ROUND" = some (some (.int 2147483647 tk_ROUND)))
    (g_SECOND_MENDED : PySem.W.nsIn K mainGlobals "SECOND_MENDED" = some (some (.int 2 tk_SECOND_MENDED)))
    (a0 : PySem.W.nsIn K mainGlobals "is_number" = some (some (.ref f0))) (l0 : K.lookup f0 = some ⟨oc0, od0, .func (PySem.W.fnOf "is_number" "is_number" (defArgs s_is_number) (defBody s_is_number) (defScope s_is_number) .none kV0 dc0 pm0 an0 cd0 ct0), sl0⟩) (c0 : PySem.W.codeIn K cd0 "is_number" = true) (k0 : PySem.W.keepIn K (.ref f0) = true)
    (a1 : PySem.W.nsIn K mainGlobals "is_content" = some (some (.ref f1))) (l1 : K.lookup f1 = some ⟨oc1, od1, .func (PySem.W.fnOf "is_content" "is_content" (defArgs s_is_content) (defBody s_is_content) (defScope s_is_content) .none kV1 dc1 pm1 an1 cd1 ct1), sl1⟩) (c1 : PySem.W.codeIn K cd1 "is_content" = true) (k1 : PySem.W.keepIn K (.ref f1) = true)
    (a2 : PySem.W.nsIn K mainGlobals "sum_of" = some (some (.ref f2))) (l2 : K.lookup f2 = some ⟨oc2, od2, .func (PySem.W.fnOf "sum_of" "sum_of" (defArgs s_sum_of) (defBody s_sum_of) (defScope s_sum_of) .none kV2 dc2 pm2 an2 cd2 ct2), sl2⟩) (c2 : PySem.W.codeIn K cd2 "sum_of" = true) (k2 : PySem.W.keepIn K (.ref f2) = true)
    (a3 : PySem.W.nsIn K mainGlobals "is_right" = some (some (.ref f3))) (l3 : K.lookup f3 = some ⟨oc3, od3, .func (PySem.W.fnOf "is_right" "is_right" (defArgs s_is_right) (defBody s_is_right) (defScope s_is_right) .none kV3 dc3 pm3 an3 cd3 ct3), sl3⟩) (c3 : PySem.W.codeIn K cd3 "is_right" = true) (k3 : PySem.W.keepIn K (.ref f3) = true)
    (a4 : PySem.W.nsIn K mainGlobals "are_whole" = some (some (.ref f4))) (l4 : K.lookup f4 = some ⟨oc4, od4, .func (PySem.W.fnOf "are_whole" "are_whole" (defArgs s_are_whole) (defBody s_are_whole) (defScope s_are_whole) .none kV4 dc4 pm4 an4 cd4 ct4), sl4⟩) (c4 : PySem.W.codeIn K cd4 "are_whole" = true) (k4 : PySem.W.keepIn K (.ref f4) = true)
    (a5 : PySem.W.nsIn K mainGlobals "fate_of" = some (some (.ref f5))) (l5 : K.lookup f5 = some ⟨oc5, od5, .func (PySem.W.fnOf "fate_of" "fate_of" (defArgs s_fate_of) (defBody s_fate_of) (defScope s_fate_of) .none kV5 dc5 pm5 an5 cd5 ct5), sl5⟩) (c5 : PySem.W.codeIn K cd5 "fate_of" = true) (k5 : PySem.W.keepIn K (.ref f5) = true)
    (a6 : PySem.W.nsIn K mainGlobals "fates_of" = some (some (.ref f6))) (l6 : K.lookup f6 = some ⟨oc6, od6, .func (PySem.W.fnOf "fates_of" "fates_of" (defArgs s_fates_of) (defBody s_fates_of) (defScope s_fates_of) .none kV6 dc6 pm6 an6 cd6 ct6), sl6⟩) (c6 : PySem.W.codeIn K cd6 "fates_of" = true) (k6 : PySem.W.keepIn K (.ref f6) = true)
    (a7 : PySem.W.nsIn K mainGlobals "is_paper" = some (some (.ref f7))) (l7 : K.lookup f7 = some ⟨oc7, od7, .func (PySem.W.fnOf "is_paper" "is_paper" (defArgs s_is_paper) (defBody s_is_paper) (defScope s_is_paper) .none kV7 dc7 pm7 an7 cd7 ct7), sl7⟩) (c7 : PySem.W.codeIn K cd7 "is_paper" = true) (k7 : PySem.W.keepIn K (.ref f7) = true)
    (a8 : PySem.W.nsIn K mainGlobals "are_same" = some (some (.ref f8))) (l8 : K.lookup f8 = some ⟨oc8, od8, .func (PySem.W.fnOf "are_same" "are_same" (defArgs s_are_same) (defBody s_are_same) (defScope s_are_same) .none kV8 dc8 pm8 an8 cd8 ct8), sl8⟩) (c8 : PySem.W.codeIn K cd8 "are_same" = true) (k8 : PySem.W.keepIn K (.ref f8) = true)
    (a9 : PySem.W.nsIn K mainGlobals "cells_due" = some (some (.ref f9))) (l9 : K.lookup f9 = some ⟨oc9, od9, .func (PySem.W.fnOf "cells_due" "cells_due" (defArgs s_cells_due) (defBody s_cells_due) (defScope s_cells_due) .none kV9 dc9 pm9 an9 cd9 ct9), sl9⟩) (c9 : PySem.W.codeIn K cd9 "cells_due" = true) (k9 : PySem.W.keepIn K (.ref f9) = true)
    (a10 : PySem.W.nsIn K mainGlobals "mend_holds" = some (some (.ref f10))) (l10 : K.lookup f10 = some ⟨oc10, od10, .func (PySem.W.fnOf "mend_holds" "mend_holds" (defArgs s_mend_holds) (defBody s_mend_holds) (defScope s_mend_holds) .none kV10 dc10 pm10 an10 cd10 ct10), sl10⟩) (c10 : PySem.W.codeIn K cd10 "mend_holds" = true) (k10 : PySem.W.keepIn K (.ref f10) = true)
    (a11 : PySem.W.nsIn K mainGlobals "_law_mixed" = some (some (.ref f11))) (l11 : K.lookup f11 = some ⟨oc11, od11, .func (PySem.W.fnOf "_law_mixed" "_law_mixed" (defArgs s__law_mixed) (defBody s__law_mixed) (defScope s__law_mixed) .none kV11 dc11 pm11 an11 cd11 ct11), sl11⟩) (c11 : PySem.W.codeIn K cd11 "_law_mixed" = true) (k11 : PySem.W.keepIn K (.ref f11) = true)
    (a12 : PySem.W.nsIn K mainGlobals "_law_draws" = some (some (.ref f12))) (l12 : K.lookup f12 = some ⟨oc12, od12, .func (PySem.W.fnOf "_law_draws" "_law_draws" (defArgs s__law_draws) (defBody s__law_draws) (defScope s__law_draws) .none kV12 dc12 pm12 an12 cd12 ct12), sl12⟩) (c12 : PySem.W.codeIn K cd12 "_law_draws" = true) (k12 : PySem.W.keepIn K (.ref f12) = true)
    (a13 : PySem.W.nsIn K mainGlobals "_law_next" = some (some (.ref f13))) (l13 : K.lookup f13 = some ⟨oc13, od13, .func (PySem.W.fnOf "_law_next" "_law_next" (defArgs s__law_next) (defBody s__law_next) (defScope s__law_next) .none kV13 dc13 pm13 an13 cd13 ct13), sl13⟩) (c13 : PySem.W.codeIn K cd13 "_law_next" = true) (k13 : PySem.W.keepIn K (.ref f13) = true)
    (a14 : PySem.W.nsIn K mainGlobals "_law_sum" = some (some (.ref f14))) (l14 : K.lookup f14 = some ⟨oc14, od14, .func (PySem.W.fnOf "_law_sum" "_law_sum" (defArgs s__law_sum) (defBody s__law_sum) (defScope s__law_sum) .none kV14 dc14 pm14 an14 cd14 ct14), sl14⟩) (c14 : PySem.W.codeIn K cd14 "_law_sum" = true) (k14 : PySem.W.keepIn K (.ref f14) = true)
    (a15 : PySem.W.nsIn K mainGlobals "_law_heads" = some (some (.ref f15))) (l15 : K.lookup f15 = some ⟨oc15, od15, .func (PySem.W.fnOf "_law_heads" "_law_heads" (defArgs s__law_heads) (defBody s__law_heads) (defScope s__law_heads) .none kV15 dc15 pm15 an15 cd15 ct15), sl15⟩) (c15 : PySem.W.codeIn K cd15 "_law_heads" = true) (k15 : PySem.W.keepIn K (.ref f15) = true)
    (a16 : PySem.W.nsIn K mainGlobals "_law_contents" = some (some (.ref f16))) (l16 : K.lookup f16 = some ⟨oc16, od16, .func (PySem.W.fnOf "_law_contents" "_law_contents" (defArgs s__law_contents) (defBody s__law_contents) (defScope s__law_contents) .none kV16 dc16 pm16 an16 cd16 ct16), sl16⟩) (c16 : PySem.W.codeIn K cd16 "_law_contents" = true) (k16 : PySem.W.keepIn K (.ref f16) = true)
    (a17 : PySem.W.nsIn K mainGlobals "_law_cell" = some (some (.ref f17))) (l17 : K.lookup f17 = some ⟨oc17, od17, .func (PySem.W.fnOf "_law_cell" "_law_cell" (defArgs s__law_cell) (defBody s__law_cell) (defScope s__law_cell) .none kV17 dc17 pm17 an17 cd17 ct17), sl17⟩) (c17 : PySem.W.codeIn K cd17 "_law_cell" = true) (k17 : PySem.W.keepIn K (.ref f17) = true)
    (a18 : PySem.W.nsIn K mainGlobals "_law_is_right" = some (some (.ref f18))) (l18 : K.lookup f18 = some ⟨oc18, od18, .func (PySem.W.fnOf "_law_is_right" "_law_is_right" (defArgs s__law_is_right) (defBody s__law_is_right) (defScope s__law_is_right) .none kV18 dc18 pm18 an18 cd18 ct18), sl18⟩) (c18 : PySem.W.codeIn K cd18 "_law_is_right" = true) (k18 : PySem.W.keepIn K (.ref f18) = true)
    (a19 : PySem.W.nsIn K mainGlobals "_law_fate" = some (some (.ref f19))) (l19 : K.lookup f19 = some ⟨oc19, od19, .func (PySem.W.fnOf "_law_fate" "_law_fate" (defArgs s__law_fate) (defBody s__law_fate) (defScope s__law_fate) .none kV19 dc19 pm19 an19 cd19 ct19), sl19⟩) (c19 : PySem.W.codeIn K cd19 "_law_fate" = true) (k19 : PySem.W.keepIn K (.ref f19) = true)
    (a20 : PySem.W.nsIn K mainGlobals "_law_spots" = some (some (.ref f20))) (l20 : K.lookup f20 = some ⟨oc20, od20, .func (PySem.W.fnOf "_law_spots" "_law_spots" (defArgs s__law_spots) (defBody s__law_spots) (defScope s__law_spots) .none kV20 dc20 pm20 an20 cd20 ct20), sl20⟩) (c20 : PySem.W.codeIn K cd20 "_law_spots" = true) (k20 : PySem.W.keepIn K (.ref f20) = true)
    (a21 : PySem.W.nsIn K mainGlobals "_law_due" = some (some (.ref f21))) (l21 : K.lookup f21 = some ⟨oc21, od21, .func (PySem.W.fnOf "_law_due" "_law_due" (defArgs s__law_due) (defBody s__law_due) (defScope s__law_due) .none kV21 dc21 pm21 an21 cd21 ct21), sl21⟩) (c21 : PySem.W.codeIn K cd21 "_law_due" = true) (k21 : PySem.W.keepIn K (.ref f21) = true)
    (a22 : PySem.W.nsIn K mainGlobals "_law_row_bent" = some (some (.ref f22))) (l22 : K.lookup f22 = some ⟨oc22, od22, .func (PySem.W.fnOf "_law_row_bent" "_law_row_bent" (defArgs s__law_row_bent) (defBody s__law_row_bent) (defScope s__law_row_bent) .none kV22 dc22 pm22 an22 cd22 ct22), sl22⟩) (c22 : PySem.W.codeIn K cd22 "_law_row_bent" = true) (k22 : PySem.W.keepIn K (.ref f22) = true)
    (a23 : PySem.W.nsIn K mainGlobals "_law_paper_bent" = some (some (.ref f23))) (l23 : K.lookup f23 = some ⟨oc23, od23, .func (PySem.W.fnOf "_law_paper_bent" "_law_paper_bent" (defArgs s__law_paper_bent) (defBody s__law_paper_bent) (defScope s__law_paper_bent) .none kV23 dc23 pm23 an23 cd23 ct23), sl23⟩) (c23 : PySem.W.codeIn K cd23 "_law_paper_bent" = true) (k23 : PySem.W.keepIn K (.ref f23) = true)
    (a24 : PySem.W.nsIn K mainGlobals "_law_one_for_true" = some (some (.ref f24))) (l24 : K.lookup f24 = some ⟨oc24, od24, .func (PySem.W.fnOf "_law_one_for_true" "_law_one_for_true" (defArgs s__law_one_for_true) (defBody s__law_one_for_true) (defScope s__law_one_for_true) .none kV24 dc24 pm24 an24 cd24 ct24), sl24⟩) (c24 : PySem.W.codeIn K cd24 "_law_one_for_true" = true) (k24 : PySem.W.keepIn K (.ref f24) = true)
    (a25 : PySem.W.nsIn K mainGlobals "_law_cells_bent" = some (some (.ref f25))) (l25 : K.lookup f25 = some ⟨oc25, od25, .func (PySem.W.fnOf "_law_cells_bent" "_law_cells_bent" (defArgs s__law_cells_bent) (defBody s__law_cells_bent) (defScope s__law_cells_bent) .none kV25 dc25 pm25 an25 cd25 ct25), sl25⟩) (c25 : PySem.W.codeIn K cd25 "_law_cells_bent" = true) (k25 : PySem.W.keepIn K (.ref f25) = true)
    (a26 : PySem.W.nsIn K mainGlobals "_law_like" = some (some (.ref f26))) (l26 : K.lookup f26 = some ⟨oc26, od26, .func (PySem.W.fnOf "_law_like" "_law_like" (defArgs s__law_like) (defBody s__law_like) (defScope s__law_like) .none kV26 dc26 pm26 an26 cd26 ct26), sl26⟩) (c26 : PySem.W.codeIn K cd26 "_law_like" = true) (k26 : PySem.W.keepIn K (.ref f26) = true)
    (a27 : PySem.W.nsIn K mainGlobals "law" = some (some (.ref f27))) (l27 : K.lookup f27 = some ⟨oc27, od27, .func (PySem.W.fnOf "law" "law" (defArgs s_law) (defBody s_law) (defScope s_law) .none kV27 dc27 pm27 an27 cd27 ct27), sl27⟩) (c27 : PySem.W.codeIn K cd27 "law" = true) (k27 : PySem.W.keepIn K (.ref f27) = true) : Top K mg :=
  { n_abs := PySem.W.mg_none_of X G z_abs,
    n_all := PySem.W.mg_none_of X G z_all,
    n_bool := PySem.W.mg_none_of X G z_bool,
    n_int := PySem.W.mg_none_of X G z_int,
    n_isinstance := PySem.W.mg_none_of X G z_isinstance,
    n_len := PySem.W.mg_none_of X G z_len,
    n_list := PySem.W.mg_none_of X G z_list,
    n_max := PySem.W.mg_none_of X G z_max,
    n_min := PySem.W.mg_none_of X G z_min,
    n_range := PySem.W.mg_none_of X G z_range,
    n_sorted := PySem.W.mg_none_of X G z_sorted,
    n_str := PySem.W.mg_none_of X G z_str,
    n_tuple := PySem.W.mg_none_of X G z_tuple,
    n_zip := PySem.W.mg_none_of X G z_zip,
    t_BOTH := tk_BOTH, g_BOTH := PySem.W.mg_of X G g_BOTH,
    t_FACTOR := tk_FACTOR, g_FACTOR := PySem.W.mg_of X G g_FACTOR,
    t_FIRST_MENDED := tk_FIRST_MENDED, g_FIRST_MENDED := PySem.W.mg_of X G g_FIRST_MENDED,
    t_NEITHER := tk_NEITHER, g_NEITHER := PySem.W.mg_of X G g_NEITHER,
    t_ROUND := tk_ROUND, g_ROUND := PySem.W.mg_of X G g_ROUND,
    t_SECOND_MENDED := tk_SECOND_MENDED, g_SECOND_MENDED := PySem.W.mg_of X G g_SECOND_MENDED,
    a_is_number := f0, d_is_number := _, F_is_number := fun_mk (st := s_is_number) l0 c0 k0, m_is_number := PySem.W.mg_of X G a0, b_is_number := (fun_mk (st := s_is_number) l0 c0 k0).binds (ps := ["one"]) fun _ _ _ _ _ _ us hl => match us, hl with | [_], _ => rfl,
    a_is_content := f1, d_is_content := _, F_is_content := fun_mk (st := s_is_content) l1 c1 k1, m_is_content := PySem.W.mg_of X G a1, b_is_content := (fun_mk (st := s_is_content) l1 c1 k1).binds (ps := ["one"]) fun _ _ _ _ _ _ us hl => match us, hl with | [_], _ => rfl,
    a_sum_of := f2, d_sum_of := _, F_sum_of := fun_mk (st := s_sum_of) l2 c2 k2, m_sum_of := PySem.W.mg_of X G a2, b_sum_of := (fun_mk (st := s_sum_of) l2 c2 k2).binds (ps := ["spot", "content"]) fun _ _ _ _ _ _ us hl => match us, hl with | [_, _], _ => rfl,
    a_is_right := f3, d_is_right := _, F_is_right := fun_mk (st := s_is_right) l3 c3 k3, m_is_right := PySem.W.mg_of X G a3, b_is_right := (fun_mk (st := s_is_right) l3 c3 k3).binds (ps := ["spot", "cell"]) fun _ _ _ _ _ _ us hl => match us, hl with | [_, _], _ => rfl,
    a_are_whole := f4, d_are_whole := _, F_are_whole := fun_mk (st := s_are_whole) l4 c4 k4, m_are_whole := PySem.W.mg_of X G a4, b_are_whole := (fun_mk (st := s_are_whole) l4 c4 k4).binds (ps := ["spot", "cells", "content"]) fun _ _ _ _ _ _ us hl => match us, hl with | [_, _, _], _ => rfl,
    a_fate_of := f5, d_fate_of := _, F_fate_of := fun_mk (st := s_fate_of) l5 c5 k5, m_fate_of := PySem.W.mg_of X G a5, b_fate_of := (fun_mk (st := s_fate_of) l5 c5 k5).binds (ps := ["spot", "cells", "content"]) fun _ _ _ _ _ _ us hl => match us, hl with | [_, _, _], _ => rfl,
    a_fates_of := f6, d_fates_of := _, F_fates_of := fun_mk (st := s_fates_of) l6 c6 k6, m_fates_of := PySem.W.mg_of X G a6, b_fates_of := (fun_mk (st := s_fates_of) l6 c6 k6).binds (ps := ["ahead", "spots"]) fun _ _ _ _ _ _ us hl => match us, hl with | [_, _], _ => rfl,
    a_is_paper := f7, d_is_paper := _, F_is_paper := fun_mk (st := s_is_paper) l7 c7 k7, m_is_paper := PySem.W.mg_of X G a7, b_is_paper := (fun_mk (st := s_is_paper) l7 c7 k7).binds (ps := ["one"]) fun _ _ _ _ _ _ us hl => match us, hl with | [_], _ => rfl,
    a_are_same := f8, d_are_same := _, F_are_same := fun_mk (st := s_are_same) l8 c8 k8, m_are_same := PySem.W.mg_of X G a8, b_are_same := (fun_mk (st := s_are_same) l8 c8 k8).binds (ps := ["one", "other"]) fun _ _ _ _ _ _ us hl => match us, hl with | [_, _], _ => rfl,
    a_cells_due := f9, d_cells_due := _, F_cells_due := fun_mk (st := s_cells_due) l9 c9 k9, m_cells_due := PySem.W.mg_of X G a9, b_cells_due := (fun_mk (st := s_cells_due) l9 c9 k9).binds (ps := ["ahead", "fates"]) fun _ _ _ _ _ _ us hl => match us, hl with | [_, _], _ => rfl,
    a_mend_holds := f10, d_mend_holds := _, F_mend_holds := fun_mk (st := s_mend_holds) l10 c10 k10, m_mend_holds := PySem.W.mg_of X G a10, b_mend_holds := (fun_mk (st := s_mend_holds) l10 c10 k10).binds (ps := ["paper", "ahead", "behind", "spots"]) fun _ _ _ _ _ _ us hl => match us, hl with | [_, _, _, _], _ => rfl,
    a__law_mixed := f11, d__law_mixed := _, F__law_mixed := fun_mk (st := s__law_mixed) l11 c11 k11, m__law_mixed := PySem.W.mg_of X G a11, b__law_mixed := (fun_mk (st := s__law_mixed) l11 c11 k11).binds (ps := ["_law_cell_here", "_law_k"]) fun _ _ _ _ _ _ us hl => match us, hl with | [_, _], _ => rfl,
    a__law_draws := f12, d__law_draws := _, F__law_draws := fun_mk (st := s__law_draws) l12 c12 k12, m__law_draws := PySem.W.mg_of X G a12, b__law_draws := (fun_mk (st := s__law_draws) l12 c12 k12).binds (ps := ["_law_script"]) fun _ _ _ _ _ _ us hl => match us, hl with | [_], _ => rfl,
    a__law_next := f13, d__law_next := _, F__law_next := fun_mk (st := s__law_next) l13 c13 k13, m__law_next := PySem.W.mg_of X G a13, b__law_next := (fun_mk (st := s__law_next) l13 c13 k13).binds (ps := ["_law_drawn"]) fun _ _ _ _ _ _ us hl => match us, hl with | [_], _ => rfl,
    a__law_sum := f14, d__law_sum := _, F__law_sum := fun_mk (st := s__law_sum) l14 c14 k14, m__law_sum := PySem.W.mg_of X G a14, b__law_sum := (fun_mk (st := s__law_sum) l14 c14 k14).binds (ps := ["_law_spot", "_law_content"]) fun _ _ _ _ _ _ us hl => match us, hl with | [_, _], _ => rfl,
    a__law_heads := f15, d__law_heads := _, F__law_heads := fun_mk (st := s__law_heads) l15 c15 k15, m__law_heads := PySem.W.mg_of X G a15, b__law_heads := (fun_mk (st := s__law_heads) l15 c15 k15).binds (ps := ["_law_root", "_law_many"]) fun _ _ _ _ _ _ us hl => match us, hl with | [_, _], _ => rfl,
    a__law_contents := f16, d__law_contents := _, F__law_contents := fun_mk (st := s__law_contents) l16 c16 k16, m__law_contents := PySem.W.mg_of X G a16, b__law_contents := (fun_mk (st := s__law_contents) l16 c16 k16).binds (ps := ["_law_heads_here", "_law_spot"]) fun _ _ _ _ _ _ us hl => match us, hl with | [_, _], _ => rfl,
    a__law_cell := f17, d__law_cell := _, F__law_cell := fun_mk (st := s__law_cell) l17 c17 k17, m__law_cell := PySem.W.mg_of X G a17, b__law_cell := (fun_mk (st := s__law_cell) l17 c17 k17).binds (ps := ["_law_spot", "_law_number", "_law_contents_here"]) fun _ _ _ _ _ _ us hl => match us, hl with | [_, _, _], _ => rfl,
    a__law_is_right := f18, d__law_is_right := _, F__law_is_right := fun_mk (st := s__law_is_right) l18 c18 k18, m__law_is_right := PySem.W.mg_of X G a18, b__law_is_right := (fun_mk (st := s__law_is_right) l18 c18 k18).binds (ps := ["_law_spot", "_law_cell_here"]) fun _ _ _ _ _ _ us hl => match us, hl with | [_, _], _ => rfl,
    a__law_fate := f19, d__law_fate := _, F__law_fate := fun_mk (st := s__law_fate) l19 c19 k19, m__law_fate := PySem.W.mg_of X G a19, b__law_fate := (fun_mk (st := s__law_fate) l19 c19 k19).binds (ps := ["_law_spot", "_law_first", "_law_second", "_law_content"]) fun _ _ _ _ _ _ us hl => match us, hl with | [_, _, _, _], _ => rfl,
    a__law_spots := f20, d__law_spots := _, F__law_spots := fun_mk (st := s__law_spots) l20 c20 k20, m__law_spots := PySem.W.mg_of X G a20, b__law_spots := (fun_mk (st := s__law_spots) l20 c20 k20).binds (ps := ["_law_drawn", "_law_heads_here", "_law_many"]) fun _ _ _ _ _ _ us hl => match us, hl with | [_, _, _], _ => rfl,
    a__law_due := f21, d__law_due := _, F__law_due := fun_mk (st := s__law_due) l21 c21 k21, m__law_due := PySem.W.mg_of X G a21, b__law_due := (fun_mk (st := s__law_due) l21 c21 k21).binds (ps := ["_law_cells", "_law_spots_here"]) fun _ _ _ _ _ _ us hl => match us, hl with | [_, _], _ => rfl,
    a__law_row_bent := f22, d__law_row_bent := _, F__law_row_bent := fun_mk (st := s__law_row_bent) l22 c22 k22, m__law_row_bent := PySem.W.mg_of X G a22, b__law_row_bent := (fun_mk (st := s__law_row_bent) l22 c22 k22).binds (ps := ["_law_row", "_law_number"]) fun _ _ _ _ _ _ us hl => match us, hl with | [_, _], _ => rfl,
    a__law_paper_bent := f23, d__law_paper_bent := _, F__law_paper_bent := fun_mk (st := s__law_paper_bent) l23 c23 k23, m__law_paper_bent := PySem.W.mg_of X G a23, b__law_paper_bent := (fun_mk (st := s__law_paper_bent) l23 c23 k23).binds (ps := ["_law_paper", "_law_number"]) fun _ _ _ _ _ _ us hl => match us, hl with | [_, _], _ => rfl,
    a__law_one_for_true := f24, d__law_one_for_true := _, F__law_one_for_true := fun_mk (st := s__law_one_for_true) l24 c24 k24, m__law_one_for_true := PySem.W.mg_of X G a24, b__law_one_for_true := (fun_mk (st := s__law_one_for_true) l24 c24 k24).binds (ps := ["_law_cell_here"]) fun _ _ _ _ _ _ us hl => match us, hl with | [_], _ => rfl,
    a__law_cells_bent := f25, d__law_cells_bent := _, F__law_cells_bent := fun_mk (st := s__law_cells_bent) l25 c25 k25, m__law_cells_bent := PySem.W.mg_of X G a25, b__law_cells_bent := (fun_mk (st := s__law_cells_bent) l25 c25 k25).binds (ps := ["_law_cells", "_law_heads_here", "_law_number"]) fun _ _ _ _ _ _ us hl => match us, hl with | [_, _, _], _ => rfl,
    a__law_like := f26, d__law_like := _, F__law_like := fun_mk (st := s__law_like) l26 c26 k26, m__law_like := PySem.W.mg_of X G a26, b__law_like := (fun_mk (st := s__law_like) l26 c26 k26).binds (ps := ["_law_one", "_law_other"]) fun _ _ _ _ _ _ us hl => match us, hl with | [_, _], _ => rfl,
    a_law := f27, d_law := _, F_law := fun_mk (st := s_law) l27 c27 k27, m_law := PySem.W.mg_of X G a27, b_law := (fun_mk (st := s_law) l27 c27 k27).binds (ps := ["_law_script"]) fun _ _ _ _ _ _ us hl => match us, hl with | [_], _ => rfl }
theorem all_mk {l : PySem.W.OpenLaw} {w : World} {K : PySem.W.Frag} {h : Heap} {mg : Str → Option Value} {fa : Addr} {tk_BOTH : Tok} {tk_FACTOR : Tok} {tk_FIRST_MENDED : Tok} {tk_NEITHER : Tok} {tk_ROUND : Tok} {tk_SECOND_MENDED : Tok} {f0 : Addr} {od0 an0 : Option Addr} {sl0 : Array (Option Value)} {oc0 kV0 dc0 pm0 cd0 ct0 : Value} {f1 : Addr} {od1 an1 : Option Addr} {sl1 : Array (Option Value)} {oc1 kV1 dc1 pm1 cd1 ct1 : Value} {f2 : Addr} {od2 an2 : Option Addr} {sl2 : Array (Option Value)} {oc2 kV2 dc2 pm2 cd2 ct2 : Value} {f3 : Addr} {od3 an3 : Option Addr} {sl3 : Array (Option Value)} {oc3 kV3 dc3 pm3 cd3 ct3 : Value} {f4 : Addr} {od4 an4 : Option Addr} {sl4 : Array (Option Value)} {oc4 kV4 dc4 pm4 cd4 ct4 : Value} {f5 : Addr} {od5 an5 : Option Addr} {sl5 : Array (Option Value)} {oc5 kV5 dc5 pm5 cd5 ct5 : Value} {f6 : Addr} {od6 an6 : Option Addr} {sl6 : Array (Option Value)} {oc6 kV6 dc6 pm6 cd6 ct6 : Value} {f7 : Addr} {od7 an7 : Option Addr} {sl7 : Array (Option Value)} {oc7 kV7 dc7 pm7 cd7 ct7 : Value} {f8 : Addr} {od8 an8 : Option Addr} {sl8 : Array (Option Value)} {oc8 kV8 dc8 pm8 cd8 ct8 : Value} {f9 : Addr} {od9 an9 : Option Addr} {sl9 : Array (Option Value)} {oc9 kV9 dc9 pm9 cd9 ct9 : Value} {f10 : Addr} {od10 an10 : Option Addr} {sl10 : Array (Option Value)} {oc10 kV10 dc10 pm10 cd10 ct10 : Value} {f11 : Addr} {od11 an11 : Option Addr} {sl11 : Array (Option Value)} {oc11 kV11 dc11 pm11 cd11 ct11 : Value} {f12 : Addr} {od12 an12 : Option Addr} {sl12 : Array (Option Value)} {oc12 kV12 dc12 pm12 cd12 ct12 : Value} {f13 : Addr} {od13 an13 : Option Addr} {sl13 : Array (Option Value)} {oc13 kV13 dc13 pm13 cd13 ct13 : Value} {f14 : Addr} {od14 an14 : Option Addr} {sl14 : Array (Option Value)} {oc14 kV14 dc14 pm14 cd14 ct14 : Value} {f15 : Addr} {od15 an15 : Option Addr} {sl15 : Array (Option Value)} {oc15 kV15 dc15 pm15 cd15 ct15 : Value} {f16 : Addr} {od16 an16 : Option Addr} {sl16 : Array (Option Value)} {oc16 kV16 dc16 pm16 cd16 ct16 : Value} {f17 : Addr} {od17 an17 : Option Addr} {sl17 : Array (Option Value)} {oc17 kV17 dc17 pm17 cd17 ct17 : Value} {f18 : Addr} {od18 an18 : Option Addr} {sl18 : Array (Option Value)} {oc18 kV18 dc18 pm18 cd18 ct18 : Value} {f19 : Addr} {od19 an19 : Option Addr} {sl19 : Array (Option Value)} {oc19 kV19 dc19 pm19 cd19 ct19 : Value} {f20 : Addr} {od20 an20 : Option Addr} {sl20 : Array (Option Value)} {oc20 kV20 dc20 pm20 cd20 ct20 : Value} {f21 : Addr} {od21 an21 : Option Addr} {sl21 : Array (Option Value)} {oc21 kV21 dc21 pm21 cd21 ct21 : Value} {f22 : Addr} {od22 an22 : Option Addr} {sl22 : Array (Option Value)} {oc22 kV22 dc22 pm22 cd22 ct22 : Value} {f23 : Addr} {od23 an23 : Option Addr} {sl23 : Array (Option Value)} {oc23 kV23 dc23 pm23 cd23 ct23 : Value} {f24 : Addr} {od24 an24 : Option Addr} {sl24 : Array (Option Value)} {oc24 kV24 dc24 pm24 cd24 ct24 : Value} {f25 : Addr} {od25 an25 : Option Addr} {sl25 : Array (Option Value)} {oc25 kV25 dc25 pm25 cd25 ct25 : Value} {f26 : Addr} {od26 an26 : Option Addr} {sl26 : Array (Option Value)} {oc26 kV26 dc26 pm26 cd26 ct26 : Value} {f27 : Addr} {od27 an27 : Option Addr} {sl27 : Array (Option Value)} {oc27 kV27 dc27 pm27 cd27 ct27 : Value} (X : K.In h) (G : h.Ns mainGlobals mg) (hfa : mg "law" = some (.ref fa))
    (z_abs : PySem.W.nsIn K mainGlobals "abs" = some none)
    (z_all : PySem.W.nsIn K mainGlobals "all" = some none)
    (z_bool : PySem.W.nsIn K mainGlobals "bool" = some none)
    (z_int : PySem.W.nsIn K mainGlobals "int" = some none)
    (z_isinstance : PySem.W.nsIn K mainGlobals "isinstance" = some none)
    (z_len : PySem.W.nsIn K mainGlobals "len" = some none)
    (z_list : PySem.W.nsIn K mainGlobals "list" = some none)
    (z_max : PySem.W.nsIn K mainGlobals "max" = some none)
    (z_min : PySem.W.nsIn K mainGlobals "min" = some none)
    (z_range : PySem.W.nsIn K mainGlobals "range" = some none)
    (z_sorted : PySem.W.nsIn K mainGlobals "sorted" = some none)
    (z_str : PySem.W.nsIn K mainGlobals "str" = some none)
    (z_tuple : PySem.W.nsIn K mainGlobals "tuple" = some none)
    (z_zip : PySem.W.nsIn K mainGlobals "zip" = some none)
    (g_BOTH : PySem.W.nsIn K mainGlobals "BOTH" = some (some (.int 0 tk_BOTH)))
    (g_FACTOR : PySem.W.nsIn K mainGlobals "FACTOR" = some (some (.int 65599 tk_FACTOR)))
    (g_FIRST_MENDED : PySem.W.nsIn K mainGlobals "FIRST_MENDED" = some (some (.int 1 tk_FIRST_MENDED)))
    (g_NEITHER : PySem.W.nsIn K mainGlobals "NEITHER" = some (some (.int 3 tk_NEITHER)))
    (g_ROUND : PySem.W.nsIn K mainGlobals "ROUND" = some (some (.int 2147483647 tk_ROUND)))
    (g_SECOND_MENDED : PySem.W.nsIn K mainGlobals "SECOND_MENDED" = some (some (.int 2 tk_SECOND_MENDED)))
    (a0 : PySem.W.nsIn K mainGlobals "is_number" = some (some (.ref f0))) (l0 : K.lookup f0 = some ⟨oc0, od0, .func (PySem.W.fnOf "is_number" "is_number" (defArgs s_is_number) (defBody s_is_number) (defScope s_is_number) .none kV0 dc0 pm0 an0 cd0 ct0), sl0⟩) (c0 : PySem.W.codeIn K cd0 "is_number" = true) (k0 : PySem.W.keepIn K (.ref f0) = true)
    (a1 : PySem.W.nsIn K mainGlobals "is_content" = some (some (.ref f1))) (l1 : K.lookup f1 = some ⟨oc1, od1, .func (PySem.W.fnOf "is_content" "is_content" (defArgs s_is_content) (defBody s_is_content) (defScope s_is_content) .none kV1 dc1 pm1 an1 cd1 ct1), sl1⟩) (c1 : PySem.W.codeIn K cd1 "is_content" = true) (k1 : PySem.W.keepIn K (.ref f1) = true)
    (a2 : PySem.W.nsIn K mainGlobals "sum_of" = some (some (.ref f2))) (l2 : K.lookup f2 = some ⟨oc2, od2, .func (PySem.W.fnOf "sum_of" "sum_of" (defArgs s_sum_of) (defBody s_sum_of) (defScope s_sum_of) .none kV2 dc2 pm2 an2 cd2 ct2), sl2⟩) (c2 : PySem.W.codeIn K cd2 "sum_of" = true) (k2 : PySem.W.keepIn K (.ref f2) = true)
    (a3 : PySem.W.nsIn K mainGlobals "is_right" = some (some (.ref f3))) (l3 : K.lookup f3 = some ⟨oc3, od3, .func (PySem.W.fnOf "is_right" "is_right" (defArgs s_is_right) (defBody s_is_right) (defScope s_is_right) .none kV3 dc3 pm3 an3 cd3 ct3), sl3⟩) (c3 : PySem.W.codeIn K cd3 "is_right" = true) (k3 : PySem.W.keepIn K (.ref f3) = true)
    (a4 : PySem.W.nsIn K mainGlobals "are_whole" = some (some (.ref f4))) (l4 : K.lookup f4 = some ⟨oc4, od4, .func (PySem.W.fnOf "are_whole" "are_whole" (defArgs s_are_whole) (defBody s_are_whole) (defScope s_are_whole) .none kV4 dc4 pm4 an4 cd4 ct4), sl4⟩) (c4 : PySem.W.codeIn K cd4 "are_whole" = true) (k4 : PySem.W.keepIn K (.ref f4) = true)
    (a5 : PySem.W.nsIn K mainGlobals "fate_of" = some (some (.ref f5))) (l5 : K.lookup f5 = some ⟨oc5, od5, .func (PySem.W.fnOf "fate_of" "fate_of" (defArgs s_fate_of) (defBody s_fate_of) (defScope s_fate_of) .none kV5 dc5 pm5 an5 cd5 ct5), sl5⟩) (c5 : PySem.W.codeIn K cd5 "fate_of" = true) (k5 : PySem.W.keepIn K (.ref f5) = true)
    (a6 : PySem.W.nsIn K mainGlobals "fates_of" = some (some (.ref f6))) (l6 : K.lookup f6 = some ⟨oc6, od6, .func (PySem.W.fnOf "fates_of" "fates_of" (defArgs s_fates_of) (defBody s_fates_of) (defScope s_fates_of) .none kV6 dc6 pm6 an6 cd6 ct6), sl6⟩) (c6 : PySem.W.codeIn K cd6 "fates_of" = true) (k6 : PySem.W.keepIn K (.ref f6) = true)
    (a7 : PySem.W.nsIn K mainGlobals "is_paper" = some (some (.ref f7))) (l7 : K.lookup f7 = some ⟨oc7, od7, .func (PySem.W.fnOf "is_paper" "is_paper" (defArgs s_is_paper) (defBody s_is_paper) (defScope s_is_paper) .none kV7 dc7 pm7 an7 cd7 ct7), sl7⟩) (c7 : PySem.W.codeIn K cd7 "is_paper" = true) (k7 : PySem.W.keepIn K (.ref f7) = true)
    (a8 : PySem.W.nsIn K mainGlobals "are_same" = some (some (.ref f8))) (l8 : K.lookup f8 = some ⟨oc8, od8, .func (PySem.W.fnOf "are_same" "are_same" (defArgs s_are_same) (defBody s_are_same) (defScope s_are_same) .none kV8 dc8 pm8 an8 cd8 ct8), sl8⟩) (c8 : PySem.W.codeIn K cd8 "are_same" = true) (k8 : PySem.W.keepIn K (.ref f8) = true)
    (a9 : PySem.W.nsIn K mainGlobals "cells_due" = some (some (.ref f9))) (l9 : K.lookup f9 = some ⟨oc9, od9, .func (PySem.W.fnOf "cells_due" "cells_due" (defArgs s_cells_due) (defBody s_cells_due) (defScope s_cells_due) .none kV9 dc9 pm9 an9 cd9 ct9), sl9⟩) (c9 : PySem.W.codeIn K cd9 "cells_due" = true) (k9 : PySem.W.keepIn K (.ref f9) = true)
    (a10 : PySem.W.nsIn K mainGlobals "mend_holds" = some (some (.ref f10))) (l10 : K.lookup f10 = some ⟨oc10, od10, .func (PySem.W.fnOf "mend_holds" "mend_holds" (defArgs s_mend_holds) (defBody s_mend_holds) (defScope s_mend_holds) .none kV10 dc10 pm10 an10 cd10 ct10), sl10⟩) (c10 : PySem.W.codeIn K cd10 "mend_holds" = true) (k10 : PySem.W.keepIn K (.ref f10) = true)
    (a11 : PySem.W.nsIn K mainGlobals "_law_mixed" = some (some (.ref f11))) (l11 : K.lookup f11 = some ⟨oc11, od11, .func (PySem.W.fnOf "_law_mixed" "_law_mixed" (defArgs s__law_mixed) (defBody s__law_mixed) (defScope s__law_mixed) .none kV11 dc11 pm11 an11 cd11 ct11), sl11⟩) (c11 : PySem.W.codeIn K cd11 "_law_mixed" = true) (k11 : PySem.W.keepIn K (.ref f11) = true)
    (a12 : PySem.W.nsIn K mainGlobals "_law_draws" = some (some (.ref f12))) (l12 : K.lookup f12 = some ⟨oc12, od12, .func (PySem.W.fnOf "_law_draws" "_law_draws" (defArgs s__law_draws) (defBody s__law_draws) (defScope s__law_draws) .none kV12 dc12 pm12 an12 cd12 ct12), sl12⟩) (c12 : PySem.W.codeIn K cd12 "_law_draws" = true) (k12 : PySem.W.keepIn K (.ref f12) = true)
    (a13 : PySem.W.nsIn K mainGlobals "_law_next" = some (some (.ref f13))) (l13 : K.lookup f13 = some ⟨oc13, od13, .func (PySem.W.fnOf "_law_next" "_law_next" (defArgs s__law_next) (defBody s__law_next) (defScope s__law_next) .none kV13 dc13 pm13 an13 cd13 ct13), sl13⟩) (c13 : PySem.W.codeIn K cd13 "_law_next" = true) (k13 : PySem.W.keepIn K (.ref f13) = true)
    (a14 : PySem.W.nsIn K mainGlobals "_law_sum" = some (some (.ref f14))) (l14 : K.lookup f14 = some ⟨oc14, od14, .func (PySem.W.fnOf "_law_sum" "_law_sum" (defArgs s__law_sum) (defBody s__law_sum) (defScope s__law_sum) .none kV14 dc14 pm14 an14 cd14 ct14), sl14⟩) (c14 : PySem.W.codeIn K cd14 "_law_sum" = true) (k14 : PySem.W.keepIn K (.ref f14) = true)
    (a15 : PySem.W.nsIn K mainGlobals "_law_heads" = some (some (.ref f15))) (l15 : K.lookup f15 = some ⟨oc15, od15, .func (PySem.W.fnOf "_law_heads" "_law_heads" (defArgs s__law_heads) (defBody s__law_heads) (defScope s__law_heads) .none kV15 dc15 pm15 an15 cd15 ct15), sl15⟩) (c15 : PySem.W.codeIn K cd15 "_law_heads" = true) (k15 : PySem.W.keepIn K (.ref f15) = true)
    (a16 : PySem.W.nsIn K mainGlobals "_law_contents" = some (some (.ref f16))) (l16 : K.lookup f16 = some ⟨oc16, od16, .func (PySem.W.fnOf "_law_contents" "_law_contents" (defArgs s__law_contents) (defBody s__law_contents) (defScope s__law_contents) .none kV16 dc16 pm16 an16 cd16 ct16), sl16⟩) (c16 : PySem.W.codeIn K cd16 "_law_contents" = true) (k16 : PySem.W.keepIn K (.ref f16) = true)
    (a17 : PySem.W.nsIn K mainGlobals "_law_cell" = some (some (.ref f17))) (l17 : K.lookup f17 = some ⟨oc17, od17, .func (PySem.W.fnOf "_law_cell" "_law_cell" (defArgs s__law_cell) (defBody s__law_cell) (defScope s__law_cell) .none kV17 dc17 pm17 an17 cd17 ct17), sl17⟩) (c17 : PySem.W.codeIn K cd17 "_law_cell" = true) (k17 : PySem.W.keepIn K (.ref f17) = true)
    (a18 : PySem.W.nsIn K mainGlobals "_law_is_right" = some (some (.ref f18))) (l18 : K.lookup f18 = some ⟨oc18, od18, .func (PySem.W.fnOf "_law_is_right" "_law_is_right" (defArgs s__law_is_right) (defBody s__law_is_right) (defScope s__law_is_right) .none kV18 dc18 pm18 an18 cd18 ct18), sl18⟩) (c18 : PySem.W.codeIn K cd18 "_law_is_right" = true) (k18 : PySem.W.keepIn K (.ref f18) = true)
    (a19 : PySem.W.nsIn K mainGlobals "_law_fate" = some (some (.ref f19))) (l19 : K.lookup f19 = some ⟨oc19, od19, .func (PySem.W.fnOf "_law_fate" "_law_fate" (defArgs s__law_fate) (defBody s__law_fate) (defScope s__law_fate) .none kV19 dc19 pm19 an19 cd19 ct19), sl19⟩) (c19 : PySem.W.codeIn K cd19 "_law_fate" = true) (k19 : PySem.W.keepIn K (.ref f19) = true)
    (a20 : PySem.W.nsIn K mainGlobals "_law_spots" = some (some (.ref f20))) (l20 : K.lookup f20 = some ⟨oc20, od20, .func (PySem.W.fnOf "_law_spots" "_law_spots" (defArgs s__law_spots) (defBody s__law_spots) (defScope s__law_spots) .none kV20 dc20 pm20 an20 cd20 ct20), sl20⟩) (c20 : PySem.W.codeIn K cd20 "_law_spots" = true) (k20 : PySem.W.keepIn K (.ref f20) = true)
    (a21 : PySem.W.nsIn K mainGlobals "_law_due" = some (some (.ref f21))) (l21 : K.lookup f21 = some ⟨oc21, od21, .func (PySem.W.fnOf "_law_due" "_law_due" (defArgs s__law_due) (defBody s__law_due) (defScope s__law_due) .none kV21 dc21 pm21 an21 cd21 ct21), sl21⟩) (c21 : PySem.W.codeIn K cd21 "_law_due" = true) (k21 : PySem.W.keepIn K (.ref f21) = true)
    (a22 : PySem.W.nsIn K mainGlobals "_law_row_bent" = some (some (.ref f22))) (l22 : K.lookup f22 = some ⟨oc22, od22, .func (PySem.W.fnOf "_law_row_bent" "_law_row_bent" (defArgs s__law_row_bent) (defBody s__law_row_bent) (defScope s__law_row_bent) .none kV22 dc22 pm22 an22 cd22 ct22), sl22⟩) (c22 : PySem.W.codeIn K cd22 "_law_row_bent" = true) (k22 : PySem.W.keepIn K (.ref f22) = true)
    (a23 : PySem.W.nsIn K mainGlobals "_law_paper_bent" = some (some (.ref f23))) (l23 : K.lookup f23 = some ⟨oc23, od23, .func (PySem.W.fnOf "_law_paper_bent" "_law_paper_bent" (defArgs s__law_paper_bent) (defBody s__law_paper_bent) (defScope s__law_paper_bent) .none kV23 dc23 pm23 an23 cd23 ct23), sl23⟩) (c23 : PySem.W.codeIn K cd23 "_law_paper_bent" = true) (k23 : PySem.W.keepIn K (.ref f23) = true)
    (a24 : PySem.W.nsIn K mainGlobals "_law_one_for_true" = some (some (.ref f24))) (l24 : K.lookup f24 = some ⟨oc24, od24, .func (PySem.W.fnOf "_law_one_for_true" "_law_one_for_true" (defArgs s__law_one_for_true) (defBody s__law_one_for_true) (defScope s__law_one_for_true) .none kV24 dc24 pm24 an24 cd24 ct24), sl24⟩) (c24 : PySem.W.codeIn K cd24 "_law_one_for_true" = true) (k24 : PySem.W.keepIn K (.ref f24) = true)
    (a25 : PySem.W.nsIn K mainGlobals "_law_cells_bent" = some (some (.ref f25))) (l25 : K.lookup f25 = some ⟨oc25, od25, .func (PySem.W.fnOf "_law_cells_bent" "_law_cells_bent" (defArgs s__law_cells_bent) (defBody s__law_cells_bent) (defScope s__law_cells_bent) .none kV25 dc25 pm25 an25 cd25 ct25), sl25⟩) (c25 : PySem.W.codeIn K cd25 "_law_cells_bent" = true) (k25 : PySem.W.keepIn K (.ref f25) = true)
    (a26 : PySem.W.nsIn K mainGlobals "_law_like" = some (some (.ref f26))) (l26 : K.lookup f26 = some ⟨oc26, od26, .func (PySem.W.fnOf "_law_like" "_law_like" (defArgs s__law_like) (defBody s__law_like) (defScope s__law_like) .none kV26 dc26 pm26 an26 cd26 ct26), sl26⟩) (c26 : PySem.W.codeIn K cd26 "_law_like" = true) (k26 : PySem.W.keepIn K (.ref f26) = true)
    (a27 : PySem.W.nsIn K mainGlobals "law" = some (some (.ref f27))) (l27 : K.lookup f27 = some ⟨oc27, od27, .func (PySem.W.fnOf "law" "law" (defArgs s_law) (defBody s_law) (defScope s_law) .none kV27 dc27 pm27 an27 cd27 ct27), sl27⟩) (c27 : PySem.W.codeIn K cd27 "law" = true) (k27 : PySem.W.keepIn K (.ref f27) = true) :
    ∃ fd : FuncData, (∀ (s : Shared) (v : Value), BindsTo s fd ⟨[v], []⟩ [("_law_script", v)]) ∧ ∀ base : Heap, K.In base → base.Ns mainGlobals mg → RunsG l.prog w K mg base 8 fa fd ["_law_script"] (spD K C_law) := by
  have e := hfa.symm.trans (PySem.W.mg_of X G a27)
  cases e
  exact ⟨PySem.W.fnOf "law" "law" (defArgs s_law) (defBody s_law) (defScope s_law) .none kV27 dc27 pm27 an27 cd27 ct27, fun s v => .of_eq rfl, fun base _ _ => ok_law (top_mk X G z_abs z_all z_bool z_int z_isinstance z_len z_list z_max z_min z_range z_sorted z_str z_tuple z_zip g_BOTH g_FACTOR g_FIRST_MENDED g_NEITHER g_ROUND g_SECOND_MENDED a0 l0 c0 k0 a1 l1 c1 k1 a2 l2 c2 k2 a3 l3 c3 k3 a4 l4 c4 k4 a5 l5 c5 k5 a6 l6 c6 k6 a7 l7 c7 k7 a8 l8 c8 k8 a9 l9 c9 k9 a10 l10 c10 k10 a11 l11 c11 k11 a12 l12 c12 k12 a13 l13 c13 k13 a14 l14 c14 k14 a15 l15 c15 k15 a16 l16 c16 k16 a17 l17 c17 k17 a18 l18 c18 k18 a19 l19 c19 k19 a20 l20 c20 k20 a21 l21 c21 k21 a22 l22 c22 k22 a23 l23 c23 k23 a24 l24 c24 k24 a25 l25 c25 k25 a26 l26 c26 k26 a27 l27 c27 k27)⟩
theorem walk {l : PySem.W.OpenLaw} {q : Program} {loose : List Str} {XP : (Str → Option Value) → Heap → Prop} {YP : World → Heap → Prop} {d : DefRec} {K : Params → PySem.W.Frag} (hn : l.most = some 63) (hdf : d.params.defaults = [])
    (hY : ∀ (w : World) (h : Heap), YP w h → (K w.params).In h)
    (F : ∀ (w : World) (mg : Str → Option Value) (fa : Addr) (h : Heap), (K w.params).In h → h.Ns mainGlobals mg → mg d.name = some (.ref fa) →
      ∃ fd : FuncData, (∀ (s : Shared) (u : Value), BindsTo s fd ⟨[u], []⟩ [("_law_script", u)]) ∧ ∀ base : Heap, (K w.params).In base → base.Ns mainGlobals mg → RunsG l.prog w (K w.params) mg base 8 fa fd ["_law_script"] (spD (K w.params) C_law)) :
    PySem.W.WalkO q loose XP YP l.row.toRowW d [] (fun f vs => PySem.call f vs) :=
  walkG (n := 63) (k := 8) (x := "_law_script") hn (by decide) hdf ⟨rfl, by decide, by decide⟩ hY F fun ns μ hl hμ => ⟨ns, rfl, hl, hμ, rfl⟩
end K71
open PySem PySem.W PyProof.Rows
set_option maxRecDepth 100000 in
set_option maxHeartbeats 0 in
theorem PySem.Challenge.cw_snapshelf_k71_looks_at_mend_papers_holds : PySem.Challenge.rw_snapshelf_k71_looks_at_mend_papers.Holds := by
  w_on; o_law; k_head; (case hw => w_witness2)
  k_fill
  refine K71.walk (l := PySem.Challenge.rw_snapshelf_k71_looks_at_mend_papers) rfl rfl (fun w h Y => PySem.W.kIn_of Y) ?F
  case F =>
    intro w mg fa h KX G hmg
    refine' K71.all_mk KX G hmg ?z_abs ?z_all ?z_bool ?z_int ?z_isinstance ?z_len ?z_list ?z_max ?z_min ?z_range ?z_sorted ?z_str ?z_tuple ?z_zip ?g_BOTH ?g_FACTOR ?g_FIRST_MENDED ?g_NEITHER ?g_ROUND ?g_SECOND_MENDED ?a0 ?l0 ?c0 ?k0 ?a1 ?l1 ?c1 ?k1 ?a2 ?l2 ?c2 ?k2 ?a3 ?l3 ?c3 ?k3 ?a4 ?l4 ?c4 ?k4 ?a5 ?l5 ?c5 ?k5 ?a6 ?l6 ?c6 ?k6 ?a7 ?l7 ?c7 ?k7 ?a8 ?l8 ?c8 ?k8 ?a9 ?l9 ?c9 ?k9 ?a10 ?l10 ?c10 ?k10 ?a11 ?l11 ?c11 ?k11 ?a12 ?l12 ?c12 ?k12 ?a13 ?l13 ?c13 ?k13 ?a14 ?l14 ?c14 ?k14 ?a15 ?l15 ?c15 ?k15 ?a16 ?l16 ?c16 ?k16 ?a17 ?l17 ?c17 ?k17 ?a18 ?l18 ?c18 ?k18 ?a19 ?l19 ?c19 ?k19 ?a20 ?l20 ?c20 ?k20 ?a21 ?l21 ?c21 ?k21 ?a22 ?l22 ?c22 ?k22 ?a23 ?l23 ?c23 ?k23 ?a24 ?l24 ?c24 ?k24 ?a25 ?l25 ?c25 ?k25 ?a26 ?l26 ?c26 ?k26 ?a27 ?l27 ?c27 ?k27
    (case z_abs => k_is)
    (case z_all => k_is)
    (case z_bool => k_is)
    (case z_int => k_is)
    (case z_isinstance => k_is)
    (case z_len => k_is)
    (case z_list => k_is)
    (case z_max => k_is)
    (case z_min => k_is)
    (case z_range => k_is)
    (case z_sorted => k_is)
    (case z_str => k_is)
    (case z_tuple => k_is)
    (case z_zip => k_is)
    (case g_BOTH => k_is)
    (case g_FACTOR => k_is)
    (case g_FIRST_MENDED => k_is)
    (case g_NEITHER => k_is)
    (case g_ROUND => k_is)
    (case g_SECOND_MENDED => k_is)
    (case a0 => k_is)
    (case l0 => k_is)
    (case c0 => k_is)
    (case k0 => k_is)
    (case a1 => k_is)
    (case l1 => k_is)
    (case c1 => k_is)
    (case k1 => k_is)
    (case a2 => k_is)
    (case l2 => k_is)
    (case c2 => k_is)
    (case k2 => k_is)
    (case a3 => k_is)
    (case l3 => k_is)
    (case c3 => k_is)
    (case k3 => k_is)
    (case a4 => k_is)
    (case l4 => k_is)
    (case c4 => k_is)
    (case k4 => k_is)
    (case a5 => k_is)
    (case l5 => k_is)
    (case c5 => k_is)
    (case k5 => k_is)
    (case a6 => k_is)
    (case l6 => k_is)
    (case c6 => k_is)
    (case k6 => k_is)
    (case a7 => k_is)
    (case l7 => k_is)
    (case c7 => k_is)
    (case k7 => k_is)
    (case a8 => k_is)
    (case l8 => k_is)
    (case c8 => k_is)
    (case k8 => k_is)
    (case a9 => k_is)
    (case l9 => k_is)
    (case c9 => k_is)
    (case k9 => k_is)
    (case a10 => k_is)
    (case l10 => k_is)
    (case c10 => k_is)
    (case k10 => k_is)
    (case a11 => k_is)
    (case l11 => k_is)
    (case c11 => k_is)
    (case k11 => k_is)
    (case a12 => k_is)
    (case l12 => k_is)
    (case c12 => k_is)
    (case k12 => k_is)
    (case a13 => k_is)
    (case l13 => k_is)
    (case c13 => k_is)
    (case k13 => k_is)
    (case a14 => k_is)
    (case l14 => k_is)
    (case c14 => k_is)
    (case k14 => k_is)
    (case a15 => k_is)
    (case l15 => k_is)
    (case c15 => k_is)
    (case k15 => k_is)
    (case a16 => k_is)
    (case l16 => k_is)
    (case c16 => k_is)
    (case k16 => k_is)
    (case a17 => k_is)
    (case l17 => k_is)
    (case c17 => k_is)
    (case k17 => k_is)
    (case a18 => k_is)
    (case l18 => k_is)
    (case c18 => k_is)
    (case k18 => k_is)
    (case a19 => k_is)
    (case l19 => k_is)
    (case c19 => k_is)
    (case k19 => k_is)
    (case a20 => k_is)
    (case l20 => k_is)
    (case c20 => k_is)
    (case k20 => k_is)
    (case a21 => k_is)
    (case l21 => k_is)
    (case c21 => k_is)
    (case k21 => k_is)
    (case a22 => k_is)
    (case l22 => k_is)
    (case c22 => k_is)
    (case k22 => k_is)
    (case a23 => k_is)
    (case l23 => k_is)
    (case c23 => k_is)
    (case k23 => k_is)
    (case a24 => k_is)
    (case l24 => k_is)
    (case c24 => k_is)
    (case k24 => k_is)
    (case a25 => k_is)
    (case l25 => k_is)
    (case c25 => k_is)
    (case k25 => k_is)
    (case a26 => k_is)
    (case l26 => k_is)
    (case c26 => k_is)
    (case k26 => k_is)
    (case a27 => k_is)
    (case l27 => k_is)
    (case c27 => k_is)
    (case k27 => k_is)
