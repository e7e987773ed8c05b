import PyProof.Rows.All
import Wide.All
import OpenK.AllK
import Wide.FinOn
import HandS.ForMost
import HandS.Deep
import HandS.Conv
import HandS.Flow
import KE.KDictKeyed
import KE.SortData
import HandS.TupAny
import HandS.TupLe
import HandS.Defaults
import KE.GoesNew
import KE.GoesMore
import KE.DataMinMax
import HandS.IsInst
import KE.KDictCopyH
import HandS.DictComp
import HandS.Style
import HandS.HeadHook2
import HandS.Text
import HandS.RaiseMore
import HandS.Head0
import HandS.Head1
import HandS.Head2
import HandS.HeadEnd
import HandS.HeadHook1
import HandS.HeadHook3
import HandS.HeadHook4
import PySem.Challenge.RW_cubegrounds_k81_whole_powers_of_patterns
set_option Elab.async false
set_option linter.all false
set_option maxRecDepth 100000
set_option maxHeartbeats 4000000
/-! The data layer, part 1: trees of data, what in the heap stands for them, who owns what. -/
namespace Dt
open PySem PySem.Spec PyProof.Rows L2

/-- a value as a tree, without addresses -/
inductive D where
  | non | bl (b : Bool) | int (i : Int) | str (x : Str) | tup (xs : List D) | lst (xs : List D) | dic (kvs : List (D × D)) | set (xs : List D) | obj (a : Addr) | scr (ns : List Int)
instance : Inhabited D := ⟨.non⟩

mutual
def toPy : D → Option PyData
  | .non => some .none
  | .bl b => some (.bool b)
  | .int i => some (.int i)
  | .str x => some (.str x)
  | .tup xs => (toPys xs).map .tuple
  | .lst xs => (toPys xs).map .list
  | _ => none
def toPys : List D → Option (List PyData)
  | [] => some []
  | d :: ds => match toPy d, toPys ds with
    | some x, some xs => some (x :: xs)
    | _, _ => none
end

mutual
def D.key : D → Option NestedKey
  | .non => some .none
  | .bl b => some (.num (if b = true then 1 else 0))
  | .int i => some (.num i)
  | .str x => some (.text x)
  | .tup xs => (D.keys xs).map .tup
  | _ => none
def D.keys : List D → Option (List NestedKey)
  | [] => some []
  | d :: ds => match D.key d, D.keys ds with
    | some x, some xs => some (x :: xs)
    | _, _ => none
end

def KTup (K : PySem.W.Frag) (a : Addr) (xs : List V) : Prop :=
  ∃ (o : Obj) (its : Array Value) (n : Nat), K.lookup a = some o ∧ o.cls = .type "tuple" ∧ o.data = .seq its n ∧ its.size ≤ sizeLine ∧ Vals xs its.toList

def KLst (K : PySem.W.Frag) (a : Addr) (xs : List V) : Prop :=
  ∃ (o : Obj) (its : Array Value) (n : Nat), K.lookup a = some o ∧ o.cls = .type "list" ∧ o.dict = none ∧ o.data = .seq its n ∧ its.size ≤ sizeLine ∧ Vals xs its.toList
/-- a dict with tuples as keys: its entries (key, the key's address, value) -/
def dicPhi (P : Program) (w : World) (a : Addr) (kvs : List (NestedKey × Addr × V)) (h : Heap) : Prop :=
  (a == sysModules) = false ∧ kvs.length ≤ sizeLine ∧ ∃ xs : List (NestedKey × Addr × Value), Paired (fun (p : NestedKey × Addr × V) (q : NestedKey × Addr × Value) => p.1 = q.1 ∧ p.2.1 = q.2.1 ∧ RelV p.2.2 q.2.2) kvs xs ∧
    ∃ o es ep, h.get? a = some o ∧ o.ExactDict ∧ o.data = .dict es ep ∧ es.toList = xs.map (entryOfKey (nestedKind P w)) ∧ (xs.map (·.1)).Nodup
def dicO (P : Program) (w : World) (a : Addr) (kvs : List (NestedKey × Addr × V)) : HO := .ext (dicPhi P w a kvs)

section
variable (P : Program) (w : World) (K : PySem.W.Frag)
mutual
/-- v stands for the tree d; none of its nodes (but what the module wrote) is in M -/
inductive Rep (H : Hp) (M : Addr → Prop) : V → D → Prop
  | non : Rep H M .non .non
  | bl (b : Bool) : Rep H M (.bl b) (.bl b)
  | int (i : Int) : Rep H M (.int i) (.int i)
  | str (x : Str) : Rep H M (.str x) (.str x)
  | tup {a : Addr} {xs : List V} {ds : List D} : (KTup K a xs ∨ (Rd H a (.tup xs) ∧ ¬ M a)) → RepL H M xs ds → Rep H M (.ref a) (.tup ds)
  | scr {a : Addr} {ns : List Int} : (KLst K a (ns.map V.int) ∨ (Rd H a (.lst (ns.map V.int)) ∧ ¬ M a)) → Rep H M (.ref a) (.scr ns)
  | lst {a : Addr} {xs : List V} {ds : List D} : H a = some (.lst xs) → ¬ M a → RepL H M xs ds → Rep H M (.ref a) (.lst ds)
  | dic {a : Addr} {kvs : List (NestedKey × Addr × V)} {ds : List (D × D)} : Rd H a (dicO P w a kvs) → ¬ M a → RepK H M kvs ds → Rep H M (.ref a) (.dic ds)
  | obj (a : Addr) : Rep H M (.ref a) (.obj a)
inductive RepL (H : Hp) (M : Addr → Prop) : List V → List D → Prop
  | nil : RepL H M [] []
  | cons {v : V} {d : D} {vs : List V} {ds : List D} : Rep H M v d → RepL H M vs ds → RepL H M (v :: vs) (d :: ds)
inductive RepK (H : Hp) (M : Addr → Prop) : List (NestedKey × Addr × V) → List (D × D) → Prop
  | nil : RepK H M [] []
  | cons {k : NestedKey} {b : Addr} {v : V} {dk dv : D} {vs : List (NestedKey × Addr × V)} {ds : List (D × D)} : Rep H M (.ref b) dk → dk.key = some k → k.depth ≤ 8 → Rep H M v dv → RepK H M vs ds → RepK H M ((k, b, v) :: vs) ((dk, dv) :: ds)
end

/-- a list of values by a relation that tells owned addresses -/
inductive OwnL (R : V → D → List Addr → Prop) : List V → List D → List Addr → Prop
  | nil : OwnL R [] [] []
  | cons {v : V} {d : D} {A B : List Addr} {vs : List V} {ds : List D} : R v d A → OwnL R vs ds B → OwnL R (v :: vs) (d :: ds) (A ++ B)
inductive OwnK (R : V → D → List Addr → Prop) (S : V → D → Prop) : List (NestedKey × Addr × V) → List (D × D) → List Addr → Prop
  | nil : OwnK R S [] [] []
  | cons {k : NestedKey} {b : Addr} {v : V} {dk dv : D} {A B : List Addr} {vs : List (NestedKey × Addr × V)} {ds : List (D × D)} : S (.ref b) dk → dk.key = some k → k.depth ≤ 8 → R v dv A → OwnK R S vs ds B → OwnK R S ((k, b, v) :: vs) ((dk, dv) :: ds) (A ++ B)

/-- owned to the depth n: the list of the owned addresses; what lies deeper is frozen (not in M) -/
def Own (H : Hp) (M : Addr → Prop) : Nat → V → D → List Addr → Prop
  | 0, v, d, A => A = [] ∧ Rep P w K H M v d
  | n + 1, v, .lst ds, A => ∃ a vs A', v = .ref a ∧ H a = some (.lst vs) ∧ A = a :: A' ∧ OwnL (Own H M n) vs ds A'
  | n + 1, v, .dic ds, A => ∃ a kvs A', v = .ref a ∧ H a = some (dicO P w a kvs) ∧ A = a :: A' ∧ OwnK (Own H M n) (Rep P w K H M) kvs ds A'
  | _ + 1, v, d, A => A = [] ∧ Rep P w K H M v d
end

section
variable {P : Program} {w : World} {K : PySem.W.Frag} {H H' : Hp} {M M' : Addr → Prop}

theorem rd_there {a : Addr} {u : HO} (h : Rd H a u) : H a ≠ none := by
  rcases h with h | ⟨_, h⟩ <;> (intro z; rw [h] at z; cases z)
theorem rd_grow {a : Addr} {u : HO} (h : Rd H a u) (k : ∀ o, H a = some o → H' a = some o) : Rd H' a u := by
  rcases h with h | ⟨o, h⟩
  · exact .inl (k _ h)
  · exact .inr ⟨o, k _ h⟩

mutual
theorem Rep.mono (g : ∀ b o, H b = some o → ¬ M b → H' b = some o) (m : ∀ x, M' x → M x ∨ H x = none) : ∀ (d : D) (v : V), Rep P w K H M v d → Rep P w K H' M' v d
  | .non, _, r => by cases r; exact .non
  | .bl _, _, r => by cases r; exact .bl _
  | .int _, _, r => by cases r; exact .int _
  | .str _, _, r => by cases r; exact .str _
  | .obj _, _, r => by cases r; exact .obj _
  | .set _, _, r => by cases r
  | .tup ds, _, r => by
    cases r with
    | tup h l =>
      refine .tup ?_ (RepL.mono g m ds _ l)
      rcases h with h | ⟨h, n⟩
      · exact .inl h
      · exact .inr ⟨rd_grow h fun o e => g _ o e n, fun z => (m _ z).elim n (rd_there h)⟩
  | .lst ds, _, r => by
    cases r with
    | lst h n l => exact .lst (g _ _ h n) (fun z => (m _ z).elim n (fun e => by rw [h] at e; cases e)) (RepL.mono g m ds _ l)
  | .scr ns, _, r => by
    cases r with
    | scr h =>
      refine .scr ?_
      rcases h with h | ⟨h, n⟩
      · exact .inl h
      · exact .inr ⟨rd_grow h fun o e => g _ o e n, fun z => (m _ z).elim n (rd_there h)⟩
  | .dic ds, _, r => by
    cases r with
    | dic h n l => exact .dic (rd_grow h fun o e => g _ o e n) (fun z => (m _ z).elim n (rd_there h)) (RepK.mono g m ds _ l)
theorem RepL.mono (g : ∀ b o, H b = some o → ¬ M b → H' b = some o) (m : ∀ x, M' x → M x ∨ H x = none) : ∀ (ds : List D) (vs : List V), RepL P w K H M vs ds → RepL P w K H' M' vs ds
  | [], _, r => by cases r; exact .nil
  | d :: ds, _, r => by
    cases r with
    | cons h t => exact .cons (Rep.mono g m d _ h) (RepL.mono g m ds _ t)
theorem RepK.mono (g : ∀ b o, H b = some o → ¬ M b → H' b = some o) (m : ∀ x, M' x → M x ∨ H x = none) : ∀ (ds : List (D × D)) (vs : List (NestedKey × Addr × V)), RepK P w K H M vs ds → RepK P w K H' M' vs ds
  | [], _, r => by cases r; exact .nil
  | (dk, dv) :: ds, _, r => by
    cases r with
    | cons h1 h2 h3 h4 t => exact .cons (Rep.mono g m dk _ h1) h2 h3 (Rep.mono g m dv _ h4) (RepK.mono g m ds _ t)
end

theorem OwnL.imp {R R' : V → D → List Addr → Prop} : ∀ {vs : List V} {ds : List D} {A : List Addr}, OwnL R vs ds A → (∀ v d B, d ∈ ds → (∀ x ∈ B, x ∈ A) → R v d B → R' v d B) → OwnL R' vs ds A
  | _, _, _, .nil, _ => .nil
  | _, _, _, .cons (d := d) (A := A) (B := B) h t, f => .cons (f _ _ _ (List.mem_cons_self ..) (fun x hx => List.mem_append_left _ hx) h) (OwnL.imp t fun v d' C hm hc => f v d' C (List.mem_cons_of_mem _ hm) fun x hx => List.mem_append_right _ (hc x hx))
theorem OwnK.imp {R R' : V → D → List Addr → Prop} {S S' : V → D → Prop} : ∀ {vs : List (NestedKey × Addr × V)} {ds : List (D × D)} {A : List Addr}, OwnK R S vs ds A → (∀ v d B, (∀ x ∈ B, x ∈ A) → R v d B → R' v d B) → (∀ v d, S v d → S' v d) → OwnK R' S' vs ds A
  | _, _, _, .nil, _, _ => .nil
  | _, _, _, .cons (A := A) (B := B) h1 h2 h3 h t, f, g => .cons (g _ _ h1) h2 h3 (f _ _ _ (fun x hx => List.mem_append_left _ hx) h) (OwnK.imp t (fun v d' C hc => f v d' C fun x hx => List.mem_append_right _ (hc x hx)) g)

theorem Own.mono : ∀ (n : Nat) (v : V) (d : D) (A : List Addr), (∀ b o, H b = some o → (¬ M b ∨ b ∈ A) → H' b = some o) → (∀ x, M' x → M x ∨ H x = none) → Own P w K H M n v d A → Own P w K H' M' n v d A
  | 0, v, d, A, g, m, ⟨e, r⟩ => ⟨e, Rep.mono (fun b o h n => g b o h (.inl n)) m d v r⟩
  | n + 1, v, .lst ds, A, g, m, ⟨a, vs, A', e1, e2, e3, l⟩ =>
    ⟨a, vs, A', e1, g a _ e2 (.inr (by rw [e3]; exact List.mem_cons_self ..)), e3, OwnL.imp l fun v d B _ hB r => Own.mono n v d B (fun b o h q => g b o h (q.imp id fun z => by rw [e3]; exact List.mem_cons_of_mem _ (hB b z))) m r⟩
  | n + 1, v, .dic ds, A, g, m, ⟨a, vs, A', e1, e2, e3, l⟩ =>
    ⟨a, vs, A', e1, g a _ e2 (.inr (by rw [e3]; exact List.mem_cons_self ..)), e3, OwnK.imp l (fun v d B hB r => Own.mono n v d B (fun b o h q => g b o h (q.imp id fun z => by rw [e3]; exact List.mem_cons_of_mem _ (hB b z))) m r) fun v d r => Rep.mono (fun b o h n => g b o h (.inl n)) m d v r⟩
  | n + 1, v, .non, A, g, m, ⟨e, r⟩ => ⟨e, Rep.mono (fun b o h n => g b o h (.inl n)) m _ v r⟩
  | n + 1, v, .bl _, A, g, m, ⟨e, r⟩ => ⟨e, Rep.mono (fun b o h n => g b o h (.inl n)) m _ v r⟩
  | n + 1, v, .int _, A, g, m, ⟨e, r⟩ => ⟨e, Rep.mono (fun b o h n => g b o h (.inl n)) m _ v r⟩
  | n + 1, v, .str _, A, g, m, ⟨e, r⟩ => ⟨e, Rep.mono (fun b o h n => g b o h (.inl n)) m _ v r⟩
  | n + 1, v, .tup _, A, g, m, ⟨e, r⟩ => ⟨e, Rep.mono (fun b o h n => g b o h (.inl n)) m _ v r⟩
  | n + 1, v, .set _, A, g, m, ⟨e, r⟩ => ⟨e, Rep.mono (fun b o h n => g b o h (.inl n)) m _ v r⟩
  | n + 1, v, .obj _, A, g, m, ⟨e, r⟩ => ⟨e, Rep.mono (fun b o h n => g b o h (.inl n)) m _ v r⟩
  | n + 1, v, .scr _, A, g, m, ⟨e, r⟩ => ⟨e, Rep.mono (fun b o h n => g b o h (.inl n)) m _ v r⟩

/-- given up: what was owned is frozen -/
theorem OwnL.freeze {R : V → D → List Addr → Prop} : ∀ {vs : List V} {ds : List D} {A : List Addr}, OwnL R vs ds A → (∀ v d B, (∀ x ∈ B, x ∈ A) → R v d B → Rep P w K H M v d) → RepL P w K H M vs ds
  | _, _, _, .nil, _ => .nil
  | _, _, _, .cons h t, f => .cons (f _ _ _ (fun x hx => List.mem_append_left _ hx) h) (OwnL.freeze t fun v d C hc => f v d C fun x hx => List.mem_append_right _ (hc x hx))
theorem OwnK.freeze {R : V → D → List Addr → Prop} {S : V → D → Prop} : ∀ {vs : List (NestedKey × Addr × V)} {ds : List (D × D)} {A : List Addr}, OwnK R S vs ds A → (∀ v d B, (∀ x ∈ B, x ∈ A) → R v d B → Rep P w K H M v d) → (∀ v d, S v d → Rep P w K H M v d) → RepK P w K H M vs ds
  | _, _, _, .nil, _, _ => .nil
  | _, _, _, .cons h1 h2 h3 h t, f, g => .cons (g _ _ h1) h2 h3 (f _ _ _ (fun x hx => List.mem_append_left _ hx) h) (OwnK.freeze t (fun v d C hc => f v d C fun x hx => List.mem_append_right _ (hc x hx)) g)
theorem Own.freeze (m : ∀ x, M' x → M x) : ∀ (n : Nat) (v : V) (d : D) (A : List Addr), (∀ x ∈ A, ¬ M' x) → Own P w K H M n v d A → Rep P w K H M' v d
  | 0, v, d, A, _, ⟨e, r⟩ => Rep.mono (fun _ _ h _ => h) (fun x z => .inl (m x z)) d v r
  | n + 1, v, .lst ds, A, g, ⟨a, vs, A', e1, e2, e3, l⟩ => by
    subst e1 e3
    exact .lst e2 (g a (List.mem_cons_self ..)) (OwnL.freeze l fun v d B hB r => Own.freeze m n v d B (fun x hx => g x (List.mem_cons_of_mem _ (hB x hx))) r)
  | n + 1, v, .dic ds, A, g, ⟨a, vs, A', e1, e2, e3, l⟩ => by
    subst e1 e3
    exact .dic (.inl e2) (g a (List.mem_cons_self ..)) (OwnK.freeze l (fun v d B hB r => Own.freeze m n v d B (fun x hx => g x (List.mem_cons_of_mem _ (hB x hx))) r) fun v d r => Rep.mono (fun _ _ h _ => h) (fun x z => .inl (m x z)) d v r)
  | n + 1, v, .non, A, _, ⟨e, r⟩ => Rep.mono (fun _ _ h _ => h) (fun x z => .inl (m x z)) _ v r
  | n + 1, v, .bl _, A, _, ⟨e, r⟩ => Rep.mono (fun _ _ h _ => h) (fun x z => .inl (m x z)) _ v r
  | n + 1, v, .int _, A, _, ⟨e, r⟩ => Rep.mono (fun _ _ h _ => h) (fun x z => .inl (m x z)) _ v r
  | n + 1, v, .str _, A, _, ⟨e, r⟩ => Rep.mono (fun _ _ h _ => h) (fun x z => .inl (m x z)) _ v r
  | n + 1, v, .tup _, A, _, ⟨e, r⟩ => Rep.mono (fun _ _ h _ => h) (fun x z => .inl (m x z)) _ v r
  | n + 1, v, .set _, A, _, ⟨e, r⟩ => Rep.mono (fun _ _ h _ => h) (fun x z => .inl (m x z)) _ v r
  | n + 1, v, .obj _, A, _, ⟨e, r⟩ => Rep.mono (fun _ _ h _ => h) (fun x z => .inl (m x z)) _ v r
  | n + 1, v, .scr _, A, _, ⟨e, r⟩ => Rep.mono (fun _ _ h _ => h) (fun x z => .inl (m x z)) _ v r

/-- what is read, whoever owns it -/
abbrev See (P : Program) (w : World) (K : PySem.W.Frag) (H : Hp) (v : V) (d : D) : Prop := Rep P w K H (fun _ => False) v d
theorem Own.see {n : Nat} {v : V} {d : D} {A : List Addr} (h : Own P w K H M n v d A) : See P w K H v d := Own.freeze (fun _ z => z.elim) n v d A (fun _ _ z => z) h
theorem Rep.see {v : V} {d : D} (h : Rep P w K H M v d) : See P w K H v d := Rep.mono (fun _ _ h _ => h) (fun _ z => z.elim) d v h

mutual
theorem Rep.dp : ∀ (d : D) (v : V) (x : PyData), Rep P w K H M v d → toPy d = some x → Dp K H v x
  | .non, _, x, r, e => by cases r; simp only [toPy, Option.some.injEq] at e; subst e; exact .non
  | .bl _, _, x, r, e => by cases r; simp only [toPy, Option.some.injEq] at e; subst e; exact .bl _
  | .int _, _, x, r, e => by cases r; simp only [toPy, Option.some.injEq] at e; subst e; exact .int _
  | .str _, _, x, r, e => by cases r; simp only [toPy, Option.some.injEq] at e; subst e; exact .str _
  | .tup ds, _, x, r, e => by
    cases r with
    | tup h l =>
      simp only [toPy, Option.map_eq_some_iff] at e
      obtain ⟨xs, e1, e2⟩ := e
      subst e2
      exact .tup (h.elim (fun z => .inr z) fun z => .inl z.1) (RepL.dp ds _ xs l e1)
  | .lst ds, _, x, r, e => by
    cases r with
    | lst h _ l =>
      simp only [toPy, Option.map_eq_some_iff] at e
      obtain ⟨xs, e1, e2⟩ := e
      subst e2
      exact .lst (.inl (.inl h)) (RepL.dp ds _ xs l e1)
  | .dic _, _, _, _, e => by simp [toPy] at e
  | .set _, _, _, _, e => by simp [toPy] at e
  | .obj _, _, _, _, e => by simp [toPy] at e
  | .scr _, _, _, _, e => by simp [toPy] at e
theorem RepL.dp : ∀ (ds : List D) (vs : List V) (xs : List PyData), RepL P w K H M vs ds → toPys ds = some xs → DpAll K H vs xs
  | [], _, _, r, e => by cases r; simp only [toPys, Option.some.injEq] at e; subst e; exact .nil
  | d :: ds, _, xs, r, e => by
    cases r with
    | cons h t =>
      simp only [toPys] at e
      split at e
      · rename_i x' xs' e1 e2
        simp only [Option.some.injEq] at e
        subst e
        exact .cons (Rep.dp d _ _ h e1) (RepL.dp ds _ _ t e2)
      · cases e
end
end
end Dt
set_option Elab.async false
set_option linter.all false
set_option maxRecDepth 100000
set_option autoImplicit false
set_option maxHeartbeats 4000000
/-! The data layer, part 2: the state (slots with trees), what an expression leaves. -/
namespace Dt
open PySem PySem.Spec L2
open PyProof.Rows hiding St

abbrev DEnv := List (Option (D × Nat))
inductive Res where
  | own (d : D) (n : Nat) | slot (i : Nat) | ent (i : Nat) (k : D)
abbrev OwnF := Nat → List Addr

def Zp (Z : Addr → Prop) (A : List Addr) (x : Addr) : Prop := Z x ∨ x ∈ A
def Mz (Z : Addr → Prop) (own : OwnF) (x : Addr) : Prop := Z x ∨ ∃ i, x ∈ own i

section
variable (P : Program) (w : World) (K : PySem.W.Frag)
/-- the slots hold trees; own tells each slot's owned addresses; Z: addresses that others may change, and temporaries -/
structure Est (Z : Addr → Prop) (ρ : DEnv) (σ : St) (H : Hp) (own : OwnF) : Prop where
  len : ρ.length = σ.length
  sl : ∀ i d n, ρ[i]? = some (some (d, n)) → ∃ v, σ[i]? = some (some v) ∧ Own P w K H (Mz Z own) n v d (own i)
  em : ∀ i, (∀ d n, ρ[i]? ≠ some (some (d, n))) → own i = []
  nd : ∀ i, (own i).Nodup
  dj : ∀ i j x, x ∈ own i → x ∈ own j → i = j
  nz : ∀ i x, x ∈ own i → ¬ Z x
  zh : ∀ x, Z x → H x ≠ none
  oh : ∀ i x, x ∈ own i → H x ≠ none

/-- from one state to a later one -/
structure Mv (own : OwnF) (H : Hp) (own' : OwnF) (H' : Hp) : Prop where
  fr : ∀ b o, H b = some o → (∀ i, b ∉ own i) → H' b = some o
  sb : ∀ i x, x ∈ own' i → (∃ j, x ∈ own j) ∨ H x = none

/-- the entry of the dict in slot i at key k is v -/
def EntOk (ρ : DEnv) (σ : St) (H : Hp) (i : Nat) (k : D) (v : V) : Prop :=
  ∃ a ds n kvs nk, σ[i]? = some (some (.ref a)) ∧ ρ[i]? = some (some (.dic ds, n)) ∧ H a = some (dicO P w a kvs) ∧ k.key = some nk ∧ ∃ b, (nk, b, v) ∈ kvs

def ResOk (Z : Addr → Prop) (own : OwnF) (ρ : DEnv) (σ : St) (H : Hp) : Res → V → List Addr → Prop
  | .own d n, v, A => Own P w K H (Mz Z own) n v d A ∧ A.Nodup
  | .slot i, v, A => A = [] ∧ σ[i]? = some (some v) ∧ ∃ d n, ρ[i]? = some (some (d, n))
  | .ent i k, v, A => A = [] ∧ EntOk P w ρ σ H i k v

/-- what an expression leaves: its result, the new state -/
def PostE (Z : Addr → Prop) (own : OwnF) (H : Hp) (σ : St) (r : Res) (ρ' : DEnv) (v : V) (H' : Hp) : Prop :=
  ∃ own' A, Mv own H own' H' ∧ Est P w K (Zp Z A) ρ' σ H' own' ∧ ResOk P w K (Zp Z A) own' ρ' σ H' r v A ∧ ∀ x ∈ A, ¬ Z x ∧ ((∃ j, x ∈ own j) ∨ H x = none)

abbrev EF := DEnv → Option (Res × DEnv)
def tE (f : EF) : TE := fun σ H Q => ∃ Z own ρ r ρ', Est P w K Z ρ σ H own ∧ f ρ = some (r, ρ') ∧ ∀ v H', PostE P w K Z own H σ r ρ' v H' → Q v H'
/-- as a test -/
def tT (f : EF) : TT := fun σ H Q => ∃ Z own ρ b n ρ', Est P w K Z ρ σ H own ∧ f ρ = some (.own (.bl b) n, ρ') ∧ ∀ H' own', Mv own H own' H' → Est P w K Z ρ' σ H' own' → Q b H'
end

section
variable {P : Program} {w : World} {K : PySem.W.Frag} {Z : Addr → Prop} {ρ ρ' : DEnv} {σ : St} {H H' H1 H2 : Hp} {own own' own1 own2 : OwnF} {A B : List Addr}

theorem Mv.refl : Mv own H own H := ⟨fun _ _ e _ => e, fun i _ h => .inl ⟨i, h⟩⟩
theorem Mv.trans (a : Mv own H own1 H1) (b : Mv own1 H1 own2 H2) : Mv own H own2 H2 where
  fr := fun x o e n => b.fr x o (a.fr x o e n) fun i hi => (a.sb i x hi).elim (fun ⟨j, z⟩ => n j z) fun z => by rw [e] at z; cases z
  sb := fun i x hx => by
    rcases b.sb i x hx with ⟨j, z⟩ | z
    · exact a.sb j x z
    · cases e : H x with
      | none => exact .inr rfl
      | some o =>
        by_cases h : ∃ j, x ∈ own j
        · exact .inl h
        · have := a.fr x o e fun i hi => h ⟨i, hi⟩
          rw [z] at this; cases this
/-- a fresh address, seen from earlier -/
theorem Mv.fresh (a : Mv own H own1 H1) {x : Addr} (h : (∃ j, x ∈ own1 j) ∨ H1 x = none) : (∃ j, x ∈ own j) ∨ H x = none := by
  rcases h with ⟨j, z⟩ | z
  · exact a.sb j x z
  · cases e : H x with
    | none => exact .inr rfl
    | some o =>
      by_cases h : ∃ j, x ∈ own j
      · exact .inl h
      · have := a.fr x o e fun i hi => h ⟨i, hi⟩
        rw [z] at this; cases this

theorem Est.weak {Z' : Addr → Prop} (E : Est P w K Z ρ σ H own) (h : ∀ x, Z' x → Z x) : Est P w K Z' ρ σ H own where
  len := E.len
  sl := fun i d n e => by
    obtain ⟨v, h1, h2⟩ := E.sl i d n e
    exact ⟨v, h1, Own.mono n v d _ (fun _ _ e _ => e) (fun x hx => .inl (hx.imp (h x) id)) h2⟩
  em := E.em
  nd := E.nd
  dj := E.dj
  nz := fun i x hx z => E.nz i x hx (h x z)
  zh := fun x z => E.zh x (h x z)
  oh := E.oh
/-- the heap has grown, addresses that were free are told apart -/
theorem Est.grow (E : Est P w K Z ρ σ H own) (g : ∀ b o, H b = some o → H' b = some o) (hA : ∀ x ∈ A, H x = none) (hA' : ∀ x ∈ A, H' x ≠ none) : Est P w K (Zp Z A) ρ σ H' own where
  len := E.len
  sl := fun i d n e => by
    obtain ⟨v, h1, h2⟩ := E.sl i d n e
    refine ⟨v, h1, Own.mono n v d _ (fun b o e _ => g b o e) (fun x hx => ?_) h2⟩
    rcases hx with (hx | hx) | hx
    · exact .inl (.inl hx)
    · exact .inr (hA x hx)
    · exact .inl (.inr hx)
  em := E.em
  nd := E.nd
  dj := E.dj
  nz := fun i x hx z => z.elim (E.nz i x hx) fun z => E.oh i x hx (hA x z)
  zh := fun x z => z.elim (fun z => by
    cases e : H x with
    | none => exact absurd e (E.zh x z)
    | some o => rw [g x o e]; intro q; cases q) (hA' x)
  oh := fun i x hx => by
    cases e : H x with
    | none => exact absurd e (E.oh i x hx)
    | some o => rw [g x o e]; intro q; cases q
theorem zp_nil {x : Addr} : Zp Z [] x ↔ Z x := ⟨fun h => h.elim id fun z => (List.not_mem_nil z).elim, .inl⟩
theorem Est.nil (E : Est P w K Z ρ σ H own) : Est P w K (Zp Z []) ρ σ H own := E.weak fun _ h => zp_nil.mp h
theorem Est.drop (E : Est P w K (Zp Z A) ρ σ H own) : Est P w K Z ρ σ H own := E.weak fun _ h => .inl h
theorem mz_mono {Z' : Addr → Prop} {x : Addr} (h : ∀ x, Z' x → Z x) (m : Mz Z' own x) : Mz Z own x := m.imp (h x) id

theorem upd_grow {p : Addr} {o : HO} (hp : H p = none) : ∀ b u, H b = some u → upd H p o b = some u := fun b u e => by
  rw [upd_ne]
  · exact e
  · rintro rfl
    rw [hp] at e; cases e
theorem upd_there {p : Addr} {o : HO} : ∀ x ∈ [p], upd H p o x ≠ none := fun x hx => by
  have e : x = p := by simpa using hx
  subst e
  rw [upd_same]; intro q; cases q
theorem mem1 {p : Addr} (hp : H p = none) : ∀ x ∈ [p], H x = none := fun x hx => by
  have e : x = p := by simpa using hx
  rw [e]; exact hp

/-! ### results -/
/-- a plain value -/
theorem PostE.plain {d : D} {n : Nat} {v : V} (E : Est P w K Z ρ σ H own) (h : Own P w K H (Mz Z own) n v d []) : PostE P w K Z own H σ (.own d n) ρ v H :=
  ⟨own, [], Mv.refl, E.nil, ⟨Own.mono n v d _ (fun _ _ e _ => e) (fun x hx => .inl (mz_mono (fun _ h => zp_nil.mp h) hx)) h, List.nodup_nil⟩, fun _ hx => (List.not_mem_nil hx).elim⟩
end
end Dt
set_option Elab.async false
set_option linter.all false
set_option maxRecDepth 100000
set_option autoImplicit false
set_option maxHeartbeats 4000000
/-! The data layer, part 3: operands, what is given up, how an operation ends. -/
namespace Dt
open PySem PySem.Spec L2
open PyProof.Rows hiding St

def isImm : D → Bool
  | .lst _ => false
  | .dic _ => false
  | .set _ => false
  | _ => true

/-- a list, a dict that is read is owned to the depth 1 at most -/
def okL : D → Nat → Bool
  | .lst _, n => decide (n ≤ 1)
  | .dic _, n => decide (n ≤ 1)
  | _, _ => true
/-- what a result reads as -/
def rd (ρ : DEnv) : Res → Option D
  | .own d n => if okL d n = true then some d else none
  | .slot i => match ρ[i]? with
    | some (some (d, n)) => if okL d n = true then some d else none
    | _ => none
  | .ent _ _ => none
/-- a result given up: frozen from now on -/
def esc (r : Res) (ρ : DEnv) : Option (D × DEnv) :=
  match r with
  | .own d _ => some (d, ρ)
  | .slot i => match ρ[i]? with
    | some (some (d, _)) => some (d, ρ.set i (some (d, 0)))
    | _ => none
  | .ent _ _ => none
def escs : List Res → DEnv → Option (List D × DEnv)
  | [], ρ => some ([], ρ)
  | r :: rs, ρ => match esc r ρ with
    | some (d, ρ1) => match escs rs ρ1 with
      | some (ds, ρ2) => some (d :: ds, ρ2)
      | none => none
    | none => none

section
variable (P : Program) (w : World) (K : PySem.W.Frag)
/-- an operand, behind the evaluation of all operands; Z0: what others may change -/
def ValOk (Z0 Z : Addr → Prop) (own : OwnF) (σ : St) (H : Hp) : Res → V → Prop
  | .own d n, v => ∃ A, Own P w K H (Mz Z own) n v d A ∧ A.Nodup ∧ ∀ x ∈ A, Z x ∧ ¬ Z0 x
  | .slot i, v => σ[i]? = some (some v)
  | .ent _ _, _ => False
inductive ValsOk (Z0 Z : Addr → Prop) (own : OwnF) (σ : St) (H : Hp) : List Res → List V → Prop
  | nil : ValsOk Z0 Z own σ H [] []
  | cons {r : Res} {v : V} {rs : List Res} {vs : List V} : ValOk P w K Z0 Z own σ H r v → ValsOk Z0 Z own σ H rs vs → ValsOk Z0 Z own σ H (r :: rs) (v :: vs)
/-- the operands stand: from (Z, own, H) to the state ahead of the operation -/
structure Opd (Z : Addr → Prop) (own : OwnF) (H : Hp) (ρ' : DEnv) (σ : St) (Z' : Addr → Prop) (own' : OwnF) (H' : Hp) : Prop where
  mv : Mv own H own' H'
  E : Est P w K Z' ρ' σ H' own'
  z : ∀ x, Z x → Z' x
  zf : ∀ x, Z' x → Z x ∨ (∃ j, x ∈ own j) ∨ H x = none

abbrev AF := DEnv → Option (List Res × DEnv)
def tA (f : AF) : TA := fun σ H Q => ∃ Z own ρ rs ρ', Est P w K Z ρ σ H own ∧ f ρ = some (rs, ρ') ∧ ∀ vs H' Z' own', Opd P w K Z own H ρ' σ Z' own' H' → ValsOk P w K Z Z' own' σ H' rs vs → Q vs H'
end

section
variable {P : Program} {w : World} {K : PySem.W.Frag} {Z Z0 Z1 Z2 : Addr → Prop} {ρ ρ' ρ1 ρ2 : DEnv} {σ : St} {H H' H1 H2 : Hp} {own own' own1 own2 : OwnF} {A B : List Addr} {r : Res} {v : V} {d : D} {n : Nat}

theorem Opd.refl (E : Est P w K Z ρ σ H own) : Opd P w K Z own H ρ σ Z own H := ⟨Mv.refl, E, fun _ h => h, fun _ h => .inl h⟩
/-- one more operand -/
theorem Opd.next (o : Opd P w K Z own H ρ1 σ Z1 own1 H1) {r : Res} {v : V} (p : PostE P w K Z1 own1 H1 σ r ρ2 v H2) :
    ∃ own2 A, Opd P w K Z own H ρ2 σ (Zp Z1 A) own2 H2 ∧ ResOk P w K (Zp Z1 A) own2 ρ2 σ H2 r v A ∧ Mv own1 H1 own2 H2 ∧ (∀ x ∈ A, ¬ Z1 x) ∧ (∀ x ∈ A, (∃ j, x ∈ own1 j) ∨ H1 x = none) := by
  obtain ⟨own2, A, mv, E, ro, hA⟩ := p
  refine ⟨own2, A, ⟨o.mv.trans mv, E, fun x h => .inl (o.z x h), fun x h => ?_⟩, ro, mv, fun x h => (hA x h).1, fun x h => (hA x h).2⟩
  rcases h with h | h
  · exact o.zf x h
  · rcases o.mv.fresh (hA x h).2 with q | q
    · exact .inr (.inl q)
    · exact .inr (.inr q)
/-- an operand stays while the next ones are evaluated -/
theorem ValOk.keep (E1 : Est P w K Z1 ρ1 σ H1 own1) (mv : Mv own1 H1 own2 H2) (hB : ∀ x ∈ B, (∃ j, x ∈ own1 j) ∨ H1 x = none) : ∀ {r : Res} {v : V}, ValOk P w K Z0 Z1 own1 σ H1 r v → ValOk P w K Z0 (Zp Z1 B) own2 σ H2 r v
  | .slot _, _, h => h
  | .ent _ _, _, h => h
  | .own d n, v, ⟨A, h1, h2, h3⟩ => by
    refine ⟨A, Own.mono n v d A (fun b o e q => mv.fr b o e fun i hi => ?_) (fun x hx => ?_) h1, h2, fun x hx => ⟨.inl (h3 x hx).1, (h3 x hx).2⟩⟩
    · rcases q with q | q
      · exact q (.inr ⟨i, hi⟩)
      · exact E1.nz i b hi (h3 b q).1
    · rcases hx with (hx | hx) | ⟨i, hx⟩
      · exact .inl (.inl hx)
      · exact (hB x hx).imp (fun q => .inr q) id
      · exact (mv.sb i x hx).imp (fun q => .inr q) id
theorem ValsOk.keep (E1 : Est P w K Z1 ρ1 σ H1 own1) (mv : Mv own1 H1 own2 H2) (hB : ∀ x ∈ B, (∃ j, x ∈ own1 j) ∨ H1 x = none) : ∀ {rs : List Res} {vs : List V}, ValsOk P w K Z0 Z1 own1 σ H1 rs vs → ValsOk P w K Z0 (Zp Z1 B) own2 σ H2 rs vs
  | _, _, .nil => .nil
  | _, _, .cons h t => .cons (h.keep E1 mv hB) (t.keep E1 mv hB)
def isEnt : Res → Bool
  | .ent _ _ => true
  | _ => false
theorem ResOk.val {Z1 : Addr → Prop} : ∀ {r : Res} {v : V} {A : List Addr}, isEnt r = false → (∀ x, Z0 x → Z1 x) → (∀ x ∈ A, ¬ Z1 x) → ResOk P w K (Zp Z1 A) own ρ σ H r v A → ValOk P w K Z0 (Zp Z1 A) own σ H r v
  | .own d n, v, A, _, hz, hA, ⟨h1, h2⟩ => ⟨A, h1, h2, fun x hx => ⟨.inr hx, fun q => hA x hx (hz x q)⟩⟩
  | .slot i, v, A, _, _, _, ⟨_, h, _⟩ => h
  | .ent _ _, _, _, e, _, _, _ => by cases e

theorem ValOk.see (E : Est P w K Z ρ σ H own) : ∀ {r : Res} {v : V} {d : D}, ValOk P w K Z0 Z own σ H r v → rd ρ r = some d → See P w K H v d
  | .own d n, v, d', ⟨A, h, _⟩, e => by
    simp only [rd] at e
    split at e
    · simp only [Option.some.injEq] at e
      subst e
      exact h.see
    · cases e
  | .slot i, v, d', h, e => by
    simp only [rd] at e
    split at e
    · rename_i d n q
      split at e
      · simp only [Option.some.injEq] at e
        subst e
        obtain ⟨v', h1, h2⟩ := E.sl i _ _ q
        have h : σ[i]? = some (some v) := h
        rw [h] at h1
        simp only [Option.some.injEq] at h1
        subst h1
        exact h2.see
      · cases e
    · cases e
  | .ent _ _, _, _, h, _ => h.elim
/-- an operand that is read: owned somewhere -/
theorem ValOk.got (E : Est P w K Z ρ σ H own) : ∀ {r : Res} {v : V} {d : D}, ValOk P w K Z0 Z own σ H r v → rd ρ r = some d → ∃ n A, Own P w K H (Mz Z own) n v d A ∧ okL d n = true
  | .own d n, v, d', ⟨A, h, _⟩, e => by
    simp only [rd] at e
    split at e
    · simp only [Option.some.injEq] at e
      subst e
      exact ⟨n, A, h, by assumption⟩
    · cases e
  | .slot i, v, d', h, e => by
    simp only [rd] at e
    split at e
    · rename_i d n q
      split at e
      · simp only [Option.some.injEq] at e
        subst e
        obtain ⟨v', h1, h2⟩ := E.sl i _ _ q
        have h : σ[i]? = some (some v) := h
        rw [h] at h1
        simp only [Option.some.injEq] at h1
        subst h1
        exact ⟨n, _, h2, by assumption⟩
      · cases e
    · cases e
  | .ent _ _, _, _, h, _ => h.elim

/-- the slot i disowned -/
def disown (own : OwnF) (i : Nat) : OwnF := fun j => if j = i then [] else own j
theorem disown_sub {i j : Nat} {x : Addr} (h : x ∈ disown own i j) : x ∈ own j ∧ j ≠ i := by
  unfold disown at h
  split at h
  · exact (List.not_mem_nil h).elim
  · exact ⟨h, by assumption⟩
theorem Est.freeze {i : Nat} (E : Est P w K Z ρ σ H own) (e : ρ[i]? = some (some (d, n))) : Est P w K Z (ρ.set i (some (d, 0))) σ H (disown own i) := by
  have hi : i < ρ.length := (List.getElem?_eq_some_iff.mp e).1
  have sub : ∀ x, Mz Z (disown own i) x → Mz Z own x := fun x h => h.imp id fun ⟨j, h⟩ => ⟨j, (disown_sub h).1⟩
  refine ⟨by rw [List.length_set]; exact E.len, fun j d' n' ej => ?_, fun j hj => ?_, fun j => ?_, fun j k x h1 h2 => E.dj j k x (disown_sub h1).1 (disown_sub h2).1, fun j x hx => E.nz j x (disown_sub hx).1, E.zh, fun j x hx => E.oh j x (disown_sub hx).1⟩
  · by_cases hj : j = i
    · subst hj
      rw [List.getElem?_set_self hi] at ej
      simp only [Option.some.injEq, Prod.mk.injEq] at ej
      obtain ⟨rfl, rfl⟩ := ej
      obtain ⟨v, h1, h2⟩ := E.sl j _ _ e
      refine ⟨v, h1, ?_, Own.freeze sub n v d _ (fun x hx => ?_) h2⟩
      · unfold disown; rw [if_pos rfl]
      · rintro (z | ⟨k, z⟩)
        · exact E.nz j x hx z
        · exact (disown_sub z).2 (E.dj k j x (disown_sub z).1 hx)
    · rw [List.getElem?_set_ne (Ne.symm hj)] at ej
      obtain ⟨v, h1, h2⟩ := E.sl j _ _ ej
      refine ⟨v, h1, ?_⟩
      have eo : disown own i j = own j := by unfold disown; rw [if_neg hj]
      rw [eo]
      exact Own.mono n' v d' _ (fun _ _ e _ => e) (fun x hx => .inl (sub x hx)) h2
  · by_cases h : j = i
    · subst h
      unfold disown; rw [if_pos rfl]
    · have eo : disown own i j = own j := by unfold disown; rw [if_neg h]
      rw [eo]
      exact E.em j fun d n q => hj d n (by rw [List.getElem?_set_ne (Ne.symm h)]; exact q)
  · unfold disown
    split
    · exact List.nodup_nil
    · exact E.nd j
theorem esc_ok (E : Est P w K Z ρ σ H own) (h0 : ∀ x, Z0 x → Z x) : ∀ {r : Res} {v : V} {d : D} {ρ' : DEnv}, ValOk P w K Z0 Z own σ H r v → esc r ρ = some (d, ρ') →
    ∃ own', Est P w K Z ρ' σ H own' ∧ (∀ i x, x ∈ own' i → x ∈ own i) ∧ Rep P w K H (Mz Z0 own') v d
  | .own d n, v, d', ρ', ⟨A, h1, h2, h3⟩, e => by
    simp only [esc, Option.some.injEq, Prod.mk.injEq] at e
    obtain ⟨rfl, rfl⟩ := e
    refine ⟨own, E, fun _ _ h => h, Own.freeze (fun x hx => hx.imp (h0 x) id) n v d A (fun x hx => ?_) h1⟩
    rintro (z | ⟨j, z⟩)
    · exact (h3 x hx).2 z
    · exact E.nz j x z (h3 x hx).1
  | .slot i, v, d', ρ', h, e => by
    simp only [esc] at e
    split at e
    · rename_i d n q
      simp only [Option.some.injEq, Prod.mk.injEq] at e
      obtain ⟨rfl, rfl⟩ := e
      have E' := E.freeze q
      refine ⟨disown own i, E', fun j x hx => (disown_sub hx).1, ?_⟩
      have hi : i < ρ.length := (List.getElem?_eq_some_iff.mp q).1
      obtain ⟨v', h1, _, h2⟩ := E'.sl i d 0 (List.getElem?_set_self hi)
      have h : σ[i]? = some (some v) := h
      rw [h] at h1
      simp only [Option.some.injEq] at h1
      subst h1
      exact Rep.mono (fun _ _ e _ => e) (fun x hx => .inl (mz_mono h0 hx)) d v h2
    · cases e
  | .ent _ _, _, _, _, h, _ => h.elim
theorem ValOk.less {own' : OwnF} (hs : ∀ i x, x ∈ own' i → x ∈ own i) : ∀ {r : Res} {v : V}, ValOk P w K Z0 Z own σ H r v → ValOk P w K Z0 Z own' σ H r v
  | .slot _, _, h => h
  | .ent _ _, _, h => h
  | .own d n, v, ⟨A, h1, h2, h3⟩ => ⟨A, Own.mono n v d A (fun _ _ e _ => e) (fun x hx => .inl (hx.imp id fun ⟨i, z⟩ => ⟨i, hs i x z⟩)) h1, h2, h3⟩
theorem ValsOk.less {own' : OwnF} (hs : ∀ i x, x ∈ own' i → x ∈ own i) : ∀ {rs : List Res} {vs : List V}, ValsOk P w K Z0 Z own σ H rs vs → ValsOk P w K Z0 Z own' σ H rs vs
  | _, _, .nil => .nil
  | _, _, .cons h t => .cons (h.less hs) (t.less hs)
theorem escs_ok (h0 : ∀ x, Z0 x → Z x) : ∀ {rs : List Res} {vs : List V} {ds : List D} {ρ ρ' : DEnv} {own : OwnF}, Est P w K Z ρ σ H own → ValsOk P w K Z0 Z own σ H rs vs → escs rs ρ = some (ds, ρ') →
    ∃ own', Est P w K Z ρ' σ H own' ∧ (∀ i x, x ∈ own' i → x ∈ own i) ∧ RepL P w K H (Mz Z0 own') vs ds
  | [], _, ds, ρ, ρ', own, E, h, e => by
    cases h
    simp only [escs, Option.some.injEq, Prod.mk.injEq] at e
    obtain ⟨rfl, rfl⟩ := e
    exact ⟨own, E, fun _ _ h => h, .nil⟩
  | r :: rs, _, ds, ρ, ρ', own, E, h, e => by
    cases h with
    | cons h t =>
      simp only [escs] at e
      split at e
      · rename_i d ρ1 e1
        split at e
        · rename_i ds' ρ2 e2
          simp only [Option.some.injEq, Prod.mk.injEq] at e
          obtain ⟨rfl, rfl⟩ := e
          obtain ⟨own1, E1, s1, r1⟩ := esc_ok E h0 h e1
          obtain ⟨own2, E2, s2, r2⟩ := escs_ok h0 E1 (t.less s1) e2
          exact ⟨own2, E2, fun i x hx => s1 i x (s2 i x hx), .cons (Rep.mono (fun _ _ e _ => e) (fun x hx => .inl (hx.imp id fun ⟨i, z⟩ => ⟨i, s2 i x z⟩)) _ _ r1) r2⟩
        · cases e
      · cases e

/-! ### ends -/
theorem Mv.less (mv : Mv own H own1 H1) (hs : ∀ i x, x ∈ own' i → x ∈ own1 i) : Mv own H own' H1 := ⟨mv.fr, fun i x hx => mv.sb i x (hs i x hx)⟩
/-- the result owns nothing -/
theorem fin_imm (mv : Mv own H own2 H2) (E : Est P w K Z2 ρ2 σ H2 own2) (hz : ∀ x, Z x → Z2 x) (h : Own P w K H2 (Mz Z own2) n v d []) : PostE P w K Z own H σ (.own d n) ρ2 v H2 :=
  ⟨own2, [], mv, (E.weak hz).nil, ⟨Own.mono n v d _ (fun _ _ e _ => e) (fun x hx => .inl (mz_mono (fun _ h => zp_nil.mp h) hx)) h, List.nodup_nil⟩, fun _ hx => (List.not_mem_nil hx).elim⟩
theorem own_imm {M : Addr → Prop} (hd : isImm d = true) (h : Rep P w K H M v d) : Own P w K H M n v d [] := by
  cases n with
  | zero => exact ⟨rfl, h⟩
  | succ n => cases d <;> first | exact ⟨rfl, h⟩ | cases hd
theorem imm_own {M : Addr → Prop} (hd : isImm d = true) (h : Own P w K H M n v d A) : A = [] ∧ Rep P w K H M v d := by
  cases n with
  | zero => exact h
  | succ n => cases d <;> first | exact h | cases hd
/-- a new object -/
theorem fin_new {p : Addr} {o : HO} (mv : Mv own H own2 H2) (E : Est P w K Z2 ρ2 σ H2 own2) (hz : ∀ x, Z x → Z2 x) (hp : H2 p = none) (h : Own P w K (upd H2 p o) (Mz (Zp Z [p]) own2) n (.ref p) d [p]) :
    PostE P w K Z own H σ (.own d n) ρ2 (.ref p) (upd H2 p o) := by
  refine ⟨own2, [p], mv.trans ⟨fun b u e _ => upd_grow hp b u e, fun i x hx => .inl ⟨i, hx⟩⟩, (E.grow (upd_grow hp) (mem1 hp) upd_there).weak (fun x h => h.imp (hz x) id), ⟨h, by simp⟩, fun x hx => ?_⟩
  have e : x = p := by simpa using hx
  subst e
  exact ⟨fun z => E.zh x (hz x z) hp, mv.fresh (.inr hp)⟩
/-- a new tuple of frozen things -/
theorem fin_tup {p : Addr} {vs : List V} {ds : List D} (mv : Mv own H own2 H2) (E : Est P w K Z2 ρ2 σ H2 own2) (hz : ∀ x, Z x → Z2 x) (hp : H2 p = none) (h : RepL P w K H2 (Mz Z own2) vs ds) :
    PostE P w K Z own H σ (.own (.tup ds) n) ρ2 (.ref p) (upd H2 p (.tup vs)) := by
  have np : ¬ Mz Z own2 p := by
    rintro (z | ⟨i, z⟩)
    · exact E.zh p (hz p z) hp
    · exact E.oh i p z hp
  refine fin_imm (mv.trans ⟨fun b u e _ => upd_grow hp b u e, fun i x hx => .inl ⟨i, hx⟩⟩) (E.grow (A := []) (upd_grow hp) (fun _ h => (List.not_mem_nil h).elim) (fun _ h => (List.not_mem_nil h).elim)).drop hz (own_imm rfl (.tup (.inr ⟨.inl upd_same, np⟩) (RepL.mono (fun b o e _ => upd_grow hp b o e) (fun x hx => .inl hx) ds vs h)))
theorem ownL0 {M : Addr → Prop} {vs : List V} {ds : List D} (h : RepL P w K H M vs ds) : OwnL (Own P w K H M 0) vs ds [] := by
  have all : ∀ (ds : List D) (vs : List V), RepL P w K H M vs ds → OwnL (Own P w K H M 0) vs ds [] := by
    intro ds
    induction ds with
    | nil => intro vs r; cases r; exact .nil
    | cons d ds ih =>
      intro vs r
      cases r with
      | cons h t => exact OwnL.cons (A := []) (B := []) ⟨rfl, h⟩ (ih _ t)
  exact all ds vs h
theorem ownL0_rep {M : Addr → Prop} : ∀ {vs : List V} {ds : List D} {A : List Addr}, OwnL (Own P w K H M 0) vs ds A → A = [] ∧ RepL P w K H M vs ds
  | _, _, _, .nil => ⟨rfl, .nil⟩
  | _, _, _, .cons ⟨e, h⟩ t => by
    obtain ⟨e2, q⟩ := ownL0_rep t
    exact ⟨by rw [e, e2]; rfl, .cons h q⟩
/-- a new list of frozen things -/
theorem fin_lst {p : Addr} {vs : List V} {ds : List D} (mv : Mv own H own2 H2) (E : Est P w K Z2 ρ2 σ H2 own2) (hz : ∀ x, Z x → Z2 x) (hp : H2 p = none) (h : RepL P w K H2 (Mz Z own2) vs ds) :
    PostE P w K Z own H σ (.own (.lst ds) 1) ρ2 (.ref p) (upd H2 p (.lst vs)) := by
  refine fin_new mv E hz hp ⟨p, vs, [], rfl, upd_same, rfl, ownL0 (RepL.mono (fun b o e _ => upd_grow hp b o e) (fun x hx => ?_) ds vs h)⟩
  rcases hx with (hx | hx) | hx
  · exact .inl (.inl hx)
  · exact .inr (mem1 hp x hx)
  · exact .inl (.inr hx)
/-- the items of a list, of a tuple: frozen -/
theorem ValOk.items (E : Est P w K Z ρ σ H own) (h0 : ∀ x, Z0 x → Z x) {ds : List D} (h : ValOk P w K Z0 Z own σ H r v) (e : rd ρ r = some (.lst ds)) : ∃ a vs, v = .ref a ∧ H a = some (.lst vs) ∧ RepL P w K H (Mz Z0 own) vs ds := by
  obtain ⟨n, A, ho, ok⟩ := h.got E e
  have wk : ∀ {vs ds}, RepL P w K H (Mz Z own) vs ds → RepL P w K H (Mz Z0 own) vs ds := fun {vs ds} r => RepL.mono (fun _ _ e _ => e) (fun x hx => .inl (mz_mono h0 hx)) ds vs r
  match n, ho, ok with
  | 0, ⟨_, r⟩, _ =>
    cases r with
    | lst h1 _ h2 => exact ⟨_, _, rfl, h1, wk h2⟩
  | 1, ⟨a, vs, A', e1, e2, _, l⟩, _ => exact ⟨a, vs, e1, e2, wk (ownL0_rep l).2⟩
  | n + 2, _, ok => simp [okL] at ok
theorem ownK0_rep {M : Addr → Prop} : ∀ {vs : List (NestedKey × Addr × V)} {ds : List (D × D)} {A : List Addr}, OwnK (Own P w K H M 0) (Rep P w K H M) vs ds A → A = [] ∧ RepK P w K H M vs ds
  | _, _, _, .nil => ⟨rfl, .nil⟩
  | _, _, _, .cons h1 h2 h3 ⟨e, h⟩ t => by
    obtain ⟨e2, q⟩ := ownK0_rep t
    exact ⟨by rw [e, e2]; rfl, .cons h1 h2 h3 h q⟩
theorem ownK0 {M : Addr → Prop} : ∀ {ds : List (D × D)} {vs : List (NestedKey × Addr × V)}, RepK P w K H M vs ds → OwnK (Own P w K H M 0) (Rep P w K H M) vs ds []
  | [], _, r => by cases r; exact .nil
  | _ :: _, _, r => by
    cases r with
    | cons h1 h2 h3 h4 t => exact OwnK.cons (A := []) (B := []) h1 h2 h3 ⟨rfl, h4⟩ (ownK0 t)
/-- the entries of a dict: frozen -/
theorem ValOk.entries (E : Est P w K Z ρ σ H own) (h0 : ∀ x, Z0 x → Z x) {ds : List (D × D)} (h : ValOk P w K Z0 Z own σ H r v) (e : rd ρ r = some (.dic ds)) : ∃ a kvs, v = .ref a ∧ Rd H a (dicO P w a kvs) ∧ RepK P w K H (Mz Z0 own) kvs ds := by
  obtain ⟨n, A, ho, ok⟩ := h.got E e
  have wk : ∀ {vs ds}, RepK P w K H (Mz Z own) vs ds → RepK P w K H (Mz Z0 own) vs ds := fun {vs ds} r => RepK.mono (fun _ _ e _ => e) (fun x hx => .inl (mz_mono h0 hx)) ds vs r
  match n, ho, ok with
  | 0, ⟨_, r⟩, _ =>
    cases r with
    | dic h1 _ h2 => exact ⟨_, _, rfl, h1, wk h2⟩
  | 1, ⟨a, vs, A', e1, e2, _, l⟩, _ => exact ⟨a, vs, e1, .inl e2, wk (ownK0_rep l).2⟩
  | n + 2, _, ok => simp [okL] at ok
theorem ValOk.imm (E : Est P w K Z ρ σ H own) (h0 : ∀ x, Z0 x → Z x) (hd : isImm d = true) (h : ValOk P w K Z0 Z own σ H r v) (e : rd ρ r = some d) : Rep P w K H (Mz Z0 own) v d := by
  obtain ⟨n, A, ho, ok⟩ := h.got E e
  exact Rep.mono (fun _ _ e _ => e) (fun x hx => .inl (mz_mono h0 hx)) d v (imm_own hd ho).2
theorem ValOk.tupItems (E : Est P w K Z ρ σ H own) (h0 : ∀ x, Z0 x → Z x) {ds : List D} (h : ValOk P w K Z0 Z own σ H r v) (e : rd ρ r = some (.tup ds)) : ∃ a vs, v = .ref a ∧ SqT K H a vs ∧ RepL P w K H (Mz Z0 own) vs ds := by
  have q := h.imm E h0 rfl e
  cases q with
  | tup h1 h2 => exact ⟨_, _, rfl, h1.elim .inr fun z => .inl z.1, h2⟩
end
end Dt
set_option Elab.async false
set_option linter.all false
set_option maxRecDepth 100000
set_option autoImplicit false
set_option maxHeartbeats 4000000
/-! The data layer, part 4: names, constants, operands in a row, displays, operators, tests. -/
namespace Dt
open PySem PySem.Spec L2
open PyProof.Rows hiding St

theorem _root_.L2.PE.imp {X : Cx} {e : Expr} {t t' : TE} (h : PE X e t) (f : ∀ σ H Q, t' σ H Q → t σ H Q) : PE X e t' := ⟨fun pins s σ H Q I hw => h.run pins s σ H Q I (f σ H Q hw)⟩
theorem _root_.L2.PT.imp {X : Cx} {e : Expr} {t t' : TT} (h : PT X e t) (f : ∀ σ H Q, t' σ H Q → t σ H Q) : PT X e t' := ⟨fun pins s σ H Q I hw => h.run pins s σ H Q I (f σ H Q hw)⟩
theorem _root_.L2.PW.imp {X : Cx} {e : Expr} {t t' : TT} (h : PW X e t) (f : ∀ σ H Q, t' σ H Q → t σ H Q) : PW X e t' := ⟨fun wh pins s σ H Q I hw => h.run wh pins s σ H Q I (f σ H Q hw)⟩
theorem _root_.L2.PA.imp {X : Cx} {e : List Expr} {t t' : TA} (h : PA X e t) (f : ∀ σ H Q, t' σ H Q → t σ H Q) : PA X e t' := ⟨fun pos pins s σ H Q I hw => h.run pos pins s σ H Q I (f σ H Q hw)⟩
theorem _root_.L2.PS.imp {X : Cx} {e : Stmt} {t t' : TS} (h : PS X e t) (f : ∀ D σ H, t' D σ H → t D σ H) : PS X e t' := ⟨fun pins s σ H D I hw => h.run pins s σ H D I (f D σ H hw)⟩
theorem _root_.L2.PSs.imp {X : Cx} {e : List Stmt} {t t' : TS} (h : PSs X e t) (f : ∀ D σ H, t' D σ H → t D σ H) : PSs X e t' := ⟨fun pins s σ H D I hw => h.run pins s σ H D I (f D σ H hw)⟩

/-! ### the functions on trees -/
/-- a slot that holds a list, a dict of its own is a place; all else is a value -/
def fVar (i : Nat) : EF := fun ρ => match ρ[i]? with
  | some (some (d, n)) => if isImm d = true then some (.own d 5, ρ) else if n = 0 then some (.own d 0, ρ) else some (.slot i, ρ)
  | _ => none
def fVal (d : D) : EF := fun ρ => some (.own d 5, ρ)
def fNil : AF := fun ρ => some ([], ρ)
def fCons (f : EF) (fs : AF) : AF := fun ρ => match f ρ with
  | some (r, ρ1) => if isEnt r = true then none else match fs ρ1 with
    | some (rs, ρ2) => some (r :: rs, ρ2)
    | none => none
  | none => none
def fTup (fs : AF) : EF := fun ρ => match fs ρ with
  | some (rs, ρ1) => if rs.length ≤ 1000 then match escs rs ρ1 with
    | some (ds, ρ2) => some (.own (.tup ds) 5, ρ2)
    | none => none else none
  | none => none
def fLst (fs : AF) : EF := fun ρ => match fs ρ with
  | some (rs, ρ1) => if rs.length ≤ 1000 then match escs rs ρ1 with
    | some (ds, ρ2) => some (.own (.lst ds) 1, ρ2)
    | none => none else none
  | none => none
/-- two operands read, an answer by value -/
def f2 (g : D → D → Option (D × Nat)) (fa fb : EF) : EF := fun ρ => match fa ρ with
  | some (ra, ρ1) => if isEnt ra = true then none else match fb ρ1 with
    | some (rb, ρ2) => if isEnt rb = true then none else match rd ρ2 ra, rd ρ2 rb with
      | some a, some b => match g a b with
        | some (d, n) => some (.own d n, ρ2)
        | none => none
      | _, _ => none
    | none => none
  | none => none
/-- one operand read -/
def f1 (g : D → Option (D × Nat)) (fa : EF) : EF := fun ρ => match fa ρ with
  | some (ra, ρ1) => if isEnt ra = true then none else match rd ρ1 ra with
    | some a => match g a with
      | some (d, n) => some (.own d n, ρ1)
      | none => none
    | none => none
  | none => none

section
variable {X : Cx} {P : Program} {w : World} {K : PySem.W.Frag} {fa fb : EF} {fs : AF} {Z : Addr → Prop} {ρ ρ1 ρ2 ρ' : DEnv} {σ : St} {H : Hp} {own : OwnF} {r ra rb : Res} {rs : List Res}

/-! ### operands in a row -/
theorem run1 (E : Est P w K Z ρ σ H own) (ea : fa ρ = some (ra, ρ1)) (na : isEnt ra = false) {R : V → Hp → Prop}
    (k : ∀ x H1 Z1 own1, Opd P w K Z own H ρ1 σ Z1 own1 H1 → ValOk P w K Z Z1 own1 σ H1 ra x → R x H1) : tE P w K fa σ H R := by
  refine ⟨Z, own, ρ, ra, ρ1, E, ea, fun x H1 p => ?_⟩
  obtain ⟨own1, A, o1, ro, mv, hA, hB⟩ := (Opd.refl E).next p
  exact k x H1 _ own1 o1 (ro.val na (fun _ h => h) hA)
theorem run2 (E : Est P w K Z ρ σ H own) (ea : fa ρ = some (ra, ρ1)) (na : isEnt ra = false) (eb : fb ρ1 = some (rb, ρ2)) (nb : isEnt rb = false) {R : V → V → Hp → Prop}
    (k : ∀ x y H2 Z2 own2, Opd P w K Z own H ρ2 σ Z2 own2 H2 → ValOk P w K Z Z2 own2 σ H2 ra x → ValOk P w K Z Z2 own2 σ H2 rb y → R x y H2) :
    tE P w K fa σ H fun x H1 => tE P w K fb σ H1 fun y H2 => R x y H2 := by
  refine ⟨Z, own, ρ, ra, ρ1, E, ea, fun x H1 p => ?_⟩
  obtain ⟨own1, A, o1, ro, mv, hA, hB⟩ := (Opd.refl E).next p
  refine ⟨_, own1, ρ1, rb, ρ2, o1.E, eb, fun y H2 p2 => ?_⟩
  obtain ⟨own2, A2, o2, ro2, mv2, hA2, hB2⟩ := o1.next p2
  exact k x y H2 _ own2 o2 (ValOk.keep o1.E mv2 hB2 (ro.val na (fun _ h => h) hA)) (ro2.val nb (fun x h => .inl h) hA2)

/-- behind some operands, the values stay through what comes next -/
theorem ValOk.keepO {Z0 Z1 Z2 : Addr → Prop} {own1 own2 : OwnF} {H1 H2 : Hp} (E1 : Est P w K Z1 ρ1 σ H1 own1) (o : Opd P w K Z1 own1 H1 ρ2 σ Z2 own2 H2) : ∀ {r : Res} {v : V}, ValOk P w K Z0 Z1 own1 σ H1 r v → ValOk P w K Z0 Z2 own2 σ H2 r v
  | .slot _, _, h => h
  | .ent _ _, _, h => h
  | .own d n, v, ⟨A, h1, h2, h3⟩ => by
    refine ⟨A, Own.mono n v d A (fun b o' e q => o.mv.fr b o' e fun i hi => ?_) (fun x hx => ?_) h1, h2, fun x hx => ⟨o.z x (h3 x hx).1, (h3 x hx).2⟩⟩
    · rcases q with q | q
      · exact q (.inr ⟨i, hi⟩)
      · exact E1.nz i b hi (h3 b q).1
    · rcases hx with hx | ⟨i, hx⟩
      · rcases o.zf x hx with q | q | q
        · exact .inl (.inl q)
        · exact .inl (.inr q)
        · exact .inr q
      · exact (o.mv.sb i x hx).imp (fun q => .inr q) id
theorem ValOk.z0 {Z0 Z1 Z2 : Addr → Prop} (h : ∀ x, Z2 x → Z0 x) : ∀ {r : Res} {v : V}, ValOk P w K Z0 Z1 own σ H r v → ValOk P w K Z2 Z1 own σ H r v
  | .slot _, _, q => q
  | .ent _ _, _, q => q
  | .own d n, v, ⟨A, h1, h2, h3⟩ => ⟨A, h1, h2, fun x hx => ⟨(h3 x hx).1, fun z => (h3 x hx).2 (h x z)⟩⟩
theorem ValsOk.z0 {Z0 Z1 Z2 : Addr → Prop} (h : ∀ x, Z2 x → Z0 x) : ∀ {rs : List Res} {vs : List V}, ValsOk P w K Z0 Z1 own σ H rs vs → ValsOk P w K Z2 Z1 own σ H rs vs
  | _, _, .nil => .nil
  | _, _, .cons a t => .cons (a.z0 h) (t.z0 h)

theorem r_nil : PA X [] (tA X.prog X.w X.K fNil) := pa_nil.imp fun σ H Q h => by
  obtain ⟨Z, own, ρ, rs, ρ', E, e, k⟩ := h
  simp only [fNil, Option.some.injEq, Prod.mk.injEq] at e
  obtain ⟨rfl, rfl⟩ := e
  exact k [] H Z own (Opd.refl E) .nil
theorem r_cons {e : Expr} {es : List Expr} (ha : PE X e (tE X.prog X.w X.K fa)) (hr : PA X es (tA X.prog X.w X.K fs)) (hs : starEach (e :: es) X.env = (false, eval e X.env) :: starEach es X.env) : PA X (e :: es) (tA X.prog X.w X.K (fCons fa fs)) :=
  (pa_cons ha hr hs).imp fun σ H Q h => by
    obtain ⟨Z, own, ρ, rs, ρ', E, e, k⟩ := h
    simp only [fCons] at e
    split at e
    · rename_i r ρ1 e1
      split at e
      · cases e
      · rename_i ne
        split at e
        · rename_i rs' ρ2 e2
          simp only [Option.some.injEq, Prod.mk.injEq] at e
          obtain ⟨rfl, rfl⟩ := e
          refine run1 E e1 (by simpa using ne) fun x H1 Z1 own1 o1 v1 => ?_
          refine ⟨Z1, own1, ρ1, rs', ρ2, o1.E, e2, fun vs H2 Z2 own2 o2 vs2 => ?_⟩
          refine k (x :: vs) H2 Z2 own2 ⟨o1.mv.trans o2.mv, o2.E, fun x h => o2.z x (o1.z x h), fun x h => ?_⟩ (.cons (v1.keepO o1.E o2) (vs2.z0 o1.z))
          rcases o2.zf x h with q | q | q
          · exact o1.zf x q
          · exact .inr (o1.mv.fresh (.inl q))
          · exact .inr (o1.mv.fresh (.inr q))
        · cases e
    · cases e

/-! ### names, constants -/
theorem r_var {i : Nat} {x : Str} {pos : Pos} (hN : X.N[i]? = some x) (hv : Vis X.env.scope x) (hd : (x == ("__debug__" : Str)) = false) (hcd : (x == ("__classdict__" : Str)) = false) : PE X (.Name x pos) (tE X.prog X.w X.K (fVar i)) :=
  (pe_var hN hv hd hcd).imp fun σ H Q h => by
    obtain ⟨Z, own, ρ, r, ρ', E, e, k⟩ := h
    simp only [fVar] at e
    split at e
    · rename_i d n q
      obtain ⟨v, h1, h2⟩ := E.sl i d n q
      refine ⟨v, h1, ?_⟩
      split at e
      · rename_i im
        simp only [Option.some.injEq, Prod.mk.injEq] at e
        obtain ⟨rfl, rfl⟩ := e
        exact k v H (PostE.plain E (own_imm im (imm_own im h2).2))
      · split at e
        · rename_i e0
          simp only [Option.some.injEq, Prod.mk.injEq] at e
          obtain ⟨rfl, rfl⟩ := e
          subst e0
          exact k v H (PostE.plain E ⟨rfl, h2.2⟩)
        · simp only [Option.some.injEq, Prod.mk.injEq] at e
          obtain ⟨rfl, rfl⟩ := e
          exact k v H ⟨own, [], Mv.refl, E.nil, ⟨rfl, h1, d, n, q⟩, fun _ hx => (List.not_mem_nil hx).elim⟩
    · cases e
theorem val_ok {d : D} {v : V} (hd : isImm d = true) (hr : ∀ H M, Rep P w K H M v d) (E : Est P w K Z ρ σ H own) : PostE P w K Z own H σ (.own d 5) ρ v H := PostE.plain E (own_imm hd (hr _ _))
theorem r_val {e : Expr} {d : D} {v : V} (h : PE X e (tC v)) (hd : isImm d = true) (hr : ∀ H M, Rep X.prog X.w X.K H M v d) : PE X e (tE X.prog X.w X.K (fVal d)) :=
  h.imp fun σ H Q h => by
    obtain ⟨Z, own, ρ, r, ρ', E, e, k⟩ := h
    simp only [fVal, Option.some.injEq, Prod.mk.injEq] at e
    obtain ⟨rfl, rfl⟩ := e
    exact k v H (val_ok hd hr E)

/-! ### displays -/
theorem valsLen {Z0 : Addr → Prop} : ∀ {rs : List Res} {vs : List V}, ValsOk P w K Z0 Z own σ H rs vs → vs.length = rs.length
  | _, _, .nil => rfl
  | _, _, .cons _ t => by rw [List.length_cons, List.length_cons, valsLen t]
theorem small_line {n : Nat} (h : n ≤ 1000) : n ≤ sizeLine := by rw [sizeLine_eq]; omega
theorem r_tup {es : List Expr} {k : Nat} {pos : Pos} (h : PA X es (tA X.prog X.w X.K fs)) : PE X (.Tuple es k pos) (tE X.prog X.w X.K (fTup fs)) :=
  (pe_tup h).imp fun σ H Q h => by
    obtain ⟨Z, own, ρ, r, ρ', E, e, k⟩ := h
    simp only [fTup] at e
    split at e
    · rename_i rs ρ1 e1
      split at e
      · rename_i hl
        split at e
        · rename_i ds ρ2 e2
          simp only [Option.some.injEq, Prod.mk.injEq] at e
          obtain ⟨rfl, rfl⟩ := e
          refine ⟨Z, own, ρ, rs, ρ1, E, e1, fun vs H1 Z1 own1 o1 v1 => ⟨by rw [valsLen v1]; exact small_line hl, fun p hp => ?_⟩⟩
          obtain ⟨own2, E2, s2, rr⟩ := escs_ok o1.z o1.E v1 e2
          exact k _ _ (fin_tup (o1.mv.less s2) E2 o1.z hp rr)
        · cases e
      · cases e
    · cases e
theorem r_lst {es : List Expr} {pos : Pos} (h : PA X es (tA X.prog X.w X.K fs)) : PE X (.List es pos) (tE X.prog X.w X.K (fLst fs)) :=
  (pe_lst h).imp fun σ H Q h => by
    obtain ⟨Z, own, ρ, r, ρ', E, e, k⟩ := h
    simp only [fLst] at e
    split at e
    · rename_i rs ρ1 e1
      split at e
      · rename_i hl
        split at e
        · rename_i ds ρ2 e2
          simp only [Option.some.injEq, Prod.mk.injEq] at e
          obtain ⟨rfl, rfl⟩ := e
          refine ⟨Z, own, ρ, rs, ρ1, E, e1, fun vs H1 Z1 own1 o1 v1 => ⟨by rw [valsLen v1]; exact small_line hl, fun p hp => ?_⟩⟩
          obtain ⟨own2, E2, s2, rr⟩ := escs_ok o1.z o1.E v1 e2
          exact k _ _ (fin_lst (o1.mv.less s2) E2 o1.z hp rr)
        · cases e
      · cases e
    · cases e

/-! ### operations that read one, two operands -/
/-- what an operation by values asks, for g on trees -/
def Op2 (P : Program) (w : World) (K : PySem.W.Frag) (r : R2) (g : D → D → Option (D × Nat)) : Prop :=
  ∀ (Z0 Z : Addr → Prop) (own0 own : OwnF) (H0 H : Hp) (ρ : DEnv) (σ : St) (ra rb : Res) (x y : V) (a b d : D) (n : Nat) (Q : VK), Opd P w K Z0 own0 H0 ρ σ Z own H →
    ValOk P w K Z0 Z own σ H ra x → ValOk P w K Z0 Z own σ H rb y → rd ρ ra = some a → rd ρ rb = some b → g a b = some (d, n) → (∀ v H', PostE P w K Z0 own0 H0 σ (.own d n) ρ v H' → Q v H') → r x y H Q
theorem r_2 {e : Expr} {a b : Expr} {r : R2} {g : D → D → Option (D × Nat)} (rule : ∀ {ta tb : TE}, PE X a ta → PE X b tb → PE X e (tOp r ta tb)) (ha : PE X a (tE X.prog X.w X.K fa)) (hb : PE X b (tE X.prog X.w X.K fb)) (ho : Op2 X.prog X.w X.K r g) : PE X e (tE X.prog X.w X.K (f2 g fa fb)) :=
  (rule ha hb).imp fun σ H Q h => by
    obtain ⟨Z, own, ρ, r, ρ', E, e, k⟩ := h
    simp only [f2] at e
    split at e
    · rename_i ra ρ1 e1
      split at e
      · cases e
      · rename_i na
        split at e
        · rename_i rb ρ2 e2
          split at e
          · cases e
          · rename_i nb
            split at e
            · rename_i da db e3 e4
              split at e
              · rename_i d n e5
                simp only [Option.some.injEq, Prod.mk.injEq] at e
                obtain ⟨rfl, rfl⟩ := e
                refine run2 E e1 (by simpa using na) e2 (by simpa using nb) fun x y H2 Z2 own2 o v1 v2 => ?_
                exact ho _ _ _ _ _ _ _ _ _ _ _ _ _ _ _ _ _ o v1 v2 e3 e4 e5 k
              · cases e
            · cases e
        · cases e
    · cases e
/-- .. as a test -/
theorem t_2 {e : Expr} {a b : Expr} {r : R2} {g : D → D → Option (D × Nat)} (rule : ∀ {ta tb : TE}, PE X a ta → PE X b tb → PT X e (tTest (tOp r ta tb))) (ha : PE X a (tE X.prog X.w X.K fa)) (hb : PE X b (tE X.prog X.w X.K fb)) (ho : Op2 X.prog X.w X.K r g) : PT X e (tT X.prog X.w X.K (f2 g fa fb)) :=
  (rule ha hb).imp fun σ H Q h => by
    obtain ⟨Z, own, ρ, bb, nn, ρ', E, e, k⟩ := h
    simp only [f2] at e
    split at e
    · rename_i ra ρ1 e1
      split at e
      · cases e
      · rename_i na
        split at e
        · rename_i rb ρ2 e2
          split at e
          · cases e
          · rename_i nb
            split at e
            · rename_i da db e3 e4
              split at e
              · rename_i d n e5
                simp only [Option.some.injEq, Prod.mk.injEq, Res.own.injEq] at e
                obtain ⟨⟨rfl, rfl⟩, rfl⟩ := e
                refine run2 E e1 (by simpa using na) e2 (by simpa using nb) fun x y H2 Z2 own2 o v1 v2 => ?_
                refine ho _ _ _ _ _ _ _ _ _ _ _ _ _ _ _ _ _ o v1 v2 e3 e4 e5 fun v H' p => ?_
                obtain ⟨own', A, mv, E', ⟨ro, _⟩, _⟩ := p
                obtain ⟨_, rr⟩ := imm_own (d := .bl bb) rfl ro
                cases rr
                exact ⟨bb, rfl, k H' own' mv E'.drop⟩
              · cases e
            · cases e
        · cases e
    · cases e
/-- an operation on immutable things, whose answer is immutable and leaves the heap -/
theorem op2_pure {r : R2} {g : D → D → Option (D × Nat)} (h : ∀ a b d n, g a b = some (d, n) → isImm d = true) (rule : ∀ x y a b d n H Q, See P w K H x a → See P w K H y b → g a b = some (d, n) → (∀ v, (∀ M, Rep P w K H M v d) → Q v H) → r x y H Q) : Op2 P w K r g := by
  intro Z0 Z own0 own H0 H ρ σ ra rb x y a b d n Q o va vb ea eb e k
  refine rule x y a b d n H Q (va.see o.E ea) (vb.see o.E eb) e fun v hv => k v H ?_
  exact fin_imm o.mv o.E o.z (own_imm (h a b d n e) (hv _))
def Op1 (P : Program) (w : World) (K : PySem.W.Frag) (r : V → Hp → VK → Prop) (g : D → Option (D × Nat)) : Prop :=
  ∀ (Z0 Z : Addr → Prop) (own0 own : OwnF) (H0 H : Hp) (ρ : DEnv) (σ : St) (ra : Res) (x : V) (a d : D) (n : Nat) (Q : VK), Opd P w K Z0 own0 H0 ρ σ Z own H →
    ValOk P w K Z0 Z own σ H ra x → rd ρ ra = some a → g a = some (d, n) → (∀ v H', PostE P w K Z0 own0 H0 σ (.own d n) ρ v H' → Q v H') → r x H Q
theorem r_1 {e : Expr} {a : Expr} {r : V → Hp → VK → Prop} {g : D → Option (D × Nat)} (rule : ∀ {ta : TE}, PE X a ta → PE X e (tUn r ta)) (ha : PE X a (tE X.prog X.w X.K fa)) (ho : Op1 X.prog X.w X.K r g) : PE X e (tE X.prog X.w X.K (f1 g fa)) :=
  (rule ha).imp fun σ H Q h => by
    obtain ⟨Z, own, ρ, r, ρ', E, e, k⟩ := h
    simp only [f1] at e
    split at e
    · rename_i ra ρ1 e1
      split at e
      · cases e
      · rename_i na
        split at e
        · rename_i da e3
          split at e
          · rename_i d n e5
            simp only [Option.some.injEq, Prod.mk.injEq] at e
            obtain ⟨rfl, rfl⟩ := e
            exact run1 E e1 (by simpa using na) fun x H2 Z2 own2 o v1 => ho _ _ _ _ _ _ _ _ _ _ _ _ _ _ o v1 e3 e5 k
          · cases e
        · cases e
    · cases e
theorem op1_pure {r : V → Hp → VK → Prop} {g : D → Option (D × Nat)} (h : ∀ a d n, g a = some (d, n) → isImm d = true) (rule : ∀ x a d n H Q, See P w K H x a → g a = some (d, n) → (∀ v, (∀ M, Rep P w K H M v d) → Q v H) → r x H Q) : Op1 P w K r g := by
  intro Z0 Z own0 own H0 H ρ σ ra x a d n Q o va ea e k
  refine rule x a d n H Q (va.see o.E ea) e fun v hv => k v H ?_
  exact fin_imm o.mv o.E o.z (own_imm (h a d n e) (hv _))
end
end Dt
set_option Elab.async false
set_option linter.all false
set_option maxRecDepth 100000
set_option autoImplicit false
set_option maxHeartbeats 4000000
/-! The data layer, part 5: arithmetic, sums of lists and tuples, comparisons. -/
namespace Dt
open PySem PySem.Spec L2
open PyProof.Rows hiding St

abbrev LIM : Nat := 16777216
def gAdd : D → D → Option (D × Nat)
  | .int i, .int j => some (.int (i + j), 5)
  | .str x, .str y => if x.length + y.length ≤ LIM then some (.str (x ++ y), 5) else none
  | .lst xs, .lst ys => if xs.length + ys.length ≤ LIM then some (.lst (xs ++ ys), 1) else none
  | .tup xs, .tup ys => if xs.length + ys.length ≤ LIM then some (.tup (xs ++ ys), 5) else none
  | _, _ => none
def gSub : D → D → Option (D × Nat)
  | .int i, .int j => some (.int (i - j), 5)
  | _, _ => none
def gMul : D → D → Option (D × Nat)
  | .int i, .int j => if i.natAbs < 18446744073709551616 ∨ j.natAbs < 18446744073709551616 then some (.int (i * j), 5) else none
  | _, _ => none
def gFdiv : D → D → Option (D × Nat)
  | .int i, .int j => if j ≠ 0 ∧ j.natAbs < 1073741824 then some (.int (i.fdiv j), 5) else none
  | _, _ => none
def gMod : D → D → Option (D × Nat)
  | .int i, .int j => if j ≠ 0 then some (.int (i.fmod j), 5) else none
  | _, _ => none
def gPow : D → D → Option (D × Nat)
  | .int i, .int j => if 0 ≤ j ∧ j ≤ 1000000 ∧ i.natAbs < 18446744073709551616 then some (.int (i ^ j.toNat), 5) else none
  | _, _ => none
def gNeg : D → Option (D × Nat)
  | .int i => some (.int (-i), 5)
  | _ => none

section
variable {X : Cx} {P : Program} {w : World} {K : PySem.W.Frag} {fa fb : EF}

theorem see_int {H : Hp} {M : Addr → Prop} {v : V} {i : Int} (h : Rep P w K H M v (.int i)) : v = .int i := by cases h; rfl
theorem see_str {H : Hp} {M : Addr → Prop} {v : V} {i : Str} (h : Rep P w K H M v (.str i)) : v = .str i := by cases h; rfl
theorem see_bl {H : Hp} {M : Addr → Prop} {v : V} {i : Bool} (h : Rep P w K H M v (.bl i)) : v = .bl i := by cases h; rfl
theorem repL_len {H : Hp} {M : Addr → Prop} : ∀ {ds : List D} {vs : List V}, RepL P w K H M vs ds → vs.length = ds.length
  | [], _, r => by cases r; rfl
  | _ :: _, _, r => by
    cases r with
    | cons _ t => rw [List.length_cons, List.length_cons, repL_len t]
theorem repL_app {H : Hp} {M : Addr → Prop} : ∀ {ds es : List D} {vs us : List V}, RepL P w K H M vs ds → RepL P w K H M us es → RepL P w K H M (vs ++ us) (ds ++ es)
  | [], _, _, _, r, q => by cases r; exact q
  | _ :: _, _, _, _, r, q => by
    cases r with
    | cons h t => exact .cons h (repL_app t q)
theorem intBd {i : Int} (h : i.natAbs < 18446744073709551616) : -(2 ^ 64) < i ∧ i < 2 ^ 64 := by omega

def rAddD (K : PySem.W.Frag) : R2 := fun x y H Q => (∃ i j, x = .int i ∧ y = .int j ∧ Q (.int (i + j)) H) ∨ (∃ i j, x = .str i ∧ y = .str j ∧ i.length + j.length ≤ sizeLine ∧ Q (.str (i ++ j)) H) ∨ rCat x y H Q ∨ rCatA K x y H Q
theorem opR_addD : OpR X (binaryOp .Add) (rAddD X.K) := op_add.or (op_add_str.or (op_cat.or op_catA))
theorem o_add : Op2 P w K (rAddD K) gAdd := by
  intro Z0 Z own0 own H0 H ρ σ ra rb x y a b d n Q o va vb ea eb e k
  unfold gAdd at e
  split at e
  · simp only [Option.some.injEq, Prod.mk.injEq] at e
    obtain ⟨rfl, rfl⟩ := e
    cases see_int (va.see o.E ea)
    cases see_int (vb.see o.E eb)
    exact .inl ⟨_, _, rfl, rfl, k _ _ (fin_imm o.mv o.E o.z (own_imm rfl (.int _)))⟩
  · split at e
    · rename_i hl
      simp only [Option.some.injEq, Prod.mk.injEq] at e
      obtain ⟨rfl, rfl⟩ := e
      cases see_str (va.see o.E ea)
      cases see_str (vb.see o.E eb)
      exact .inr (.inl ⟨_, _, rfl, rfl, by rw [sizeLine_eq]; exact hl, k _ _ (fin_imm o.mv o.E o.z (own_imm rfl (.str _)))⟩)
    · cases e
  · split at e
    · rename_i xs ys hl
      simp only [Option.some.injEq, Prod.mk.injEq] at e
      obtain ⟨rfl, rfl⟩ := e
      obtain ⟨a, vs, rfl, ha, ra⟩ := va.items o.E o.z ea
      obtain ⟨b, us, rfl, hb, rb⟩ := vb.items o.E o.z eb
      refine .inr (.inr (.inl ⟨a, b, vs, us, rfl, rfl, ha, hb, by rw [repL_len ra, repL_len rb, sizeLine_eq]; exact hl, fun p hp => ?_⟩))
      exact k _ _ (fin_lst o.mv o.E o.z hp (repL_app ra rb))
    · cases e
  · split at e
    · rename_i xs ys hl
      simp only [Option.some.injEq, Prod.mk.injEq] at e
      obtain ⟨rfl, rfl⟩ := e
      have ta := va.imm o.E o.z rfl ea
      have tb := vb.imm o.E o.z rfl eb
      obtain ⟨a, vs, rfl, ha, ra⟩ := va.tupItems o.E o.z ea
      obtain ⟨b, us, rfl, hb, rb⟩ := vb.tupItems o.E o.z eb
      refine .inr (.inr (.inr ⟨a, b, vs, us, rfl, rfl, ha, hb, by rw [repL_len ra, repL_len rb, sizeLine_eq]; exact hl, fun z => ?_, fun _ z => ?_, fun _ _ p hp => ?_⟩))
      · subst z
        cases ra
        exact k _ _ (fin_imm o.mv o.E o.z (own_imm rfl tb))
      · subst z
        cases rb
        rw [List.append_nil] at k
        exact k _ _ (fin_imm o.mv o.E o.z (own_imm rfl ta))
      · exact k _ _ (fin_tup o.mv o.E o.z hp (repL_app ra rb))
    · cases e
  · cases e
theorem o_sub : Op2 P w K (rI0 fun i j => .int (i - j)) gSub := op2_pure (fun a b d n e => by unfold gSub at e; split at e <;> first | (simp only [Option.some.injEq, Prod.mk.injEq] at e; obtain ⟨rfl, rfl⟩ := e; rfl) | cases e) fun x y a b d n H Q ha hb e k => by
  unfold gSub at e
  split at e
  · simp only [Option.some.injEq, Prod.mk.injEq] at e
    obtain ⟨rfl, rfl⟩ := e
    cases see_int ha
    cases see_int hb
    exact ⟨_, _, rfl, rfl, k _ fun _ => .int _⟩
  · cases e
theorem o_mul : Op2 P w K (rI CMul fun i j => .int (i * j)) gMul := op2_pure (fun a b d n e => by
  unfold gMul at e
  split at e
  · split at e
    · simp only [Option.some.injEq, Prod.mk.injEq] at e; obtain ⟨rfl, rfl⟩ := e; rfl
    · cases e
  · cases e) fun x y a b d n H Q ha hb e k => by
  unfold gMul at e
  split at e
  · split at e
    · rename_i h
      simp only [Option.some.injEq, Prod.mk.injEq] at e
      obtain ⟨rfl, rfl⟩ := e
      cases see_int ha
      cases see_int hb
      exact ⟨_, _, rfl, rfl, h.imp intBd intBd, k _ fun _ => .int _⟩
    · cases e
  · cases e
theorem o_fdiv : Op2 P w K (rI CDivN fun i j => .int (i.fdiv j)) gFdiv := op2_pure (fun a b d n e => by
  unfold gFdiv at e
  split at e
  · split at e
    · simp only [Option.some.injEq, Prod.mk.injEq] at e; obtain ⟨rfl, rfl⟩ := e; rfl
    · cases e
  · cases e) fun x y a b d n H Q ha hb e k => by
  unfold gFdiv at e
  split at e
  · split at e
    · rename_i h
      simp only [Option.some.injEq, Prod.mk.injEq] at e
      obtain ⟨rfl, rfl⟩ := e
      cases see_int ha
      cases see_int hb
      exact ⟨_, _, rfl, rfl, h, k _ fun _ => .int _⟩
    · cases e
  · cases e
theorem o_mod : Op2 P w K (rI (fun _ j => j ≠ 0) fun i j => .int (i.fmod j)) gMod := op2_pure (fun a b d n e => by
  unfold gMod at e
  split at e
  · split at e
    · simp only [Option.some.injEq, Prod.mk.injEq] at e; obtain ⟨rfl, rfl⟩ := e; rfl
    · cases e
  · cases e) fun x y a b d n H Q ha hb e k => by
  unfold gMod at e
  split at e
  · split at e
    · rename_i h
      simp only [Option.some.injEq, Prod.mk.injEq] at e
      obtain ⟨rfl, rfl⟩ := e
      cases see_int ha
      cases see_int hb
      exact ⟨_, _, rfl, rfl, h, k _ fun _ => .int _⟩
    · cases e
  · cases e
theorem o_pow : Op2 P w K (rI CPow fun i j => .int (i ^ j.toNat)) gPow := op2_pure (fun a b d n e => by
  unfold gPow at e
  split at e
  · split at e
    · simp only [Option.some.injEq, Prod.mk.injEq] at e; obtain ⟨rfl, rfl⟩ := e; rfl
    · cases e
  · cases e) fun x y a b d n H Q ha hb e k => by
  unfold gPow at e
  split at e
  · split at e
    · rename_i h
      simp only [Option.some.injEq, Prod.mk.injEq] at e
      obtain ⟨rfl, rfl⟩ := e
      cases see_int ha
      cases see_int hb
      exact ⟨_, _, rfl, rfl, ⟨h.1, h.2.1, by have := h.2.2; omega⟩, k _ fun _ => .int _⟩
    · cases e
  · cases e
theorem o_neg : Op1 P w K (rU fun i => .int (-i)) gNeg := op1_pure (fun a d n e => by unfold gNeg at e; split at e <;> first | (simp only [Option.some.injEq, Prod.mk.injEq] at e; obtain ⟨rfl, rfl⟩ := e; rfl) | cases e) fun x a d n H Q ha e k => by
  unfold gNeg at e
  split at e
  · simp only [Option.some.injEq, Prod.mk.injEq] at e
    obtain ⟨rfl, rfl⟩ := e
    cases see_int ha
    exact ⟨_, rfl, k _ fun _ => .int _⟩
  · cases e
end

/-! ### comparisons -/
def blO (b : Option Bool) : Option (D × Nat) := b.map fun c => (.bl c, 5)
/-- == of data -/
def cEq (a b : D) : Option Bool := match toPy a, toPy b with
  | some x, some y => if (SeqAt.shaped x && SeqAt.shaped y) = true then some (PyData.eqv x y) else none
  | _, _ => none
def notNone : PyData → Bool
  | .none => false
  | _ => true
/-- < of alike data -/
def cLt (a b : D) : Option Bool := match toPy a, toPy b with
  | some x, some y => if (PySem.W.alike x y && SeqAt.shaped x && notNone x) = true then some (PySem.W.dataLt x y) else none
  | _, _ => none
def cI (f : Int → Int → Bool) : D → D → Option Bool
  | .int i, .int j => some (f i j)
  | _, _ => none
/-- x in a list, a tuple -/
def cIn (a b : D) : Option Bool := match toPy a, b with
  | some x, .lst ds => match toPys ds with
    | some xs => if (SeqAt.shaped x && SeqAt.shaped (.list xs)) = true then some (xs.any fun z => PyData.eqv z x) else none
    | none => none
  | some x, .tup ds => match toPys ds with
    | some xs => if (SeqAt.shaped x && SeqAt.shaped (.list xs)) = true then some (xs.any fun z => PyData.eqv z x) else none
    | none => none
  | _, _ => none
/-- is None, is True, is False -/
def cIs (a b : D) : Option Bool := match b with
  | .non => match a with
    | .non => some true
    | _ => some false
  | .bl c => match a with
    | .bl b => some (decide (b = c))
    | _ => none
  | _ => none

section
variable {X : Cx} {P : Program} {w : World} {K : PySem.W.Frag} {fa fb : EF}
theorem blO_imm {g : D → D → Option Bool} : ∀ a b d n, blO (g a b) = some (d, n) → isImm d = true := by
  intro a b d n e
  unfold blO at e
  obtain ⟨c, _, e2⟩ := Option.map_eq_some_iff.mp e
  cases e2
  rfl
def rCmpD (P : Program) (w : World) (K : PySem.W.Frag) (g : D → D → Option Bool) : R2 := fun x y H Q => ∃ a b c, See P w K H x a ∧ See P w K H y b ∧ g a b = some c ∧ Q (.bl c) H
theorem o_cmp {g : D → D → Option Bool} : Op2 P w K (rCmpD P w K g) fun a b => blO (g a b) := op2_pure blO_imm fun x y a b d n H Q ha hb e k => by
  unfold blO at e
  obtain ⟨c, e1, e2⟩ := Option.map_eq_some_iff.mp e
  cases e2
  exact ⟨a, b, c, ha, hb, e1, k _ fun _ => .bl c⟩
theorem op_cmpI {op : CmpOp} {p : Int → Int → Bool} (h : OpR X (compareOp op) (rI0 fun i j => .bl (p i j))) : OpR X (compareOp op) (rCmpD X.prog X.w X.K (cI p)) := by
  intro pins s σ H x y v u Q I rx ry ⟨a, b, c, ha, hb, e, q⟩
  unfold cI at e
  split at e
  · cases e
    cases see_int ha
    cases see_int hb
    exact h pins s σ H _ _ v u Q I rx ry ⟨_, _, rfl, rfl, q⟩
  · cases e
theorem op_cEq (hu : X.A.units + 100 < cLine) : OpR X (compareOp .Eq) (rCmpD X.prog X.w X.K cEq) := by
  intro pins s σ H x y v u Q I rx ry ⟨a, b, c, ha, hb, e, q⟩
  unfold cEq at e
  split at e
  · rename_i p q' e1 e2
    split at e
    · rename_i hs
      simp only [Bool.and_eq_true] at hs
      cases e
      exact op_eqD (by omega) pins s σ H x y v u Q I rx ry ⟨p, q', Rep.dp a x p ha e1, Rep.dp b y q' hb e2, hs.1, hs.2, q⟩
    · cases e
  · cases e
theorem op_cNe (hu : X.A.units + 100 < cLine) : OpR X (compareOp .NotEq) (rCmpD X.prog X.w X.K fun a b => (cEq a b).map (!·)) := by
  intro pins s σ H x y v u Q I rx ry ⟨a, b, c, ha, hb, e, q⟩
  obtain ⟨c', e, e'⟩ := Option.map_eq_some_iff.mp e
  unfold cEq at e
  split at e
  · rename_i p q' e1 e2
    split at e
    · rename_i hs
      simp only [Bool.and_eq_true] at hs
      cases e
      exact op_neD (by omega) pins s σ H x y v u Q I rx ry ⟨p, q', Rep.dp a x p ha e1, Rep.dp b y q' hb e2, hs.1, hs.2, by rw [e']; exact q⟩
    · cases e
  · cases e
theorem op_cLt (hu : X.A.units + 100 < cLine) : OpR X (compareOp .Lt) (rCmpD X.prog X.w X.K cLt) := by
  intro pins s σ H x y v u Q I rx ry ⟨a, b, c, ha, hb, e, q⟩
  unfold cLt at e
  split at e
  · rename_i p q' e1 e2
    split at e
    · rename_i hs
      simp only [Bool.and_eq_true] at hs
      cases e
      obtain ⟨as, r1⟩ := Dp.reads I p x v (Rep.dp a x p ha e1) rx
      obtain ⟨bs, r2⟩ := Dp.reads I q' y u (Rep.dp b y q' hb e2) ry
      have hd := SeqAt.depth_of_shaped hs.1.2
      exact PySem.W.rcLt_alike p q' X.A s v u as bs r1 r2 hs.1.1 (by rintro rfl; exact absurd hs.2 (by simp [notNone])) (by have : min p.depth q'.depth ≤ p.depth := Nat.min_le_left _ _; omega) X.prog X.w X.xe _ ⟨.bl _, H, I, rfl, q⟩
    · cases e
  · cases e
theorem in_of {I' : Prop} {pins : List (Addr × Obj)} {s : Shared} {σ : St} {H : Hp} {x y : V} {v u : Value} {a b : D} {c : Bool} (hu : X.A.units + 100 < cLine) (I : Inv X pins σ H s) (rx : RelV x v) (ry : RelV y u) (ha : See X.prog X.w X.K H x a) (hb : See X.prog X.w X.K H y b) (e : cIn a b = some c) :
    (∀ {Q : Value → Shared → Prop}, Q (.bool c) s → wpAny (model X.prog X.w) X.A (compareOp .In v u) Q X.xe s) ∧ ∀ {Q : Value → Shared → Prop}, Q (.bool (!c)) s → wpAny (model X.prog X.w) X.A (compareOp .NotIn v u) Q X.xe s := by
  unfold cIn at e
  split at e
  · rename_i p ds e1
    split at e
    · rename_i xs e2
      split at e
      · rename_i hs
        simp only [Bool.and_eq_true] at hs
        cases e
        obtain ⟨as, r1⟩ := Dp.reads I p x v (Rep.dp a x p ha e1) rx
        obtain ⟨bs, r2⟩ := Dp.reads I (.list xs) y u (Rep.dp (.lst ds) y _ hb (by simp only [toPy, e2, Option.map_some])) ry
        have hx : PyData.canLayAll0 xs = true := SeqAt.canLay_of_shaped hs.2
        exact ⟨fun {Q} q => SeqAt.in_list_reads r2 r1 hx (SeqAt.canLay_of_shaped hs.1) (room_in_shaped hs.1 (by omega)) q, fun {Q} q => SeqAt.notIn_list_reads r2 r1 hx (SeqAt.canLay_of_shaped hs.1) (room_in_shaped hs.1 (by omega)) q⟩
      · cases e
    · cases e
  · rename_i p ds e1
    split at e
    · rename_i xs e2
      split at e
      · rename_i hs
        simp only [Bool.and_eq_true] at hs
        cases e
        obtain ⟨as, r1⟩ := Dp.reads I p x v (Rep.dp a x p ha e1) rx
        obtain ⟨bs, r2⟩ := Dp.reads I (.tuple xs) y u (Rep.dp (.tup ds) y _ hb (by simp only [toPy, e2, Option.map_some])) ry
        have hx : PyData.canLayAll0 xs = true := SeqAt.canLay_of_shaped hs.2
        exact ⟨fun {Q} q => SeqAt.in_tuple_reads r2 r1 hx (SeqAt.canLay_of_shaped hs.1) (room_in_shaped hs.1 (by omega)) q, fun {Q} q => SeqAt.notIn_tuple_reads r2 r1 hx (SeqAt.canLay_of_shaped hs.1) (room_in_shaped hs.1 (by omega)) q⟩
      · cases e
    · cases e
  · cases e
theorem op_cIn (hu : X.A.units + 100 < cLine) : OpR X (compareOp .In) (rCmpD X.prog X.w X.K cIn) := fun pins s σ H x y v u Q I rx ry ⟨a, b, c, ha, hb, e, q⟩ =>
  (in_of (I' := True) hu I rx ry ha hb e).1 ⟨.bl c, H, I, rfl, q⟩
theorem op_cNotIn (hu : X.A.units + 100 < cLine) : OpR X (compareOp .NotIn) (rCmpD X.prog X.w X.K fun a b => (cIn a b).map (!·)) := fun pins s σ H x y v u Q I rx ry ⟨a, b, c, ha, hb, e, q⟩ => by
  obtain ⟨c', e1, e2⟩ := Option.map_eq_some_iff.mp e
  subst e2
  clear e
  exact (in_of (I' := True) hu I rx ry ha hb e1).2 ⟨.bl _, H, I, rfl, q⟩
theorem non_iff {H : Hp} {M : Addr → Prop} {x : V} {a : D} (h : Rep P w K H M x a) : decide (x = .non) = (match a with | .non => true | _ => false) := by
  cases h <;> rfl
theorem op_cIs : OpR X (compareOp .Is) (rCmpD X.prog X.w X.K cIs) := by
  intro pins s σ H x y v u Q I rx ry ⟨a, b, c, ha, hb, e, q⟩
  unfold cIs at e
  split at e
  · cases hb
    refine op_isN pins s σ H x .non v u Q I rx ry ⟨rfl, ?_⟩
    rw [non_iff ha]
    cases a <;> (simp only at e; cases e; exact q)
  · split at e
    · cases e
      cases see_bl ha
      cases see_bl hb
      exact op_is_bl pins s σ H _ _ v u Q I rx ry ⟨_, _, rfl, rfl, q⟩
    · cases e
  · cases e
theorem op_cIsNot : OpR X (compareOp .IsNot) (rCmpD X.prog X.w X.K fun a b => (cIs a b).map (!·)) := by
  intro pins s σ H x y v u Q I rx ry ⟨a, b, c, ha, hb, e, q⟩
  obtain ⟨c', e1, e2⟩ := Option.map_eq_some_iff.mp e
  subst e2
  clear e
  have e := e1
  clear e1
  unfold cIs at e
  split at e
  · cases hb
    refine op_notN pins s σ H x .non v u Q I rx ry ⟨rfl, ?_⟩
    rw [non_iff ha]
    cases a <;> (simp only at e; cases e; exact q)
  · split at e
    · cases e
      cases see_bl ha
      cases see_bl hb
      exact op_isnot_bl pins s σ H _ _ v u Q I rx ry ⟨_, _, rfl, rfl, q⟩
    · cases e
  · cases e
end
end Dt
set_option Elab.async false
set_option linter.all false
set_option maxRecDepth 100000
set_option autoImplicit false
set_option maxHeartbeats 4000000
/-! The data layer, part 6: statements. -/
namespace Dt
open PySem PySem.Spec L2
open PyProof.Rows hiding St

inductive SOut where
  | nx (ρ : DEnv) | bk (ρ : DEnv) | ct (ρ : DEnv) | rt (d : D) (n : Nat) (ρ : DEnv)
/-- a statement on trees, with fuel for its while loops -/
abbrev SF := Nat → DEnv → Option SOut
/-- the slots but these keep their values -/
def Kp (asg : List Nat) (σ σ' : St) : Prop := ∀ i, i ∉ asg → σ'[i]? = σ[i]?
section
variable (P : Program) (w : World) (K : PySem.W.Frag)
def Fin (Z : Addr → Prop) (own : OwnF) (H : Hp) (σ : St) (asg : List Nat) (D : Ends) : SOut → Prop
  | .nx ρ' => ∀ σ' H' own', Mv own H own' H' → Est P w K Z ρ' σ' H' own' → Kp asg σ σ' → D.nx σ' H'
  | .bk ρ' => ∀ σ' H' own', Mv own H own' H' → Est P w K Z ρ' σ' H' own' → Kp asg σ σ' → D.bk σ' H'
  | .ct ρ' => ∀ σ' H' own', Mv own H own' H' → Est P w K Z ρ' σ' H' own' → Kp asg σ σ' → D.ct σ' H'
  | .rt d n ρ' => ∀ v σ' H' own' A, Mv own H own' H' → Est P w K (Zp Z A) ρ' σ' H' own' → Own P w K H' (Mz (Zp Z A) own') n v d A → A.Nodup → (∀ x ∈ A, ¬ Z x ∧ ((∃ j, x ∈ own j) ∨ H x = none)) → Kp asg σ σ' → D.rt v H'
def tS (asg : List Nat) (f : SF) : TS := fun D σ H => ∃ Z own ρ fuel out, Est P w K Z ρ σ H own ∧ f fuel ρ = some out ∧ Fin P w K Z own H σ asg D out
end

def seqF (f g : SF) : SF := fun n ρ => match f n ρ with
  | some (.nx ρ1) => g n ρ1
  | o => o
def nopF : SF := fun _ ρ => some (.nx ρ)
def ifF (c : EF) (f g : SF) : SF := fun n ρ => match c ρ with
  | some (.own (.bl true) _, ρ1) => f n ρ1
  | some (.own (.bl false) _, ρ1) => g n ρ1
  | _ => none
def whileF (c : EF) (f : SF) : SF
  | 0, _ => none
  | n + 1, ρ => match c ρ with
    | some (.own (.bl true) _, ρ1) => match f n ρ1 with
      | some (.nx ρ2) => whileF c f n ρ2
      | some (.ct ρ2) => whileF c f n ρ2
      | some (.bk ρ2) => some (.nx ρ2)
      | o => o
    | some (.own (.bl false) _, ρ1) => some (.nx ρ1)
    | _ => none
/-- a result into a slot -/
def asgR (i : Nat) (r : Res) (ρ : DEnv) : Option DEnv :=
  if i < ρ.length then match r with
  | .own d n => some (ρ.set i (some (d, n)))
  | r => match esc r ρ with
    | some (d, ρ1) => some (ρ1.set i (some (d, 0)))
    | none => none
  else none
def setF (i : Nat) (e : EF) : SF := fun _ ρ => match e ρ with
  | some (r, ρ1) => match asgR i r ρ1 with
    | some ρ2 => some (.nx ρ2)
    | none => none
  | none => none
def asgRs : List Nat → List Res → DEnv → Option DEnv
  | [], [], ρ => some ρ
  | i :: is, r :: rs, ρ => match asgR i r ρ with
    | some ρ1 => asgRs is rs ρ1
    | none => none
  | _, _, _ => none
def parF (is : List Nat) (es : AF) : SF := fun _ ρ => match es ρ with
  | some (rs, ρ1) => match asgRs is rs ρ1 with
    | some ρ2 => some (.nx ρ2)
    | none => none
  | none => none
def dropF (e : EF) : SF := fun _ ρ => match e ρ with
  | some (_, ρ1) => some (.nx ρ1)
  | none => none
/-- return: a list, a dict of one's own goes out as it is (to the depth 1), all else frozen -/
def retF (e : EF) : SF := fun _ ρ => match e ρ with
  | some (r, ρ1) => match r with
    | .own d n => some (.rt d n ρ1)
    | .slot i => match ρ1[i]? with
      | some (some (d, n)) => some (.rt d n (ρ1.set i none))
      | _ => none
    | .ent _ _ => none
  | none => none

section
variable {X : Cx} {P : Program} {w : World} {K : PySem.W.Frag} {Z : Addr → Prop} {ρ ρ1 ρ2 ρ' : DEnv} {σ σ' σ1 : St} {H H' H1 : Hp} {own own1 own' : OwnF} {fa : EF} {f g : SF} {asg asg1 asg2 : List Nat} {out : SOut}

theorem Kp.refl : Kp asg σ σ := fun _ _ => rfl
theorem Kp.trans (a : Kp asg σ σ1) (b : Kp asg σ1 σ') : Kp asg σ σ' := fun i h => (b i h).trans (a i h)
theorem Kp.sub (h : ∀ i ∈ asg1, i ∈ asg2) (k : Kp asg1 σ σ') : Kp asg2 σ σ' := fun i hi => k i fun z => hi (h i z)
theorem Kp.set {i : Nat} {v : Option V} (h : i ∈ asg) : Kp asg σ (σ.set i v) := fun j hj => by
  rw [List.getElem?_set_ne]
  rintro rfl
  exact hj h
/-- what is left to do from a later state -/
theorem Fin.later {Dn : Ends} (mv : Mv own H own1 H1) (kp : Kp asg σ σ1) (sub : ∀ i ∈ asg2, i ∈ asg) : ∀ {out : SOut}, Fin P w K Z own H σ asg Dn out → Fin P w K Z own1 H1 σ1 asg2 Dn out
  | .nx _, h => fun σ' H' own' m E k => h σ' H' own' (mv.trans m) E (kp.trans (k.sub sub))
  | .bk _, h => fun σ' H' own' m E k => h σ' H' own' (mv.trans m) E (kp.trans (k.sub sub))
  | .ct _, h => fun σ' H' own' m E k => h σ' H' own' (mv.trans m) E (kp.trans (k.sub sub))
  | .rt d n _, h => fun v σ' H' own' A m E o nd hA k => h v σ' H' own' A (mv.trans m) E o nd (fun x hx => ⟨(hA x hx).1, mv.fresh (hA x hx).2⟩) (kp.trans (k.sub sub))
theorem Fin.sub {Dn : Ends} (sub : ∀ i ∈ asg2, i ∈ asg) {out : SOut} (h : Fin P w K Z own H σ asg Dn out) : Fin P w K Z own H σ asg2 Dn out := h.later Mv.refl Kp.refl sub
theorem tS.sub (h : ∀ i ∈ asg1, i ∈ asg2) : ∀ D σ H, tS P w K asg2 f D σ H → tS P w K asg1 f D σ H := fun D σ H ⟨Z, own, ρ, fuel, out, E, e, k⟩ => ⟨Z, own, ρ, fuel, out, E, e, k.sub h⟩

theorem s_nil : PSs X [] (tS X.prog X.w X.K asg nopF) := pss_nil.imp fun D σ H ⟨Z, own, ρ, fuel, out, E, e, k⟩ => by
  simp only [nopF, Option.some.injEq] at e
  subst e
  exact k σ H own Mv.refl E Kp.refl
theorem s_cons {st : Stmt} {rest : List Stmt} (h1 : PS X st (tS X.prog X.w X.K asg1 f)) (h2 : PSs X rest (tS X.prog X.w X.K asg2 g)) : PSs X (st :: rest) (tS X.prog X.w X.K (asg1 ++ asg2) (seqF f g)) :=
  (pss_cons h1 h2).imp fun D σ H ⟨Z, own, ρ, fuel, out, E, e, k⟩ => by
    have s1 : ∀ i ∈ asg1, i ∈ asg1 ++ asg2 := fun i h => List.mem_append_left _ h
    have s2 : ∀ i ∈ asg2, i ∈ asg1 ++ asg2 := fun i h => List.mem_append_right _ h
    simp only [seqF] at e
    cases ef : f fuel ρ with
    | none => rw [ef] at e; simp at e
    | some o =>
      rw [ef] at e
      refine ⟨Z, own, ρ, fuel, o, E, ef, ?_⟩
      cases o with
      | nx ρ1 =>
        intro σ1 H1 own1 mv E1 kp
        exact ⟨Z, own1, ρ1, fuel, out, E1, e, k.later mv (kp.sub s1) s2⟩
      | bk ρ1 => simp only [Option.some.injEq] at e; subst e; exact k.sub s1
      | ct ρ1 => simp only [Option.some.injEq] at e; subst e; exact k.sub s1
      | rt d n ρ1 => simp only [Option.some.injEq] at e; subst e; exact k.sub s1
theorem s_pass {pos : Pos} : PS X (.Pass pos) (tS X.prog X.w X.K asg nopF) := ps_pass.imp fun D σ H ⟨Z, own, ρ, fuel, out, E, e, k⟩ => by
  simp only [nopF, Option.some.injEq] at e
  subst e
  exact k σ H own Mv.refl E Kp.refl
theorem s_if {c : Expr} {a b : List Stmt} {pos : Pos} (hc : PT X c (tT X.prog X.w X.K fa)) (ha : PSs X a (tS X.prog X.w X.K asg1 f)) (hb : PSs X b (tS X.prog X.w X.K asg2 g)) : PS X (.If c a b pos) (tS X.prog X.w X.K (asg1 ++ asg2) (ifF fa f g)) :=
  (ps_if hc ha hb).imp fun D σ H ⟨Z, own, ρ, fuel, out, E, e, k⟩ => by
    have s1 : ∀ i ∈ asg1, i ∈ asg1 ++ asg2 := fun i h => List.mem_append_left _ h
    have s2 : ∀ i ∈ asg2, i ∈ asg1 ++ asg2 := fun i h => List.mem_append_right _ h
    simp only [ifF] at e
    split at e
    · rename_i n ρ1 ec
      refine ⟨Z, own, ρ, true, n, ρ1, E, ec, fun H1 own1 mv E1 => iteT ?_⟩
      exact ⟨Z, own1, ρ1, fuel, out, E1, e, k.later mv Kp.refl s1⟩
    · rename_i n ρ1 ec
      refine ⟨Z, own, ρ, false, n, ρ1, E, ec, fun H1 own1 mv E1 => iteF ?_⟩
      exact ⟨Z, own1, ρ1, fuel, out, E1, e, k.later mv Kp.refl s2⟩
    · cases e
theorem s_while {c : Expr} {body : List Stmt} {pos : Pos} (hp : PassesOwn (model X.prog X.w) X.A X.env X.xe) (hc : PT X c (tT X.prog X.w X.K fa)) (hb : PSs X body (tS X.prog X.w X.K asg f)) : PS X (.While c body [] pos) (tS X.prog X.w X.K asg (whileF fa f)) :=
  (ps_while hp hc hb).imp fun D σ H ⟨Z, own, ρ, fuel, out, E, e, k⟩ => by
    refine ⟨fun m σ' H' => ∃ own' ρ', Mv own H own' H' ∧ Est X.prog X.w X.K Z ρ' σ' H' own' ∧ Kp asg σ σ' ∧ whileF fa f m ρ' = some out, ⟨fuel, own, ρ, Mv.refl, E, Kp.refl, e⟩, ?_⟩
    rintro m σ1 H1 ⟨own1, ρ1, mv1, E1, kp1, e1⟩
    cases m with
    | zero => simp [whileF] at e1
    | succ m =>
      simp only [whileF] at e1
      split at e1
      · rename_i n ρ2 ec
        refine ⟨Z, own1, ρ1, true, n, ρ2, E1, ec, fun H2 own2 mv2 E2 => iteT ?_⟩
        refine ⟨fun σ' H' => ∃ own' ρ', Mv own H own' H' ∧ Est X.prog X.w X.K Z ρ' σ' H' own' ∧ Kp asg σ σ' ∧ whileF fa f m ρ' = some out, fun σ' H' h => ⟨m, Nat.lt_succ_self m, h⟩, ?_⟩
        cases ef : f m ρ2 with
        | none => rw [ef] at e1; simp at e1
        | some o =>
          rw [ef] at e1
          refine ⟨Z, own2, ρ2, m, o, E2, ef, ?_⟩
          cases o with
          | nx ρ3 => exact fun σ3 H3 own3 mv3 E3 kp3 => ⟨own3, ρ3, mv1.trans (mv2.trans mv3), E3, kp1.trans kp3, e1⟩
          | ct ρ3 => exact fun σ3 H3 own3 mv3 E3 kp3 => ⟨own3, ρ3, mv1.trans (mv2.trans mv3), E3, kp1.trans kp3, e1⟩
          | bk ρ3 =>
            simp only [Option.some.injEq] at e1
            subst e1
            exact fun σ3 H3 own3 mv3 E3 kp3 => k σ3 H3 own3 (mv1.trans (mv2.trans mv3)) E3 (kp1.trans kp3)
          | rt d n ρ3 =>
            simp only [Option.some.injEq] at e1
            subst e1
            exact k.later (mv1.trans mv2) kp1 fun _ h => h
      · rename_i n ρ2 ec
        simp only [Option.some.injEq] at e1
        subst e1
        exact ⟨Z, own1, ρ1, false, n, ρ2, E1, ec, fun H2 own2 mv2 E2 => iteF (k σ1 H2 own2 (mv1.trans mv2) E2 kp1)⟩
      · cases e1

/-- the slot i now owns A -/
def given (own : OwnF) (i : Nat) (A : List Addr) : OwnF := fun j => if j = i then A else own j
theorem Est.give {i n : Nat} {d : D} {v : V} {A : List Addr} (E : Est P w K (Zp Z A) ρ σ H own) (hi : i < ρ.length) (ho : Own P w K H (Mz (Zp Z A) own) n v d A) (nd : A.Nodup) (hA : ∀ x ∈ A, ¬ Z x) :
    Est P w K Z (ρ.set i (some (d, n))) (σ.set i (some v)) H (given own i A) := by
  have sub : ∀ x, Mz Z (given own i A) x → Mz (Zp Z A) own x := by
    rintro x (z | ⟨j, z⟩)
    · exact .inl (.inl z)
    · unfold given at z
      split at z
      · exact .inl (.inr z)
      · exact .inr ⟨j, z⟩
  have mem : ∀ j x, x ∈ given own i A j → (j = i ∧ x ∈ A) ∨ (j ≠ i ∧ x ∈ own j) := by
    intro j x z
    unfold given at z
    split at z
    · exact .inl ⟨by assumption, z⟩
    · exact .inr ⟨by assumption, z⟩
  refine ⟨by rw [List.length_set, List.length_set]; exact E.len, fun j d' n' ej => ?_, fun j hj => ?_, fun j => ?_, fun j k x h1 h2 => ?_, fun j x hx => ?_, fun x z => E.zh x (.inl z), fun j x hx => ?_⟩
  · by_cases h : j = i
    · subst h
      rw [List.getElem?_set_self hi] at ej
      simp only [Option.some.injEq, Prod.mk.injEq] at ej
      obtain ⟨rfl, rfl⟩ := ej
      refine ⟨v, List.getElem?_set_self (by rw [← E.len]; exact hi), ?_⟩
      have eo : given own j A j = A := by unfold given; rw [if_pos rfl]
      rw [eo]
      exact Own.mono n v d A (fun _ _ e _ => e) (fun x hx => .inl (sub x hx)) ho
    · rw [List.getElem?_set_ne (Ne.symm h)] at ej
      obtain ⟨v', h1, h2⟩ := E.sl j _ _ ej
      refine ⟨v', by rw [List.getElem?_set_ne (Ne.symm h)]; exact h1, ?_⟩
      have eo : given own i A j = own j := by unfold given; rw [if_neg h]
      rw [eo]
      exact Own.mono n' v' d' _ (fun _ _ e _ => e) (fun x hx => .inl (sub x hx)) h2
  · have h : j ≠ i := by
      rintro rfl
      exact hj d n (List.getElem?_set_self hi)
    have eo : given own i A j = own j := by unfold given; rw [if_neg h]
    rw [eo]
    exact E.em j fun d n q => hj d n (by rw [List.getElem?_set_ne (Ne.symm h)]; exact q)
  · unfold given
    split
    · exact nd
    · exact E.nd j
  · rcases mem j x h1 with ⟨a, b⟩ | ⟨a, b⟩ <;> rcases mem k x h2 with ⟨a', b'⟩ | ⟨a', b'⟩
    · rw [a, a']
    · exact absurd (.inr b) (E.nz k x b')
    · exact absurd (.inr b') (E.nz j x b)
    · exact E.dj j k x b b'
  · rcases mem j x hx with ⟨a, b⟩ | ⟨a, b⟩
    · exact hA x b
    · exact fun z => E.nz j x b (.inl z)
  · rcases mem j x hx with ⟨a, b⟩ | ⟨a, b⟩
    · exact E.zh x (.inr b)
    · exact E.oh j x b
theorem given_sub {i : Nat} {A : List Addr} {j : Nat} {x : Addr} (h : x ∈ given own i A j) : x ∈ A ∨ x ∈ own j := by
  unfold given at h
  split at h
  · exact .inl h
  · exact .inr h
/-- a result put into a slot -/
theorem asgR_ok {i : Nat} {r : Res} {v : V} {A : List Addr} (mv : Mv own H own1 H1) (E : Est P w K (Zp Z A) ρ1 σ H1 own1) (ro : ResOk P w K (Zp Z A) own1 ρ1 σ H1 r v A) (hA : ∀ x ∈ A, ¬ Z x ∧ ((∃ j, x ∈ own j) ∨ H x = none)) (e : asgR i r ρ1 = some ρ2) :
    ∃ own2, Mv own H own2 H1 ∧ Est P w K Z ρ2 (σ.set i (some v)) H1 own2 := by
  unfold asgR at e
  split at e
  case isFalse => cases e
  rename_i hi
  cases r with
  | own d n =>
    simp only [Option.some.injEq] at e
    subst e
    refine ⟨given own1 i A, ⟨mv.fr, fun j x hx => ?_⟩, E.give hi ro.1 ro.2 fun x hx => (hA x hx).1⟩
    rcases given_sub hx with q | q
    · exact (hA x q).2
    · exact mv.sb j x q
  | slot k =>
    obtain ⟨rfl, h1, _⟩ := ro
    simp only at e
    split at e
    · rename_i d ρ3 e1
      simp only [Option.some.injEq] at e
      subst e
      obtain ⟨own2, E2, s2, rr⟩ := esc_ok (Z0 := Z) E.drop (fun _ h => h) (v := v) (show ValOk P w K Z Z own1 σ H1 (.slot k) v from h1) e1
      have hl : ρ3.length = ρ1.length := by rw [E2.len, E.len]
      refine ⟨given own2 i [], ⟨mv.fr, fun j x hx => ?_⟩, Est.give (A := []) E2.nil (by rw [hl]; exact hi) ⟨rfl, Rep.mono (fun _ _ e _ => e) (fun x hx => .inl (mz_mono (fun _ h => zp_nil.mp h) hx)) d v rr⟩ List.nodup_nil fun _ h => (List.not_mem_nil h).elim⟩
      rcases given_sub hx with q | q
      · exact (List.not_mem_nil q).elim
      · exact mv.sb j x (s2 j x q)
    · cases e
  | ent k d => simp [esc] at e
theorem s_set {i : Nat} {x : Str} {e : Expr} {pos pos' : Pos} (hN : X.N.Nodup) (hi : X.N[i]? = some x) (hx : Loc X.env.scope x) (he : PE X e (tE X.prog X.w X.K fa)) (hs : swapsWith e (some (.Name x pos')) pos.line X.env = pure false) (hf : X.fn x = true ∨ X.env.scope.names.lookup x = some .local) :
    PS X (.Assign [.Name x pos'] e pos) (tS X.prog X.w X.K [i] (setF i fa)) :=
  (ps_set hN hi hx he hs hf).imp fun D σ H ⟨Z, own, ρ, fuel, out, E, e, k⟩ => by
    simp only [setF] at e
    split at e
    · rename_i r ρ1 e1
      split at e
      · rename_i ρ2 e2
        simp only [Option.some.injEq] at e
        subst e
        refine ⟨Z, own, ρ, r, ρ1, E, e1, fun v H1 ⟨own1, A, mv, E1, ro, hA⟩ => ?_⟩
        obtain ⟨own2, mv2, E2⟩ := asgR_ok mv E1 ro hA e2
        exact k _ H1 own2 mv2 E2 (Kp.set (by simp))
      · cases e
    · cases e
theorem s_drop {e : Expr} {pos : Pos} (he : PE X e (tE X.prog X.w X.K fa)) (hs : swapsWith e none pos.line X.env = pure false) : PS X (.Expr e pos) (tS X.prog X.w X.K asg (dropF fa)) :=
  (ps_expr he hs).imp fun D σ H ⟨Z, own, ρ, fuel, out, E, e, k⟩ => by
    simp only [dropF] at e
    split at e
    · rename_i r ρ1 e1
      simp only [Option.some.injEq] at e
      subst e
      exact ⟨Z, own, ρ, r, ρ1, E, e1, fun v H1 ⟨own1, A, mv, E1, ro, hA⟩ => k σ H1 own1 mv E1.drop Kp.refl⟩
    · cases e
theorem s_ret {e : Expr} {pos : Pos} (he : PE X e (tE X.prog X.w X.K fa)) : PS X (.Return (some e) pos) (tS X.prog X.w X.K asg (retF fa)) :=
  (ps_ret he).imp fun D σ H ⟨Z, own, ρ, fuel, out, E, e, k⟩ => by
    simp only [retF] at e
    split at e
    · rename_i r ρ1 e1
      refine ⟨Z, own, ρ, r, ρ1, E, e1, fun v H1 ⟨own1, A, mv, E1, ro, hA⟩ => ?_⟩
      cases r with
      | own d n =>
        simp only [Option.some.injEq] at e
        subst e
        exact k v σ H1 own1 A mv E1 ro.1 ro.2 hA Kp.refl
      | slot i =>
        obtain ⟨rfl, h1, d0, n0, h2⟩ := ro
        simp only [h2, Option.some.injEq] at e
        subst e
        obtain ⟨v', h3, h4⟩ := E1.sl i d0 n0 h2
        rw [h1] at h3
        simp only [Option.some.injEq] at h3
        subst h3
        have E0 := E1.drop
        have sub : ∀ x, Mz (Zp Z (own1 i)) (disown own1 i) x → Mz Z own1 x := by
          rintro x ((z | z) | ⟨j, z⟩)
          · exact .inl z
          · exact .inr ⟨i, z⟩
          · exact .inr ⟨j, (disown_sub z).1⟩
        refine k v σ H1 (disown own1 i) (own1 i) (mv.less fun j x hx => (disown_sub hx).1) ⟨by rw [List.length_set]; exact E0.len, fun j d' n' ej => ?_, fun j hj => ?_, fun j => ?_, fun j k x h1 h2 => E0.dj j k x (disown_sub h1).1 (disown_sub h2).1, fun j x hx z => ?_, fun x z => z.elim (E0.zh x) (E0.oh i x), fun j x hx => E0.oh j x (disown_sub hx).1⟩
          (Own.mono n0 v d0 _ (fun _ _ e _ => e) (fun x hx => .inl ((sub x hx).imp (fun z => .inl z) id)) h4) (E0.nd i) (fun x hx => ⟨E0.nz i x hx, mv.sb i x hx⟩) Kp.refl
        · by_cases hj : j = i
          · subst hj
            by_cases hl : j < ρ1.length
            · rw [List.getElem?_set_self hl] at ej; cases ej
            · rw [List.getElem?_eq_none (by rw [List.length_set]; omega)] at ej; cases ej
          · rw [List.getElem?_set_ne (Ne.symm hj)] at ej
            obtain ⟨v', h1, h2⟩ := E0.sl j _ _ ej
            refine ⟨v', h1, ?_⟩
            have eo : disown own1 i j = own1 j := by unfold disown; rw [if_neg hj]
            rw [eo]
            exact Own.mono n' v' d' _ (fun _ _ e _ => e) (fun x hx => .inl (sub x hx)) h2
        · by_cases h : j = i
          · subst h
            unfold disown; rw [if_pos rfl]
          · have eo : disown own1 i j = own1 j := by unfold disown; rw [if_neg h]
            rw [eo]
            exact E0.em j fun d n q => hj d n (by rw [List.getElem?_set_ne (Ne.symm h)]; exact q)
        · unfold disown
          split
          · exact List.nodup_nil
          · exact E0.nd j
        · rcases z with z | z
          · exact E0.nz j x (disown_sub hx).1 z
          · exact (disown_sub hx).2 (E0.dj j i x (disown_sub hx).1 z)
      | ent i d => simp at e
    · cases e
end
end Dt
set_option Elab.async false
set_option linter.all false
set_option maxRecDepth 100000
set_option autoImplicit false
set_option maxHeartbeats 4000000
/-! The data layer, part 7: a def's promise on trees, its call, its body. -/
namespace Dt
open PySem PySem.Spec L2
open PyProof.Rows hiding St

/-- what a def does, on trees: the answer, and what its first argument is behind it (where that is changed) -/
abbrev DF := List D → Option (D × D)
section
variable (P : Program) (w : World) (K : PySem.W.Frag)
def ArgsOk (io : Bool) (H : Hp) (Z : Addr → Prop) (A0 : List Addr) (vs : List V) (ds : List D) : Prop :=
  if io = true then ∃ v d vs' ds', vs = v :: vs' ∧ ds = d :: ds' ∧ Own P w K H (Zp Z A0) 1 v d A0 ∧ RepL P w K H (Zp Z A0) vs' ds' else A0 = [] ∧ RepL P w K H Z vs ds
def IoOk (io : Bool) (H : Hp) (M : Addr → Prop) (A0 : List Addr) (vs : List V) (d0 : D) : Prop :=
  io = true → ∃ v vs', vs = v :: vs' ∧ Own P w K H M 1 v d0 A0
/-- the promise: called with such arguments, F's answer; rl: a list, a dict in the answer is new, to that depth (0 or 1) -/
def SpD (io : Bool) (ar rl : Nat) (F : DF) : Sp := fun vs H Q _ => ∃ (Z : Addr → Prop) (ds : List D) (A0 : List Addr) (d d0 : D),
  (∀ x, Z x → H x ≠ none) ∧ A0.Nodup ∧ (∀ x ∈ A0, ¬ Z x ∧ H x ≠ none) ∧ ArgsOk P w K io H Z A0 vs ds ∧ vs.length = ar ∧ F ds = some (d, d0) ∧
  ∀ v H' A, (∀ b o, H b = some o → b ∉ A0 → H' b = some o) → IoOk P w K io H' (Zp (Zp Z A0) A) A0 vs d0 → Own P w K H' (Zp (Zp Z A0) A) rl v d A → A.Nodup → (∀ x ∈ A, H x = none ∧ H' x ≠ none) → Q v H'
end

/-! ### the call -/
def callF (io : Bool) (rl : Nat) (F : DF) (fs : AF) : EF := fun ρ => match fs ρ with
  | some (rs, ρ1) => if io = true then (match rs with
      | .slot i :: rs' => match escs rs' ρ1 with
        | some (ds, ρ2) => match ρ2[i]? with
          | some (some (d, n)) => if n = 1 then match F (d :: ds) with
            | some (r, d0) => some (.own r rl, ρ2.set i (some (d0, 1)))
            | none => none else none
          | _ => none
        | none => none
      | _ => none)
    else match escs rs ρ1 with
      | some (ds, ρ2) => match F ds with
        | some (r, _) => some (.own r rl, ρ2)
        | none => none
      | none => none
  | none => none

section
variable {X : Cx} {P : Program} {w : World} {K : PySem.W.Frag} {Z : Addr → Prop} {ρ ρ1 ρ2 ρ' : DEnv} {σ σ' σ1 : St} {H H' H1 : Hp} {own own1 own' : OwnF} {fs : AF}

/-- a slot's tree has changed, its object is the same -/
theorem Est.change {i n : Nat} {d : D} {v : V} {Z' : Addr → Prop} (E : Est P w K Z ρ σ H own) (hi : i < ρ.length) (hv : σ[i]? = some (some v)) (g : ∀ b o, H b = some o → b ∉ own i → H' b = some o) (hz : ∀ x, Z' x → Z x ∨ H x = none) (hzh : ∀ x, Z' x → H' x ≠ none)
    (ho : Own P w K H' (Mz Z' own) n v d (own i)) (hoh : ∀ x ∈ own i, H' x ≠ none) : Est P w K Z' (ρ.set i (some (d, n))) σ H' own where
  len := by rw [List.length_set]; exact E.len
  sl := fun j d' n' ej => by
    by_cases h : j = i
    · subst h
      rw [List.getElem?_set_self hi] at ej
      simp only [Option.some.injEq, Prod.mk.injEq] at ej
      obtain ⟨rfl, rfl⟩ := ej
      exact ⟨v, hv, ho⟩
    · rw [List.getElem?_set_ne (Ne.symm h)] at ej
      obtain ⟨v', h1, h2⟩ := E.sl j _ _ ej
      refine ⟨v', h1, Own.mono n' v' d' _ (fun b o e q => g b o e fun hb => ?_) (fun x hx => ?_) h2⟩
      · rcases q with q | q
        · exact q (.inr ⟨i, hb⟩)
        · exact h (E.dj j i b q hb)
      · rcases hx with hx | hx
        · exact (hz x hx).imp (fun z => .inl z) id
        · exact .inl (.inr hx)
  em := fun j hj => by
    have h : j ≠ i := by
      rintro rfl
      exact hj d n (List.getElem?_set_self hi)
    exact E.em j fun d n q => hj d n (by rw [List.getElem?_set_ne (Ne.symm h)]; exact q)
  nd := E.nd
  dj := E.dj
  nz := fun j x hx z => (hz x z).elim (E.nz j x hx) (E.oh j x hx)
  zh := hzh
  oh := fun j x hx => by
    by_cases h : j = i
    · subst h; exact hoh x hx
    · cases e : H x with
      | none => exact absurd e (E.oh j x hx)
      | some o => rw [g x o e fun hb => h (E.dj j i x hx hb)]; intro q; cases q
theorem ownAll_there : ∀ (n : Nat) (v : V) (d : D) (A : List Addr) {M : Addr → Prop}, Own P w K H M n v d A → ∀ x ∈ A, H x ≠ none := by
  have hL : ∀ {R : V → D → List Addr → Prop} {vs : List V} {ds : List D} {A : List Addr}, OwnL R vs ds A → (∀ v d B, R v d B → ∀ x ∈ B, H x ≠ none) → ∀ x ∈ A, H x ≠ none := by
    intro R vs ds A h f
    induction h with
    | nil => intro x hx; cases hx
    | cons a t ih => intro x hx; exact (List.mem_append.mp hx).elim (f _ _ _ a x) (ih x)
  have hK : ∀ {R : V → D → List Addr → Prop} {S : V → D → Prop} {vs : List (NestedKey × Addr × V)} {ds : List (D × D)} {A : List Addr}, OwnK R S vs ds A → (∀ v d B, R v d B → ∀ x ∈ B, H x ≠ none) → ∀ x ∈ A, H x ≠ none := by
    intro R S vs ds A h f
    induction h with
    | nil => intro x hx; cases hx
    | cons _ _ _ a t ih => intro x hx; exact (List.mem_append.mp hx).elim (f _ _ _ a x) (ih x)
  intro n
  induction n with
  | zero => intro v d A M h x hx; rw [h.1] at hx; cases hx
  | succ n ih =>
    intro v d A M h x hx
    cases d with
    | lst ds =>
      obtain ⟨a, vs, A', e1, e2, rfl, l⟩ := h
      rcases List.mem_cons.mp hx with rfl | hx
      · rw [e2]; intro q; cases q
      · exact hL l (fun v d B h => ih v d B h) x hx
    | dic ds =>
      obtain ⟨a, vs, A', e1, e2, rfl, l⟩ := h
      rcases List.mem_cons.mp hx with rfl | hx
      · rw [e2]; intro q; cases q
      · exact hK l (fun v d B h => ih v d B h) x hx
    | _ => rw [h.1] at hx; cases hx

theorem r_call {f : Addr} {fd : FuncData} {ps : List Str} {k : Nat} {io : Bool} {ar rl : Nat} {F : DF} {x : Str} {p pos : Pos} {e : Expr} {es : List Expr} (G : FnOk X.prog X.w X.K X.mg X.base CX0 k f fd ps (SpD X.prog X.w X.K io ar rl F)) (hr : Room k X.A) (hg : Gl X x) (hm : X.mg x = some (.ref f))
    (hk : PySem.W.keepIn X.K (.ref f) = true) (hb : Binds X.K fd ps []) (ha : PA X (e :: es) (tA X.prog X.w X.K fs)) (hn : (e :: es).length = ar) (hdb : (x == ("__debug__" : Str)) = false) (he : starEach (e :: es) X.env = (false, eval e X.env) :: starEach es X.env) (hpl : (backTo pos (starEach es X.env)).any (·.1) = false)
    (hlen : ∀ ρ rs ρ1, fs ρ = some (rs, ρ1) → rs.length = (e :: es).length) :
    PE X (.Call (.Name x p) (e :: es) [] pos) (tE X.prog X.w X.K (callF io rl F fs)) :=
  (pe_call G hr hg hm hk hb .nil pass0 ha hdb he hpl).imp fun σ H Q h => by
    obtain ⟨Z, own, ρ, r, ρ', E, e, kq⟩ := h
    simp only [callF] at e
    split at e
    · rename_i rs ρ1 e1
      refine ⟨Z, own, ρ, rs, ρ1, E, e1, fun vs H1 Z1 own1 o1 v1 => ?_⟩
      show SpD X.prog X.w X.K io ar rl F (vs ++ []) H1 Q E0
      rw [List.append_nil]
      have hl : vs.length = ar := by rw [valsLen v1, hlen _ _ _ e1, hn]
      split at e
      · rename_i hio
        subst hio
        split at e
        · rename_i i rs'
          split at e
          · rename_i ds ρ2 e2
            split at e
            · rename_i d n e3
              split at e
              · rename_i n1
                subst n1
                split at e
                · rename_i dr d0 e4
                  simp only [Option.some.injEq, Prod.mk.injEq] at e
                  obtain ⟨rfl, rfl⟩ := e
                  cases v1 with
                  | cons hv ht =>
                    rename_i v vs'
                    obtain ⟨own2, E2, s2, rr⟩ := escs_ok o1.z o1.E ht e2
                    have hv : σ[i]? = some (some v) := hv
                    obtain ⟨v', h1, h2⟩ := E2.sl i d 1 e3
                    rw [hv] at h1
                    simp only [Option.some.injEq] at h1
                    subst h1
                    have hi : i < ρ2.length := (List.getElem?_eq_some_iff.mp e3).1
                    have E2z : Est X.prog X.w X.K Z ρ2 σ H1 own2 := E2.weak o1.z
                    -- what the callee must leave alone
                    refine ⟨fun x => Z x ∨ ∃ j, j ≠ i ∧ x ∈ own2 j, d :: ds, own2 i, dr, d0, fun x hx => hx.elim (E2z.zh x) fun ⟨j, _, h⟩ => E2.oh j x h, E2.nd i, fun x hx => ⟨fun z => z.elim (E2z.nz i x hx) fun ⟨j, hj, h⟩ => hj (E2.dj j i x h hx), E2.oh i x hx⟩, ?_, hl, e4, ?_⟩
                    · have m1 : ∀ x, Zp (fun x => Z x ∨ ∃ j, j ≠ i ∧ x ∈ own2 j) (own2 i) x → Mz Z own2 x := by
                        rintro x ((z | ⟨j, _, z⟩) | z)
                        · exact .inl z
                        · exact .inr ⟨j, z⟩
                        · exact .inr ⟨i, z⟩
                      exact ⟨v, d, vs', ds, rfl, rfl, Own.mono 1 v d _ (fun _ _ e _ => e) (fun x hx => .inl (mz_mono o1.z (m1 x hx))) h2, RepL.mono (fun _ _ e _ => e) (fun x hx => .inl (m1 x hx)) ds vs' rr⟩
                    · intro u H' A fr io ho nd hA
                      obtain ⟨v0, vs0, ev, h0⟩ := io rfl
                      simp only [List.cons.injEq] at ev
                      obtain ⟨rfl, rfl⟩ := ev
                      have m2 : ∀ x, Mz (Zp Z A) own2 x → Zp (Zp (fun x => Z x ∨ ∃ j, j ≠ i ∧ x ∈ own2 j) (own2 i)) A x := by
                        rintro x ((z | z) | ⟨j, z⟩)
                        · exact .inl (.inl (.inl z))
                        · exact .inr z
                        · by_cases hj : j = i
                          · subst hj; exact .inl (.inr z)
                          · exact .inl (.inl (.inr ⟨j, hj, z⟩))
                      have E3 : Est X.prog X.w X.K (Zp Z A) (ρ2.set i (some (d0, 1))) σ H' own2 := E2z.change hi hv fr (fun x z => z.imp id fun z => (hA x z).1) (fun x z => z.elim (fun z => by
                          cases q : H1 x with
                          | none => exact absurd q (E2z.zh x z)
                          | some o => rw [fr x o q fun hb => E2z.nz i x hb z]; intro q'; cases q') fun z => (hA x z).2)
                        (Own.mono 1 v d0 _ (fun _ _ e _ => e) (fun x hx => .inl (m2 x hx)) h0) (ownAll_there 1 v d0 _ h0)
                      have mv2 : Mv own1 H1 own2 H' := ⟨fun b o e n => fr b o e fun hb => n i (s2 i b hb), fun j x hx => .inl ⟨j, s2 j x hx⟩⟩
                      exact kq u H' ⟨own2, A, o1.mv.trans mv2, E3, ⟨Own.mono rl u dr A (fun _ _ e _ => e) (fun x hx => .inl (m2 x hx)) ho, nd⟩, fun x hx => ⟨fun z => E2z.zh x z (hA x hx).1, o1.mv.fresh (.inr (hA x hx).1)⟩⟩
                · cases e
              · cases e
            · cases e
          · cases e
        · cases e
      · rename_i hio
        have hio : io = false := by simpa using hio
        subst hio
        split at e
        · rename_i ds ρ2 e2
          split at e
          · rename_i dr d0 e4
            simp only [Option.some.injEq, Prod.mk.injEq] at e
            obtain ⟨rfl, rfl⟩ := e
            obtain ⟨own2, E2, s2, rr⟩ := escs_ok o1.z o1.E v1 e2
            have E2z : Est X.prog X.w X.K Z ρ2 σ H1 own2 := E2.weak o1.z
            refine ⟨Mz Z own2, ds, [], dr, d0, fun x hx => hx.elim (E2z.zh x) fun ⟨j, h⟩ => E2.oh j x h, List.nodup_nil, fun _ h => (List.not_mem_nil h).elim, ⟨rfl, rr⟩, hl, e4, ?_⟩
            intro u H' A fr io ho nd hA
            have fr' : ∀ b o, H1 b = some o → H' b = some o := fun b o e => fr b o e fun h => List.not_mem_nil h
            have m2 : ∀ x, Mz (Zp Z A) own2 x → Zp (Zp (Mz Z own2) []) A x := by
              rintro x ((z | z) | z)
              · exact .inl (.inl (.inl z))
              · exact .inr z
              · exact .inl (.inl (.inr z))
            have mv2 : Mv own1 H1 own2 H' := ⟨fun b o e _ => fr' b o e, fun j x hx => .inl ⟨j, s2 j x hx⟩⟩
            exact kq u H' ⟨own2, A, o1.mv.trans mv2, E2z.grow fr' (fun x hx => (hA x hx).1) (fun x hx => (hA x hx).2), ⟨Own.mono rl u dr A (fun _ _ e _ => e) (fun x hx => .inl (m2 x hx)) ho, nd⟩, fun x hx => ⟨fun z => E2z.zh x z (hA x hx).1, o1.mv.fresh (.inr (hA x hx).1)⟩⟩
          · cases e
        · cases e
    · cases e

/-! ### the body -/
def lvOk (d : D) (rl n : Nat) : Bool := isImm d || (rl == 0) || (decide (1 ≤ n) && (rl == 1))
def ioEnd (io : Bool) (ρ : DEnv) : Option D := if io = true then match (ρ[0]? : Option (Option (D × Nat))) with
  | some (some (D.lst xs, n)) => if n = 1 then some (.lst xs) else none
  | _ => none else some .non
def initE (io : Bool) (N : Nat) (ds : List D) : DEnv := (match io, ds with
  | true, d :: ds => some (d, 1) :: ds.map fun d => some (d, 0)
  | _, ds => ds.map fun d => some (d, 0)) ++ List.replicate (N - ds.length) none
/-- a body's answer -/
def runB (io : Bool) (rl : Nat) (N : Nat) (fb : SF) (fuel : Nat) (ds : List D) : Option (D × D) := match fb fuel (initE io N ds) with
  | some (.nx ρ) => match ioEnd io ρ with
    | some d0 => some (.non, d0)
    | none => none
  | some (.rt d n ρ) => if lvOk d rl n = true then match ioEnd io ρ with
    | some d0 => some (d, d0)
    | none => none else none
  | _ => none
theorem own_lst1 {M : Addr → Prop} {a : Addr} {xs : List D} {A : List Addr} (h : Own P w K H M 1 (.ref a) (.lst xs) A) : A = [a] := by
  obtain ⟨b, vs, A', e, _, rfl, l⟩ := h
  cases e
  rw [(ownL0_rep l).1]
/-- to the depth 1 -/
theorem Own.one {M : Addr → Prop} {n : Nat} {v : V} {d : D} {A : List Addr} (h : Own P w K H M (n + 1) v d A) : ∃ A', (∀ x ∈ A', x ∈ A) ∧ (A.Nodup → A'.Nodup) ∧ ∀ M' : Addr → Prop, (∀ x, M' x → M x) → (∀ x ∈ A, x ∉ A' → ¬ M' x) → A.Nodup → Own P w K H M' 1 v d A' := by
  cases d with
  | lst ds =>
    obtain ⟨a, vs, A', e1, e2, rfl, l⟩ := h
    refine ⟨[a], fun x hx => by simp at hx; subst hx; exact List.mem_cons_self .., fun _ => by simp, fun M' m g nd => ⟨a, vs, [], e1, e2, rfl, ownL0 (OwnL.freeze l fun v d B hB r => Own.freeze m n v d B (fun x hx => g x (List.mem_cons_of_mem _ (hB x hx)) fun z => ?_) r)⟩⟩
    have z : x = a := by simpa using z
    subst z
    exact (List.nodup_cons.mp nd).1 (hB x hx)
  | dic ds =>
    obtain ⟨a, vs, A', e1, e2, rfl, l⟩ := h
    refine ⟨[a], fun x hx => by simp at hx; subst hx; exact List.mem_cons_self .., fun _ => by simp, fun M' m g nd => ⟨a, vs, [], e1, e2, rfl, ?_⟩⟩
    have fz := OwnK.freeze (M := M') l (fun v d B hB r => Own.freeze m n v d B (fun x hx => g x (List.mem_cons_of_mem _ (hB x hx)) fun z => by
      have z : x = a := by simpa using z
      subst z
      exact (List.nodup_cons.mp nd).1 (hB x hx)) r) fun v d r => Rep.mono (fun _ _ h _ => h) (fun x z => .inl (m x z)) d v r
    have all : ∀ (ds : List (D × D)) (vs : List (NestedKey × Addr × V)), RepK P w K H M' vs ds → OwnK (Own P w K H M' 0) (Rep P w K H M') vs ds [] := by
      intro ds
      induction ds with
      | nil => intro vs r; cases r; exact .nil
      | cons d ds ih =>
        intro vs r
        cases r with
        | cons h1 h2 h3 h4 t => exact OwnK.cons (A := []) (B := []) h1 h2 h3 ⟨rfl, h4⟩ (ih _ t)
    exact all ds vs fz
  | _ => exact ⟨A, fun _ h => h, fun h => h, fun M' m _ _ => ⟨h.1, Rep.mono (fun _ _ h _ => h) (fun x z => .inl (m x z)) _ v h.2⟩⟩
def own0 (A0 : List Addr) : OwnF := fun j => if j = 0 then A0 else []
theorem own0_mem {A0 : List Addr} {j : Nat} {x : Addr} (h : x ∈ own0 A0 j) : j = 0 ∧ x ∈ A0 := by
  unfold own0 at h
  split at h
  · exact ⟨by assumption, h⟩
  · cases h
theorem repL_get {M : Addr → Prop} : ∀ {ds : List D} {vs : List V} {i : Nat} {d : D}, RepL P w K H M vs ds → ds[i]? = some d → ∃ v, vs[i]? = some v ∧ Rep P w K H M v d
  | [], _, _, _, _, e => by simp at e
  | _ :: _, _, 0, d, r, e => by
    cases r with
    | cons h t => simp at e; subst e; exact ⟨_, rfl, h⟩
  | _ :: _, _, i + 1, d, r, e => by
    cases r with
    | cons h t =>
      obtain ⟨v, h1, h2⟩ := repL_get t (i := i) (d := d) (by simpa using e)
      exact ⟨v, by simpa using h1, h2⟩
theorem init_ok {io : Bool} {A0 : List Addr} {vs : List V} {ds : List D} {N : List Str} (hz : ∀ x, Z x → H x ≠ none) (nd : A0.Nodup) (hA : ∀ x ∈ A0, ¬ Z x ∧ H x ≠ none) (h : ArgsOk P w K io H Z A0 vs ds) (hN : ds.length ≤ N.length) : Est P w K Z (initE io N.length ds) (start N vs) H (own0 A0) := by
  have mz : ∀ x, Mz Z (own0 A0) x → Zp Z A0 x := fun x hx => hx.imp id fun ⟨j, h⟩ => (own0_mem h).2
  have lenvs : vs.length = ds.length := by
    unfold ArgsOk at h
    split at h
    · obtain ⟨v, d, vs', ds', rfl, rfl, _, r⟩ := h
      rw [List.length_cons, List.length_cons, repL_len r]
    · exact repL_len h.2
  have base : ∀ (l : DEnv), l.length = ds.length → (l ++ List.replicate (N.length - ds.length) none).length = (start N vs).length := fun l hl => by
    unfold L2.start
    rw [List.length_append, List.length_append, List.length_map, List.length_replicate, List.length_replicate, hl, lenvs]
  have at_ : ∀ (i : Nat) v, vs[i]? = some v → (start N vs)[i]? = some (some v) := fun i v e => by
    unfold L2.start
    rw [List.getElem?_append_left (by rw [List.length_map]; exact (List.getElem?_eq_some_iff.mp e).1), List.getElem?_map, e]
    rfl
  have rest : ∀ (l : DEnv) (i : Nat) d n, (l ++ List.replicate (N.length - ds.length) none)[i]? = some (some (d, n)) → l[i]? = some (some (d, n)) := fun l i d n e => by
    by_cases hi : i < l.length
    · rwa [List.getElem?_append_left hi] at e
    · rw [List.getElem?_append_right (by omega), List.getElem?_replicate] at e
      split at e <;> cases e
  unfold ArgsOk at h
  split at h
  · rename_i hio
    subst hio
    obtain ⟨v, d, vs', ds', rfl, rfl, ho, r⟩ := h
    refine ⟨base _ (by simp), fun i d' n e => ?_, fun i hi => ?_, fun i => ?_, fun i j x h1 h2 => by rw [(own0_mem h1).1, (own0_mem h2).1], fun i x hx => (hA x (own0_mem hx).2).1, hz, fun i x hx => (hA x (own0_mem hx).2).2⟩
    · have e := rest _ i d' n e
      cases i with
      | zero =>
        have e : some (some (d, 1)) = some (some (d', n)) := e
        simp only [Option.some.injEq, Prod.mk.injEq] at e
        obtain ⟨rfl, rfl⟩ := e
        exact ⟨v, at_ 0 v rfl, Own.mono 1 v d _ (fun _ _ e _ => e) (fun x hx => .inl (mz x hx)) ho⟩
      | succ i =>
        have e : (ds'.map fun d => some (d, 0))[i]? = some (some (d', n)) := e
        rw [List.getElem?_map] at e
        obtain ⟨d2, e2, e3⟩ := Option.map_eq_some_iff.mp e
        simp only [Option.some.injEq, Prod.mk.injEq] at e3
        obtain ⟨rfl, rfl⟩ := e3
        obtain ⟨u, h1, h2⟩ := repL_get r e2
        exact ⟨u, at_ (i + 1) u (by simpa using h1), rfl, Rep.mono (fun _ _ e _ => e) (fun x hx => .inl (mz x hx)) d2 u h2⟩
    · cases i with
      | zero =>
        exact absurd (show (initE true N.length (d :: ds'))[0]? = some (some (d, 1)) from rfl) (hi d 1)
      | succ i => rfl
    · unfold own0
      split
      · exact nd
      · exact List.nodup_nil
  · rename_i hio
    have hio : io = false := by simpa using hio
    subst hio
    obtain ⟨rfl, r⟩ := h
    have e0 : ∀ i, own0 [] i = [] := fun i => by unfold own0; split <;> rfl
    have eI : initE false N.length ds = (ds.map fun d => some (d, 0)) ++ List.replicate (N.length - ds.length) none := by cases ds <;> rfl
    rw [eI]
    refine ⟨base _ (by simp), fun i d' n e => ?_, fun i _ => e0 i, fun i => (by rw [e0]; exact List.nodup_nil), fun i j x h1 _ => (by rw [e0] at h1; cases h1), fun i x hx => (by rw [e0] at hx; cases hx), hz, fun i x hx => (by rw [e0] at hx; cases hx)⟩
    have e := rest _ i d' n e
    rw [List.getElem?_map] at e
    obtain ⟨d2, e2, e3⟩ := Option.map_eq_some_iff.mp e
    simp only [Option.some.injEq, Prod.mk.injEq] at e3
    obtain ⟨rfl, rfl⟩ := e3
    obtain ⟨u, h1, h2⟩ := repL_get r e2
    exact ⟨u, at_ i u h1, e0 i, Rep.mono (fun _ _ e _ => e) (fun x hx => .inl (hx.elim id fun ⟨j, h⟩ => by rw [e0] at h; cases h)) d2 u h2⟩
end
end Dt
set_option Elab.async false
set_option linter.all false
set_option maxRecDepth 100000
set_option autoImplicit false
set_option maxHeartbeats 4000000
/-! The data layer, part 8: a def keeps its promise. -/
namespace Dt
open PySem PySem.Spec L2
open PyProof.Rows hiding St
section
variable {P : Program} {w : World} {K : PySem.W.Frag} {mg : Str → Option Value} {base : Heap}
theorem args_len {io : Bool} {H : Hp} {Z : Addr → Prop} {A0 : List Addr} {vs : List V} {ds : List D} (h : ArgsOk P w K io H Z A0 vs ds) : vs.length = ds.length := by
  unfold ArgsOk at h
  split at h
  · obtain ⟨v, d, vs', ds', rfl, rfl, _, r⟩ := h
    rw [List.length_cons, List.length_cons, repL_len r]
  · exact repL_len h.2
theorem def_ok {x qual : Str} {params : Arguments} {body : List Stmt} {scope : Scope} {f : Addr} {fd : FuncData} {N ps : List Str} {k ar rl : Nat} {io : Bool} {F : DF} {asg : List Nat} {fb : SF}
    (D0 : FunD K x qual params body scope [] [] f fd) (S : FnScope N ps scope)
    (hb : ∀ (cdv : Value) (A : Around) (outer : List PySem.Env) (s : Shared) (H : Hp) (E : XK), Room k (A.deeper (envOfC qual scope s.heap.objs.size f cdv)) → PSs (cxOf CX0 P w K mg base N qual scope f cdv A outer s H E) body (tS P w K asg fb))
    (h0 : io = true → 0 ∉ asg) (hps : ps.length = ar) (hN : ar ≤ N.length) (hrl : rl = 0 ∨ rl = 1) (hio : ∀ ds r, F ds = some r → io = true → ∃ xs ds', ds = .lst xs :: ds')
    (hF : ∀ ds d d0, F ds = some (d, d0) → ds.length = ar → ∃ fuel, runB io rl N.length fb fuel ds = some (d, d0)) : FnOk P w K mg base CX0 (k + 1) f fd ps (SpD P w K io ar rl F) := by
  refine D0.ok S (fun vs H Q E h => ?_) fun cdv A outer s H vs Q E hr h => ⟨_, hb cdv A outer s H E hr, ?_⟩
  · obtain ⟨_, _, _, _, _, _, _, _, _, hl, _⟩ := h
    rw [hl, hps]
  · obtain ⟨Z, ds, A0, d, d0, hz, nd, hA, ha, hl, hf, k⟩ := h
    have hds : ds.length = ar := by rw [← args_len ha]; exact hl
    obtain ⟨fuel, hrun⟩ := hF ds d d0 hf hds
    have E0 : Est P w K Z (initE io N.length ds) (L2.start N vs) H (own0 A0) := init_ok hz nd hA ha (by rw [hds]; exact hN)
    have own00 : own0 A0 0 = A0 := rfl
    have sub0 : ∀ j x, x ∈ own0 A0 j → x ∈ A0 := fun j x h => (own0_mem h).2
    -- the first argument behind the body
    have ioK : ∀ {σ' : St} {H' : Hp} {own' : OwnF} {ρ' : DEnv} {A : List Addr}, Est P w K (Zp Z A) ρ' σ' H' own' → Kp asg (L2.start N vs) σ' → ioEnd io ρ' = some d0 →
        IoOk P w K io H' (Mz (Zp Z A) own') A0 vs d0 ∧ (io = true → own' 0 = A0) := by
      intro σ' H' own' ρ' A E1 kp e
      cases io with
      | false => exact ⟨(fun z => nomatch z), fun z => nomatch z⟩
      | true =>
        obtain ⟨xs, ds', rfl⟩ := hio ds _ hf rfl
        unfold ArgsOk at ha
        rw [if_pos rfl] at ha
        obtain ⟨v0, dd, vs', ds2, rfl, e2, ho, _⟩ := ha
        simp only [List.cons.injEq] at e2
        obtain ⟨rfl, rfl⟩ := e2
        obtain ⟨a, us, A', ev, _, _, _⟩ := id ho
        subst ev
        have hA0 : A0 = [a] := own_lst1 ho
        unfold ioEnd at e
        rw [if_pos rfl] at e
        split at e
        · rename_i xs1 n e1
          split at e
          · rename_i n1
            subst n1
            simp only [Option.some.injEq] at e
            subst e
            obtain ⟨v1, h1, h2⟩ := E1.sl 0 _ _ e1
            have h3 : (L2.start N (.ref a :: vs'))[0]? = some (some (V.ref a)) := rfl
            have h4 := kp 0 (h0 rfl)
            rw [h3, h1] at h4
            simp only [Option.some.injEq] at h4
            subst h4
            have hx : own' 0 = A0 := by rw [hA0]; exact own_lst1 h2
            exact ⟨fun _ => ⟨_, _, rfl, by rw [← hx]; exact h2⟩, fun _ => hx⟩
          · cases e
        · cases e
    -- what the caller's addresses are
    have mz : ∀ {σ' : St} {H' : Hp} {own' : OwnF} {ρ' : DEnv} {A : List Addr}, Est P w K (Zp Z A) ρ' σ' H' own' → (io = true → own' 0 = A0) → ∀ x, Zp (Zp Z A0) A x → Mz (Zp Z A) own' x := by
      intro σ' H' own' ρ' A E1 ho x hx
      rcases hx with (hx | hx) | hx
      · exact .inl (.inl hx)
      · cases io with
        | false =>
          unfold ArgsOk at ha
          simp only [Bool.false_eq_true, if_false] at ha
          rw [ha.1] at hx
          cases hx
        | true => exact .inr ⟨0, by rw [ho rfl]; exact hx⟩
      · exact .inl (.inr hx)
    unfold runB at hrun
    cases ef : fb fuel (initE io N.length ds) with
    | none => rw [ef] at hrun; simp at hrun
    | some out =>
      rw [ef] at hrun
      refine ⟨Z, own0 A0, initE io N.length ds, fuel, out, E0, ef, ?_⟩
      cases out with
      | bk ρ' => simp at hrun
      | ct ρ' => simp at hrun
      | nx ρ' =>
        intro σ' H' own' mv E1 kp
        simp only at hrun
        split at hrun
        · rename_i d1 e1
          simp only [Option.some.injEq, Prod.mk.injEq] at hrun
          obtain ⟨rfl, rfl⟩ := hrun
          obtain ⟨i1, i2⟩ := ioK (A := []) E1.nil kp e1
          refine k .non H' [] (fun b o e hb => mv.fr b o e fun i hi => hb (sub0 i b hi)) (fun hi => ?_) (own_imm rfl .non) List.nodup_nil fun _ h => (List.not_mem_nil h).elim
          obtain ⟨v0, vs0, ev, ho⟩ := i1 hi
          exact ⟨v0, vs0, ev, Own.mono 1 v0 _ _ (fun _ _ e _ => e) (fun x hx => .inl (mz E1.nil i2 x hx)) ho⟩
        · cases hrun
      | rt dr n ρ' =>
        intro v σ' H' own' A mv E1 ho ndA hA1 kp
        simp only at hrun
        split at hrun
        · rename_i lv
          split at hrun
          · rename_i d1 e1
            simp only [Option.some.injEq, Prod.mk.injEq] at hrun
            obtain ⟨rfl, rfl⟩ := hrun
            have fr : ∀ b o, H b = some o → b ∉ A0 → H' b = some o := fun b o e hb => mv.fr b o e fun i hi => hb (sub0 i b hi)
            obtain ⟨i1, i2⟩ := ioK E1 kp e1
            have mzE := mz E1 i2
            have iok : ∀ A', (∀ x ∈ A', x ∈ A) → IoOk P w K io H' (Zp (Zp Z A0) A') A0 vs d1 := fun A' hA' hi => by
              obtain ⟨v0, vs0, ev, h0⟩ := i1 hi
              exact ⟨v0, vs0, ev, Own.mono 1 v0 _ _ (fun _ _ e _ => e) (fun x hx => .inl (mzE x (hx.imp id (hA' x)))) h0⟩
            have frA : ∀ x ∈ A, x ∉ A0 → H x = none ∧ H' x ≠ none := fun x hx hn => by
              refine ⟨?_, ownAll_there n v dr A ho x hx⟩
              rcases (hA1 x hx).2 with ⟨j, hj⟩ | q
              · exact absurd (sub0 j x hj) hn
              · exact q
            have AA0 : io = true → ∀ x ∈ A, x ∉ A0 := fun hi x hx hn => E1.nz 0 x (by rw [i2 hi]; exact hn) (.inr hx)
            have AA1 : ∀ x ∈ A, x ∉ A0 := fun x hx => by
              cases io with
              | true => exact AA0 rfl x hx
              | false =>
                unfold ArgsOk at ha
                simp only [Bool.false_eq_true, if_false] at ha
                rw [ha.1]
                exact List.not_mem_nil
            unfold lvOk at lv
            simp only [Bool.or_eq_true, Bool.and_eq_true, beq_iff_eq, decide_eq_true_eq] at lv
            rcases lv with (im | r0) | ⟨n1, r1⟩
            · obtain ⟨eA, rr⟩ := imm_own im ho
              exact k v H' [] fr (iok [] fun _ h => (List.not_mem_nil h).elim) (own_imm im (Rep.mono (fun _ _ e _ => e) (fun x hx => .inl (mzE x (hx.imp id fun z => (List.not_mem_nil z).elim))) dr v rr)) List.nodup_nil fun _ h => (List.not_mem_nil h).elim
            · subst r0
              refine k v H' [] fr (iok [] fun _ h => (List.not_mem_nil h).elim) ⟨rfl, Own.freeze (fun x hx => mzE x (hx.imp id fun z => (List.not_mem_nil z).elim)) n v dr A (fun x hx => ?_) ho⟩ List.nodup_nil fun _ h => (List.not_mem_nil h).elim
              rintro ((z | z) | z)
              · exact (hA1 x hx).1 z
              · exact AA1 x hx z
              · exact List.not_mem_nil z
            · subst r1
              obtain ⟨m, rfl⟩ : ∃ m, n = m + 1 := ⟨n - 1, by omega⟩
              obtain ⟨A', s1, s2, s3⟩ := Own.one ho
              refine k v H' A' fr (iok A' s1) (s3 _ (fun x hx => mzE x (hx.imp id (s1 x))) (fun x hx hn => ?_) ndA) (s2 ndA) fun x hx => frA x (s1 x hx) (AA1 x (s1 x hx))
              rintro ((z | z) | z)
              · exact (hA1 x hx).1 z
              · exact AA1 x hx z
              · exact hn z
          · cases hrun
        · cases hrun
end
end Dt
set_option Elab.async false
set_option linter.all false
set_option maxRecDepth 100000
set_option autoImplicit false
set_option maxHeartbeats 4000000
/-! The data layer, part 9: dicts with tuples as keys, as they stand in the heap. -/
namespace Dt
open PySem PySem.Spec L2
open PyProof.Rows hiding St

def lookD (k : NestedKey) : List (D × D) → Option D
  | [] => none
  | (a, b) :: ds => if a.key = some k then some b else lookD k ds
def lookV (k : NestedKey) : List (NestedKey × Addr × V) → Option V
  | [] => none
  | (a, _, b) :: ds => if a = k then some b else lookV k ds

section
variable {P : Program} {w : World} {K : PySem.W.Frag} {X : Cx} {pins : List (Addr × Obj)} {σ : St} {H : Hp} {s : Shared} {M : Addr → Prop}
mutual
/-- a tree that may be a key stands as such a key -/
theorem Rep.nested (I : Inv X pins σ H s) : ∀ (d : D) (v : V) (u : Value) (k : NestedKey), Rep P w X.K H M v d → RelV v u → d.key = some k → NestedIs s.heap k u
  | .non, _, u, k, r, q, e => by
    cases r
    simp only [D.key, Option.some.injEq] at e
    subst e
    cases (show u = Value.none from q)
    exact .none
  | .bl b, _, u, k, r, q, e => by
    cases r
    simp only [D.key, Option.some.injEq] at e
    subst e
    cases (show u = Value.bool b from q)
    exact .bool rfl
  | .int i, _, u, k, r, q, e => by
    cases r
    simp only [D.key, Option.some.injEq] at e
    subst e
    obtain ⟨t, rfl⟩ := q
    exact .int i t
  | .str x, _, u, k, r, q, e => by
    cases r
    simp only [D.key, Option.some.injEq] at e
    subst e
    obtain ⟨t, rfl⟩ := q
    exact .text x t
  | .tup ds, _, u, k, r, q, e => by
    cases r with
    | tup h l =>
      simp only [D.key, Option.map_eq_some_iff] at e
      obtain ⟨ks, e1, e2⟩ := e
      subst e2
      obtain rfl := q
      obtain ⟨its, rv, ⟨o, ho, hc, n, hd⟩, _⟩ := I.tuple (h.elim .inr fun z => .inl z.1)
      exact .tup ho hc hd (RepL.nested I ds _ its ks l rv e1)
  | .lst _, _, _, _, _, _, e => by simp [D.key] at e
  | .dic _, _, _, _, _, _, e => by simp [D.key] at e
  | .set _, _, _, _, _, _, e => by simp [D.key] at e
  | .obj _, _, _, _, _, _, e => by simp [D.key] at e
  | .scr _, _, _, _, _, _, e => by simp [D.key] at e
theorem RepL.nested (I : Inv X pins σ H s) : ∀ (ds : List D) (vs : List V) (us : List Value) (ks : List NestedKey), RepL P w X.K H M vs ds → Vals vs us → D.keys ds = some ks → NestedAll s.heap ks us
  | [], _, _, ks, r, q, e => by
    cases r
    cases q
    simp only [D.keys, Option.some.injEq] at e
    subst e
    exact .nil
  | d :: ds, _, _, ks, r, q, e => by
    cases r with
    | cons h t =>
      cases q with
      | cons q1 q2 =>
        simp only [D.keys] at e
        split at e
        · rename_i k1 ks1 e1 e2
          simp only [Option.some.injEq] at e
          subst e
          exact .cons (Rep.nested I d _ _ k1 h q1 e1) (RepL.nested I ds _ _ ks1 t q2 e2)
        · cases e
end
/-- what the model's rules about dicts ask -/
theorem dic_at (I : Inv X pins σ H s) {a : Addr} {kvs : List (NestedKey × Addr × V)} {ds : List (D × D)} (h : Rd H a (dicO X.prog X.w a kvs)) (r : RepK X.prog X.w X.K H M kvs ds) :
    (a == sysModules) = false ∧ kvs.length ≤ sizeLine ∧ ∃ xs : List (NestedKey × Addr × Value), Paired (fun (p : NestedKey × Addr × V) (q : NestedKey × Addr × Value) => p.1 = q.1 ∧ p.2.1 = q.2.1 ∧ RelV p.2.2 q.2.2) kvs xs ∧ s.heap.DictOfH (nestedKind X.prog X.w) a xs := by
  obtain ⟨⟨h1, h2, xs, pr, o, es, ep, e1, e2, e3, e4, e5⟩, _⟩ := h.ok I.hok
  refine ⟨h1, h2, xs, pr, o, es, ep, e1, e2, e3, e4, ?_, e5⟩
  have all : ∀ (ds : List (D × D)) (kvs : List (NestedKey × Addr × V)) (xs : List (NestedKey × Addr × Value)), RepK X.prog X.w X.K H M kvs ds → Paired (fun (p : NestedKey × Addr × V) (q : NestedKey × Addr × Value) => p.1 = q.1 ∧ p.2.1 = q.2.1 ∧ RelV p.2.2 q.2.2) kvs xs → ∀ x ∈ xs, (nestedKind X.prog X.w).is s.heap x.1 x.2.1 := by
    intro ds
    induction ds with
    | nil =>
      intro kvs xs r p
      cases r
      cases p
      intro x hx
      cases hx
    | cons d ds ih =>
      intro kvs xs r p
      cases r with
      | cons g1 g2 g3 g4 t =>
        cases p with
        | cons q1 q2 =>
          intro x hx
          rcases List.mem_cons.mp hx with e | hx
          · subst e
            obtain ⟨f1, f2, _⟩ := q1
            rw [← f1, ← f2]
            exact ⟨Rep.nested I _ _ _ _ g1 rfl g2, g3⟩
          · exact ih _ _ t q2 x hx
  exact all ds kvs xs r pr
theorem look_paired : ∀ {kvs : List (NestedKey × Addr × V)} {xs : List (NestedKey × Addr × Value)}, Paired (fun (p : NestedKey × Addr × V) (q : NestedKey × Addr × Value) => p.1 = q.1 ∧ p.2.1 = q.2.1 ∧ RelV p.2.2 q.2.2) kvs xs → ∀ k, (lookV k kvs = none ∧ atKey xs k = none) ∨ ∃ v u b, lookV k kvs = some v ∧ atKey xs k = some (b, u) ∧ RelV v u
  | _, _, .nil, k => .inl ⟨rfl, rfl⟩
  | (k1, b1, v1) :: kvs, (k2, b2, u2) :: xs, .cons ⟨e1, e2, e3⟩ t, k => by
    simp only at e1 e2 e3
    subst e1 e2
    by_cases h : k1 = k
    · subst h
      refine .inr ⟨v1, u2, b1, by simp [lookV], ?_, e3⟩
      simp [atKey]
    · rcases look_paired t k with ⟨h1, h2⟩ | ⟨v, u, b, h1, h2, h3⟩
      · refine .inl ⟨by simp [lookV, h, h1], ?_⟩
        simp [atKey, h] at h2 ⊢
        exact h2
      · refine .inr ⟨v, u, b, by simp [lookV, h, h1], ?_, h3⟩
        simp [atKey, h] at h2 ⊢
        exact h2
theorem look_rep : ∀ {ds : List (D × D)} {kvs : List (NestedKey × Addr × V)}, RepK P w K H M kvs ds → ∀ k, (lookV k kvs = none ∧ lookD k ds = none) ∨ ∃ v d, lookV k kvs = some v ∧ lookD k ds = some d ∧ Rep P w K H M v d
  | [], _, r, k => by cases r; exact .inl ⟨rfl, rfl⟩
  | (dk, dv) :: ds, _, r, k => by
    cases r with
    | cons h1 h2 h3 h4 t =>
      rename_i k1 b v vs
      by_cases h : k1 = k
      · subst h
        exact .inr ⟨v, dv, by simp [lookV], by simp [lookD, h2], h4⟩
      · have hk : ¬ dk.key = some k := by rw [h2]; exact fun e => h (Option.some.inj e)
        rcases look_rep t k with ⟨a, b⟩ | ⟨v', d', a, b, c⟩
        · exact .inl ⟨by simp [lookV, h, a], by simp [lookD, hk, b]⟩
        · exact .inr ⟨v', d', by simp [lookV, h, a], by simp [lookD, hk, b], c⟩
end
end Dt
set_option Elab.async false
set_option linter.all false
set_option maxRecDepth 100000
set_option autoImplicit false
set_option maxHeartbeats 4000000
/-! The data layer, part 10: dicts: in, d[k], get, store, pop, setdefault, len. -/
namespace Dt
open PySem PySem.Spec L2
open PyProof.Rows hiding St

def putV (k : NestedKey) (b : Addr) (v : V) (kvs : List (NestedKey × Addr × V)) : List (NestedKey × Addr × V) :=
  if (lookV k kvs).isSome = true then kvs.map (fun x => if x.1 = k then (x.1, x.2.1, v) else x) else kvs ++ [(k, b, v)]
def putD (k : NestedKey) (dk dv : D) (ds : List (D × D)) : List (D × D) :=
  if (lookD k ds).isSome = true then ds.map (fun p => if p.1.key = some k then (p.1, dv) else p) else ds ++ [(dk, dv)]
def dropV (k : NestedKey) (kvs : List (NestedKey × Addr × V)) : List (NestedKey × Addr × V) := kvs.filter fun x => decide (x.1 ≠ k)
def dropD (k : NestedKey) (ds : List (D × D)) : List (D × D) := ds.filter fun p => decide (p.1.key ≠ some k)

abbrev PrR : NestedKey × Addr × V → NestedKey × Addr × Value → Prop := fun p q => p.1 = q.1 ∧ p.2.1 = q.2.1 ∧ RelV p.2.2 q.2.2

section
variable {P : Program} {w : World} {K : PySem.W.Frag} {X : Cx} {pins : List (Addr × Obj)} {σ : St} {H : Hp} {s : Shared} {M : Addr → Prop}
theorem look_isSome {kvs : List (NestedKey × Addr × V)} {xs : List (NestedKey × Addr × Value)} (r : Paired PrR kvs xs) (k : NestedKey) : (lookV k kvs).isSome = (atKey xs k).isSome := by
  rcases look_paired r k with ⟨a, b⟩ | ⟨v, u, b, a, c, _⟩
  · rw [a, b]; rfl
  · rw [a, c]; rfl
theorem put_paired {k : NestedKey} {b : Addr} {v : V} {u : Value} (ru : RelV v u) {kvs : List (NestedKey × Addr × V)} {xs : List (NestedKey × Addr × Value)} (r : Paired PrR kvs xs) : Paired PrR (putV k b v kvs) (storedH xs k b u) := by
  have app : ∀ {kvs : List (NestedKey × Addr × V)} {xs : List (NestedKey × Addr × Value)}, Paired PrR kvs xs → Paired PrR (kvs ++ [(k, b, v)]) (xs ++ [(k, b, u)]) := by
    intro kvs xs r
    induction r with
    | nil => exact .cons ⟨rfl, rfl, ru⟩ .nil
    | cons h t ih => exact .cons h ih
  have mp : ∀ {kvs : List (NestedKey × Addr × V)} {xs : List (NestedKey × Addr × Value)}, Paired PrR kvs xs → Paired PrR (kvs.map (fun x => if x.1 = k then (x.1, x.2.1, v) else x)) (xs.map (putAt k u)) := by
    intro kvs xs r
    induction r with
    | nil => exact .nil
    | @cons p q ps qs h t ih =>
      refine .cons ?_ ih
      obtain ⟨h1, h2, h3⟩ := h
      show PrR (if p.1 = k then (p.1, p.2.1, v) else p) (putAt k u q)
      unfold putAt
      by_cases e : p.1 = k
      · rw [if_pos e, if_pos (by rw [← h1]; exact e)]
        exact ⟨h1, h2, ru⟩
      · rw [if_neg e, if_neg (by rw [← h1]; exact e)]
        exact ⟨h1, h2, h3⟩
  unfold putV storedH
  rw [look_isSome r]
  split
  · exact mp r
  · exact app r
theorem drop_paired {k : NestedKey} {kvs : List (NestedKey × Addr × V)} {xs : List (NestedKey × Addr × Value)} (r : Paired PrR kvs xs) : Paired PrR (dropV k kvs) (withoutH xs k) := by
  induction r with
  | nil => exact .nil
  | @cons p q ps qs h t ih =>
    unfold dropV withoutH at ih ⊢
    rw [List.filter_cons, List.filter_cons, ← h.1]
    split
    · exact .cons h ih
    · exact ih
theorem look_rep_isSome {ds : List (D × D)} {kvs : List (NestedKey × Addr × V)} (r : RepK P w K H M kvs ds) (k : NestedKey) : (lookV k kvs).isSome = (lookD k ds).isSome := by
  rcases look_rep r k with ⟨a, b⟩ | ⟨v, u, a, c, _⟩
  · rw [a, b]; rfl
  · rw [a, c]; rfl
theorem put_rep {k : NestedKey} {b : Addr} {v : V} {dk dv : D} (hb : Rep P w K H M (.ref b) dk) (hk : dk.key = some k) (hd : k.depth ≤ 8) (hv : Rep P w K H M v dv) {ds : List (D × D)} {kvs : List (NestedKey × Addr × V)} (r : RepK P w K H M kvs ds) : RepK P w K H M (putV k b v kvs) (putD k dk dv ds) := by
  have app : ∀ (ds : List (D × D)) (kvs : List (NestedKey × Addr × V)), RepK P w K H M kvs ds → RepK P w K H M (kvs ++ [(k, b, v)]) (ds ++ [(dk, dv)]) := by
    intro ds
    induction ds with
    | nil => intro kvs r; cases r; exact .cons hb hk hd hv .nil
    | cons d ds ih =>
      intro kvs r
      cases r with
      | cons h1 h2 h3 h4 t => exact .cons h1 h2 h3 h4 (ih _ t)
  have mp : ∀ (ds : List (D × D)) (kvs : List (NestedKey × Addr × V)), RepK P w K H M kvs ds → RepK P w K H M (kvs.map (fun x => if x.1 = k then (x.1, x.2.1, v) else x)) (ds.map (fun p => if p.1.key = some k then (p.1, dv) else p)) := by
    intro ds
    induction ds with
    | nil => intro kvs r; cases r; exact .nil
    | cons d ds ih =>
      intro kvs r
      cases r with
      | cons h1 h2 h3 h4 t =>
        rename_i k1 b1 v1 dk1 dv1 vs
        simp only [List.map_cons]
        by_cases e : k1 = k
        · subst e
          rw [if_pos rfl, if_pos h2]
          exact .cons h1 h2 h3 hv (ih _ t)
        · rw [if_neg e, if_neg (by rw [h2]; exact fun q => e (Option.some.inj q))]
          exact .cons h1 h2 h3 h4 (ih _ t)
  unfold putV putD
  rw [look_rep_isSome r]
  split
  · exact mp ds kvs r
  · exact app ds kvs r
theorem drop_rep {k : NestedKey} : ∀ {ds : List (D × D)} {kvs : List (NestedKey × Addr × V)}, RepK P w K H M kvs ds → RepK P w K H M (dropV k kvs) (dropD k ds)
  | [], _, r => by cases r; exact .nil
  | _ :: ds, _, r => by
    cases r with
    | cons h1 h2 h3 h4 t =>
      rename_i k1 b1 v1 dk1 dv1 vs
      have ih := drop_rep (k := k) t
      unfold dropV dropD at ih ⊢
      rw [List.filter_cons, List.filter_cons]
      by_cases e : k1 = k
      · subst e
        rw [if_neg (by simp), if_neg (by simp [h2])]
        exact ih
      · rw [if_pos (by simpa using e), if_pos (by rw [h2]; simpa using e)]
        exact .cons h1 h2 h3 h4 ih
theorem putV_len (k : NestedKey) (b : Addr) (v : V) (kvs : List (NestedKey × Addr × V)) : (putV k b v kvs).length ≤ kvs.length + 1 := by
  unfold putV
  split
  · rw [List.length_map]; exact Nat.le_succ _
  · rw [List.length_append]; exact Nat.le_refl _
/-- a dict's object as it stands -/
theorem dicO_ok {h : Heap} {a : Addr} {kvs : List (NestedKey × Addr × V)} (ph : dicPhi P w a kvs h) : ObjOk P w H h a (dicO P w a kvs) := by
  obtain ⟨h1, h2, xs, pr, o, es, ep, e1, e⟩ := id ph
  refine ⟨ph, ⟨o, e1⟩, fun ha hb p k => ?_⟩
  obtain ⟨h1, h2, xs, pr, o, es, ep, e1, e⟩ := p
  exact ⟨h1, h2, xs, pr, o, es, ep, k o e1, e⟩
theorem dicPhi_of {h : Heap} {a : Addr} {kvs : List (NestedKey × Addr × V)} {xs : List (NestedKey × Addr × Value)} (h1 : (a == sysModules) = false) (h2 : kvs.length ≤ sizeLine) (pr : Paired PrR kvs xs) (dd : h.DictOfH (nestedKind P w) a xs) : dicPhi P w a kvs h := by
  obtain ⟨o, es, ep, e1, e2, e3, e4, _, e5⟩ := dd
  exact ⟨h1, h2, xs, pr, o, es, ep, e1, e2, e3, e4, e5⟩
theorem dic_empty (h : Heap) (hb : sysModules < h.objs.size) : dicPhi P w h.objs.size [] (h.push { cls := .type "dict", data := .dict #[] }) :=
  ⟨beq_eq_false_iff_ne.mpr (Ne.symm (Nat.ne_of_lt hb)), Nat.zero_le _, [], .nil, _, #[], 0, Heap.get?_push_size _ rfl, ⟨rfl, rfl, rfl⟩, rfl, rfl, List.nodup_nil⟩
theorem dic_typeIs (I : Inv X pins σ H s) {a : Addr} {kvs : List (NestedKey × Addr × V)} (h : Rd H a (dicO X.prog X.w a kvs)) : s.TypeIs (.ref a) "dict" ∧ ∃ ob, s.heap.get? a = some ob ∧ ob.dict = none := by
  obtain ⟨⟨_, _, xs, _, o, es, ep, e1, e2, _⟩, _⟩ := h.ok I.hok
  exact ⟨⟨o, e1, e2.1⟩, o, e1, e2.2.1⟩
/-- a key that is looked up -/
theorem key_at (I : Inv X pins σ H s) {b : Addr} {dk : D} {k : NestedKey} (h : Rep P w X.K H M (.ref b) dk) (e : dk.key = some k) (hd : k.depth ≤ 8) : (nestedKind X.prog X.w).is s.heap k b := ⟨Rep.nested I dk _ _ k h rfl e, hd⟩
theorem room8 {A : Around} (h : A.units + 100 < cLine) : (nestedKind X.prog X.w).room A.in1 := by
  show A.units + 1 + 8 < cLine
  omega

/-! ### the rules by values -/
/-- d at a with entries kvs, a key at b -/
def KeyV (P : Program) (w : World) (K : PySem.W.Frag) (H : Hp) (a : Addr) (kvs : List (NestedKey × Addr × V)) (b : Addr) (k : NestedKey) : Prop :=
  Rd H a (dicO P w a kvs) ∧ (∃ ds, See' P w K H kvs ds) ∧ ∃ dk, See P w K H (.ref b) dk ∧ dk.key = some k ∧ k.depth ≤ 8
where See' (P : Program) (w : World) (K : PySem.W.Frag) (H : Hp) (kvs : List (NestedKey × Addr × V)) (ds : List (D × D)) : Prop := RepK P w K H (fun _ => False) kvs ds
def rInDic (P : Program) (w : World) (K : PySem.W.Frag) : R2 := fun x y H Q => ∃ a kvs b k, y = .ref a ∧ x = .ref b ∧ KeyV P w K H a kvs b k ∧ Q (.bl (lookV k kvs).isSome) H
def rNotInDic (P : Program) (w : World) (K : PySem.W.Frag) : R2 := fun x y H Q => ∃ a kvs b k, y = .ref a ∧ x = .ref b ∧ KeyV P w K H a kvs b k ∧ Q (.bl (!(lookV k kvs).isSome)) H
theorem op_inDic (hu : X.A.units + 100 < cLine) : OpR X (compareOp .In) (rInDic X.prog X.w X.K) := by
  intro pins s σ H x y v u Q I rx ry ⟨a, kvs, b, k, ey, ex, ⟨h1, ⟨ds, h2⟩, dk, h3, h4, h5⟩, q⟩
  subst ex ey
  obtain rfl : v = Value.ref b := rx
  obtain rfl : u = Value.ref a := ry
  obtain ⟨z, hl, xs, pr, dd⟩ := dic_at I h1 h2
  refine wpAny_in_heap (room8 hu) (key_at I h3 h4 h5) z dd ⟨.bl _, H, I.tok _, rfl, ?_⟩
  rw [← look_isSome pr]
  exact q
theorem op_notInDic (hu : X.A.units + 100 < cLine) : OpR X (compareOp .NotIn) (rNotInDic X.prog X.w X.K) := by
  intro pins s σ H x y v u Q I rx ry ⟨a, kvs, b, k, ey, ex, ⟨h1, ⟨ds, h2⟩, dk, h3, h4, h5⟩, q⟩
  subst ex ey
  obtain rfl : v = Value.ref b := rx
  obtain rfl : u = Value.ref a := ry
  obtain ⟨z, hl, xs, pr, dd⟩ := dic_at I h1 h2
  refine wpAny_notIn_heap (room8 hu) (key_at I h3 h4 h5) z dd ⟨.bl _, H, I.tok _, rfl, ?_⟩
  rw [← look_isSome pr]
  exact q
def rIxDic (P : Program) (w : World) (K : PySem.W.Frag) : R2 := fun x y H Q => ∃ a kvs b k v, x = .ref a ∧ y = .ref b ∧ KeyV P w K H a kvs b k ∧ lookV k kvs = some v ∧ Q v H
theorem ix_dic (hu : X.A.units + 100 < cLine) : IxR X (rIxDic X.prog X.w X.K) := by
  intro value slice pins s σ H x y v u Q I rx ry ⟨a, kvs, b, k, z, ex, ey, ⟨h1, ⟨ds, h2⟩, dk, h3, h4, h5⟩, hz, q⟩ hs
  subst ex ey
  obtain rfl : v = Value.ref a := rx
  obtain rfl : u = Value.ref b := ry
  obtain ⟨_, hl, xs, pr, dd⟩ := dic_at I h1 h2
  refine tail_any (dic_typeIs I h1).1 PySem.F.slot_dict_getitem.lookup ?_ hs
  rcases look_paired pr k with ⟨e1, _⟩ | ⟨v', u', b', e1, e2, r⟩
  · rw [e1] at hz; cases hz
  · rw [e1] at hz
    cases hz
    exact wpAny_getItem_heap (room8 hu) (key_at I h3 h4 h5) dd e2 ⟨z, H, I.tok _, r, q⟩
def rSetDic (P : Program) (w : World) (K : PySem.W.Frag) : V → V → V → Hp → (Hp → Prop) → Prop := fun o i v H Q => ∃ a kvs b k, o = .ref a ∧ i = .ref b ∧ H a = some (dicO P w a kvs) ∧ KeyV P w K H a kvs b k ∧ kvs.length < sizeLine ∧ Q (upd H a (dicO P w a (putV k b v kvs)))
theorem dic_write (I : Inv X pins σ H s) {a : Addr} {kvs kvs' : List (NestedKey × Addr × V)} {xs : List (NestedKey × Addr × Value)} {h' : Heap} (t' : Nat) (e : H a = some (dicO X.prog X.w a kvs)) (z : (a == sysModules) = false) (hl : kvs'.length ≤ sizeLine) (pr : Paired PrR kvs' xs) (dd : h'.DictOfH (nestedKind X.prog X.w) a xs) (hs : Heap.SameBut a s.heap h') :
    Inv X pins σ (upd H a (dicO X.prog X.w a kvs')) { s with heap := h', toks := t' } := by
  have he : ∃ q, h'.get? a = some q := let ⟨q, _, _, hq, _⟩ := dd; ⟨q, hq⟩
  exact d_write I (by rw [e]; exact True.intro) hs he (dicO_ok (dicPhi_of z hl pr dd))
theorem set_dic (hu : X.A.units + 100 < cLine) : PSet X (rSetDic X.prog X.w X.K) := by
  intro pins s σ H o i v ov iv u Q I ro ri rv ⟨a, kvs, b, k, eo, ei, e, ⟨h1, ⟨ds, h2⟩, dk, h3, h4, h5⟩, hl, q⟩
  subst eo ei
  obtain rfl : ov = Value.ref a := ro
  obtain rfl : iv = Value.ref b := ri
  obtain ⟨z, hz, xs, pr, dd⟩ := dic_at I h1 h2
  refine wpAny_setItem_heap (hsz := by rw [← Paired.length pr]; exact hz) (room8 hu) (key_at I h3 h4 h5) dd fun h' dd' hs => ?_
  exact ⟨_, dic_write I _ e z (by have := putV_len k b v kvs; omega) (put_paired rv pr) dd' hs, q⟩
def rGetDic (P : Program) (w : World) (K : PySem.W.Frag) : V → List V → Hp → VK → Prop := fun x xs H Q => ∃ a kvs b k more, x = .ref a ∧ xs = .ref b :: more ∧ KeyV P w K H a kvs b k ∧ ((more = [] ∧ Q ((lookV k kvs).getD .non) H) ∨ ∃ d, more = [d] ∧ Q ((lookV k kvs).getD d) H)
theorem mt_getDic (hu : X.A.units + 100 < cLine) : MtR X "dict.get" (rGetDic X.prog X.w X.K) := by
  intro pins s σ H x xs v us Q I rx rs ⟨a, kvs, b, k, more, ex, exs, ⟨h1, ⟨ds, h2⟩, dk, h3, h4, h5⟩, q⟩
  subst ex exs
  obtain rfl : v = Value.ref a := rx
  obtain ⟨z, hz, xs, pr, dd⟩ := dic_at I h1 h2
  cases rs with
  | cons r1 rt =>
    rename_i ub ut
    obtain rfl : ub = Value.ref b := r1
    rcases q with ⟨rfl, q⟩ | ⟨d, rfl, q⟩
    · cases rt
      refine call_meetsIn PySem.F.slot_dict_get dd.typeIs PySem.F.entry_dict_get (PySem.F.args_dict_get_2 _ _) (meetsH_dict_get (nestedKind X.prog X.w) a b z) ⟨room8 hu, k, xs, key_at I h3 h4 h5, dd, ?_⟩
      rcases look_paired pr k with ⟨e1, e2⟩ | ⟨v', u', b', e1, e2, r⟩
      · rw [e1] at q
        rw [e2]
        exact ⟨.non, H, I.tok _, rfl, q⟩
      · rw [e1] at q
        rw [e2]
        exact ⟨v', H, I.tok _, r, q⟩
    · cases rt with
      | cons r2 rt =>
        rename_i ud ut
        cases rt
        refine call_meetsIn PySem.F.slot_dict_get dd.typeIs PySem.F.entry_dict_get (PySem.F.args_dict_get_3 _ _ _) (meetsH_dict_get_default (nestedKind X.prog X.w) a b z ud) ⟨room8 hu, k, xs, key_at I h3 h4 h5, dd, ?_⟩
        rcases look_paired pr k with ⟨e1, e2⟩ | ⟨v', u', b', e1, e2, r⟩
        · rw [e1] at q
          rw [e2]
          exact ⟨d, H, I.tok _, r2, q⟩
        · rw [e1] at q
          rw [e2]
          exact ⟨v', H, I.tok _, r, q⟩
def rPopDic (P : Program) (w : World) (K : PySem.W.Frag) : V → List V → Hp → VK → Prop := fun x xs H Q => ∃ a kvs b k v, x = .ref a ∧ xs = [.ref b] ∧ H a = some (dicO P w a kvs) ∧ KeyV P w K H a kvs b k ∧ lookV k kvs = some v ∧ Q v (upd H a (dicO P w a (dropV k kvs)))
theorem mt_popDic (hu : X.A.units + 100 < cLine) : MtR X "dict.pop" (rPopDic X.prog X.w X.K) := by
  intro pins s σ H x xs v us Q I rx rs ⟨a, kvs, b, k, v0, ex, exs, e, ⟨h1, ⟨ds, h2⟩, dk, h3, h4, h5⟩, hv, q⟩
  subst ex exs
  obtain rfl : v = Value.ref a := rx
  obtain ⟨z, hz, xs, pr, dd⟩ := dic_at I h1 h2
  cases rs with
  | cons r1 rt =>
    rename_i ub ut
    obtain rfl : ub = Value.ref b := r1
    cases rt
    rcases look_paired pr k with ⟨e1, e2⟩ | ⟨v', u', b', e1, e2, r⟩
    · rw [e1] at hv; cases hv
    · rw [e1] at hv
      cases hv
      refine call_pop_heap (hsz := by rw [← Paired.length pr]; exact hz) (.inl rfl) (PySem.F.args_dict_pop_2 _ _) (room8 hu) (key_at I h3 h4 h5) z dd e2 fun h' dd' hs => ?_
      exact ⟨v0, _, dic_write I _ e z (Nat.le_trans (List.length_filter_le _ _) hz) (drop_paired pr) dd' hs, r, q⟩
def rSetdefDic (P : Program) (w : World) (K : PySem.W.Frag) : V → List V → Hp → VK → Prop := fun x xs H Q => ∃ a kvs b k d, x = .ref a ∧ xs = [.ref b, d] ∧ H a = some (dicO P w a kvs) ∧ KeyV P w K H a kvs b k ∧ kvs.length < sizeLine ∧
  (∀ v, lookV k kvs = some v → Q v H) ∧ (lookV k kvs = none → Q d (upd H a (dicO P w a (putV k b d kvs))))
theorem mt_setdefDic (hu : X.A.units + 100 < cLine) : MtR X "dict.setdefault" (rSetdefDic X.prog X.w X.K) := by
  intro pins s σ H x xs v us Q I rx rs ⟨a, kvs, b, k, d, ex, exs, e, ⟨h1, ⟨ds, h2⟩, dk, h3, h4, h5⟩, hl, q1, q2⟩
  subst ex exs
  obtain rfl : v = Value.ref a := rx
  obtain ⟨z, hz, xs, pr, dd⟩ := dic_at I h1 h2
  cases rs with
  | cons r1 rt =>
    rename_i ub ut
    obtain rfl : ub = Value.ref b := r1
    cases rt with
    | cons r2 rt =>
      rename_i ud ut
      cases rt
      refine call_setdefault_heap (hsz := by rw [← Paired.length pr]; exact hz) (room8 hu) (key_at I h3 h4 h5) z dd (fun p hp => ?_) fun hn h' dd' hs => ?_
      · rcases look_paired pr k with ⟨e1, e2⟩ | ⟨v', u', b', e1, e2, r⟩
        · rw [e2] at hp; cases hp
        · rw [e2] at hp
          cases hp
          exact ⟨v', H, I.tok _, r, q1 v' e1⟩
      · rcases look_paired pr k with ⟨e1, e2⟩ | ⟨v', u', b', e1, e2, r⟩
        · exact ⟨d, _, dic_write I _ e z (by have := putV_len k b d kvs; omega) (put_paired r2 pr) dd' hs, r2, q2 e1⟩
        · rw [e2] at hn; cases hn
/-- {} -/
theorem pe_dicNew {pos : Pos} : PE X (.Dict [] [] pos) (fun _ H Q => ∀ p, H p = none → Q (.ref p) (upd H p (dicO X.prog X.w p []))) := ⟨fun pins s σ H Q I h =>
  wpAny_Dict_empty ⟨.ref s.heap.objs.size, _, I.laid (a := s.heap.objs.size) (o := dicO X.prog X.w s.heap.objs.size []) (t' := s.toks) (fun _ _ q => Heap.get?_push_of_some _ q) (Nat.le_refl _) (dicO_ok (dic_empty s.heap I.big)), rfl, h _ (I.hok.fresh (Nat.le_refl _))⟩⟩
end
end Dt
set_option Elab.async false
set_option linter.all false
set_option maxRecDepth 100000
set_option autoImplicit false
set_option maxHeartbeats 4000000
/-! The data layer, part 11: reading calls of builtins, subscripts, slices, dicts on trees. -/
namespace Dt
open PySem PySem.Spec L2
open PyProof.Rows hiding St

def rds (ρ : DEnv) : List Res → Option (List D)
  | [] => some []
  | r :: rs => match rd ρ r, rds ρ rs with
    | some d, some ds => some (d :: ds)
    | _, _ => none
/-- operands read, an answer by value -/
def fN (g : List D → Option (D × Nat)) (fs : AF) : EF := fun ρ => match fs ρ with
  | some (rs, ρ1) => match rds ρ1 rs with
    | some ds => match g ds with
      | some (d, n) => some (.own d n, ρ1)
      | none => none
    | none => none
  | none => none
/-- an item, as it comes out of a list, a tuple, a dict -/
def itm (d : D) : D × Nat := (d, if isImm d = true then 5 else 0)

section
variable {X : Cx} {P : Program} {w : World} {K : PySem.W.Frag} {fa fb : EF} {fs : AF} {Z Z0 : Addr → Prop} {ρ ρ1 ρ2 ρ' : DEnv} {σ : St} {H : Hp} {own : OwnF}

theorem itm_own {M : Addr → Prop} {v : V} {d : D} (h : Rep P w K H M v d) : Own P w K H M (itm d).2 v d [] := by
  unfold itm
  by_cases e : isImm d = true
  · simp only [e, if_true]; exact own_imm e h
  · simp only [e, if_false]; exact ⟨rfl, h⟩
def OpN (P : Program) (w : World) (K : PySem.W.Frag) (r : List V → Hp → VK → Prop) (g : List D → Option (D × Nat)) : Prop :=
  ∀ (Z0 Z : Addr → Prop) (own0 own : OwnF) (H0 H : Hp) (ρ : DEnv) (σ : St) (rs : List Res) (vs : List V) (ds : List D) (d : D) (n : Nat) (Q : VK), Opd P w K Z0 own0 H0 ρ σ Z own H →
    ValsOk P w K Z0 Z own σ H rs vs → rds ρ rs = some ds → g ds = some (d, n) → (∀ v H', PostE P w K Z0 own0 H0 σ (.own d n) ρ v H' → Q v H') → r vs H Q
theorem runN {r : List V → Hp → VK → Prop} {g : List D → Option (D × Nat)} (ho : OpN P w K r g) : ∀ σ H Q, tE P w K (fN g fs) σ H Q → tA P w K fs σ H fun vs H1 => r vs H1 Q := fun σ H Q h => by
  obtain ⟨Z, own, ρ, r, ρ', E, e, k⟩ := h
  simp only [fN] at e
  split at e
  · rename_i rs ρ1 e1
    split at e
    · rename_i ds e2
      split at e
      · rename_i d n e3
        simp only [Option.some.injEq, Prod.mk.injEq] at e
        obtain ⟨rfl, rfl⟩ := e
        exact ⟨Z, own, ρ, rs, ρ1, E, e1, fun vs H1 Z1 own1 o1 v1 => ho _ _ _ _ _ _ _ _ _ _ _ _ _ _ o1 v1 e2 e3 k⟩
      · cases e
    · cases e
  · cases e
/-- f(..), f a built-in function -/
theorem r_callB {x : Str} {p pos : Pos} {e : Expr} {es : List Expr} {id : String} {r : List V → Hp → VK → Prop} {g : List D → Option (D × Nat)} (hc : CallR X (.builtin id) r) (ho : OpN X.prog X.w X.K r g) (hg : Gl X x) (hm : X.mg x = none) (hv : bootBuiltins x = some (.builtin id))
    (ha : PA X (e :: es) (tA X.prog X.w X.K fs)) (hn : x ≠ "__name__") (hdb : (x == ("__debug__" : Str)) = false) (he : starEach (e :: es) X.env = (false, eval e X.env) :: starEach es X.env) (hpl : (backTo pos (starEach es X.env)).any (·.1) = false) : PE X (.Call (.Name x p) (e :: es) [] pos) (tE X.prog X.w X.K (fN g fs)) :=
  (pe_callB hc hg hm hv ha hn hdb he hpl).imp (runN ho)
theorem r_callTy {x : Str} {p pos : Pos} {e : Expr} {es : List Expr} {T : String} {r : List V → Hp → VK → Prop} {g : List D → Option (D × Nat)} (hc : CallR X (.type T) r) (ho : OpN X.prog X.w X.K r g) (hg : Gl X x) (hm : X.mg x = none) (hv : bootBuiltins x = some (.type T))
    (ha : PA X (e :: es) (tA X.prog X.w X.K fs)) (hn : x ≠ "__name__") (hdb : (x == ("__debug__" : Str)) = false) (he : starEach (e :: es) X.env = (false, eval e X.env) :: starEach es X.env) (hpl : (backTo pos (starEach es X.env)).any (·.1) = false) : PE X (.Call (.Name x p) (e :: es) [] pos) (tE X.prog X.w X.K (fN g fs)) :=
  (pe_callTy hc hg hm hv ha hn hdb he hpl).imp (runN ho)

/-! ### one operand -/
theorem rds_one {rs : List Res} {d : D} (h : rds ρ rs = some [d]) : ∃ r, rs = [r] ∧ rd ρ r = some d := by
  cases rs with
  | nil => simp [rds] at h
  | cons r rs =>
    simp only [rds] at h
    split at h
    · rename_i d' ds' e1 e2
      simp only [Option.some.injEq, List.cons.injEq] at h
      obtain ⟨rfl, rfl⟩ := h
      cases rs with
      | nil => exact ⟨r, rfl, e1⟩
      | cons r' rs' =>
        simp only [rds] at e2
        split at e2 <;> cases e2
    · cases h
theorem rds_two {rs : List Res} {d e : D} (h : rds ρ rs = some [d, e]) : ∃ r s, rs = [r, s] ∧ rd ρ r = some d ∧ rd ρ s = some e := by
  cases rs with
  | nil => simp [rds] at h
  | cons r rs =>
    simp only [rds] at h
    split at h
    · rename_i d' ds' e1 e2
      simp only [Option.some.injEq, List.cons.injEq] at h
      obtain ⟨rfl, rfl⟩ := h
      obtain ⟨s, rfl, h2⟩ := rds_one e2
      exact ⟨r, s, rfl, e1, h2⟩
    · cases h
theorem vals_one {rs : Res} {vs : List V} (h : ValsOk P w K Z0 Z own σ H [rs] vs) : ∃ v, vs = [v] ∧ ValOk P w K Z0 Z own σ H rs v := by
  cases h with
  | cons a t => cases t; exact ⟨_, rfl, a⟩
theorem vals_two {r s : Res} {vs : List V} (h : ValsOk P w K Z0 Z own σ H [r, s] vs) : ∃ v u, vs = [v, u] ∧ ValOk P w K Z0 Z own σ H r v ∧ ValOk P w K Z0 Z own σ H s u := by
  cases h with
  | cons a t =>
    obtain ⟨u, rfl, b⟩ := vals_one t
    exact ⟨_, u, rfl, a, b⟩

/-! ### len, tuple, list, abs, int, sum, all -/
def gLen : List D → Option (D × Nat)
  | [.lst xs] => some (.int xs.length, 5)
  | [.tup xs] => some (.int xs.length, 5)
  | [.str x] => if x.length ≤ LIM then some (.int x.length, 5) else none
  | [.dic ds] => some (.int ds.length, 5)
  | _ => none
def rLenD (P : Program) (w : World) (K : PySem.W.Frag) : List V → Hp → VK → Prop := fun xs H Q => (∃ x n, xs = [x] ∧ LenV K x H n ∧ Q (.int n) H) ∨ ∃ a kvs ds, xs = [.ref a] ∧ Rd H a (dicO P w a kvs) ∧ RepK P w K H (fun _ => False) kvs ds ∧ Q (.int kvs.length) H
theorem repK_len {M : Addr → Prop} : ∀ {ds : List (D × D)} {vs : List (NestedKey × Addr × V)}, RepK P w K H M vs ds → vs.length = ds.length
  | [], _, r => by cases r; rfl
  | _ :: _, _, r => by
    cases r with
    | cons _ _ _ _ t => rw [List.length_cons, List.length_cons, repK_len t]
theorem cr_lenD : CallR X (.builtin "len") (rLenD X.prog X.w X.K) := by
  intro pins s σ H xs us Q I r h
  rcases h with h | ⟨a, kvs, ds, rfl, h1, h2, q⟩
  · exact call_len pins s σ H xs us Q I r h
  · obtain ⟨u, rfl, ru⟩ := vals1 r
    obtain rfl : u = Value.ref a := ru
    obtain ⟨z, hz, xs, pr, dd⟩ := dic_at I h1 h2
    obtain ⟨es, ep, hr, hs, _⟩ := (show s.heap.DictKeyed (nestedKind X.prog X.w) a (pairsH xs) from ⟨xs, dd, rfl⟩).walk
    have hl : es.size = kvs.length := by rw [hs, pairsH_length, Paired.length pr]
    refine PyProof.Rows.call_len_slot (n := kvs.length) dd.typeIs PySem.F.slot_dict_len (fun Q' hq => call_len_raw z hr (by rw [hl]; exact hq)) (by omega) (by rw [sizeLine_eq] at hz; omega) ?_
    exact ⟨.int kvs.length, H, I.tok _, ⟨_, rfl⟩, q⟩
theorem n_len : OpN P w K (rLenD P w K) gLen := by
  intro Z0 Z own0 own H0 H ρ σ rs vs ds d n Q o hv er e k
  unfold gLen at e
  have fin : ∀ i : Int, d = .int i → Q (.int i) H := fun i ed => k _ _ (by subst ed; exact fin_imm o.mv o.E o.z (own_imm rfl (.int i)))
  split at e
  · rename_i xs
    obtain ⟨r, rfl, e1⟩ := rds_one er
    obtain ⟨v, rfl, v1⟩ := vals_one hv
    obtain ⟨a, us, rfl, ha, ra⟩ := v1.items o.E o.z e1
    simp only [Option.some.injEq, Prod.mk.injEq] at e
    obtain ⟨ed, rfl⟩ := e
    exact .inl ⟨_, _, rfl, .inl ⟨us, SqL.of ha, rfl⟩, by rw [repL_len ra]; exact fin _ ed.symm⟩
  · rename_i xs
    obtain ⟨r, rfl, e1⟩ := rds_one er
    obtain ⟨v, rfl, v1⟩ := vals_one hv
    obtain ⟨a, us, rfl, ha, ra⟩ := v1.tupItems o.E o.z e1
    simp only [Option.some.injEq, Prod.mk.injEq] at e
    obtain ⟨ed, rfl⟩ := e
    exact .inl ⟨_, _, rfl, .inr ⟨us, ha, rfl⟩, by rw [repL_len ra]; exact fin _ ed.symm⟩
  · split at e
    · rename_i x hl
      obtain ⟨r, rfl, e1⟩ := rds_one er
      obtain ⟨v, rfl, v1⟩ := vals_one hv
      cases see_str (v1.see o.E e1)
      simp only [Option.some.injEq, Prod.mk.injEq] at e
      obtain ⟨ed, rfl⟩ := e
      exact .inl ⟨_, _, rfl, ⟨by rw [sizeLine_eq]; exact hl, rfl⟩, fin _ ed.symm⟩
    · cases e
  · obtain ⟨r, rfl, e1⟩ := rds_one er
    obtain ⟨v, rfl, v1⟩ := vals_one hv
    obtain ⟨a, kvs, rfl, ha, ra⟩ := v1.entries o.E o.z e1
    simp only [Option.some.injEq, Prod.mk.injEq] at e
    obtain ⟨ed, rfl⟩ := e
    exact .inr ⟨a, kvs, _, rfl, ha, RepK.mono (fun _ _ h _ => h) (fun _ z => z.elim) _ _ ra, by rw [repK_len ra]; exact fin _ ed.symm⟩
  · cases e
def gTuple : List D → Option (D × Nat)
  | [.lst xs] => some (.tup xs, 5)
  | [.tup xs] => some (.tup xs, 5)
  | _ => none
theorem n_tuple : OpN P w K (fun xs H Q => ∃ p ys, xs = [.ref p] ∧ ((SqL K H p ys ∧ ∀ l, H l = none → Q (.ref l) (upd H l (.tup ys))) ∨ (SqT K H p ys ∧ Q (.ref p) H))) gTuple := by
  intro Z0 Z own0 own H0 H ρ σ rs vs ds d n Q o hv er e k
  unfold gTuple at e
  split at e
  · obtain ⟨r, rfl, e1⟩ := rds_one er
    obtain ⟨v, rfl, v1⟩ := vals_one hv
    obtain ⟨a, us, rfl, ha, ra⟩ := v1.items o.E o.z e1
    simp only [Option.some.injEq, Prod.mk.injEq] at e
    obtain ⟨rfl, rfl⟩ := e
    exact ⟨a, us, rfl, .inl ⟨SqL.of ha, fun p hp => k _ _ (fin_tup o.mv o.E o.z hp ra)⟩⟩
  · obtain ⟨r, rfl, e1⟩ := rds_one er
    obtain ⟨v, rfl, v1⟩ := vals_one hv
    have im := v1.imm o.E o.z rfl e1
    obtain ⟨a, us, rfl, ha, ra⟩ := v1.tupItems o.E o.z e1
    simp only [Option.some.injEq, Prod.mk.injEq] at e
    obtain ⟨rfl, rfl⟩ := e
    exact ⟨a, us, rfl, .inr ⟨ha, k _ _ (fin_imm o.mv o.E o.z (own_imm rfl im))⟩⟩
  · cases e
def gList : List D → Option (D × Nat)
  | [.lst xs] => some (.lst xs, 1)
  | [.tup xs] => some (.lst xs, 1)
  | [.scr ns] => some (.lst (ns.map .int), 1)
  | _ => none
theorem rep_ints {M : Addr → Prop} : ∀ ns : List Int, RepL P w K H M (ns.map V.int) (ns.map D.int)
  | [] => .nil
  | n :: ns => .cons (.int n) (rep_ints ns)
theorem n_list : OpN P w K (fun xs H Q => ∃ p ys, xs = [.ref p] ∧ (SqL K H p ys ∨ SqT K H p ys) ∧ ∀ l, H l = none → Q (.ref l) (upd H l (.lst ys))) gList := by
  intro Z0 Z own0 own H0 H ρ σ rs vs ds d n Q o hv er e k
  unfold gList at e
  split at e
  · obtain ⟨r, rfl, e1⟩ := rds_one er
    obtain ⟨v, rfl, v1⟩ := vals_one hv
    obtain ⟨a, us, rfl, ha, ra⟩ := v1.items o.E o.z e1
    simp only [Option.some.injEq, Prod.mk.injEq] at e
    obtain ⟨rfl, rfl⟩ := e
    exact ⟨a, us, rfl, .inl (SqL.of ha), fun p hp => k _ _ (fin_lst o.mv o.E o.z hp ra)⟩
  · obtain ⟨r, rfl, e1⟩ := rds_one er
    obtain ⟨v, rfl, v1⟩ := vals_one hv
    obtain ⟨a, us, rfl, ha, ra⟩ := v1.tupItems o.E o.z e1
    simp only [Option.some.injEq, Prod.mk.injEq] at e
    obtain ⟨rfl, rfl⟩ := e
    exact ⟨a, us, rfl, .inr ha, fun p hp => k _ _ (fin_lst o.mv o.E o.z hp ra)⟩
  · obtain ⟨r, rfl, e1⟩ := rds_one er
    obtain ⟨v, rfl, v1⟩ := vals_one hv
    have im := v1.imm o.E o.z rfl e1
    simp only [Option.some.injEq, Prod.mk.injEq] at e
    obtain ⟨rfl, rfl⟩ := e
    cases im with
    | scr h => exact ⟨_, _, rfl, .inl (h.elim (fun z => .inr z) fun z => .inl z.1), fun p hp => k _ _ (fin_lst o.mv o.E o.z hp (rep_ints _))⟩
  · cases e
/-- an operation whose answer is immutable and leaves the heap -/
theorem opN_pure1 {r : List V → Hp → VK → Prop} {g : D → Option D} (hi : ∀ a d, g a = some d → isImm d = true) (rule : ∀ x a d H Q, See P w K H x a → g a = some d → (∀ v, (∀ M, Rep P w K H M v d) → Q v H) → r [x] H Q) : OpN P w K r (fun ds => match ds with | [a] => (g a).map fun d => (d, 5) | _ => none) := by
  intro Z0 Z own0 own H0 H ρ σ rs vs ds d n Q o hv er e k
  simp only at e
  split at e
  · obtain ⟨d1, e1, e2⟩ := Option.map_eq_some_iff.mp e
    cases e2
    obtain ⟨r, rfl, e3⟩ := rds_one er
    obtain ⟨v, rfl, v1⟩ := vals_one hv
    exact rule v _ d H Q (v1.see o.E e3) e1 fun v hv => k v H (fin_imm o.mv o.E o.z (own_imm (hi _ _ e1) (hv _)))
  · cases e
def g1 (g : D → Option D) : List D → Option (D × Nat) := fun ds => match ds with | [a] => (g a).map fun d => (d, 5) | _ => none
def hAbs : D → Option D
  | .int i => some (.int (if i < 0 then -i else i))
  | _ => none
theorem n_abs : OpN P w K (fun xs H Q => ∃ i, xs = [.int i] ∧ Q (.int (if i < 0 then -i else i)) H) (g1 hAbs) := opN_pure1 (fun a d e => by unfold hAbs at e; split at e <;> first | (cases e; rfl) | cases e) fun x a d H Q ha e k => by
  unfold hAbs at e
  split at e
  · cases e; cases see_int ha; exact ⟨_, rfl, k _ fun _ => .int _⟩
  · cases e
def hInt : D → Option D
  | .int i => some (.int i)
  | _ => none
theorem n_int : OpN P w K (fun xs H Q => (∃ i, xs = [.int i] ∧ Q (.int i) H) ∨ ∃ k, xs = [.bl k] ∧ Q (.int (if k then 1 else 0)) H) (g1 hInt) := opN_pure1 (fun a d e => by unfold hInt at e; split at e <;> first | (cases e; rfl) | cases e) fun x a d H Q ha e k => by
  unfold hInt at e
  split at e
  · cases e; cases see_int ha; exact .inl ⟨_, rfl, k _ fun _ => .int _⟩
  · cases e
/-- the asInts of a list -/
def asInts : List D → Option (List Int)
  | [] => some []
  | .int i :: ds => (asInts ds).map (i :: ·)
  | _ => none
def asBls : List D → Option (List Bool)
  | [] => some []
  | .bl i :: ds => (asBls ds).map (i :: ·)
  | _ => none
theorem asInts_eq : ∀ {ds : List D} {ns : List Int}, asInts ds = some ns → ds = ns.map .int
  | [], ns, e => by simp only [asInts, Option.some.injEq] at e; subst e; rfl
  | .int i :: ds, ns, e => by
    simp only [asInts, Option.map_eq_some_iff] at e
    obtain ⟨ms, e1, rfl⟩ := e
    rw [asInts_eq e1]; rfl
  | .non :: _, _, e | .bl _ :: _, _, e | .str _ :: _, _, e | .tup _ :: _, _, e | .lst _ :: _, _, e | .dic _ :: _, _, e | .set _ :: _, _, e | .obj _ :: _, _, e | .scr _ :: _, _, e => by simp [asInts] at e
theorem bls_eq : ∀ {ds : List D} {ns : List Bool}, asBls ds = some ns → ds = ns.map .bl
  | [], ns, e => by simp only [asBls, Option.some.injEq] at e; subst e; rfl
  | .bl i :: ds, ns, e => by
    simp only [asBls, Option.map_eq_some_iff] at e
    obtain ⟨ms, e1, rfl⟩ := e
    rw [bls_eq e1]; rfl
  | .non :: _, _, e | .int _ :: _, _, e | .str _ :: _, _, e | .tup _ :: _, _, e | .lst _ :: _, _, e | .dic _ :: _, _, e | .set _ :: _, _, e | .obj _ :: _, _, e | .scr _ :: _, _, e => by simp [asBls] at e
theorem repL_ints {M : Addr → Prop} : ∀ {ns : List Int} {vs : List V}, RepL P w K H M vs (ns.map .int) → vs = ns.map .int
  | [], _, r => by cases r; rfl
  | n :: ns, _, r => by
    cases r with
    | cons h t => cases h; rw [repL_ints t]; rfl
theorem repL_bls {M : Addr → Prop} : ∀ {ns : List Bool} {vs : List V}, RepL P w K H M vs (ns.map .bl) → vs = ns.map .bl
  | [], _, r => by cases r; rfl
  | n :: ns, _, r => by
    cases r with
    | cons h t => cases h; rw [repL_bls t]; rfl
def hSum : D → Option D
  | .lst xs => (asInts xs).map fun ns => .int ns.sum
  | _ => none
theorem see_lst {M : Addr → Prop} {x : V} {ds : List D} (h : Rep P w K H M x (.lst ds)) : ∃ a vs, x = .ref a ∧ H a = some (.lst vs) ∧ RepL P w K H M vs ds := by
  cases h with
  | lst h1 h2 h3 => exact ⟨_, _, rfl, h1, h3⟩
theorem n_sum : OpN P w K (rSum K) (g1 hSum) := opN_pure1 (fun a d e => by
    unfold hSum at e
    split at e
    · obtain ⟨ns, _, e2⟩ := Option.map_eq_some_iff.mp e; cases e2; rfl
    · cases e) fun x a d H Q ha e k => by
  unfold hSum at e
  split at e
  · obtain ⟨ns, e1, e2⟩ := Option.map_eq_some_iff.mp e
    cases e2
    obtain ⟨a, vs, rfl, h1, h2⟩ := see_lst ha
    rw [asInts_eq e1] at h2
    rw [repL_ints h2] at h1
    exact ⟨a, ns, rfl, SqL.of h1, k _ fun _ => .int _⟩
  · cases e
def hAll : D → Option D
  | .lst xs => (asBls xs).map fun ns => .bl (ns.all id)
  | _ => none
theorem n_all : OpN P w K (rAll K) (g1 hAll) := opN_pure1 (fun a d e => by
    unfold hAll at e
    split at e
    · obtain ⟨ns, _, e2⟩ := Option.map_eq_some_iff.mp e; cases e2; rfl
    · cases e) fun x a d H Q ha e k => by
  unfold hAll at e
  split at e
  · obtain ⟨ns, e1, e2⟩ := Option.map_eq_some_iff.mp e
    cases e2
    obtain ⟨a, vs, rfl, h1, h2⟩ := see_lst ha
    rw [bls_eq e1] at h2
    rw [repL_bls h2] at h1
    exact ⟨a, ns, rfl, SqL.of h1, k _ fun _ => .bl _⟩
  · cases e

/-! ### a[i], i in d -/
def gIx : D → D → Option (D × Nat)
  | .lst xs, .int i => (atI xs i).map itm
  | .tup xs, .int i => (atI xs i).map itm
  | .str z, .int i => if z.length ≤ LIM then (atI z.cps.toList i).map fun c => (.str ⟨#[c]⟩, 5) else none
  | .dic ds, .tup ks => match (D.tup ks).key with
    | some k => if k.depth ≤ 8 then (lookD k ds).map itm else none
    | none => none
  | _, _ => none
def rIxD (P : Program) (w : World) (K : PySem.W.Frag) : R2 := fun x y H Q => rIxL K x y H Q ∨ rIxT K x y H Q ∨ rIxS x y H Q ∨ rIxDic P w K x y H Q
theorem ix_D (hu : X.A.units + 100 < cLine) : IxR X (rIxD X.prog X.w X.K) := ix_list.or (ix_tup.or (ix_str.or (ix_dic hu)))
theorem atI_rep {M : Addr → Prop} {ds : List D} {vs : List V} {i : Int} {d : D} (r : RepL P w K H M vs ds) (e : atI ds i = some d) : ∃ v, atI vs i = some v ∧ Rep P w K H M v d := by
  unfold atI at e ⊢
  rw [repL_len r]
  cases q : ixN ds.length i with
  | none => rw [q] at e; cases e
  | some j =>
    rw [q] at e
    exact repL_get r e
theorem key_of_tup {M : Addr → Prop} {y : V} {ks : List D} (h : Rep P w K H M y (.tup ks)) : ∃ b, y = .ref b := by
  cases h; exact ⟨_, rfl⟩
theorem o_ix : Op2 P w K (rIxD P w K) gIx := by
  intro Z0 Z own0 own H0 H ρ σ ra rb x y a b d n Q o va vb ea eb e k
  unfold gIx at e
  have fin : ∀ v, Rep P w K H (Mz Z0 own) v d → n = (itm d).2 → Q v H := fun v h en => k v H (by subst en; exact fin_imm o.mv o.E o.z (itm_own h))
  split at e
  · obtain ⟨d', e1, e2⟩ := Option.map_eq_some_iff.mp e
    cases e2
    obtain ⟨a, vs, rfl, ha, ra⟩ := va.items o.E o.z ea
    cases see_int (vb.see o.E eb)
    obtain ⟨v, h1, h2⟩ := atI_rep ra e1
    exact .inl ⟨a, vs, _, v, rfl, rfl, SqL.of ha, h1, fin v h2 rfl⟩
  · obtain ⟨d', e1, e2⟩ := Option.map_eq_some_iff.mp e
    cases e2
    obtain ⟨a, vs, rfl, ha, ra⟩ := va.tupItems o.E o.z ea
    cases see_int (vb.see o.E eb)
    obtain ⟨v, h1, h2⟩ := atI_rep ra e1
    exact .inr (.inl ⟨a, vs, _, v, rfl, rfl, ha, h1, fin v h2 rfl⟩)
  · split at e
    · rename_i hl
      obtain ⟨c, e1, e2⟩ := Option.map_eq_some_iff.mp e
      cases e2
      cases see_str (va.see o.E ea)
      cases see_int (vb.see o.E eb)
      exact .inr (.inr (.inl ⟨_, _, c, rfl, rfl, by rw [sizeLine_eq]; exact hl, e1, fin _ (.str _) rfl⟩))
    · cases e
  · split at e
    · rename_i kk ek
      split at e
      · rename_i hd
        obtain ⟨d', e1, e2⟩ := Option.map_eq_some_iff.mp e
        cases e2
        obtain ⟨a, kvs, rfl, ha, ra⟩ := va.entries o.E o.z ea
        have sb := vb.see o.E eb
        obtain ⟨b, rfl⟩ := key_of_tup sb
        rcases look_rep ra kk with ⟨_, q⟩ | ⟨v, d2, h1, h2, h3⟩
        · rw [e1] at q; cases q
        · rw [e1] at h2
          cases h2
          exact .inr (.inr (.inr ⟨a, kvs, b, kk, v, rfl, rfl, ⟨ha, ⟨_, RepK.mono (fun _ _ h _ => h) (fun _ z => z.elim) _ _ ra⟩, _, sb, ek, hd⟩, h1, fin v h3 rfl⟩))
      · cases e
    · cases e
  · cases e
/-- x in d as well -/
def cInD (a b : D) : Option Bool := match a, b with
  | .tup ks, .dic ds => match (D.tup ks).key with
    | some k => if k.depth ≤ 8 then some (lookD k ds).isSome else none
    | none => none
  | a, b => cIn a b
def rInD2 (P : Program) (w : World) (K : PySem.W.Frag) : R2 := fun x y H Q => rCmpD P w K cIn x y H Q ∨ rInDic P w K x y H Q
def rNotInD2 (P : Program) (w : World) (K : PySem.W.Frag) : R2 := fun x y H Q => rCmpD P w K (fun a b => (cIn a b).map (!·)) x y H Q ∨ rNotInDic P w K x y H Q
theorem in_dic {M : Addr → Prop} (hM : ∀ x, (fun _ => False) x → M x) {ks : List D} {ds : List (D × D)} {c : Bool} {x y : V} (hx : See P w K H x (.tup ks)) (hy : See P w K H y (.dic ds)) (e : cInD (.tup ks) (.dic ds) = some c) :
    ∃ a kvs b k, y = .ref a ∧ x = .ref b ∧ KeyV P w K H a kvs b k ∧ (lookV k kvs).isSome = c := by
  unfold cInD at e
  simp only at e
  split at e
  · rename_i kk ek
    split at e
    · rename_i hd
      cases e
      obtain ⟨b, rfl⟩ := key_of_tup hx
      cases hy with
      | dic h1 _ h2 => exact ⟨_, _, b, kk, rfl, rfl, ⟨h1, ⟨_, h2⟩, _, hx, ek, hd⟩, look_rep_isSome h2 kk⟩
    · cases e
  · cases e
theorem cInD_split {a b : D} {c : Bool} (e : cInD a b = some c) : (∃ ks ds, a = .tup ks ∧ b = .dic ds) ∨ cIn a b = some c := by
  by_cases h : ∃ ks ds, a = D.tup ks ∧ b = D.dic ds
  · exact .inl h
  · refine .inr ?_
    unfold cInD at e
    split at e
    · exact absurd ⟨_, _, rfl, rfl⟩ h
    · exact e
theorem o_in : Op2 P w K (rInD2 P w K) fun a b => blO (cInD a b) := op2_pure blO_imm fun x y a b d n H Q ha hb e k => by
  unfold blO at e
  obtain ⟨c, e1, e2⟩ := Option.map_eq_some_iff.mp e
  cases e2
  rcases cInD_split e1 with ⟨ks, ds, rfl, rfl⟩ | e3
  · obtain ⟨a, kvs, b, kk, rfl, rfl, hk, hc⟩ := in_dic (M := fun _ => False) (fun _ z => z) ha hb e1
    exact .inr ⟨a, kvs, b, kk, rfl, rfl, hk, by rw [hc]; exact k _ fun _ => .bl c⟩
  · exact .inl ⟨a, b, c, ha, hb, e3, k _ fun _ => .bl c⟩
theorem o_notIn : Op2 P w K (rNotInD2 P w K) fun a b => blO ((cInD a b).map (!·)) := op2_pure (g := fun a b => blO ((cInD a b).map (!·))) (fun a b d n e => blO_imm (g := fun a b => (cInD a b).map (!·)) a b d n e) fun x y a b d n H Q ha hb e k => by
  unfold blO at e
  obtain ⟨c, e1, e2⟩ := Option.map_eq_some_iff.mp e
  obtain ⟨c1, e4, e5⟩ := Option.map_eq_some_iff.mp e1
  cases e2
  subst e5
  rcases cInD_split e4 with ⟨ks, ds, rfl, rfl⟩ | e3
  · obtain ⟨a, kvs, b, kk, rfl, rfl, hk, hc⟩ := in_dic (M := fun _ => False) (fun _ z => z) ha hb e4
    exact .inr ⟨a, kvs, b, kk, rfl, rfl, hk, by rw [hc]; exact k _ fun _ => .bl _⟩
  · exact .inl ⟨a, b, !c1, ha, hb, (by show (cIn a b).map _ = _; rw [e3]; rfl), k _ fun _ => .bl _⟩
theorem op_inD2 (hu : X.A.units + 100 < cLine) : OpR X (compareOp .In) (rInD2 X.prog X.w X.K) := (op_cIn hu).or (op_inDic hu)
theorem op_notInD2 (hu : X.A.units + 100 < cLine) : OpR X (compareOp .NotIn) (rNotInD2 X.prog X.w X.K) := (op_cNotIn hu).or (op_notInDic hu)
end
end Dt
set_option Elab.async false
set_option linter.all false
set_option maxRecDepth 100000
set_option autoImplicit false
set_option maxHeartbeats 4000000
/-! The data layer, part 12: lists and dicts that are changed. -/
namespace Dt
open PySem PySem.Spec L2
open PyProof.Rows hiding St

/-! ### the functions on trees -/
def isL (o : Option (Option (D × Nat))) : Bool := match o with
  | some (some (.lst _, n)) => n == 1
  | _ => false
def isDi (o : Option (Option (D × Nat))) : Bool := match o with
  | some (some (.dic _, n)) => n == 1
  | _ => false
def fApp (i : Nat) (fa : EF) : EF := fun ρ => if isL ρ[i]? = false then none else match fa ρ with
  | some (r, ρ1) => if isEnt r = true then none else match esc r ρ1 with
    | some (d, ρ2) => match ρ2[i]? with
      | some (some (.lst xs, n)) => if n = 1 ∧ xs.length < LIM then some (.own .non 5, ρ2.set i (some (.lst (xs ++ [d]), 1))) else none
      | _ => none
    | none => none
  | none => none
def fPopL (i : Nat) : EF := fun ρ => match ρ[i]? with
  | some (some (.lst xs, n)) => if n = 1 then match xs[xs.length - 1]? with
    | some d => some (.own d (itm d).2, ρ.set i (some (.lst xs.dropLast, 1)))
    | none => none else none
  | _ => none
def fPopD (i : Nat) (fk : EF) : EF := fun ρ => if isDi ρ[i]? = false then none else match fk ρ with
  | some (r, ρ1) => if isEnt r = true then none else match rd ρ1 r with
    | some (.tup ks) => match (D.tup ks).key, ρ1[i]? with
      | some k, some (some (.dic ds, n)) => if n = 1 ∧ k.depth ≤ 8 then match lookD k ds with
        | some d => some (.own d (itm d).2, ρ1.set i (some (.dic (dropD k ds), 1)))
        | none => none else none
      | _, _ => none
    | _ => none
  | none => none
/-- what x[i] = v makes of x -/
def putItem (x : D) (n : Nat) (ix v : D) : Option D := match x with
  | .lst xs => match ix with
    | .int j => if n = 1 then match ixN xs.length j with
      | some p => some (.lst (xs.set p v))
      | none => none else none
    | _ => none
  | .dic ds => match ix with
    | .tup ks => match (D.tup ks).key with
      | some k => if n = 1 ∧ k.depth ≤ 8 ∧ ds.length < LIM then some (.dic (putD k (.tup ks) v ds)) else none
      | none => none
    | _ => none
  | _ => none
def storeF (i : Nat) (fi fe : EF) : SF := fun _ ρ => match fe ρ with
  | some (rv, ρ1) => if isEnt rv = true then none else if (isL ρ1[i]? || isDi ρ1[i]?) = false then none else match fi ρ1 with
    | some (ri, ρ2) => if isEnt ri = true then none else match rd ρ2 ri with
      | some ix => match esc rv ρ2 with
        | some (dv, ρ3) => match ρ3[i]? with
          | some (some (x, n)) => match putItem x n ix dv with
            | some y => some (.nx (ρ3.set i (some (y, 1))))
            | none => none
          | _ => none
        | none => none
      | none => none
    | none => none
  | none => none

section
variable {X : Cx} {P : Program} {w : World} {K : PySem.W.Frag} {fa fb fi fe : EF} {fs : AF} {Z Z0 Z1 : Addr → Prop} {ρ ρ1 ρ2 ρ' : DEnv} {σ : St} {H : Hp} {own own1 : OwnF}

/-- an object of a slot's own is changed -/
theorem mutate {i n n' : Nat} {a : Addr} {d d' : D} {o' : HO} (E : Est P w K Z1 ρ σ H own) (hz : ∀ x, Z x → Z1 x) (e : ρ[i]? = some (some (d, n))) (hv : σ[i]? = some (some (.ref a))) (ho : own i = [a])
    (hn : Own P w K (upd H a o') (Mz Z own) n' (.ref a) d' [a]) : Est P w K Z (ρ.set i (some (d', n'))) σ (upd H a o') own ∧ Mv own H own (upd H a o') := by
  have hi : i < ρ.length := (List.getElem?_eq_some_iff.mp e).1
  have g : ∀ b u, H b = some u → b ≠ a → upd H a o' b = some u := fun b u e hb => by rw [upd_ne hb]; exact e
  refine ⟨(E.weak hz).change hi hv (fun b u e hb => g b u e fun z => hb (by rw [ho, z]; exact List.mem_singleton.mpr rfl)) (fun x h => .inl h) (fun x h => ?_) (by rw [ho]; exact hn) (fun x hx => ?_), ⟨fun b u e hb => g b u e fun z => hb i (by rw [ho, z]; exact List.mem_singleton.mpr rfl), fun j x hx => .inl ⟨j, hx⟩⟩⟩
  · by_cases hx : x = a
    · subst hx
      rw [upd_same]; intro q; cases q
    · rw [upd_ne hx]; exact E.zh x (hz x h)
  · rw [ho] at hx
    have hx : x = a := by simpa using hx
    subst hx
    rw [upd_same]; intro q; cases q
/-- the object of a slot's list, dict -/
theorem lst_slot {i : Nat} {xs : List D} (E : Est P w K Z ρ σ H own) (e : ρ[i]? = some (some (.lst xs, 1))) : ∃ a vs, σ[i]? = some (some (.ref a)) ∧ H a = some (.lst vs) ∧ own i = [a] ∧ RepL P w K H (Mz Z own) vs xs := by
  obtain ⟨v, h1, a, vs, A', rfl, h2, h3, l⟩ := E.sl i _ _ e
  obtain ⟨rfl, rr⟩ := ownL0_rep l
  exact ⟨a, vs, h1, h2, h3, rr⟩
theorem dic_slot {i : Nat} {ds : List (D × D)} (E : Est P w K Z ρ σ H own) (e : ρ[i]? = some (some (.dic ds, 1))) : ∃ a kvs, σ[i]? = some (some (.ref a)) ∧ H a = some (dicO P w a kvs) ∧ own i = [a] ∧ RepK P w K H (Mz Z own) kvs ds := by
  obtain ⟨v, h1, a, vs, A', rfl, h2, h3, l⟩ := E.sl i _ _ e
  obtain ⟨rfl, rr⟩ := ownK0_rep l
  exact ⟨a, vs, h1, h2, h3, rr⟩
theorem upd_at {a : Addr} {o : HO} {M : Addr → Prop} (ha : M a) : ∀ b u, H b = some u → ¬ M b → upd H a o b = some u := fun b u e hb => by
  rw [upd_ne (fun z => hb (by rw [z]; exact ha))]
  exact e
theorem repL_set {M : Addr → Prop} {v : V} {d : D} (h : Rep P w K H M v d) : ∀ {ds : List D} {vs : List V} (j : Nat), RepL P w K H M vs ds → RepL P w K H M (vs.set j v) (ds.set j d)
  | [], _, _, r => by cases r; exact .nil
  | _ :: _, _, 0, r => by
    cases r with
    | cons _ t => exact .cons h t
  | _ :: _, _, j + 1, r => by
    cases r with
    | cons h1 t => exact .cons h1 (repL_set h j t)
theorem repL_dropLast {M : Addr → Prop} : ∀ {ds : List D} {vs : List V}, RepL P w K H M vs ds → RepL P w K H M vs.dropLast ds.dropLast
  | [], _, r => by cases r; exact .nil
  | [_], _, r => by
    cases r with
    | cons _ t => cases t; exact .nil
  | _ :: d :: ds, _, r => by
    cases r with
    | cons h t =>
      cases t with
      | cons h2 t2 =>
        show RepL P w K H M (_ :: (_ :: _).dropLast) (_ :: (d :: ds).dropLast)
        exact .cons h (repL_dropLast (.cons h2 t2))

theorem isL_at {i : Nat} (E : Est P w K Z ρ σ H own) (h : isL ρ[i]? = true) : ∃ a vs, σ[i]? = some (some (V.ref a)) ∧ H a = some (.lst vs) := by
  unfold isL at h
  split at h
  · rename_i xs n e
    have hn : n = 1 := by simpa using h
    subst hn
    obtain ⟨a, vs, h1, h2, _⟩ := lst_slot E e
    exact ⟨a, vs, h1, h2⟩
  · cases h
theorem isDi_at {i : Nat} (E : Est P w K Z ρ σ H own) (h : isDi ρ[i]? = true) : ∃ a kvs, σ[i]? = some (some (V.ref a)) ∧ H a = some (dicO P w a kvs) := by
  unfold isDi at h
  split at h
  · rename_i xs n e
    have hn : n = 1 := by simpa using h
    subst hn
    obtain ⟨a, vs, h1, h2, _⟩ := dic_slot E e
    exact ⟨a, vs, h1, h2⟩
  · cases h
/-- one argument -/
theorem run1a (E : Est P w K Z ρ σ H own) {ra : Res} (ea : fa ρ = some (ra, ρ1)) (na : isEnt ra = false) {R : List V → Hp → Prop}
    (k : ∀ x H1 Z1 own1, Opd P w K Z own H ρ1 σ Z1 own1 H1 → ValOk P w K Z Z1 own1 σ H1 ra x → R [x] H1) : tCons (tE P w K fa) tNil σ H R :=
  run1 (R := fun x H1 => tNil σ H1 fun xs H2 => R (x :: xs) H2) E ea na fun x H1 Z1 own1 o1 v1 => k x H1 Z1 own1 o1 v1

theorem r_app {i : Nat} {x : Str} {e : Expr} {px apos cpos : Pos} (hN : X.N[i]? = some x) (hv : Vis X.env.scope x) (hd : (x == ("__debug__" : Str)) = false) (hcd : (x == ("__classdict__" : Str)) = false) (ha : PE X e (tE X.prog X.w X.K fa))
    (hbase : attributeBase (.Name x px) "append" X.env (eval (.Name x px) X.env) = eval (.Name x px) X.env)
    (hline : (apos.endLine == cpos.line) = true) (hs : starEach [e] X.env = [(false, eval e X.env)]) :
    PE X (.Call (.Attribute (.Name x px) "append" apos) [e] [] cpos) (tE X.prog X.w X.K (fApp i fa)) :=
  (pe_bm PySem.F.plainAttrs_list PySem.F.slot_list_append PySem.F.type_list_append mt_append (pe_var hN hv hd hcd) (pa_cons ha pa_nil hs) hbase (by rw [hs]; rfl) hline hs rfl).imp fun σ H Q h => by
    obtain ⟨Z, own, ρ, r, ρ', E, e, k⟩ := h
    simp only [fApp] at e
    split at e
    · cases e
    · rename_i hL
      obtain ⟨a0, vs0, hs0, hH0⟩ := isL_at E (by simpa using hL)
      refine ⟨_, hs0, .inl ⟨rfl, vs0, SqL.of hH0⟩, ?_⟩
      split at e
      · rename_i rv ρ1 e1
        split at e
        · cases e
        · rename_i ne
          split at e
          · rename_i d ρ2 e2
            split at e
            · rename_i xs n e3
              split at e
              · rename_i hl
                obtain ⟨rfl, hlen⟩ := hl
                simp only [Option.some.injEq, Prod.mk.injEq] at e
                obtain ⟨rfl, rfl⟩ := e
                refine run1a E e1 (by simpa using ne) fun y H1 Z1 own1 o1 v1 => ?_
                obtain ⟨own2, E2, s2, rr⟩ := esc_ok o1.E o1.z v1 e2
                obtain ⟨a, vs, h1, h2, h3, rl⟩ := lst_slot E2 e3
                rw [hs0] at h1
                simp only [Option.some.injEq, V.ref.injEq] at h1
                subst h1
                have ma : Mz Z own2 a0 := .inr ⟨i, by rw [h3]; exact List.mem_singleton.mpr rfl⟩
                obtain ⟨E3, mv3⟩ := mutate (o' := .lst (vs ++ [y])) (d' := .lst (xs ++ [d])) (n' := 1) E2 o1.z e3 hs0 h3
                  ⟨a0, _, [], rfl, upd_same, rfl, ownL0 (RepL.mono (upd_at ma) (fun x hx => .inl hx) _ _ (repL_app (RepL.mono (fun _ _ e _ => e) (fun x hx => .inl (mz_mono o1.z hx)) _ _ rl) (.cons rr .nil)))⟩
                exact ⟨a0, vs, y, rfl, rfl, h2, by rw [repL_len rl, sizeLine_eq]; exact hlen, k _ _ (fin_imm ((o1.mv.less s2).trans mv3) E3 (fun _ h => h) (own_imm rfl .non))⟩
              · cases e
            · cases e
          · cases e
      · cases e
theorem r_popL {i : Nat} {x : Str} {px apos cpos : Pos} (hN : X.N[i]? = some x) (hv : Vis X.env.scope x) (hd : (x == ("__debug__" : Str)) = false) (hcd : (x == ("__classdict__" : Str)) = false)
    (hbase : attributeBase (.Name x px) "pop" X.env (eval (.Name x px) X.env) = eval (.Name x px) X.env)
    (hline : (apos.endLine == cpos.line) = true) :
    PE X (.Call (.Attribute (.Name x px) "pop" apos) [] [] cpos) (tE X.prog X.w X.K (fPopL i)) :=
  (pe_bm0 PySem.F.plainAttrs_list PySem.F.slot_list_pop PySem.F.type_list_pop mt_pop (pe_var hN hv hd hcd) hbase hline).imp fun σ H Q h => by
    obtain ⟨Z, own, ρ, r, ρ', E, e, k⟩ := h
    simp only [fPopL] at e
    split at e
    · rename_i xs n e3
      split at e
      · rename_i n1
        subst n1
        split at e
        · rename_i d e4
          simp only [Option.some.injEq, Prod.mk.injEq] at e
          obtain ⟨rfl, rfl⟩ := e
          obtain ⟨a, vs, h1, h2, h3, rl⟩ := lst_slot E e3
          obtain ⟨v, h4, h5⟩ := repL_get rl e4
          have ma : Mz Z own a := .inr ⟨i, by rw [h3]; exact List.mem_singleton.mpr rfl⟩
          obtain ⟨E3, mv3⟩ := mutate (o' := .lst vs.dropLast) (d' := .lst xs.dropLast) (n' := 1) E (fun _ h => h) e3 h1 h3
            ⟨a, _, [], rfl, upd_same, rfl, ownL0 (RepL.mono (upd_at ma) (fun x hx => .inl hx) _ _ (repL_dropLast rl))⟩
          exact ⟨_, h1, .inl ⟨rfl, vs, SqL.of h2⟩, a, vs, v, rfl, rfl, h2, by rw [repL_len rl]; exact h4, k _ _ (fin_imm mv3 E3 (fun _ h => h) (itm_own (Rep.mono (upd_at ma) (fun x hx => .inl hx) _ _ h5)))⟩
        · cases e
      · cases e
    · cases e

/-! ### the call of a dict's method -/
theorem pe_bmD {o e : Expr} {es : List Expr} {to : TE} {t : TA} {name : Str} {apos cpos : Pos} {id : String} {r : V → List V → Hp → VK → Prop} (slot : Slot "dict" name id) (hty : typeOf (.builtin id) = pure (.type "method_descriptor")) (hm : MtR X id r) (ho : PE X o to) (ha : PA X (e :: es) t)
    (hbase : attributeBase o name X.env (eval o X.env) = eval o X.env)
    (hfew : ((backTo cpos (starEach (e :: es) X.env)).all (fun x => !x.1) && (backToKw cpos (keywordEach [] X.env)).all (fun x => x.1.isSome)
      && decide ((e :: es).length + ([] : List Keyword).length + (if ([] : List Keyword).isEmpty then 0 else 1) < 30)) = true)
    (hline : (apos.endLine == cpos.line) = true) (hs : starEach (e :: es) X.env = (false, eval e X.env) :: starEach es X.env) (hplain : (backTo cpos (starEach es X.env)).any (·.1) = false) :
    PE X (.Call (.Attribute o name apos) (e :: es) [] cpos) (fun σ H Q => to σ H fun x H1 => (∃ a kvs, x = .ref a ∧ Rd H1 a (dicO X.prog X.w a kvs)) ∧ t σ H1 fun xs H2 => r x xs H2 Q) := by
  refine ⟨fun pins s σ H Q I h => ?_⟩
  refine wpAny_Call_method_late hbase hfew hline rfl (thn (ho.run pins s σ H _ I h) fun v s1 ⟨x, H1, I1, r1, ⟨a, kvs, ex, hd⟩, q1⟩ => ?_)
  subst ex
  obtain rfl : v = Value.ref a := r1
  obtain ⟨h1, ob, h2, h3⟩ := dic_typeIs I1 hd
  refine ⟨"dict", id, PySem.F.plainAttrs_dict, slot, hty, h1, fun b eb => (by cases eb; exact ⟨ob, h2, h3⟩), ?_⟩
  have hA := ha.run cpos pins s1 σ H1 _ I1 q1
  rw [hs] at hA ⊢
  refine Calls.callWith_builtin (by show (false || (backTo cpos (starEach es X.env)).any (·.1)) = false; rw [hplain] <;> rfl) (Calls.evalArgs_plain ?_)
  exact thn hA fun us s2 ⟨vs, H2, I2, r2, q2⟩ => hm pins s2 σ H2 (.ref a) vs (.ref a) us Q I2 rfl r2 q2
theorem keyV_of {M : Addr → Prop} {a : Addr} {kvs : List (NestedKey × Addr × V)} {ds : List (D × D)} {b : Addr} {ks : List D} {k : NestedKey} (h1 : Rd H a (dicO P w a kvs)) (h2 : RepK P w K H M kvs ds) (h3 : See P w K H (.ref b) (.tup ks)) (h4 : (D.tup ks).key = some k) (h5 : k.depth ≤ 8) : KeyV P w K H a kvs b k :=
  ⟨h1, ⟨ds, RepK.mono (fun _ _ h _ => h) (fun _ z => z.elim) _ _ h2⟩, _, h3, h4, h5⟩
theorem r_popD (hu : X.A.units + 100 < cLine) {i : Nat} {x : Str} {e : Expr} {px apos cpos : Pos} (hN : X.N[i]? = some x) (hv : Vis X.env.scope x) (hd : (x == ("__debug__" : Str)) = false) (hcd : (x == ("__classdict__" : Str)) = false) (ha : PE X e (tE X.prog X.w X.K fa))
    (hbase : attributeBase (.Name x px) "pop" X.env (eval (.Name x px) X.env) = eval (.Name x px) X.env)
    (hline : (apos.endLine == cpos.line) = true) (hs : starEach [e] X.env = [(false, eval e X.env)]) :
    PE X (.Call (.Attribute (.Name x px) "pop" apos) [e] [] cpos) (tE X.prog X.w X.K (fPopD i fa)) :=
  (pe_bmD PySem.F.slot_dict_pop PySem.F.type_dict_pop (mt_popDic hu) (pe_var hN hv hd hcd) (pa_cons ha pa_nil hs) hbase (by rw [hs]; rfl) hline hs rfl).imp fun σ H Q h => by
    obtain ⟨Z, own, ρ, r, ρ', E, e, k⟩ := h
    simp only [fPopD] at e
    split at e
    · cases e
    · rename_i hL
      obtain ⟨a0, kv0, hs0, hH0⟩ := isDi_at E (by simpa using hL)
      refine ⟨_, hs0, ⟨a0, kv0, rfl, .inl hH0⟩, ?_⟩
      split at e
      · rename_i rv ρ1 e1
        split at e
        · cases e
        · rename_i ne
          split at e
          · rename_i ks e2
            split at e
            · rename_i kk ds n ek e3
              split at e
              · rename_i hl
                obtain ⟨rfl, hdp⟩ := hl
                split at e
                · rename_i d e4
                  simp only [Option.some.injEq, Prod.mk.injEq] at e
                  obtain ⟨rfl, rfl⟩ := e
                  refine run1a E e1 (by simpa using ne) fun y H1 Z1 own1 o1 v1 => ?_
                  have sk := v1.see o1.E e2
                  obtain ⟨b, rfl⟩ := key_of_tup sk
                  obtain ⟨a, kvs, h1, h2, h3, rk⟩ := dic_slot o1.E e3
                  rw [hs0] at h1
                  simp only [Option.some.injEq, V.ref.injEq] at h1
                  subst h1
                  have rk' : RepK X.prog X.w X.K H1 (Mz Z own1) kvs ds := RepK.mono (fun _ _ e _ => e) (fun x hx => .inl (mz_mono o1.z hx)) _ _ rk
                  rcases look_rep rk' kk with ⟨_, q⟩ | ⟨v, d2, g1, g2, g3⟩
                  · rw [e4] at q; cases q
                  · rw [e4] at g2
                    cases g2
                    have ma : Mz Z own1 a0 := .inr ⟨i, by rw [h3]; exact List.mem_singleton.mpr rfl⟩
                    obtain ⟨E3, mv3⟩ := mutate (o' := dicO X.prog X.w a0 (dropV kk kvs)) (d' := .dic (dropD kk ds)) (n' := 1) o1.E o1.z e3 hs0 h3
                      ⟨a0, _, [], rfl, upd_same, rfl, ownK0 (RepK.mono (upd_at ma) (fun x hx => .inl hx) _ _ (drop_rep rk'))⟩
                    exact ⟨a0, kvs, b, kk, v, rfl, rfl, h2, keyV_of (.inl h2) rk sk ek hdp, g1, k _ _ (fin_imm (o1.mv.trans mv3) E3 (fun _ h => h) (itm_own (Rep.mono (upd_at ma) (fun x hx => .inl hx) _ _ g3)))⟩
                · cases e
              · cases e
            · cases e
          · cases e
      · cases e

/-! ### x[i] = v -/
def rSetX (P : Program) (w : World) (K : PySem.W.Frag) : V → V → V → Hp → (Hp → Prop) → Prop := fun o i v H Q => rSetL o i v H Q ∨ rSetDic P w K o i v H Q
theorem set_X (hu : X.A.units + 100 < cLine) : PSet X (rSetX X.prog X.w X.K) := by
  intro pins s σ H o i v ov iv u Q I ro ri rv h
  rcases h with h | h
  · exact set_list pins s σ H o i v ov iv u Q I ro ri rv h
  · exact set_dic hu pins s σ H o i v ov iv u Q I ro ri rv h
theorem s_store (hu : X.A.units + 100 < cLine) {i : Nat} {x : Str} {ei e : Expr} {px p pos : Pos} {asg : List Nat} (hN : X.N[i]? = some x) (hv : Vis X.env.scope x) (hd : (x == ("__debug__" : Str)) = false) (hcd : (x == ("__classdict__" : Str)) = false)
    (hi : PE X ei (tE X.prog X.w X.K fi)) (he : PE X e (tE X.prog X.w X.K fe))
    (hg : ∀ v, assign (.Subscript (.Name x px) ei p) X.env v = (do
      let ov ← holding [v] (eval (.Name x px) X.env)
      let iv ← holding [v, ov] (eval ei X.env)
      standAt p
      holding [v, ov, iv] (setItem ov iv v)
      release [v, ov, iv] []))
    (hs : swapsWithSole [.Subscript (.Name x px) ei p] e pos.line X.env = pure false) (hw : swappedStores [.Subscript (.Name x px) ei p] e X.env = pure none)
    (h1 : (assignEach [.Subscript (.Name x px) ei p] X.env).map (·.2) = [assign (.Subscript (.Name x px) ei p) X.env]) :
    PS X (.Assign [.Subscript (.Name x px) ei p] e pos) (tS X.prog X.w X.K asg (storeF i fi fe)) :=
  (ps_asg he (pg_sub (pe_var hN hv hd hcd) hi (set_X hu) hg) hs hw h1).imp fun Dn σ H h => by
    obtain ⟨Z, own, ρ, fuel, out, E, e, k⟩ := h
    simp only [storeF] at e
    split at e
    · rename_i rv ρ1 e1
      split at e
      · cases e
      · rename_i nv
        split at e
        · cases e
        · rename_i hLD
          split at e
          · rename_i ri ρ2 e2
            split at e
            · cases e
            · rename_i ni
              split at e
              · rename_i ix e3
                split at e
                · rename_i dv ρ3 e4
                  split at e
                  · rename_i y n e5
                    split at e
                    · rename_i z e6
                      simp only [Option.some.injEq] at e
                      subst e
                      -- the value, then the container's name, then the index
                      refine ⟨Z, own, ρ, rv, ρ1, E, e1, fun vv H1 p1 => ?_⟩
                      obtain ⟨own1, A1, o1, ro1, mv1, hA1, hB1⟩ := (Opd.refl E).next p1
                      have vv1 : ValOk X.prog X.w X.K Z (Zp Z A1) own1 σ H1 rv vv := ro1.val (by simpa using nv) (fun _ h => h) hA1
                      have hsl : ∃ a0, σ[i]? = some (some (V.ref a0)) := by
                        rcases (by cases q : isL ρ1[i]? <;> simp [q] at hLD ⊢ <;> exact hLD : isL ρ1[i]? = true ∨ isDi ρ1[i]? = true) with h | h
                        · obtain ⟨a, _, h1, _⟩ := isL_at o1.E h; exact ⟨a, h1⟩
                        · obtain ⟨a, _, h1, _⟩ := isDi_at o1.E h; exact ⟨a, h1⟩
                      obtain ⟨a0, hvx⟩ := hsl
                      refine ⟨_, hvx, ?_⟩
                      refine ⟨_, own1, ρ1, ri, ρ2, o1.E, e2, fun vi H2 p2 => ?_⟩
                      obtain ⟨own2, A2, o2, ro2, mv2, hA2, hB2⟩ := o1.next p2
                      have vi2 := ro2.val (Z0 := Z) (by simpa using ni) (fun x h => .inl h) hA2
                      have vv2 := vv1.keep o1.E mv2 hB2
                      have si := vi2.see o2.E e3
                      obtain ⟨own3, E3, s3, rr⟩ := esc_ok o2.E o2.z vv2 e4
                      unfold putItem at e6
                      split at e6
                      · split at e6
                        · split at e6
                          · rename_i n1
                            subst n1
                            split at e6
                            · rename_i pp e7
                              simp only [Option.some.injEq] at e6
                              subst e6
                              cases see_int si
                              obtain ⟨a, vs, h1, h2, h3, rl⟩ := lst_slot E3 e5
                              rw [hvx] at h1
                              simp only [Option.some.injEq, V.ref.injEq] at h1
                              subst h1
                              have ma : Mz Z own3 a0 := .inr ⟨i, by rw [h3]; exact List.mem_singleton.mpr rfl⟩
                              obtain ⟨E4, mv4⟩ := mutate (o' := .lst (vs.set pp vv)) (d' := .lst (List.set _ pp _)) (n' := 1) E3 o2.z e5 hvx h3
                                ⟨a0, _, [], rfl, upd_same, rfl, ownL0 (RepL.mono (upd_at ma) (fun x hx => .inl hx) _ _ (repL_set rr pp (RepL.mono (fun _ _ e _ => e) (fun x hx => .inl (mz_mono o2.z hx)) _ _ rl)))⟩
                              exact .inl ⟨a0, vs, _, pp, rfl, rfl, h2, by rw [repL_len rl]; exact e7, k _ _ own3 ((o2.mv.less s3).trans mv4) E4 Kp.refl⟩
                            · cases e6
                          · cases e6
                        · cases e6
                      · split at e6
                        · split at e6
                          · rename_i kk ek
                            split at e6
                            · rename_i hl
                              obtain ⟨rfl, hdp, hlen⟩ := hl
                              simp only [Option.some.injEq] at e6
                              subst e6
                              obtain ⟨b, rfl⟩ := key_of_tup si
                              obtain ⟨a, kvs, h1, h2, h3, rk⟩ := dic_slot E3 e5
                              rw [hvx] at h1
                              simp only [Option.some.injEq, V.ref.injEq] at h1
                              subst h1
                              have ma : Mz Z own3 a0 := .inr ⟨i, by rw [h3]; exact List.mem_singleton.mpr rfl⟩
                              have rk' := RepK.mono (H' := H2) (M' := Mz Z own3) (fun _ _ e _ => e) (fun x hx => .inl (mz_mono o2.z hx)) _ _ rk
                              have ki := Rep.mono (H' := H2) (M' := Mz Z own3) (fun _ _ e _ => e) (fun x hx => .inl (hx.imp id fun ⟨j, z⟩ => ⟨j, s3 j x z⟩)) _ _ (vi2.imm o2.E o2.z rfl e3)
                              obtain ⟨E4, mv4⟩ := mutate (o' := dicO X.prog X.w a0 (putV kk b vv kvs)) (d' := .dic (putD kk _ _ _)) (n' := 1) E3 o2.z e5 hvx h3
                                ⟨a0, _, [], rfl, upd_same, rfl, ownK0 (RepK.mono (upd_at ma) (fun x hx => .inl hx) _ _ (put_rep ki ek hdp rr rk'))⟩
                              exact .inr ⟨a0, kvs, b, kk, rfl, rfl, h2, keyV_of (.inl h2) rk si ek hdp, by rw [repK_len rk, sizeLine_eq]; exact hlen, k _ _ own3 ((o2.mv.less s3).trans mv4) E4 Kp.refl⟩
                            · cases e6
                          · cases e6
                        · cases e6
                      · cases e6
                    · cases e
                  · cases e
                · cases e
              · cases e
          · cases e
    · cases e
end
end Dt
set_option Elab.async false
set_option linter.all false
set_option maxRecDepth 100000
set_option autoImplicit false
set_option maxHeartbeats 4000000
/-! The data layer, part 13: zip of two, of three, enumerate, over lists and tuples. -/
namespace Dt
open PySem PySem.Spec L2
open PyProof.Rows hiding St

/-! ### a list or a tuple -/
def SqB (K : PySem.W.Frag) (k : Bool) (H : Hp) (a : Addr) (xs : List V) : Prop := if k = true then SqL K H a xs else SqT K H a xs
def IsB (k : Bool) (h : Heap) (a : Addr) (its : Array Value) : Prop := if k = true then h.IsList a its else h.IsTuple a its
def IterB (k : Bool) (h : Heap) (it a : Addr) (i : Nat) : Prop := if k = true then h.IsListIter it a i else h.IsTupleIter it a i
def objB (k : Bool) (a : Addr) : Obj := if k = true then { cls := .type "list_iterator", data := .fields #[.ref a, .int 0 0] } else { cls := .type "tuple_iterator", data := .fields #[.ref a, .int 0 0] }
section
variable {X : Cx} {pins : List (Addr × Obj)} {σ : St} {H : Hp} {s : Shared} {k : Bool} {a : Addr} {xs ys : List V}
theorem inv_sqB (I : Inv X pins σ H s) (h : SqB X.K k H a xs) : ∃ its : List Value, Vals xs its ∧ IsB k s.heap a its.toArray ∧ xs.length ≤ sizeLine := by
  cases k with
  | true => obtain ⟨its, r, p, z⟩ := I.list h; exact ⟨its, r, p.isList, z⟩
  | false => obtain ⟨its, r, p, z⟩ := I.tuple h; exact ⟨its, r, p, z⟩
theorem sqB_inj (I : Inv X pins σ H s) (h : SqB X.K k H a xs) (h' : SqB X.K k H a ys) : xs = ys := by
  cases k with
  | true => exact I.list_inj h h'
  | false => exact I.tuple_inj h h'
theorem drawsB {prog : Program} {w : World} {A : Around} (hh : A.handled = none) (k : Bool) (it a : Addr) (hne : a ≠ it) (items : Array Value) :
    Draws prog w A it [it, a] items.size (fun i v => items[i]? = some v) (fun i h => IterB k h it a i ∧ IsB k h a items) := by
  cases k with
  | true => exact Draws.list hh it a hne items
  | false => exact PySem.Draws.tuple hh it a hne items
theorem drawsB1 {prog : Program} {w : World} {A : Around} (hh : A.handled = none) (k : Bool) (it a : Addr) (hne : a ≠ it) (items : Array Value) :
    Draws prog w A.in1 it [it, a] items.size (fun i v => items[i]? = some v) (fun i h => IterB k h it a i ∧ IsB k h a items) := drawsB (A := A.in1) hh k it a hne items
theorem beginsB (k : Bool) (a : Addr) (items : Array Value) : Begins (.ref a) (objB k a) fun h => IsB k h a items := by
  cases k with
  | true => exact begins_list a items
  | false => exact begins_tuple a items
theorem iterB_new {k : Bool} {h : Heap} {it a : Addr} (e : h.get? it = some (objB k a)) : IterB k h it a 0 := by
  cases k with
  | true => exact ⟨_, e, rfl, rfl⟩
  | false => exact ⟨_, e, rfl, rfl⟩
theorem iterB_obj {k : Bool} {h : Heap} {it a : Addr} {i : Nat} (e : IterB k h it a i) : ∃ o, h.get? it = some o ∧ ∀ v, o.data ≠ .cell v := by
  cases k with
  | true => obtain ⟨o, e, c, d⟩ := e; exact ⟨o, e, fun v z => by rw [d] at z; cases z⟩
  | false => obtain ⟨o, e, c, d⟩ := e; exact ⟨o, e, fun v z => by rw [d] at z; cases z⟩
theorem iterB_at {k : Bool} {h h' : Heap} {it a : Addr} {i : Nat} (e : IterB k h it a i) (g : ∀ o, h.get? it = some o → h'.get? it = some o) : IterB k h' it a i := by
  cases k with
  | true => obtain ⟨o, e, r⟩ := e; exact ⟨o, g o e, r⟩
  | false => obtain ⟨o, e, r⟩ := e; exact ⟨o, g o e, r⟩
theorem isB_lt {k : Bool} {h : Heap} {a : Addr} {its : Array Value} (e : IsB k h a its) : a < h.objs.size := by
  cases k with
  | true => obtain ⟨o, e, _⟩ := e; exact Heap.lt_size e
  | false => obtain ⟨o, e, _⟩ := e; exact Heap.lt_size e
end

/-! ### an iterator that hands out new tuples -/
theorem turn_new {P : Program} {w : World} {K : PySem.W.Frag} {tg : Expr} {J : It} {fp : List Addr} {z : Addr} {tn : Nat → Heap → Prop} (mem : z ∈ fp)
    (obj : ∀ i h, tn i h → ∀ b ∈ fp, ∃ o, h.get? b = some o ∧ ∀ v, o.data ≠ .cell v) (keep : ∀ i h h', tn i h → (∀ b ∈ fp, ∀ o, h.get? b = some o → h'.get? b = some o) → tn i h')
    (self : ∀ (A : Around) (i : Nat) (s : Shared) (Q : Value → Shared → Prop) (E : Value → Shared → Prop), tn i s.heap → Q (.ref z) s → wpAny (model P w) A (pyIter (.ref z)) Q E s)
    (item : ∀ (X : Cx), X.prog = P → X.w = w → X.K = K → X.calm = true → ∀ (i : Nat) (pins : List (Addr × Obj)) (s : Shared) (σ : St) (H : Hp), Inv X pins σ H s → tn i s.heap → J.go i H →
      ∃ fp' wr n Y Sn, GoesN P w X.A tg z fp' wr n Y Sn ∧ i < n ∧ Sn i s.heap ∧ (∀ b ∈ wr, b ∈ fp) ∧ ∀ v h', Y i s.heap v h' → Sn (i + 1) h' →
        ∃ T vs us, v = .ref T ∧ s.heap.objs.size ≤ T ∧ h'.IsTuple T us ∧ Vals vs us.toList ∧ vs.length ≤ sizeLine ∧ (H T = none → J.yld i H (.ref T) (upd H T (.tup vs))) ∧ tn (i + 1) h')
    (done : ∀ (X : Cx), X.prog = P → X.w = w → X.K = K → X.calm = true → ∀ (i : Nat) (pins : List (Addr × Obj)) (s : Shared) (σ : St) (H : Hp), Inv X pins σ H s → tn i s.heap → J.stop i H →
      ∃ fp' wr Y Sn, GoesN P w X.A tg z fp' wr i Y Sn ∧ Sn i s.heap ∧ ∀ b ∈ wr, b ∈ fp) :
    Turn P w K tg J fp z tn where
  mem := mem
  obj := obj
  keep := keep
  self := self
  item := by
    intro X hP hw hK hc i pins s σ H E I hf st hg
    obtain ⟨fp', wr, n, Y, Sn, W, hi, hs, sub, hY⟩ := item X hP hw hK hc i pins s σ H I st hg
    subst hP hw hK
    refine W.goes i s (fun u s2 => ∃ x H', Inv X pins σ H' s2 ∧ RelV x u ∧ J.yld i H x H' ∧ tn (i + 1) s2.heap ∧ ∀ b ∈ fp, H' b = none) E hi hs fun v h' tk y sn kk _ => ?_
    obtain ⟨T, vs, us, rfl, hT, ht, hv, hl, hy, st'⟩ := hY v h' y sn
    have hn : H T = none := I.hok.fresh hT
    have new : ObjOk X.prog X.w (upd H T (.tup vs)) h' T (.tup vs) := ⟨hl, us.toList, hv, by rw [Array.toArray_toList]; exact ht⟩
    have I1 : Inv X pins σ (upd H T (.tup vs)) { s with heap := h', toks := tk } := I.turnedNew (ch := fp) (fun b o hb e => kk b o (fun q => hb (sub b q)) e) hf hT new
    refine ⟨.ref T, _, I1, rfl, hy hn, st', fun b hb => ?_⟩
    obtain ⟨o, e, _⟩ := obj i s.heap st b hb
    rw [upd_ne (fun q => absurd (Heap.lt_size e) (by rw [q]; exact Nat.not_lt.mpr hT))]
    exact (hf b hb).1
  done := by
    intro X hP hw hK hc i pins s σ H E I hf st hg
    obtain ⟨fp', wr, Y, Sn, W, hs, sub⟩ := done X hP hw hK hc i pins s σ H I st hg
    subst hP hw hK
    exact W.stops s (fun s1 => Inv X pins σ H s1) E hs fun h' tk kk _ => I.turnedL (ch := fp) (fun b o hb e => kk b o (fun q => hb (sub b q)) e) hf

/-! ### zip of two -/
def ItZ2 (K : PySem.W.Frag) (k1 k2 : Bool) (a b : Addr) : It :=
  ⟨fun i H => ∃ (xs ys : List V) (x y : V), SqB K k1 H a xs ∧ SqB K k2 H b ys ∧ xs[i]? = some x ∧ ys[i]? = some y,
    fun i H v H' => ∃ T x y, v = .ref T ∧ H T = none ∧ H' = upd H T (.tup [x, y]) ∧ (∀ xs, SqB K k1 H a xs → xs[i]? = some x) ∧ ∀ ys, SqB K k2 H b ys → ys[i]? = some y,
    fun i H => ∃ xs ys : List V, SqB K k1 H a xs ∧ SqB K k2 H b ys ∧ i = min xs.length ys.length⟩
theorem vals_get {xs : List V} {its : List Value} (h : Vals xs its) {i : Nat} {u : Value} (e : its[i]? = some u) : ∃ x, xs[i]? = some x ∧ RelV x u := by
  have hl := h.length
  have hi : i < xs.length := by rw [hl]; exact (List.getElem?_eq_some_iff.mp e).1
  obtain ⟨u', e', r⟩ := h.get (x := xs[i]) (List.getElem?_eq_getElem hi)
  rw [e] at e'; cases e'
  exact ⟨_, List.getElem?_eq_getElem hi, r⟩
theorem turn_z2 {P : Program} {w : World} {K : PySem.W.Frag} {elts : List Expr} {kk : Nat} {tpos : Pos} {k1 k2 : Bool} {a b z TI TO i1 i2 : Addr} (S : ZipSep2 z TI TO i1 i2 [i1, a] [i2, b]) (ha : a ≠ i1) (hb : b ≠ i2) :
    Turn P w K (.Tuple elts kk tpos) (ItZ2 K k1 k2 a b) [z, TI, TO, i1, i2] z
      (fun i h => IsZip h z TI TO .none ∧ IsTupOf2 h TI (.ref i1) (.ref i2) ∧ (∃ a1 a2, IsTupOf2 h TO a1 a2) ∧ IterB k1 h i1 a i ∧ IterB k2 h i2 b i) := by
  refine turn_new (by simp) (fun i h st c hc => ?_) (fun i h h' st g => ?_) (fun A i s Q E st h => wpAny_pyIter_zip st.1 h) (fun X hP hw hK hc i pins s σ H I st hg => ?_) (fun X hP hw hK hc i pins s σ H I st hg => ?_)
  · obtain ⟨h1, h2, ⟨a1, a2, h3⟩, h4, h5⟩ := st
    have hc' : c = z ∨ c = TI ∨ c = TO ∨ c = i1 ∨ c = i2 := by simpa using hc
    rcases hc' with e | e | e | e | e <;> rw [e]
    · exact ⟨_, h1, fun v q => nomatch q⟩
    · exact ⟨_, h2, fun v q => nomatch q⟩
    · exact ⟨_, h3, fun v q => nomatch q⟩
    · exact iterB_obj h4
    · exact iterB_obj h5
  · obtain ⟨h1, h2, ⟨a1, a2, h3⟩, h4, h5⟩ := st
    exact ⟨g z (by simp) _ h1, g TI (by simp) _ h2, ⟨a1, a2, g TO (by simp) _ h3⟩, iterB_at h4 fun o e => g i1 (by simp) o e, iterB_at h5 fun o e => g i2 (by simp) o e⟩
  · subst hK
    obtain ⟨h1, h2, h3, h4, h5⟩ := st
    obtain ⟨xs, ys, x, y, qx, qy, hx, hy⟩ := hg
    obtain ⟨us, rx, px, _⟩ := inv_sqB I qx
    obtain ⟨vs, ry, py, _⟩ := inv_sqB I qy
    have lx := rx.length
    have ly := ry.length
    have bx := (List.getElem?_eq_some_iff.mp hx).1
    have bY := (List.getElem?_eq_some_iff.mp hy).1
    have W := GoesN.zip2 (prog := P) (w := w) (x1 := kk) (elts := elts) (pos := tpos) S (drawsB1 (I.ok.hd hc) k1 i1 a ha us.toArray) (drawsB1 (I.ok.hd hc) k2 i2 b hb vs.toArray)
    refine ⟨_, _, _, _, _, W, by simp only [List.size_toArray]; omega, ⟨h1, h2, h3, ⟨h4, px⟩, ⟨h5, py⟩⟩, fun c hc => by simp only [List.mem_cons, List.not_mem_nil, or_false] at hc ⊢; rcases hc with h | h | h | h <;> simp [h], fun v h' Y sn => ?_⟩
    obtain ⟨T, u1, u2, rfl, hT, e1, e2, ht⟩ := Y
    obtain ⟨g1, g2, g3, ⟨g4, _⟩, ⟨g5, _⟩⟩ := sn
    obtain ⟨x1, f1, r1⟩ := vals_get rx (u := u1) (by simpa using e1)
    obtain ⟨y1, f2, r2⟩ := vals_get ry (u := u2) (by simpa using e2)
    exact ⟨T, [x1, y1], _, rfl, hT, ht, .cons r1 (.cons r2 .nil), by show 2 ≤ sizeLine; decide, fun hn => ⟨T, x1, y1, rfl, hn, rfl, fun xs' q => by rw [sqB_inj I q qx]; exact f1, fun ys' q => by rw [sqB_inj I q qy]; exact f2⟩, g1, g2, g3, g4, g5⟩
  · subst hK
    obtain ⟨h1, h2, h3, h4, h5⟩ := st
    obtain ⟨xs, ys, qx, qy, hi⟩ := hg
    obtain ⟨us, rx, px, _⟩ := inv_sqB I qx
    obtain ⟨vs, ry, py, _⟩ := inv_sqB I qy
    have lx := rx.length
    have ly := ry.length
    have W := GoesN.zip2 (prog := P) (w := w) (x1 := kk) (elts := elts) (pos := tpos) S (drawsB1 (I.ok.hd hc) k1 i1 a ha us.toArray) (drawsB1 (I.ok.hd hc) k2 i2 b hb vs.toArray)
    have e : min us.toArray.size vs.toArray.size = i := by simp [← lx, ← ly, hi]
    rw [e] at W
    exact ⟨_, _, _, _, W, ⟨h1, h2, h3, ⟨h4, px⟩, ⟨h5, py⟩⟩, fun c hc => by simp only [List.mem_cons, List.not_mem_nil, or_false] at hc ⊢; rcases hc with h | h | h | h <;> simp [h]⟩
/-! ### zip of three -/
def ItZ3 (K : PySem.W.Frag) (k1 k2 k3 : Bool) (a b c : Addr) : It :=
  ⟨fun i H => ∃ (xs ys zs : List V) (x y z : V), SqB K k1 H a xs ∧ SqB K k2 H b ys ∧ SqB K k3 H c zs ∧ xs[i]? = some x ∧ ys[i]? = some y ∧ zs[i]? = some z,
    fun i H v H' => ∃ T x y z, v = .ref T ∧ H T = none ∧ H' = upd H T (.tup [x, y, z]) ∧ (∀ xs, SqB K k1 H a xs → xs[i]? = some x) ∧ (∀ ys, SqB K k2 H b ys → ys[i]? = some y) ∧ ∀ zs, SqB K k3 H c zs → zs[i]? = some z,
    fun i H => ∃ xs ys zs : List V, SqB K k1 H a xs ∧ SqB K k2 H b ys ∧ SqB K k3 H c zs ∧ i = min (min xs.length ys.length) zs.length⟩
theorem turn_z3 {P : Program} {w : World} {K : PySem.W.Frag} {elts : List Expr} {kk : Nat} {tpos : Pos} {k1 k2 k3 : Bool} {a b c z TI TO i1 i2 i3 : Addr} (S : ZipSep3 z TI TO i1 i2 i3 [i1, a] [i2, b] [i3, c]) (ha : a ≠ i1) (hb : b ≠ i2) (hcc : c ≠ i3) :
    Turn P w K (.Tuple elts kk tpos) (ItZ3 K k1 k2 k3 a b c) [z, TI, TO, i1, i2, i3] z
      (fun i h => IsZip h z TI TO .none ∧ IsTupOf3 h TI (.ref i1) (.ref i2) (.ref i3) ∧ (∃ a1 a2 a3, IsTupOf3 h TO a1 a2 a3) ∧ IterB k1 h i1 a i ∧ IterB k2 h i2 b i ∧ IterB k3 h i3 c i) := by
  refine turn_new (by simp) (fun i h st q hc => ?_) (fun i h h' st g => ?_) (fun A i s Q E st h => wpAny_pyIter_zip st.1 h) (fun X hP hw hK hc i pins s σ H I st hg => ?_) (fun X hP hw hK hc i pins s σ H I st hg => ?_)
  · obtain ⟨h1, h2, ⟨a1, a2, a3, h3⟩, h4, h5, h6⟩ := st
    have hc' : q = z ∨ q = TI ∨ q = TO ∨ q = i1 ∨ q = i2 ∨ q = i3 := by simpa using hc
    rcases hc' with e | e | e | e | e | e <;> rw [e]
    · exact ⟨_, h1, fun v q => nomatch q⟩
    · exact ⟨_, h2, fun v q => nomatch q⟩
    · exact ⟨_, h3, fun v q => nomatch q⟩
    · exact iterB_obj h4
    · exact iterB_obj h5
    · exact iterB_obj h6
  · obtain ⟨h1, h2, ⟨a1, a2, a3, h3⟩, h4, h5, h6⟩ := st
    exact ⟨g z (by simp) _ h1, g TI (by simp) _ h2, ⟨a1, a2, a3, g TO (by simp) _ h3⟩, iterB_at h4 fun o e => g i1 (by simp) o e, iterB_at h5 fun o e => g i2 (by simp) o e, iterB_at h6 fun o e => g i3 (by simp) o e⟩
  · subst hK
    obtain ⟨h1, h2, h3, h4, h5, h6⟩ := st
    obtain ⟨xs, ys, zs, x, y, zz, qx, qy, qz, hx, hy, hz⟩ := hg
    obtain ⟨us, rx, px, _⟩ := inv_sqB I qx
    obtain ⟨vs, ry, py, _⟩ := inv_sqB I qy
    obtain ⟨ws, rz, pz, _⟩ := inv_sqB I qz
    have lx := rx.length
    have ly := ry.length
    have lz := rz.length
    have bx := (List.getElem?_eq_some_iff.mp hx).1
    have bY := (List.getElem?_eq_some_iff.mp hy).1
    have bz := (List.getElem?_eq_some_iff.mp hz).1
    have W := GoesN.zip3 (prog := P) (w := w) (x1 := kk) (elts := elts) (pos := tpos) S (drawsB1 (I.ok.hd hc) k1 i1 a ha us.toArray) (drawsB1 (I.ok.hd hc) k2 i2 b hb vs.toArray) (drawsB1 (I.ok.hd hc) k3 i3 c hcc ws.toArray)
    refine ⟨_, _, _, _, _, W, by simp only [List.size_toArray]; omega, ⟨h1, h2, h3, ⟨h4, px⟩, ⟨h5, py⟩, ⟨h6, pz⟩⟩, fun c hc => by simp only [List.mem_cons, List.not_mem_nil, or_false] at hc ⊢; rcases hc with h | h | h | h | h <;> simp [h], fun v h' Y sn => ?_⟩
    obtain ⟨T, u1, u2, u3, rfl, hT, e1, e2, e3, ht⟩ := Y
    obtain ⟨g1, g2, g3, ⟨g4, _⟩, ⟨g5, _⟩, ⟨g6, _⟩⟩ := sn
    obtain ⟨x1, f1, r1⟩ := vals_get rx (u := u1) (by simpa using e1)
    obtain ⟨y1, f2, r2⟩ := vals_get ry (u := u2) (by simpa using e2)
    obtain ⟨z1, f3, r3⟩ := vals_get rz (u := u3) (by simpa using e3)
    exact ⟨T, [x1, y1, z1], _, rfl, hT, ht, .cons r1 (.cons r2 (.cons r3 .nil)), by show 3 ≤ sizeLine; decide, fun hn => ⟨T, x1, y1, z1, rfl, hn, rfl, fun xs' q => by rw [sqB_inj I q qx]; exact f1, fun ys' q => by rw [sqB_inj I q qy]; exact f2, fun zs' q => by rw [sqB_inj I q qz]; exact f3⟩, g1, g2, g3, g4, g5, g6⟩
  · subst hK
    obtain ⟨h1, h2, h3, h4, h5, h6⟩ := st
    obtain ⟨xs, ys, zs, qx, qy, qz, hi⟩ := hg
    obtain ⟨us, rx, px, _⟩ := inv_sqB I qx
    obtain ⟨vs, ry, py, _⟩ := inv_sqB I qy
    obtain ⟨ws, rz, pz, _⟩ := inv_sqB I qz
    have lx := rx.length
    have ly := ry.length
    have lz := rz.length
    have W := GoesN.zip3 (prog := P) (w := w) (x1 := kk) (elts := elts) (pos := tpos) S (drawsB1 (I.ok.hd hc) k1 i1 a ha us.toArray) (drawsB1 (I.ok.hd hc) k2 i2 b hb vs.toArray) (drawsB1 (I.ok.hd hc) k3 i3 c hcc ws.toArray)
    have e : min (min us.toArray.size vs.toArray.size) ws.toArray.size = i := by simp [← lx, ← ly, ← lz, hi]
    rw [e] at W
    exact ⟨_, _, _, _, W, ⟨h1, h2, h3, ⟨h4, px⟩, ⟨h5, py⟩, ⟨h6, pz⟩⟩, fun c hc => by simp only [List.mem_cons, List.not_mem_nil, or_false] at hc ⊢; rcases hc with h | h | h | h | h <;> simp [h]⟩
/-! ### enumerate -/
def ItEn (K : PySem.W.Frag) (k : Bool) (a : Addr) : It :=
  ⟨fun i H => ∃ (xs : List V) (x : V), SqB K k H a xs ∧ xs[i]? = some x,
    fun i H v H' => ∃ T x, v = .ref T ∧ H T = none ∧ H' = upd H T (.tup [.int (i : Nat), x]) ∧ ∀ xs, SqB K k H a xs → xs[i]? = some x,
    fun i H => ∃ xs : List V, SqB K k H a xs ∧ i = xs.length⟩
theorem turn_en {P : Program} {w : World} {K : PySem.W.Frag} {elts : List Expr} {kk : Nat} {tpos : Pos} {k : Bool} {a e it : Addr} (hei : e ≠ it) (hea : e ≠ a) (ha : a ≠ it) :
    Turn P w K (.Tuple elts kk tpos) (ItEn K k a) [e, it] e (fun i h => (∃ old, IsEnum h e it ((i : Nat) : Int) old) ∧ IterB k h it a i) := by
  refine turn_new (by simp) (fun i h st q hc => ?_) (fun i h h' st g => ?_) (fun A i s Q E st h => let ⟨⟨_, he⟩, _⟩ := st; wpAny_pyIter_enum he h) (fun X hP hw hK hc i pins s σ H I st hg => ?_) (fun X hP hw hK hc i pins s σ H I st hg => ?_)
  · obtain ⟨⟨old, h1⟩, h2⟩ := st
    have hc' : q = e ∨ q = it := by simpa using hc
    rcases hc' with z | z <;> rw [z]
    · exact ⟨_, h1, fun v q => nomatch q⟩
    · exact iterB_obj h2
  · obtain ⟨⟨old, h1⟩, h2⟩ := st
    exact ⟨⟨old, g e (by simp) _ h1⟩, iterB_at h2 fun o q => g it (by simp) o q⟩
  · subst hK
    obtain ⟨⟨old, h1⟩, h2⟩ := st
    obtain ⟨xs, x, qx, hx⟩ := hg
    obtain ⟨us, rx, px, _⟩ := inv_sqB I qx
    have lx := rx.length
    have bx := (List.getElem?_eq_some_iff.mp hx).1
    have hef : e ∉ [it, a] := by simp [hei, hea]
    have e0 : (0 : Int) + ((i : Nat) : Int) = ((i : Nat) : Int) := by omega
    have W := GoesN.enumFrom (prog := P) (w := w) (x1 := kk) (elts := elts) (pos := tpos) 0 (drawsB1 (I.ok.hd hc) k it a ha us.toArray) e hei hef (by simp)
    refine ⟨_, _, _, _, _, W, by simp only [List.size_toArray]; omega, ⟨⟨old, by rw [e0]; exact h1⟩, h2, px⟩, fun c hc => by simpa using hc, fun v h' Y sn => ?_⟩
    obtain ⟨T, t, u1, rfl, hT, e1, ht⟩ := Y
    obtain ⟨⟨old', g1⟩, g2, _⟩ := sn
    obtain ⟨x1, f1, r1⟩ := vals_get rx (u := u1) (by simpa using e1)
    rw [e0] at ht
    refine ⟨T, [.int (i : Nat), x1], _, rfl, hT, ht, .cons ⟨t, rfl⟩ (.cons r1 .nil), by show 2 ≤ sizeLine; decide, fun hn => ⟨T, x1, rfl, hn, rfl, fun xs' q => by rw [sqB_inj I q qx]; exact f1⟩, ⟨old', ?_⟩, g2⟩
    have e2 : (0 : Int) + ((i + 1 : Nat) : Int) = ((i + 1 : Nat) : Int) := by omega
    rw [e2] at g1
    exact g1
  · subst hK
    obtain ⟨⟨old, h1⟩, h2⟩ := st
    obtain ⟨xs, qx, hi⟩ := hg
    obtain ⟨us, rx, px, _⟩ := inv_sqB I qx
    have lx := rx.length
    have hef : e ∉ [it, a] := by simp [hei, hea]
    have W := GoesN.enumFrom (prog := P) (w := w) (x1 := kk) (elts := elts) (pos := tpos) 0 (drawsB1 (I.ok.hd hc) k it a ha us.toArray) e hei hef (by simp)
    have e1 : us.toArray.size = i := by simp [← lx, hi]
    rw [e1] at W
    have e0 : (0 : Int) + ((i : Nat) : Int) = ((i : Nat) : Int) := by omega
    exact ⟨_, _, _, _, W, ⟨⟨old, by rw [e0]; exact h1⟩, h2, px⟩, fun c hc => by simpa using hc⟩

/-! ### the calls -/
theorem meets_enum_new1 {v : Value} {o : Obj} {H : Heap → Prop} (B : Begins v o H) :
    Meets (Builtin.«enumerate.__new__» ⟨[.type "enumerate", v], []⟩) (fun _ R s => H s.heap ∧
      R (.ok (.ret (.ref (s.heap.push o).objs.size))) { s with heap := (s.heap.push o).push { cls := .type "enumerate", data := .fields #[.none, .bool false, .ref s.heap.objs.size, rawInt 0, .none, .none] } }) :=
  .of_wp fun prog w A R s h => by
    obtain ⟨hp, g, d, tk, os⟩ := s; obtain ⟨h1, h⟩ := h
    have hsub := sub_enumerate
    have q1 : ∀ {A' : Around} {E : Value → Shared → Prop} {Q : Value → Shared → Prop}, Q (.ref hp.objs.size) ⟨hp.push o, g, d, tk, os⟩ → wpAny (model prog w) A' (pyIter v) Q E ⟨hp, g, d, tk, os⟩ :=
      fun q => B.iter prog w _ _ ⟨hp, g, d, tk, os⟩ _ h1 q
    wp_walk using q1
    refine wpAny_stack_any fun st => wpAny_pure ?_
    split
    · rename_i c _ _ _ _ _
      cases (c == Value.type "enumerate")
      · wp_walk using q1
        exact ⟨_, rfl, h⟩
      · wp_walk using q1
        exact ⟨_, rfl, h⟩
    · wp_walk using q1
      exact ⟨_, rfl, h⟩
end Dt
set_option Elab.async false
set_option linter.all false
set_option maxRecDepth 100000
set_option autoImplicit false
set_option maxHeartbeats 4000000
/-! The data layer, part 14: what is walked, targets, for loops. -/
namespace Dt
open PySem PySem.Spec L2
open PyProof.Rows hiding St

/-- what is walked: frozen items, or the list of a slot -/
inductive Ct where
  | fz (ds : List D) | sl (i : Nat)
inductive Its where
  | one (c : Ct) | rng (lo : Int) (n : Nat) | en (c : Ct) | z2 (a b : Ct) | z3 (a b c : Ct)
def Ct.get : Ct → DEnv → Option (List D)
  | .fz ds, _ => some ds
  | .sl i, ρ => match ρ[i]? with
    | some (some (.lst ds, n)) => if n = 1 then some ds else none
    | _ => none
def enD : Nat → List D → List D
  | _, [] => []
  | k, d :: ds => .tup [.int k, d] :: enD (k + 1) ds
def zip2D (xs ys : List D) : List D := List.zipWith (fun x y => .tup [x, y]) xs ys
def zip3D : List D → List D → List D → List D
  | x :: xs, y :: ys, z :: zs => .tup [x, y, z] :: zip3D xs ys zs
  | _, _, _ => []
def Its.get : Its → DEnv → Option (List D)
  | .one c, ρ => c.get ρ
  | .rng lo n, _ => some ((List.range n).map fun k : Nat => D.int (lo + (k : Int)))
  | .en c, ρ => (c.get ρ).map (enD 0)
  | .z2 a b, ρ => match a.get ρ, b.get ρ with
    | some xs, some ys => some (zip2D xs ys)
    | _, _ => none
  | .z3 a b c, ρ => match a.get ρ, b.get ρ, c.get ρ with
    | some xs, some ys, some zs => some (zip3D xs ys zs)
    | _, _, _ => none
def Ct.sls : Ct → List Nat
  | .fz _ => []
  | .sl i => [i]
def Its.sls : Its → List Nat
  | .one c => c.sls
  | .rng _ _ => []
  | .en c => c.sls
  | .z2 a b => a.sls ++ b.sls
  | .z3 a b c => a.sls ++ (b.sls ++ c.sls)
/-- a result as a thing to walk; fr: a slot's list is given up -/
def ctF (fr : Bool) : Res → DEnv → Option (Ct × DEnv)
  | .own (.lst ds) _, ρ => some (.fz ds, ρ)
  | .own (.tup ds) _, ρ => some (.fz ds, ρ)
  | .slot i, ρ => match ρ[i]? with
    | some (some (.lst ds, n)) => if fr = true then some (.fz ds, ρ.set i (some (.lst ds, 0))) else if n = 1 then some (.sl i, ρ) else none
    | _ => none
  | _, _ => none
def ctsF (fr : Bool) : List Res → DEnv → Option (List Ct × DEnv)
  | [], ρ => some ([], ρ)
  | r :: rs, ρ => match ctF fr r ρ with
    | some (c, ρ1) => match ctsF fr rs ρ1 with
      | some (cs, ρ2) => some (c :: cs, ρ2)
      | none => none
    | none => none

abbrev IF := DEnv → Option (Its × DEnv)
abbrev GF := D → DEnv → Option DEnv
abbrev GsF := List D → DEnv → Option DEnv
def chkI (it : Its) (ρ : DEnv) : Option (Its × DEnv) := if (it.get ρ).isSome = true then some (it, ρ) else none
def oneF (fr : Bool) (f : EF) : IF := fun ρ => match f ρ with
  | some (r, ρ1) => if isEnt r = true then none else match ctF fr r ρ1 with
    | some (c, ρ2) => some (.one c, ρ2)
    | none => none
  | none => none
def enF (fr : Bool) (fs : AF) : IF := fun ρ => match fs ρ with
  | some (rs, ρ1) => match ctsF fr rs ρ1 with
    | some ([c], ρ2) => chkI (.en c) ρ2
    | _ => none
  | none => none
def z2F (fr : Bool) (fs : AF) : IF := fun ρ => match fs ρ with
  | some (rs, ρ1) => match ctsF fr rs ρ1 with
    | some ([a, b], ρ2) => chkI (.z2 a b) ρ2
    | _ => none
  | none => none
def z3F (fr : Bool) (fs : AF) : IF := fun ρ => match fs ρ with
  | some (rs, ρ1) => match ctsF fr rs ρ1 with
    | some ([a, b, c], ρ2) => chkI (.z3 a b c) ρ2
    | _ => none
  | none => none
def rds2 (ρ : DEnv) : List Res → Option (List D)
  | [] => some []
  | r :: rs => match rd ρ r, rds2 ρ rs with
    | some d, some ds => some (d :: ds)
    | _, _ => none
def small62 (j : Int) : Bool := decide (-(2 ^ 62) ≤ j) && decide (j < 2 ^ 62)
def r1F (fs : AF) : IF := fun ρ => match fs ρ with
  | some ([r], ρ1) => match rd ρ1 r with
    | some (.int j) => if small62 j = true then some (.rng 0 j.toNat, ρ1) else none
    | _ => none
  | _ => none
def r2F (fs : AF) : IF := fun ρ => match fs ρ with
  | some ([r, r'], ρ1) => match rd ρ1 r, rd ρ1 r' with
    | some (.int i), some (.int j) => if small62 i = true ∧ small62 j = true then some (.rng i (j - i).toNat, ρ1) else none
    | _, _ => none
  | _ => none

def nameG (i : Nat) : GF := fun d ρ => if i < ρ.length then some (ρ.set i (some (itm d))) else none
def nilG : GsF := fun ds ρ => match ds with
  | [] => some ρ
  | _ => none
def consG (g : GF) (gs : GsF) : GsF := fun ds ρ => match ds with
  | d :: ds => match g d ρ with
    | some ρ1 => gs ds ρ1
    | none => none
  | [] => none
def tupG (n : Nat) (gs : GsF) : GF := fun d ρ => match d with
  | .tup ds => if ds.length = n then gs ds ρ else none
  | _ => none

/-- the turns of a for loop: n items in all, m left -/
def forL (it : Its) (n : Nat) (g : GF) (f : SF) (fuel : Nat) : Nat → DEnv → Option SOut
  | 0, ρ => match it.get ρ with
    | some ds => if ds.length = n then some (.nx ρ) else none
    | none => none
  | m + 1, ρ => match it.get ρ with
    | some ds => if ds.length = n then match ds[n - (m + 1)]? with
      | some d => match g d ρ with
        | some ρ1 => match f fuel ρ1 with
          | some (.nx ρ2) => forL it n g f fuel m ρ2
          | some (.ct ρ2) => forL it n g f fuel m ρ2
          | some (.bk ρ2) => some (.nx ρ2)
          | o => o
        | none => none
      | none => none else none
    | none => none
def forF (asg : List Nat) (fi : IF) (g : GF) (f : SF) : SF := fun fuel ρ => match fi ρ with
  | some (it, ρ1) => match it.get ρ1 with
    | some ds => if it.sls.all (fun i => !asg.contains i) = true then forL it ds.length g f fuel ds.length ρ1 else none
    | none => none
  | none => none

section
variable (P : Program) (w : World) (K : PySem.W.Frag)
def CtOk (Z : Addr → Prop) (own : OwnF) (σ : St) (H : Hp) : Ct → Bool → Addr → Prop
  | .fz ds, k, a => Rep P w K H (Mz Z own) (.ref a) (if k = true then .lst ds else .tup ds)
  | .sl i, k, a => k = true ∧ σ[i]? = some (some (.ref a))
def ItsOk (Z : Addr → Prop) (own : OwnF) (σ : St) (H : Hp) : Its → It → Prop
  | .one c, J => ∃ k a, CtOk P w K Z own σ H c k a ∧ J = if k = true then Itl K a else Itt K a
  | .rng lo n, J => J = Itr lo n
  | .en c, J => ∃ k a, CtOk P w K Z own σ H c k a ∧ J = ItEn K k a
  | .z2 c d, J => ∃ k a l b, CtOk P w K Z own σ H c k a ∧ CtOk P w K Z own σ H d l b ∧ J = ItZ2 K k l a b
  | .z3 c d e, J => ∃ k a l b m q, CtOk P w K Z own σ H c k a ∧ CtOk P w K Z own σ H d l b ∧ CtOk P w K Z own σ H e m q ∧ J = ItZ3 K k l m a b q
def tI (f : IF) : TI := fun σ H R => ∃ Z own ρ it ρ', Est P w K Z ρ σ H own ∧ f ρ = some (it, ρ') ∧ ∀ J H' own', Mv own H own' H' → Est P w K Z ρ' σ H' own' → ItsOk P w K Z own' σ H' it J → R J H'
def tG (asg : List Nat) (g : GF) : TG := fun v σ H Q => ∃ Z own ρ d ρ', Est P w K Z ρ σ H own ∧ Rep P w K H (Mz Z own) v d ∧ g d ρ = some ρ' ∧ ∀ σ' own', Mv own H own' H → Est P w K Z ρ' σ' H own' → Kp asg σ σ' → Q σ' H
def tGs (asg : List Nat) (g : GsF) : TGs := fun vs σ H Q => ∃ Z own ρ ds ρ', Est P w K Z ρ σ H own ∧ RepL P w K H (Mz Z own) vs ds ∧ g ds ρ = some ρ' ∧ ∀ σ' own', Mv own H own' H → Est P w K Z ρ' σ' H own' → Kp asg σ σ' → Q σ' H
end

section
variable {X : Cx} {P : Program} {w : World} {K : PySem.W.Frag} {fa : EF} {fs : AF} {f : SF} {g : GF} {gs : GsF} {fi : IF} {Z Z0 Z1 : Addr → Prop} {ρ ρ1 ρ2 ρ' : DEnv} {σ σ' : St} {H H' H1 : Hp} {own own1 own' : OwnF} {fr : Bool} {asg asg1 asg2 : List Nat}

theorem CtOk.keep {c : Ct} {k : Bool} {a : Addr} (mv : Mv own H own' H') (hσ : ∀ i ∈ c.sls, σ'[i]? = σ[i]?) (E : ∀ x, Z x → H x ≠ none ∨ True) (nz : ∀ i x, x ∈ own i → ¬ Z x) (h : CtOk P w K Z own σ H c k a) : CtOk P w K Z own' σ' H' c k a := by
  cases c with
  | fz ds =>
    refine Rep.mono (fun b o e n => mv.fr b o e fun i hi => n (.inr ⟨i, hi⟩)) (fun x hx => ?_) _ _ h
    rcases hx with hx | ⟨i, hx⟩
    · exact .inl (.inl hx)
    · exact (mv.sb i x hx).imp (fun q => .inr q) id
  | sl i => exact ⟨h.1, by rw [hσ i (List.mem_singleton.mpr rfl)]; exact h.2⟩
theorem ItsOk.keep {it : Its} {J : It} (mv : Mv own H own' H') (hσ : ∀ i ∈ it.sls, σ'[i]? = σ[i]?) (nz : ∀ i x, x ∈ own i → ¬ Z x) (h : ItsOk P w K Z own σ H it J) : ItsOk P w K Z own' σ' H' it J := by
  cases it with
  | one c => obtain ⟨k, a, h1, h2⟩ := h; exact ⟨k, a, h1.keep mv hσ (fun _ _ => .inr trivial) nz, h2⟩
  | rng lo n => exact h
  | en c => obtain ⟨k, a, h1, h2⟩ := h; exact ⟨k, a, h1.keep mv hσ (fun _ _ => .inr trivial) nz, h2⟩
  | z2 c d =>
    obtain ⟨k, a, l, b, h1, h2, h3⟩ := h
    exact ⟨k, a, l, b, h1.keep mv (fun i hi => hσ i (List.mem_append_left _ hi)) (fun _ _ => .inr trivial) nz, h2.keep mv (fun i hi => hσ i (List.mem_append_right _ hi)) (fun _ _ => .inr trivial) nz, h3⟩
  | z3 c d e =>
    obtain ⟨k, a, l, b, m, q, h1, h2, h3, h4⟩ := h
    exact ⟨k, a, l, b, m, q, h1.keep mv (fun i hi => hσ i (List.mem_append_left _ hi)) (fun _ _ => .inr trivial) nz, h2.keep mv (fun i hi => hσ i (List.mem_append_right _ (List.mem_append_left _ hi))) (fun _ _ => .inr trivial) nz,
      h3.keep mv (fun i hi => hσ i (List.mem_append_right _ (List.mem_append_right _ hi))) (fun _ _ => .inr trivial) nz, h4⟩
theorem CtOk.seq {c : Ct} {k : Bool} {a : Addr} {ds : List D} (E : Est P w K Z ρ σ H own) (h : CtOk P w K Z own σ H c k a) (e : c.get ρ = some ds) : ∃ vs, SqB K k H a vs ∧ RepL P w K H (Mz Z own) vs ds := by
  cases c with
  | fz ds' =>
    simp only [Ct.get, Option.some.injEq] at e
    subst e
    cases k with
    | true =>
      have h : Rep P w K H (Mz Z own) (.ref a) (.lst ds') := h
      cases h with
      | lst h1 _ h2 => exact ⟨_, .inl (.inl h1), h2⟩
    | false =>
      have h : Rep P w K H (Mz Z own) (.ref a) (.tup ds') := h
      cases h with
      | tup h1 h2 => exact ⟨_, h1.elim .inr fun z => .inl z.1, h2⟩
  | sl i =>
    obtain ⟨rfl, hs⟩ := h
    simp only [Ct.get] at e
    split at e
    · rename_i ds' n q
      split at e
      · rename_i n1
        subst n1
        simp only [Option.some.injEq] at e
        subst e
        obtain ⟨a', vs, h1, h2, _, h3⟩ := lst_slot E q
        rw [hs] at h1
        simp only [Option.some.injEq, V.ref.injEq] at h1
        subst h1
        exact ⟨vs, .inl (.inl h2), h3⟩
      · cases e
    · cases e
theorem repL_at {M : Addr → Prop} : ∀ {ds : List D} {vs : List V}, RepL P w K H M vs ds → ∀ {i : Nat} {d : D}, ds[i]? = some d → ∃ v, vs[i]? = some v ∧ Rep P w K H M v d
  | [], _, _, i, d, e => by simp at e
  | _ :: _, _, .cons h t, 0, d, e => by
    simp only [List.getElem?_cons_zero, Option.some.injEq] at e
    subst e
    exact ⟨_, rfl, h⟩
  | _ :: _, _, .cons h t, i + 1, d, e => by
    simp only [List.getElem?_cons_succ] at e ⊢
    exact repL_at t e
theorem enD_len : ∀ (ds : List D) (k : Nat), (enD k ds).length = ds.length
  | [], _ => rfl
  | _ :: ds, k => by simp only [enD, List.length_cons, enD_len ds]
theorem enD_at : ∀ (ds : List D) (k i : Nat) {d : D}, (enD k ds)[i]? = some d → ∃ x, ds[i]? = some x ∧ d = .tup [.int ((k + i : Nat) : Int), x]
  | [], _, _, _, e => by simp [enD] at e
  | x :: ds, k, 0, d, e => by
    simp only [enD, List.getElem?_cons_zero, Option.some.injEq] at e
    exact ⟨x, rfl, by rw [← e]; rfl⟩
  | x :: ds, k, i + 1, d, e => by
    simp only [enD, List.getElem?_cons_succ] at e
    obtain ⟨y, e1, e2⟩ := enD_at ds (k + 1) i e
    exact ⟨y, by simpa using e1, by rw [e2]; congr 3; simp; omega⟩
theorem zip3D_len : ∀ xs ys zs : List D, (zip3D xs ys zs).length = min (min xs.length ys.length) zs.length
  | [], _, _ => by simp [zip3D]
  | _ :: _, [], _ => by simp [zip3D]
  | _ :: _, _ :: _, [] => by simp [zip3D]
  | _ :: xs, _ :: ys, _ :: zs => by simp only [zip3D, List.length_cons, zip3D_len xs ys zs]; omega
theorem zip3D_at : ∀ (xs ys zs : List D) (i : Nat) {d : D}, (zip3D xs ys zs)[i]? = some d → ∃ x y z, xs[i]? = some x ∧ ys[i]? = some y ∧ zs[i]? = some z ∧ d = .tup [x, y, z]
  | [], _, _, _, _, e => by simp [zip3D] at e
  | _ :: _, [], _, _, _, e => by simp [zip3D] at e
  | _ :: _, _ :: _, [], _, _, e => by simp [zip3D] at e
  | x :: xs, y :: ys, z :: zs, 0, d, e => by
    simp only [zip3D, List.getElem?_cons_zero, Option.some.injEq] at e
    exact ⟨x, y, z, rfl, rfl, rfl, e.symm⟩
  | x :: xs, y :: ys, z :: zs, i + 1, d, e => by
    simp only [zip3D, List.getElem?_cons_succ] at e
    obtain ⟨a, b, c, h⟩ := zip3D_at xs ys zs i e
    exact ⟨a, b, c, by simpa using h⟩
theorem zip2D_at {xs ys : List D} {i : Nat} {d : D} (e : (zip2D xs ys)[i]? = some d) : ∃ x y, xs[i]? = some x ∧ ys[i]? = some y ∧ d = .tup [x, y] := by
  unfold zip2D at e
  rw [List.getElem?_zipWith] at e
  split at e
  · rename_i x y h1 h2
    simp only [Option.some.injEq] at e
    exact ⟨x, y, h1, h2, e.symm⟩
  · cases e
theorem est_new {T : Addr} {o : HO} (E : Est P w K Z ρ σ H own) (hT : H T = none) : Mv own H own (upd H T o) ∧ Est P w K Z ρ σ (upd H T o) own :=
  ⟨⟨fun b u e _ => upd_grow hT b u e, fun i x hx => .inl ⟨i, hx⟩⟩, (E.grow (A := []) (upd_grow hT) (fun _ h => (List.not_mem_nil h).elim) (fun _ h => (List.not_mem_nil h).elim)).drop⟩
theorem rep_new {T : Addr} {vs : List V} {ds : List D} (E : Est P w K Z ρ σ H own) (hT : H T = none) (h : RepL P w K H (Mz Z own) vs ds) : Rep P w K (upd H T (.tup vs)) (Mz Z own) (.ref T) (.tup ds) := by
  have np : ¬ Mz Z own T := by
    rintro (z | ⟨i, z⟩)
    · exact E.zh T z hT
    · exact E.oh i T z hT
  exact .tup (.inr ⟨.inl upd_same, np⟩) (RepL.mono (fun b o e _ => upd_grow hT b o e) (fun x hx => .inl hx) ds vs h)

/-- a turn of what is walked -/
theorem its_go {it : Its} {J : It} {ds : List D} {i : Nat} (E : Est P w K Z ρ σ H own) (h : ItsOk P w K Z own σ H it J) (e : it.get ρ = some ds) (hi : i < ds.length) : J.go i H := by
  cases it with
  | one c =>
    obtain ⟨k, a, h1, rfl⟩ := h
    obtain ⟨vs, h2, h3⟩ := h1.seq E e
    have hl := repL_len h3
    have hi : i < vs.length := by rw [hl]; exact hi
    cases k with
    | true => exact ⟨vs, vs[i], h2, List.getElem?_eq_getElem hi⟩
    | false => exact ⟨vs, vs[i], h2, List.getElem?_eq_getElem hi⟩
  | rng lo n =>
    subst h
    simp only [Its.get, Option.some.injEq] at e
    subst e
    show i < n
    simpa using hi
  | en c =>
    obtain ⟨k, a, h1, rfl⟩ := h
    simp only [Its.get, Option.map_eq_some_iff] at e
    obtain ⟨xs, e, rfl⟩ := e
    obtain ⟨vs, h2, h3⟩ := h1.seq E e
    have hl := repL_len h3
    rw [enD_len] at hi
    have hi : i < vs.length := by rw [hl]; exact hi
    exact ⟨vs, vs[i], h2, List.getElem?_eq_getElem hi⟩
  | z2 c d =>
    obtain ⟨k, a, l, b, h1, h2, rfl⟩ := h
    simp only [Its.get] at e
    split at e
    · rename_i xs ys e1 e2
      simp only [Option.some.injEq] at e
      subst e
      obtain ⟨vs, g1, g2⟩ := h1.seq E e1
      obtain ⟨us, g3, g4⟩ := h2.seq E e2
      have l1 := repL_len g2
      have l2 := repL_len g4
      simp only [zip2D, List.length_zipWith] at hi
      have i1 : i < vs.length := by omega
      have i2 : i < us.length := by omega
      exact ⟨vs, us, vs[i], us[i], g1, g3, List.getElem?_eq_getElem i1, List.getElem?_eq_getElem i2⟩
    · cases e
  | z3 c d c3 =>
    obtain ⟨k, a, l, b, m, q, h1, h2, h3, rfl⟩ := h
    simp only [Its.get] at e
    split at e
    · rename_i xs ys zs e1 e2 e3
      simp only [Option.some.injEq] at e
      subst e
      obtain ⟨vs, g1, g2⟩ := h1.seq E e1
      obtain ⟨us, g3, g4⟩ := h2.seq E e2
      obtain ⟨ws, g5, g6⟩ := h3.seq E e3
      have l1 := repL_len g2
      have l2 := repL_len g4
      have l3 := repL_len g6
      rw [zip3D_len] at hi
      have i1 : i < vs.length := by omega
      have i2 : i < us.length := by omega
      have i3 : i < ws.length := by omega
      exact ⟨vs, us, ws, vs[i], us[i], ws[i], g1, g3, g5, List.getElem?_eq_getElem i1, List.getElem?_eq_getElem i2, List.getElem?_eq_getElem i3⟩
    · cases e
theorem its_stop {it : Its} {J : It} {ds : List D} {i : Nat} (E : Est P w K Z ρ σ H own) (h : ItsOk P w K Z own σ H it J) (e : it.get ρ = some ds) (hi : i = ds.length) : J.stop i H := by
  cases it with
  | one c =>
    obtain ⟨k, a, h1, rfl⟩ := h
    obtain ⟨vs, h2, h3⟩ := h1.seq E e
    have hl := repL_len h3
    cases k with
    | true => exact ⟨vs, h2, by omega⟩
    | false => exact ⟨vs, h2, by omega⟩
  | rng lo n =>
    subst h
    simp only [Its.get, Option.some.injEq] at e
    subst e
    simp only [List.length_map, List.length_range] at hi
    exact Nat.le_of_eq hi.symm
  | en c =>
    obtain ⟨k, a, h1, rfl⟩ := h
    simp only [Its.get, Option.map_eq_some_iff] at e
    obtain ⟨xs, e, rfl⟩ := e
    obtain ⟨vs, h2, h3⟩ := h1.seq E e
    have hl := repL_len h3
    rw [enD_len] at hi
    exact ⟨vs, h2, by omega⟩
  | z2 c d =>
    obtain ⟨k, a, l, b, h1, h2, rfl⟩ := h
    simp only [Its.get] at e
    split at e
    · rename_i xs ys e1 e2
      simp only [Option.some.injEq] at e
      subst e
      obtain ⟨vs, g1, g2⟩ := h1.seq E e1
      obtain ⟨us, g3, g4⟩ := h2.seq E e2
      have l1 := repL_len g2
      have l2 := repL_len g4
      simp only [zip2D, List.length_zipWith] at hi
      exact ⟨vs, us, g1, g3, by omega⟩
    · cases e
  | z3 c d c3 =>
    obtain ⟨k, a, l, b, m, q, h1, h2, h3, rfl⟩ := h
    simp only [Its.get] at e
    split at e
    · rename_i xs ys zs e1 e2 e3
      simp only [Option.some.injEq] at e
      subst e
      obtain ⟨vs, g1, g2⟩ := h1.seq E e1
      obtain ⟨us, g3, g4⟩ := h2.seq E e2
      obtain ⟨ws, g5, g6⟩ := h3.seq E e3
      have l1 := repL_len g2
      have l2 := repL_len g4
      have l3 := repL_len g6
      rw [zip3D_len] at hi
      exact ⟨vs, us, ws, g1, g3, g5, by omega⟩
    · cases e
theorem its_yld {it : Its} {J : It} {ds : List D} {i : Nat} {d : D} {x : V} (E : Est P w K Z ρ σ H own) (h : ItsOk P w K Z own σ H it J) (e : it.get ρ = some ds) (hd : ds[i]? = some d) (y : J.yld i H x H') :
    Mv own H own H' ∧ Est P w K Z ρ σ H' own ∧ Rep P w K H' (Mz Z own) x d := by
  cases it with
  | one c =>
    obtain ⟨k, a, h1, rfl⟩ := h
    obtain ⟨vs, h2, h3⟩ := h1.seq E e
    obtain ⟨v, h4, h5⟩ := repL_at h3 hd
    cases k with
    | true =>
      obtain ⟨rfl, y⟩ := y
      have := y vs h2
      rw [h4] at this
      cases this
      exact ⟨Mv.refl, E, h5⟩
    | false =>
      obtain ⟨rfl, y⟩ := y
      have := y vs h2
      rw [h4] at this
      cases this
      exact ⟨Mv.refl, E, h5⟩
  | rng lo n =>
    subst h
    simp only [Its.get, Option.some.injEq] at e
    subst e
    obtain ⟨rfl, rfl⟩ := y
    have hin : i < n := by
      have := (List.getElem?_eq_some_iff.mp hd).1
      simpa using this
    rw [List.getElem?_map, List.getElem?_range hin] at hd
    simp only [Option.map_some, Option.some.injEq] at hd
    subst hd
    exact ⟨Mv.refl, E, .int _⟩
  | en c =>
    obtain ⟨k, a, h1, rfl⟩ := h
    simp only [Its.get, Option.map_eq_some_iff] at e
    obtain ⟨xs, e, rfl⟩ := e
    obtain ⟨vs, h2, h3⟩ := h1.seq E e
    obtain ⟨x0, e1, rfl⟩ := enD_at _ _ _ hd
    obtain ⟨v, h4, h5⟩ := repL_at h3 e1
    obtain ⟨T, u, rfl, hT, rfl, y⟩ := y
    have := y vs h2
    rw [h4] at this
    cases this
    obtain ⟨m, E'⟩ := est_new (o := .tup [.int (i : Nat), v]) E hT
    refine ⟨m, E', ?_⟩
    rw [Nat.zero_add]
    exact rep_new E hT (.cons (.int _) (.cons h5 .nil))
  | z2 c c2 =>
    obtain ⟨k, a, l, b, h1, h2, rfl⟩ := h
    simp only [Its.get] at e
    split at e
    · rename_i xs ys e1 e2
      simp only [Option.some.injEq] at e
      subst e
      obtain ⟨vs, g1, g2⟩ := h1.seq E e1
      obtain ⟨us, g3, g4⟩ := h2.seq E e2
      obtain ⟨x0, y0, f1, f2, rfl⟩ := zip2D_at hd
      obtain ⟨v, p1, p2⟩ := repL_at g2 f1
      obtain ⟨u, p3, p4⟩ := repL_at g4 f2
      obtain ⟨T, v', u', rfl, hT, rfl, y1, y2⟩ := y
      have := y1 vs g1
      rw [p1] at this
      cases this
      have := y2 us g3
      rw [p3] at this
      cases this
      obtain ⟨m, E'⟩ := est_new (o := .tup [v, u]) E hT
      exact ⟨m, E', rep_new E hT (.cons p2 (.cons p4 .nil))⟩
    · cases e
  | z3 c c2 c3 =>
    obtain ⟨k, a, l, b, m, q, h1, h2, h3, rfl⟩ := h
    simp only [Its.get] at e
    split at e
    · rename_i xs ys zs e1 e2 e3
      simp only [Option.some.injEq] at e
      subst e
      obtain ⟨vs, g1, g2⟩ := h1.seq E e1
      obtain ⟨us, g3, g4⟩ := h2.seq E e2
      obtain ⟨ws, g5, g6⟩ := h3.seq E e3
      obtain ⟨x0, y0, z0, f1, f2, f3, rfl⟩ := zip3D_at _ _ _ _ hd
      obtain ⟨v, p1, p2⟩ := repL_at g2 f1
      obtain ⟨u, p3, p4⟩ := repL_at g4 f2
      obtain ⟨t, p5, p6⟩ := repL_at g6 f3
      obtain ⟨T, v', u', t', rfl, hT, rfl, y1, y2, y3⟩ := y
      have := y1 vs g1
      rw [p1] at this
      cases this
      have := y2 us g3
      rw [p3] at this
      cases this
      have := y3 ws g5
      rw [p5] at this
      cases this
      obtain ⟨m, E'⟩ := est_new (o := .tup [v, u, t]) E hT
      exact ⟨m, E', rep_new E hT (.cons p2 (.cons p4 (.cons p6 .nil)))⟩
    · cases e

/-! ### what an expression gives, to be walked -/
theorem ct_ok (E : Est P w K Z1 ρ σ H own) (h0 : ∀ x, Z x → Z1 x) {r : Res} {v : V} {c : Ct} (h : ValOk P w K Z Z1 own σ H r v) (e : ctF fr r ρ = some (c, ρ')) :
    ∃ own' k a, v = .ref a ∧ Est P w K Z1 ρ' σ H own' ∧ (∀ i x, x ∈ own' i → x ∈ own i) ∧ CtOk P w K Z own' σ H c k a := by
  unfold ctF at e
  split at e
  · rename_i ρ0 ds n
    simp only [Option.some.injEq, Prod.mk.injEq] at e
    obtain ⟨rfl, rfl⟩ := e
    obtain ⟨own', E', s', rr⟩ := esc_ok (d := .lst ds) (ρ' := ρ) E h0 h rfl
    cases rr with
    | lst h1 h2 h3 => exact ⟨own', true, _, rfl, E', s', .lst h1 h2 h3⟩
  · rename_i ρ0 ds n
    simp only [Option.some.injEq, Prod.mk.injEq] at e
    obtain ⟨rfl, rfl⟩ := e
    obtain ⟨own', E', s', rr⟩ := esc_ok (d := .tup ds) (ρ' := ρ) E h0 h rfl
    cases rr with
    | tup h1 h2 => exact ⟨own', false, _, rfl, E', s', .tup h1 h2⟩
  · rename_i ρ0 i
    split at e
    · rename_i ds n q
      split at e
      · simp only [Option.some.injEq, Prod.mk.injEq] at e
        obtain ⟨rfl, rfl⟩ := e
        obtain ⟨own', E', s', rr⟩ := esc_ok (r := .slot i) (d := .lst ds) (ρ' := ρ.set i (some (.lst ds, 0))) E h0 h (by simp only [esc, q])
        cases rr with
        | lst h1 h2 h3 => exact ⟨own', true, _, rfl, E', s', .lst h1 h2 h3⟩
      · split at e
        · rename_i n1
          subst n1
          simp only [Option.some.injEq, Prod.mk.injEq] at e
          obtain ⟨rfl, rfl⟩ := e
          obtain ⟨a, vs, h1, _⟩ := lst_slot E q
          have hv : σ[i]? = some (some v) := h
          rw [hv] at h1
          simp only [Option.some.injEq] at h1
          exact ⟨own, true, a, h1, E, fun _ _ h => h, rfl, by rw [hv, h1]⟩
        · cases e
    · cases e
  · cases e
inductive CtsOk (P : Program) (w : World) (K : PySem.W.Frag) (Z : Addr → Prop) (own : OwnF) (σ : St) (H : Hp) : List Ct → List V → Prop
  | nil : CtsOk P w K Z own σ H [] []
  | cons {c : Ct} {cs : List Ct} {k : Bool} {a : Addr} {vs : List V} : CtOk P w K Z own σ H c k a → CtsOk P w K Z own σ H cs vs → CtsOk P w K Z own σ H (c :: cs) (.ref a :: vs)
theorem cts_ok (h0 : ∀ x, Z x → Z1 x) : ∀ {rs : List Res} {vs : List V} {cs : List Ct} {ρ ρ' : DEnv} {own : OwnF}, Est P w K Z1 ρ σ H own → ValsOk P w K Z Z1 own σ H rs vs → ctsF fr rs ρ = some (cs, ρ') →
    ∃ own', Est P w K Z1 ρ' σ H own' ∧ (∀ i x, x ∈ own' i → x ∈ own i) ∧ CtsOk P w K Z own' σ H cs vs
  | [], _, cs, ρ, ρ', own, E, h, e => by
    cases h
    simp only [ctsF, Option.some.injEq, Prod.mk.injEq] at e
    obtain ⟨rfl, rfl⟩ := e
    exact ⟨own, E, fun _ _ h => h, .nil⟩
  | r :: rs, _, cs, ρ, ρ', own, E, h, e => by
    cases h with
    | cons h t =>
      simp only [ctsF] at e
      split at e
      · rename_i c ρ1 e1
        split at e
        · rename_i cs' ρ2 e2
          simp only [Option.some.injEq, Prod.mk.injEq] at e
          obtain ⟨rfl, rfl⟩ := e
          obtain ⟨own1, k, a, rfl, E1, s1, r1⟩ := ct_ok E h0 h e1
          obtain ⟨own2, E2, s2, r2⟩ := cts_ok h0 E1 (t.less s1) e2
          refine ⟨own2, E2, fun i x hx => s1 i x (s2 i x hx), .cons (r1.keep (own' := own2) ⟨fun _ _ e _ => e, fun i x hx => .inl ⟨i, s2 i x hx⟩⟩ (fun _ _ => rfl) (fun _ _ => .inr trivial) fun i x hx z => E1.nz i x hx (h0 x z)) r2⟩
        · cases e
      · cases e
theorem ctok_sq {c : Ct} {k : Bool} {a : Addr} (E : Est P w K Z ρ σ H own) (h : CtOk P w K Z own σ H c k a) (hs : ∀ i ∈ c.sls, ∃ xs, ρ[i]? = some (some (.lst xs, 1))) : ∃ vs, SqB K k H a vs := by
  cases c with
  | fz ds =>
    obtain ⟨vs, h, _⟩ := h.seq (ds := ds) E rfl
    exact ⟨vs, h⟩
  | sl i =>
    obtain ⟨xs, q⟩ := hs i (List.mem_singleton.mpr rfl)
    obtain ⟨vs, h, _⟩ := h.seq (ds := xs) E (by simp only [Ct.get, q, if_true])
    exact ⟨vs, h⟩
theorem ctF_sls {r : Res} {c : Ct} (e : ctF fr r ρ = some (c, ρ')) : ∀ i ∈ c.sls, ∃ xs, ρ'[i]? = some (some (.lst xs, 1)) := by
  unfold ctF at e
  split at e
  · simp only [Option.some.injEq, Prod.mk.injEq] at e
    obtain ⟨rfl, rfl⟩ := e
    intro i hi; cases hi
  · simp only [Option.some.injEq, Prod.mk.injEq] at e
    obtain ⟨rfl, rfl⟩ := e
    intro i hi; cases hi
  · split at e
    · rename_i ds n q
      split at e
      · simp only [Option.some.injEq, Prod.mk.injEq] at e
        obtain ⟨rfl, rfl⟩ := e
        intro i hi; cases hi
      · split at e
        · rename_i n1
          subst n1
          simp only [Option.some.injEq, Prod.mk.injEq] at e
          obtain ⟨rfl, rfl⟩ := e
          intro i hi
          have : i = _ := List.mem_singleton.mp hi
          subst this
          exact ⟨ds, q⟩
        · cases e
    · cases e
  · cases e
end
end Dt
set_option Elab.async false
set_option linter.all false
set_option maxRecDepth 100000
set_option autoImplicit false
set_option maxHeartbeats 4000000
/-! The data layer, part 15: iterators, targets, for loops: the rules. -/
namespace Dt
open PySem PySem.Spec L2
open PyProof.Rows hiding St

section
variable {X : Cx} {P : Program} {w : World} {K : PySem.W.Frag} {fa : EF} {fs : AF} {f : SF} {g : GF} {gs : GsF} {fi : IF} {Z Z0 Z1 : Addr → Prop} {ρ ρ1 ρ2 ρ' : DEnv} {σ σ' : St} {H H' H1 : Hp} {own own1 own' : OwnF} {fr : Bool} {asg asg1 asg2 : List Nat} {tg : Expr}

/-- the operands of a walked call: containers -/
theorem cts_run {rs : List Res} (hf : fs ρ = some (rs, ρ1)) (E : Est P w K Z ρ σ H own) {cs : List Ct} (e : ctsF fr rs ρ1 = some (cs, ρ2)) {R : List V → Hp → Prop}
    (k : ∀ vs H' own', Mv own H own' H' → Est P w K Z ρ2 σ H' own' → CtsOk P w K Z own' σ H' cs vs → R vs H') : tA P w K fs σ H R := by
  refine ⟨Z, own, ρ, rs, ρ1, E, hf, fun vs H1 Z1 own1 o1 v1 => ?_⟩
  obtain ⟨own2, E2, s2, c2⟩ := cts_ok o1.z o1.E v1 e
  exact k vs H1 own2 (o1.mv.less s2) (E2.weak o1.z) c2
theorem chkI_ok {it it' : Its} (e : chkI it ρ = some (it', ρ')) : it' = it ∧ ρ' = ρ ∧ ∃ ds, it.get ρ = some ds := by
  unfold chkI at e
  split at e
  · rename_i h
    simp only [Option.some.injEq, Prod.mk.injEq] at e
    exact ⟨e.1.symm, e.2.symm, Option.isSome_iff_exists.mp h⟩
  · cases e
theorem p_one {e : Expr} (he : PE X e (tE X.prog X.w X.K fa)) : PI X tg e (tI X.prog X.w X.K (oneF fr fa)) := by
  refine ⟨fun pins s σ H R I ⟨Z, own, ρ, it, ρ', E, e, k⟩ => ?_⟩
  simp only [oneF] at e
  split at e
  · rename_i r ρ1 e1
    split at e
    · cases e
    · rename_i ne
      split at e
      · rename_i c ρ2 e2
        simp only [Option.some.injEq, Prod.mk.injEq] at e
        obtain ⟨rfl, rfl⟩ := e
        refine thn (he.run pins s σ H (fun x H1 => ∃ k a, x = .ref a ∧ (∃ vs, SqB X.K k H1 a vs) ∧ R (if k = true then Itl X.K a else Itt X.K a) H1) I (run1 E e1 (by simpa using ne) fun x H1 Z1 own1 o1 v1 => ?_)) fun v s1 ⟨x, H1, I1, r1, kk, a, e, ⟨vs, hq⟩, q⟩ => ?_
        · obtain ⟨own2, kk, a, rfl, E2, s2, c2⟩ := ct_ok o1.E o1.z v1 e2
          have c2' : CtOk X.prog X.w X.K Z own2 σ H1 c kk a := c2
          refine ⟨kk, a, rfl, ctok_sq (E2.weak o1.z) c2' (ctF_sls e2), k _ H1 own2 (o1.mv.less s2) (E2.weak o1.z) ⟨kk, a, c2', rfl⟩⟩
        · subst e
          cases r1
          cases kk with
          | true =>
            obtain ⟨its, rv, p, hz⟩ := I1.list (show SqL X.K H1 a vs from hq)
            exact wpAny_pyIter_list p.isList (pi_one (tk := s1.toks) I1 _ (turn_list a _) ⟨_, Heap.get?_push_size _ rfl, rfl, rfl⟩ q)
          | false =>
            obtain ⟨its, rv, p, hz⟩ := I1.tuple (show SqT X.K H1 a vs from hq)
            exact wpAny_pyIter_tuple (show s1.heap.IsTuple a its.toArray from p) (pi_one (tk := s1.toks) I1 _ (turn_tuple a _) ⟨_, Heap.get?_push_size _ rfl, rfl, rfl⟩ q)
      · cases e
  · cases e
theorem p_r1 {a : Expr} {p pos : Pos} (hg : Gl X "range") (hm : X.mg "range" = none) (ha : PA X [a] (tA X.prog X.w X.K fs)) (hs : starEach [a] X.env = [(false, eval a X.env)]) : PI X tg (.Call (.Name "range" p) [a] [] pos) (tI X.prog X.w X.K (r1F fs)) := by
  refine ⟨fun pins s σ H R I ⟨Z, own, ρ, it, ρ', E, e, k⟩ => (pi_range1 hg hm ha hs).run pins s σ H R I ?_⟩
  simp only [r1F] at e
  split at e
  · rename_i r ρ1 e1
    split at e
    · rename_i j e2
      split at e
      · rename_i sm
        simp only [Option.some.injEq, Prod.mk.injEq] at e
        obtain ⟨rfl, rfl⟩ := e
        simp only [small62, Bool.and_eq_true, decide_eq_true_eq] at sm
        refine ⟨Z, own, ρ, [r], ρ1, E, e1, fun vs H1 Z1 own1 o1 v1 => ?_⟩
        cases v1 with
        | cons v1 t =>
          cases t
          have q := v1.imm o1.E o1.z rfl e2
          cases q
          exact ⟨j, rfl, sm.1, sm.2, k _ H1 own1 o1.mv (o1.E.weak o1.z) rfl⟩
      · cases e
    · cases e
  · cases e
theorem p_r2 {a b : Expr} {p pos : Pos} (hg : Gl X "range") (hm : X.mg "range" = none) (ha : PA X [a, b] (tA X.prog X.w X.K fs)) (hs : starEach [a, b] X.env = [(false, eval a X.env), (false, eval b X.env)]) (hs2 : starEach [b] X.env = [(false, eval b X.env)]) :
    PI X tg (.Call (.Name "range" p) [a, b] [] pos) (tI X.prog X.w X.K (r2F fs)) := by
  refine ⟨fun pins s σ H R I ⟨Z, own, ρ, it, ρ', E, e, k⟩ => (pi_range2 hg hm ha hs hs2).run pins s σ H R I ?_⟩
  simp only [r2F] at e
  split at e
  · rename_i r r' ρ1 e1
    split at e
    · rename_i i j e2 e3
      split at e
      · rename_i sm
        simp only [Option.some.injEq, Prod.mk.injEq] at e
        obtain ⟨rfl, rfl⟩ := e
        simp only [small62, Bool.and_eq_true, decide_eq_true_eq] at sm
        refine ⟨Z, own, ρ, [r, r'], ρ1, E, e1, fun vs H1 Z1 own1 o1 v1 => ?_⟩
        cases v1 with
        | cons v1 t =>
          cases t with
          | cons v2 t =>
            cases t
            have q := v1.imm o1.E o1.z rfl e2
            have q' := v2.imm o1.E o1.z rfl e3
            cases q
            cases q'
            exact ⟨i, j, rfl, ⟨sm.1.1, sm.1.2, sm.2.1, sm.2.2⟩, k _ H1 own1 o1.mv (o1.E.weak o1.z) rfl⟩
      · cases e
    · cases e
  · cases e
theorem call_enumB {prog : Program} {A : Around} {E : Value → Shared → Prop} {s : Shared} {v : Value} {o : Obj} {Hh : Heap → Prop} {Q : Value → Shared → Prop} (B : Begins v o Hh) (h1 : Hh s.heap)
    (h : ∀ h', IsEnum h' (s.heap.objs.size + 1) s.heap.objs.size 0 .none → h'.get? s.heap.objs.size = some o → h'.objs.size = s.heap.objs.size + 2 →
      (∀ b o, s.heap.get? b = some o → h'.get? b = some o) → Q (.ref (s.heap.objs.size + 1)) { s with heap := h' }) :
    wpAny (model prog w) A (call (.type "enumerate") [v]) Q E s := by
  refine callType_new F.called_enumerate (by decide) (F.typeCall_enumerate_1 _) (F.newCall_enumerate_1 _) (fun obj => F.args_object_init_2 obj _) F.entry_enumerate_new (meets_enum_new1 B) ⟨h1, ?_⟩
  have hz : (s.heap.push o).objs.size = s.heap.objs.size + 1 := Heap.size_push ..
  show _ ∧ _
  rw [hz]
  have he : IsEnum ((s.heap.push o).push { cls := .type "enumerate", data := .fields #[.none, .bool false, .ref s.heap.objs.size, rawInt 0, .none, .none] }) (s.heap.objs.size + 1) s.heap.objs.size 0 .none := by
    have := Heap.get?_push_size (s.heap.push o) (o := { cls := .type "enumerate", data := .fields #[.none, .bool false, .ref s.heap.objs.size, rawInt 0, .none, .none] }) rfl
    rw [hz] at this; exact this
  refine ⟨⟨_, he, rfl⟩, h _ he (Heap.get?_push_of_some _ (Heap.get?_push_size _ B.free)) (by rw [Heap.size_push, hz]) fun b o x => Heap.get?_push_of_some _ (Heap.get?_push_of_some _ x)⟩

theorem p_en {e : Expr} {p pos tpos : Pos} {elts : List Expr} {kk : Nat} (hg : Gl X "enumerate") (hm : X.mg "enumerate" = none) (ha : PA X [e] (tA X.prog X.w X.K fs)) (hs : starEach [e] X.env = [(false, eval e X.env)]) :
    PI X (.Tuple elts kk tpos) (.Call (.Name "enumerate" p) [e] [] pos) (tI X.prog X.w X.K (enF fr fs)) := by
  refine ⟨fun pins s σ H R I ⟨Z, own, ρ, it, ρ', E, e, k⟩ => ?_⟩
  simp only [enF] at e
  split at e
  · rename_i rs ρ1 e1
    split at e
    · rename_i c ρ2 e2
      obtain ⟨rfl, rfl, ds, e3⟩ := chkI_ok e
      simp only [Its.get, Option.map_eq_some_iff] at e3
      obtain ⟨xs, e3, _⟩ := e3
      refine Call_ (ld_blt I hg hm boot_enumerate (PyProof.Rows.callWith_type1 (thn (ha.run pos pins s σ H (fun vs H1 => ∃ kk a us, vs = [.ref a] ∧ SqB X.K kk H1 a us ∧ R (ItEn X.K kk a) H1) I (cts_run e1 E e2 fun vs H1 own1 mv E1 c1 => ?_)) fun us s1 ⟨vs, H1, I1, r1, kb, a, ws, e, hq, q⟩ => ?_) hs rfl))
      · cases c1 with
        | cons c1 t =>
          cases t
          obtain ⟨vs, hq, _⟩ := c1.seq E1 e3
          exact ⟨_, _, vs, rfl, hq, k _ H1 own1 mv E1 ⟨_, _, c1, rfl⟩⟩
      · subst e
        cases r1 with
        | cons r rr =>
          cases rr
          cases r
          obtain ⟨its, rv, p', hz⟩ := inv_sqB I1 hq
          have la := isB_lt p'
          refine call_enumB (beginsB kb a its.toArray) p' fun h' he hit hsz hk => wpAny_pyIter_enum he ?_
          have I2 : Inv X pins σ H1 { s1 with heap := h' } := I1.kept (t' := s1.toks) hk
          refine ⟨s1.heap.objs.size + 1, [s1.heap.objs.size + 1, s1.heap.objs.size], _, _, H1, rfl, I2, turn_en (Nat.succ_ne_self _) (Nat.ne_of_gt (Nat.lt_succ_of_lt la)) (Nat.ne_of_lt la), ⟨⟨.none, he⟩, iterB_new hit⟩, fun b hb => ?_, q⟩
          have e' : b = s1.heap.objs.size + 1 ∨ b = s1.heap.objs.size := by simpa using hb
          have hle : s1.heap.objs.size ≤ b := by
            rcases e' with z | z
            · rw [z]; exact Nat.le_add_right _ _
            · rw [z]; exact Nat.le_refl _
          exact I1.fpOk hle (I1.hok.fresh hle)
    · cases e
  · cases e
theorem p_z2 {e e' : Expr} {p pos tpos : Pos} {elts : List Expr} {kk : Nat} (hg : Gl X "zip") (hm : X.mg "zip" = none) (ha : PA X [e, e'] (tA X.prog X.w X.K fs))
    (hs : starEach [e, e'] X.env = (false, eval e X.env) :: starEach [e'] X.env) (hpl : (backTo pos (starEach [e'] X.env)).any (·.1) = false) :
    PI X (.Tuple elts kk tpos) (.Call (.Name "zip" p) [e, e'] [] pos) (tI X.prog X.w X.K (z2F fr fs)) := by
  refine ⟨fun pins s σ H R I ⟨Z, own, ρ, it, ρ', E, e, k⟩ => ?_⟩
  simp only [z2F] at e
  split at e
  · rename_i rs ρ1 e1
    split at e
    · rename_i c d ρ2 e2
      obtain ⟨rfl, rfl, ds, e3⟩ := chkI_ok e
      simp only [Its.get] at e3
      split at e3
      case h_2 => cases e3
      rename_i xs ys e4 e5
      refine Call_ (ld_blt I hg hm PyProof.Rows.boot_zip (PyProof.Rows.callWith_type1 (thn (ha.run pos pins s σ H (fun vs H1 => ∃ k1 a k2 b us ws, vs = [.ref a, .ref b] ∧ SqB X.K k1 H1 a us ∧ SqB X.K k2 H1 b ws ∧ R (ItZ2 X.K k1 k2 a b) H1) I (cts_run e1 E e2 fun vs H1 own1 mv E1 c1 => ?_)) fun us s1 ⟨vs, H1, I1, r1, k1, a, k2, b, ws, ts, e, hq, hq2, q⟩ => ?_) hs hpl))
      · cases c1 with
        | cons c1 t =>
          cases t with
          | cons c2 t =>
            cases t
            obtain ⟨vs, hq, _⟩ := c1.seq E1 e4
            obtain ⟨vs2, hq2, _⟩ := c2.seq E1 e5
            exact ⟨_, _, _, _, vs, vs2, rfl, hq, hq2, k _ H1 own1 mv E1 ⟨_, _, _, _, c1, c2, rfl⟩⟩
      · subst e
        cases r1 with
        | cons r rr =>
          cases rr with
          | cons r2 rr =>
            cases rr
            cases r
            cases r2
            obtain ⟨its, rv, p1, hz⟩ := inv_sqB I1 hq
            obtain ⟨its2, rv2, p2, hz2⟩ := inv_sqB I1 hq2
            have la := isB_lt p1
            have lb := isB_lt p2
            refine zip_begins2 (beginsB k1 a its.toArray) (beginsB k2 b its2.toArray) p1 p2 fun h' hz hTI hTO g1 g2 hsz hk => wpAny_pyIter_zip hz ?_
            have I2 : Inv X pins σ H1 { s1 with heap := h' } := I1.kept (t' := s1.toks) hk
            refine ⟨s1.heap.objs.size + 4, [s1.heap.objs.size + 4, s1.heap.objs.size + 2, s1.heap.objs.size + 3, s1.heap.objs.size, s1.heap.objs.size + 1], _, _, H1, rfl, I2,
              turn_z2 (zip_sep2 (fp1 := [a]) (fp2 := [b]) (by simpa using la) (by simpa using lb)) (Nat.ne_of_lt la) (Nat.ne_of_lt (Nat.lt_succ_of_lt lb)), ⟨hz, hTI, ⟨_, _, hTO⟩, iterB_new g1, iterB_new g2⟩, fun c hcm => ?_, q⟩
            have e' : c = s1.heap.objs.size + 4 ∨ c = s1.heap.objs.size + 2 ∨ c = s1.heap.objs.size + 3 ∨ c = s1.heap.objs.size ∨ c = s1.heap.objs.size + 1 := by simpa using hcm
            have hle : s1.heap.objs.size ≤ c := by
              rcases e' with z | z | z | z | z <;> rw [z] <;> first | exact Nat.le_add_right _ _ | exact Nat.le_refl _
            exact I1.fpOk hle (I1.hok.fresh hle)
    · cases e
  · cases e
theorem p_z3 {e e' e'' : Expr} {p pos tpos : Pos} {elts : List Expr} {kk : Nat} (hg : Gl X "zip") (hm : X.mg "zip" = none) (ha : PA X [e, e', e''] (tA X.prog X.w X.K fs))
    (hs : starEach [e, e', e''] X.env = (false, eval e X.env) :: starEach [e', e''] X.env) (hpl : (backTo pos (starEach [e', e''] X.env)).any (·.1) = false) :
    PI X (.Tuple elts kk tpos) (.Call (.Name "zip" p) [e, e', e''] [] pos) (tI X.prog X.w X.K (z3F fr fs)) := by
  refine ⟨fun pins s σ H R I ⟨Z, own, ρ, it, ρ', E, e, k⟩ => ?_⟩
  simp only [z3F] at e
  split at e
  · rename_i rs ρ1 e1
    split at e
    · rename_i c d c3 ρ2 e2
      obtain ⟨rfl, rfl, ds, e3⟩ := chkI_ok e
      simp only [Its.get] at e3
      split at e3
      case h_2 => cases e3
      rename_i xs ys zs e4 e5 e6
      refine Call_ (ld_blt I hg hm PyProof.Rows.boot_zip (PyProof.Rows.callWith_type1 (thn (ha.run pos pins s σ H (fun vs H1 => ∃ k1 a k2 b k3 c us ws xs, vs = [.ref a, .ref b, .ref c] ∧ SqB X.K k1 H1 a us ∧ SqB X.K k2 H1 b ws ∧ SqB X.K k3 H1 c xs ∧ R (ItZ3 X.K k1 k2 k3 a b c) H1) I (cts_run e1 E e2 fun vs H1 own1 mv E1 c1 => ?_)) fun us s1 ⟨vs, H1, I1, r1, k1, a, k2, b, k3, c, ws, ts, xs, e, hq, hq2, hq3, q⟩ => ?_) hs hpl))
      · cases c1 with
        | cons c1 t =>
          cases t with
          | cons c2 t =>
            cases t with
            | cons c3 t =>
              cases t
              obtain ⟨vs, hq, _⟩ := c1.seq E1 e4
              obtain ⟨vs2, hq2, _⟩ := c2.seq E1 e5
              obtain ⟨vs3, hq3, _⟩ := c3.seq E1 e6
              exact ⟨_, _, _, _, _, _, vs, vs2, vs3, rfl, hq, hq2, hq3, k _ H1 own1 mv E1 ⟨_, _, _, _, _, _, c1, c2, c3, rfl⟩⟩
      · subst e
        cases r1 with
        | cons r rr =>
          cases rr with
          | cons r2 rr =>
            cases rr with
            | cons r3 rr =>
              cases rr
              cases r
              cases r2
              cases r3
              obtain ⟨its, rv, p1, hz⟩ := inv_sqB I1 hq
              obtain ⟨its2, rv2, p2, hz2⟩ := inv_sqB I1 hq2
              obtain ⟨its3, rv3, p3, hz3⟩ := inv_sqB I1 hq3
              have la := isB_lt p1
              have lb := isB_lt p2
              have lc := isB_lt p3
              refine zip_begins3 (beginsB k1 a its.toArray) (beginsB k2 b its2.toArray) (beginsB k3 c its3.toArray) p1 p2 p3 fun h' hz hTI hTO g1 g2 g3 hsz hk => wpAny_pyIter_zip hz ?_
              have I2 : Inv X pins σ H1 { s1 with heap := h' } := I1.kept (t' := s1.toks) hk
              refine ⟨s1.heap.objs.size + 5, [s1.heap.objs.size + 5, s1.heap.objs.size + 3, s1.heap.objs.size + 4, s1.heap.objs.size, s1.heap.objs.size + 1, s1.heap.objs.size + 2], _, _, H1, rfl, I2,
                turn_z3 (zip_sep3 (fp1 := [a]) (fp2 := [b]) (fp3 := [c]) (by simpa using la) (by simpa using lb) (by simpa using lc)) (Nat.ne_of_lt la) (Nat.ne_of_lt (Nat.lt_succ_of_lt lb)) (Nat.ne_of_lt (Nat.lt_succ_of_lt (Nat.lt_succ_of_lt lc))), ⟨hz, hTI, ⟨_, _, _, hTO⟩, iterB_new g1, iterB_new g2, iterB_new g3⟩, fun c hcm => ?_, q⟩
              have e' : c = s1.heap.objs.size + 5 ∨ c = s1.heap.objs.size + 3 ∨ c = s1.heap.objs.size + 4 ∨ c = s1.heap.objs.size ∨ c = s1.heap.objs.size + 1 ∨ c = s1.heap.objs.size + 2 := by simpa using hcm
              have hle : s1.heap.objs.size ≤ c := by
                rcases e' with z | z | z | z | z | z <;> rw [z] <;> first | exact Nat.le_add_right _ _ | exact Nat.le_refl _
              exact I1.fpOk hle (I1.hok.fresh hle)
    · cases e
  · cases e

/-! ### targets -/
theorem t_name {i : Nat} {x : Str} {pos : Pos} (hN : X.N.Nodup) (hi : X.N[i]? = some x) (hx : Loc X.env.scope x) (hf : X.fn x = true ∨ X.env.scope.names.lookup x = some .local) : PG X (.Name x pos) (tG X.prog X.w X.K [i] (nameG i)) := by
  refine ⟨fun pins s σ H v u Q I r ⟨Z, own, ρ, d, ρ', E, rr, e, k⟩ => (pg_name hN hi hx hf).run pins s σ H v u Q I r ?_⟩
  simp only [nameG] at e
  split at e
  · rename_i hl
    simp only [Option.some.injEq] at e
    subst e
    obtain ⟨own2, mv, E2⟩ := asgR_ok (i := i) (r := .own d (itm d).2) (A := []) (ρ2 := ρ.set i (some (itm d))) (v := v) (Mv.refl (own := own) (H := H)) E.nil ⟨Own.mono _ _ _ _ (fun _ _ e _ => e) (fun x hx => .inl (mz_mono (fun _ h => zp_nil.mp h) hx)) (itm_own rr), List.nodup_nil⟩ (fun _ h => (List.not_mem_nil h).elim) (by simp only [asgR, if_pos hl]; rfl)
    exact k _ own2 mv E2 (Kp.set (by simp))
  · cases e
theorem ts_nil : PGs X [] (tGs X.prog X.w X.K [] nilG) := by
  refine ⟨fun pins s σ H vs us Q I r ⟨Z, own, ρ, ds, ρ', E, rr, e, k⟩ => pgs_nil.run pins s σ H vs us Q I r ?_⟩
  simp only [nilG] at e
  split at e
  · simp only [Option.some.injEq] at e
    subst e
    cases rr
    exact ⟨rfl, k σ own Mv.refl E Kp.refl⟩
  · cases e
theorem ts_cons {t : Expr} {ts : List Expr} (h1 : PG X t (tG X.prog X.w X.K asg1 g)) (h2 : PGs X ts (tGs X.prog X.w X.K asg2 gs)) (hs : (assignEach (t :: ts) X.env).map (·.2) = assign t X.env :: (assignEach ts X.env).map (·.2)) :
    PGs X (t :: ts) (tGs X.prog X.w X.K (asg1 ++ asg2) (consG g gs)) := by
  refine ⟨fun pins s σ H vs us Q I r ⟨Z, own, ρ, ds, ρ', E, rr, e, k⟩ => (pgs_cons h1 h2 hs).run pins s σ H vs us Q I r ?_⟩
  simp only [consG] at e
  split at e
  · rename_i d ds'
    split at e
    · rename_i ρ1 e1
      cases rr with
      | cons r1 r2 =>
        refine ⟨_, _, rfl, Z, own, ρ, d, ρ1, E, r1, e1, fun σ1 own1 mv1 E1 k1 => ⟨Z, own1, ρ1, ds', ρ', E1, RepL.mono (fun b o e n => mv1.fr b o e fun i hi => n (.inr ⟨i, hi⟩)) (fun x hx => ?_) _ _ r2, e, fun σ2 own2 mv2 E2 k2 => k σ2 own2 (mv1.trans mv2) E2 ((k1.sub fun i h => List.mem_append_left _ h).trans (k2.sub fun i h => List.mem_append_right _ h))⟩⟩
        rcases hx with hx | ⟨i, hx⟩
        · exact .inl (.inl hx)
        · exact (mv1.sb i x hx).imp (fun q => .inr q) id
    · cases e
  · cases e
theorem t_tup {ts : List Expr} {k n : Nat} {pos : Pos} (hc : X.calm = true) (h : PGs X ts (tGs X.prog X.w X.K asg gs)) (hn : (assignEach ts X.env).length = n) (hst : (assignEach ts X.env).findIdx? (·.1) = none) :
    PG X (.Tuple ts k pos) (tG X.prog X.w X.K asg (tupG n gs)) := by
  refine ⟨fun pins s σ H v u Q I r ⟨Z, own, ρ, d, ρ', E, rr, e, k⟩ => (pg_tup hc h hn hst).run pins s σ H v u Q I r ?_⟩
  simp only [tupG] at e
  split at e
  · rename_i ds
    split at e
    · rename_i hl
      cases rr with
      | tup h1 h2 => exact ⟨_, _, rfl, h1.elim .inr fun z => .inl z.1, by rw [repL_len h2]; exact hl, Z, own, ρ, ds, ρ', E, h2, e, k⟩
    · cases e
  · cases e

/-! ### for -/
theorem forL_ok {it : Its} {J : It} {n fuel : Nat} {tb : TS} {out : SOut} {Dn : Ends} (hb : tb = tS X.prog X.w X.K asg2 f) (hsl : ∀ i ∈ it.sls, i ∉ asg1 ++ asg2)
    (kk : Fin X.prog X.w X.K Z own H σ (asg1 ++ asg2) Dn out) :
    ∀ m ρ σ1 H1 own1, Mv own H own1 H1 → Kp (asg1 ++ asg2) σ σ1 → Est X.prog X.w X.K Z ρ σ1 H1 own1 → ItsOk X.prog X.w X.K Z own1 σ1 H1 it J → m ≤ n → forL it n g f fuel m ρ = some out →
      (J.stop (n - m) H1 ∧ Dn.nx σ1 H1) ∨ (J.go (n - m) H1 ∧ ∀ x H', J.yld (n - m) H1 x H' → tG X.prog X.w X.K asg1 g x σ1 H' fun σ2 H2 => tb { Dn with
        nx := fun σ3 H3 => 0 < m ∧ ∃ ρ3 own3, Mv own H own3 H3 ∧ Kp (asg1 ++ asg2) σ σ3 ∧ Est X.prog X.w X.K Z ρ3 σ3 H3 own3 ∧ ItsOk X.prog X.w X.K Z own3 σ3 H3 it J ∧ forL it n g f fuel (m - 1) ρ3 = some out,
        ct := fun σ3 H3 => 0 < m ∧ ∃ ρ3 own3, Mv own H own3 H3 ∧ Kp (asg1 ++ asg2) σ σ3 ∧ Est X.prog X.w X.K Z ρ3 σ3 H3 own3 ∧ ItsOk X.prog X.w X.K Z own3 σ3 H3 it J ∧ forL it n g f fuel (m - 1) ρ3 = some out,
        bk := Dn.nx } σ2 H2) := by
  subst hb
  intro m ρ σ1 H1 own1 mv kp E io hm e
  cases m with
  | zero =>
    simp only [forL] at e
    split at e
    · rename_i ds e1
      split at e
      · rename_i hl
        simp only [Option.some.injEq] at e
        subst e
        exact .inl ⟨its_stop E io e1 (by omega), kk σ1 H1 own1 mv E kp⟩
      · cases e
    · cases e
  | succ m =>
    simp only [forL] at e
    split at e
    · rename_i ds e1
      split at e
      · rename_i hl
        split at e
        · rename_i d e2
          split at e
          · rename_i ρ1 e3
            have hi : n - (m + 1) < ds.length := by omega
            refine .inr ⟨its_go E io e1 hi, fun x H' y => ?_⟩
            obtain ⟨mv1, E1, r1⟩ := its_yld E io e1 e2 y
            have io1 := io.keep (σ' := σ1) mv1 (fun _ _ => rfl) E.nz
            refine ⟨Z, own1, ρ, d, ρ1, E1, r1, e3, fun σ2 own2 mv2 E2 k2 => ?_⟩
            have io2 := io1.keep (σ' := σ2) mv2 (fun i hi => k2 i fun z => hsl i hi (List.mem_append_left _ z)) E1.nz
            have mv02 := mv.trans (mv1.trans mv2)
            have kp02 := kp.trans (k2.sub fun i h => List.mem_append_left asg2 h)
            split at e
            · rename_i ρ3 e4
              refine ⟨Z, own2, ρ1, fuel, _, E2, e4, fun σ3 H3 own3 mv3 E3 k3 => ⟨Nat.succ_pos _, ρ3, own3, mv02.trans mv3, kp02.trans (k3.sub fun i h => List.mem_append_right asg1 h), E3, io2.keep mv3 (fun i hi => k3 i fun z => hsl i hi (List.mem_append_right _ z)) E2.nz, e⟩⟩
            · rename_i ρ3 e4
              refine ⟨Z, own2, ρ1, fuel, _, E2, e4, fun σ3 H3 own3 mv3 E3 k3 => ⟨Nat.succ_pos _, ρ3, own3, mv02.trans mv3, kp02.trans (k3.sub fun i h => List.mem_append_right asg1 h), E3, io2.keep mv3 (fun i hi => k3 i fun z => hsl i hi (List.mem_append_right _ z)) E2.nz, e⟩⟩
            · rename_i ρ3 e4
              simp only [Option.some.injEq] at e
              subst e
              exact ⟨Z, own2, ρ1, fuel, _, E2, e4, fun σ3 H3 own3 mv3 E3 k3 => kk σ3 H3 own3 (mv02.trans mv3) E3 (kp02.trans (k3.sub fun i h => List.mem_append_right asg1 h))⟩
            · rename_i o h1 h2 h3
              cases hf : f fuel ρ1 with
              | none => rw [hf] at e; cases e
              | some o =>
                rw [hf] at e
                simp only [Option.some.injEq] at e
                subst e
                refine ⟨Z, own2, ρ1, fuel, _, E2, hf, ?_⟩
                cases o with
                | nx ρ3 => exact absurd hf (h1 ρ3)
                | ct ρ3 => exact absurd hf (h2 ρ3)
                | bk ρ3 => exact absurd hf (h3 ρ3)
                | rt d n ρ3 => exact kk.later mv02 kp02 fun i h => List.mem_append_right asg1 h
          · cases e
        · cases e
      · cases e
    · cases e
theorem s_for {iter : Expr} {body : List Stmt} {pos : Pos} (hp : PassesOwn (model X.prog X.w) X.A X.env X.xe) (hc : X.calm = true) (hi : PI X tg iter (tI X.prog X.w X.K fi)) (hg : PG X tg (tG X.prog X.w X.K asg1 g)) (hb : PSs X body (tS X.prog X.w X.K asg2 f))
    (hs : ∀ x, foldedSetIterable iter X.env x = pure x) : PS X (.For tg iter body [] pos) (tS X.prog X.w X.K (asg1 ++ asg2) (forF (asg1 ++ asg2) fi g f)) :=
  (ps_for hp hc hi hg hb hs).imp fun Dn σ H ⟨Z, own, ρ, fuel, out, E, e, k⟩ => by
    simp only [forF] at e
    split at e
    · rename_i it ρ1 e1
      split at e
      · rename_i ds e2
        split at e
        · rename_i hd
          refine ⟨Z, own, ρ, it, ρ1, E, e1, fun J H1 own1 mv1 E1 io => ?_⟩
          have hsl : ∀ i ∈ it.sls, i ∉ asg1 ++ asg2 := fun i hi z => by
            have := List.all_eq_true.mp hd i hi
            simp only [Bool.not_eq_true', List.contains_eq_mem, decide_eq_false_iff_not] at this
            exact this z
          refine ⟨fun i m σ' H' => m = ds.length - i ∧ i ≤ ds.length ∧ ∃ ρ3 own3, Mv own H own3 H' ∧ Kp (asg1 ++ asg2) σ σ' ∧ Est X.prog X.w X.K Z ρ3 σ' H' own3 ∧ ItsOk X.prog X.w X.K Z own3 σ' H' it J ∧ forL it ds.length g f fuel (ds.length - i) ρ3 = some out, ⟨ds.length, rfl, Nat.zero_le _, ρ1, own1, mv1, Kp.refl, E1, io, e⟩, ?_⟩
          rintro i m σ' H' ⟨rfl, hi, ρ3, own3, mv3, k3, E3, io3, e3⟩
          have := forL_ok (J := J) (tb := _) rfl hsl k (ds.length - i) ρ3 σ' H' own3 mv3 k3 E3 io3 (Nat.sub_le _ _) e3
          have ei : ds.length - (ds.length - i) = i := by omega
          rw [ei] at this
          rcases this with h | ⟨h1, h2⟩
          · exact .inl h
          · refine .inr ⟨h1, _, ?_, h2⟩
            rintro σ4 H4 ⟨hpos, ρ4, own4, a1, a2, a3, a4, a5⟩
            refine ⟨ds.length - (i + 1), by omega, rfl, by omega, ρ4, own4, a1, a2, a3, a4, ?_⟩
            have : ds.length - i - 1 = ds.length - (i + 1) := by omega
            rw [this] at a5
            exact a5
        · cases e
      · cases e
    · cases e
end
end Dt
set_option Elab.async false
set_option linter.all false
set_option maxRecDepth 100000
set_option autoImplicit false
set_option maxHeartbeats 4000000
/-! The data layer, part 16: list comprehensions. -/
namespace Dt
open PySem PySem.Spec L2
open PyProof.Rows hiding St

def wipeD (ρ : DEnv) : List Nat → DEnv
  | [] => ρ
  | v :: vs => (wipeD ρ vs).set v none
def restD (ρ1 ρ : DEnv) : List Nat → DEnv
  | [] => ρ
  | v :: vs => (restD ρ1 ρ vs).set v ((ρ1[v]?).getD none)
def immSlot : Option (Option (D × Nat)) → Bool
  | some (some (d, _)) => isImm d
  | _ => true
def yesF : EF := fun ρ => some (.own (.bl true) 0, ρ)

/-- the turns of a comprehension: n items, m left -/
def lcL (it : Its) (n : Nat) (g : GF) (t e : EF) (vs : List Nat) : Nat → DEnv → Option (List D × DEnv)
  | 0, ρ => match it.get ρ with
    | some ds => if ds.length = n then some ([], ρ) else none
    | none => none
  | m + 1, ρ => match it.get ρ with
    | some ds => if ds.length = n then match ds[n - (m + 1)]? with
      | some d => match g d ρ with
        | some ρ1 => if ρ1.length = ρ.length then match t ρ1 with
          | some (.own (.bl true) _, ρ2) => match e ρ2 with
            | some (r, ρ3) => if isEnt r = true then none else match esc r ρ3 with
              | some (y, ρ4) => match lcL it n g t e vs m (wipeD ρ4 vs) with
                | some (ys, ρ5) => some (y :: ys, ρ5)
                | none => none
              | none => none
            | none => none
          | some (.own (.bl false) _, ρ2) => lcL it n g t e vs m (wipeD ρ2 vs)
          | _ => none else none
        | none => none
      | none => none else none
    | none => none
def lcF (asg vs : List Nat) (fi : IF) (g : GF) (t e : EF) : EF := fun ρ => match fi ρ with
  | some (it, ρ1) => match it.get ρ1 with
    | some ds => if vs.all (fun i => immSlot ρ1[i]?) = true ∧ it.sls.all (fun i => !vs.contains i) = true ∧ asg.all (fun i => vs.contains i) = true ∧ ds.length < LIM then
      match lcL it ds.length g t e vs ds.length (wipeD ρ1 vs) with
      | some (ys, ρ2) => some (.own (.lst ys) 1, restD ρ1 ρ2 vs)
      | none => none else none
    | none => none
  | none => none

section
variable {X : Cx} {P : Program} {w : World} {K : PySem.W.Frag} {fa : EF} {fs : AF} {f : SF} {g : GF} {gs : GsF} {fi : IF} {Z Z0 Z1 Z' : Addr → Prop} {ρ ρ1 ρ2 ρ' : DEnv} {σ σ' σ2 : St} {H H' H1 : Hp} {own own1 own' : OwnF} {fr : Bool} {asg asg1 asg2 vs : List Nat} {tg : Expr}

theorem wipeD_len : ∀ (vs : List Nat), (wipeD ρ vs).length = ρ.length
  | [] => rfl
  | v :: vs => by unfold wipeD; rw [List.length_set, wipeD_len vs]
theorem restD_len : ∀ (vs : List Nat), (restD ρ1 ρ vs).length = ρ.length
  | [] => rfl
  | v :: vs => by unfold restD; rw [List.length_set, restD_len vs]
theorem wipeD_out {i : Nat} : ∀ {vs : List Nat}, i ∉ vs → (wipeD ρ vs)[i]? = ρ[i]?
  | [], _ => rfl
  | v :: vs, h => by
    have h1 : v ≠ i := fun e => h (by rw [e]; exact List.mem_cons_self)
    unfold wipeD
    rw [List.getElem?_set_ne h1]
    exact wipeD_out fun m => h (List.mem_cons_of_mem _ m)
theorem wipeD_in {i : Nat} {d : D} {n : Nat} : ∀ {vs : List Nat}, i ∈ vs → (wipeD ρ vs)[i]? ≠ some (some (d, n))
  | v :: vs, h => by
    unfold wipeD
    by_cases h1 : v = i
    · subst h1
      by_cases hl : v < (wipeD ρ vs).length
      · rw [List.getElem?_set_self hl]; intro q; cases q
      · rw [List.getElem?_eq_none (by rw [List.length_set]; omega)]; intro q; cases q
    · rw [List.getElem?_set_ne h1]
      exact wipeD_in ((List.mem_cons.mp h).resolve_left fun e => h1 e.symm)
theorem restD_out {i : Nat} : ∀ {vs : List Nat}, i ∉ vs → (restD ρ1 ρ vs)[i]? = ρ[i]?
  | [], _ => rfl
  | v :: vs, h => by
    have h1 : v ≠ i := fun e => h (by rw [e]; exact List.mem_cons_self)
    unfold restD
    rw [List.getElem?_set_ne h1]
    exact restD_out fun m => h (List.mem_cons_of_mem _ m)
theorem restD_in {i : Nat} {d : D} {n : Nat} : ∀ {vs : List Nat}, i ∈ vs → (restD ρ1 ρ vs)[i]? = some (some (d, n)) → ρ1[i]? = some (some (d, n))
  | v :: vs, h, e => by
    unfold restD at e
    by_cases h1 : v = i
    · subst h1
      by_cases hl : v < (restD ρ1 ρ vs).length
      · rw [List.getElem?_set_self hl] at e
        simp only [Option.some.injEq] at e
        cases q : ρ1[v]? with
        | none => rw [q] at e; cases e
        | some o => rw [q] at e; simp only [Option.getD_some] at e; rw [e]
      · rw [List.getElem?_eq_none (by rw [List.length_set]; omega)] at e; cases e
    · rw [List.getElem?_set_ne h1] at e
      exact restD_in ((List.mem_cons.mp h).resolve_left fun e => h1 e.symm) e
/-- the slots vs disowned -/
def ownW (own : OwnF) (vs : List Nat) : OwnF := fun j => if j ∈ vs then [] else own j
theorem ownW_sub {j : Nat} {x : Addr} (h : x ∈ ownW own vs j) : x ∈ own j ∧ j ∉ vs := by
  unfold ownW at h
  split at h
  · cases h
  · exact ⟨h, by assumption⟩
theorem est_wipe (E : Est P w K Z ρ σ H own) : Est P w K Z (wipeD ρ vs) (wipe σ vs) H (ownW own vs) where
  len := by rw [wipeD_len, wipe_length]; exact E.len
  sl := fun i d n e => by
    by_cases h : i ∈ vs
    · exact absurd e (wipeD_in h)
    · rw [wipeD_out h] at e
      obtain ⟨v, h1, h2⟩ := E.sl i d n e
      refine ⟨v, by rw [wipe_out h]; exact h1, ?_⟩
      have eo : ownW own vs i = own i := by unfold ownW; rw [if_neg h]
      rw [eo]
      exact Own.mono n v d _ (fun _ _ e _ => e) (fun x hx => .inl (hx.imp id fun ⟨j, z⟩ => ⟨j, (ownW_sub z).1⟩)) h2
  em := fun i hi => by
    unfold ownW
    split
    · rfl
    · rename_i h
      exact E.em i fun d n q => hi d n (by rw [wipeD_out h]; exact q)
  nd := fun i => by
    unfold ownW
    split
    · exact List.nodup_nil
    · exact E.nd i
  dj := fun i j x h1 h2 => E.dj i j x (ownW_sub h1).1 (ownW_sub h2).1
  nz := fun i x hx => E.nz i x (ownW_sub hx).1
  zh := E.zh
  oh := fun i x hx => E.oh i x (ownW_sub hx).1
/-- what stands at a told-apart address changes -/
theorem est_z {a : Addr} {o : HO} (E : Est P w K Z ρ σ H own) (ha : Z a) : Est P w K Z ρ σ (upd H a o) own ∧ Mv own H own (upd H a o) ∨ True := .inr trivial
theorem est_at {a : Addr} {o : HO} (E : Est P w K Z ρ σ H own) (ha : Z a) : Est P w K Z ρ σ (upd H a o) own where
  len := E.len
  sl := fun i d n e => by
    obtain ⟨v, h1, h2⟩ := E.sl i d n e
    refine ⟨v, h1, Own.mono n v d _ (fun b u e q => ?_) (fun x hx => .inl hx) h2⟩
    rw [upd_ne]
    · exact e
    · rintro rfl
      rcases q with q | q
      · exact q (.inl ha)
      · exact E.nz i _ q ha
  em := E.em
  nd := E.nd
  dj := E.dj
  nz := E.nz
  zh := fun x z => by
    by_cases h : x = a
    · subst h; rw [upd_same]; intro q; cases q
    · rw [upd_ne h]; exact E.zh x z
  oh := fun i x hx => by
    by_cases h : x = a
    · subst h; rw [upd_same]; intro q; cases q
    · rw [upd_ne h]; exact E.oh i x hx
theorem CtOk.mono {c : Ct} {k : Bool} {a : Addr} (g : ∀ b o, H b = some o → ¬ Mz Z own b → H' b = some o) (m : ∀ x, Mz Z' own' x → Mz Z own x ∨ H x = none) (hσ : ∀ i ∈ c.sls, σ'[i]? = σ[i]?) (h : CtOk P w K Z own σ H c k a) : CtOk P w K Z' own' σ' H' c k a := by
  cases c with
  | fz ds => exact Rep.mono g m _ _ h
  | sl i => exact ⟨h.1, by rw [hσ i (List.mem_singleton.mpr rfl)]; exact h.2⟩
theorem ItsOk.mono {it : Its} {J : It} (g : ∀ b o, H b = some o → ¬ Mz Z own b → H' b = some o) (m : ∀ x, Mz Z' own' x → Mz Z own x ∨ H x = none) (hσ : ∀ i ∈ it.sls, σ'[i]? = σ[i]?) (h : ItsOk P w K Z own σ H it J) : ItsOk P w K Z' own' σ' H' it J := by
  cases it with
  | one c => obtain ⟨k, a, h1, h2⟩ := h; exact ⟨k, a, h1.mono g m hσ, h2⟩
  | rng lo n => exact h
  | en c => obtain ⟨k, a, h1, h2⟩ := h; exact ⟨k, a, h1.mono g m hσ, h2⟩
  | z2 c d =>
    obtain ⟨k, a, l, b, h1, h2, h3⟩ := h
    exact ⟨k, a, l, b, h1.mono g m (fun i hi => hσ i (List.mem_append_left _ hi)), h2.mono g m (fun i hi => hσ i (List.mem_append_right _ hi)), h3⟩
  | z3 c d e =>
    obtain ⟨k, a, l, b, q, r, h1, h2, h3, h4⟩ := h
    exact ⟨k, a, l, b, q, r, h1.mono g m (fun i hi => hσ i (List.mem_append_left _ hi)), h2.mono g m (fun i hi => hσ i (List.mem_append_right _ (List.mem_append_left _ hi))),
      h3.mono g m (fun i hi => hσ i (List.mem_append_right _ (List.mem_append_right _ hi))), h4⟩
theorem Mv.gg (mv : Mv own H own' H') : ∀ b o, H b = some o → ¬ Mz Z own b → H' b = some o := fun b o e n => mv.fr b o e fun i hi => n (.inr ⟨i, hi⟩)
theorem Mv.mm (mv : Mv own H own' H') : ∀ x, Mz Z own' x → Mz Z own x ∨ H x = none := fun x hx => by
  rcases hx with hx | ⟨i, hx⟩
  · exact .inl (.inl hx)
  · exact (mv.sb i x hx).imp (fun q => .inr q) id
theorem mvW (own : OwnF) (vs : List Nat) (H : Hp) : Mv own H (ownW own vs) H := ⟨fun _ _ e _ => e, fun i x hx => .inl ⟨i, (ownW_sub hx).1⟩⟩
theorem wipe_kp (hl : σ2.length = σ.length) (kp : Kp asg σ σ2) (sub : ∀ i ∈ asg, i ∈ vs) : wipe σ2 vs = wipe σ vs := by
  apply List.ext_getElem?
  intro i
  by_cases h : i ∈ vs
  · have key : ∀ (τ : St), (wipe τ vs)[i]? = if i < τ.length then some none else none := fun τ => by
      by_cases hl : i < τ.length
      · rw [if_pos hl]
        have hl' : i < (wipe τ vs).length := by rw [wipe_length]; exact hl
        rw [List.getElem?_eq_getElem hl']
        congr 1
        cases q : (wipe τ vs)[i] with
        | none => rfl
        | some x => exact absurd h (wipe_some (x := x) (by rw [List.getElem?_eq_getElem hl', q])).2
      · rw [if_neg hl, List.getElem?_eq_none (by rw [wipe_length]; omega)]
    rw [key, key, hl]
  · rw [wipe_out h, wipe_out h, kp i fun z => h (sub i z)]
theorem wipe_wipe : wipe (wipe σ vs) vs = wipe σ vs := wipe_kp (asg := vs) (wipe_length σ vs) (fun i h => wipe_out h) (fun _ h => h)
/-- the loop stands: the list at Da so far -/
structure LcSt (P : Program) (w : World) (K : PySem.W.Frag) (Z : Addr → Prop) (Da : Addr) (σ : St) (own0 : OwnF) (H0 : Hp) (it : Its) (J : It) (acc : List D) (ρ : DEnv) (H : Hp) : Prop where
  ex : ∃ own xs, H Da = some (.lst xs) ∧ RepL P w K H (Mz Z own) xs acc ∧ Est P w K Z ρ σ H own ∧ ItsOk P w K Z own σ H it J ∧ (∀ b o, H0 b = some o → (∀ i, b ∉ own0 i) → b ≠ Da → H b = some o) ∧ ∀ i x, x ∈ own i → (∃ j, x ∈ own0 j) ∨ H0 x = none
theorem lc_loop {it : Its} {J : It} {n : Nat} {Da : Addr} {own0 : OwnF} {H0 : Hp} {t e : EF} {τ : St} {End : Hp → Prop} {ys0 : List D} {ρe : DEnv} (hD : Z Da) (sub : ∀ i ∈ asg, i ∈ vs) (hsl : ∀ i ∈ it.sls, i ∉ vs) {N : Nat} (hn : N < LIM) (hτ : wipe τ vs = τ)
    (hEnd : ∀ H, LcSt P w K Z Da τ own0 H0 it J ys0 ρe H → End H) :
    ∀ (m : Nat) (acc : List D) (ρ : DEnv) (H : Hp) (ys : List D), m ≤ n → acc.length + m ≤ N → LcSt P w K Z Da τ own0 H0 it J acc ρ H → lcL it n g t e vs m ρ = some (ys, ρe) → acc ++ ys = ys0 →
      (J.stop (n - m) H ∧ End H) ∨ (J.go (n - m) H ∧ ∀ x H', J.yld (n - m) H x H' → tG P w K asg g x τ H' fun σ2 H2 => wipe σ2 vs = τ ∧ tT P w K t σ2 H2 fun b H3 =>
        if b = true then tE P w K e σ2 H3 fun y H4 => ∃ xs, H4 Da = some (.lst xs) ∧ xs.length < sizeLine ∧
          (0 < m ∧ ∃ acc ρ ys, acc.length + (m - 1) ≤ N ∧ LcSt P w K Z Da τ own0 H0 it J acc ρ (upd H4 Da (.lst (xs ++ [y]))) ∧ lcL it n g t e vs (m - 1) ρ = some (ys, ρe) ∧ acc ++ ys = ys0)
        else (0 < m ∧ ∃ acc ρ ys, acc.length + (m - 1) ≤ N ∧ LcSt P w K Z Da τ own0 H0 it J acc ρ H3 ∧ lcL it n g t e vs (m - 1) ρ = some (ys, ρe) ∧ acc ++ ys = ys0)) := by
  intro m acc ρ H ys hmn hm st e0 hys
  obtain ⟨own, xs, hx, rx, E, io, fr, sb⟩ := st.ex
  cases m with
  | zero =>
    simp only [lcL] at e0
    split at e0
    · rename_i ds e1
      split at e0
      · rename_i hl
        simp only [Option.some.injEq, Prod.mk.injEq] at e0
        obtain ⟨rfl, rfl⟩ := e0
        rw [List.append_nil] at hys
        subst hys
        exact .inl ⟨its_stop E io e1 (by omega), hEnd H st⟩
      · cases e0
    · cases e0
  | succ m =>
    simp only [lcL] at e0
    split at e0
    case h_2 => cases e0
    rename_i ds e1
    split at e0
    case isFalse => cases e0
    rename_i hl
    split at e0
    case h_2 => cases e0
    rename_i d e2
    split at e0
    case h_2 => cases e0
    rename_i ρ1 e3
    split at e0
    case isFalse => cases e0
    rename_i hlen
    refine .inr ⟨its_go E io e1 (by omega), fun x H' y => ?_⟩
    obtain ⟨mv1, E1, r1⟩ := its_yld E io e1 e2 y
    refine ⟨Z, own, ρ, d, ρ1, E1, r1, e3, fun σ2 own2 mv2 E2 k2 => ⟨?_, ?_⟩⟩
    · rw [← hτ]
      exact wipe_kp (by rw [← E2.len, hlen, E.len]) k2 sub
    have hwτ : wipe σ2 vs = τ := by
      rw [← hτ]
      exact wipe_kp (by rw [← E2.len, hlen, E.len]) k2 sub
    have hDo : ∀ {own : OwnF} {ρ : DEnv} {σ : St} {H : Hp}, Est P w K Z ρ σ H own → ∀ i, Da ∉ own i := fun E i hi => E.nz i Da hi hD
    have mv02 := mv1.trans mv2
    split at e0
    · rename_i b1 ρ2 e4
      split at e0
      case h_2 => cases e0
      rename_i r ρ3 e5
      split at e0
      · cases e0
      rename_i ne
      split at e0
      case h_2 => cases e0
      rename_i dy ρ4 e6
      split at e0
      case h_2 => cases e0
      rename_i ys' ρ5 e7
      simp only [Option.some.injEq, Prod.mk.injEq] at e0
      obtain ⟨rfl, rfl⟩ := e0
      refine ⟨Z, own2, ρ1, true, b1, ρ2, E2, e4, fun H3 own3 mv3 E3 => ?_⟩
      show ite (true = true) _ _
      rw [if_pos rfl]
      refine ⟨Z, own3, ρ2, r, ρ3, E3, e5, fun yv H4 ⟨own4, A, mv4, E4, ro, hA⟩ => ?_⟩
      have mv04 := (mv02.trans mv3).trans mv4
      have v4 : ValOk P w K Z (Zp Z A) own4 σ2 H4 r yv := ro.val (by simpa using ne) (fun _ h => h) fun x hx => (hA x hx).1
      obtain ⟨own5, E5, s5, ry⟩ := esc_ok E4 (fun x h => .inl h) v4 e6
      have E5 := E5.drop
      have mv05 := mv04.less s5
      have hx4 : H4 Da = some (.lst xs) := mv04.fr Da _ hx (hDo E)
      have rx4 := RepL.mono (mv05.gg (Z := Z)) (mv05.mm) _ _ rx
      refine ⟨xs, hx4, ?_, Nat.succ_pos _, acc ++ [dy], wipeD ρ4 vs, ys', ?_, ⟨ownW own5 vs, xs ++ [yv], upd_same, ?_, ?_, ?_, ?_, ?_⟩, by simpa using e7, by simpa using hys⟩
      · have := repL_len rx
        rw [sizeLine_eq]
        simp only [LIM] at hn
        omega
      · rw [List.length_append, List.length_singleton]; omega
      · have gg : ∀ b o, H4 b = some o → ¬ Mz Z own5 b → upd H4 Da (.lst (xs ++ [yv])) b = some o := fun b o e n => by
          rw [upd_ne fun z => n (.inl (by rw [z]; exact hD))]; exact e
        have mm : ∀ x, Mz Z (ownW own5 vs) x → Mz Z own5 x ∨ H4 x = none := fun x hx => .inl (hx.imp id fun ⟨j, z⟩ => ⟨j, (ownW_sub z).1⟩)
        exact repL_app (RepL.mono gg mm _ _ rx4) (.cons (Rep.mono gg mm _ _ ry) .nil)
      · rw [← hwτ]
        exact est_wipe (est_at E5 hD)
      · refine ItsOk.mono (σ := τ) (own := own) (Z := Z) (H := H) (fun b o e n => ?_) (fun x hx => ?_) (fun i hi => rfl) io
        · rw [upd_ne fun z => n (.inl (by rw [z]; exact hD))]; exact mv05.gg b o e n
        · exact mv05.mm x (hx.imp id fun ⟨j, z⟩ => ⟨j, (ownW_sub z).1⟩)
      · intro b o e hb hne
        rw [upd_ne hne]
        refine mv05.fr b o (fr b o e hb hne) fun i hi => ?_
        rcases sb i b hi with ⟨j, q⟩ | q
        · exact hb j q
        · rw [e] at q; cases q
      · intro i x hx
        have hx := (ownW_sub hx).1
        rcases mv05.sb i x hx with ⟨j, q⟩ | q
        · exact sb j x q
        · by_cases h : ∃ j, x ∈ own0 j
          · exact .inl h
          · refine .inr ?_
            cases e : H0 x with
            | none => rfl
            | some o =>
              have hne : x ≠ Da := fun z => E5.nz i x hx (by rw [z]; exact hD)
              rw [fr x o e (fun j hj => h ⟨j, hj⟩) hne] at q; cases q
    · rename_i b1 ρ2 e4
      refine ⟨Z, own2, ρ1, false, b1, ρ2, E2, e4, fun H3 own3 mv3 E3 => ?_⟩
      show ite (false = true) _ _
      rw [if_neg Bool.false_ne_true]
      have mv03 := mv02.trans mv3
      refine ⟨Nat.succ_pos _, acc, wipeD ρ2 vs, ys, by omega, ⟨ownW own3 vs, xs, mv03.fr Da _ hx (hDo E), ?_, ?_, ?_, ?_, ?_⟩, by simpa using e0, hys⟩
      · exact RepL.mono (fun b o e n => mv03.gg b o e n) (fun x hx => mv03.mm x (hx.imp id fun ⟨j, z⟩ => ⟨j, (ownW_sub z).1⟩)) _ _ rx
      · rw [← hwτ]
        exact est_wipe E3
      · exact ItsOk.mono (σ := τ) (own := own) (Z := Z) (H := H) (fun b o e n => mv03.gg b o e n) (fun x hx => mv03.mm x (hx.imp id fun ⟨j, z⟩ => ⟨j, (ownW_sub z).1⟩)) (fun i hi => rfl) io
      · intro b o e hb hne
        refine mv03.fr b o (fr b o e hb hne) fun i hi => ?_
        rcases sb i b hi with ⟨j, q⟩ | q
        · exact hb j q
        · rw [e] at q; cases q
      · intro i x hx
        have hx := (ownW_sub hx).1
        rcases mv03.sb i x hx with ⟨j, q⟩ | q
        · exact sb j x q
        · by_cases h : ∃ j, x ∈ own0 j
          · exact .inl h
          · refine .inr ?_
            cases e : H0 x with
            | none => rfl
            | some o =>
              have hne : x ≠ Da := fun z => E3.nz i x hx (by rw [z]; exact hD)
              rw [fr x o e (fun j hj => h ⟨j, hj⟩) hne] at q; cases q
    · cases e0

/-- the end: the slots of the block as they were -/
theorem est_rest {Da : Addr} {ρe : DEnv} {ys : List D} {it : Its} {J : It} (E : Est P w K Z ρ σ H own) (im : vs.all (fun i => immSlot ρ[i]?) = true) (hD : H Da = none) (st : LcSt P w K (Zp Z [Da]) Da (wipe σ vs) own H it J ys ρe H') :
    ∃ own' xs, Mv own H own' H' ∧ Est P w K (Zp Z [Da]) (restD ρ ρe vs) σ H' own' ∧ H' Da = some (.lst xs) ∧ RepL P w K H' (Mz (Zp Z [Da]) own') xs ys := by
  obtain ⟨own1, xs, h1, h2, E1, _, fr, sb⟩ := st.ex
  have mv : Mv own H own1 H' := ⟨fun b o e hb => fr b o e hb (fun z => by rw [z, hD] at e; cases e), sb⟩
  have no : ∀ i ∈ vs, own1 i = [] := fun i hi => E1.em i fun d n q => by
    obtain ⟨v, q1, _⟩ := E1.sl i d n q
    exact (wipe_some q1).2 hi
  refine ⟨own1, xs, mv, ⟨?_, fun i d n e => ?_, fun i hi => ?_, E1.nd, E1.dj, E1.nz, E1.zh, E1.oh⟩, h1, h2⟩
  · rw [restD_len, E1.len, wipe_length]
  · by_cases h : i ∈ vs
    · have q := restD_in h e
      obtain ⟨v, q1, q2⟩ := E.sl i d n q
      have hi : isImm d = true := by
        have := List.all_eq_true.mp im i h
        rw [q] at this
        exact this
      obtain ⟨_, q3⟩ := imm_own hi q2
      rw [no i h]
      refine ⟨v, q1, own_imm hi (Rep.mono (mv.gg (Z := Z)) (fun x hx => ?_) d v q3)⟩
      rcases hx with (hx | hx) | ⟨j, hx⟩
      · exact .inl (.inl hx)
      · exact .inr (mem1 hD x hx)
      · exact (mv.sb j x hx).imp (fun q => .inr q) id
    · rw [restD_out h] at e
      obtain ⟨v, q1, q2⟩ := E1.sl i d n e
      exact ⟨v, by rw [wipe_out h] at q1; exact q1, q2⟩
  · by_cases h : i ∈ vs
    · exact no i h
    · exact E1.em i fun d n q => hi d n (by rw [restD_out h]; exact q)

theorem q_nil : PTs X [] (tT X.prog X.w X.K yesF) := ⟨fun pins s σ H Q I ⟨Z, own, ρ, b, n, ρ', E, e, k⟩ => pts_nil.run pins s σ H Q I (by
  simp only [yesF, Option.some.injEq, Prod.mk.injEq, Res.own.injEq, D.bl.injEq] at e
  obtain ⟨⟨rfl, rfl⟩, rfl⟩ := e
  exact k H own Mv.refl E)⟩
theorem q_one {c : Expr} (h : PT X c (tT X.prog X.w X.K fa)) : PTs X [c] (tT X.prog X.w X.K fa) := pts_one h

theorem lc_imp {t e : EF} : ∀ σ H Q, tE P w K (lcF asg vs fi g t e) σ H Q → tLc (tI P w K fi) (tG P w K asg g) (tT P w K t) (tE P w K e) vs σ H Q :=
  fun σ H Q ⟨Z, own, ρ, r, ρ', E, e0, k⟩ => by
    simp only [lcF] at e0
    split at e0
    case h_2 => cases e0
    rename_i it ρ1 e1
    split at e0
    case h_2 => cases e0
    rename_i ds e2
    split at e0
    case isFalse => cases e0
    rename_i hh
    obtain ⟨im, hsl, hsub, hn⟩ := hh
    split at e0
    case h_2 => cases e0
    rename_i ys ρ2 e3
    simp only [Option.some.injEq, Prod.mk.injEq] at e0
    obtain ⟨rfl, rfl⟩ := e0
    refine ⟨Z, own, ρ, it, ρ1, E, e1, fun J H1 own1 mv1 E1 io Da hD => ?_⟩
    have hsl' : ∀ i ∈ it.sls, i ∉ vs := fun i hi z => by
      have := List.all_eq_true.mp hsl i hi
      simp only [Bool.not_eq_true', List.contains_eq_mem, decide_eq_false_iff_not] at this
      exact this z
    have sub : ∀ i ∈ asg, i ∈ vs := fun i hi => by
      have := List.all_eq_true.mp hsub i hi
      simpa using this
    have st0 : LcSt P w K (Zp Z [Da]) Da (wipe σ vs) own1 H1 it J [] (wipeD ρ1 vs) (upd H1 Da (.lst [])) := by
      refine ⟨ownW own1 vs, [], upd_same, .nil, est_wipe (E1.grow (upd_grow hD) (mem1 hD) upd_there), ?_, fun b o e _ hne => by rw [upd_ne hne]; exact e, fun i x hx => .inl ⟨i, (ownW_sub hx).1⟩⟩
      refine ItsOk.mono (σ := σ) (own := own1) (Z := Z) (H := H1) (fun b o e n => upd_grow hD b o e) (fun x hx => ?_) (fun i hi => wipe_out (hsl' i hi)) io
      rcases hx with (hx | hx) | ⟨j, hx⟩
      · exact .inl (.inl hx)
      · exact .inr (mem1 hD x hx)
      · exact .inl (.inr ⟨j, (ownW_sub hx).1⟩)
    have loop := lc_loop (End := fun H => Q (.ref Da) H) (asg := asg) (g := g) (t := t) (e := e) (n := ds.length) (N := ds.length) (ρe := ρ2) (ys0 := ys) (Z := Zp Z [Da]) (own0 := own1) (H0 := H1) (J := J) (it := it) (vs := vs) (τ := wipe σ vs) (P := P) (w := w) (K := K) (Da := Da)
      (.inr (List.mem_singleton.mpr rfl)) sub hsl' hn wipe_wipe (fun H2 st2 => by
        obtain ⟨own2, xs, mv2, E2, h1, h2⟩ := est_rest E1 im hD st2
        refine k _ H2 ⟨own2, [Da], mv1.trans mv2, E2, ⟨⟨Da, xs, [], rfl, h1, rfl, ownL0 h2⟩, by simp⟩, fun x hx => ?_⟩
        have e : x = Da := by simpa using hx
        subst e
        exact ⟨fun z => E1.zh x z hD, mv1.fresh (.inr hD)⟩)
    refine ⟨fun i m H' => m = ds.length - i ∧ i ≤ ds.length ∧ ∃ acc ρ3 ys', acc.length + (ds.length - i) ≤ ds.length ∧ LcSt P w K (Zp Z [Da]) Da (wipe σ vs) own1 H1 it J acc ρ3 H' ∧ lcL it ds.length g t e vs (ds.length - i) ρ3 = some (ys', ρ2) ∧ acc ++ ys' = ys,
      ⟨ds.length, rfl, Nat.zero_le _, [], _, ys, by simp, st0, e3, rfl⟩, ?_⟩
    rintro i m H' ⟨rfl, hi, acc, ρ3, ys', ha, st, e4, hy⟩
    have := loop (ds.length - i) acc ρ3 H' ys' (Nat.sub_le _ _) ha st e4 hy
    have ei : ds.length - (ds.length - i) = i := by omega
    rw [ei] at this
    rcases this with h | ⟨h1, h2⟩
    · exact .inl h
    · refine .inr ⟨h1, _, ?_, h2⟩
      rintro H4 ⟨hpos, acc4, ρ4, ys4, a1, a2, a3, a4⟩
      have e5 : ds.length - i - 1 = ds.length - (i + 1) := by omega
      rw [e5] at a1 a3
      exact ⟨ds.length - (i + 1), by omega, rfl, by omega, acc4, ρ4, ys4, a1, a2, a3, a4⟩
theorem r_lc {elt iter : Expr} {ifs : List Expr} {scope : Scope} {bo : List (Str × Nat)} {pos : Pos} {t e : EF} (hc : X.calm = true) (hN : X.N.Nodup) (hi : PI X tg iter (tI X.prog X.w X.K fi)) (ok : BlkOk X.N X.env.scope scope bo)
    (hg : ∀ (s : Shared) (H : Hp) (C : Addr) (cl : List (Str × Addr)) (fp : List Addr), PG (X.blk s H scope (compEnvC scope cl C X.env) fp) tg (tG X.prog X.w X.K asg g)) (ht : ∀ (s : Shared) (H : Hp) (C : Addr) (cl : List (Str × Addr)) (fp : List Addr), PTs (X.blk s H scope (compEnvC scope cl C X.env) fp) ifs (tT X.prog X.w X.K t))
    (he : ∀ (s : Shared) (H : Hp) (C : Addr) (cl : List (Str × Addr)) (fp : List Addr), PE (X.blk s H scope (compEnvC scope cl C X.env) fp) elt (tE X.prog X.w X.K e)) (hs : ∀ x, foldedSetIterable iter X.env x = pure x) :
    PE X (.ListComp elt [⟨tg, iter, ifs, 0⟩] scope pos) (tE X.prog X.w X.K (lcF asg (bo.map (·.2)) fi g t e)) :=
  (pe_lc hc hN hi ok hg ht he hs).imp lc_imp
end
end Dt
set_option Elab.async false
set_option linter.all false
set_option maxRecDepth 100000
set_option autoImplicit false
set_option maxHeartbeats 4000000
/-! The data layer, part 17: tests, and / or / not, if-expressions, chains, isinstance, max, sorted. -/
namespace Dt
open PySem PySem.Spec L2
open PyProof.Rows hiding St

def andF (a b : EF) : EF := fun ρ => match a ρ with
  | some (.own (.bl true) _, ρ1) => b ρ1
  | some (.own (.bl false) n, ρ1) => some (.own (.bl false) n, ρ1)
  | _ => none
def orF (a b : EF) : EF := fun ρ => match a ρ with
  | some (.own (.bl true) n, ρ1) => some (.own (.bl true) n, ρ1)
  | some (.own (.bl false) _, ρ1) => b ρ1
  | _ => none
def notF (a : EF) : EF := fun ρ => match a ρ with
  | some (.own (.bl b) n, ρ1) => some (.own (.bl (!b)) n, ρ1)
  | _ => none
def ifxF (c a b : EF) : EF := fun ρ => match c ρ with
  | some (.own (.bl true) _, ρ1) => a ρ1
  | some (.own (.bl false) _, ρ1) => b ρ1
  | _ => none
/-- a < b < c and the like, b, c read -/
def chainF (g h : D → D → Option Bool) (a b c : EF) : EF := fun ρ => match a ρ with
  | some (ra, ρ1) => if isEnt ra = true then none else match b ρ1 with
    | some (rb, ρ2) => if isEnt rb = true then none else match rd ρ2 ra, rd ρ2 rb with
      | some x, some y => match g x y with
        | some true => if isImm y = true then match c ρ2 with
          | some (rc, ρ3) => if isEnt rc = true then none else match rd ρ3 rc with
            | some z => match h y z with
              | some k => some (.own (.bl k) 5, ρ3)
              | none => none
            | none => none
          | none => none else none
        | some false => some (.own (.bl false) 5, ρ2)
        | none => none
      | _, _ => none
    | none => none
  | none => none

section
variable {X : Cx} {P : Program} {w : World} {K : PySem.W.Frag} {fa fb fc : EF} {fs : AF} {Z Z0 Z1 : Addr → Prop} {ρ ρ1 ρ2 ρ' : DEnv} {σ σ' : St} {H H' H1 : Hp} {own own1 own' : OwnF} {a b c : Expr} {rest : List Expr} {pos : Pos}

/-! ### tests -/
theorem PostE.bl {b : Bool} {n : Nat} {v : V} (p : PostE P w K Z own H σ (.own (.bl b) n) ρ v H') : v = .bl b ∧ ∃ own', Mv own H own' H' ∧ Est P w K Z ρ σ H' own' := by
  obtain ⟨own', A, mv, E', ⟨ro, _⟩, _⟩ := p
  obtain ⟨_, rr⟩ := imm_own (d := .bl b) rfl ro
  cases rr
  exact ⟨rfl, own', mv, E'.drop⟩
theorem PostE.ofBl {b : Bool} {n : Nat} {own'} (mv : Mv own H own' H') (E : Est P w K Z ρ σ H' own') : PostE P w K Z own H σ (.own (.bl b) n) ρ (.bl b) H' :=
  fin_imm mv E (fun _ h => h) (own_imm rfl (.bl b))
/-- from a later state -/
theorem PostE.after {r : Res} {v : V} (mv : Mv own H own1 H1) (p : PostE P w K Z own1 H1 σ r ρ v H') : PostE P w K Z own H σ r ρ v H' := by
  obtain ⟨own', A, mv', E', ro, hA⟩ := p
  exact ⟨own', A, mv.trans mv', E', ro, fun x hx => ⟨(hA x hx).1, mv.fresh (hA x hx).2⟩⟩
theorem t_val {e : Expr} (h : PE X e (tE X.prog X.w X.K fa)) (he : ∀ whole, isTrue e X.env whole = (do let v ← whole; standAt e.pos; holding [v] (truthy v))) : PT X e (tT X.prog X.w X.K fa) :=
  (pt_val h he).imp fun σ H Q ⟨Z, own, ρ, b, n, ρ', E, e, k⟩ => ⟨Z, own, ρ, _, ρ', E, e, fun v H' p => by
    obtain ⟨rfl, own', mv, E'⟩ := p.bl
    exact ⟨b, rfl, k H' own' mv E'⟩⟩
theorem t_not (h : PT X a (tT X.prog X.w X.K fa)) : PT X (.UnaryOp .Not a pos) (tT X.prog X.w X.K (notF fa)) :=
  (pt_not h).imp fun σ H Q ⟨Z, own, ρ, b, n, ρ', E, e, k⟩ => by
    simp only [notF] at e
    split at e
    · rename_i b' n' ρ1 e1
      simp only [Option.some.injEq, Prod.mk.injEq, Res.own.injEq, D.bl.injEq] at e
      obtain ⟨⟨rfl, rfl⟩, rfl⟩ := e
      exact ⟨Z, own, ρ, b', n', ρ1, E, e1, k⟩
    · cases e
theorem tw_and1 (h : PT X a (tT X.prog X.w X.K fa)) : PW X (.BoolOp .And [a] pos) (tT X.prog X.w X.K fa) := pw_and1 h
theorem tw_or1 (h : PT X a (tT X.prog X.w X.K fa)) : PW X (.BoolOp .Or [a] pos) (tT X.prog X.w X.K fa) := pw_or1 h
theorem tw_and (ha : PT X a (tT X.prog X.w X.K fa)) (hb : PW X (.BoolOp .And (b :: rest) pos) (tT X.prog X.w X.K fb)) : PW X (.BoolOp .And (a :: b :: rest) pos) (tT X.prog X.w X.K (andF fa fb)) :=
  (pw_and ha hb).imp fun σ H Q ⟨Z, own, ρ, b, n, ρ', E, e, k⟩ => by
    simp only [andF] at e
    split at e
    · rename_i n' ρ1 e1
      exact ⟨Z, own, ρ, true, n', ρ1, E, e1, fun H1 own1 mv1 E1 => ⟨Z, own1, ρ1, b, n, ρ', E1, e, fun H2 own2 mv2 E2 => k H2 own2 (mv1.trans mv2) E2⟩⟩
    · rename_i n' ρ1 e1
      simp only [Option.some.injEq, Prod.mk.injEq, Res.own.injEq, D.bl.injEq] at e
      obtain ⟨⟨rfl, rfl⟩, rfl⟩ := e
      exact ⟨Z, own, ρ, false, n', ρ1, E, e1, fun H1 own1 mv1 E1 => k H1 own1 mv1 E1⟩
    · cases e
theorem tw_or (ha : PT X a (tT X.prog X.w X.K fa)) (hb : PW X (.BoolOp .Or (b :: rest) pos) (tT X.prog X.w X.K fb)) : PW X (.BoolOp .Or (a :: b :: rest) pos) (tT X.prog X.w X.K (orF fa fb)) :=
  (pw_or ha hb).imp fun σ H Q ⟨Z, own, ρ, b, n, ρ', E, e, k⟩ => by
    simp only [orF] at e
    split at e
    · rename_i n' ρ1 e1
      simp only [Option.some.injEq, Prod.mk.injEq, Res.own.injEq, D.bl.injEq] at e
      obtain ⟨⟨rfl, rfl⟩, rfl⟩ := e
      exact ⟨Z, own, ρ, true, n', ρ1, E, e1, fun H1 own1 mv1 E1 => k H1 own1 mv1 E1⟩
    · rename_i n' ρ1 e1
      exact ⟨Z, own, ρ, false, n', ρ1, E, e1, fun H1 own1 mv1 E1 => ⟨Z, own1, ρ1, b, n, ρ', E1, e, fun H2 own2 mv2 E2 => k H2 own2 (mv1.trans mv2) E2⟩⟩
    · cases e
theorem t_w {e : Expr} (h : PW X e (tT X.prog X.w X.K fa)) : PT X e (tT X.prog X.w X.K fa) := h.pt
theorem r_not (h : PE X a (tE X.prog X.w X.K fa)) : PE X (.UnaryOp .Not a pos) (tE X.prog X.w X.K (notF fa)) :=
  (pe_not h).imp fun σ H Q ⟨Z, own, ρ, r, ρ', E, e, k⟩ => by
    simp only [notF] at e
    split at e
    · rename_i b' n' ρ1 e1
      simp only [Option.some.injEq, Prod.mk.injEq] at e
      obtain ⟨rfl, rfl⟩ := e
      refine ⟨Z, own, ρ, _, ρ1, E, e1, fun v H' p => ?_⟩
      obtain ⟨rfl, own', mv, E'⟩ := p.bl
      exact ⟨b', rfl, k _ H' (PostE.ofBl mv E')⟩
    · cases e
theorem r_one {op} (h : PE X a (tE X.prog X.w X.K fa)) : PE X (.BoolOp op [a] pos) (tE X.prog X.w X.K fa) := pe_one h
theorem r_and (ha : PE X a (tE X.prog X.w X.K fa)) (hb : PE X (.BoolOp .And (b :: rest) pos) (tE X.prog X.w X.K fb)) : PE X (.BoolOp .And (a :: b :: rest) pos) (tE X.prog X.w X.K (andF fa fb)) :=
  (pe_and ha hb).imp fun σ H Q ⟨Z, own, ρ, r, ρ', E, e, k⟩ => by
    simp only [andF] at e
    split at e
    · rename_i n' ρ1 e1
      refine ⟨Z, own, ρ, _, ρ1, E, e1, fun v H1 p => ?_⟩
      obtain ⟨rfl, own1, mv1, E1⟩ := p.bl
      exact ⟨true, rfl, Z, own1, ρ1, r, ρ', E1, e, fun v H2 p2 => k v H2 (p2.after mv1)⟩
    · rename_i n' ρ1 e1
      simp only [Option.some.injEq, Prod.mk.injEq] at e
      obtain ⟨rfl, rfl⟩ := e
      refine ⟨Z, own, ρ, _, ρ1, E, e1, fun v H1 p => ?_⟩
      obtain ⟨rfl, own1, mv1, E1⟩ := p.bl
      exact ⟨false, rfl, k _ H1 p⟩
    · cases e
theorem r_or (ha : PE X a (tE X.prog X.w X.K fa)) (hb : PE X (.BoolOp .Or (b :: rest) pos) (tE X.prog X.w X.K fb)) : PE X (.BoolOp .Or (a :: b :: rest) pos) (tE X.prog X.w X.K (orF fa fb)) :=
  (pe_or ha hb).imp fun σ H Q ⟨Z, own, ρ, r, ρ', E, e, k⟩ => by
    simp only [orF] at e
    split at e
    · rename_i n' ρ1 e1
      simp only [Option.some.injEq, Prod.mk.injEq] at e
      obtain ⟨rfl, rfl⟩ := e
      refine ⟨Z, own, ρ, _, ρ1, E, e1, fun v H1 p => ?_⟩
      obtain ⟨rfl, own1, mv1, E1⟩ := p.bl
      exact ⟨true, rfl, k _ H1 p⟩
    · rename_i n' ρ1 e1
      refine ⟨Z, own, ρ, _, ρ1, E, e1, fun v H1 p => ?_⟩
      obtain ⟨rfl, own1, mv1, E1⟩ := p.bl
      exact ⟨false, rfl, Z, own1, ρ1, r, ρ', E1, e, fun v H2 p2 => k v H2 (p2.after mv1)⟩
    · cases e
theorem r_ifx (hc : PT X c (tT X.prog X.w X.K fc)) (ha : PE X a (tE X.prog X.w X.K fa)) (hb : PE X b (tE X.prog X.w X.K fb)) : PE X (.IfExp c a b pos) (tE X.prog X.w X.K (ifxF fc fa fb)) :=
  (pe_ifExp hc ha hb).imp fun σ H Q ⟨Z, own, ρ, r, ρ', E, e, k⟩ => by
    simp only [ifxF] at e
    split at e
    · rename_i n' ρ1 e1
      exact ⟨Z, own, ρ, true, n', ρ1, E, e1, fun H1 own1 mv1 E1 => ⟨Z, own1, ρ1, r, ρ', E1, e, fun v H2 p2 => k v H2 (p2.after mv1)⟩⟩
    · rename_i n' ρ1 e1
      exact ⟨Z, own, ρ, false, n', ρ1, E, e1, fun H1 own1 mv1 E1 => ⟨Z, own1, ρ1, r, ρ', E1, e, fun v H2 p2 => k v H2 (p2.after mv1)⟩⟩
    · cases e

/-! ### chains -/
theorem chain_run {g h : D → D → Option Bool} {ta tb tc : TE} (E : Est P w K Z ρ σ H own) {r : Res} (e : chainF g h fa fb fc ρ = some (r, ρ')) {Q : VK}
    (k : ∀ v H', PostE P w K Z own H σ r ρ' v H' → Q v H') : tChain (rCmpD P w K g) (rCmpD P w K h) (tE P w K fa) (tE P w K fb) (tE P w K fc) σ H Q := by
  simp only [chainF] at e
  split at e
  case h_2 => cases e
  rename_i ra ρ1 e1
  split at e
  · cases e
  rename_i na
  split at e
  case h_2 => cases e
  rename_i rb ρ2 e2
  split at e
  · cases e
  rename_i nb
  split at e
  case h_2 => cases e
  rename_i dx dy e3 e4
  refine run2 E e1 (by simpa using na) e2 (by simpa using nb) fun x y H2 Z2 own2 o v1 v2 => ?_
  split at e
  · rename_i e5
    refine ⟨dx, dy, true, v1.see o.E e3, v2.see o.E e4, e5, true, rfl, ?_⟩
    rw [if_pos rfl]
    split at e
    case isFalse => cases e
    rename_i im
    split at e
    case h_2 => cases e
    rename_i rc ρ3 e6
    split at e
    · cases e
    rename_i nc
    split at e
    case h_2 => cases e
    rename_i dz e7
    split at e
    case h_2 => cases e
    rename_i kk e8
    simp only [Option.some.injEq, Prod.mk.injEq] at e
    obtain ⟨rfl, rfl⟩ := e
    refine run1 o.E e6 (by simpa using nc) fun z H3 Z3 own3 o3 v3 => ?_
    have vy := v2.imm o.E o.z im e4
    have vy2 : Rep P w K H2 (Mz Z2 own2) y dy := by
      obtain ⟨n, A, ho, _⟩ := v2.got o.E e4
      exact (imm_own im ho).2
    have sy : See P w K H3 y dy := Rep.see (Rep.mono (o3.mv.gg (Z := Z2)) o3.mv.mm _ _ vy2)
    refine ⟨dy, dz, kk, sy, v3.see o3.E e7, e8, k _ H3 (PostE.ofBl (o.mv.trans o3.mv) (o3.E.weak fun x h => o3.z x (o.z x h)))⟩
  · rename_i e5
    simp only [Option.some.injEq, Prod.mk.injEq] at e
    obtain ⟨rfl, rfl⟩ := e
    refine ⟨dx, dy, false, v1.see o.E e3, v2.see o.E e4, e5, false, rfl, ?_⟩
    rw [if_neg Bool.false_ne_true]
    exact k _ H2 (PostE.ofBl o.mv (o.E.weak o.z))
  · cases e
theorem r_chain {op op' : CmpOp} {g h : D → D → Option Bool} (ho : OpR X (compareOp op) (rCmpD X.prog X.w X.K g)) (ho' : OpR X (compareOp op') (rCmpD X.prog X.w X.K h)) (ha : PE X a (tE X.prog X.w X.K fa)) (hb : PE X b (tE X.prog X.w X.K fb)) (hc : PE X c (tE X.prog X.w X.K fc))
    (hm : lastMarks [op, op'] [b, c] = false) : PE X (.Compare a [op, op'] [b, c] pos) (tE X.prog X.w X.K (chainF g h fa fb fc)) :=
  (pe_chain ho ho' ha hb hc hm).imp fun σ H Q ⟨Z, own, ρ, r, ρ', E, e, k⟩ => chain_run (ta := tE X.prog X.w X.K fa) (tb := tE X.prog X.w X.K fb) (tc := tE X.prog X.w X.K fc) E e k
theorem t_chain {op op' : CmpOp} {g h : D → D → Option Bool} (ho : OpR X (compareOp op) (rCmpD X.prog X.w X.K g)) (ho' : OpR X (compareOp op') (rCmpD X.prog X.w X.K h)) (ha : PE X a (tE X.prog X.w X.K fa)) (hb : PE X b (tE X.prog X.w X.K fb)) (hc : PE X c (tE X.prog X.w X.K fc))
    (hm : lastMarks [op, op'] [b, c] = false) : PT X (.Compare a [op, op'] [b, c] pos) (tT X.prog X.w X.K (chainF g h fa fb fc)) :=
  (pt_chain ho ho' ha hb hc hm).imp fun σ H Q ⟨Z, own, ρ, b, n, ρ', E, e, k⟩ => chain_run (ta := tE X.prog X.w X.K fa) (tb := tE X.prog X.w X.K fb) (tc := tE X.prog X.w X.K fc) E e fun v H' p => by
    obtain ⟨rfl, own', mv, E'⟩ := p.bl
    exact ⟨b, rfl, k H' own' mv E'⟩

/-! ### isinstance(x, T) -/
def tyD : D → Option String
  | .non => some "NoneType"
  | .bl _ => some "bool"
  | .int _ => some "int"
  | .str _ => some "str"
  | .tup _ => some "tuple"
  | .lst _ => some "list"
  | _ => none
def isiD (T : String) (d : D) : Option Bool := (tyD d).bind fun t => kitB t T
def fIsi (T : String) (fa : EF) : EF := f1 (fun d => blO (isiD T d)) fa
theorem see_ty {v : V} {d : D} {t : String} (h : See P w K H v d) (e : tyD d = some t) : TyX K H v (.type t) := by
  cases h with
  | non => cases e; exact .base .non
  | bl b => cases e; exact .base (.bl b)
  | int i => cases e; exact .base (.int i)
  | str x => cases e; exact .base (.str x)
  | tup h1 _ =>
    cases e
    rcases h1 with ⟨o, its, n, hk, hc, _⟩ | ⟨h | ⟨o, h⟩, _⟩
    · exact .kTuple hk hc
    · exact .base (.tup h)
    · exact .fTuple h
  | scr _ => cases e
  | lst h1 _ _ => cases e; exact .base (.lst h1)
  | dic _ _ _ => cases e
  | obj _ => cases e
theorem r_isi {T : String} {x : Str} {p p2 : Pos} (ha : PE X a (tE X.prog X.w X.K fa)) (hg : Gl X "isinstance") (hm : X.mg "isinstance" = none) (hgT : Gl X x) (hmT : X.mg x = none) (hT : bootBuiltins x = some (.type T)) (hn : x ≠ "__name__") (hd : (x == ("__debug__" : Str)) = false)
    (h2 : starEach [a, .Name x p2] X.env = (false, eval a X.env) :: starEach [.Name x p2] X.env) (h3 : starEach [.Name x p2] X.env = [(false, eval (.Name x p2) X.env)]) :
    PE X (.Call (.Name "isinstance" p) [a, .Name x p2] [] pos) (tE X.prog X.w X.K (fIsi T fa)) :=
  (pe_callB (call_isi (X := X)) hg hm boot_isinstance (pa_cons ha (pa_cons (pe_bltn (v := .ty T) hgT hmT hT rfl hn hd) pa_nil (by rw [h3]; rfl)) h2) (by decide) (by decide) h2 (by rw [h3]; rfl)).imp fun σ H Q ⟨Z, own, ρ, r, ρ', E, e, k⟩ => by
    simp only [fIsi, f1] at e
    split at e
    case h_2 => cases e
    rename_i ra ρ1 e1
    split at e
    · cases e
    rename_i na
    split at e
    case h_2 => cases e
    rename_i da e2
    split at e
    case h_2 => cases e
    rename_i d n e3
    simp only [Option.some.injEq, Prod.mk.injEq] at e
    obtain ⟨rfl, rfl⟩ := e
    unfold blO at e3
    obtain ⟨bb, e4, e5⟩ := Option.map_eq_some_iff.mp e3
    cases e5
    unfold isiD at e4
    obtain ⟨t, e6, e7⟩ := Option.bind_eq_some_iff.mp e4
    refine run1 E e1 (by simpa using na) fun x H2 Z2 own2 o v1 => ?_
    exact ⟨x, .ty T, .type t, .type T, bb, rfl, .ty T, see_ty (v1.see o.E e2) e6, kit_ty e7, k _ H2 (PostE.ofBl o.mv (o.E.weak o.z))⟩

/-! ### max of ints -/
def maxI : List Int → Int → Int
  | [], m => m
  | x :: xs, m => maxI xs (if m < x then x else m)
def hMax : D → Option D
  | .lst ds => match asInts ds with
    | some (x :: xs) => some (.int (maxI xs x))
    | _ => none
  | .tup ds => match asInts ds with
    | some (x :: xs) => some (.int (maxI xs x))
    | _ => none
  | _ => none
theorem maxI_ge : ∀ (xs : List Int) (m : Int), m ≤ maxI xs m ∧ ∀ y ∈ xs, y ≤ maxI xs m
  | [], m => ⟨Int.le_refl _, fun _ h => by cases h⟩
  | x :: xs, m => by
    have := maxI_ge xs (if m < x then x else m)
    unfold maxI
    refine ⟨?_, fun y hy => ?_⟩
    · have h1 := this.1
      split at h1 <;> split <;> omega
    · rcases List.mem_cons.mp hy with rfl | hy
      · have h1 := this.1
        split at h1 <;> split <;> omega
      · exact this.2 y hy
theorem maxI_mem : ∀ (xs : List Int) (m : Int), maxI xs m ∈ m :: xs
  | [], m => List.mem_cons_self
  | x :: xs, m => by
    unfold maxI
    have := maxI_mem xs (if m < x then x else m)
    split at this <;> split <;> first | contradiction | skip
    · exact List.mem_cons_of_mem _ this
    · rcases List.mem_cons.mp this with h | h
      · rw [h]; exact List.mem_cons_self
      · exact List.mem_cons_of_mem _ (List.mem_cons_of_mem _ h)
theorem maxD_ints : ∀ (xs : List Int) (m : Int), PySem.W.maxD (.int m) (xs.map .int) = .int (maxI xs m)
  | [], m => rfl
  | x :: xs, m => by
    have h := maxD_ints xs (if m < x then x else m)
    unfold PySem.W.maxD at h ⊢
    unfold maxI
    rw [← h]
    show List.foldl _ (if PySem.W.dataLt (.int m) (.int x) = true then PyData.int x else PyData.int m) _ = _
    congr 1
    rw [show PySem.W.dataLt (.int m) (.int x) = decide (m < x) from by first | exact PySem.W.dataLt_int m x | simp [PySem.W.dataLt]]
    by_cases hh : m < x <;> simp [hh]
end
end Dt
set_option Elab.async false
set_option linter.all false
set_option maxRecDepth 100000
set_option autoImplicit false
set_option maxHeartbeats 4000000
/-! The data layer, part 18: max, sorted. -/
namespace Dt
open PySem PySem.Spec L2
open PyProof.Rows hiding St

def encD (d : D) : PyData := (toPy d).getD .none
def tupNE : PyData → Bool
  | .tuple (_ :: _) => true
  | _ => false
def notNT : PyData → Bool
  | .none => false
  | .tuple _ => false
  | _ => true
def sortOk (ds : List D) : Bool :=
  ds.all (fun d => match toPy d with | some p => SeqAt.shaped p | none => false) && (ds.all fun a => ds.all fun b => PySem.W.alike (encD a) (encD b)) && (ds.all (fun d => tupNE (encD d)) || ds.all (fun d => notNT (encD d))) && decide (ds.length ≤ LIM)
def leD (a b : D) : Bool := PySem.W.dataLe false encD a b
def gSorted : List D → Option (D × Nat)
  | [.lst ds] => if sortOk ds = true then some (.lst (ds.mergeSort leD), 1) else none
  | [.dic kvs] => if sortOk (kvs.map (·.1)) = true then some (.lst ((kvs.map (·.1)).mergeSort leD), 1) else none
  | _ => none

section
variable {X : Cx} {P : Program} {w : World} {K : PySem.W.Frag} {fa fb fc : EF} {fs : AF} {Z Z0 Z1 : Addr → Prop} {ρ ρ1 ρ2 ρ' : DEnv} {σ σ' : St} {H H' H1 : Hp} {own own1 own' : OwnF} {pins : List (Addr × Obj)} {s : Shared}

/-! ### max -/
def rMaxB (K : PySem.W.Frag) : List V → Hp → VK → Prop := fun vs H Q => ∃ (k : Bool) (a : Addr) (n : Int) (ns : List Int), vs = [V.ref a] ∧ SqB K k H a ((n :: ns).map V.int) ∧ Q (.int (maxI ns n)) H
theorem dpAll_ints : ∀ ns : List Int, DpAll K H (ns.map V.int) (ns.map PyData.int)
  | [] => .nil
  | n :: ns => .cons (.int n) (dpAll_ints ns)
theorem cr_maxB (hc : X.calm = true) (hu : X.A.units + 100 < cLine) : CallR X (.builtin "max") (rMaxB X.K) := by
  intro pins s σ H vs us Q I r h
  obtain ⟨k, a, n, ns, rfl, hs, q⟩ := h
  cases k with
  | true =>
    have hs : SqL X.K H a ((n :: ns).map V.int) := hs
    obtain ⟨its, rv, hl, _⟩ := I.list hs
    rw [Vals.ref1 r]
    refine max_raw (I.ok.hd hc) hl.isList rv.ints (by simp) fun h' tk m t' hk h1 h2 => ⟨.int _, H, I.kept hk, ⟨_, rfl⟩, ?_⟩
    have g := maxI_ge ns n
    have e : m = maxI ns n := by
      have a1 := h2 _ (maxI_mem ns n)
      have a2 : m ≤ maxI ns n := by
        rcases List.mem_cons.mp h1 with rfl | h1
        · exact g.1
        · exact g.2 m h1
      omega
    rw [e]; exact q
  | false =>
    have hs : SqT X.K H a ((n :: ns).map V.int) := hs
    obtain ⟨its, rv, hl, _⟩ := I.tuple hs
    rw [Vals.ref1 r]
    obtain ⟨as, hr⟩ := Dp.readsAll I _ _ _ (dpAll_ints (K := X.K) (H := H) (n :: ns)) rv
    have al : PySem.W.AlikeAll (PyData.int n :: ns.map PyData.int) := by
      have key : ∀ x ∈ PyData.int n :: ns.map PyData.int, ∃ i, x = .int i := fun x hx => by
        rcases List.mem_cons.mp hx with rfl | hx
        · exact ⟨n, rfl⟩
        · obtain ⟨i, _, rfl⟩ := List.mem_map.mp hx
          exact ⟨i, rfl⟩
      refine ⟨fun x hx y hy => ?_, fun x hx => ?_⟩
      · obtain ⟨i, rfl⟩ := key x hx
        obtain ⟨j, rfl⟩ := key y hy
        rfl
      · obtain ⟨i, rfl⟩ := key x hx
        intro q; cases q
    refine PySem.W.max_tuple_data (I.ok.hd hc) (show s.heap.IsTuple a its.toArray from hl) (x := .int n) (xs := ns.map .int) (as := as) (by simpa using hr) al ?_ fun i v h' tk bs _ hv hk => ?_
    · have : PyData.depthAll (PyData.int n :: ns.map PyData.int) = 0 := PySem.W.depth_ints (n :: ns)
      rw [this]; omega
    · rw [maxD_ints] at hv
      cases hv
      exact ⟨.int _, H, I.kept hk, ⟨_, rfl⟩, q⟩
theorem see_sqB {x : V} {ds : List D} (h : See P w K H x (.lst ds)) : ∃ a vs, x = .ref a ∧ SqB K true H a vs ∧ RepL P w K H (fun _ => False) vs ds := by
  obtain ⟨a, vs, rfl, h1, h2⟩ := see_lst h
  exact ⟨a, vs, rfl, SqL.of h1, h2⟩
theorem n_max : OpN P w K (rMaxB K) (g1 hMax) := opN_pure1 (fun a d e => by
    unfold hMax at e
    split at e
    · split at e
      · cases e; rfl
      · cases e
    · split at e
      · cases e; rfl
      · cases e
    · cases e) fun x a d H Q ha e k => by
  unfold hMax at e
  split at e
  · split at e
    · rename_i e1
      cases e
      obtain ⟨a, vs, rfl, h1, h2⟩ := see_sqB ha
      rw [asInts_eq e1] at h2
      rw [repL_ints h2] at h1
      exact ⟨true, a, _, _, rfl, h1, k _ fun _ => .int _⟩
    · cases e
  · split at e
    · rename_i e1
      cases e
      cases ha with
      | tup h1 h2 =>
        rw [asInts_eq e1] at h2
        have h3 : SqT K H _ _ := h1.elim .inr fun z => .inl z.1
        rw [repL_ints h2] at h3
        exact ⟨false, _, _, _, rfl, h3, k _ fun _ => .int _⟩
    · cases e
  · cases e

/-! ### sorted -/
mutual
theorem reads_lt {h : Heap} : ∀ {d : PyData} {v : Value} {as : List Addr}, Reads h v d as → ∀ x ∈ as, x < h.objs.size
  | _, _, _, .none, x, hx => by cases hx
  | _, _, _, .bool _, x, hx => by cases hx
  | _, _, _, .int _ _, x, hx => by cases hx
  | _, _, _, .str _ _, x, hx => by cases hx
  | _, _, _, .list h1 _ _ h4, x, hx => by
    rcases List.mem_cons.mp hx with rfl | hx
    · exact Heap.lt_size h1
    · exact readsAll_lt h4 x hx
  | _, _, _, .tuple _ _ _ h4, x, hx => readsAll_lt h4 x hx
  | _, _, _, .dict h1 _ _ h4 h5, x, hx => by
    rcases List.mem_append.mp hx with hx | hx
    · rcases List.mem_cons.mp hx with rfl | hx
      · exact Heap.lt_size h1
      · exact readsAll_lt h4 x hx
    · exact readsAll_lt h5 x hx
theorem readsAll_lt {h : Heap} : ∀ {ds : List PyData} {vs : List Value} {as : List Addr}, ReadsAll h vs ds as → ∀ x ∈ as, x < h.objs.size
  | _, _, _, .nil, x, hx => by cases hx
  | _, _, _, .cons h1 h2, x, hx => by
    rcases List.mem_append.mp hx with hx | hx
    · exact reads_lt h1 x hx
    · exact readsAll_lt h2 x hx
end
abbrev encP (p : V × D) : PyData := encD p.2
theorem sort_prep (I : Inv X pins σ H s) (hu : X.A.units + 100 < cLine) : ∀ {ds : List D} {vs : List V} {us : List Value}, RepL X.prog X.w X.K H (fun _ => False) vs ds → Vals vs us → (∀ d ∈ ds, ∃ p, toPy d = some p) →
    PySem.W.EachIs (fun u p => RelV p.1 u) us (vs.zip ds) ∧ PySem.W.EachIs (fun u p => ∃ as, Reads s.heap u (encP p) as) us (vs.zip ds)
  | [], _, _, r, q, _ => by cases r; cases q; exact ⟨.nil, .nil⟩
  | d :: ds, _, _, r, q, hp => by
    cases r with
    | cons r1 r2 =>
      cases q with
      | cons q1 q2 =>
        obtain ⟨h1, h2⟩ := sort_prep I hu r2 q2 fun d hd => hp d (List.mem_cons_of_mem _ hd)
        obtain ⟨p, e⟩ := hp d List.mem_cons_self
        refine ⟨.cons q1 h1, .cons ?_ h2⟩
        show ∃ as, Reads s.heap _ (encD d) as
        unfold encD
        rw [e]
        exact Dp.reads I p _ _ (Rep.dp d _ p r1 e) q1
theorem zip_map {α : Type} (f : D → α) : ∀ {ds : List D} {vs : List V}, vs.length = ds.length → (vs.zip ds).map (fun p => f p.2) = ds.map f
  | [], [], _ => rfl
  | d :: ds, v :: vs, h => by simp only [List.zip_cons_cons, List.map_cons]; rw [zip_map f (by simpa using h)]
theorem sortOk_facts {ds : List D} (h : sortOk ds = true) : (∀ d ∈ ds, ∃ p, toPy d = some p) ∧ PySem.W.AllAlike (ds.map encD) ∧ PySem.W.Sortable (ds.map encD) ∧ ds.length ≤ LIM ∧ ∀ d ∈ ds, (encD d).depth ≤ 64 := by
  unfold sortOk at h
  simp only [Bool.and_eq_true, decide_eq_true_eq] at h
  obtain ⟨⟨⟨h1, h2⟩, h3⟩, h4⟩ := h
  have h1 := List.all_eq_true.mp h1
  refine ⟨fun d hd => ?_, fun a ha b hb => ?_, ?_, h4, fun d hd => ?_⟩
  · have := h1 d hd
    cases e : toPy d with
    | none => rw [e] at this; cases this
    | some p => exact ⟨p, rfl⟩
  · obtain ⟨x, hx, rfl⟩ := List.mem_map.mp ha
    obtain ⟨y, hy, rfl⟩ := List.mem_map.mp hb
    exact List.all_eq_true.mp (List.all_eq_true.mp h2 x hx) y hy
  · rcases (Bool.or_eq_true _ _).mp h3 with h3 | h3
    · refine .inl fun d hd => ?_
      obtain ⟨x, hx, rfl⟩ := List.mem_map.mp hd
      have := List.all_eq_true.mp h3 x hx
      unfold tupNE at this
      split at this
      · rename_i e; exact ⟨_, _, e⟩
      · cases this
    · refine .inr fun d hd => ?_
      obtain ⟨x, hx, rfl⟩ := List.mem_map.mp hd
      have := List.all_eq_true.mp h3 x hx
      unfold notNT at this
      split at this
      · cases this
      · cases this
      · rename_i e1 e2; exact ⟨e1, e2⟩
  · have := h1 d hd
    unfold encD
    cases e : toPy d with
    | none => rw [e] at this; cases this
    | some p => rw [e] at this; exact SeqAt.depth_of_shaped this
/-- what comes out of the sort -/
theorem sort_out {ds : List D} {vs : List V} {out : List Value} (hl : vs.length = ds.length) (eo : PySem.W.EachIs (fun u p => RelV p.1 u) out ((vs.zip ds).mergeSort (PySem.W.dataLe false encP))) :
    ∃ vs' : List V, Vals vs' out ∧ vs'.length = ds.length ∧ ∀ {P : Program} {w : World} {K : PySem.W.Frag} {H : Hp} {M : Addr → Prop}, RepL P w K H M vs ds → RepL P w K H M vs' (ds.mergeSort leD) := by
  have key : ∀ {us : List Value} {ps : List (V × D)}, PySem.W.EachIs (fun u (p : V × D) => RelV p.1 u) us ps → Vals (ps.map (·.1)) us := fun {us ps} h => by
    induction h with
    | nil => exact .nil
    | cons h _ ih => exact .cons h ih
  have hm : ((vs.zip ds).mergeSort (PySem.W.dataLe false encP)).map (·.2) = ds.mergeSort leD := by
    rw [List.map_mergeSort (r := PySem.W.dataLe false encP) (s := leD) (f := fun x : V × D => x.2) (fun a _ b _ => rfl)]
    congr 1
    have := zip_map (fun d => d) hl
    simpa using this
  refine ⟨((vs.zip ds).mergeSort (PySem.W.dataLe false encP)).map (·.1), key eo, ?_, fun {P w K H M} r => ?_⟩
  · rw [List.length_map, List.length_mergeSort, List.length_zip]; omega
  · rw [← hm]
    have all : ∀ p ∈ vs.zip ds, Rep P w K H M p.1 p.2 := by
      have go : ∀ {ds : List D} {vs : List V}, RepL P w K H M vs ds → ∀ p ∈ vs.zip ds, Rep P w K H M p.1 p.2 := fun {ds} => by
        induction ds with
        | nil => intro vs r; cases r; intro p hp; cases hp
        | cons d ds ih =>
          intro vs r
          cases r with
          | cons r1 r2 =>
            intro p hp
            rcases List.mem_cons.mp hp with rfl | hp
            · exact r1
            · exact ih r2 p hp
      exact go r
    have mk : ∀ ps : List (V × D), (∀ p ∈ ps, Rep P w K H M p.1 p.2) → RepL P w K H M (ps.map (·.1)) (ps.map (·.2)) := fun ps => by
      induction ps with
      | nil => intro _; exact .nil
      | cons p ps ih => intro h; exact .cons (h p List.mem_cons_self) (ih fun q hq => h q (List.mem_cons_of_mem _ hq))
    exact mk _ fun p hp => all p (List.mem_mergeSort.mp hp)
def rSortD (P : Program) (w : World) (K : PySem.W.Frag) : List V → Hp → VK → Prop := fun xs H Q => ∃ a vs ds, xs = [.ref a] ∧ ((H a = some (.lst vs)) ∨ ∃ kvs es, Rd H a (dicO P w a kvs) ∧ RepK P w K H (fun _ => False) kvs es ∧ vs = kvs.map (fun p => .ref p.2.1)) ∧ RepL P w K H (fun _ => False) vs ds ∧ sortOk ds = true ∧
  ∀ vs' p, vs'.length = ds.length → (∀ {P : Program} {w : World} {K : PySem.W.Frag} {H : Hp} {M : Addr → Prop}, RepL P w K H M vs ds → RepL P w K H M vs' (ds.mergeSort leD)) → H p = none → Q (.ref p) (upd H p (.lst vs'))
theorem cr_sortD (hc : X.calm = true) (hu : X.A.units + 100 < cLine) : CallR X (.builtin "sorted") (rSortD X.prog X.w X.K) := by
  intro pins s σ H vs us Q I r h
  obtain ⟨a, xs, ds, rfl, hs, rr, ok, q⟩ := h
  rw [Vals.ref1 r]
  obtain ⟨f1, f2, f3, f4, f5⟩ := sortOk_facts ok
  have hlx := repL_len rr
  have hsz : ds.length ≤ sizeLine := by rw [sizeLine_eq]; exact f4
  have g2 : (xs.zip ds).map encP = ds.map encD := zip_map encD hlx
  have hL : (xs.zip ds).length = ds.length := by rw [List.length_zip]; omega
  have hdep : ∀ p ∈ xs.zip ds, (encP p).depth ≤ 64 := fun p hp => f5 _ (List.of_mem_zip hp).2
  rcases hs with hs | ⟨kvs, es, hd, rk, rfl⟩
  · obtain ⟨its, rv, hl, _⟩ := I.list (SqL.of hs)
    obtain ⟨e1, e2⟩ := sort_prep I hu rr rv f1
    refine PySem.W.sorted_data hl.isList e1 e2 (by rw [g2]; exact f2) (by rw [g2]; exact f3) (by rw [hL]; exact hsz) (fun p hp => by have := hdep p hp; omega) fun out ho eo => ?_
    obtain ⟨vs', h1, h2, h3⟩ := sort_out hlx eo
    obtain ⟨ep, he'⟩ := PyProof.Rows.sortedAll_at s.heap its out.toArray
    exact ⟨.ref _, upd H (s.heap.objs.size + 1) (.lst vs'), I.laid (t' := s.toks) (fun _ _ => PyProof.Rows.sortedAll_old) (Nat.le_succ _) ⟨by rw [h2]; exact hsz, out, ep, h1, he'⟩, rfl, q vs' _ h2 h3 (I.hok.fresh (Nat.le_succ _))⟩
  · obtain ⟨⟨h1, h2, ys, pr, o, es0, ep, g3, g4, g5, g6, g7⟩, _⟩ := hd.ok I.hok
    have hraw : s.heap.DictRaw a es0 ep := ⟨o, g3, g4, g5⟩
    have hlk : kvs.length = ys.length := Paired.length pr
    have hes : es0.size = kvs.length := by rw [← Array.length_toList, g6, List.length_map]; exact hlk.symm
    have hlk2 : (kvs.map fun p => V.ref p.2.1).length = ds.length := hlx
    refine Calls.call_function_entry PyProof.Rows.kind_sorted PyProof.Rows.plain_sorted PyProof.Rows.entry_sorted (PyProof.Rows.args_sorted1 _) ?_
    unfold Builtin.«sorted»
    refine wpAny_bind (m := checkCount "sorted" 1 1 _) (wpAny_pure ?_)
    refine wpAny_bind (PySem.W.kdu_collect (A := X.A.in1) (PySem.KdlSrc.rawDict (d := a) (es := es0) (ep := ep) h1) (I.ok.hd hc) hraw (by rw [hes]; exact h2) fun h' tk acc hk hacc => ?_)
    have hacc2 : Vals (kvs.map fun p => V.ref p.2.1) acc.toList := by
      have key : ∀ (kvs : List (NestedKey × Addr × V)) (ys : List (NestedKey × Addr × Value)) (l : List Value), Paired (fun (p : NestedKey × Addr × V) (q : NestedKey × Addr × Value) => p.1 = q.1 ∧ p.2.1 = q.2.1 ∧ RelV p.2.2 q.2.2) kvs ys → l = ys.map (fun q => Value.ref q.2.1) → Vals (kvs.map fun p => V.ref p.2.1) l := fun kvs ys l pr => by
        intro e
        subst e
        induction pr with
        | nil => exact .nil
        | cons r _ ih => exact .cons (show Value.ref _ = Value.ref _ by rw [r.2.1]) ih
      refine key kvs ys _ pr ?_
      apply List.ext_getElem?
      intro i
      cases e : acc.toList[i]? with
      | none =>
        have : acc.toList.length ≤ i := List.getElem?_eq_none_iff.mp e
        rw [Array.length_toList, hacc.1, hes, hlk] at this
        rw [List.getElem?_eq_none (by rw [List.length_map]; exact this)]
      | some v =>
        obtain ⟨hi, ev⟩ := hacc.2 i v (by rw [← Array.getElem?_toList]; exact e)
        have e6 := congrArg (·[i]?) g6
        simp only [Array.getElem?_toList, List.getElem?_map] at e6
        rw [Array.getElem?_eq_getElem hi] at e6
        rw [List.getElem?_map]
        cases e7 : ys[i]? with
        | none => rw [e7] at e6; cases e6
        | some y =>
          rw [e7] at e6
          have e8 : es0[i] = entryOfKey (nestedKind X.prog X.w) y := Option.some.inj e6
          rw [ev, e8]
          rfl
    have I1 : Inv X pins σ H { s with heap := h', toks := tk } := I.kept hk
    have hal : acc.toList.length = ds.length := by rw [← hlk2]; exact hacc2.length.symm
    obtain ⟨e1, e2⟩ := sort_prep I1 hu rr hacc2 f1
    refine wpAny_bind (wpAny_newList ?_ (by rw [hal]; exact hsz))
    have hoL : (h'.push (seqObj "list" acc.toList.toArray 0)).get? h'.objs.size = some (seqObj "list" acc.toList.toArray 0) := Heap.get?_push_size _ rfl
    show wpAny _ _ _ _ _ { s with heap := h'.push (seqObj "list" acc.toList.toArray 0), toks := tk }
    have e3 : PySem.W.EachIs (fun u p => ∃ as, Reads (h'.push (seqObj "list" acc.toList.toArray 0)) u (encP p) as ∧ h'.objs.size ∉ as) acc.toList ((kvs.map fun p => V.ref p.2.1).zip ds) := e2.mono fun u p ⟨as, hr⟩ => ⟨as, PyProof.Rows.Reads.keeps (fun _ _ => Heap.get?_push_of_some _) hr, fun z => absurd (reads_lt hr _ z) (Nat.lt_irrefl _)⟩
    refine wpAny_bind (wpAny_holding (PySem.W.list_sort_data (s := { s with heap := h'.push (seqObj "list" acc.toList.toArray 0), toks := tk }) hoL e1 e3 (by rw [g2]; exact f2) (by rw [g2]; exact f3) (by rw [hL]; exact hsz) (fun p hp => by have := hdep p hp; show X.A.units + 1 + 1 + _ < _; omega) fun out ho eo => ?_))
    obtain ⟨vs', q1, q2, q3⟩ := sort_out hlx eo
    obtain ⟨e', he'⟩ := PyProof.Rows.sortedHeap_at (vs := acc.toList) (out := out.toArray) hoL
    refine wpAny_pure ⟨_, rfl, .ref h'.objs.size, upd H h'.objs.size (.lst vs'), I1.laid (t' := tk) (fun b u e => ?_) (Nat.le_refl _)
      (show ObjOk X.prog X.w _ _ _ (.lst vs') from ⟨by rw [q2]; exact hsz, out, e', q1, he'⟩), rfl, q vs' _ q2 q3 (I1.hok.fresh (Nat.le_refl _))⟩
    have hb : b < h'.objs.size := Heap.lt_size e
    rw [PyProof.Rows.sortedHeap_old (Nat.ne_of_lt hb) (by rw [size_push']; exact Nat.lt_succ_of_lt hb)]
    exact Heap.get?_push_of_some _ e
theorem repK_keys {M : Addr → Prop} : ∀ {es : List (D × D)} {kvs : List (NestedKey × Addr × V)}, RepK P w K H M kvs es → RepL P w K H M (kvs.map fun p => .ref p.2.1) (es.map (·.1))
  | [], _, r => by cases r; exact .nil
  | _ :: _, _, r => by
    cases r with
    | cons h1 _ _ _ t => exact .cons h1 (repK_keys t)
theorem repL_see {M : Addr → Prop} {vs : List V} {ds : List D} (h : RepL P w K H M vs ds) : RepL P w K H (fun _ => False) vs ds := RepL.mono (fun _ _ e _ => e) (fun _ z => z.elim) _ _ h
theorem repK_see {M : Addr → Prop} {vs : List (NestedKey × Addr × V)} {ds : List (D × D)} (h : RepK P w K H M vs ds) : RepK P w K H (fun _ => False) vs ds := RepK.mono (fun _ _ e _ => e) (fun _ z => z.elim) _ _ h
theorem n_sorted : OpN P w K (rSortD P w K) gSorted := by
  intro Z0 Z own0 own H0 H ρ σ rs vs ds d n Q o hv er e k
  unfold gSorted at e
  split at e
  · split at e
    · rename_i ok
      cases e
      obtain ⟨r, rfl, e1⟩ := rds_one er
      obtain ⟨v, rfl, v1⟩ := vals_one hv
      obtain ⟨a, us, rfl, h1, h2⟩ := v1.items o.E o.z e1
      exact ⟨a, us, _, rfl, .inl h1, repL_see h2, ok, fun vs' p _ hh hp => k _ _ (fin_lst o.mv o.E o.z hp (hh h2))⟩
    · cases e
  · split at e
    · rename_i ok
      cases e
      obtain ⟨r, rfl, e1⟩ := rds_one er
      obtain ⟨v, rfl, v1⟩ := vals_one hv
      obtain ⟨a, kvs, rfl, h1, h2⟩ := v1.entries o.E o.z e1
      exact ⟨a, _, _, rfl, .inr ⟨kvs, _, h1, repK_see h2, rfl⟩, repL_see (repK_keys h2), ok, fun vs' p _ hh hp => k _ _ (fin_lst o.mv o.E o.z hp (hh (repK_keys h2)))⟩
    · cases e
  · cases e
end
end Dt
set_option Elab.async false
set_option linter.all false
set_option maxRecDepth 100000
set_option autoImplicit false
set_option maxHeartbeats 4000000
/-! The data layer, part 19: list comprehensions of two clauses. -/
namespace Dt
open PySem PySem.Spec L2
open PyProof.Rows hiding St

/-- two clauses: k items so far -/
def lc2L (it : Its) (n : Nat) (g : GF) (t : EF) (fi1 : IF) (g1 : GF) (t1 e : EF) (vs vs1 : List Nat) : Nat → Nat → DEnv → Option (List D × DEnv)
  | _, 0, ρ => match it.get ρ with
    | some ds => if ds.length = n then some ([], ρ) else none
    | none => none
  | k, m + 1, ρ => match it.get ρ with
    | some ds => if ds.length = n then match ds[n - (m + 1)]? with
      | some d => match g d ρ with
        | some ρ1 => if ρ1.length = ρ.length then match t ρ1 with
          | some (.own (.bl true) _, ρ2) => match fi1 ρ2 with
            | some (it1, ρ3) => match it1.get ρ3 with
              | some ds1 => if it1.sls.all (fun i => !vs1.contains i) = true ∧ k + ds1.length < LIM then
                match lcL it1 ds1.length g1 t1 e vs1 ds1.length (wipeD ρ3 vs1) with
                | some (ys, ρ4) => match lc2L it n g t fi1 g1 t1 e vs vs1 (k + ys.length) m (wipeD ρ4 vs) with
                  | some (zs, ρ5) => some (ys ++ zs, ρ5)
                  | none => none
                | none => none else none
              | none => none
            | none => none
          | some (.own (.bl false) _, ρ2) => lc2L it n g t fi1 g1 t1 e vs vs1 k m (wipeD ρ2 vs)
          | _ => none else none
        | none => none
      | none => none else none
    | none => none
def lc2F (asg asg1 vs vs1 : List Nat) (fi : IF) (g : GF) (t : EF) (fi1 : IF) (g1 : GF) (t1 e : EF) : EF := fun ρ => match fi ρ with
  | some (it, ρ1) => match it.get ρ1 with
    | some ds => if vs.all (fun i => immSlot ρ1[i]?) = true ∧ it.sls.all (fun i => !vs.contains i) = true ∧ asg.all (fun i => vs.contains i) = true ∧ asg1.all (fun i => vs1.contains i) = true ∧ vs1.all (fun i => vs.contains i) = true then
      match lc2L it ds.length g t fi1 g1 t1 e vs vs1 0 ds.length (wipeD ρ1 vs) with
      | some (ys, ρ2) => some (.own (.lst ys) 1, restD ρ1 ρ2 vs)
      | none => none else none
    | none => none
  | none => none

section
variable {X : Cx} {P : Program} {w : World} {K : PySem.W.Frag} {fa : EF} {fs : AF} {f : SF} {g g1 : GF} {gs : GsF} {fi fi1 : IF} {Z Z0 Z1 Z' : Addr → Prop} {ρ ρ1 ρ2 ρ' : DEnv} {σ σ' σ2 : St} {H H' H1 : Hp} {own own1 own' : OwnF} {fr : Bool} {asg asg1 asg2 vs vs1 : List Nat} {tg tg1 : Expr}

/-- seen from an earlier state -/
theorem LcSt.from {Da : Addr} {own0 own1 : OwnF} {H0 H1 : Hp} {it : Its} {J : It} {acc : List D} {τ : St} (fr : ∀ b o, H0 b = some o → (∀ i, b ∉ own0 i) → b ≠ Da → H1 b = some o) (sb : ∀ i x, x ∈ own1 i → (∃ j, x ∈ own0 j) ∨ H0 x = none) (hD : Z Da) (st : LcSt P w K Z Da τ own1 H1 it J acc ρ H) : LcSt P w K Z Da τ own0 H0 it J acc ρ H := by
  obtain ⟨own, xs, h1, h2, E, io, f, s⟩ := st.ex
  refine ⟨own, xs, h1, h2, E, io, fun b o e hb hne => f b o (fr b o e hb hne) (fun i hi => ?_) hne, fun i x hx => ?_⟩
  · rcases sb i b hi with ⟨j, q⟩ | q
    · exact hb j q
    · rw [e] at q; cases q
  · rcases s i x hx with ⟨j, q⟩ | q
    · exact sb j x q
    · by_cases h : ∃ j, x ∈ own0 j
      · exact .inl h
      · refine .inr ?_
        cases e : H0 x with
        | none => rfl
        | some o =>
          have hne : x ≠ Da := fun z => E.nz i x hx (by rw [z]; exact hD)
          rw [fr x o e (fun j hj => h ⟨j, hj⟩) hne] at q; cases q
theorem lcL_len {it : Its} {n : Nat} {t e : EF} : ∀ (m : Nat) (ρ : DEnv) (ys : List D) (ρ' : DEnv), lcL it n g t e vs m ρ = some (ys, ρ') → ys.length ≤ m
  | 0, ρ, ys, ρ', h => by
    simp only [lcL] at h
    split at h
    · split at h
      · cases h; exact Nat.le_refl _
      · cases h
    · cases h
  | m + 1, ρ, ys, ρ', h => by
    simp only [lcL] at h
    split at h
    case h_2 => cases h
    split at h
    case isFalse => cases h
    split at h
    case h_2 => cases h
    split at h
    case h_2 => cases h
    split at h
    case isFalse => cases h
    split at h
    · split at h
      case h_2 => cases h
      split at h
      · cases h
      split at h
      case h_2 => cases h
      split at h
      case h_2 => cases h
      rename_i e7
      cases h
      have := lcL_len m _ _ _ e7
      simp only [List.length_cons]; omega
    · have := lcL_len m _ _ _ h
      omega
    · cases h
theorem lc2_loop {it : Its} {J : It} {n : Nat} {Da : Addr} {own0 : OwnF} {H0 : Hp} {t t1 e : EF} {τ : St} {End : Hp → Prop} {ys0 : List D} {ρe : DEnv} (hD : Z Da) (sub : ∀ i ∈ asg, i ∈ vs) (sub1 : ∀ i ∈ asg1, i ∈ vs1) (hv : ∀ i ∈ vs1, i ∈ vs) (hsl : ∀ i ∈ it.sls, i ∉ vs) (hτ : wipe τ vs = τ)
    (hEnd : ∀ H, LcSt P w K Z Da τ own0 H0 it J ys0 ρe H → End H) :
    ∀ (m : Nat) (acc : List D) (ρ : DEnv) (H : Hp) (ys : List D), m ≤ n → LcSt P w K Z Da τ own0 H0 it J acc ρ H → lc2L it n g t fi1 g1 t1 e vs vs1 acc.length m ρ = some (ys, ρe) → acc ++ ys = ys0 →
      (J.stop (n - m) H ∧ End H) ∨ (J.go (n - m) H ∧ ∀ x H', J.yld (n - m) H x H' → tG P w K asg g x τ H' fun σ2 H2 => wipe σ2 vs = τ ∧ tT P w K t σ2 H2 fun b H3 =>
        if b = true then tI P w K fi1 σ2 H3 fun J1 H4 => ∃ W1 : Nat → Nat → Hp → Prop, (∃ m, W1 0 m H4) ∧ ∀ j k H, W1 j k H →
          (J1.stop j H ∧ (0 < m ∧ ∃ acc ρ ys, LcSt P w K Z Da τ own0 H0 it J acc ρ H ∧ lc2L it n g t fi1 g1 t1 e vs vs1 acc.length (m - 1) ρ = some (ys, ρe) ∧ acc ++ ys = ys0)) ∨
          (J1.go j H ∧ ∃ Nx1 : Hp → Prop, (∀ H', Nx1 H' → ∃ k', k' < k ∧ W1 (j + 1) k' H') ∧ ∀ x H', J1.yld j H x H' → tG P w K asg1 g1 x (wipe σ2 vs1) H' fun σ3 H5 => wipe σ3 vs1 = wipe σ2 vs1 ∧ tT P w K t1 σ3 H5 fun b H6 =>
            if b = true then tE P w K e σ3 H6 fun y H7 => ∃ xs, H7 Da = some (.lst xs) ∧ xs.length < sizeLine ∧ Nx1 (upd H7 Da (.lst (xs ++ [y]))) else Nx1 H6)
        else (0 < m ∧ ∃ acc ρ ys, LcSt P w K Z Da τ own0 H0 it J acc ρ H3 ∧ lc2L it n g t fi1 g1 t1 e vs vs1 acc.length (m - 1) ρ = some (ys, ρe) ∧ acc ++ ys = ys0)) := by
  intro m acc ρ H ys hmn st e0 hys
  obtain ⟨own, xs, hx, rx, E, io, fr, sb⟩ := st.ex
  cases m with
  | zero =>
    simp only [lc2L] at e0
    split at e0
    · rename_i ds e1
      split at e0
      · rename_i hl
        simp only [Option.some.injEq, Prod.mk.injEq] at e0
        obtain ⟨rfl, rfl⟩ := e0
        rw [List.append_nil] at hys
        subst hys
        exact .inl ⟨its_stop E io e1 (by omega), hEnd H st⟩
      · cases e0
    · cases e0
  | succ m =>
    simp only [lc2L] at e0
    split at e0
    case h_2 => cases e0
    rename_i ds e1
    split at e0
    case isFalse => cases e0
    rename_i hl
    split at e0
    case h_2 => cases e0
    rename_i d e2
    split at e0
    case h_2 => cases e0
    rename_i ρ1 e3
    split at e0
    case isFalse => cases e0
    rename_i hlen
    refine .inr ⟨its_go E io e1 (by omega), fun x H' y => ?_⟩
    obtain ⟨mv1, E1, r1⟩ := its_yld E io e1 e2 y
    refine ⟨Z, own, ρ, d, ρ1, E1, r1, e3, fun σ2 own2 mv2 E2 k2 => ⟨?_, ?_⟩⟩
    · rw [← hτ]
      exact wipe_kp (by rw [← E2.len, hlen, E.len]) k2 sub
    have hwτ : wipe σ2 vs = τ := by
      rw [← hτ]
      exact wipe_kp (by rw [← E2.len, hlen, E.len]) k2 sub
    have hDo : ∀ {own : OwnF} {ρ : DEnv} {σ : St} {H : Hp}, Est P w K Z ρ σ H own → ∀ i, Da ∉ own i := fun E i hi => E.nz i Da hi hD
    have mv02 := mv1.trans mv2
    split at e0
    · rename_i b1 ρ2 e4
      split at e0
      case h_2 => cases e0
      rename_i it1 ρ3 e5
      split at e0
      case h_2 => cases e0
      rename_i ds1 e6
      split at e0
      case isFalse => cases e0
      rename_i hh
      obtain ⟨hs1, hlim⟩ := hh
      split at e0
      case h_2 => cases e0
      rename_i ys1 ρ4 e7
      split at e0
      case h_2 => cases e0
      rename_i zs ρ5 e8
      simp only [Option.some.injEq, Prod.mk.injEq] at e0
      obtain ⟨rfl, rfl⟩ := e0
      have hs1' : ∀ i ∈ it1.sls, i ∉ vs1 := fun i hi z => by
        have := List.all_eq_true.mp hs1 i hi
        simp only [Bool.not_eq_true', List.contains_eq_mem, decide_eq_false_iff_not] at this
        exact this z
      refine ⟨Z, own2, ρ1, true, b1, ρ2, E2, e4, fun H3 own3 mv3 E3 => ?_⟩
      show ite (true = true) _ _
      rw [if_pos rfl]
      refine ⟨Z, own3, ρ2, it1, ρ3, E3, e5, fun J1 H4 own4 mv4 E4 io1 => ?_⟩
      have mv04 := (mv02.trans mv3).trans mv4
      have hx4 : H4 Da = some (.lst xs) := mv04.fr Da _ hx (hDo E)
      have st1 : LcSt P w K Z Da (wipe σ2 vs1) own4 H4 it1 J1 acc (wipeD ρ3 vs1) H4 := by
        refine ⟨ownW own4 vs1, xs, hx4, RepL.mono (fun b o e n => mv04.gg b o e n) (fun x hx => mv04.mm x (hx.imp id fun ⟨j, z⟩ => ⟨j, (ownW_sub z).1⟩)) _ _ rx, est_wipe E4, ?_, fun b o e _ _ => e, fun i x hx => .inl ⟨i, (ownW_sub hx).1⟩⟩
        exact ItsOk.mono (σ := σ2) (own := own4) (Z := Z) (H := H4) (fun b o e n => e) (fun x hx => .inl (hx.imp id fun ⟨j, z⟩ => ⟨j, (ownW_sub z).1⟩)) (fun i hi => wipe_out (hs1' i hi)) io1
      have hww : wipe (wipe σ2 vs1) vs = τ := by
        rw [← hwτ]
        exact wipe_kp (asg := vs1) (wipe_length σ2 vs1) (fun i h => wipe_out h) hv
      have loop := lc_loop (P := P) (w := w) (K := K)
        (asg := asg1) (g := g1) (t := t1) (e := e) (n := ds1.length) (N := acc.length + ds1.length) (ρe := ρ4) (ys0 := acc ++ ys1) (Z := Z) (own0 := own4) (H0 := H4) (J := J1) (it := it1) (vs := vs1) (τ := wipe σ2 vs1) (Da := Da)
        (End := fun H => 0 < m + 1 ∧ ∃ acc ρ ys, LcSt P w K Z Da τ own0 H0 it J acc ρ H ∧ lc2L it n g t fi1 g1 t1 e vs vs1 acc.length (m + 1 - 1) ρ = some (ys, ρ5) ∧ acc ++ ys = ys0)
        hD sub1 hs1' hlim wipe_wipe (fun H5 st5 => ?_)
      case refine_1 =>
        refine ⟨Nat.succ_pos _, acc ++ ys1, wipeD ρ4 vs, zs, ?_, ?_, by rw [List.append_assoc]; exact hys⟩
        · obtain ⟨own7, xs7, f1, f2, E7, _, f3, f4⟩ := st5.ex
          refine LcSt.from fr sb hD (LcSt.from (own1 := own4) (H1 := H4) (fun b o e hb _ => mv04.fr b o e hb) mv04.sb hD ⟨ownW own7 vs, xs7, f1, ?_, ?_, ?_, f3, fun i x hx => f4 i x (ownW_sub hx).1⟩)
          · exact RepL.mono (fun _ _ e _ => e) (fun x hx => .inl (hx.imp id fun ⟨j, z⟩ => ⟨j, (ownW_sub z).1⟩)) _ _ f2
          · rw [← hww]
            exact est_wipe E7
          · refine ItsOk.mono (σ := τ) (own := own) (Z := Z) (H := H) (fun b o e n => ?_) (fun x hx => ?_) (fun i hi => rfl) io
            · have hne : b ≠ Da := fun z => n (.inl (by rw [z]; exact hD))
              refine f3 b o (mv04.gg b o e n) (fun i hi => ?_) hne
              rcases mv04.sb i b hi with ⟨j, q⟩ | q
              · exact n (.inr ⟨j, q⟩)
              · rw [e] at q; cases q
            · rcases hx with hx | ⟨i, hx⟩
              · exact .inl (.inl hx)
              · rcases f4 i x (ownW_sub hx).1 with ⟨j, q⟩ | q
                · exact (mv04.sb j x q).imp (fun q => .inr q) id
                · exact (mv04.fresh (.inr q)).imp (fun q => .inr q) id
        · rw [List.length_append]; exact e8
      refine ⟨fun j k H' => k = ds1.length - j ∧ j ≤ ds1.length ∧ ∃ acc' ρ3' ys', acc'.length + (ds1.length - j) ≤ acc.length + ds1.length ∧ LcSt P w K Z Da (wipe σ2 vs1) own4 H4 it1 J1 acc' ρ3' H' ∧ lcL it1 ds1.length g1 t1 e vs1 (ds1.length - j) ρ3' = some (ys', ρ4) ∧ acc' ++ ys' = acc ++ ys1,
        ⟨ds1.length, rfl, Nat.zero_le _, acc, _, ys1, by simp, st1, e7, rfl⟩, ?_⟩
      rintro j k H' ⟨rfl, hj, acc', ρ3', ys', ha, st, e9, hy⟩
      have := loop (ds1.length - j) acc' ρ3' H' ys' (Nat.sub_le _ _) ha st e9 hy
      have ei : ds1.length - (ds1.length - j) = j := by omega
      rw [ei] at this
      rcases this with h | ⟨h1, h2⟩
      · exact .inl h
      · refine .inr ⟨h1, _, ?_, h2⟩
        rintro H6 ⟨hpos, acc4, ρ6, ys4, a1, a2, a3, a4⟩
        have e5 : ds1.length - j - 1 = ds1.length - (j + 1) := by omega
        rw [e5] at a1 a3
        exact ⟨ds1.length - (j + 1), by omega, rfl, by omega, acc4, ρ6, ys4, a1, a2, a3, a4⟩
    · rename_i b1 ρ2 e4
      refine ⟨Z, own2, ρ1, false, b1, ρ2, E2, e4, fun H3 own3 mv3 E3 => ?_⟩
      show ite (false = true) _ _
      rw [if_neg Bool.false_ne_true]
      have mv03 := mv02.trans mv3
      refine ⟨Nat.succ_pos _, acc, wipeD ρ2 vs, ys, LcSt.from fr sb hD ⟨ownW own3 vs, xs, mv03.fr Da _ hx (hDo E), ?_, ?_, ?_, fun b o e hb _ => mv03.fr b o e hb, fun i x hx => mv03.sb i x (ownW_sub hx).1⟩, by simpa using e0, hys⟩
      · exact RepL.mono (fun b o e n => mv03.gg b o e n) (fun x hx => mv03.mm x (hx.imp id fun ⟨j, z⟩ => ⟨j, (ownW_sub z).1⟩)) _ _ rx
      · rw [← hwτ]
        exact est_wipe E3
      · exact ItsOk.mono (σ := τ) (own := own) (Z := Z) (H := H) (fun b o e n => mv03.gg b o e n) (fun x hx => mv03.mm x (hx.imp id fun ⟨j, z⟩ => ⟨j, (ownW_sub z).1⟩)) (fun i hi => rfl) io
    · cases e0
theorem lc2_imp {t t1 e : EF} (hv : ∀ i ∈ vs1, i ∈ vs) : ∀ σ H Q, tE P w K (lc2F asg asg1 vs vs1 fi g t fi1 g1 t1 e) σ H Q → tLc2 (tI P w K fi) (tG P w K asg g) (tT P w K t) (tI P w K fi1) (tG P w K asg1 g1) (tT P w K t1) (tE P w K e) vs vs1 σ H Q :=
  fun σ H Q ⟨Z, own, ρ, r, ρ', E, e0, k⟩ => by
    simp only [lc2F] at e0
    split at e0
    case h_2 => cases e0
    rename_i it ρ1 e1
    split at e0
    case h_2 => cases e0
    rename_i ds e2
    split at e0
    case isFalse => cases e0
    rename_i hh
    obtain ⟨im, hsl, hsub, hsub1, _⟩ := hh
    split at e0
    case h_2 => cases e0
    rename_i ys ρ2 e3
    simp only [Option.some.injEq, Prod.mk.injEq] at e0
    obtain ⟨rfl, rfl⟩ := e0
    refine ⟨Z, own, ρ, it, ρ1, E, e1, fun J H1 own1 mv1 E1 io Da hD => ?_⟩
    have hsl' : ∀ i ∈ it.sls, i ∉ vs := fun i hi z => by
      have := List.all_eq_true.mp hsl i hi
      simp only [Bool.not_eq_true', List.contains_eq_mem, decide_eq_false_iff_not] at this
      exact this z
    have sub : ∀ i ∈ asg, i ∈ vs := fun i hi => by
      have := List.all_eq_true.mp hsub i hi
      simpa using this
    have sub1 : ∀ i ∈ asg1, i ∈ vs1 := fun i hi => by
      have := List.all_eq_true.mp hsub1 i hi
      simpa using this
    have st0 : LcSt P w K (Zp Z [Da]) Da (wipe σ vs) own1 H1 it J [] (wipeD ρ1 vs) (upd H1 Da (.lst [])) := by
      refine ⟨ownW own1 vs, [], upd_same, .nil, est_wipe (E1.grow (upd_grow hD) (mem1 hD) upd_there), ?_, fun b o e _ hne => by rw [upd_ne hne]; exact e, fun i x hx => .inl ⟨i, (ownW_sub hx).1⟩⟩
      refine ItsOk.mono (σ := σ) (own := own1) (Z := Z) (H := H1) (fun b o e n => upd_grow hD b o e) (fun x hx => ?_) (fun i hi => wipe_out (hsl' i hi)) io
      rcases hx with (hx | hx) | ⟨j, hx⟩
      · exact .inl (.inl hx)
      · exact .inr (mem1 hD x hx)
      · exact .inl (.inr ⟨j, (ownW_sub hx).1⟩)
    have loop := lc2_loop (End := fun H => Q (.ref Da) H) (asg := asg) (g := g) (t := t) (e := e) (fi1 := fi1) (asg1 := asg1) (g1 := g1) (t1 := t1) (vs1 := vs1) (n := ds.length) (ρe := ρ2) (ys0 := ys) (Z := Zp Z [Da]) (own0 := own1) (H0 := H1) (J := J) (it := it) (vs := vs) (τ := wipe σ vs) (P := P) (w := w) (K := K) (Da := Da)
      (.inr (List.mem_singleton.mpr rfl)) sub sub1 hv hsl' wipe_wipe (fun H2 st2 => by
        obtain ⟨own2, xs, mv2, E2, h1, h2⟩ := est_rest E1 im hD st2
        refine k _ H2 ⟨own2, [Da], mv1.trans mv2, E2, ⟨⟨Da, xs, [], rfl, h1, rfl, ownL0 h2⟩, by simp⟩, fun x hx => ?_⟩
        have e : x = Da := by simpa using hx
        subst e
        exact ⟨fun z => E1.zh x z hD, mv1.fresh (.inr hD)⟩)
    refine ⟨fun i m H' => m = ds.length - i ∧ i ≤ ds.length ∧ ∃ acc ρ3 ys', LcSt P w K (Zp Z [Da]) Da (wipe σ vs) own1 H1 it J acc ρ3 H' ∧ lc2L it ds.length g t fi1 g1 t1 e vs vs1 acc.length (ds.length - i) ρ3 = some (ys', ρ2) ∧ acc ++ ys' = ys,
      ⟨ds.length, rfl, Nat.zero_le _, [], _, ys, st0, e3, rfl⟩, ?_⟩
    rintro i m H' ⟨rfl, hi, acc, ρ3, ys', st, e4, hy⟩
    have := loop (ds.length - i) acc ρ3 H' ys' (Nat.sub_le _ _) st e4 hy
    have ei : ds.length - (ds.length - i) = i := by omega
    rw [ei] at this
    rcases this with h | ⟨h1, h2⟩
    · exact .inl h
    · refine .inr ⟨h1, _, ?_, h2⟩
      rintro H4 ⟨hpos, acc4, ρ4, ys4, a2, a3, a4⟩
      have e5 : ds.length - i - 1 = ds.length - (i + 1) := by omega
      rw [e5] at a3
      exact ⟨ds.length - (i + 1), by omega, rfl, by omega, acc4, ρ4, ys4, a2, a3, a4⟩
theorem r_lc2 {elt iter iter1 : Expr} {ifs ifs1 : List Expr} {scope : Scope} {bo : List (Str × Nat)} {pos : Pos} {t t1 e : EF} (hc : X.calm = true) (hN : X.N.Nodup) (hi : PI X tg iter (tI X.prog X.w X.K fi)) (ok : BlkOk X.N X.env.scope scope bo) (hv : ∀ i ∈ vs1, i ∈ bo.map (·.2))
    (hg : ∀ (s : Shared) (H : Hp) (C : Addr) (cl : List (Str × Addr)) (fp : List Addr), PG (X.blk s H scope (compEnvC scope cl C X.env) fp) tg (tG X.prog X.w X.K asg g)) (ht : ∀ (s : Shared) (H : Hp) (C : Addr) (cl : List (Str × Addr)) (fp : List Addr), PTs (X.blk s H scope (compEnvC scope cl C X.env) fp) ifs (tT X.prog X.w X.K t))
    (hi1 : ∀ (s : Shared) (H : Hp) (C : Addr) (cl : List (Str × Addr)) (fp : List Addr), PI (X.blk s H scope (compEnvC scope cl C X.env) fp) tg1 iter1 (tI X.prog X.w X.K fi1))
    (hg1 : ∀ (s : Shared) (H : Hp) (C : Addr) (cl : List (Str × Addr)) (fp : List Addr), PG (X.blk s H scope (compEnvC scope cl C X.env) fp) tg1 (tG X.prog X.w X.K asg1 g1)) (ht1 : ∀ (s : Shared) (H : Hp) (C : Addr) (cl : List (Str × Addr)) (fp : List Addr), PTs (X.blk s H scope (compEnvC scope cl C X.env) fp) ifs1 (tT X.prog X.w X.K t1))
    (he : ∀ (s : Shared) (H : Hp) (C : Addr) (cl : List (Str × Addr)) (fp : List Addr), PE (X.blk s H scope (compEnvC scope cl C X.env) fp) elt (tE X.prog X.w X.K e)) (hs : ∀ x, foldedSetIterable iter X.env x = pure x) (hs1 : ∀ env x, foldedSetIterable iter1 env x = pure x) :
    PE X (.ListComp elt [⟨tg, iter, ifs, 0⟩, ⟨tg1, iter1, ifs1, 0⟩] scope pos) (tE X.prog X.w X.K (lc2F asg asg1 (bo.map (·.2)) vs1 fi g t fi1 g1 t1 e)) :=
  (pe_lc2 hc hN hi ok hv hg ht hi1 hg1 ht1 he hs hs1).imp (lc2_imp hv)
end
end Dt
set_option Elab.async false
set_option linter.all false
set_option maxRecDepth 100000
set_option autoImplicit false
set_option maxHeartbeats 4000000
/-! The data layer, part 20: dict comprehensions with tuples as keys; a comprehension given to a local name. -/
namespace Dt
open PySem PySem.Spec L2
open PyProof.Rows hiding St

/-! ### the block (after HandS.DictComp's, for this layer's dicts) -/
section
variable {X : Cx}
/-- d[k] = v by a comprehension -/
theorem dic_dictSet {pins : List (Addr × Obj)} {σ : St} {H : Hp} {s : Shared} {E : Value → Shared → Prop} {a : Addr} {kvs : List (NestedKey × Addr × V)} {b : Addr} {k : NestedKey} {v : V} {u r : Value} {Q : Unit → Shared → Prop} (hu : X.A.units + 100 < cLine) (I : Inv X pins σ H s) (e : H a = some (dicO X.prog X.w a kvs)) (hk : KeyV X.prog X.w X.K H a kvs b k) (hl : kvs.length < sizeLine)
    (ry : RelV (.ref b) u) (rv : RelV v r) (h : ∀ s', Inv X pins σ (upd H a (dicO X.prog X.w a (putV k b v kvs))) s' → Q () s') : wpAny (model X.prog X.w) X.A (dictSet a u r) Q E s := by
  obtain ⟨h1, ⟨ds, h2⟩, dk, h3, h4, h5⟩ := hk
  obtain rfl : u = Value.ref b := ry
  obtain ⟨z, hz, xs, pr, dd⟩ := dic_at I h1 h2
  refine wpAny_dictSet_heap (hsz := by rw [← Paired.length pr]; exact hz) (show (nestedKind X.prog X.w).room X.A by show X.A.units + 8 < cLine; omega) (key_at I h3 h4 h5) dd fun h' dd' hs => ?_
  exact h _ (dic_write I _ e z (by have := putV_len k b v kvs; omega) (put_paired rv pr) dd' hs)
/-- {k: v for tg in iter if ..}: Da the new dict -/
def tDcN (P : Program) (w : World) (K : PySem.W.Frag) (wi : TI) (g : TG) (tt : TT) (tk tv : TE) (vs : List Nat) : TE := fun σ H Q => wi σ H fun J H1 => ∀ Da, H1 Da = none → ∃ W : Nat → Nat → Hp → Prop, (∃ m, W 0 m (upd H1 Da (dicO P w Da []))) ∧ ∀ i m H, W i m H →
  (J.stop i H ∧ Q (.ref Da) H) ∨ (J.go i H ∧ ∃ Nx : Hp → Prop, (∀ H', Nx H' → ∃ m', m' < m ∧ W (i + 1) m' H') ∧ ∀ x H', J.yld i H x H' → g x (wipe σ vs) H' fun σ2 H2 => wipe σ2 vs = wipe σ vs ∧ tt σ2 H2 fun b H3 =>
    if b = true then tk σ2 H3 fun y H4 => tv σ2 H4 fun z H5 => ∃ kvs b k, y = .ref b ∧ H5 Da = some (dicO P w Da kvs) ∧ KeyV P w K H5 Da kvs b k ∧ kvs.length < sizeLine ∧ Nx (upd H5 Da (dicO P w Da (putV k b z kvs))) else Nx H3)
theorem dcN_core (hu : X.A.units + 100 < cLine) {pins : List (Addr × Obj)} {s : Shared} {σ : St} {H : Hp} {Q : VK} {kx vx tg iter : Expr} {ifs : List Expr} {scope : Scope} {own : List (Str × Nat)} {pos pos' : Pos} {wi : TI} {g : TG} {tt : TT} {tk tv : TE} {use : Option (Value → Sem Unit)} {Qf : Value → Shared → Prop}
    (hc : X.calm = true) (hN : X.N.Nodup) (I : Inv X pins σ H s) (hi : PI X tg iter wi) (ok : BlkOk X.N X.env.scope scope own)
    (hg : ∀ (s : Shared) (H : Hp) (C : Addr) (cl : List (Str × Addr)) (fp : List Addr), PG (X.blk s H scope (compEnvC scope cl C X.env) fp) tg g) (ht : ∀ (s : Shared) (H : Hp) (C : Addr) (cl : List (Str × Addr)) (fp : List Addr), PTs (X.blk s H scope (compEnvC scope cl C X.env) fp) ifs tt)
    (hk : ∀ (s : Shared) (H : Hp) (C : Addr) (cl : List (Str × Addr)) (fp : List Addr), PE (X.blk s H scope (compEnvC scope cl C X.env) fp) kx tk)
    (he : ∀ (s : Shared) (H : Hp) (C : Addr) (cl : List (Str × Addr)) (fp : List Addr), PE (X.blk s H scope (compEnvC scope cl C X.env) fp) vx tv) (hs : ∀ x, foldedSetIterable iter X.env x = pure x)
    (h : tDcN X.prog X.w X.K wi g tt tk tv (own.map (·.2)) σ H Q)
    (hRR : ∀ D C s' m H', Inv X pins σ H' s' → Q (.ref D) H' → s'.heap.Ns C m → FpOk X pins H' C → compPost (model X.prog X.w) X.A X.xe use Qf (.ref D) C (.ok .next) s') :
    wpAny (model X.prog X.w) X.A (comprehension (.DictComp kx vx [⟨tg, iter, ifs, 0⟩] scope pos) scope X.env pos' newDict false (eval iter X.env) use) Qf X.xe s := by
  have hfree : ∀ y ∈ scope.names, y.2 = .free → ∃ c, X.env.cells.lookup y.1 = some c := fun y hy e => (ok.free y hy e).elim (fun k => I.ok.has _ (.inl k)) fun k => I.ok.has _ (.inr k)
  refine wpAny_comprehension_free (use := use) rfl hs (closure_ok hfree) ok.kind (fun y hy e => by rw [ok.uniq y hy, e])
    (thn (hi.run pins s σ H _ I h) fun xv s1 hx => thn hx fun itv s2 h2 => ?_)
  obtain ⟨it, fp, tn, J, H2, rfl, I2, T, st2, f2, q⟩ := h2
  refine wpAny_newObj_type (newEnv_comp ?_)
  generalize hD : s2.heap.objs.size = Da
  obtain ⟨W, ⟨m0, w0⟩, turn⟩ := q Da (I2.hok.fresh (Nat.le_of_eq hD))
  generalize hs3 : ({ s2 with heap := s2.heap.push { cls := .type "dict", data := .dict #[] } } : Shared) = s3
  have h3 : s3.heap = s2.heap.push { cls := .type "dict", data := .dict #[] } := by rw [← hs3]
  have kp3 : ∀ b o, s2.heap.get? b = some o → s3.heap.get? b = some o := fun b o e => by rw [h3]; exact Heap.get?_push_of_some _ e
  have I3 : Inv X pins σ (upd H2 Da (dicO X.prog X.w Da [])) s3 := by
    rw [← hs3]
    refine I2.laid (t' := s2.toks) (fun b o e => Heap.get?_push_of_some _ e) (Nat.le_of_eq hD) ?_
    rw [← hD]
    exact dicO_ok (dic_empty s2.heap I2.big)
  have f3 : ∀ b ∈ fp, FpOk X pins (upd H2 Da (dicO X.prog X.w Da [])) b ∧ b < s3.heap.objs.size := fun b hb => by
    obtain ⟨o, e, _⟩ := T.obj _ _ st2 b hb
    have hlt : b < s2.heap.objs.size := Heap.lt_size e
    refine ⟨⟨?_, (f2 b hb).2⟩, by rw [h3, Heap.size_push]; exact Nat.lt_succ_of_lt hlt⟩
    rw [upd_ne (by rw [← hD]; exact Nat.ne_of_lt hlt)]
    exact (f2 b hb).1
  have st3 : tn 0 s3.heap := T.keep _ _ _ st2 fun b _ o e => kp3 b o e
  generalize hH3 : upd H2 Da (dicO X.prog X.w Da []) = H3 at I3 w0 f3
  generalize hcl : cellsFrom (s3.heap.objs.size + 1) scope.names (cloFrom X.env.cells scope.names []) = cl
  generalize hce : compEnvC scope cl s3.heap.objs.size X.env = ce
  have I4 := block_start I3 ok hN f3
  rw [hcl, hce] at I4
  have pg := hg s3 H3 s3.heap.objs.size cl fp
  have pt := ht s3 H3 s3.heap.objs.size cl fp
  have pk := hk s3 H3 s3.heap.objs.size cl fp
  have pe := he s3 H3 s3.heap.objs.size cl fp
  rw [hce] at pg pt pk pe
  have cL : ce.locals = s3.heap.objs.size := by subst hce; rfl
  have nfp : ∀ b ∈ fp, H3 b = none := fun b hb => (f3 b hb).1.1
  generalize hs4 : ({ s3 with heap := pushCells (s3.heap.push { cls := .type "dict", data := .dict #[] }) scope.names } : Shared) = s4 at I4
  have st4 : tn 0 s4.heap := T.keep _ _ _ st3 fun b _ o e => by rw [← hs4]; exact pushCells_keeps _ _ _ _ (Heap.get?_push_of_some _ e)
  have stat : ∀ {σ' : St} {H' : Hp} {s' : Shared}, Inv (X.blk s3 H3 scope ce fp) [] σ' H' s' → (∀ b ∈ fp, H' b = none) → ∀ b ∈ fp, FpOk (X.blk s3 H3 scope ce fp) [] H' b := fun {σ' H' s'} I' hn b hb =>
    ⟨hn b hb, (I'.ok.exf b hb).1, I'.ok.exfs b hb, .inl hb, fun x c e => (I'.ok.exf b hb).2 x c e, fun p hp => absurd (show p ∈ ([] : List (Addr × Obj)) ++ [] from hp) (by simp)⟩
  have loop : codeAny (model X.prog X.w) X.A (.compLoop (.DictComp kx vx [⟨tg, iter, ifs, 0⟩] scope pos) 0 (.ref it) (.ref Da) ce) (compPost (model X.prog X.w) X.A X.xe use Qf (.ref Da) s3.heap.objs.size) s4 := by
    refine compLoop_anyD (fun n s' => ∃ i H', Inv (X.blk s3 H3 scope ce fp) [] (wipe σ (own.map (·.2))) H' s' ∧ tn i s'.heap ∧ (∀ b ∈ fp, H' b = none) ∧ W i n H') ?_ m0 ⟨0, H3, I4, st4, nfp, w0⟩
    rintro n s5 ⟨i, H5, I5, st5, n5, w5⟩
    rcases turn i n H5 w5 with ⟨stop, qq⟩ | ⟨go, Nx, hNx, step⟩
    · refine thnF (T.done (X.blk s3 H3 scope ce fp) rfl rfl rfl hc i [] s5 _ H5 (fun _ _ => False) I5 (stat I5 n5) st5 stop) fun r s6 ⟨hr, I6⟩ => ?_
      subst hr
      have I7 : Inv X pins σ H5 s6 := I3.call' (ch := fp) I6.os I6.base I6.hok I6.bare fun b hb => ⟨(f3 b hb).1.2.2.2.1, (f3 b hb).1.2.1, (f3 b hb).1.2.2.2.2.1, (f3 b hb).1.2.2.2.2.2⟩
      have nC : H5 s3.heap.objs.size = none := by rw [← cL]; exact I6.free
      obtain ⟨m, hn, _⟩ := I6.loc
      have hn : s6.heap.Ns ce.locals m := hn
      rw [cL] at hn
      exact hRR Da s3.heap.objs.size s6 m H5 I7 qq hn (I3.fpOk (Nat.le_refl _) nC)
    · refine thnF (T.item (X.blk s3 H3 scope ce fp) rfl rfl rfl hc i [] s5 _ H5 (fun _ _ => False) I5 (stat I5 n5) st5 go) fun r s6 ⟨u, hr, h6⟩ => ?_
      subst hr
      refine thnF h6 fun _ s7 ⟨x, H7, I7, r7, y7, st7, n7⟩ => ?_
      refine thnF (pg.run _ s7 _ H7 x u _ (I7.pinned (stat I7 n7) (T.obj _ _ st7)) r7 (step x H7 y7)) fun _ s8 ⟨σ8, H8, I8, hw8, q8⟩ => ?_
      refine thnF (pt.run _ s8 σ8 H8 _ I8 q8) fun b s9 ⟨H9, I9, q9⟩ => ?_
      have fin : ∀ {s' : Shared} {H' : Hp}, Inv (X.blk s3 H3 scope ce fp) ([] ++ pinsAt fp s7.heap) σ8 H' s' → Nx H' → ∃ m, m < n ∧ ∃ i H', Inv (X.blk s3 H3 scope ce fp) [] (wipe σ (own.map (·.2))) H' s' ∧ tn i s'.heap ∧ (∀ b ∈ fp, H' b = none) ∧ W i m H' := fun {s' H'} I' nx => by
        obtain ⟨m', hm, w'⟩ := hNx H' nx
        have pin' : ∀ b ∈ fp, ∀ o, s7.heap.get? b = some o → s'.heap.get? b = some o ∧ H' b = none := fun b hb o e =>
          let z := I'.pin (b, o) (List.mem_append_right _ (List.mem_append_right _ (mem_pinsAt hb e)))
          ⟨z.1, z.2.1⟩
        refine ⟨m', hm, i + 1, H', (I'.unpinned (pins := [])).weak (by rw [← hw8, wipe_length]) (fun j v e => (wipe_some (vs := own.map (·.2)) (by rw [hw8]; exact e)).1), T.keep _ _ _ st7 fun b hb o e => (pin' b hb o e).1, fun b hb => ?_, w'⟩
        obtain ⟨o, e, _⟩ := T.obj _ _ st7 b hb
        exact (pin' b hb o e).2
      cases b with
      | false =>
        simp only [Bool.false_eq_true, if_false] at q9 ⊢
        exact fin I9 q9
      | true =>
        simp only [if_true] at q9 ⊢
        refine thnF (pk.run _ s9 σ8 H9 _ I9 q9) fun z s10 ⟨yk, H10, I10, r10, q10⟩ => ?_
        refine thnF (pe.run _ s10 σ8 H10 _ I10 q10) fun z2 s11 ⟨yv, H11, I11, r11, kvs, b, k, ek, hD11, hkk, hz11, nx⟩ => ?_
        subst ek
        exact dic_dictSet (X := X.blk s3 H3 scope ce fp) hu I11 hD11 hkk hz11 r10 r11 fun s12 I12 => fin I12 nx
  have fin := codeAny_compStart_dict loop (T.self X.A 0 _ _ _ st4 loop)
  subst hcl hce hs4
  exact fin
theorem pe_dcN (hu : X.A.units + 100 < cLine) {kx vx tg iter : Expr} {ifs : List Expr} {scope : Scope} {own : List (Str × Nat)} {pos : Pos} {wi : TI} {g : TG} {tt : TT} {tk tv : TE} (hc : X.calm = true) (hN : X.N.Nodup) (hi : PI X tg iter wi) (ok : BlkOk X.N X.env.scope scope own)
    (hg : ∀ (s : Shared) (H : Hp) (C : Addr) (cl : List (Str × Addr)) (fp : List Addr), PG (X.blk s H scope (compEnvC scope cl C X.env) fp) tg g) (ht : ∀ (s : Shared) (H : Hp) (C : Addr) (cl : List (Str × Addr)) (fp : List Addr), PTs (X.blk s H scope (compEnvC scope cl C X.env) fp) ifs tt)
    (hk : ∀ (s : Shared) (H : Hp) (C : Addr) (cl : List (Str × Addr)) (fp : List Addr), PE (X.blk s H scope (compEnvC scope cl C X.env) fp) kx tk)
    (he : ∀ (s : Shared) (H : Hp) (C : Addr) (cl : List (Str × Addr)) (fp : List Addr), PE (X.blk s H scope (compEnvC scope cl C X.env) fp) vx tv) (hs : ∀ x, foldedSetIterable iter X.env x = pure x) :
    PE X (.DictComp kx vx [⟨tg, iter, ifs, 0⟩] scope pos) (tDcN X.prog X.w X.K wi g tt tk tv (own.map (·.2))) := by
  refine ⟨fun pins s σ H Q I h => ?_⟩
  rw [arm_eval_DictComp]
  refine dcN_core hu hc hN I hi ok hg ht hk he hs h fun D C s' m H' I' q hn f => ⟨m, hn, fun h'' sb => ?_⟩
  obtain ⟨f0, f1, f2, f3, f4, f5⟩ := f
  exact ⟨.ref D, H', I'.turned (t' := s'.toks) (fun b o hb e => (sb.2 b hb).trans e) f0 f1 f3 f4 f5, rfl, q⟩
theorem ps_setDcN (hu : X.A.units + 100 < cLine) {i : Nat} {y : Str} {py spos : Pos} {kx vx tg iter : Expr} {ifs : List Expr} {scope : Scope} {own : List (Str × Nat)} {pos : Pos} {wi : TI} {g : TG} {tt : TT} {tk tv : TE} (hc : X.calm = true) (hN : X.N.Nodup) (hy : X.N[i]? = some y) (hyl : X.env.scope.names.lookup y = some .local)
    (hsw : swapsWith (.DictComp kx vx [⟨tg, iter, ifs, 0⟩] scope pos) (some (.Name y py)) spos.line X.env = pure true) (hi : PI X tg iter wi) (ok : BlkOk X.N X.env.scope scope own)
    (hg : ∀ (s : Shared) (H : Hp) (C : Addr) (cl : List (Str × Addr)) (fp : List Addr), PG (X.blk s H scope (compEnvC scope cl C X.env) fp) tg g) (ht : ∀ (s : Shared) (H : Hp) (C : Addr) (cl : List (Str × Addr)) (fp : List Addr), PTs (X.blk s H scope (compEnvC scope cl C X.env) fp) ifs tt)
    (hk : ∀ (s : Shared) (H : Hp) (C : Addr) (cl : List (Str × Addr)) (fp : List Addr), PE (X.blk s H scope (compEnvC scope cl C X.env) fp) kx tk)
    (he : ∀ (s : Shared) (H : Hp) (C : Addr) (cl : List (Str × Addr)) (fp : List Addr), PE (X.blk s H scope (compEnvC scope cl C X.env) fp) vx tv) (hs : ∀ x, foldedSetIterable iter X.env x = pure x) :
    PS X (.Assign [.Name y py] (.DictComp kx vx [⟨tg, iter, ifs, 0⟩] scope pos) spos) (tAsg (tDcN X.prog X.w X.K wi g tt tk tv (own.map (·.2))) (gName i)) := by
  refine ⟨fun pins s σ H D I h => ?_⟩
  rw [exec_Assign_Name_used _ _ _ _ hsw]
  refine wpAny_bind (wpAny_standAt (wpAny_bind ?_))
  show wpAny _ X.A (do let _ ← comprehension (.DictComp kx vx [⟨tg, iter, ifs, 0⟩] scope pos) scope X.env (firstIterPos [⟨tg, iter, ifs, 0⟩] pos) newDict false (eval iter X.env) (some (assign (.Name y py) X.env))) _ _ s
  have h : tDcN X.prog X.w X.K wi g tt tk tv (own.map (·.2)) σ H (fun x H1 => gName i x σ H1 D.nx) := h
  refine wpAny_bind (thn (dcN_core hu (Qf := fun _ s' => SP X pins D .next s') hc hN I hi ok hg ht hk he hs h fun L C s' m H' I' q hn f => ?_) fun _ s' hq => wpAny_pure (wpAny_pure hq))
  show wpAny _ _ (assign (.Name y py) X.env (.ref L)) _ _ _
  refine wpAny_assign_Name (store_ok2 (v := V.ref L) I' hN hy (.inl hyl) rfl (fun s2 I2 ⟨a, sb, ha⟩ => ?_) (.inr hyl))
  obtain ⟨f0, f1, f2, f3, f4, f5⟩ := f
  have haC : C ≠ a := ha.elim (fun z => by rw [z]; exact f1) fun z e => f4 y a z e.symm
  refine ⟨m, hn.sameBut sb haC, fun h3 sb3 => ?_⟩
  exact ⟨_, H', I2.turned (t' := s2.toks) (fun b o hb e => (sb3.2 b hb).trans e) f0 f1 f3 f4 f5, q⟩
end

/-! ### on trees -/
/-- a key, a value read -/
def dcL (it : Its) (n : Nat) (g : GF) (t fk fv : EF) (vs : List Nat) : Nat → List (D × D) → DEnv → Option (List (D × D) × DEnv)
  | 0, acc, ρ => match it.get ρ with
    | some ds => if ds.length = n then some (acc, ρ) else none
    | none => none
  | m + 1, acc, ρ => match it.get ρ with
    | some ds => if ds.length = n then match ds[n - (m + 1)]? with
      | some d => match g d ρ with
        | some ρ1 => if ρ1.length = ρ.length then match t ρ1 with
          | some (.own (.bl true) _, ρ2) => match fk ρ2 with
            | some (.own (.tup ks) _, ρ3) => match fv ρ3 with
              | some (r, ρ4) => if isEnt r = true then none else match esc r ρ4 with
                | some (dv, ρ5) => match (D.tup ks).key with
                  | some k => if k.depth ≤ 8 ∧ acc.length < LIM then dcL it n g t fk fv vs m (putD k (.tup ks) dv acc) (wipeD ρ5 vs) else none
                  | none => none
                | none => none
              | none => none
            | _ => none
          | some (.own (.bl false) _, ρ2) => dcL it n g t fk fv vs m acc (wipeD ρ2 vs)
          | _ => none else none
        | none => none
      | none => none else none
    | none => none
def dcF (asg vs : List Nat) (fi : IF) (g : GF) (t fk fv : EF) : EF := fun ρ => match fi ρ with
  | some (it, ρ1) => match it.get ρ1 with
    | some ds => if vs.all (fun i => immSlot ρ1[i]?) = true ∧ it.sls.all (fun i => !vs.contains i) = true ∧ asg.all (fun i => vs.contains i) = true then
      match dcL it ds.length g t fk fv vs ds.length [] (wipeD ρ1 vs) with
      | some (ys, ρ2) => some (.own (.dic ys) 1, restD ρ1 ρ2 vs)
      | none => none else none
    | none => none
  | none => none
end Dt
set_option Elab.async false
set_option linter.all false
set_option maxRecDepth 100000
set_option autoImplicit false
set_option maxHeartbeats 4000000
/-! The data layer, part 21: dict comprehensions on trees; assignments. -/
namespace Dt
open PySem PySem.Spec L2
open PyProof.Rows hiding St

section
variable {X : Cx} {P : Program} {w : World} {K : PySem.W.Frag} {fa fb fc : EF} {fs : AF} {f : SF} {g g1 : GF} {gs : GsF} {fi fi1 : IF} {Z Z0 Z1 Z' : Addr → Prop} {ρ ρ1 ρ2 ρ' ρe : DEnv} {σ σ' σ2 : St} {H H' H1 : Hp} {own own1 own' : OwnF} {fr : Bool} {asg asg1 asg2 vs vs1 : List Nat} {tg tg1 : Expr}

theorem est_back {Da : Addr} (E : Est P w K Z ρ σ H own) (im : vs.all (fun i => immSlot ρ[i]?) = true) (hD : H Da = none) (E1 : Est P w K (Zp Z [Da]) ρe (wipe σ vs) H' own1) (mv : Mv own H own1 H') : Est P w K (Zp Z [Da]) (restD ρ ρe vs) σ H' own1 := by
  have no : ∀ i ∈ vs, own1 i = [] := fun i hi => E1.em i fun d n q => by
    obtain ⟨v, q1, _⟩ := E1.sl i d n q
    exact (wipe_some q1).2 hi
  refine ⟨?_, fun i d n e => ?_, fun i hi => ?_, E1.nd, E1.dj, E1.nz, E1.zh, E1.oh⟩
  · rw [restD_len, E1.len, wipe_length]
  · by_cases h : i ∈ vs
    · have q := restD_in h e
      obtain ⟨v, q1, q2⟩ := E.sl i d n q
      have hi : isImm d = true := by
        have := List.all_eq_true.mp im i h
        rw [q] at this
        exact this
      obtain ⟨_, q3⟩ := imm_own hi q2
      rw [no i h]
      refine ⟨v, q1, own_imm hi (Rep.mono (mv.gg (Z := Z)) (fun x hx => ?_) d v q3)⟩
      rcases hx with (hx | hx) | ⟨j, hx⟩
      · exact .inl (.inl hx)
      · exact .inr (mem1 hD x hx)
      · exact (mv.sb j x hx).imp (fun q => .inr q) id
    · rw [restD_out h] at e
      obtain ⟨v, q1, q2⟩ := E1.sl i d n e
      exact ⟨v, by rw [wipe_out h] at q1; exact q1, q2⟩
  · by_cases h : i ∈ vs
    · exact no i h
    · exact E1.em i fun d n q => hi d n (by rw [restD_out h]; exact q)

structure DcSt (P : Program) (w : World) (K : PySem.W.Frag) (Z : Addr → Prop) (Da : Addr) (σ : St) (own0 : OwnF) (H0 : Hp) (it : Its) (J : It) (acc : List (D × D)) (ρ : DEnv) (H : Hp) : Prop where
  ex : ∃ own kvs, H Da = some (dicO P w Da kvs) ∧ RepK P w K H (Mz Z own) kvs acc ∧ Est P w K Z ρ σ H own ∧ ItsOk P w K Z own σ H it J ∧ (∀ b o, H0 b = some o → (∀ i, b ∉ own0 i) → b ≠ Da → H b = some o) ∧ ∀ i x, x ∈ own i → (∃ j, x ∈ own0 j) ∨ H0 x = none
theorem dc_loop {it : Its} {J : It} {n : Nat} {Da : Addr} {own0 : OwnF} {H0 : Hp} {t fk fv : EF} {τ : St} {End : Hp → Prop} {ys0 : List (D × D)} {ρe : DEnv} (hD : Z Da) (sub : ∀ i ∈ asg, i ∈ vs) (hsl : ∀ i ∈ it.sls, i ∉ vs) (hτ : wipe τ vs = τ)
    (hEnd : ∀ H, DcSt P w K Z Da τ own0 H0 it J ys0 ρe H → End H) :
    ∀ (m : Nat) (acc : List (D × D)) (ρ : DEnv) (H : Hp), m ≤ n → DcSt P w K Z Da τ own0 H0 it J acc ρ H → dcL it n g t fk fv vs m acc ρ = some (ys0, ρe) →
      (J.stop (n - m) H ∧ End H) ∨ (J.go (n - m) H ∧ ∀ x H', J.yld (n - m) H x H' → tG P w K asg g x τ H' fun σ2 H2 => wipe σ2 vs = τ ∧ tT P w K t σ2 H2 fun b H3 =>
        if b = true then tE P w K fk σ2 H3 fun y H4 => tE P w K fv σ2 H4 fun z H5 => ∃ kvs b k, y = .ref b ∧ H5 Da = some (dicO P w Da kvs) ∧ KeyV P w K H5 Da kvs b k ∧ kvs.length < sizeLine ∧
          (0 < m ∧ ∃ acc ρ, DcSt P w K Z Da τ own0 H0 it J acc ρ (upd H5 Da (dicO P w Da (putV k b z kvs))) ∧ dcL it n g t fk fv vs (m - 1) acc ρ = some (ys0, ρe))
        else (0 < m ∧ ∃ acc ρ, DcSt P w K Z Da τ own0 H0 it J acc ρ H3 ∧ dcL it n g t fk fv vs (m - 1) acc ρ = some (ys0, ρe))) := by
  intro m acc ρ H hmn st e0
  obtain ⟨own, xs, hx, rx, E, io, fr, sb⟩ := st.ex
  cases m with
  | zero =>
    simp only [dcL] at e0
    split at e0
    · rename_i ds e1
      split at e0
      · rename_i hl
        simp only [Option.some.injEq, Prod.mk.injEq] at e0
        obtain ⟨rfl, rfl⟩ := e0
        exact .inl ⟨its_stop E io e1 (by omega), hEnd H st⟩
      · cases e0
    · cases e0
  | succ m =>
    simp only [dcL] at e0
    split at e0
    case h_2 => cases e0
    rename_i ds e1
    split at e0
    case isFalse => cases e0
    rename_i hl
    split at e0
    case h_2 => cases e0
    rename_i d e2
    split at e0
    case h_2 => cases e0
    rename_i ρ1 e3
    split at e0
    case isFalse => cases e0
    rename_i hlen
    refine .inr ⟨its_go E io e1 (by omega), fun x H' y => ?_⟩
    obtain ⟨mv1, E1, r1⟩ := its_yld E io e1 e2 y
    refine ⟨Z, own, ρ, d, ρ1, E1, r1, e3, fun σ2 own2 mv2 E2 k2 => ⟨?_, ?_⟩⟩
    · rw [← hτ]
      exact wipe_kp (by rw [← E2.len, hlen, E.len]) k2 sub
    have hwτ : wipe σ2 vs = τ := by
      rw [← hτ]
      exact wipe_kp (by rw [← E2.len, hlen, E.len]) k2 sub
    have hDo : ∀ {own : OwnF} {ρ : DEnv} {σ : St} {H : Hp}, Est P w K Z ρ σ H own → ∀ i, Da ∉ own i := fun E i hi => E.nz i Da hi hD
    have mv02 := mv1.trans mv2
    split at e0
    · rename_i b1 ρ2 e4
      split at e0
      case h_2 => cases e0
      rename_i ks nk ρ3 e5
      split at e0
      case h_2 => cases e0
      rename_i r ρ4 e6
      split at e0
      · cases e0
      rename_i ne
      split at e0
      case h_2 => cases e0
      rename_i dv ρ5 e7
      split at e0
      case h_2 => cases e0
      rename_i k ek
      split at e0
      case isFalse => cases e0
      rename_i hdl
      refine ⟨Z, own2, ρ1, true, b1, ρ2, E2, e4, fun H3 own3 mv3 E3 => ?_⟩
      show ite (true = true) _ _
      rw [if_pos rfl]
      refine ⟨Z, own3, ρ2, _, ρ3, E3, e5, fun kv H4 ⟨own4, A4, mv4, E4, ro4, hA4⟩ => ?_⟩
      obtain ⟨rfl, rk⟩ := imm_own (d := .tup ks) rfl ro4.1
      have E4 := E4.drop
      have rk : Rep P w K H4 (Mz Z own4) kv (.tup ks) := Rep.mono (fun _ _ e _ => e) (fun x hx => .inl (hx.imp (fun q => .inl q) id)) _ _ rk
      refine ⟨Z, own4, ρ3, r, ρ4, E4, e6, fun yv H5 ⟨own5, A, mv5, E5, ro, hA⟩ => ?_⟩
      have mv05 := ((mv02.trans mv3).trans mv4).trans mv5
      have v5 : ValOk P w K Z (Zp Z A) own5 σ2 H5 r yv := ro.val (by simpa using ne) (fun _ h => h) fun x hx => (hA x hx).1
      obtain ⟨own6, E6, s6, ry⟩ := esc_ok E5 (fun x h => .inl h) v5 e7
      have E6 := E6.drop
      have mv06 := mv05.less s6
      have hx5 : H5 Da = some (dicO P w Da xs) := mv05.fr Da _ hx (hDo E)
      have rx5 := RepK.mono (mv06.gg (Z := Z)) (mv06.mm) _ _ rx
      have rk5 : Rep P w K H5 (Mz Z own6) kv (.tup ks) := Rep.mono ((mv5.less s6).gg (Z := Z)) ((mv5.less s6).mm) _ _ rk
      obtain ⟨b, rfl⟩ := key_of_tup (Rep.see rk5)
      refine ⟨xs, b, k, rfl, hx5, keyV_of (.inl hx5) rx5 (Rep.see rk5) ek hdl.1, by rw [repK_len rx, sizeLine_eq]; exact hdl.2, Nat.succ_pos _, putD k (.tup ks) dv acc, wipeD ρ5 vs, ⟨ownW own6 vs, putV k b yv xs, upd_same, ?_, ?_, ?_, ?_, ?_⟩, by simpa using e0⟩
      · have gg : ∀ b' o, H5 b' = some o → ¬ Mz Z own6 b' → upd H5 Da (dicO P w Da (putV k b yv xs)) b' = some o := fun b' o e n => by
          rw [upd_ne fun z => n (.inl (by rw [z]; exact hD))]; exact e
        have mm : ∀ x, Mz Z (ownW own6 vs) x → Mz Z own6 x ∨ H5 x = none := fun x hx => .inl (hx.imp id fun ⟨j, z⟩ => ⟨j, (ownW_sub z).1⟩)
        exact put_rep (Rep.mono gg mm _ _ rk5) ek hdl.1 (Rep.mono gg mm _ _ ry) (RepK.mono gg mm _ _ rx5)
      · rw [← hwτ]
        exact est_wipe (est_at E6 hD)
      · refine ItsOk.mono (σ := τ) (own := own) (Z := Z) (H := H) (fun b o e n => ?_) (fun x hx => ?_) (fun i hi => rfl) io
        · rw [upd_ne fun z => n (.inl (by rw [z]; exact hD))]; exact mv06.gg b o e n
        · exact mv06.mm x (hx.imp id fun ⟨j, z⟩ => ⟨j, (ownW_sub z).1⟩)
      · intro b o e hb hne
        rw [upd_ne hne]
        refine mv06.fr b o (fr b o e hb hne) fun i hi => ?_
        rcases sb i b hi with ⟨j, q⟩ | q
        · exact hb j q
        · rw [e] at q; cases q
      · intro i x hx
        have hx := (ownW_sub hx).1
        rcases mv06.sb i x hx with ⟨j, q⟩ | q
        · exact sb j x q
        · by_cases h : ∃ j, x ∈ own0 j
          · exact .inl h
          · refine .inr ?_
            cases e : H0 x with
            | none => rfl
            | some o =>
              have hne : x ≠ Da := fun z => E6.nz i x hx (by rw [z]; exact hD)
              rw [fr x o e (fun j hj => h ⟨j, hj⟩) hne] at q; cases q
    · rename_i b1 ρ2 e4
      refine ⟨Z, own2, ρ1, false, b1, ρ2, E2, e4, fun H3 own3 mv3 E3 => ?_⟩
      show ite (false = true) _ _
      rw [if_neg Bool.false_ne_true]
      have mv03 := mv02.trans mv3
      refine ⟨Nat.succ_pos _, acc, wipeD ρ2 vs, ⟨ownW own3 vs, xs, mv03.fr Da _ hx (hDo E), ?_, ?_, ?_, ?_, ?_⟩, by simpa using e0⟩
      · exact RepK.mono (fun b o e n => mv03.gg b o e n) (fun x hx => mv03.mm x (hx.imp id fun ⟨j, z⟩ => ⟨j, (ownW_sub z).1⟩)) _ _ rx
      · rw [← hwτ]
        exact est_wipe E3
      · exact ItsOk.mono (σ := τ) (own := own) (Z := Z) (H := H) (fun b o e n => mv03.gg b o e n) (fun x hx => mv03.mm x (hx.imp id fun ⟨j, z⟩ => ⟨j, (ownW_sub z).1⟩)) (fun i hi => rfl) io
      · intro b o e hb hne
        refine mv03.fr b o (fr b o e hb hne) fun i hi => ?_
        rcases sb i b hi with ⟨j, q⟩ | q
        · exact hb j q
        · rw [e] at q; cases q
      · intro i x hx
        have hx := (ownW_sub hx).1
        rcases mv03.sb i x hx with ⟨j, q⟩ | q
        · exact sb j x q
        · by_cases h : ∃ j, x ∈ own0 j
          · exact .inl h
          · refine .inr ?_
            cases e : H0 x with
            | none => rfl
            | some o =>
              have hne : x ≠ Da := fun z => E3.nz i x hx (by rw [z]; exact hD)
              rw [fr x o e (fun j hj => h ⟨j, hj⟩) hne] at q; cases q
    · cases e0
theorem dc_imp {t fk fv : EF} : ∀ σ H Q, tE P w K (dcF asg vs fi g t fk fv) σ H Q → tDcN P w K (tI P w K fi) (tG P w K asg g) (tT P w K t) (tE P w K fk) (tE P w K fv) vs σ H Q :=
  fun σ H Q ⟨Z, own, ρ, r, ρ', E, e0, k⟩ => by
    simp only [dcF] at e0
    split at e0
    case h_2 => cases e0
    rename_i it ρ1 e1
    split at e0
    case h_2 => cases e0
    rename_i ds e2
    split at e0
    case isFalse => cases e0
    rename_i hh
    obtain ⟨im, hsl, hsub⟩ := hh
    split at e0
    case h_2 => cases e0
    rename_i ys ρ2 e3
    simp only [Option.some.injEq, Prod.mk.injEq] at e0
    obtain ⟨rfl, rfl⟩ := e0
    refine ⟨Z, own, ρ, it, ρ1, E, e1, fun J H1 own1 mv1 E1 io Da hD => ?_⟩
    have hsl' : ∀ i ∈ it.sls, i ∉ vs := fun i hi z => by
      have := List.all_eq_true.mp hsl i hi
      simp only [Bool.not_eq_true', List.contains_eq_mem, decide_eq_false_iff_not] at this
      exact this z
    have sub : ∀ i ∈ asg, i ∈ vs := fun i hi => by
      have := List.all_eq_true.mp hsub i hi
      simpa using this
    have st0 : DcSt P w K (Zp Z [Da]) Da (wipe σ vs) own1 H1 it J [] (wipeD ρ1 vs) (upd H1 Da (dicO P w Da [])) := by
      refine ⟨ownW own1 vs, [], upd_same, .nil, est_wipe (E1.grow (upd_grow hD) (mem1 hD) upd_there), ?_, fun b o e _ hne => by rw [upd_ne hne]; exact e, fun i x hx => .inl ⟨i, (ownW_sub hx).1⟩⟩
      refine ItsOk.mono (σ := σ) (own := own1) (Z := Z) (H := H1) (fun b o e n => upd_grow hD b o e) (fun x hx => ?_) (fun i hi => wipe_out (hsl' i hi)) io
      rcases hx with (hx | hx) | ⟨j, hx⟩
      · exact .inl (.inl hx)
      · exact .inr (mem1 hD x hx)
      · exact .inl (.inr ⟨j, (ownW_sub hx).1⟩)
    have loop := dc_loop (End := fun H => Q (.ref Da) H) (asg := asg) (g := g) (t := t) (fk := fk) (fv := fv) (n := ds.length) (ρe := ρ2) (ys0 := ys) (Z := Zp Z [Da]) (own0 := own1) (H0 := H1) (J := J) (it := it) (vs := vs) (τ := wipe σ vs) (P := P) (w := w) (K := K) (Da := Da)
      (.inr (List.mem_singleton.mpr rfl)) sub hsl' wipe_wipe (fun H2 st2 => by
        obtain ⟨own2, kvs, h1, h2, E2, _, fr2, sb2⟩ := st2.ex
        have mv2 : Mv own1 H1 own2 H2 := ⟨fun b o e hb => fr2 b o e hb (fun z => by rw [z, hD] at e; cases e), sb2⟩
        refine k _ H2 ⟨own2, [Da], mv1.trans mv2, est_back E1 im hD E2 mv2, ⟨⟨Da, kvs, [], rfl, h1, rfl, ownK0 h2⟩, by simp⟩, fun x hx => ?_⟩
        have e : x = Da := by simpa using hx
        subst e
        exact ⟨fun z => E1.zh x z hD, mv1.fresh (.inr hD)⟩)
    refine ⟨fun i m H' => m = ds.length - i ∧ i ≤ ds.length ∧ ∃ acc ρ3, DcSt P w K (Zp Z [Da]) Da (wipe σ vs) own1 H1 it J acc ρ3 H' ∧ dcL it ds.length g t fk fv vs (ds.length - i) acc ρ3 = some (ys, ρ2),
      ⟨ds.length, rfl, Nat.zero_le _, [], _, st0, e3⟩, ?_⟩
    rintro i m H' ⟨rfl, hi, acc, ρ3, st, e4⟩
    have := loop (ds.length - i) acc ρ3 H' (Nat.sub_le _ _) st e4
    have ei : ds.length - (ds.length - i) = i := by omega
    rw [ei] at this
    rcases this with h | ⟨h1, h2⟩
    · exact .inl h
    · refine .inr ⟨h1, _, ?_, h2⟩
      rintro H4 ⟨hpos, acc4, ρ4, a2, a3⟩
      have e5 : ds.length - i - 1 = ds.length - (i + 1) := by omega
      rw [e5] at a3
      exact ⟨ds.length - (i + 1), by omega, rfl, by omega, acc4, ρ4, a2, a3⟩

/-! ### assignments -/
/-- name = e, from what e is known to do -/
theorem set_imp {i : Nat} {te : TE} (h : ∀ σ H Q, tE P w K fa σ H Q → te σ H Q) : ∀ D σ H, tS P w K [i] (setF i fa) D σ H → tAsg te (gName i) D σ H := fun D σ H ⟨Z, own, ρ, fuel, out, E, e, k⟩ => by
  simp only [setF] at e
  split at e
  · rename_i r ρ1 e1
    split at e
    · rename_i ρ2 e2
      simp only [Option.some.injEq] at e
      subst e
      refine h _ _ _ ⟨Z, own, ρ, r, ρ1, E, e1, fun v H1 ⟨own1, A, mv, E1, ro, hA⟩ => ?_⟩
      obtain ⟨own2, mv2, E2⟩ := asgR_ok mv E1 ro hA e2
      exact k _ H1 own2 mv2 E2 (Kp.set (by simp))
    · cases e
  · cases e
/-- target = e, the value frozen -/
def asgF (g : GF) (e : EF) : SF := fun _ ρ => match e ρ with
  | some (r, ρ1) => if isEnt r = true then none else match esc r ρ1 with
    | some (d, ρ2) => match g d ρ2 with
      | some ρ3 => some (.nx ρ3)
      | none => none
    | none => none
  | none => none
theorem s_asg {e : Expr} {pos : Pos} (he : PE X e (tE X.prog X.w X.K fa)) (hg : PG X tg (tG X.prog X.w X.K asg g)) (hs : swapsWithSole [tg] e pos.line X.env = pure false) (hw : swappedStores [tg] e X.env = pure none) (h1 : (assignEach [tg] X.env).map (·.2) = [assign tg X.env]) :
    PS X (.Assign [tg] e pos) (tS X.prog X.w X.K asg (asgF g fa)) :=
  (ps_asg he hg hs hw h1).imp fun Dn σ H ⟨Z, own, ρ, fuel, out, E, e, k⟩ => by
    simp only [asgF] at e
    split at e
    case h_2 => cases e
    rename_i r ρ1 e1
    split at e
    · cases e
    rename_i ne
    split at e
    case h_2 => cases e
    rename_i d ρ2 e2
    split at e
    case h_2 => cases e
    rename_i ρ3 e3
    simp only [Option.some.injEq] at e
    subst e
    refine run1 E e1 (by simpa using ne) fun x H1 Z1 own1 o1 v1 => ?_
    obtain ⟨own2, E2, s2, rr⟩ := esc_ok o1.E o1.z v1 e2
    refine ⟨Z, own2, ρ2, d, ρ3, E2.weak o1.z, rr, e3, fun σ' own3 mv3 E3 k3 => k σ' H1 own3 ((o1.mv.less s2).trans mv3) E3 k3⟩

/-- a, b = x, y (two locals, stored from the right) -/
theorem asgRs_2 {i j : Nat} {ra rb : Res} (e : asgRs [i, j] [ra, rb] ρ = some ρ') : ∃ ρ1, asgR i ra ρ = some ρ1 ∧ asgR j rb ρ1 = some ρ' := by
  simp only [asgRs] at e
  split at e
  · rename_i ρ1 e1
    split at e
    · rename_i ρ2 e2
      cases e
      exact ⟨ρ1, e1, e2⟩
    · cases e
  · cases e
/-- values put into slots one by one -/
def putsF : List Nat → List D → DEnv → Option DEnv
  | [], [], ρ => some ρ
  | i :: is, d :: ds, ρ => match nameG i d ρ with
    | some ρ1 => putsF is ds ρ1
    | none => none
  | _, _, _ => none
/-- a, b (, c) = x, y (, z): lists, dicts of a result's own stay its own -/
def stF : List Nat → List Res → DEnv → Option DEnv
  | [], [], ρ => some ρ
  | i :: is, r :: rs, ρ => if isEnt r = true then none else match stF is rs ρ with
    | some ρ1 => asgR i r ρ1
    | none => none
  | _, _, _ => none
end
end Dt
set_option Elab.async false
set_option linter.all false
set_option maxRecDepth 100000
set_option autoImplicit false
set_option maxHeartbeats 4000000
/-! The data layer, part 22: assignments of two and three names, code that is not reached, small things. -/
namespace Dt
open PySem PySem.Spec L2
open PyProof.Rows hiding St

def neSlot : Res → Nat → Bool
  | .slot k, j => k != j
  | .ent _ _, _ => false
  | _, _ => true
def par2F (i j : Nat) (a b : EF) : SF := fun _ ρ => match a ρ with
  | some (ra, ρ1) => if neSlot ra j = true then match b ρ1 with
    | some (rb, ρ2) => match asgR j rb ρ2 with
      | some ρ3 => match asgR i ra ρ3 with
        | some ρ4 => some (.nx ρ4)
        | none => none
      | none => none
    | none => none else none
  | none => none
def par3F (i j l : Nat) (a b c : EF) : SF := fun _ ρ => match a ρ with
  | some (ra, ρ1) => if neSlot ra j = true ∧ neSlot ra l = true then match b ρ1 with
    | some (rb, ρ2) => if neSlot rb l = true then match c ρ2 with
      | some (rc, ρ3) => match asgR l rc ρ3 with
        | some ρ4 => match asgR j rb ρ4 with
          | some ρ5 => match asgR i ra ρ5 with
            | some ρ6 => some (.nx ρ6)
            | none => none
          | none => none
        | none => none
      | none => none else none
    | none => none else none
  | none => none
/-- not reached -/
def nevF : SF := fun _ _ => none

section
variable {X : Cx} {P : Program} {w : World} {K : PySem.W.Frag} {fa fb fc : EF} {fs : AF} {f : SF} {g g1 : GF} {gs : GsF} {Z Z0 Z1 Z' : Addr → Prop} {ρ ρ1 ρ2 ρ3 ρ' ρe : DEnv} {σ σ' σ2 : St} {H H' H1 H2 : Hp} {own own1 own' own2 : OwnF} {asg : List Nat} {A B : List Addr}

theorem s_nev {st : Stmt} : PS X st (tS X.prog X.w X.K asg nevF) := ps_never.imp fun D σ H ⟨Z, own, ρ, fuel, out, E, e, k⟩ => by cases e
theorem neSlot_ent {r : Res} {j : Nat} (h : neSlot r j = true) : isEnt r = false := by cases r <;> first | rfl | cases h
/-- an earlier result, behind what came after it and a store elsewhere -/
theorem res_keep {r : Res} {v u : V} {j : Nat} (E : Est P w K (Zp Z A) ρ σ H own) (ro : ResOk P w K (Zp Z A) own ρ σ H r v A) (hA : ∀ x ∈ A, ¬ Z x) (mv : Mv own H own1 H1) (E1 : Est P w K (Zp Z A) ρ1 (σ.set j (some u)) H1 own1) (hj : neSlot r j = true) (hs : ∀ k, r = .slot k → ∃ d n, ρ1[k]? = some (some (d, n))) :
    ResOk P w K (Zp Z A) own1 ρ1 (σ.set j (some u)) H1 r v A := by
  cases r with
  | own d n =>
    refine ⟨Own.mono n v d A (fun b o e q => mv.fr b o e fun i hi => ?_) mv.mm ro.1, ro.2⟩
    rcases q with q | q
    · exact q (.inr ⟨i, hi⟩)
    · exact E.nz i b hi (.inr q)
  | slot k =>
    obtain ⟨rfl, h1, _⟩ := ro
    refine ⟨rfl, ?_, hs k rfl⟩
    rw [List.getElem?_set_ne]
    · exact h1
    · rintro rfl
      simp [neSlot] at hj
  | ent i k => simp [neSlot] at hj
theorem asgR_slot {i k : Nat} (e : asgR i (.slot k) ρ = some ρ') : ∃ d n, ρ[k]? = some (some (d, n)) := by
  unfold asgR at e
  split at e
  · simp only at e
    split at e
    · rename_i d ρ1 e1
      simp only [esc] at e1
      split at e1
      · exact ⟨_, _, by assumption⟩
      · cases e1
    · cases e
  · cases e
theorem asgR_has {i : Nat} {r : Res} (e : asgR i r ρ = some ρ') : ∀ k, r = .slot k → ∃ d n, ρ[k]? = some (some (d, n)) := fun k hk => by
  subst hk
  exact asgR_slot e
theorem s_par2 {i j : Nat} {x y : Str} {a b : Expr} {px py pt pos : Pos} {kt k2 pt2} (hc : X.calm = true) (hN : X.N.Nodup) (hi : X.N[i]? = some x) (hj : X.N[j]? = some y) (hij : i ≠ j)
    (hx : X.env.scope.names.lookup x = some .local) (hy : X.env.scope.names.lookup y = some .local) (ha : PE X a (tE X.prog X.w X.K fa)) (hb : PE X b (tE X.prog X.w X.K fb))
    (h2 : starEach [a, b] X.env = (false, eval a X.env) :: starEach [b] X.env) (h3 : starEach [b] X.env = (false, eval b X.env) :: starEach [] X.env)
    (hw : swappedStores [.Tuple [.Name x px, .Name y py] kt pt] (.Tuple [a, b] k2 pt2) X.env = pure (some [x, y]))
    (hs : swapsWithSole [.Tuple [.Name x px, .Name y py] kt pt] (.Tuple [a, b] k2 pt2) pos.line X.env = pure false) :
    PS X (.Assign [.Tuple [.Name x px, .Name y py] kt pt] (.Tuple [a, b] k2 pt2) pos) (tS X.prog X.w X.K [i, j] (par2F i j fa fb)) :=
  (ps_par hc hN hi hj hij hx hy (pa_cons ha (pa_cons hb pa_nil h3) h2) hw hs).imp fun Dn σ H ⟨Z, own, ρ, fuel, out, E, e, k⟩ => by
    simp only [par2F] at e
    split at e
    case h_2 => cases e
    rename_i ra ρ1 e1
    split at e
    case isFalse => cases e
    rename_i na
    split at e
    case h_2 => cases e
    rename_i rb ρ2 e2
    split at e
    case h_2 => cases e
    rename_i ρ3 e3
    split at e
    case h_2 => cases e
    rename_i ρ4 e4
    simp only [Option.some.injEq] at e
    subst e
    refine ⟨Z, own, ρ, ra, ρ1, E, e1, fun va H1 ⟨own1, A1, mv1, E1, ro1, hA1⟩ => ?_⟩
    refine ⟨Zp Z A1, own1, ρ1, rb, ρ2, E1, e2, fun vb H2 ⟨own2, A2, mv2, E2, ro2, hA2⟩ => ?_⟩
    refine ⟨va, vb, rfl, ?_⟩
    obtain ⟨own3, mv3, E3⟩ := asgR_ok mv2 E2 ro2 hA2 e3
    have ro3 := res_keep E1 ro1 (fun x hx => (hA1 x hx).1) mv3 E3 na (asgR_has e4)
    obtain ⟨own4, mv4, E4⟩ := asgR_ok (mv1.trans mv3) E3 ro3 hA1 e4
    rw [List.set_comm _ _ hij]
    exact k _ H2 own4 mv4 E4 (((Kp.set (σ := σ) (i := j) (v := some vb) (asg := [i, j]) (by simp))).trans (Kp.set (by simp)))
theorem s_par3 {i j l : Nat} {x y z : Str} {a b c : Expr} {px py pz pt pos : Pos} {kt k2 pt2} (hc : X.calm = true) (hN : X.N.Nodup) (hi : X.N[i]? = some x) (hj : X.N[j]? = some y) (hl : X.N[l]? = some z) (hij : i ≠ j) (hil : i ≠ l) (hjl : j ≠ l)
    (hx : X.env.scope.names.lookup x = some .local) (hy : X.env.scope.names.lookup y = some .local) (hz : X.env.scope.names.lookup z = some .local) (ha : PE X a (tE X.prog X.w X.K fa)) (hb : PE X b (tE X.prog X.w X.K fb)) (hcc : PE X c (tE X.prog X.w X.K fc))
    (h1 : starEach [a, b, c] X.env = (false, eval a X.env) :: starEach [b, c] X.env) (h2 : starEach [b, c] X.env = (false, eval b X.env) :: starEach [c] X.env) (h3 : starEach [c] X.env = (false, eval c X.env) :: starEach [] X.env)
    (hw : swappedStores [.Tuple [.Name x px, .Name y py, .Name z pz] kt pt] (.Tuple [a, b, c] k2 pt2) X.env = pure (some [x, y, z]))
    (hs : swapsWithSole [.Tuple [.Name x px, .Name y py, .Name z pz] kt pt] (.Tuple [a, b, c] k2 pt2) pos.line X.env = pure false) :
    PS X (.Assign [.Tuple [.Name x px, .Name y py, .Name z pz] kt pt] (.Tuple [a, b, c] k2 pt2) pos) (tS X.prog X.w X.K [i, j, l] (par3F i j l fa fb fc)) :=
  (ps_par3 hc hN hi hj hl hij hil hjl hx hy hz (pa_cons ha (pa_cons hb (pa_cons hcc pa_nil h3) h2) h1) hw hs).imp fun Dn σ H ⟨Z, own, ρ, fuel, out, E, e, k⟩ => by
    simp only [par3F] at e
    split at e
    case h_2 => cases e
    rename_i ra ρ1 e1
    split at e
    case isFalse => cases e
    rename_i na
    split at e
    case h_2 => cases e
    rename_i rb ρ2 e2
    split at e
    case isFalse => cases e
    rename_i nb
    split at e
    case h_2 => cases e
    rename_i rc ρ3 e3
    split at e
    case h_2 => cases e
    rename_i ρ4 e4
    split at e
    case h_2 => cases e
    rename_i ρ5 e5
    split at e
    case h_2 => cases e
    rename_i ρ6 e6
    simp only [Option.some.injEq] at e
    subst e
    refine ⟨Z, own, ρ, ra, ρ1, E, e1, fun va H1 ⟨own1, A1, mv1, E1, ro1, hA1⟩ => ?_⟩
    refine ⟨Zp Z A1, own1, ρ1, rb, ρ2, E1, e2, fun vb H2 ⟨own2, A2, mv2, E2, ro2, hA2⟩ => ?_⟩
    refine ⟨Zp (Zp Z A1) A2, own2, ρ2, rc, ρ3, E2, e3, fun vc H3 ⟨own3, A3, mv3, E3, ro3, hA3⟩ => ?_⟩
    refine ⟨va, vb, vc, rfl, ?_⟩
    obtain ⟨own4, mv4, E4⟩ := asgR_ok mv3 E3 ro3 hA3 e4
    have ro4 := res_keep E2 ro2 (fun x hx => (hA2 x hx).1) mv4 E4 nb (asgR_has e5)
    obtain ⟨own5, mv5, E5⟩ := asgR_ok (mv2.trans mv4) E4 ro4 hA2 e5
    -- the first, behind two stores
    have hk : ∀ m, ra = .slot m → ∃ d n, ρ5[m]? = some (some (d, n)) := asgR_has e6
    have ro6 : ResOk X.prog X.w X.K (Zp Z A1) own5 ρ5 ((σ.set l (some vc)).set j (some vb)) H3 ra va A1 := by
      cases ra with
      | own d n =>
        refine ⟨Own.mono n va d A1 (fun b o e q => mv5.fr b o e fun i hi => ?_) mv5.mm ro1.1, ro1.2⟩
        rcases q with q | q
        · exact q (.inr ⟨i, hi⟩)
        · exact E1.nz i b hi (.inr q)
      | slot m =>
        obtain ⟨rfl, h1, _⟩ := ro1
        simp only [neSlot, bne_iff_ne, ne_eq] at na
        refine ⟨rfl, ?_, hk m rfl⟩
        rw [List.getElem?_set_ne (Ne.symm na.1), List.getElem?_set_ne (Ne.symm na.2)]
        exact h1
      | ent i k => simp [neSlot] at na
    obtain ⟨own6, mv6, E6⟩ := asgR_ok (mv1.trans mv5) E5 ro6 hA1 e6
    have es : ((σ.set i (some va)).set j (some vb)).set l (some vc) = ((σ.set l (some vc)).set j (some vb)).set i (some va) := by
      rw [List.set_comm _ _ hjl, List.set_comm _ _ hil, List.set_comm _ _ hij]
    rw [es]
    refine k _ H3 own6 mv6 E6 ?_
    exact ((Kp.set (σ := σ) (i := l) (v := some vc) (asg := [i, j, l]) (by simp)).trans (Kp.set (i := j) (v := some vb) (by simp))).trans (Kp.set (by simp))

/-! ### how many operands -/
theorem len_nil : ∀ ρ rs ρ1, fNil ρ = some (rs, ρ1) → rs.length = 0 := fun ρ rs ρ1 e => by
  simp only [fNil, Option.some.injEq, Prod.mk.injEq] at e
  rw [← e.1]; rfl
theorem len_cons {n : Nat} (h : ∀ ρ rs ρ1, fs ρ = some (rs, ρ1) → rs.length = n) : ∀ ρ rs ρ1, fCons fa fs ρ = some (rs, ρ1) → rs.length = n + 1 := fun ρ rs ρ1 e => by
  simp only [fCons] at e
  split at e
  · split at e
    · cases e
    · split at e
      · rename_i e2
        simp only [Option.some.injEq, Prod.mk.injEq] at e
        rw [← e.1, List.length_cons, h _ _ _ e2]
      · cases e
  · cases e

/-! ### constants -/
theorem c_int {i : Int} {j pos} : PE X (.Constant (.int i) j pos) (tE X.prog X.w X.K (fVal (.int i))) := r_val pe_int rfl fun _ _ => .int i
theorem c_bl {b : Bool} {j pos} : PE X (.Constant (.bool b) j pos) (tE X.prog X.w X.K (fVal (.bl b))) := r_val pe_bl rfl fun _ _ => .bl b
theorem c_non {j pos} : PE X (.Constant .none j pos) (tE X.prog X.w X.K (fVal .non)) := r_val pe_non rfl fun _ _ => .non
theorem c_str {x : Str} {j pos} : PE X (.Constant (.str x) j pos) (tE X.prog X.w X.K (fVal (.str x))) := r_val pe_str rfl fun _ _ => .str x
/-- a module's int -/
theorem c_gint {x : Str} {i : Int} {pos : Pos} (hg : Gl X x) (hm : ∃ t, X.mg x = some (.int i t)) (hd : (x == ("__debug__" : Str)) = false) : PE X (.Name x pos) (tE X.prog X.w X.K (fVal (.int i))) := by
  obtain ⟨t, hm⟩ := hm
  exact r_val (pe_glob (v := .int i) hg hm ⟨t, rfl⟩ hd) rfl fun _ _ => .int i
/-- a module's tuple of ints -/
theorem rep_gints {M : Addr → Prop} : ∀ (ns : List Int), RepL P w K H M (ns.map V.int) (ns.map D.int)
  | [] => .nil
  | n :: ns => .cons (.int n) (rep_gints ns)
theorem c_gtup {x : Str} {a : Addr} {ns : List Int} {pos : Pos} (hg : Gl X x) (hm : X.mg x = some (.ref a)) (hk : KTup X.K a (ns.map V.int)) (hd : (x == ("__debug__" : Str)) = false) : PE X (.Name x pos) (tE X.prog X.w X.K (fVal (.tup (ns.map D.int)))) :=
  r_val (pe_glob (v := .ref a) hg hm rfl hd) rfl fun _ _ => .tup (.inl hk) (rep_gints ns)
end
end Dt
set_option Elab.async false
set_option linter.all false
set_option maxRecDepth 100000
set_option autoImplicit false
set_option maxHeartbeats 4000000
/-! The data layer, part 23: dict([(k, v), ..]). -/
namespace Dt
open PySem PySem.Spec L2
open PyProof.Rows hiding St

/-- pairs with tuples as keys -/
def prD : List D → Option (List (NestedKey × D × D))
  | [] => some []
  | .tup [.tup ks, v] :: ds => match (D.tup ks).key, prD ds with
    | some k, some r => if k.depth ≤ 8 then some ((k, .tup ks, v) :: r) else none
    | _, _ => none
  | _ => none
def putAll (acc : List (D × D)) (es : List (NestedKey × D × D)) : List (D × D) := es.foldl (fun a e => putD e.1 e.2.1 e.2.2 a) acc
def gDict : List D → Option (D × Nat)
  | [.lst ds] => match prD ds with
    | some es => if es.length ≤ LIM then some (.dic (putAll [] es), 1) else none
    | none => none
  | _ => none

section
variable {X : Cx} {P : Program} {w : World} {K : PySem.W.Frag} {Z Z0 Z1 : Addr → Prop} {ρ ρ1 ρ2 ρ' : DEnv} {σ σ' : St} {H H' H1 : Hp} {own own1 own' : OwnF} {pins : List (Addr × Obj)} {s : Shared} {M : Addr → Prop}

inductive PrL (K : PySem.W.Frag) (H : Hp) : List V → List (NestedKey × Addr × V) → Prop
  | nil : PrL K H [] []
  | cons {T b : Addr} {k : NestedKey} {v : V} {vs : List V} {kvs : List (NestedKey × Addr × V)} : SqT K H T [.ref b, v] → PrL K H vs kvs → PrL K H (.ref T :: vs) ((k, b, v) :: kvs)
theorem pr_vals : ∀ {ds : List D} {vs : List V} {es : List (NestedKey × D × D)}, RepL P w K H M vs ds → prD ds = some es → ∃ kvs, PrL K H vs kvs ∧ RepK P w K H M kvs (es.map fun e => (e.2.1, e.2.2)) ∧ kvs.map (·.1) = es.map (·.1)
  | [], _, es, r, e => by
    cases r
    simp only [prD, Option.some.injEq] at e
    subst e
    exact ⟨[], .nil, .nil, rfl⟩
  | d :: ds, _, es, r, e => by
    unfold prD at e
    split at e
    · rename_i h; cases h
    · rename_i ks v ds' h
      simp only [List.cons.injEq] at h
      obtain ⟨rfl, rfl⟩ := h
      split at e
      · rename_i k r' e1 e2
        split at e
        · rename_i hd
          simp only [Option.some.injEq] at e
          subst e
          cases r with
          | cons r1 r2 =>
            obtain ⟨kvs, h1, h2, h3⟩ := pr_vals r2 e2
            cases r1 with
            | tup g1 g2 =>
              cases g2 with
              | cons q1 q2 =>
                cases q2 with
                | cons q2 q3 =>
                  cases q3
                  obtain ⟨b, rfl⟩ := key_of_tup (Rep.see q1)
                  exact ⟨(k, b, _) :: kvs, .cons (g1.elim .inr fun z => .inl z.1) h1, .cons q1 e1 hd q2 h2, by simp [h3]⟩
        · cases e
      · cases e
    · cases e
theorem pr_items (I : Inv X pins σ H s) {vs : List V} {kvs : List (NestedKey × Addr × V)} (p : PrL X.K H vs kvs) : ∀ {us : List Value}, Vals vs us →
    ∃ (Ts : List Addr) (xs : List (NestedKey × Addr × Value)), us = Ts.map .ref ∧ Paired PrR kvs xs ∧ Ts.length = xs.length ∧ ∀ (i : Nat) (T : Addr) (x : NestedKey × Addr × Value), Ts[i]? = some T → xs[i]? = some x → PairAt s.heap T (.ref x.2.1) x.2.2 := by
  induction p with
  | nil => intro us q; cases q; exact ⟨[], [], rfl, .nil, rfl, fun i T x e => by simp at e⟩
  | @cons T b k v vs kvs h1 h2 ih =>
    intro us q
    cases q with
    | cons q1 q2 =>
      obtain ⟨Ts, xs, e1, e2, e3, e4⟩ := ih q2
      cases q1
      obtain ⟨its, rv, ht, _⟩ := I.tuple h1
      obtain ⟨u1, u2, rfl, r1, r2⟩ := vals2 rv
      cases r1
      refine ⟨T :: Ts, (k, b, u2) :: xs, by rw [e1]; rfl, .cons ⟨rfl, rfl, r2⟩ e2, by simp [e3], fun i T' x a c => ?_⟩
      cases i with
      | zero =>
        simp only [List.getElem?_cons_zero, Option.some.injEq] at a c
        subst a c
        exact .inl ht
      | succ i => exact e4 i T' x (by simpa using a) (by simpa using c)
theorem putAll_paired : ∀ {kvs : List (NestedKey × Addr × V)} {xs : List (NestedKey × Addr × Value)}, Paired PrR kvs xs → ∀ {acc : List (NestedKey × Addr × V)} {ac : List (NestedKey × Addr × Value)}, Paired PrR acc ac → Paired PrR (kvs.foldl (fun a e => putV e.1 e.2.1 e.2.2 a) acc) (storedAllH ac xs)
  | _, _, .nil, _, _, r => r
  | (k, b, v) :: kvs, (k', b', u) :: xs, .cons ⟨h1, h2, h3⟩ t, acc, ac, r => by
    simp only at h1 h2 h3
    subst h1 h2
    show Paired PrR (kvs.foldl _ (putV k b v acc)) (storedAllH (storedH ac k b u) xs)
    exact putAll_paired t (put_paired h3 r)
theorem putAll_rep : ∀ {es : List (NestedKey × D × D)} {kvs : List (NestedKey × Addr × V)}, RepK P w K H M kvs (es.map fun e => (e.2.1, e.2.2)) → kvs.map (·.1) = es.map (·.1) → ∀ {acc : List (D × D)} {ac : List (NestedKey × Addr × V)}, RepK P w K H M ac acc → RepK P w K H M (kvs.foldl (fun a e => putV e.1 e.2.1 e.2.2 a) ac) (putAll acc es)
  | [], kvs, r, _, _, _, q => by cases r; exact q
  | e :: es, _, r, hk, acc, ac, q => by
    cases r with
    | cons h1 h2 h3 h4 t =>
      simp only [List.map_cons, List.cons.injEq] at hk
      obtain ⟨rfl, hk⟩ := hk
      exact putAll_rep t hk (put_rep h1 h2 h3 h4 q)
theorem foldl_putV_len : ∀ (kvs : List (NestedKey × Addr × V)) (acc : List (NestedKey × Addr × V)), (kvs.foldl (fun a e => putV e.1 e.2.1 e.2.2 a) acc).length ≤ acc.length + kvs.length
  | [], acc => Nat.le_refl _
  | e :: kvs, acc => by
    have h1 := foldl_putV_len kvs (putV e.1 e.2.1 e.2.2 acc)
    have h2 := putV_len e.1 e.2.1 e.2.2 acc
    simp only [List.foldl_cons, List.length_cons]; omega
theorem prl_len {vs : List V} {kvs : List (NestedKey × Addr × V)} (h : PrL K H vs kvs) : vs.length = kvs.length := by
  induction h with
  | nil => rfl
  | cons _ _ ih => rw [List.length_cons, List.length_cons, ih]
def rDictD (P : Program) (w : World) (K : PySem.W.Frag) : List V → Hp → VK → Prop := fun xs H Q => ∃ a vs kvs es, xs = [.ref a] ∧ H a = some (.lst vs) ∧ PrL K H vs kvs ∧ RepK P w K H (fun _ => False) kvs es ∧ kvs.length ≤ sizeLine ∧ ∀ p, H p = none → Q (.ref p) (upd H p (dicO P w p (kvs.foldl (fun a e => putV e.1 e.2.1 e.2.2 a) [])))
theorem cr_dictD (hc : X.calm = true) (hu : X.A.units + 100 < cLine) : CallR X (.type "dict") (rDictD X.prog X.w X.K) := by
  intro pins s σ H vs us Q I r h
  obtain ⟨a, xs, kvs, es, rfl, hl, pl, rk, hz, q⟩ := h
  rw [Vals.ref1 r]
  obtain ⟨its, rv, ⟨o, n, ho, hoc, hod, hos⟩, _⟩ := I.list (SqL.of hl)
  obtain ⟨Ts, ys, rfl, pr, hlen, hat⟩ := pr_items I pl rv
  have hkl : kvs.length = ys.length := Paired.length pr
  have ps : PairArg X.prog X.w "list" a (a :: (List.range (ys.map fun x => (Value.ref x.2.1, x.2.2)).length).map fun j => Ts.getD j 0) [] (ys.map fun x => (Value.ref x.2.1, x.2.2)).length (PairRel (ys.map fun x => (Value.ref x.2.1, x.2.2))) _ := PairArg.list a (Ts.map Value.ref).toArray (fun j => Ts.getD j 0) (ys.map fun x => (Value.ref x.2.1, x.2.2))
  have his : ∀ x ∈ ys, (nestedKind X.prog X.w).is s.heap x.1 x.2.1 := by
    have all : ∀ {es : List (D × D)} {kvs : List (NestedKey × Addr × V)} {ys : List (NestedKey × Addr × Value)}, RepK X.prog X.w X.K H (fun _ => False) kvs es → Paired PrR kvs ys → ∀ x ∈ ys, (nestedKind X.prog X.w).is s.heap x.1 x.2.1 := fun {es} => by
      induction es with
      | nil => intro kvs ys r p; cases r; cases p; intro x hx; cases hx
      | cons e es ih =>
        intro kvs ys r p
        cases r with
        | cons g1 g2 g3 g4 t =>
          cases p with
          | cons q1 q2 =>
            intro x hx
            rcases List.mem_cons.mp hx with e | hx
            · subst e
              obtain ⟨f1, f2, _⟩ := q1
              rw [← f1, ← f2]
              exact ⟨Rep.nested I _ _ _ _ g1 rfl g2, g3⟩
            · exact ih t q2 x hx
    exact all rk pr
  refine call_dict_pairsH (knd := nestedKind X.prog X.w) (ps := ys) ps (I.ok.hd hc) (show X.A.units + 1 + 1 + 8 < cLine by omega) ⟨⟨o, n, ho, hoc, hod, hos⟩, by simp [hlen], fun j k v e => ?_⟩ ⟨by simp, fun i key v e => ?_⟩ (fun h' hk x hx => ?_) (by simp [← hkl]; exact hz) fun h' tk dd hk => ?_
  · simp only [List.getElem?_map, Option.map_eq_some_iff] at e
    obtain ⟨x, e1, e2⟩ := e
    cases e2
    have hj : j < Ts.length := by rw [hlen]; exact (List.getElem?_eq_some_iff.mp e1).1
    have et : Ts[j]? = some (Ts.getD j 0) := by rw [List.getElem?_eq_getElem hj]; simp [List.getD, hj]
    exact ⟨by rw [List.getElem?_toArray, List.getElem?_map, et]; rfl, hat j _ x et e1⟩
  · have e : (ys.map fun x => (Value.ref x.2.1, x.2.2))[i]? = some (key, v) := e
    simp only [List.getElem?_map, Option.map_eq_some_iff] at e
    obtain ⟨x, e1, e2⟩ := e
    cases e2
    exact ⟨x.1, x.2.1, e1, rfl⟩
  · refine nestedKind_stays.stays (fun b o vs n e hd => hk b o (Nat.ne_of_lt (Heap.lt_size e)) (fun q => nomatch q) e) (his x hx)
  · have hk' : ∀ b o, s.heap.get? b = some o → h'.get? b = some o := fun b o e => hk b o (fun q => nomatch q) e
    have z : (s.heap.objs.size == sysModules) = false := beq_eq_false_iff_ne.mpr (Ne.symm (Nat.ne_of_lt I.big))
    have pp := putAll_paired pr (acc := []) (ac := []) .nil
    have hll := foldl_putV_len kvs []
    refine ⟨.ref s.heap.objs.size, _, I.laid (a := s.heap.objs.size) (o := dicO X.prog X.w s.heap.objs.size (kvs.foldl (fun a e => putV e.1 e.2.1 e.2.2 a) [])) (t' := tk) hk' (Nat.le_refl _) (dicO_ok (dicPhi_of z (by simp at hll; omega) pp dd)), rfl, q _ (I.hok.fresh (Nat.le_refl _))⟩
theorem fin_dic {p : Addr} {kvs : List (NestedKey × Addr × V)} {ds : List (D × D)} {own2 : OwnF} {Z2 : Addr → Prop} {H2 : Hp} {ρ2 : DEnv} (mv : Mv own H own2 H2) (E : Est P w K Z2 ρ2 σ H2 own2) (hz : ∀ x, Z x → Z2 x) (hp : H2 p = none) (h : RepK P w K H2 (Mz Z own2) kvs ds) :
    PostE P w K Z own H σ (.own (.dic ds) 1) ρ2 (.ref p) (upd H2 p (dicO P w p kvs)) := by
  refine fin_new mv E hz hp ⟨p, kvs, [], rfl, upd_same, rfl, ownK0 (RepK.mono (fun b o e _ => upd_grow hp b o e) (fun x hx => ?_) ds kvs h)⟩
  rcases hx with (hx | hx) | hx
  · exact .inl (.inl hx)
  · exact .inr (mem1 hp x hx)
  · exact .inl (.inr hx)
theorem n_dict : OpN P w K (rDictD P w K) gDict := by
  intro Z0 Z own0 own H0 H ρ σ rs vs ds d n Q o hv er e k
  unfold gDict at e
  split at e
  · split at e
    · rename_i es e1
      split at e
      · rename_i hl
        cases e
        obtain ⟨r, rfl, e2⟩ := rds_one er
        obtain ⟨v, rfl, v1⟩ := vals_one hv
        obtain ⟨a, us, rfl, h1, h2⟩ := v1.items o.E o.z e2
        obtain ⟨kvs, h3, h4, h5⟩ := pr_vals h2 e1
        have hkl : kvs.length = es.length := by
          have := congrArg List.length h5
          simpa using this
        exact ⟨a, us, kvs, _, rfl, h1, h3, repK_see h4, by rw [hkl, sizeLine_eq]; exact hl, fun p hp => k _ _ (fin_dic o.mv o.E o.z hp (putAll_rep h4 h5 .nil))⟩
      · cases e
    · cases e
  · cases e
end
end Dt
set_option Elab.async false
set_option linter.all false
set_option maxRecDepth 100000
set_option autoImplicit false
set_option maxHeartbeats 4000000
/-! The data layer, part 24: the rules under short names, with what is seen at once left out. -/
namespace Dt
open PySem PySem.Spec L2
open PyProof.Rows hiding St

section
variable {X : Cx} {fa fb fc : EF} {fs : AF} {f g : SF} {gf : GF} {gs : GsF} {fi : IF} {a b c e : Expr} {es : List Expr} {pos p p2 px : Pos} {x : Str} {asg asg1 asg2 : List Nat}

theorem xv {i : Nat} (hN : X.N[i]? = some x := by rfl) (hv : Vis X.env.scope x := by first | exact .inl rfl | exact .inr (.inl rfl) | exact .inr (.inr rfl)) (hd : (x == ("__debug__" : Str)) = false := by decide) (hcd : (x == ("__classdict__" : Str)) = false := by decide) : PE X (.Name x pos) (tE X.prog X.w X.K (fVar i)) := r_var hN hv hd hcd
theorem xcons (ha : PE X e (tE X.prog X.w X.K fa)) (hr : PA X es (tA X.prog X.w X.K fs)) (hs : starEach (e :: es) X.env = (false, eval e X.env) :: starEach es X.env := by rfl) : PA X (e :: es) (tA X.prog X.w X.K (fCons fa fs)) := r_cons ha hr hs
theorem xgint {i : Int} (hm : ∃ t, X.mg x = some (.int i t)) (hg : Gl X x := by rfl) (hd : (x == ("__debug__" : Str)) = false := by decide) : PE X (.Name x pos) (tE X.prog X.w X.K (fVal (.int i))) := c_gint hg hm hd
theorem xadd (ha : PE X a (tE X.prog X.w X.K fa)) (hb : PE X b (tE X.prog X.w X.K fb)) : PE X (.BinOp a .Add b pos) (tE X.prog X.w X.K (f2 gAdd fa fb)) := r_2 (fun ha hb => pe_op opR_addD ha hb) ha hb o_add
theorem xsub (ha : PE X a (tE X.prog X.w X.K fa)) (hb : PE X b (tE X.prog X.w X.K fb)) : PE X (.BinOp a .Sub b pos) (tE X.prog X.w X.K (f2 gSub fa fb)) := r_2 (fun ha hb => pe_op op_sub ha hb) ha hb o_sub
theorem xmul (ha : PE X a (tE X.prog X.w X.K fa)) (hb : PE X b (tE X.prog X.w X.K fb)) : PE X (.BinOp a .Mult b pos) (tE X.prog X.w X.K (f2 gMul fa fb)) := r_2 (fun ha hb => pe_op op_mul ha hb) ha hb o_mul
theorem xfdiv (ha : PE X a (tE X.prog X.w X.K fa)) (hb : PE X b (tE X.prog X.w X.K fb)) : PE X (.BinOp a .FloorDiv b pos) (tE X.prog X.w X.K (f2 gFdiv fa fb)) := r_2 (fun ha hb => pe_op op_fdivN ha hb) ha hb o_fdiv
theorem xmod (ha : PE X a (tE X.prog X.w X.K fa)) (hb : PE X b (tE X.prog X.w X.K fb)) : PE X (.BinOp a .Mod b pos) (tE X.prog X.w X.K (f2 gMod fa fb)) := r_2 (fun ha hb => pe_op op_modN ha hb) ha hb o_mod
theorem xpow (ha : PE X a (tE X.prog X.w X.K fa)) (hb : PE X b (tE X.prog X.w X.K fb)) : PE X (.BinOp a .Pow b pos) (tE X.prog X.w X.K (f2 gPow fa fb)) := r_2 (fun ha hb => pe_op op_pow ha hb) ha hb o_pow
theorem xneg (ha : PE X a (tE X.prog X.w X.K fa)) : PE X (.UnaryOp .USub a pos) (tE X.prog X.w X.K (f1 gNeg fa)) := r_1 (fun ha => pe_un un_neg ha) ha o_neg
theorem xix (hu : X.A.units + 100 < cLine) (ha : PE X a (tE X.prog X.w X.K fa)) (hb : PE X b (tE X.prog X.w X.K fb)) (hs : PlainIx b := by intro _ _; rfl) : PE X (.Subscript a b pos) (tE X.prog X.w X.K (f2 gIx fa fb)) := r_2 (fun ha hb => pe_ix (ix_D hu) ha hb hs) ha hb o_ix

/-! comparisons: the reading of each -/
structure CmpR (X : Cx) (op : CmpOp) (g : D → D → Option Bool) : Prop where
  ok : OpR X (compareOp op) (rCmpD X.prog X.w X.K g)
theorem kEq (hu : X.A.units + 100 < cLine) : CmpR X .Eq cEq := ⟨op_cEq hu⟩
theorem kNe (hu : X.A.units + 100 < cLine) : CmpR X .NotEq (fun a b => (cEq a b).map (!·)) := ⟨op_cNe hu⟩
theorem kLt (hu : X.A.units + 100 < cLine) : CmpR X .Lt cLt := ⟨op_cLt hu⟩
def cLeI : D → D → Option Bool := cI fun i j => decide (i ≤ j)
def cGtI : D → D → Option Bool := cI fun i j => decide (j < i)
def cGeI : D → D → Option Bool := cI fun i j => decide (j ≤ i)
theorem kIs : CmpR X .Is cIs := ⟨op_cIs⟩
theorem kIsNot : CmpR X .IsNot (fun a b => (cIs a b).map (!·)) := ⟨op_cIsNot⟩
theorem xcmp {op : CmpOp} {g : D → D → Option Bool} (k : CmpR X op g) (ha : PE X a (tE X.prog X.w X.K fa)) (hb : PE X b (tE X.prog X.w X.K fb)) (hm : behindInMarks op b = false := by first | rfl | exact nomark _ (by decide) (by decide)) : PE X (.Compare a [op] [b] pos) (tE X.prog X.w X.K (f2 (fun a b => blO (g a b)) fa fb)) := r_2 (fun ha hb => pe_cmpR k.ok ha hb hm) ha hb o_cmp
theorem tcmp {op : CmpOp} {g : D → D → Option Bool} (k : CmpR X op g) (ha : PE X a (tE X.prog X.w X.K fa)) (hb : PE X b (tE X.prog X.w X.K fb)) (hm : behindInMarks op b = false := by first | rfl | exact nomark _ (by decide) (by decide)) : PT X (.Compare a [op] [b] pos) (tT X.prog X.w X.K (f2 (fun a b => blO (g a b)) fa fb)) := t_2 (fun ha hb => pt_cmpR k.ok ha hb hm) ha hb o_cmp
theorem xin (hu : X.A.units + 100 < cLine) (ha : PE X a (tE X.prog X.w X.K fa)) (hb : PE X b (tE X.prog X.w X.K fb)) (hm : behindInMarks .In b = false := by rfl) : PE X (.Compare a [.In] [b] pos) (tE X.prog X.w X.K (f2 (fun a b => blO (cInD a b)) fa fb)) := r_2 (fun ha hb => pe_cmpR (op_inD2 hu) ha hb hm) ha hb o_in
theorem tin (hu : X.A.units + 100 < cLine) (ha : PE X a (tE X.prog X.w X.K fa)) (hb : PE X b (tE X.prog X.w X.K fb)) (hm : behindInMarks .In b = false := by rfl) : PT X (.Compare a [.In] [b] pos) (tT X.prog X.w X.K (f2 (fun a b => blO (cInD a b)) fa fb)) := t_2 (fun ha hb => pt_cmpR (op_inD2 hu) ha hb hm) ha hb o_in
theorem xnin (hu : X.A.units + 100 < cLine) (ha : PE X a (tE X.prog X.w X.K fa)) (hb : PE X b (tE X.prog X.w X.K fb)) (hm : behindInMarks .NotIn b = false := by rfl) : PE X (.Compare a [.NotIn] [b] pos) (tE X.prog X.w X.K (f2 (fun a b => blO ((cInD a b).map (!·))) fa fb)) := r_2 (fun ha hb => pe_cmpR (op_notInD2 hu) ha hb hm) ha hb o_notIn
theorem tnin (hu : X.A.units + 100 < cLine) (ha : PE X a (tE X.prog X.w X.K fa)) (hb : PE X b (tE X.prog X.w X.K fb)) (hm : behindInMarks .NotIn b = false := by rfl) : PT X (.Compare a [.NotIn] [b] pos) (tT X.prog X.w X.K (f2 (fun a b => blO ((cInD a b).map (!·))) fa fb)) := t_2 (fun ha hb => pt_cmpR (op_notInD2 hu) ha hb hm) ha hb o_notIn
theorem xchain {op op' : CmpOp} {g h : D → D → Option Bool} (k : CmpR X op g) (k' : CmpR X op' h) (ha : PE X a (tE X.prog X.w X.K fa)) (hb : PE X b (tE X.prog X.w X.K fb)) (hc : PE X c (tE X.prog X.w X.K fc)) (hm : lastMarks [op, op'] [b, c] = false := by with_unfolding_all rfl) : PE X (.Compare a [op, op'] [b, c] pos) (tE X.prog X.w X.K (chainF g h fa fb fc)) := r_chain k.ok k'.ok ha hb hc hm
theorem tchain {op op' : CmpOp} {g h : D → D → Option Bool} (k : CmpR X op g) (k' : CmpR X op' h) (ha : PE X a (tE X.prog X.w X.K fa)) (hb : PE X b (tE X.prog X.w X.K fb)) (hc : PE X c (tE X.prog X.w X.K fc)) (hm : lastMarks [op, op'] [b, c] = false := by with_unfolding_all rfl) : PT X (.Compare a [op, op'] [b, c] pos) (tT X.prog X.w X.K (chainF g h fa fb fc)) := t_chain k.ok k'.ok ha hb hc hm
theorem tval (h : PE X e (tE X.prog X.w X.K fa)) (he : ∀ whole, isTrue e X.env whole = (do let v ← whole; standAt e.pos; holding [v] (truthy v)) := by intro _; rfl) : PT X e (tT X.prog X.w X.K fa) := t_val h he

/-! built-in calls -/
theorem xlen (hm : X.mg "len" = none) (ha : PA X (e :: es) (tA X.prog X.w X.K fs)) (hg : Gl X "len" := by rfl) (he : starEach (e :: es) X.env = (false, eval e X.env) :: starEach es X.env := by rfl) (hpl : (backTo pos (starEach es X.env)).any (·.1) = false := by rfl) : PE X (.Call (.Name "len" p) (e :: es) [] pos) (tE X.prog X.w X.K (fN gLen fs)) := r_callB cr_lenD n_len hg hm boot_len ha (by decide) (by decide) he hpl
theorem xabs (hm : X.mg "abs" = none) (ha : PA X (e :: es) (tA X.prog X.w X.K fs)) (hg : Gl X "abs" := by rfl) (he : starEach (e :: es) X.env = (false, eval e X.env) :: starEach es X.env := by rfl) (hpl : (backTo pos (starEach es X.env)).any (·.1) = false := by rfl) : PE X (.Call (.Name "abs" p) (e :: es) [] pos) (tE X.prog X.w X.K (fN (g1 hAbs) fs)) := r_callB call_abs n_abs hg hm boot_abs ha (by decide) (by decide) he hpl
theorem xsum (hm : X.mg "sum" = none) (ha : PA X (e :: es) (tA X.prog X.w X.K fs)) (hc : X.calm = true := by rfl) (hg : Gl X "sum" := by rfl) (he : starEach (e :: es) X.env = (false, eval e X.env) :: starEach es X.env := by rfl) (hpl : (backTo pos (starEach es X.env)).any (·.1) = false := by rfl) : PE X (.Call (.Name "sum" p) (e :: es) [] pos) (tE X.prog X.w X.K (fN (g1 hSum) fs)) := r_callB (cr_sum hc) n_sum hg hm boot_sum ha (by decide) (by decide) he hpl
theorem xall (hm : X.mg "all" = none) (ha : PA X (e :: es) (tA X.prog X.w X.K fs)) (hc : X.calm = true := by rfl) (hg : Gl X "all" := by rfl) (he : starEach (e :: es) X.env = (false, eval e X.env) :: starEach es X.env := by rfl) (hpl : (backTo pos (starEach es X.env)).any (·.1) = false := by rfl) : PE X (.Call (.Name "all" p) (e :: es) [] pos) (tE X.prog X.w X.K (fN (g1 hAll) fs)) := r_callB (cr_all hc) n_all hg hm boot_all ha (by decide) (by decide) he hpl
theorem xmax (hu : X.A.units + 100 < cLine) (hm : X.mg "max" = none) (ha : PA X (e :: es) (tA X.prog X.w X.K fs)) (hc : X.calm = true := by rfl) (hg : Gl X "max" := by rfl) (he : starEach (e :: es) X.env = (false, eval e X.env) :: starEach es X.env := by rfl) (hpl : (backTo pos (starEach es X.env)).any (·.1) = false := by rfl) : PE X (.Call (.Name "max" p) (e :: es) [] pos) (tE X.prog X.w X.K (fN (g1 hMax) fs)) := r_callB (cr_maxB hc hu) n_max hg hm boot_max ha (by decide) (by decide) he hpl
theorem xsorted (hu : X.A.units + 100 < cLine) (hm : X.mg "sorted" = none) (ha : PA X (e :: es) (tA X.prog X.w X.K fs)) (hc : X.calm = true := by rfl) (hg : Gl X "sorted" := by rfl) (he : starEach (e :: es) X.env = (false, eval e X.env) :: starEach es X.env := by rfl) (hpl : (backTo pos (starEach es X.env)).any (·.1) = false := by rfl) : PE X (.Call (.Name "sorted" p) (e :: es) [] pos) (tE X.prog X.w X.K (fN gSorted fs)) := r_callB (cr_sortD hc hu) n_sorted hg hm boot_sorted ha (by decide) (by decide) he hpl
theorem xint (hm : X.mg "int" = none) (ha : PA X (e :: es) (tA X.prog X.w X.K fs)) (hg : Gl X "int" := by rfl) (he : starEach (e :: es) X.env = (false, eval e X.env) :: starEach es X.env := by rfl) (hpl : (backTo pos (starEach es X.env)).any (·.1) = false := by rfl) : PE X (.Call (.Name "int" p) (e :: es) [] pos) (tE X.prog X.w X.K (fN (g1 hInt) fs)) := r_callTy call_int1 n_int hg hm PyProof.Rows.boot_int ha (by decide) (by decide) he hpl
theorem xtuple (hm : X.mg "tuple" = none) (ha : PA X (e :: es) (tA X.prog X.w X.K fs)) (hg : Gl X "tuple" := by rfl) (he : starEach (e :: es) X.env = (false, eval e X.env) :: starEach es X.env := by rfl) (hpl : (backTo pos (starEach es X.env)).any (·.1) = false := by rfl) : PE X (.Call (.Name "tuple" p) (e :: es) [] pos) (tE X.prog X.w X.K (fN gTuple fs)) := r_callTy call_tuple_of n_tuple hg hm PyProof.Rows.boot_tuple ha (by decide) (by decide) he hpl
theorem xlist (hm : X.mg "list" = none) (ha : PA X (e :: es) (tA X.prog X.w X.K fs)) (hg : Gl X "list" := by rfl) (he : starEach (e :: es) X.env = (false, eval e X.env) :: starEach es X.env := by rfl) (hpl : (backTo pos (starEach es X.env)).any (·.1) = false := by rfl) : PE X (.Call (.Name "list" p) (e :: es) [] pos) (tE X.prog X.w X.K (fN gList fs)) := r_callTy call_list_of n_list hg hm PyProof.Rows.boot_list ha (by decide) (by decide) he hpl
theorem xdict (hu : X.A.units + 100 < cLine) (hm : X.mg "dict" = none) (ha : PA X (e :: es) (tA X.prog X.w X.K fs)) (hc : X.calm = true := by rfl) (hg : Gl X "dict" := by rfl) (he : starEach (e :: es) X.env = (false, eval e X.env) :: starEach es X.env := by rfl) (hpl : (backTo pos (starEach es X.env)).any (·.1) = false := by rfl) : PE X (.Call (.Name "dict" p) (e :: es) [] pos) (tE X.prog X.w X.K (fN gDict fs)) := r_callTy (cr_dictD hc hu) n_dict hg hm PyProof.Rows.boot_dict ha (by decide) (by decide) he hpl
theorem xisi {T : String} (hm : X.mg "isinstance" = none) (hmT : X.mg x = none) (ha : PE X a (tE X.prog X.w X.K fa)) (hT : bootBuiltins x = some (.type T) := by decide +kernel) (hg : Gl X "isinstance" := by rfl) (hgT : Gl X x := by rfl) (hn : x ≠ "__name__" := by decide) (hd : (x == ("__debug__" : Str)) = false := by decide)
    (h2 : starEach [a, .Name x p2] X.env = (false, eval a X.env) :: starEach [.Name x p2] X.env := by rfl) (h3 : starEach [.Name x p2] X.env = [(false, eval (.Name x p2) X.env)] := by rfl) : PE X (.Call (.Name "isinstance" p) [a, .Name x p2] [] pos) (tE X.prog X.w X.K (fIsi T fa)) := r_isi ha hg hm hgT hmT hT hn hd h2 h3

/-! what is walked -/
theorem irange1 (hm : X.mg "range" = none) (ha : PA X [a] (tA X.prog X.w X.K fs)) (hg : Gl X "range" := by rfl) (hs : starEach [a] X.env = [(false, eval a X.env)] := by rfl) {tg : Expr} : PI X tg (.Call (.Name "range" p) [a] [] pos) (tI X.prog X.w X.K (r1F fs)) := p_r1 hg hm ha hs
theorem irange2 (hm : X.mg "range" = none) (ha : PA X [a, b] (tA X.prog X.w X.K fs)) (hg : Gl X "range" := by rfl) (hs : starEach [a, b] X.env = [(false, eval a X.env), (false, eval b X.env)] := by rfl) (hs2 : starEach [b] X.env = [(false, eval b X.env)] := by rfl) {tg : Expr} : PI X tg (.Call (.Name "range" p) [a, b] [] pos) (tI X.prog X.w X.K (r2F fs)) := p_r2 hg hm ha hs hs2
theorem ienum {fr : Bool} (hm : X.mg "enumerate" = none) (ha : PA X [a] (tA X.prog X.w X.K fs)) (hg : Gl X "enumerate" := by rfl) (hs : starEach [a] X.env = [(false, eval a X.env)] := by rfl) {elts : List Expr} {kk : Nat} {tpos : Pos} : PI X (.Tuple elts kk tpos) (.Call (.Name "enumerate" p) [a] [] pos) (tI X.prog X.w X.K (enF fr fs)) := p_en hg hm ha hs
theorem izip2 {fr : Bool} (hm : X.mg "zip" = none) (ha : PA X [a, b] (tA X.prog X.w X.K fs)) (hg : Gl X "zip" := by rfl) (hs : starEach [a, b] X.env = (false, eval a X.env) :: starEach [b] X.env := by rfl) (hpl : (backTo pos (starEach [b] X.env)).any (·.1) = false := by rfl) {elts : List Expr} {kk : Nat} {tpos : Pos} : PI X (.Tuple elts kk tpos) (.Call (.Name "zip" p) [a, b] [] pos) (tI X.prog X.w X.K (z2F fr fs)) := p_z2 hg hm ha hs hpl
theorem izip3 {fr : Bool} (hm : X.mg "zip" = none) (ha : PA X [a, b, c] (tA X.prog X.w X.K fs)) (hg : Gl X "zip" := by rfl) (hs : starEach [a, b, c] X.env = (false, eval a X.env) :: starEach [b, c] X.env := by rfl) (hpl : (backTo pos (starEach [b, c] X.env)).any (·.1) = false := by rfl) {elts : List Expr} {kk : Nat} {tpos : Pos} : PI X (.Tuple elts kk tpos) (.Call (.Name "zip" p) [a, b, c] [] pos) (tI X.prog X.w X.K (z3F fr fs)) := p_z3 hg hm ha hs hpl

/-! targets -/
theorem gv {i : Nat} (hN : X.N.Nodup) (hi : X.N[i]? = some x := by rfl) (hx : Loc X.env.scope x := by first | exact .inl rfl | exact .inr rfl) (hf : X.fn x = true ∨ X.env.scope.names.lookup x = some .local := by first | exact .inl rfl | exact .inr rfl) : PG X (.Name x pos) (tG X.prog X.w X.K [i] (nameG i)) := t_name hN hi hx hf
theorem gcons {t : Expr} {ts : List Expr} (h1 : PG X t (tG X.prog X.w X.K asg1 gf)) (h2 : PGs X ts (tGs X.prog X.w X.K asg2 gs)) (hs : (assignEach (t :: ts) X.env).map (·.2) = assign t X.env :: (assignEach ts X.env).map (·.2) := by rfl) : PGs X (t :: ts) (tGs X.prog X.w X.K (asg1 ++ asg2) (consG gf gs)) := ts_cons h1 h2 hs
theorem gtup {ts : List Expr} {k n : Nat} (h : PGs X ts (tGs X.prog X.w X.K asg gs)) (hc : X.calm = true := by rfl) (hn : (assignEach ts X.env).length = n := by rfl) (hst : (assignEach ts X.env).findIdx? (·.1) = none := by rfl) : PG X (.Tuple ts k pos) (tG X.prog X.w X.K asg (tupG n gs)) := t_tup hc h hn hst

/-! statements -/
theorem sset {i : Nat} {pos' : Pos} (hN : X.N.Nodup) (he : PE X e (tE X.prog X.w X.K fa)) (hi : X.N[i]? = some x := by rfl) (hx : Loc X.env.scope x := by first | exact .inl rfl | exact .inr rfl) (hs : swapsWith e (some (.Name x pos')) pos.line X.env = pure false := by rfl) (hf : X.fn x = true ∨ X.env.scope.names.lookup x = some .local := by first | exact .inl rfl | exact .inr rfl) : PS X (.Assign [.Name x pos'] e pos) (tS X.prog X.w X.K [i] (setF i fa)) := s_set hN hi hx he hs hf
theorem sdrop (he : PE X e (tE X.prog X.w X.K fa)) (hs : swapsWith e none pos.line X.env = pure false := by rfl) : PS X (.Expr e pos) (tS X.prog X.w X.K [] (dropF fa)) := s_drop he hs
theorem sret (he : PE X e (tE X.prog X.w X.K fa)) : PS X (.Return (some e) pos) (tS X.prog X.w X.K [] (retF fa)) := s_ret he
theorem sfor {iter tg : Expr} {body : List Stmt} (hi : PI X tg iter (tI X.prog X.w X.K fi)) (hg : PG X tg (tG X.prog X.w X.K asg1 gf)) (hb : PSs X body (tS X.prog X.w X.K asg2 f)) (hp : PassesOwn (model X.prog X.w) X.A X.env X.xe := by exact .never) (hc : X.calm = true := by rfl)
    (hs : ∀ x, foldedSetIterable iter X.env x = pure x := by intro _; rfl) : PS X (.For tg iter body [] pos) (tS X.prog X.w X.K (asg1 ++ asg2) (forF (asg1 ++ asg2) fi gf f)) := s_for hp hc hi hg hb hs
theorem sasg {tg : Expr} (he : PE X e (tE X.prog X.w X.K fa)) (hg : PG X tg (tG X.prog X.w X.K asg gf)) (hs : swapsWithSole [tg] e pos.line X.env = pure false := by rfl) (hw : swappedStores [tg] e X.env = pure none := by rfl) (h1 : (assignEach [tg] X.env).map (·.2) = [assign tg X.env] := by rfl) : PS X (.Assign [tg] e pos) (tS X.prog X.w X.K asg (asgF gf fa)) := s_asg he hg hs hw h1
theorem spar2 {i j : Nat} {x y : Str} {px py pt : Pos} {kt k2 pt2} (hN : X.N.Nodup) (ha : PE X a (tE X.prog X.w X.K fa)) (hb : PE X b (tE X.prog X.w X.K fb)) (hi : X.N[i]? = some x := by rfl) (hj : X.N[j]? = some y := by rfl) (hij : i ≠ j := by decide)
    (hx : X.env.scope.names.lookup x = some .local := by rfl) (hy : X.env.scope.names.lookup y = some .local := by rfl) (hc : X.calm = true := by rfl)
    (h2 : starEach [a, b] X.env = (false, eval a X.env) :: starEach [b] X.env := by rfl) (h3 : starEach [b] X.env = (false, eval b X.env) :: starEach [] X.env := by rfl)
    (hw : swappedStores [.Tuple [.Name x px, .Name y py] kt pt] (.Tuple [a, b] k2 pt2) X.env = pure (some [x, y]) := by rfl)
    (hs : swapsWithSole [.Tuple [.Name x px, .Name y py] kt pt] (.Tuple [a, b] k2 pt2) pos.line X.env = pure false := by rfl) :
    PS X (.Assign [.Tuple [.Name x px, .Name y py] kt pt] (.Tuple [a, b] k2 pt2) pos) (tS X.prog X.w X.K [i, j] (par2F i j fa fb)) := s_par2 hc hN hi hj hij hx hy ha hb h2 h3 hw hs
theorem spar3 {i j l : Nat} {x y z : Str} {px py pz pt : Pos} {kt k2 pt2} (hN : X.N.Nodup) (ha : PE X a (tE X.prog X.w X.K fa)) (hb : PE X b (tE X.prog X.w X.K fb)) (hcc : PE X c (tE X.prog X.w X.K fc)) (hi : X.N[i]? = some x := by rfl) (hj : X.N[j]? = some y := by rfl) (hl : X.N[l]? = some z := by rfl) (hij : i ≠ j := by decide) (hil : i ≠ l := by decide) (hjl : j ≠ l := by decide)
    (hx : X.env.scope.names.lookup x = some .local := by rfl) (hy : X.env.scope.names.lookup y = some .local := by rfl) (hz : X.env.scope.names.lookup z = some .local := by rfl) (hc : X.calm = true := by rfl)
    (h1 : starEach [a, b, c] X.env = (false, eval a X.env) :: starEach [b, c] X.env := by rfl) (h2 : starEach [b, c] X.env = (false, eval b X.env) :: starEach [c] X.env := by rfl) (h3 : starEach [c] X.env = (false, eval c X.env) :: starEach [] X.env := by rfl)
    (hw : swappedStores [.Tuple [.Name x px, .Name y py, .Name z pz] kt pt] (.Tuple [a, b, c] k2 pt2) X.env = pure (some [x, y, z]) := by rfl)
    (hs : swapsWithSole [.Tuple [.Name x px, .Name y py, .Name z pz] kt pt] (.Tuple [a, b, c] k2 pt2) pos.line X.env = pure false := by rfl) :
    PS X (.Assign [.Tuple [.Name x px, .Name y py, .Name z pz] kt pt] (.Tuple [a, b, c] k2 pt2) pos) (tS X.prog X.w X.K [i, j, l] (par3F i j l fa fb fc)) := s_par3 hc hN hi hj hl hij hil hjl hx hy hz ha hb hcc h1 h2 h3 hw hs
end
end Dt
set_option Elab.async false
set_option linter.all false
set_option maxRecDepth 100000
set_option autoImplicit false
set_option maxHeartbeats 4000000
/-! The data layer, part 25: comprehensions, stores, calls under short names; a def in the row. -/
namespace Dt
open PySem PySem.Spec L2
open PyProof.Rows hiding St

section
variable {X : Cx} {fa fb fc fk fv t t1 fi1 : EF} {fs : AF} {f g : SF} {gf gf1 : GF} {gs : GsF} {fi fj : IF} {a b c e tg tg1 iter iter1 kx vx : Expr} {es ifs ifs1 : List Expr} {pos p p2 px spos : Pos} {x y : Str} {asg asg1 asg2 vs1 : List Nat} {scope : Scope}

theorem sstore (hu : X.A.units + 100 < cLine) {i : Nat} {ei : Expr} (hi : PE X ei (tE X.prog X.w X.K fi1)) (he : PE X e (tE X.prog X.w X.K fa)) (hN : X.N[i]? = some x := by rfl) (hv : Vis X.env.scope x := by first | exact .inl rfl | exact .inr (.inl rfl) | exact .inr (.inr rfl)) (hd : (x == ("__debug__" : Str)) = false := by decide) (hcd : (x == ("__classdict__" : Str)) = false := by decide)
    (hg : ∀ v, assign (.Subscript (.Name x px) ei p) X.env v = (do
      let ov ← holding [v] (eval (.Name x px) X.env)
      let iv ← holding [v, ov] (eval ei X.env)
      standAt p
      holding [v, ov, iv] (setItem ov iv v)
      release [v, ov, iv] []) := by intro _; rfl)
    (hs : swapsWithSole [.Subscript (.Name x px) ei p] e pos.line X.env = pure false := by rfl) (hw : swappedStores [.Subscript (.Name x px) ei p] e X.env = pure none := by rfl)
    (h1 : (assignEach [.Subscript (.Name x px) ei p] X.env).map (·.2) = [assign (.Subscript (.Name x px) ei p) X.env] := by rfl) :
    PS X (.Assign [.Subscript (.Name x px) ei p] e pos) (tS X.prog X.w X.K [] (storeF i fi1 fa)) := s_store hu hN hv hd hcd hi he hg hs hw h1

theorem xlc {bo : List (Str × Nat)} (hN : X.N.Nodup) (hi : PI X tg iter (tI X.prog X.w X.K fi)) (ok : BlkOk X.N X.env.scope scope bo)
    (hg : ∀ (s : Shared) (H : Hp) (C : Addr) (cl : List (Str × Addr)) (fp : List Addr), PG (X.blk s H scope (compEnvC scope cl C X.env) fp) tg (tG X.prog X.w X.K asg gf)) (ht : ∀ (s : Shared) (H : Hp) (C : Addr) (cl : List (Str × Addr)) (fp : List Addr), PTs (X.blk s H scope (compEnvC scope cl C X.env) fp) ifs (tT X.prog X.w X.K t))
    (he : ∀ (s : Shared) (H : Hp) (C : Addr) (cl : List (Str × Addr)) (fp : List Addr), PE (X.blk s H scope (compEnvC scope cl C X.env) fp) e (tE X.prog X.w X.K fa)) (hc : X.calm = true := by rfl) (hs : ∀ x, foldedSetIterable iter X.env x = pure x := by intro _; rfl) :
    PE X (.ListComp e [⟨tg, iter, ifs, 0⟩] scope pos) (tE X.prog X.w X.K (lcF asg (bo.map (·.2)) fi gf t fa)) := r_lc hc hN hi ok hg ht he hs
theorem xlc2 {bo : List (Str × Nat)} (hN : X.N.Nodup) (hi : PI X tg iter (tI X.prog X.w X.K fi)) (ok : BlkOk X.N X.env.scope scope bo) (hv : ∀ i ∈ vs1, i ∈ bo.map (·.2))
    (hg : ∀ (s : Shared) (H : Hp) (C : Addr) (cl : List (Str × Addr)) (fp : List Addr), PG (X.blk s H scope (compEnvC scope cl C X.env) fp) tg (tG X.prog X.w X.K asg gf)) (ht : ∀ (s : Shared) (H : Hp) (C : Addr) (cl : List (Str × Addr)) (fp : List Addr), PTs (X.blk s H scope (compEnvC scope cl C X.env) fp) ifs (tT X.prog X.w X.K t))
    (hi1 : ∀ (s : Shared) (H : Hp) (C : Addr) (cl : List (Str × Addr)) (fp : List Addr), PI (X.blk s H scope (compEnvC scope cl C X.env) fp) tg1 iter1 (tI X.prog X.w X.K fj))
    (hg1 : ∀ (s : Shared) (H : Hp) (C : Addr) (cl : List (Str × Addr)) (fp : List Addr), PG (X.blk s H scope (compEnvC scope cl C X.env) fp) tg1 (tG X.prog X.w X.K asg1 gf1)) (ht1 : ∀ (s : Shared) (H : Hp) (C : Addr) (cl : List (Str × Addr)) (fp : List Addr), PTs (X.blk s H scope (compEnvC scope cl C X.env) fp) ifs1 (tT X.prog X.w X.K t1))
    (he : ∀ (s : Shared) (H : Hp) (C : Addr) (cl : List (Str × Addr)) (fp : List Addr), PE (X.blk s H scope (compEnvC scope cl C X.env) fp) e (tE X.prog X.w X.K fa)) (hc : X.calm = true := by rfl) (hs : ∀ x, foldedSetIterable iter X.env x = pure x := by intro _; rfl) (hs1 : ∀ env x, foldedSetIterable iter1 env x = pure x := by intro _ _; rfl) :
    PE X (.ListComp e [⟨tg, iter, ifs, 0⟩, ⟨tg1, iter1, ifs1, 0⟩] scope pos) (tE X.prog X.w X.K (lc2F asg asg1 (bo.map (·.2)) vs1 fi gf t fj gf1 t1 fa)) := r_lc2 hc hN hi ok hv hg ht hi1 hg1 ht1 he hs hs1
theorem slc {i : Nat} {py : Pos} {bo : List (Str × Nat)} (hN : X.N.Nodup) (hi : PI X tg iter (tI X.prog X.w X.K fi)) (ok : BlkOk X.N X.env.scope scope bo)
    (hg : ∀ (s : Shared) (H : Hp) (C : Addr) (cl : List (Str × Addr)) (fp : List Addr), PG (X.blk s H scope (compEnvC scope cl C X.env) fp) tg (tG X.prog X.w X.K asg gf)) (ht : ∀ (s : Shared) (H : Hp) (C : Addr) (cl : List (Str × Addr)) (fp : List Addr), PTs (X.blk s H scope (compEnvC scope cl C X.env) fp) ifs (tT X.prog X.w X.K t))
    (he : ∀ (s : Shared) (H : Hp) (C : Addr) (cl : List (Str × Addr)) (fp : List Addr), PE (X.blk s H scope (compEnvC scope cl C X.env) fp) e (tE X.prog X.w X.K fa)) (hy : X.N[i]? = some y := by rfl) (hyl : X.env.scope.names.lookup y = some .local := by rfl)
    (hsw : swapsWith (.ListComp e [⟨tg, iter, ifs, 0⟩] scope pos) (some (.Name y py)) spos.line X.env = pure true := by first | rfl | exact sw_true rfl rfl rfl rfl) (hc : X.calm = true := by rfl) (hs : ∀ x, foldedSetIterable iter X.env x = pure x := by intro _; rfl) :
    PS X (.Assign [.Name y py] (.ListComp e [⟨tg, iter, ifs, 0⟩] scope pos) spos) (tS X.prog X.w X.K [i] (setF i (lcF asg (bo.map (·.2)) fi gf t fa))) := (ps_setLc hc hN hy hyl hsw hi ok hg ht he hs).imp (set_imp lc_imp)
theorem slc2 {i : Nat} {py : Pos} {bo : List (Str × Nat)} (hN : X.N.Nodup) (hi : PI X tg iter (tI X.prog X.w X.K fi)) (ok : BlkOk X.N X.env.scope scope bo) (hv : ∀ i ∈ vs1, i ∈ bo.map (·.2))
    (hg : ∀ (s : Shared) (H : Hp) (C : Addr) (cl : List (Str × Addr)) (fp : List Addr), PG (X.blk s H scope (compEnvC scope cl C X.env) fp) tg (tG X.prog X.w X.K asg gf)) (ht : ∀ (s : Shared) (H : Hp) (C : Addr) (cl : List (Str × Addr)) (fp : List Addr), PTs (X.blk s H scope (compEnvC scope cl C X.env) fp) ifs (tT X.prog X.w X.K t))
    (hi1 : ∀ (s : Shared) (H : Hp) (C : Addr) (cl : List (Str × Addr)) (fp : List Addr), PI (X.blk s H scope (compEnvC scope cl C X.env) fp) tg1 iter1 (tI X.prog X.w X.K fj))
    (hg1 : ∀ (s : Shared) (H : Hp) (C : Addr) (cl : List (Str × Addr)) (fp : List Addr), PG (X.blk s H scope (compEnvC scope cl C X.env) fp) tg1 (tG X.prog X.w X.K asg1 gf1)) (ht1 : ∀ (s : Shared) (H : Hp) (C : Addr) (cl : List (Str × Addr)) (fp : List Addr), PTs (X.blk s H scope (compEnvC scope cl C X.env) fp) ifs1 (tT X.prog X.w X.K t1))
    (he : ∀ (s : Shared) (H : Hp) (C : Addr) (cl : List (Str × Addr)) (fp : List Addr), PE (X.blk s H scope (compEnvC scope cl C X.env) fp) e (tE X.prog X.w X.K fa)) (hy : X.N[i]? = some y := by rfl) (hyl : X.env.scope.names.lookup y = some .local := by rfl)
    (hsw : swapsWith (.ListComp e [⟨tg, iter, ifs, 0⟩, ⟨tg1, iter1, ifs1, 0⟩] scope pos) (some (.Name y py)) spos.line X.env = pure true := by first | rfl | exact sw_true rfl rfl rfl rfl) (hc : X.calm = true := by rfl) (hs : ∀ x, foldedSetIterable iter X.env x = pure x := by intro _; rfl) (hs1 : ∀ env x, foldedSetIterable iter1 env x = pure x := by intro _ _; rfl) :
    PS X (.Assign [.Name y py] (.ListComp e [⟨tg, iter, ifs, 0⟩, ⟨tg1, iter1, ifs1, 0⟩] scope pos) spos) (tS X.prog X.w X.K [i] (setF i (lc2F asg asg1 (bo.map (·.2)) vs1 fi gf t fj gf1 t1 fa))) := (ps_setLc2 hc hN hy hyl hsw hi ok hv hg ht hi1 hg1 ht1 he hs hs1).imp (set_imp (lc2_imp hv))
theorem xdc (hu : X.A.units + 100 < cLine) {bo : List (Str × Nat)} (hN : X.N.Nodup) (hi : PI X tg iter (tI X.prog X.w X.K fi)) (ok : BlkOk X.N X.env.scope scope bo)
    (hg : ∀ (s : Shared) (H : Hp) (C : Addr) (cl : List (Str × Addr)) (fp : List Addr), PG (X.blk s H scope (compEnvC scope cl C X.env) fp) tg (tG X.prog X.w X.K asg gf)) (ht : ∀ (s : Shared) (H : Hp) (C : Addr) (cl : List (Str × Addr)) (fp : List Addr), PTs (X.blk s H scope (compEnvC scope cl C X.env) fp) ifs (tT X.prog X.w X.K t))
    (hk : ∀ (s : Shared) (H : Hp) (C : Addr) (cl : List (Str × Addr)) (fp : List Addr), PE (X.blk s H scope (compEnvC scope cl C X.env) fp) kx (tE X.prog X.w X.K fk))
    (he : ∀ (s : Shared) (H : Hp) (C : Addr) (cl : List (Str × Addr)) (fp : List Addr), PE (X.blk s H scope (compEnvC scope cl C X.env) fp) vx (tE X.prog X.w X.K fv)) (hc : X.calm = true := by rfl) (hs : ∀ x, foldedSetIterable iter X.env x = pure x := by intro _; rfl) :
    PE X (.DictComp kx vx [⟨tg, iter, ifs, 0⟩] scope pos) (tE X.prog X.w X.K (dcF asg (bo.map (·.2)) fi gf t fk fv)) := (pe_dcN hu hc hN hi ok hg ht hk he hs).imp dc_imp
theorem sdc (hu : X.A.units + 100 < cLine) {i : Nat} {py : Pos} {bo : List (Str × Nat)} (hN : X.N.Nodup) (hi : PI X tg iter (tI X.prog X.w X.K fi)) (ok : BlkOk X.N X.env.scope scope bo)
    (hg : ∀ (s : Shared) (H : Hp) (C : Addr) (cl : List (Str × Addr)) (fp : List Addr), PG (X.blk s H scope (compEnvC scope cl C X.env) fp) tg (tG X.prog X.w X.K asg gf)) (ht : ∀ (s : Shared) (H : Hp) (C : Addr) (cl : List (Str × Addr)) (fp : List Addr), PTs (X.blk s H scope (compEnvC scope cl C X.env) fp) ifs (tT X.prog X.w X.K t))
    (hk : ∀ (s : Shared) (H : Hp) (C : Addr) (cl : List (Str × Addr)) (fp : List Addr), PE (X.blk s H scope (compEnvC scope cl C X.env) fp) kx (tE X.prog X.w X.K fk))
    (he : ∀ (s : Shared) (H : Hp) (C : Addr) (cl : List (Str × Addr)) (fp : List Addr), PE (X.blk s H scope (compEnvC scope cl C X.env) fp) vx (tE X.prog X.w X.K fv)) (hy : X.N[i]? = some y := by rfl) (hyl : X.env.scope.names.lookup y = some .local := by rfl)
    (hsw : swapsWith (.DictComp kx vx [⟨tg, iter, ifs, 0⟩] scope pos) (some (.Name y py)) spos.line X.env = pure true := by rfl) (hc : X.calm = true := by rfl) (hs : ∀ x, foldedSetIterable iter X.env x = pure x := by intro _; rfl) :
    PS X (.Assign [.Name y py] (.DictComp kx vx [⟨tg, iter, ifs, 0⟩] scope pos) spos) (tS X.prog X.w X.K [i] (setF i (dcF asg (bo.map (·.2)) fi gf t fk fv))) := (ps_setDcN hu hc hN hy hyl hsw hi ok hg ht hk he hs).imp (set_imp dc_imp)

/-! a def of the row -/
def FunOk (P : Program) (w : World) (K : PySem.W.Frag) (mg : Str → Option Value) (base : Heap) (k : Nat) (x : Str) (ar : Nat) (io : Bool) (rl : Nat) (F : DF) : Prop :=
  ∃ f fd ps, ps.length = ar ∧ FnOk P w K mg base CX0 k f fd ps (SpD P w K io ar rl F) ∧ mg x = some (.ref f) ∧ PySem.W.keepIn K (.ref f) = true ∧ Binds K fd ps []
theorem FunOk.up {P : Program} {w : World} {K : PySem.W.Frag} {mg : Str → Option Value} {base : Heap} {j k : Nat} {x : Str} {ar rl : Nat} {io : Bool} {F : DF} (h : FunOk P w K mg base j x ar io rl F) (hjk : j ≤ k) : FunOk P w K mg base k x ar io rl F := by
  obtain ⟨f, fd, ps, h1, h2, h3, h4, h5⟩ := h
  exact ⟨f, fd, ps, h1, h2.mono hjk, h3, h4, h5⟩
theorem xcall {k : Nat} {io : Bool} {ar rl : Nat} {F : DF} {n : Nat} (G : FunOk X.prog X.w X.K X.mg X.base k x ar io rl F) (hr : Room n X.A) (hkn : k ≤ n) (ha : PA X (e :: es) (tA X.prog X.w X.K fs)) (hlen : ∀ ρ rs ρ1, fs ρ = some (rs, ρ1) → rs.length = (e :: es).length) (hn : (e :: es).length = ar := by rfl)
    (hg : Gl X x := by rfl) (hdb : (x == ("__debug__" : Str)) = false := by decide) (he : starEach (e :: es) X.env = (false, eval e X.env) :: starEach es X.env := by rfl) (hpl : (backTo pos (starEach es X.env)).any (·.1) = false := by rfl) :
    PE X (.Call (.Name x p) (e :: es) [] pos) (tE X.prog X.w X.K (callF io rl F fs)) := by
  obtain ⟨f, fd, ps, _, h2, h3, h4, h5⟩ := G
  exact r_call h2 (hr.mono hkn) hg h3 h4 h5 ha hn hdb he hpl hlen
theorem room100 {k : Nat} {A : Around} (h : Room k A) : A.units + 100 < cLine := by have := h.un; omega
end
section
variable {P : Program} {w : World} {K : PySem.W.Frag} {mg : Str → Option Value} {base : Heap}
theorem fun_ok {x qual : Str} {params : Arguments} {body : List Stmt} {scope : Scope} {f : Addr} {fd : FuncData} {N ps : List Str} {k ar rl : Nat} {io : Bool} {F : DF} {asg : List Nat} {fb : SF}
    (D0 : FunD K x qual params body scope [] [] f fd) (hm : mg x = some (.ref f)) (S : FnScope N ps scope) (hbd : Binds K fd ps [])
    (hb : ∀ (cdv : Value) (A : Around) (outer : List PySem.Env) (s : Shared) (H : Hp) (E : XK), Room k (A.deeper (envOfC qual scope s.heap.objs.size f cdv)) → PSs (cxOf CX0 P w K mg base N qual scope f cdv A outer s H E).nox body (tS P w K asg fb))
    (h0 : io = true → 0 ∉ asg) (hps : ps.length = ar) (hN : ar ≤ N.length) (hrl : rl = 0 ∨ rl = 1) (hio : ∀ ds r, F ds = some r → io = true → ∃ xs ds', ds = .lst xs :: ds')
    (hF : ∀ ds d d0, F ds = some (d, d0) → ds.length = ar → ∃ fuel, runB io rl N.length fb fuel ds = some (d, d0)) : FunOk P w K mg base (k + 1) x ar io rl F :=
  ⟨f, fd, ps, hps, def_ok D0 S (fun cdv A outer s H E hr => PSs.nox (hb cdv A outer s H E hr)) h0 hps hN hrl hio hF, hm, D0.kp, hbd⟩
end
end Dt
set_option Elab.async false
set_option linter.all false
set_option maxRecDepth 100000
set_option autoImplicit false
set_option maxHeartbeats 4000000
/-! The data layer, part 26: slices, {}, the rest that the printer names. -/
namespace Dt
open PySem PySem.Spec L2
open PyProof.Rows hiding St

/-! ### slices -/
def cutD (xs : List D) (lo hi : Option Int) : List D := (xs.drop (HT.sIx xs.length 0 lo)).take (HT.sIx xs.length xs.length hi - HT.sIx xs.length 0 lo)
def slD (lo hi : Option Int) : D → Option (D × Nat)
  | .lst xs => some (.lst (cutD xs lo hi), 1)
  | .tup xs => if xs.length ≤ LIM then some (.tup (cutD xs lo hi), 5) else none
  | .str z => if z.length ≤ LIM then some (.str (cutS z lo hi), 5) else none
  | _ => none
def partF : Option EF → DEnv → Option (Option Int × DEnv)
  | none, ρ => some (none, ρ)
  | some f, ρ => match f ρ with
    | some (.own (.int i) _, ρ1) => some (some i, ρ1)
    | _ => none
def slF (fe : EF) (lo hi : Option EF) : EF := fun ρ => match fe ρ with
  | some (r, ρ1) => if isEnt r = true then none else match partF lo ρ1 with
    | some (l, ρ2) => match partF hi ρ2 with
      | some (h, ρ3) => match rd ρ3 r with
        | some d => match slD l h d with
          | some (d', n) => some (.own d' n, ρ3)
          | none => none
        | none => none
      | none => none
    | none => none
  | none => none
def hStr : D → Option D
  | .str x => some (.str x)
  | _ => none
def fDic : EF := fun ρ => some (.own (.dic []) 1, ρ)

section
variable {X : Cx} {P : Program} {w : World} {K : PySem.W.Frag} {fa fb fc : EF} {fs : AF} {f : SF} {g : GF} {gs : GsF} {Z Z0 Z1 Z' : Addr → Prop} {ρ ρ1 ρ2 ρ3 ρ' ρe : DEnv} {σ σ' σ2 : St} {H H' H1 H2 : Hp} {own own1 own' own2 : OwnF} {asg : List Nat} {A B : List Addr}

def tO (P : Program) (w : World) (K : PySem.W.Frag) : Option EF → TO
  | none => tNoPart
  | some f => tPart (tE P w K f)
theorem po_n : PO X none (tO X.prog X.w X.K none) := po_none
theorem po_s {e : Expr} (h : PE X e (tE X.prog X.w X.K fa)) : PO X (some e) (tO X.prog X.w X.K (some fa)) := po_some h
theorem runO {o : Option EF} {l : Option Int} (E : Est P w K Z ρ σ H own) (e : partF o ρ = some (l, ρ1)) {R : Option Int → Hp → Prop} (k : ∀ H1 Z1 own1, Opd P w K Z own H ρ1 σ Z1 own1 H1 → R l H1) : tO P w K o σ H R := by
  cases o with
  | none =>
    simp only [partF, Option.some.injEq, Prod.mk.injEq] at e
    obtain ⟨rfl, rfl⟩ := e
    exact k H Z own (Opd.refl E)
  | some f =>
    simp only [partF] at e
    split at e
    · rename_i i n ρ2 e1
      simp only [Option.some.injEq, Prod.mk.injEq] at e
      obtain ⟨rfl, rfl⟩ := e
      refine run1 E e1 rfl fun x H1 Z1 own1 o1 v1 => ?_
      obtain ⟨A, h, _, _⟩ := v1
      obtain ⟨_, rr⟩ := imm_own (d := .int i) rfl h
      cases rr
      exact ⟨i, rfl, k H1 Z1 own1 o1⟩
    · cases e
theorem Opd.trans (o : Opd P w K Z own H ρ1 σ Z1 own1 H1) {Z2 : Addr → Prop} (o2 : Opd P w K Z1 own1 H1 ρ2 σ Z2 own2 H2) : Opd P w K Z own H ρ2 σ Z2 own2 H2 :=
  ⟨o.mv.trans o2.mv, o2.E, fun x h => o2.z x (o.z x h), fun x h => by
    rcases o2.zf x h with q | q | q
    · exact o.zf x q
    · exact .inr (o.mv.fresh (.inl q))
    · exact .inr (o.mv.fresh (.inr q))⟩
theorem cut_rep {M : Addr → Prop} {ds : List D} {vs : List V} (lo hi : Option Int) (r : RepL P w K H M vs ds) : RepL P w K H M (cutV vs lo hi) (cutD ds lo hi) := by
  have dr : ∀ (n : Nat) {ds : List D} {vs : List V}, RepL P w K H M vs ds → RepL P w K H M (vs.drop n) (ds.drop n) := fun n => by
    induction n with
    | zero => intro ds vs r; exact r
    | succ n ih =>
      intro ds vs r
      cases ds with
      | nil => cases r; exact .nil
      | cons d ds => cases r with | cons _ t => exact ih t
  have tk : ∀ (n : Nat) {ds : List D} {vs : List V}, RepL P w K H M vs ds → RepL P w K H M (vs.take n) (ds.take n) := fun n => by
    induction n with
    | zero => intro ds vs r; exact .nil
    | succ n ih =>
      intro ds vs r
      cases ds with
      | nil => cases r; exact .nil
      | cons d ds => cases r with | cons h t => exact .cons h (ih t)
  unfold cutV cutD
  rw [repL_len r]
  exact tk _ (dr _ r)
def rSlD (K : PySem.W.Frag) : V → Option Int → Option Int → Hp → VK → Prop := fun x lo hi H Q => rSlL K x lo hi H Q ∨ rSlA K x lo hi H Q ∨ rSlS x lo hi H Q
theorem sl_D : SlR X (rSlD X.K) := sl_list.or (sl_tupA.or sl_str)
theorem cutV_all {vs : List V} {lo hi : Option Int} (h : HT.sIx vs.length 0 lo = 0 ∧ HT.sIx vs.length vs.length hi = vs.length) : cutV vs lo hi = vs := by
  unfold cutV
  rw [h.1, h.2]
  simp
theorem r_slice {e : Expr} {lo hi : Option Expr} {lo' hi' : Option EF} {p2 pos : Pos} (he : PE X e (tE X.prog X.w X.K fa)) (hl : PO X lo (tO X.prog X.w X.K lo')) (hh : PO X hi (tO X.prog X.w X.K hi')) : PE X (.Subscript e (.Slice lo hi none p2) pos) (tE X.prog X.w X.K (slF fa lo' hi')) :=
  (pe_slice sl_D he hl hh).imp fun σ H Q ⟨Z, own, ρ, r, ρ', E, e, k⟩ => by
    simp only [slF] at e
    split at e
    case h_2 => cases e
    rename_i ra ρ1 e1
    split at e
    · cases e
    rename_i na
    split at e
    case h_2 => cases e
    rename_i l ρ2 e2
    split at e
    case h_2 => cases e
    rename_i h ρ3 e3
    split at e
    case h_2 => cases e
    rename_i d e4
    split at e
    case h_2 => cases e
    rename_i d' n e5
    simp only [Option.some.injEq, Prod.mk.injEq] at e
    obtain ⟨rfl, rfl⟩ := e
    refine run1 E e1 (by simpa using na) fun x H1 Z1 own1 o1 v1 => ?_
    refine runO o1.E e2 fun H2 Z2 own2 o2 => runO o2.E e3 fun H3 Z3 own3 o3 => ?_
    have o23 := o2.trans o3
    have o13 := o1.trans o23
    have v3 := v1.keepO o1.E o23
    unfold slD at e5
    split at e5
    · simp only [Option.some.injEq, Prod.mk.injEq] at e5
      obtain ⟨rfl, rfl⟩ := e5
      obtain ⟨a, vs, rfl, h1, h2⟩ := v3.items o13.E o13.z e4
      exact .inl ⟨a, vs, rfl, SqL.of h1, fun p hp => k _ _ (fin_lst o13.mv o13.E o13.z hp (cut_rep l h h2))⟩
    · split at e5
      · simp only [Option.some.injEq, Prod.mk.injEq] at e5
        obtain ⟨rfl, rfl⟩ := e5
        have q := v3.imm o13.E o13.z rfl e4
        cases q with
        | tup h1 h2 =>
          refine .inr (.inl ⟨_, _, rfl, h1.elim .inr fun z => .inl z.1, fun hw => ?_, fun _ p hp => k _ _ (fin_tup o13.mv o13.E o13.z hp (cut_rep l h h2))⟩)
          refine k _ _ (fin_imm o13.mv o13.E o13.z (own_imm rfl ?_))
          have hc := cut_rep l h h2
          rw [cutV_all hw] at hc
          exact .tup h1 hc
      · cases e5
    · split at e5
      · rename_i hz
        simp only [Option.some.injEq, Prod.mk.injEq] at e5
        obtain ⟨rfl, rfl⟩ := e5
        have q := v3.imm o13.E o13.z rfl e4
        cases q
        exact .inr (.inr ⟨_, rfl, by rw [sizeLine_eq]; exact hz, k _ _ (fin_imm o13.mv o13.E o13.z (own_imm rfl (.str _)))⟩)
      · cases e5
    · cases e5
theorem r_dic {pos : Pos} : PE X (.Dict [] [] pos) (tE X.prog X.w X.K fDic) := pe_dicNew.imp fun σ H Q ⟨Z, own, ρ, r, ρ', E, e, k⟩ => by
  simp only [fDic, Option.some.injEq, Prod.mk.injEq] at e
  obtain ⟨rfl, rfl⟩ := e
  exact fun p hp => k _ _ (fin_dic Mv.refl E (fun _ h => h) hp .nil)
theorem n_str : OpN P w K (fun xs H Q => ∃ a, xs = [.str a] ∧ Q (.str a) H) (g1 hStr) := opN_pure1 (fun a d e => by unfold hStr at e; split at e <;> first | (cases e; rfl) | cases e) fun x a d H Q ha e k => by
  unfold hStr at e
  split at e
  · cases e; cases see_str ha; exact ⟨_, rfl, k _ fun _ => .str _⟩
  · cases e
theorem xstr {e : Expr} {es : List Expr} {p pos : Pos} (hm : X.mg "str" = none) (ha : PA X (e :: es) (tA X.prog X.w X.K fs)) (hg : Gl X "str" := by rfl) (he : starEach (e :: es) X.env = (false, eval e X.env) :: starEach es X.env := by rfl) (hpl : (backTo pos (starEach es X.env)).any (·.1) = false := by rfl) : PE X (.Call (.Name "str" p) (e :: es) [] pos) (tE X.prog X.w X.K (fN (g1 hStr) fs)) := r_callTy SkE.call_str_str n_str hg hm PyProof.Rows.boot_str ha (by decide) (by decide) he hpl
theorem kLe : CmpR X .LtE cLeI := ⟨op_cmpI op_le⟩
theorem kGt : CmpR X .Gt cGtI := ⟨op_cmpI op_gt⟩
theorem kGe : CmpR X .GtE cGeI := ⟨op_cmpI op_ge⟩

/-! ### a def's reading, run -/
def FB (io : Bool) (rl n : Nat) (fb : SF) (fuel : Nat) : DF := fun ds => match io, ds with
  | true, .lst _ :: _ => runB io rl n fb fuel ds
  | false, _ => runB io rl n fb fuel ds
  | _, _ => none
theorem FB_run {io : Bool} {rl n fuel : Nat} {fb : SF} {ds : List D} {d d0 : D} (h : FB io rl n fb fuel ds = some (d, d0)) : ∃ fuel, runB io rl n fb fuel ds = some (d, d0) := by
  unfold FB at h
  split at h
  · exact ⟨fuel, h⟩
  · exact ⟨fuel, h⟩
  · cases h
theorem FB_io {io : Bool} {rl n fuel : Nat} {fb : SF} {ds : List D} {r : D × D} (h : FB io rl n fb fuel ds = some r) (hi : io = true) : ∃ xs ds', ds = .lst xs :: ds' := by
  unfold FB at h
  split at h
  · exact ⟨_, _, rfl⟩
  · cases hi
  · cases h
end
section
variable {P : Program} {w : World} {K : PySem.W.Frag} {mg : Str → Option Value} {base : Heap}
theorem fun_none {x qual : Str} {params : Arguments} {body : List Stmt} {scope : Scope} {f : Addr} {fd : FuncData} {N ps : List Str} {ar rl : Nat} {io : Bool}
    (D0 : FunD K x qual params body scope [] [] f fd) (hm : mg x = some (.ref f)) (S : FnScope N ps scope) (hbd : Binds K fd ps []) (hps : ps.length = ar) (hN : ar ≤ N.length) (hrl : rl = 0 ∨ rl = 1) : FunOk P w K mg base 1 x ar io rl (fun _ => none) :=
  fun_ok (k := 0) (fb := nevF) (asg := []) D0 hm S hbd (fun cdv A outer s H E hr => pss_never.imp fun D σ H ⟨Z, own, ρ, fuel, out, E, e, k⟩ => by cases e) (fun _ => by simp) hps hN hrl (fun ds r h _ => by cases h) (fun ds d d0 h _ => by cases h)
end
end Dt
set_option Elab.async false
set_option linter.all false
set_option maxRecDepth 100000
set_option autoImplicit false
set_option maxHeartbeats 4000000
/-! The data layer, part 27: the law's own def, what the head tells. -/
namespace Dt
open PySem PySem.Spec L2
open PyProof.Rows hiding St
section
variable {P : Program} {w : World} {K : PySem.W.Frag} {mg : Str → Option Value} {base : Heap}
theorem law_fn {x qual : Str} {params : Arguments} {body : List Stmt} {scope : Scope} {f : Addr} {fd : FuncData} {N ps : List Str} {k ar rl : Nat} {io : Bool} {F : DF} {asg : List Nat} {fb : SF}
    (D0 : FunD K x qual params body scope [] [] f fd) (S : FnScope N ps scope)
    (hb : ∀ (cdv : Value) (A : Around) (outer : List PySem.Env) (s : Shared) (H : Hp) (E : XK), Room k (A.deeper (envOfC qual scope s.heap.objs.size f cdv)) → PSs (cxOf CX0 P w K mg base N qual scope f cdv A outer s H E).nox body (tS P w K asg fb))
    (h0 : io = true → 0 ∉ asg) (hps : ps.length = ar) (hN : ar ≤ N.length) (hrl : rl = 0 ∨ rl = 1) (hio : ∀ ds r, F ds = some r → io = true → ∃ xs ds', ds = .lst xs :: ds')
    (hF : ∀ ds d d0, F ds = some (d, d0) → ds.length = ar → ∃ fuel, runB io rl N.length fb fuel ds = some (d, d0)) : FnOk P w K mg base CX0 (k + 1) f fd ps (SpD P w K io ar rl F) :=
  def_ok D0 S (fun cdv A outer s H E hr => PSs.nox (hb cdv A outer s H E hr)) h0 hps hN hrl hio hF
/-- a script given to the law -/
theorem law_sp {F : DF} {H : Hp} {a : Addr} {ns : List Int} {d0 : D} {E : XK} (hS : SqL K H a (ns.map V.int)) (h : F [.scr ns] = some (.bl true, d0)) : SpD P w K false 1 0 F [.ref a] H (fun v _ => v = .bl true) E := by
  refine ⟨fun _ => False, [.scr ns], [], .bl true, d0, fun _ z => z.elim, List.nodup_nil, fun x hx => (by cases hx), ?_, rfl, h, fun v H' A _ _ ho _ _ => ?_⟩
  · exact ⟨rfl, .cons (.scr (hS.symm.imp id fun z => ⟨z, fun z => z⟩)) .nil⟩
  · obtain ⟨_, r⟩ := ho
    cases r
    rfl
theorem ktup_of {x : Str} {ns : List Int} (h : He.tupB K x (ns.map He.Dv.int) = true) : KTup K (He.ga K x) (ns.map V.int) := by
  rcases He.tupB_ok h (fun _ => none) with q | q
  · rcases q with q | ⟨_, q⟩ <;> cases q
  · have e : (ns.map He.Dv.int).map (He.Dv.v K) = ns.map V.int := by
      rw [List.map_map]
      rfl
    rw [e] at q
    exact q
end
end Dt
set_option Elab.async false
set_option linter.all false
set_option maxRecDepth 100000
set_option autoImplicit false
set_option maxHeartbeats 4000000
/-! The data layer, part 28: loops over what does not change, in plain words. -/
namespace Dt
open PySem PySem.Spec L2
open PyProof.Rows hiding St

/-! ### list comprehensions -/
def lcStep (g : GF) (t e : EF) (vs : List Nat) (d : D) (ρ : DEnv) : Option (Option D × DEnv) := match g d ρ with
  | some ρ1 => if ρ1.length = ρ.length then match t ρ1 with
    | some (.own (.bl true) _, ρ2) => match e ρ2 with
      | some (r, ρ3) => if isEnt r = true then none else match esc r ρ3 with
        | some (y, ρ4) => some (some y, wipeD ρ4 vs)
        | none => none
      | none => none
    | some (.own (.bl false) _, ρ2) => some (none, wipeD ρ2 vs)
    | _ => none else none
  | none => none
def lcGo (g : GF) (t e : EF) (vs : List Nat) : List D → DEnv → Option (List D × DEnv)
  | [], ρ => some ([], ρ)
  | d :: ds, ρ => match lcStep g t e vs d ρ with
    | some (some y, ρ1) => match lcGo g t e vs ds ρ1 with
      | some (ys, ρ2) => some (y :: ys, ρ2)
      | none => none
    | some (none, ρ1) => lcGo g t e vs ds ρ1
    | none => none
theorem lcL_of {it : Its} {ds : List D} {g : GF} {t e : EF} {vs : List Nat} (hit : ∀ ρ, it.get ρ = some ds) : ∀ (m : Nat) (ρ : DEnv) (x : List D × DEnv), m ≤ ds.length → lcGo g t e vs (ds.drop (ds.length - m)) ρ = some x → lcL it ds.length g t e vs m ρ = some x
  | 0, ρ, x, _, h => by
    have e0 : ds.drop (ds.length - 0) = [] := by simp
    rw [e0] at h
    simp only [lcL, hit, if_true]
    exact h
  | m + 1, ρ, x, hm, h => by
    have hi : ds.length - (m + 1) < ds.length := by omega
    rw [List.drop_eq_getElem_cons hi] at h
    have e1 : ds.length - (m + 1) + 1 = ds.length - m := by omega
    rw [e1] at h
    simp only [lcGo] at h
    simp only [lcL, hit, if_true, List.getElem?_eq_getElem hi]
    split at h
    · rename_i y ρ1 es
      split at h
      · rename_i ys ρ2 eg
        have ih := lcL_of (g := g) (t := t) (e := e) (vs := vs) hit m ρ1 _ (by omega) eg
        unfold lcStep at es
        split at es
        case h_2 => cases es
        rename_i ρa ea
        split at es
        case isFalse => cases es
        rename_i hl
        split at es
        · rename_i n ρb eb
          split at es
          case h_2 => cases es
          rename_i r ρc ec
          split at es
          · cases es
          rename_i ne
          split at es
          case h_2 => cases es
          rename_i y' ρd ed
          simp only [Option.some.injEq, Prod.mk.injEq] at es
          obtain ⟨rfl, rfl⟩ := es
          simp only [ea, hl, if_true, eb, ec, ne, ed, ih]
          exact h
        · cases es
        · cases es
      · cases h
    · rename_i ρ1 es
      have ih := lcL_of (g := g) (t := t) (e := e) (vs := vs) hit m ρ1 _ (by omega) h
      unfold lcStep at es
      split at es
      case h_2 => cases es
      rename_i ρa ea
      split at es
      case isFalse => cases es
      rename_i hl
      split at es
      · split at es
        case h_2 => cases es
        split at es
        · cases es
        split at es
        case h_2 => cases es
        cases es
      · rename_i n ρb eb
        simp only [Option.some.injEq, Prod.mk.injEq, true_and] at es
        subst es
        simp only [ea, hl, if_true, eb, ih]
      · cases es
    · cases h
/-- the whole, where nothing but the list is made -/
theorem lcGo_pure {g : GF} {t e : EF} {vs : List Nat} {v : D → Option D} {ρ : DEnv} : ∀ {ds : List D}, (∀ d ∈ ds, lcStep g t e vs d ρ = some (v d, ρ)) → lcGo g t e vs ds ρ = some (ds.filterMap v, ρ)
  | [], _ => rfl
  | d :: ds, h => by
    have h1 := h d List.mem_cons_self
    have ih := lcGo_pure fun x hx => h x (List.mem_cons_of_mem _ hx)
    simp only [lcGo, h1]
    cases e : v d with
    | none => simp only [ih, List.filterMap_cons, e]
    | some y => simp only [ih, List.filterMap_cons, e]
/-- [.. for .. in (what stays)] -/
theorem lcF_of {asg vs : List Nat} {fi : IF} {g : GF} {t e : EF} {ρ ρ1 ρ2 : DEnv} {it : Its} {ds ys : List D} (h1 : fi ρ = some (it, ρ1)) (hit : ∀ ρ, it.get ρ = some ds) (hs : it.sls = []) (im : vs.all (fun i => immSlot ρ1[i]?) = true) (ha : asg.all (fun i => vs.contains i) = true) (hl : ds.length < LIM)
    (hg : lcGo g t e vs ds (wipeD ρ1 vs) = some (ys, ρ2)) : lcF asg vs fi g t e ρ = some (.own (.lst ys) 1, restD ρ1 ρ2 vs) := by
  have := lcL_of (g := g) (t := t) (e := e) (vs := vs) hit ds.length (wipeD ρ1 vs) (ys, ρ2) (Nat.le_refl _) (by rw [Nat.sub_self]; exact hg)
  simp only [lcF, h1, hit, im, hs, ha, hl, List.all_nil, and_self, if_true, this]
theorem lcF_pure {asg vs : List Nat} {fi : IF} {g : GF} {t e : EF} {ρ ρ1 : DEnv} {it : Its} {ds : List D} (v : D → Option D) (h1 : fi ρ = some (it, ρ1)) (hit : ∀ ρ, it.get ρ = some ds) (hs : it.sls = []) (im : vs.all (fun i => immSlot ρ1[i]?) = true) (ha : asg.all (fun i => vs.contains i) = true) (hl : ds.length < LIM)
    (hg : ∀ d ∈ ds, lcStep g t e vs d (wipeD ρ1 vs) = some (v d, wipeD ρ1 vs)) (hr : restD ρ1 (wipeD ρ1 vs) vs = ρ1) : lcF asg vs fi g t e ρ = some (.own (.lst (ds.filterMap v)) 1, ρ1) := by
  rw [lcF_of h1 hit hs im ha hl (lcGo_pure hg), hr]

/-! ### two clauses -/
def lc2Go (g : GF) (t : EF) (fi1 : IF) (g1 : GF) (t1 e : EF) (vs vs1 : List Nat) : Nat → List D → DEnv → Option (List D × DEnv)
  | _, [], ρ => some ([], ρ)
  | k, d :: ds, ρ => match g d ρ with
    | some ρ1 => if ρ1.length = ρ.length then match t ρ1 with
      | some (.own (.bl true) _, ρ2) => match fi1 ρ2 with
        | some (it1, ρ3) => match it1.get ρ3 with
          | some ds1 => if it1.sls.all (fun i => !vs1.contains i) = true ∧ k + ds1.length < LIM then match lcL it1 ds1.length g1 t1 e vs1 ds1.length (wipeD ρ3 vs1) with
            | some (ys, ρ4) => match lc2Go g t fi1 g1 t1 e vs vs1 (k + ys.length) ds (wipeD ρ4 vs) with
              | some (zs, ρ5) => some (ys ++ zs, ρ5)
              | none => none
            | none => none else none
          | none => none
        | none => none
      | some (.own (.bl false) _, ρ2) => lc2Go g t fi1 g1 t1 e vs vs1 k ds (wipeD ρ2 vs)
      | _ => none else none
    | none => none
theorem lc2L_of {it : Its} {ds : List D} {g g1 : GF} {t t1 e : EF} {fi1 : IF} {vs vs1 : List Nat} (hit : ∀ ρ, it.get ρ = some ds) : ∀ (m k : Nat) (ρ : DEnv) (x : List D × DEnv), m ≤ ds.length → lc2Go g t fi1 g1 t1 e vs vs1 k (ds.drop (ds.length - m)) ρ = some x → lc2L it ds.length g t fi1 g1 t1 e vs vs1 k m ρ = some x
  | 0, k, ρ, x, _, h => by
    have e0 : ds.drop (ds.length - 0) = [] := by simp
    rw [e0] at h
    simp only [lc2L, hit, if_true]
    simp only [lc2Go] at h
    exact h
  | m + 1, k, ρ, x, hm, h => by
    have hi : ds.length - (m + 1) < ds.length := by omega
    rw [List.drop_eq_getElem_cons hi] at h
    have e1 : ds.length - (m + 1) + 1 = ds.length - m := by omega
    rw [e1] at h
    simp only [lc2Go] at h
    simp only [lc2L, hit, if_true, List.getElem?_eq_getElem hi]
    split at h
    case h_2 => cases h
    rename_i ρa ea
    split at h
    case isFalse => cases h
    rename_i hl
    split at h
    · rename_i n ρb eb
      split at h
      case h_2 => cases h
      rename_i it1 ρc ec
      split at h
      case h_2 => cases h
      rename_i ds1 ed
      split at h
      case isFalse => cases h
      rename_i hh
      split at h
      case h_2 => cases h
      rename_i ys ρd ee
      split at h
      case h_2 => cases h
      rename_i zs ρe ef
      have ih := lc2L_of (g := g) (g1 := g1) (t := t) (t1 := t1) (e := e) (fi1 := fi1) (vs := vs) (vs1 := vs1) hit m _ _ _ (by omega) ef
      simp only [ea, hl, if_true, eb, ec, ed, hh, and_self, ee, ih]
      exact h
    · rename_i n ρb eb
      have ih := lc2L_of (g := g) (g1 := g1) (t := t) (t1 := t1) (e := e) (fi1 := fi1) (vs := vs) (vs1 := vs1) hit m _ _ _ (by omega) h
      simp only [ea, hl, if_true, eb, ih]
    · cases h
theorem lc2F_of {asg asg1 vs vs1 : List Nat} {fi fi1 : IF} {g g1 : GF} {t t1 e : EF} {ρ ρ1 ρ2 : DEnv} {it : Its} {ds ys : List D} (h1 : fi ρ = some (it, ρ1)) (hit : ∀ ρ, it.get ρ = some ds) (hs : it.sls = []) (im : vs.all (fun i => immSlot ρ1[i]?) = true) (ha : asg.all (fun i => vs.contains i) = true) (ha1 : asg1.all (fun i => vs1.contains i) = true) (ha2 : vs1.all (fun i => vs.contains i) = true)
    (hg : lc2Go g t fi1 g1 t1 e vs vs1 0 ds (wipeD ρ1 vs) = some (ys, ρ2)) : lc2F asg asg1 vs vs1 fi g t fi1 g1 t1 e ρ = some (.own (.lst ys) 1, restD ρ1 ρ2 vs) := by
  have := lc2L_of (g := g) (g1 := g1) (t := t) (t1 := t1) (e := e) (fi1 := fi1) (vs := vs) (vs1 := vs1) hit ds.length 0 (wipeD ρ1 vs) (ys, ρ2) (Nat.le_refl _) (by rw [Nat.sub_self]; exact hg)
  simp only [lc2F, h1, hit, im, hs, ha, ha1, ha2, List.all_nil, and_self, if_true, this]

/-! ### for -/
def forGo (g : GF) (f : SF) (fuel : Nat) : List D → DEnv → Option SOut
  | [], ρ => some (.nx ρ)
  | d :: ds, ρ => match g d ρ with
    | some ρ1 => match f fuel ρ1 with
      | some (.nx ρ2) => forGo g f fuel ds ρ2
      | some (.ct ρ2) => forGo g f fuel ds ρ2
      | some (.bk ρ2) => some (.nx ρ2)
      | o => o
    | none => none
theorem forL_go {it : Its} {ds : List D} {g : GF} {f : SF} {fuel : Nat} (hit : ∀ ρ, it.get ρ = some ds) : ∀ (m : Nat) (ρ : DEnv), m ≤ ds.length → forL it ds.length g f fuel m ρ = forGo g f fuel (ds.drop (ds.length - m)) ρ
  | 0, ρ, _ => by simp [forL, hit, forGo]
  | m + 1, ρ, h => by
    have hi : ds.length - (m + 1) < ds.length := by omega
    rw [List.drop_eq_getElem_cons hi]
    have e1 : ds.length - (m + 1) + 1 = ds.length - m := by omega
    rw [e1]
    simp only [forL, hit, forGo, if_true, List.getElem?_eq_getElem hi]
    have ih := forL_go (g := g) (f := f) (fuel := fuel) hit m
    cases g (ds[ds.length - (m + 1)]) ρ with
    | none => rfl
    | some ρ1 =>
      simp only
      cases f fuel ρ1 with
      | none => rfl
      | some o =>
        cases o with
        | nx ρ2 => exact ih ρ2 (by omega)
        | ct ρ2 => exact ih ρ2 (by omega)
        | bk ρ2 => rfl
        | rt d n ρ2 => rfl
theorem forF_of {asg : List Nat} {fi : IF} {g : GF} {f : SF} {fuel : Nat} {ρ ρ1 : DEnv} {it : Its} {ds : List D} (h1 : fi ρ = some (it, ρ1)) (hit : ∀ ρ, it.get ρ = some ds) (hs : it.sls = []) : forF asg fi g f fuel ρ = forGo g f fuel ds ρ1 := by
  have := forL_go (g := g) (f := f) (fuel := fuel) hit ds.length ρ1 (Nat.le_refl _)
  rw [Nat.sub_self] at this
  simp only [forF, h1, hit, hs, List.all_nil, if_true, this]
  rfl

/-! ### dict comprehensions -/
def dcGo (g : GF) (t fk fv : EF) (vs : List Nat) : List D → List (D × D) → DEnv → Option (List (D × D) × DEnv)
  | [], acc, ρ => some (acc, ρ)
  | d :: ds, acc, ρ => match g d ρ with
    | some ρ1 => if ρ1.length = ρ.length then match t ρ1 with
      | some (.own (.bl true) _, ρ2) => match fk ρ2 with
        | some (.own (.tup ks) _, ρ3) => match fv ρ3 with
          | some (r, ρ4) => if isEnt r = true then none else match esc r ρ4 with
            | some (dv, ρ5) => match (D.tup ks).key with
              | some k => if k.depth ≤ 8 ∧ acc.length < LIM then dcGo g t fk fv vs ds (putD k (.tup ks) dv acc) (wipeD ρ5 vs) else none
              | none => none
            | none => none
          | none => none
        | _ => none
      | some (.own (.bl false) _, ρ2) => dcGo g t fk fv vs ds acc (wipeD ρ2 vs)
      | _ => none else none
    | none => none
theorem dcL_of {it : Its} {ds : List D} {g : GF} {t fk fv : EF} {vs : List Nat} (hit : ∀ ρ, it.get ρ = some ds) : ∀ (m : Nat) (acc : List (D × D)) (ρ : DEnv) (x : List (D × D) × DEnv), m ≤ ds.length → dcGo g t fk fv vs (ds.drop (ds.length - m)) acc ρ = some x → dcL it ds.length g t fk fv vs m acc ρ = some x
  | 0, acc, ρ, x, _, h => by
    have e0 : ds.drop (ds.length - 0) = [] := by simp
    rw [e0] at h
    simp only [dcL, hit, if_true]
    exact h
  | m + 1, acc, ρ, x, hm, h => by
    have hi : ds.length - (m + 1) < ds.length := by omega
    rw [List.drop_eq_getElem_cons hi] at h
    have e1 : ds.length - (m + 1) + 1 = ds.length - m := by omega
    rw [e1] at h
    simp only [dcGo] at h
    simp only [dcL, hit, if_true, List.getElem?_eq_getElem hi]
    split at h
    case h_2 => cases h
    rename_i ρa ea
    split at h
    case isFalse => cases h
    rename_i hl
    split at h
    · rename_i n ρb eb
      split at h
      case h_2 => cases h
      rename_i ks nk ρc ec
      split at h
      case h_2 => cases h
      rename_i r ρd ed
      split at h
      · cases h
      rename_i ne
      split at h
      case h_2 => cases h
      rename_i dv ρe ee
      split at h
      case h_2 => cases h
      rename_i k ek
      split at h
      case isFalse => cases h
      rename_i hh
      have ih := dcL_of (g := g) (t := t) (fk := fk) (fv := fv) (vs := vs) hit m _ _ _ (by omega) h
      simp only [ea, hl, if_true, eb, ec, ed, ne, ee, ek, hh, and_self, ih]
      rfl
    · rename_i n ρb eb
      have ih := dcL_of (g := g) (t := t) (fk := fk) (fv := fv) (vs := vs) hit m _ _ _ (by omega) h
      simp only [ea, hl, if_true, eb, ih]
    · cases h
theorem dcF_of {asg vs : List Nat} {fi : IF} {g : GF} {t fk fv : EF} {ρ ρ1 ρ2 : DEnv} {it : Its} {ds : List D} {ys : List (D × D)} (h1 : fi ρ = some (it, ρ1)) (hit : ∀ ρ, it.get ρ = some ds) (hs : it.sls = []) (im : vs.all (fun i => immSlot ρ1[i]?) = true) (ha : asg.all (fun i => vs.contains i) = true)
    (hg : dcGo g t fk fv vs ds [] (wipeD ρ1 vs) = some (ys, ρ2)) : dcF asg vs fi g t fk fv ρ = some (.own (.dic ys) 1, restD ρ1 ρ2 vs) := by
  have := dcL_of (g := g) (t := t) (fk := fk) (fv := fv) (vs := vs) hit ds.length [] (wipeD ρ1 vs) (ys, ρ2) (Nat.le_refl _) (by rw [Nat.sub_self]; exact hg)
  simp only [dcF, h1, hit, im, hs, ha, List.all_nil, and_self, if_true, this]
end Dt
set_option Elab.async false
set_option linter.all false
set_option maxRecDepth 100000
set_option autoImplicit false
set_option maxHeartbeats 4000000
/-! Cells: triples of ints, as trees; their order, as keys, in lists and dicts. -/
namespace Dt
open PySem PySem.Spec L2
open PyProof.Rows hiding St

structure Cell where
  x : Int
  y : Int
  z : Int
deriving DecidableEq
def Cell.d (c : Cell) : D := .tup [.int c.x, .int c.y, .int c.z]
def Cell.py (c : Cell) : PyData := .tuple [.int c.x, .int c.y, .int c.z]
def Cell.k (c : Cell) : NestedKey := .tup [.num c.x, .num c.y, .num c.z]
def Cell.lt (a b : Cell) : Bool := if a.x = b.x then (if a.y = b.y then decide (a.z < b.z) else decide (a.y < b.y)) else decide (a.x < b.x)
def Cell.le (a b : Cell) : Bool := !Cell.lt b a
theorem Cell.toPy (c : Cell) : toPy c.d = some c.py := by simp [Cell.d, Cell.py, Dt.toPy, toPys]
theorem Cell.enc (c : Cell) : encD c.d = c.py := by simp [encD, Cell.toPy]
theorem Cell.key (c : Cell) : c.d.key = some c.k := by simp [Cell.d, Cell.k, D.key, D.keys]
theorem Cell.k_inj {a b : Cell} (h : a.k = b.k) : a = b := by
  cases a; cases b
  simp only [Cell.k, NestedKey.tup.injEq, List.cons.injEq, NestedKey.num.injEq, and_true] at h
  obtain ⟨rfl, rfl, rfl⟩ := h
  rfl
theorem Cell.k_depth (c : Cell) : c.k.depth ≤ 8 := by simp [Cell.k, NestedKey.depth, NestedKey.depthAll]
theorem Cell.d_inj {a b : Cell} (h : a.d = b.d) : a = b := by
  cases a; cases b
  simp only [Cell.d, D.tup.injEq, List.cons.injEq, D.int.injEq, and_true] at h
  obtain ⟨rfl, rfl, rfl⟩ := h
  rfl
theorem Cell.alike (a b : Cell) : PySem.W.alike a.py b.py = true := by simp [Cell.py, PySem.W.alike, PySem.W.alikeAll]
theorem Cell.shaped (c : Cell) : SeqAt.shaped c.py = true := by simp [SeqAt.shaped, Cell.py, PyData.canLay0, PyData.canLayAll0, PyData.depth, PyData.depthAll]
theorem Cell.dataLt (a b : Cell) : PySem.W.dataLt a.py b.py = Cell.lt a b := by
  have al : ∀ i j : Int, PySem.W.alike (.int i) (.int j) = true := fun _ _ => rfl
  unfold Cell.py
  rw [PySem.W.dataLt_tuple, PySem.W.dataLt_cons (al _ _), PySem.W.dataLt_cons (al _ _), PySem.W.dataLt_cons (al _ _)]
  unfold Cell.lt
  simp only [PyData.eqv, PySem.W.dataLt_int]
  by_cases h1 : a.x = b.x
  · by_cases h2 : a.y = b.y
    · by_cases h3 : a.z = b.z
      · simp [h1, h2, h3, PySem.W.keyToksAll, PyProof.Rows.lexLt]; rfl
      · simp [h1, h2, h3]
    · simp [h1, h2]
  · simp [h1]
theorem Cell.cLt (a b : Cell) : cLt a.d b.d = some (Cell.lt a b) := by
  unfold Dt.cLt
  rw [Cell.toPy, Cell.toPy]
  simp only [Cell.alike, Cell.shaped, Bool.and_self]
  have : notNone a.py = true := rfl
  rw [this]
  simp only [Bool.and_self, if_true, Cell.dataLt]
theorem Cell.leD (a b : Cell) : leD a.d b.d = Cell.le a b := by
  show PySem.W.dataLe false encD a.d b.d = _
  rw [PySem.W.dataLe_eq]
  simp only [cond_false, Cell.enc, Cell.dataLt]
  rfl
theorem Cell.lt_irrefl (a : Cell) : Cell.lt a a = false := by simp [Cell.lt]
theorem Cell.lt_iff (a b : Cell) : Cell.lt a b = true ↔ a.x < b.x ∨ (a.x = b.x ∧ (a.y < b.y ∨ (a.y = b.y ∧ a.z < b.z))) := by
  unfold Cell.lt
  by_cases h1 : a.x = b.x
  · rw [if_pos h1]
    by_cases h2 : a.y = b.y
    · rw [if_pos h2, decide_eq_true_iff]
      constructor
      · intro h; exact .inr ⟨h1, .inr ⟨h2, h⟩⟩
      · intro h; omega
    · rw [if_neg h2, decide_eq_true_iff]
      constructor
      · intro h; exact .inr ⟨h1, .inl h⟩
      · intro h; omega
  · rw [if_neg h1, decide_eq_true_iff]
    constructor
    · intro h; exact .inl h
    · intro h; omega
theorem Cell.eq_iff (a b : Cell) : a = b ↔ a.x = b.x ∧ a.y = b.y ∧ a.z = b.z := by
  cases a; cases b; simp
theorem Cell.le_iff' (a b : Cell) : Cell.le a b = true ↔ ¬ (b.x < a.x ∨ (b.x = a.x ∧ (b.y < a.y ∨ (b.y = a.y ∧ b.z < a.z)))) := by
  rw [← Cell.lt_iff]
  simp [Cell.le]
theorem Cell.le_iff (a b : Cell) : Cell.le a b = true ↔ a = b ∨ Cell.lt a b = true := by
  rw [Cell.le_iff', Cell.eq_iff, Cell.lt_iff]; omega
theorem Cell.le_trans (a b c : Cell) (h1 : Cell.le a b = true) (h2 : Cell.le b c = true) : Cell.le a c = true := by
  rw [Cell.le_iff'] at *; omega
theorem Cell.le_total (a b : Cell) : (Cell.le a b || Cell.le b a) = true := by
  rw [Bool.or_eq_true, Cell.le_iff', Cell.le_iff']; omega
/-! sorted -/
def cds (cs : List Cell) : List D := cs.map Cell.d
def srt (cs : List Cell) : List Cell := cs.mergeSort Cell.le
theorem sortOk_cells {cs : List Cell} (h : cs.length ≤ LIM) : sortOk (cds cs) = true := by
  unfold sortOk cds
  simp only [List.length_map, Bool.and_eq_true, decide_eq_true_eq, Bool.or_eq_true, List.all_eq_true, List.mem_map, forall_exists_index, and_imp, forall_apply_eq_imp_iff₂]
  refine ⟨⟨⟨fun c _ => ?_, fun a _ b _ => ?_⟩, .inl fun c _ => ?_⟩, h⟩
  · rw [Cell.toPy]; exact Cell.shaped c
  · rw [Cell.enc, Cell.enc]; exact Cell.alike a b
  · rw [Cell.enc]; rfl
theorem sort_cells (cs : List Cell) : (cds cs).mergeSort leD = cds (srt cs) := by
  unfold cds srt
  rw [List.map_mergeSort (r := Cell.le) (s := leD) (f := Cell.d) (fun a _ b _ => (Cell.leD a b).symm)]
theorem gSorted_cells {cs : List Cell} (h : cs.length ≤ LIM) : gSorted [.lst (cds cs)] = some (.lst (cds (srt cs)), 1) := by
  simp only [gSorted, sortOk_cells h, if_true, sort_cells]
theorem srt_perm (cs : List Cell) : (srt cs).Perm cs := List.mergeSort_perm cs _
theorem srt_len (cs : List Cell) : (srt cs).length = cs.length := (srt_perm cs).length_eq
theorem srt_mem {cs : List Cell} {c : Cell} : c ∈ srt cs ↔ c ∈ cs := (srt_perm cs).mem_iff
theorem srt_sorted (cs : List Cell) : (srt cs).Pairwise fun a b => Cell.le a b = true := List.pairwise_mergeSort Cell.le_trans Cell.le_total cs
theorem srt_nodup {cs : List Cell} (h : cs.Nodup) : (srt cs).Nodup := (srt_perm cs).nodup_iff.mpr h
theorem srt_rising {cs : List Cell} (h : cs.Nodup) : (srt cs).Pairwise fun a b => Cell.lt a b = true := by
  have h1 := srt_sorted cs
  have h2 := srt_nodup h
  have h3 := h1.and h2
  exact h3.imp fun ⟨a, b⟩ => ((Cell.le_iff _ _).mp a).resolve_left b
/-! in lists, dicts -/
theorem Cell.eqv (a b : Cell) : PyData.eqv a.py b.py = decide (a = b) := by
  cases a; cases b
  rw [Bool.eq_iff_iff]
  simp [Cell.py, PyData.eqv, PyData.eqvAll]
theorem toPys_cells : ∀ cs : List Cell, toPys (cds cs) = some (cs.map Cell.py)
  | [] => rfl
  | c :: cs => by simp only [cds, List.map_cons, toPys, Cell.toPy]; rw [show cs.map Cell.d = cds cs from rfl, toPys_cells cs]
theorem canLay_cells : ∀ cs : List Cell, PyData.canLayAll0 (cs.map Cell.py) = true
  | [] => rfl
  | c :: cs => by
    simp only [List.map_cons, PyData.canLayAll0, canLay_cells cs, Bool.and_true]
    exact (Bool.and_eq_true_iff.mp (Cell.shaped c)).1
theorem depth_cells : ∀ cs : List Cell, PyData.depthAll (cs.map Cell.py) ≤ 1
  | [] => by simp [PyData.depthAll]
  | c :: cs => by
    have := depth_cells cs
    simp only [List.map_cons, PyData.depthAll]
    have h : c.py.depth ≤ 1 := by simp [Cell.py, PyData.depth, PyData.depthAll]
    omega
theorem shaped_list (cs : List Cell) : SeqAt.shaped (.list (cs.map Cell.py)) = true := by
  have := depth_cells cs
  simp only [SeqAt.shaped, PyData.canLay0, canLay_cells, Bool.true_and, decide_eq_true_eq]
  rw [PyData.depth]
  omega
theorem shaped_tuple (cs : List Cell) : SeqAt.shaped (.tuple (cs.map Cell.py)) = true := by
  have := depth_cells cs
  simp only [SeqAt.shaped, PyData.canLay0, canLay_cells, Bool.true_and, decide_eq_true_eq]
  rw [PyData.depth]
  omega
theorem any_cells (c : Cell) (cs : List Cell) : ((cs.map Cell.py).any fun z => PyData.eqv z c.py) = decide (c ∈ cs) := by
  rw [List.any_map]
  induction cs with
  | nil => rfl
  | cons a cs ih =>
    simp only [List.any_cons, Function.comp, ih, Cell.eqv, List.mem_cons, Bool.decide_or]
    congr 1
    exact decide_eq_decide.mpr ⟨fun h => h.symm, fun h => h.symm⟩
theorem cIn_tup (c : Cell) (cs : List Cell) : cIn c.d (.tup (cds cs)) = some (decide (c ∈ cs)) := by
  unfold cIn
  rw [Cell.toPy]
  simp only [toPys_cells, Cell.shaped, shaped_list, Bool.and_self, if_true, any_cells]
theorem cIn_lst (c : Cell) (cs : List Cell) : cIn c.d (.lst (cds cs)) = some (decide (c ∈ cs)) := by
  unfold cIn
  rw [Cell.toPy]
  simp only [toPys_cells, Cell.shaped, shaped_list, Bool.and_self, if_true, any_cells]
/-- cells as the keys of a dict, all True -/
def dset (cs : List Cell) : List (D × D) := cs.map fun c => (c.d, .bl true)
theorem look_dset (c : Cell) : ∀ cs : List Cell, lookD c.k (dset cs) = if c ∈ cs then some (.bl true) else none
  | [] => rfl
  | a :: cs => by
    simp only [dset, List.map_cons, lookD, Cell.key, Option.some.injEq]
    have ih := look_dset c cs
    unfold dset at ih
    by_cases h : a = c
    · subst h; simp
    · have h' : ¬ a.k = c.k := fun e => h (Cell.k_inj e)
      have h2 : ¬ c = a := fun e => h e.symm
      simp [h', ih, h2]
def ins (c : Cell) (cs : List Cell) : List Cell := if c ∈ cs then cs else cs ++ [c]
theorem put_dset (c : Cell) (cs : List Cell) : putD c.k c.d (.bl true) (dset cs) = dset (ins c cs) := by
  unfold putD ins
  rw [look_dset]
  by_cases h : c ∈ cs
  · simp only [h, if_true, Option.isSome_some]
    unfold dset
    rw [List.map_map]
    apply List.map_congr_left
    intro a _
    simp only [Function.comp]
    split <;> rfl
  · simp [h, dset]
theorem ins_mem {a c : Cell} {cs : List Cell} : a ∈ ins c cs ↔ a = c ∨ a ∈ cs := by
  unfold ins
  split
  · rename_i h
    exact ⟨.inr, fun q => q.elim (fun e => e ▸ h) id⟩
  · rw [List.mem_append, List.mem_singleton]
    exact ⟨fun q => q.symm, fun q => q.symm⟩
theorem ins_nodup {c : Cell} {cs : List Cell} (h : cs.Nodup) : (ins c cs).Nodup := by
  unfold ins
  split
  · exact h
  · rename_i hn
    rw [List.nodup_append]
    refine ⟨h, by simp, fun a ha b hb => ?_⟩
    rw [List.mem_singleton.mp hb]
    exact fun e => hn (e ▸ ha)
theorem ins_len (c : Cell) (cs : List Cell) : (ins c cs).length ≤ cs.length + 1 := by
  unfold ins
  split <;> simp
theorem cIn_dset (c : Cell) (cs : List Cell) : cInD c.d (.dic (dset cs)) = some (decide (c ∈ cs)) := by
  unfold cInD
  have : (D.tup [D.int c.x, D.int c.y, D.int c.z]).key = some c.k := Cell.key c
  simp only [Cell.d, this, Cell.k_depth, if_true, look_dset]
  by_cases h : c ∈ cs <;> simp [h]
theorem dset_keys (cs : List Cell) : (dset cs).map (·.1) = cds cs := by
  unfold dset cds
  rw [List.map_map]
  rfl
end Dt
set_option Elab.async false
set_option linter.all false
set_option maxRecDepth 100000
set_option autoImplicit false
set_option maxHeartbeats 4000000
/-! Steps: bodies, statements, loops in plain words. -/
namespace Dt
open PySem PySem.Spec L2
open PyProof.Rows hiding St

theorem FB_rt {rl N fuel : Nat} {fb : SF} {ds : List D} {d : D} {n : Nat} {ρ : DEnv} (h : fb fuel (initE false N ds) = some (.rt d n ρ)) (hl : lvOk d rl n = true) : FB false rl N fb fuel ds = some (d, .non) := by
  unfold FB runB; simp only [h, hl, if_true]; rfl
theorem FB_nx {rl N fuel : Nat} {fb : SF} {ds : List D} {ρ : DEnv} (h : fb fuel (initE false N ds) = some (.nx ρ)) : FB false rl N fb fuel ds = some (.non, .non) := by
  unfold FB runB; simp only [h]; rfl
theorem FBio_rt {rl N fuel : Nat} {fb : SF} {xs ys : List D} {ds : List D} {d : D} {n : Nat} {ρ : DEnv} (h : fb fuel (initE true N (.lst xs :: ds)) = some (.rt d n ρ)) (hl : lvOk d rl n = true) (h0 : ρ[0]? = some (some (.lst ys, 1))) : FB true rl N fb fuel (.lst xs :: ds) = some (d, .lst ys) := by
  unfold FB runB; simp only [h, hl, if_true, ioEnd, h0]
theorem seq_nx {f g : SF} {fuel : Nat} {ρ ρ1 : DEnv} {o : Option SOut} (h : f fuel ρ = some (.nx ρ1)) (k : g fuel ρ1 = o) : seqF f g fuel ρ = o := by
  unfold seqF; rw [h]; exact k
theorem seq_rt {f g : SF} {fuel : Nat} {ρ ρ1 : DEnv} {d : D} {n : Nat} (h : f fuel ρ = some (.rt d n ρ1)) : seqF f g fuel ρ = some (.rt d n ρ1) := by
  unfold seqF; rw [h]
theorem set_own {i fuel n : Nat} {e : EF} {ρ ρ1 : DEnv} {d : D} (h : e ρ = some (.own d n, ρ1)) (hi : Nat.blt i ρ1.length = true) : setF i e fuel ρ = some (.nx (ρ1.set i (some (d, n)))) := by
  have hi : i < ρ1.length := by simpa using hi
  unfold setF; rw [h]; simp only [asgR, hi, if_true]

/-! lists -/
theorem nodup_len_le {α : Type} [DecidableEq α] : ∀ {A B : List α}, A.Nodup → (∀ x ∈ A, x ∈ B) → A.length ≤ B.length
  | [], B, _, _ => Nat.zero_le B.length
  | a :: A, B, hn, h => by
    have hn := List.nodup_cons.mp hn
    have hb := h a List.mem_cons_self
    have ih := nodup_len_le (B := B.erase a) hn.2 fun x hx => (List.mem_erase_of_ne (fun e : x = a => hn.1 (e ▸ hx))).mpr (h x (List.mem_cons_of_mem _ hx))
    have := List.length_erase_of_mem hb
    have := List.length_pos_of_mem hb
    simp only [List.length_cons]
    omega
/-! for loops -/
theorem forGo_fold {α σ : Type} (enc : α → D) (E : σ → DEnv) (stp : σ → α → σ) {g : GF} {f : SF} {fuel : Nat} : ∀ (xs : List α) (s : σ), (∀ s, ∀ x ∈ xs, ∃ ρ1, g (enc x) (E s) = some ρ1 ∧ f fuel ρ1 = some (.nx (E (stp s x)))) → forGo g f fuel (xs.map enc) (E s) = some (.nx (E (xs.foldl stp s)))
  | [], s, _ => rfl
  | x :: xs, s, h => by
    obtain ⟨ρ1, h1, h2⟩ := h s x List.mem_cons_self
    have ih := forGo_fold enc E stp xs (stp s x) fun s y hy => h s y (List.mem_cons_of_mem _ hy)
    simp only [List.map_cons, forGo, h1, h2, ih, List.foldl_cons]
theorem forGo_inv {α : Type} (enc : α → D) (I : List α → DEnv → Prop) {g : GF} {f : SF} {fuel : Nat} (xs : List α) : (∀ pre x post ρ, xs = pre ++ x :: post → I pre ρ → ∃ ρ1 ρ2, g (enc x) ρ = some ρ1 ∧ f fuel ρ1 = some (.nx ρ2) ∧ I (pre ++ [x]) ρ2) → ∀ ρ, I [] ρ → ∃ ρ', forGo g f fuel (xs.map enc) ρ = some (.nx ρ') ∧ I xs ρ' := by
  intro h
  suffices hg : ∀ (ys pre : List α) (ρ : DEnv), xs = pre ++ ys → I pre ρ → ∃ ρ', forGo g f fuel (ys.map enc) ρ = some (.nx ρ') ∧ I xs ρ' from fun ρ hi => hg xs [] ρ rfl hi
  intro ys
  induction ys with
  | nil => intro pre ρ e hi; rw [List.append_nil] at e; exact ⟨ρ, rfl, e ▸ hi⟩
  | cons y ys ih =>
    intro pre ρ e hi
    obtain ⟨ρ1, ρ2, h1, h2, h3⟩ := h pre y ys ρ e hi
    obtain ⟨ρ', h4, h5⟩ := ih (pre ++ [y]) ρ2 (by rw [e]; simp) h3
    exact ⟨ρ', by simp only [List.map_cons, forGo, h1, h2, h4], h5⟩
/-- the same invariant all along -/
theorem forGo_const {α : Type} (enc : α → D) (I : DEnv → Prop) {g : GF} {f : SF} {fuel : Nat} (xs : List α) (h : ∀ x ∈ xs, ∀ ρ, I ρ → ∃ ρ1 ρ2, g (enc x) ρ = some ρ1 ∧ f fuel ρ1 = some (.nx ρ2) ∧ I ρ2) (ρ : DEnv) (hi : I ρ) : ∃ ρ', forGo g f fuel (xs.map enc) ρ = some (.nx ρ') ∧ I ρ' :=
  forGo_inv enc (fun _ => I) xs (fun pre x post ρ e hi => h x (by rw [e]; simp) ρ hi) ρ hi
theorem forF_map {α : Type} (enc : α → D) (xs : List α) {asg : List Nat} {fi : IF} {g : GF} {f : SF} {fuel : Nat} {ρ ρ1 : DEnv} {it : Its} (h1 : fi ρ = some (it, ρ1)) (hit : ∀ ρ, it.get ρ = some (xs.map enc)) (hs : it.sls = []) : forF asg fi g f fuel ρ = forGo g f fuel (xs.map enc) ρ1 := forF_of h1 hit hs
/-- range(n) -/
def rk (k : Nat) : D := .int (0 + (k : Int))
theorem r1_of {fs : AF} {ρ ρ1 : DEnv} {r : Res} {m : Int} (h : fs ρ = some ([r], ρ1)) (hr : rd ρ1 r = some (.int m)) (h0 : small62 m = true) : r1F fs ρ = some (.rng 0 m.toNat, ρ1) := by
  unfold r1F; simp only [h, hr, h0, if_true]
theorem rng_get (n : Nat) (ρ : DEnv) : (Its.rng 0 n).get ρ = some ((List.range n).map rk) := rfl
theorem small_of {m : Int} (h0 : -1000000 ≤ m) (h1 : m ≤ 1000000) : small62 m = true := by
  unfold small62
  rw [Bool.and_eq_true]
  refine ⟨decide_eq_true ?_, decide_eq_true ?_⟩
  · have h2 : (-(2 ^ 62) : Int) = -4611686018427387904 := by rfl
    rw [h2]; omega
  · have h2 : ((2 ^ 62) : Int) = 4611686018427387904 := by rfl
    rw [h2]; omega
theorem forF_rng {asg : List Nat} {fs : AF} {g : GF} {f : SF} {fuel : Nat} {ρ ρ1 : DEnv} {r : Res} {m : Int} (h : fs ρ = some ([r], ρ1)) (hr : rd ρ1 r = some (.int m)) (h0 : -1000000 ≤ m) (h1 : m ≤ 1000000) : forF asg (r1F fs) g f fuel ρ = forGo g f fuel ((List.range m.toNat).map rk) ρ1 :=
  forF_of (r1_of h hr (small_of h0 h1)) (rng_get _) rfl

/-! comprehensions -/
theorem lcGo_fm {α : Type} (enc : α → D) {g : GF} {t e : EF} {vs : List Nat} (v : α → Option D) {ρ : DEnv} : ∀ {xs : List α}, (∀ x ∈ xs, lcStep g t e vs (enc x) ρ = some (v x, ρ)) → lcGo g t e vs (xs.map enc) ρ = some (xs.filterMap v, ρ)
  | [], _ => rfl
  | x :: xs, h => by
    have h1 := h x List.mem_cons_self
    have ih := lcGo_fm enc v fun x hx => h x (List.mem_cons_of_mem _ hx)
    rw [List.map_cons]
    simp only [lcGo, h1]
    cases e1 : v x with
    | none => simp only [ih, List.filterMap_cons, e1]
    | some y => simp only [ih, List.filterMap_cons, e1]
/-- nothing but the list is made; the walked things stand in a slot, or nowhere -/
theorem lcL_fm {α : Type} (enc : α → D) {it : Its} {xs : List α} {g : GF} {t e : EF} {vs : List Nat} (v : α → Option D) {ρ : DEnv} (hit : it.get ρ = some (xs.map enc)) (hg : ∀ x ∈ xs, lcStep g t e vs (enc x) ρ = some (v x, ρ)) : ∀ m : Nat, m ≤ xs.length → lcL it xs.length g t e vs m ρ = some ((xs.drop (xs.length - m)).filterMap v, ρ)
  | 0, _ => by
    simp only [lcL, hit, List.length_map, if_true, Nat.sub_zero, List.drop_length, List.filterMap_nil]
  | m + 1, hm => by
    have hi : xs.length - (m + 1) < xs.length := by omega
    have ih := lcL_fm enc v hit hg m (by omega)
    have h := hg _ (List.getElem_mem hi)
    rw [List.drop_eq_getElem_cons hi]
    have e1 : xs.length - (m + 1) + 1 = xs.length - m := by omega
    have e2 : (xs.map enc)[xs.length - (m + 1)]? = some (enc xs[xs.length - (m + 1)]) := by simp [hi]
    rw [e1]
    simp only [lcL, hit, List.length_map, if_true, e2]
    unfold lcStep at h
    split at h
    case h_2 => cases h
    rename_i ρa ea
    split at h
    case isFalse => cases h
    rename_i hl
    split at h
    · rename_i n ρb eb
      split at h
      case h_2 => cases h
      rename_i r ρc ec
      split at h
      · cases h
      rename_i ne
      split at h
      case h_2 => cases h
      rename_i y' ρd ed
      simp only [Option.some.injEq, Prod.mk.injEq] at h
      obtain ⟨h3, h4⟩ := h
      simp only [ea, hl, if_true, eb, ec, ne, ed, h4, ih, List.filterMap_cons, ← h3]
      rfl
    · rename_i n ρb eb
      simp only [Option.some.injEq, Prod.mk.injEq] at h
      obtain ⟨h3, h4⟩ := h
      simp only [ea, hl, if_true, eb, h4, ih, List.filterMap_cons, ← h3]
    · cases h
theorem lcF_fm {α : Type} (enc : α → D) (xs : List α) (v : α → Option D) {asg vs : List Nat} {fi : IF} {g : GF} {t e : EF} {ρ ρ1 : DEnv} {it : Its} (h1 : fi ρ = some (it, ρ1)) (hit : it.get ρ1 = some (xs.map enc)) (hit2 : it.get (wipeD ρ1 vs) = some (xs.map enc)) (hs : it.sls.all (fun i => !vs.contains i) = true) (im : vs.all (fun i => immSlot ρ1[i]?) = true) (ha : asg.all (fun i => vs.contains i) = true) (hl : xs.length < LIM)
    (hg : ∀ x ∈ xs, lcStep g t e vs (enc x) (wipeD ρ1 vs) = some (v x, wipeD ρ1 vs)) (hr : restD ρ1 (wipeD ρ1 vs) vs = ρ1) : lcF asg vs fi g t e ρ = some (.own (.lst (xs.filterMap v)) 1, ρ1) := by
  have := lcL_fm enc v hit2 hg xs.length (Nat.le_refl _)
  rw [Nat.sub_self, List.drop_zero] at this
  simp only [lcF, h1, hit, im, hs, ha, List.length_map, hl, and_self, if_true, this, hr]
/-- with an invariant of the state; the parts told by a relation -/
theorem lcGo_rel {α : Type} (enc : α → D) (I : DEnv → Prop) (R : α → D → Prop) {g : GF} {t e : EF} {vs : List Nat} : ∀ {xs : List α} {ρ : DEnv}, I ρ → (∀ x ∈ xs, ∀ ρ, I ρ → ∃ y ρ', lcStep g t e vs (enc x) ρ = some (some y, ρ') ∧ R x y ∧ I ρ') → ∃ ys ρ', lcGo g t e vs (xs.map enc) ρ = some (ys, ρ') ∧ ys.length = xs.length ∧ (∀ i (h1 : i < xs.length) (h2 : i < ys.length), R xs[i] ys[i]) ∧ I ρ'
  | [], ρ, hi, _ => ⟨[], ρ, rfl, rfl, fun i h => (Nat.not_lt_zero _ h).elim, hi⟩
  | x :: xs, ρ, hi, h => by
    obtain ⟨y, ρ1, h1, h2, h3⟩ := h x List.mem_cons_self ρ hi
    obtain ⟨ys, ρ2, h4, h5, h6, h7⟩ := lcGo_rel enc I R h3 fun x hx => h x (List.mem_cons_of_mem _ hx)
    refine ⟨y :: ys, ρ2, by simp only [List.map_cons, lcGo, h1, h4], by simp [h5], fun i h8 h9 => ?_, h7⟩
    cases i with
    | zero => exact h2
    | succ i => exact h6 i _ _
end Dt
set_option Elab.async false
set_option linter.all false
set_option maxRecDepth 100000
set_option maxHeartbeats 0
set_option autoImplicit false
/-! Printed by gen.py: the defs of the law, read on trees. -/
namespace Lw
open PySem PySem.Spec L2 Dt
open PyProof.Rows hiding St
def fb_is_whole : SF :=
    (seqF (retF (andF (fIsi "int" (fVar 0)) (notF (fIsi "bool" (fVar 0)))))
    nopF)
def F_is_whole : DF := FB false 0 1 fb_is_whole 1000000
def fb_fits_whole : SF :=
    (seqF (retF (andF (callF false 0 F_is_whole (fCons (fVar 0) fNil)) (chainF cLeI cLeI (fVar 1) (fVar 0) (fVar 2))))
    nopF)
def F_fits_whole : DF := FB false 0 3 fb_fits_whole 1000000
def fb_is_tuple_of : SF :=
    (seqF (retF (andF (fIsi "tuple" (fVar 0)) (chainF cLeI cLeI (fVar 1) (fN gLen (fCons (fVar 0) fNil)) (fVar 2))))
    nopF)
def F_is_tuple_of : DF := FB false 0 3 fb_is_tuple_of 1000000
def c_is_rising1 : EF :=
    (lcF [1, 2] [1, 2] (z2F false (fCons (fVar 0) (fCons (slF (fVar 0) (some (fVal (.int 1))) none) fNil))) (tupG 2 (consG (nameG 1) (consG (nameG 2) nilG))) yesF (f2 (fun a b => blO (cLt a b)) (fVar 1) (fVar 2)))
def fb_is_rising : SF :=
    (seqF (retF (fN (g1 hAll) (fCons c_is_rising1 fNil)))
    nopF)
def F_is_rising : DF := FB false 0 3 fb_is_rising 1000000
def c_fits_cell1 : EF :=
    (lcF [1] [1] (oneF false (fVar 0)) (nameG 1) yesF (callF false 0 F_fits_whole (fCons (fVar 1) (fCons (f1 gNeg (fVal (.int 100))) (fCons (fVal (.int 100)) fNil)))))
def fb_fits_cell : SF :=
    (seqF (retF (andF (callF false 0 F_is_tuple_of (fCons (fVar 0) (fCons (fVal (.int 3)) (fCons (fVal (.int 3)) fNil)))) (fN (g1 hAll) (fCons c_fits_cell1 fNil))))
    nopF)
def F_fits_cell : DF := FB false 0 2 fb_fits_cell 1000000
def c_fits_solid1 : EF :=
    (lcF [1] [1] (oneF false (fVar 0)) (nameG 1) yesF (callF false 0 F_fits_cell (fCons (fVar 1) fNil)))
def fb_fits_solid : SF :=
    (seqF (retF (andF (callF false 0 F_is_tuple_of (fCons (fVar 0) (fCons (fVal (.int 0)) (fCons (fVal (.int 128)) fNil)))) (andF (fN (g1 hAll) (fCons c_fits_solid1 fNil)) (callF false 0 F_is_rising (fCons (fVar 0) fNil)))))
    nopF)
def F_fits_solid : DF := FB false 0 2 fb_fits_solid 1000000
def fb_need_solid : SF :=
    (seqF (ifF (notF (callF false 0 F_fits_solid (fCons (fVar 0) fNil))) (seqF nevF
    nopF) nopF)
    nopF)
def F_need_solid : DF := FB false 0 1 fb_need_solid 1000000
def fb_need_some : SF :=
    (seqF (dropF (callF false 0 F_need_solid (fCons (fVar 0) fNil)))
    (seqF (ifF (f2 (fun a b => blO (cEq a b)) (fVar 0) (fTup fNil)) (seqF nevF
    nopF) nopF)
    nopF))
def F_need_some : DF := FB false 0 1 fb_need_some 1000000
def c_fits_sides1 : EF :=
    (lcF [1] [1] (oneF false (fVar 0)) (nameG 1) yesF (callF false 0 F_fits_whole (fCons (fVar 1) (fCons (fVal (.int 1)) (fCons (fVal (.int 20)) fNil)))))
def fb_fits_sides : SF :=
    (seqF (retF (andF (callF false 0 F_is_tuple_of (fCons (fVar 0) (fCons (fVal (.int 3)) (fCons (fVal (.int 3)) fNil)))) (fN (g1 hAll) (fCons c_fits_sides1 fNil))))
    nopF)
def F_fits_sides : DF := FB false 0 2 fb_fits_sides 1000000
def fb_need_sides : SF :=
    (seqF (ifF (notF (callF false 0 F_fits_sides (fCons (fVar 0) fNil))) (seqF nevF
    nopF) nopF)
    nopF)
def F_need_sides : DF := FB false 0 1 fb_need_sides 1000000
def c_need_pattern1 : EF :=
    (lcF [3, 4] [3, 4] (z2F false (fCons (fVar 2) (fCons (fVar 0) fNil))) (tupG 2 (consG (nameG 3) (consG (nameG 4) nilG))) yesF (chainF cLeI cLt (fVal (.int 0)) (fVar 3) (fVar 4)))
def c_need_pattern2 : EF :=
    (lcF [2] [2] (oneF false (fVar 1)) (nameG 2) yesF (fN (g1 hAll) (fCons c_need_pattern1 fNil)))
def fb_need_pattern : SF :=
    (seqF (dropF (callF false 0 F_need_sides (fCons (fVar 0) fNil)))
    (seqF (dropF (callF false 0 F_need_some (fCons (fVar 1) fNil)))
    (seqF (ifF (notF (fN (g1 hAll) (fCons c_need_pattern2 fNil))) (seqF nevF
    nopF) nopF)
    nopF)))
def F_need_pattern : DF := FB false 0 5 fb_need_pattern 1000000
def c_times_cell1 : EF :=
    (lcF [2, 3] [2, 3] (z2F false (fCons (fVar 0) (fCons (fVar 1) fNil))) (tupG 2 (consG (nameG 2) (consG (nameG 3) nilG))) yesF (f2 gMul (fVar 2) (fVar 3)))
def fb_times_cell : SF :=
    (seqF (retF (fN gTuple (fCons c_times_cell1 fNil)))
    nopF)
def F_times_cell : DF := FB false 0 4 fb_times_cell 1000000
def c_plus1 : EF :=
    (lcF [2, 3] [2, 3] (z2F false (fCons (fVar 0) (fCons (fVar 1) fNil))) (tupG 2 (consG (nameG 2) (consG (nameG 3) nilG))) yesF (f2 gAdd (fVar 2) (fVar 3)))
def fb_plus : SF :=
    (seqF (retF (fN gTuple (fCons c_plus1 fNil)))
    nopF)
def F_plus : DF := FB false 0 4 fb_plus 1000000
def c_home_in1 : EF :=
    (lcF [3, 5, 4] [3, 5, 4] (z3F false (fCons (fVar 0) (fCons (fVar 2) (fCons (fVar 1) fNil)))) (tupG 3 (consG (nameG 3) (consG (nameG 5) (consG (nameG 4) nilG)))) yesF (f2 gSub (fVar 3) (f2 gMul (fVar 5) (fVar 4))))
def c_home_in2 : EF :=
    (lcF [3, 4] [3, 4] (z2F false (fCons (fVar 0) (fCons (fVar 1) fNil))) (tupG 2 (consG (nameG 3) (consG (nameG 4) nilG))) yesF (f2 gFdiv (fVar 3) (fVar 4)))
def fb_home_in : SF :=
    (seqF (setF 2 (fN gTuple (fCons c_home_in2 fNil)))
    (seqF (retF (fTup (fCons (fVar 2) (fCons (fN gTuple (fCons c_home_in1 fNil)) fNil))))
    nopF))
def F_home_in : DF := FB false 0 6 fb_home_in 1000000
def c_woven_in1 : EF :=
    (lc2F [3] [4] [3, 4] [4] (oneF false (fVar 0)) (nameG 3) yesF (oneF false (fVar 2)) (nameG 4) yesF (callF false 0 F_plus (fCons (callF false 0 F_times_cell (fCons (fVar 3) (fCons (fVar 1) fNil))) (fCons (fVar 4) fNil))))
def fb_woven_in : SF :=
    (seqF (retF (fN gSorted (fCons c_woven_in1 fNil)))
    nopF)
def F_woven_in : DF := FB false 1 5 fb_woven_in 1000000
def c_solid_of1 : EF :=
    (lcF [1] [1] (oneF false (fVar 0)) (nameG 1) yesF (callF false 0 F_fits_cell (fCons (fVar 1) fNil)))
def fb_solid_of : SF :=
    (seqF (ifF (f2 (fun a b => blO (cGtI a b)) (fN gLen (fCons (fVar 0) fNil)) (fVal (.int 128))) (seqF nevF
    nopF) nopF)
    (seqF (ifF (notF (fN (g1 hAll) (fCons c_solid_of1 fNil))) (seqF nevF
    nopF) nopF)
    (seqF (retF (fN gTuple (fCons (fVar 0) fNil)))
    nopF)))
def F_solid_of : DF := FB false 0 2 fb_solid_of 1000000
def c_touches_in1 : EF :=
    (lcF [5] [5] (oneF false (fVar 0)) (nameG 5) (f2 (fun a b => blO (cInD a b)) (callF false 0 F_plus (fCons (fVar 5) (fCons (fVar 2) fNil))) (fVar 3)) (fVar 5))
def c_touches_in2 : EF :=
    (dcF [5] [5] (oneF false (fVar 0)) (nameG 5) yesF (fVar 5) (fVal (.bl true)))
def c_touches_in3 : EF :=
    (lcF [4] [4] (oneF false (fTup (fCons (fVal (.int 0)) (fCons (fVal (.int 1)) (fCons (fVal (.int 2)) fNil))))) (nameG 4) yesF (ifxF (f2 (fun a b => blO (cEq a b)) (fVar 4) (fVar 1)) (fVal (.int 1)) (fVal (.int 0))))
def fb_touches_in : SF :=
    (seqF (setF 2 (fN gTuple (fCons c_touches_in3 fNil)))
    (seqF (setF 3 c_touches_in2)
    (seqF (retF (fN gLen (fCons c_touches_in1 fNil)))
    nopF)))
def F_touches_in : DF := FB false 0 6 fb_touches_in 1000000
def c_meets_in1 : EF :=
    (lcF [7, 8] [7, 8] (enF false (fCons (fVar 5) fNil)) (tupG 2 (consG (nameG 7) (consG (nameG 8) nilG))) yesF (ifxF (f2 (fun a b => blO (cEq a b)) (fVar 7) (fVar 2)) (fVal (.int 0)) (fVar 8)))
def b_meets_in2 : SF :=
    (seqF (ifF (f2 (fun a b => blO (cEq a b)) (f2 gIx (fVar 5) (fVar 2)) (f2 gSub (f2 gIx (fVar 0) (fVar 2)) (fVal (.int 1)))) (seqF (setF 6 (fN gTuple (fCons c_meets_in1 fNil)))
    (seqF (setF 4 (f2 gAdd (fVar 4) (ifxF (f2 (fun a b => blO (cInD a b)) (fVar 6) (fVar 3)) (fVal (.int 1)) (fVal (.int 0)))))
    nopF)) nopF)
    nopF)
def l_meets_in2 : SF :=
    (forF [5, 6, 4] (oneF false (fVar 1)) (nameG 5) b_meets_in2)
def c_meets_in3 : EF :=
    (dcF [5] [5] (oneF false (fVar 1)) (nameG 5) yesF (fVar 5) (fVal (.bl true)))
def fb_meets_in : SF :=
    (seqF (setF 3 c_meets_in3)
    (seqF (setF 4 (fVal (.int 0)))
    (seqF l_meets_in2
    (seqF (retF (fVar 4))
    nopF))))
def F_meets_in : DF := FB false 0 9 fb_meets_in 1000000
def c_counts_in1 : EF :=
    (lcF [7] [7] (oneF false (fTup (fCons (fVal (.int 0)) (fCons (fVal (.int 1)) (fCons (fVal (.int 2)) fNil))))) (nameG 7) yesF (f2 gAdd (f2 gMul (fVar 3) (callF false 0 F_touches_in (fCons (fVar 1) (fCons (fVar 7) fNil)))) (f2 gMul (f2 gIx (fVar 4) (fVar 7)) (callF false 0 F_meets_in (fCons (fVar 0) (fCons (fVar 1) (fCons (fVar 7) fNil)))))))
def b_counts_in2 : SF :=
    (seqF (setF 6 c_counts_in1)
    (seqF (asgF (tupG 2 (consG (nameG 3) (consG (nameG 4) nilG))) (fTup (fCons (f2 gMul (fVar 3) (fN gLen (fCons (fVar 1) fNil))) (fCons (fVar 6) fNil))))
    nopF))
def l_counts_in2 : SF :=
    (forF [5, 6, 3, 4] (r1F (fCons (fVar 2) fNil)) (nameG 5) b_counts_in2)
def fb_counts_in : SF :=
    (seqF (asgF (tupG 2 (consG (nameG 3) (consG (nameG 4) nilG))) (fTup (fCons (fVal (.int 1)) (fCons (fLst (fCons (fVal (.int 0)) (fCons (fVal (.int 0)) (fCons (fVal (.int 0)) fNil)))) fNil))))
    (seqF l_counts_in2
    (seqF (retF (fTup (fCons (fVar 3) (fCons (f2 gSub (f2 gMul (fVal (.int 6)) (fVar 3)) (f2 gMul (fVal (.int 2)) (fN (g1 hSum) (fCons (fVar 4) fNil)))) fNil))))
    nopF)))
def F_counts_in : DF := FB false 0 8 fb_counts_in 1000000
def fb_woven : SF :=
    (seqF (dropF (callF false 0 F_need_some (fCons (fVar 0) fNil)))
    (seqF (dropF (callF false 0 F_need_pattern (fCons (fVar 1) (fCons (fVar 2) fNil))))
    (seqF (ifF (f2 (fun a b => blO (cGtI a b)) (f2 gMul (fN gLen (fCons (fVar 0) fNil)) (fN gLen (fCons (fVar 2) fNil))) (fVal (.int 128))) (seqF nevF
    nopF) nopF)
    (seqF (retF (callF false 0 F_solid_of (fCons (callF false 1 F_woven_in (fCons (fVar 0) (fCons (fVar 1) (fCons (fVar 2) fNil)))) fNil)))
    nopF))))
def F_woven : DF := FB false 0 3 fb_woven 1000000
def c_power_of1 : EF :=
    (lcF [5] [5] (oneF false (fVar 3)) (nameG 5) yesF (fN (g1 hMax) (fCons (fVar 5) fNil)))
def b_power_of2 : SF :=
    (seqF (setF 3 (callF false 1 F_woven_in (fCons (fVar 3) (fCons (fVar 0) (fCons (fVar 1) fNil)))))
    (seqF (ifF (f2 (fun a b => blO (cGtI a b)) (fN (g1 hMax) (fCons c_power_of1 fNil)) (fVal (.int 100))) (seqF nevF
    nopF) nopF)
    nopF))
def l_power_of2 : SF :=
    (forF [4, 3] (r1F (fCons (fVar 2) fNil)) (nameG 4) b_power_of2)
def fb_power_of : SF :=
    (seqF (dropF (callF false 0 F_need_pattern (fCons (fVar 0) (fCons (fVar 1) fNil))))
    (seqF (ifF (notF (callF false 0 F_fits_whole (fCons (fVar 2) (fCons (fVal (.int 0)) (fCons (fVal (.int 200)) fNil))))) (seqF nevF
    nopF) nopF)
    (seqF (ifF (f2 (fun a b => blO (cGtI a b)) (f2 gIx (callF false 0 F_counts_in (fCons (fVar 0) (fCons (fVar 1) (fCons (fVar 2) fNil)))) (fVal (.int 0))) (fVal (.int 128))) (seqF nevF
    nopF) nopF)
    (seqF (setF 3 (fLst (fCons (fVal (.tup (List.map D.int [0, 0, 0]))) fNil)))
    (seqF l_power_of2
    (seqF (retF (fN gTuple (fCons (fVar 3) fNil)))
    nopF))))))
def F_power_of : DF := FB false 0 6 fb_power_of 1000000
def fb_power_counts : SF :=
    (seqF (dropF (callF false 0 F_need_pattern (fCons (fVar 0) (fCons (fVar 1) fNil))))
    (seqF (ifF (notF (callF false 0 F_fits_whole (fCons (fVar 2) (fCons (fVal (.int 0)) (fCons (fVal (.int 200)) fNil))))) (seqF nevF
    nopF) nopF)
    (seqF (retF (callF false 0 F_counts_in (fCons (fVar 0) (fCons (fVar 1) (fCons (fVar 2) fNil)))))
    nopF)))
def F_power_counts : DF := FB false 0 3 fb_power_counts 1000000
def b_power_has1 : SF :=
    (seqF (asgF (tupG 2 (consG (nameG 3) (consG (nameG 6) nilG))) (callF false 0 F_home_in (fCons (fVar 3) (fCons (fVar 0) fNil))))
    (seqF (ifF (f2 (fun a b => blO ((cInD a b).map (!·))) (fVar 6) (fVar 4)) (seqF (retF (fVal (.bl false)))
    nopF) nopF)
    nopF))
def l_power_has1 : SF :=
    (forF [5, 3, 6] (r1F (fCons (fVar 2) fNil)) (nameG 5) b_power_has1)
def c_power_has2 : EF :=
    (dcF [6] [6] (oneF false (fVar 1)) (nameG 6) yesF (fVar 6) (fVal (.bl true)))
def c_power_has3 : EF :=
    (lcF [7] [7] (oneF false (fVar 3)) (nameG 7) yesF (callF false 0 F_fits_whole (fCons (fVar 7) (fCons (fVal (.int 0)) (fCons (f2 gPow (fVal (.int 10)) (fVal (.int 60))) fNil)))))
def fb_power_has : SF :=
    (seqF (dropF (callF false 0 F_need_pattern (fCons (fVar 0) (fCons (fVar 1) fNil))))
    (seqF (ifF (notF (callF false 0 F_fits_whole (fCons (fVar 2) (fCons (fVal (.int 0)) (fCons (fVal (.int 200)) fNil))))) (seqF nevF
    nopF) nopF)
    (seqF (ifF (orF (notF (callF false 0 F_is_tuple_of (fCons (fVar 3) (fCons (fVal (.int 3)) (fCons (fVal (.int 3)) fNil))))) (notF (fN (g1 hAll) (fCons c_power_has3 fNil)))) (seqF nevF
    nopF) nopF)
    (seqF (setF 4 c_power_has2)
    (seqF l_power_has1
    (seqF (retF (f2 (fun a b => blO (cEq a b)) (fVar 3) (fVal (.tup (List.map D.int [0, 0, 0])))))
    nopF))))))
def F_power_has : DF := FB false 0 8 fb_power_has 1000000
def fb_law_cup : SF :=
    (seqF (setF 1 (fN (g1 hAbs) (fCons (f2 gIx (f2 gAdd (fN gList (fCons (fVar 0) fNil)) (fLst (fCons (fVal (.int 0)) fNil))) (fVal (.int 0))) fNil)))
    (seqF (retF (fLst (fCons (ifxF (f2 (fun a b => blO (cGeI a b)) (fVar 1) (f2 gPow (fVal (.int 10)) (fVal (.int 18)))) (f2 gFdiv (fVar 1) (fVal (.int 149))) (fVal (.int 0))) (fCons (f2 gAdd (f2 gMod (fN (g1 hInt) (fCons (f2 gAdd (f2 gMul (fVar 1) (fVal (.int 3833))) (fVal (.int 5807))) fNil)) (fVal (.int 2041124221))) (fVal (.int 2477))) fNil))))
    nopF))
def F_law_cup : DF := FB false 1 2 fb_law_cup 1000000
def fb_law_roll : SF :=
    (seqF (ifF (f2 (fun a b => blO (cGtI a b)) (f2 gIx (fVar 0) (fVal (.int 0))) (fVal (.int 0))) (seqF (setF 2 (f2 gMod (fN (g1 hInt) (fCons (f2 gIx (fVar 0) (fVal (.int 0))) fNil)) (fVar 1)))
    (seqF (storeF 0 (fVal (.int 0)) (f2 gFdiv (f2 gIx (fVar 0) (fVal (.int 0))) (fVar 1)))
    (seqF (retF (fVar 2))
    nopF))) nopF)
    (seqF (storeF 0 (fVal (.int 1)) (f2 gMod (fN (g1 hInt) (fCons (f2 gAdd (f2 gMul (f2 gIx (fVar 0) (fVal (.int 1))) (fVal (.int 35409))) (fVal (.int 7433))) fNil)) (fVal (.int 2147483423))))
    (seqF (setF 3 (f2 gMod (fN (g1 hInt) (fCons (f2 gMul (f2 gIx (fVar 0) (fVal (.int 1))) (f2 gAdd (f2 gIx (fVar 0) (fVal (.int 1))) (fVal (.int 4513)))) fNil)) (fVal (.int 2147483587))))
    (seqF (retF (f2 gMod (fN (g1 hInt) (fCons (f2 gFdiv (fVar 3) (fVal (.int 1907))) fNil)) (fVar 1)))
    nopF))))
def F_law_roll : DF := FB true 0 4 fb_law_roll 1000000
def fb_law_some : SF :=
    (seqF (retF (f2 gIx (fVar 1) (callF true 0 F_law_roll (fCons (fVar 0) (fCons (fN gLen (fCons (fVar 1) fNil)) fNil)))))
    nopF)
def F_law_some : DF := FB true 0 2 fb_law_some 1000000
def c_law_same1 (Fr : DF) : EF :=
    (lcF [2] [2] (r1F (fCons (fN gLen (fCons (fVar 1) fNil)) fNil)) (nameG 2) (notF (callF false 0 Fr (fCons (f2 gIx (fVar 0) (fVar 2)) (fCons (f2 gIx (fVar 1) (fVar 2)) fNil)))) (fVal (.int 1)))
def fb_law_same (Fr : DF) : SF :=
    (seqF (ifF (orF (fIsi "tuple" (fVar 1)) (fIsi "list" (fVar 1))) (seqF (ifF (orF (f2 (fun a b => blO ((fun a b => (cEq a b).map (!·)) a b)) (fIsi "tuple" (fVar 0)) (fIsi "tuple" (fVar 1))) (orF (f2 (fun a b => blO ((fun a b => (cEq a b).map (!·)) a b)) (fIsi "list" (fVar 0)) (fIsi "list" (fVar 1))) (f2 (fun a b => blO ((fun a b => (cEq a b).map (!·)) a b)) (fN gLen (fCons (fVar 0) fNil)) (fN gLen (fCons (fVar 1) fNil))))) (seqF (retF (fVal (.bl false)))
    nopF) nopF)
    (seqF (retF (f2 (fun a b => blO (cEq a b)) (c_law_same1 Fr) (fLst fNil)))
    nopF)) nopF)
    (seqF (ifF (f2 (fun a b => blO (cIs a b)) (fVar 1) (fVal .non)) (seqF (retF (f2 (fun a b => blO (cIs a b)) (fVar 0) (fVal .non)))
    nopF) nopF)
    (seqF (ifF (fIsi "bool" (fVar 1)) (seqF (retF (ifxF (fVar 1) (f2 (fun a b => blO (cIs a b)) (fVar 0) (fVal (.bl true))) (f2 (fun a b => blO (cIs a b)) (fVar 0) (fVal (.bl false)))))
    nopF) nopF)
    (seqF (ifF (fIsi "int" (fVar 1)) (seqF (retF (andF (fIsi "int" (fVar 0)) (andF (notF (fIsi "bool" (fVar 0))) (f2 (fun a b => blO (cEq a b)) (fN (g1 hInt) (fCons (fVar 0) fNil)) (fVar 1)))))
    nopF) nopF)
    (seqF (retF (andF (fIsi "str" (fVar 0)) (f2 (fun a b => blO (cEq a b)) (fN (g1 hStr) (fCons (fVar 0) fNil)) (fVar 1))))
    nopF)))))
def Fn_law_same : Nat → DF
  | 0 => fun _ => none
  | k + 1 => FB false 0 3 (fb_law_same (Fn_law_same k)) 1000000
abbrev F_law_same : DF := Fn_law_same 8
def fb_law_beside : SF :=
    (seqF (asgF (tupG 3 (consG (nameG 1) (consG (nameG 2) (consG (nameG 3) nilG)))) (fVar 0))
    (seqF (retF (fLst (fCons (fTup (fCons (f2 gAdd (fVar 1) (fVal (.int 1))) (fCons (fVar 2) (fCons (fVar 3) fNil)))) (fCons (fTup (fCons (f2 gSub (fVar 1) (fVal (.int 1))) (fCons (fVar 2) (fCons (fVar 3) fNil)))) (fCons (fTup (fCons (fVar 1) (fCons (f2 gAdd (fVar 2) (fVal (.int 1))) (fCons (fVar 3) fNil)))) (fCons (fTup (fCons (fVar 1) (fCons (f2 gSub (fVar 2) (fVal (.int 1))) (fCons (fVar 3) fNil)))) (fCons (fTup (fCons (fVar 1) (fCons (fVar 2) (fCons (f2 gAdd (fVar 3) (fVal (.int 1))) fNil)))) (fCons (fTup (fCons (fVar 1) (fCons (fVar 2) (fCons (f2 gSub (fVar 3) (fVal (.int 1))) fNil)))) fNil))))))))
    nopF))
def F_law_beside : DF := FB false 1 4 fb_law_beside 1000000
def c_law_spots1 : EF :=
    (lcF [4] [4] (r1F (fCons (f2 gIx (fVar 0) (fVal (.int 2))) fNil)) (nameG 4) yesF (fTup (fCons (fVar 2) (fCons (fVar 3) (fCons (fVar 4) fNil)))))
def b_law_spots2 : SF :=
    (seqF (setF 1 (f2 gAdd (fVar 1) c_law_spots1))
    nopF)
def l_law_spots2 : SF :=
    (forF [3, 1] (r1F (fCons (f2 gIx (fVar 0) (fVal (.int 1))) fNil)) (nameG 3) b_law_spots2)
def b_law_spots3 : SF :=
    (seqF l_law_spots2
    nopF)
def l_law_spots3 : SF :=
    (forF [2, 3, 1] (r1F (fCons (f2 gIx (fVar 0) (fVal (.int 0))) fNil)) (nameG 2) b_law_spots3)
def fb_law_spots : SF :=
    (seqF (setF 1 (fLst fNil))
    (seqF l_law_spots3
    (seqF (retF (fVar 1))
    nopF)))
def F_law_spots : DF := FB false 0 5 fb_law_spots 1000000
def c_law_woven1 : EF :=
    (lcF [6, 7, 8] [6, 7, 8] (z3F false (fCons (fVar 4) (fCons (fVar 1) (fCons (fVar 5) fNil)))) (tupG 3 (consG (nameG 6) (consG (nameG 7) (consG (nameG 8) nilG)))) yesF (f2 gAdd (f2 gMul (fVar 6) (fVar 7)) (fVar 8)))
def c_law_woven2 : EF :=
    (lcF [5] [5] (oneF false (fVar 2)) (nameG 5) yesF (fN gTuple (fCons c_law_woven1 fNil)))
def b_law_woven3 : SF :=
    (seqF (setF 3 (f2 gAdd (fVar 3) c_law_woven2))
    nopF)
def l_law_woven3 : SF :=
    (forF [4, 3] (oneF false (fVar 0)) (nameG 4) b_law_woven3)
def fb_law_woven : SF :=
    (seqF (setF 3 (fLst fNil))
    (seqF l_law_woven3
    (seqF (retF (fN gTuple (fCons (fN gSorted (fCons (fVar 3) fNil)) fNil)))
    nopF)))
def F_law_woven : DF := FB false 0 9 fb_law_woven 1000000
def b_law_pattern1 : SF :=
    (seqF (storeF 4 (callF true 0 F_law_some (fCons (fVar 0) (fCons (fVar 3) fNil))) (fVal (.bl true)))
    nopF)
def l_law_pattern1 : SF :=
    (forF [5] (r1F (fCons (f2 gAdd (fVal (.int 1)) (callF true 0 F_law_roll (fCons (fVar 0) (fCons (fVar 1) fNil)))) fNil)) (nameG 5) b_law_pattern1)
def fb_law_pattern : SF :=
    (seqF (setF 2 (fTup (fCons (f2 gAdd (fVal (.int 1)) (callF true 0 F_law_roll (fCons (fVar 0) (fCons (fVal (.int 3)) fNil)))) (fCons (f2 gAdd (fVal (.int 1)) (callF true 0 F_law_roll (fCons (fVar 0) (fCons (fVal (.int 3)) fNil)))) (fCons (f2 gAdd (fVal (.int 1)) (callF true 0 F_law_roll (fCons (fVar 0) (fCons (fVal (.int 3)) fNil)))) fNil)))))
    (seqF (setF 3 (callF false 0 F_law_spots (fCons (fVar 2) fNil)))
    (seqF (setF 4 fDic)
    (seqF l_law_pattern1
    (seqF (retF (fTup (fCons (fVar 2) (fCons (fN gTuple (fCons (fN gSorted (fCons (fVar 4) fNil)) fNil)) fNil))))
    nopF)))))
def F_law_pattern : DF := FB true 0 6 fb_law_pattern 1000000
def c_law_shows1 : EF :=
    (lcF [4] [4] (oneF false (callF false 1 F_law_beside (fCons (fVar 3) fNil))) (nameG 4) (f2 (fun a b => blO ((cInD a b).map (!·))) (fVar 4) (fVar 1)) (fVal (.int 1)))
def b_law_shows2 : SF :=
    (seqF (setF 2 (f2 gAdd (fVar 2) (fN gLen (fCons c_law_shows1 fNil))))
    nopF)
def l_law_shows2 : SF :=
    (forF [3, 2] (oneF false (fVar 0)) (nameG 3) b_law_shows2)
def c_law_shows3 : EF :=
    (lcF [3] [3] (oneF false (fVar 0)) (nameG 3) yesF (fTup (fCons (fVar 3) (fCons (fVal (.bl true)) fNil))))
def fb_law_shows : SF :=
    (seqF (asgF (tupG 2 (consG (nameG 1) (consG (nameG 2) nilG))) (fTup (fCons (fN gDict (fCons c_law_shows3 fNil)) (fCons (fVal (.int 0)) fNil))))
    (seqF l_law_shows2
    (seqF (retF (fVar 2))
    nopF)))
def F_law_shows : DF := FB false 0 5 fb_law_shows 1000000
def c_law1 : EF :=
    (lcF [18] [18] (oneF false (fVar 9)) (nameG 18) (f2 (fun a b => blO (cEq a b)) (fVar 18) (fVal (.int 1))) (fVar 18))
def c_law2 : EF :=
    (lcF [9] [9] (oneF false (callF false 0 F_law_spots (fCons (fTup (fCons (fVal (.int 3)) (fCons (fVal (.int 3)) (fCons (fVal (.int 3)) fNil)))) fNil))) (nameG 9) (f2 (fun a b => blO (cLt a b)) (fN gLen (fCons c_law1 fNil)) (fVal (.int 2))) (fVar 9))
def b_law3 : SF :=
    (seqF (setF 12 (f2 gMul (fVar 12) (fN gLen (fCons (fVar 4) fNil))))
    nopF)
def l_law3 : SF :=
    (forF [7, 12] (r1F (fCons (fVar 10) fNil)) (nameG 7) b_law3)
def c_law4 : EF :=
    (lcF [9] [9] (oneF false (fVar 6)) (nameG 9) yesF (fN (g1 hMax) (fCons (fVar 9) fNil)))
def c_law5 : EF :=
    (lcF [17] [17] (r1F (fCons (fVal (.int 3)) fNil)) (nameG 17) yesF (callF true 0 F_law_roll (fCons (fVar 1) (fCons (f2 gAdd (fVal (.int 2)) (f2 gMul (fVal (.int 3)) (fN (g1 hMax) (fCons (fVar 9) fNil)))) fNil))))
def b_law6 : SF :=
    (seqF (setF 9 (callF true 0 F_law_some (fCons (fVar 1) (fCons (fVar 6) fNil))))
    (seqF (ifF (f2 (fun a b => blO (cEq a b)) (callF true 0 F_law_roll (fCons (fVar 1) (fCons (fVal (.int 2)) fNil))) (fVal (.int 0))) (seqF (setF 9 (fN gTuple (fCons c_law5 fNil)))
    nopF) nopF)
    (seqF (ifF (notF (callF false 0 F_law_same (fCons (callF false 0 F_power_has (fCons (fVar 3) (fCons (fVar 4) (fCons (fVar 5) (fCons (fVar 9) fNil))))) (fCons (f2 (fun a b => blO (cInD a b)) (fVar 9) (fVar 6)) fNil)))) (seqF (retF (fVal (.bl false)))
    nopF) nopF)
    nopF)))
def l_law6 : SF :=
    (forF [8, 9, 9] (r1F (fCons (fVal (.int 4)) fNil)) (nameG 8) b_law6)
def b_law7 : SF :=
    (seqF (setF 6 (callF false 0 F_law_woven (fCons (fVar 6) (fCons (fVar 3) (fCons (fVar 4) fNil)))))
    nopF)
def l_law7 : SF :=
    (forF [7, 6] (r1F (fCons (fVar 5) fNil)) (nameG 7) b_law7)
def b_law8 : SF :=
    (seqF (asgF (tupG 2 (consG (nameG 3) (consG (nameG 4) nilG))) (callF true 0 F_law_pattern (fCons (fVar 1) (fCons (fVal (.int 5)) fNil))))
    (seqF (par2F 5 6 (callF true 0 F_law_roll (fCons (fVar 1) (fCons (fVal (.int 4)) fNil))) (fTup (fCons (fTup (fCons (fVal (.int 0)) (fCons (fVal (.int 0)) (fCons (fVal (.int 0)) fNil)))) fNil)))
    (seqF l_law7
    (seqF (ifF (notF (callF false 0 F_law_same (fCons (callF false 0 F_power_counts (fCons (fVar 3) (fCons (fVar 4) (fCons (fVar 5) fNil)))) (fCons (fTup (fCons (fN gLen (fCons (fVar 6) fNil)) (fCons (callF false 0 F_law_shows (fCons (fVar 6) fNil)) fNil))) fNil)))) (seqF (retF (fVal (.bl false)))
    nopF) nopF)
    (seqF (ifF (andF (f2 (fun a b => blO (cLt a b)) (fN gLen (fCons (fVar 6) fNil)) (fVal (.int 129))) (notF (callF false 0 F_law_same (fCons (callF false 0 F_power_of (fCons (fVar 3) (fCons (fVar 4) (fCons (fVar 5) fNil)))) (fCons (fVar 6) fNil))))) (seqF (retF (fVal (.bl false)))
    nopF) nopF)
    (seqF l_law6
    (seqF (ifF (andF (f2 (fun a b => blO (cGtI a b)) (fVar 5) (fVal (.int 0))) (andF (f2 (fun a b => blO (cLt a b)) (fN gLen (fCons (fVar 6) fNil)) (fVal (.int 129))) (f2 (fun a b => blO (cLt a b)) (fN (g1 hMax) (fCons c_law4 fNil)) (fVal (.int 101))))) (seqF (ifF (f2 (fun a b => blO ((fun a b => (cEq a b).map (!·)) a b)) (callF false 0 F_woven (fCons (callF false 0 F_power_of (fCons (fVar 3) (fCons (fVar 4) (fCons (f2 gSub (fVar 5) (fVal (.int 1))) fNil)))) (fCons (fVar 3) (fCons (fVar 4) fNil)))) (fVar 6)) (seqF (retF (fVal (.bl false)))
    nopF) nopF)
    nopF) nopF)
    (seqF (setF 10 (callF true 0 F_law_roll (fCons (fVar 1) (fCons (fVal (.int 201)) fNil))))
    (seqF (par2F 11 12 (f2 gIx (callF false 0 F_power_counts (fCons (fVar 3) (fCons (fVar 4) (fCons (fVar 10) fNil)))) (fVal (.int 0))) (fVal (.int 1)))
    (seqF l_law3
    (seqF (ifF (notF (callF false 0 F_law_same (fCons (fVar 11) (fCons (fVar 12) fNil)))) (seqF (retF (fVal (.bl false)))
    nopF) nopF)
    nopF)))))))))))
def l_law8 : SF :=
    (forF [2, 3, 4, 5, 6, 7, 6, 8, 9, 9, 10, 11, 12, 7, 12] (r1F (fCons (fVal (.int 5)) fNil)) (nameG 2) b_law8)
def fb_law : SF :=
    (seqF (setF 1 (callF false 1 F_law_cup (fCons (fVar 0) fNil)))
    (seqF l_law8
    (seqF (setF 13 c_law2)
    (seqF (setF 14 (fN gTuple (fCons (fVar 13) fNil)))
    (seqF (setF 15 (fTup (fCons (callF false 0 F_power_counts (fCons (fTup (fCons (fVal (.int 3)) (fCons (fVal (.int 3)) (fCons (fVal (.int 3)) fNil)))) (fCons (fVar 14) (fCons (fVal (.int 1)) fNil)))) (fCons (callF false 0 F_power_counts (fCons (fTup (fCons (fVal (.int 3)) (fCons (fVal (.int 3)) (fCons (fVal (.int 3)) fNil)))) (fCons (fVar 14) (fCons (fVal (.int 2)) fNil)))) (fCons (callF false 0 F_power_counts (fCons (fTup (fCons (fVal (.int 3)) (fCons (fVal (.int 3)) (fCons (fVal (.int 3)) fNil)))) (fCons (fVar 14) (fCons (fVal (.int 3)) fNil)))) fNil)))))
    (seqF (ifF (notF (callF false 0 F_law_same (fCons (fVar 15) (fCons (fTup (fCons (fTup (fCons (fVal (.int 20)) (fCons (fVal (.int 72)) fNil))) (fCons (fTup (fCons (fVal (.int 400)) (fCons (fVal (.int 1056)) fNil))) (fCons (fTup (fCons (fVal (.int 8000)) (fCons (fVal (.int 18048)) fNil))) fNil)))) fNil)))) (seqF (retF (fVal (.bl false)))
    nopF) nopF)
    (seqF (setF 16 (f2 gAdd (fVal (.int 40)) (callF true 0 F_law_roll (fCons (fVar 1) (fCons (fVal (.int 60)) fNil)))))
    (seqF (retF (callF false 0 F_law_same (fCons (fTup (fCons (callF false 0 F_power_has (fCons (fTup (fCons (fVal (.int 3)) (fCons (fVal (.int 3)) (fCons (fVal (.int 3)) fNil)))) (fCons (fVar 14) (fCons (fVar 16) (fCons (fTup (fCons (fVal (.int 0)) (fCons (fVal (.int 0)) (fCons (fVal (.int 0)) fNil)))) fNil))))) (fCons (callF false 0 F_power_has (fCons (fTup (fCons (fVal (.int 3)) (fCons (fVal (.int 3)) (fCons (fVal (.int 3)) fNil)))) (fCons (fVar 14) (fCons (fVar 16) (fCons (fTup (fCons (fVal (.int 1)) (fCons (fVal (.int 1)) (fCons (fVal (.int 0)) fNil)))) fNil))))) fNil))) (fCons (fTup (fCons (fVal (.bl true)) (fCons (fVal (.bl false)) fNil))) fNil))))
    nopF))))))))
def F_law : DF := FB false 0 19 fb_law 1000000
end Lw
set_option Elab.async false
set_option linter.all false
set_option maxRecDepth 100000
set_option autoImplicit false
set_option maxHeartbeats 4000000
namespace P81
open PySem PySem.Spec L2 Dt Lw
theorem three : (3 : Nat) < LIM := by decide
def c3 (a b c : Int) : D := .tup [.int a, .int b, .int c]
theorem plus_eq (a b c x y z : Int) : F_plus [.tup [.int a, .int b, .int c], .tup [.int x, .int y, .int z]] = some (.tup [.int (a + x), .int (b + y), .int (c + z)], .non) := by kernel_rfl
theorem roll_pos (a b m : Int) (h : 0 < a) (hm : m ≠ 0) (hm2 : m.natAbs < 1073741824) : F_law_roll [.lst [.int a, .int b], .int m] = some (.int (a.fmod m), .lst [.int (a.fdiv m), .int b]) := by
  simp [F_law_roll, fb_law_roll, h, hm, hm2, FB, runB, initE, ioEnd, lvOk, seqF, ifF, nopF, retF, setF, dropF, storeF, par2F, par3F, asgF, nevF, fVar, fVal, fNil, fCons, fTup, fLst, f2, f1, fN, rds, rd, esc, escs, asgR, isEnt, isImm, okL, gAdd, Dt.gSub, gMul, gFdiv, gMod, gNeg, gPow, gIx, gLen, gTuple, gList, Dt.g1, hAbs, hInt, hStr, itm, blO, cI, cGtI, cLeI, cGeI, cIs, isL, isDi, putItem, fDic, callF, andF, orF, notF, ifxF, chainF, neSlot, atI, ixN]
theorem isi_int (i : Int) : isiD "int" (.int i) = some true := by rfl
theorem isi_bool_int (i : Int) : isiD "bool" (.int i) = some false := by rfl
theorem isi_tuple (ds : List D) : isiD "tuple" (.tup ds) = some true := by rfl
theorem isi_tuple_int (i : Int) : isiD "tuple" (.int i) = some false := by rfl
theorem isi_list_int (i : Int) : isiD "list" (.int i) = some false := by rfl
theorem isi_list_tup (ds : List D) : isiD "list" (.tup ds) = some false := by rfl
theorem isi_tuple_bool (b : Bool) : isiD "tuple" (.bl b) = some false := by rfl
theorem isi_list_bool (b : Bool) : isiD "list" (.bl b) = some false := by rfl
theorem isi_bool_bool (b : Bool) : isiD "bool" (.bl b) = some true := by rfl
theorem is_whole_eq (i : Int) : F_is_whole [.int i] = some (.bl true, .non) := by rfl
theorem fits_whole_eq (i lo hi : Int) : F_fits_whole [.int i, .int lo, .int hi] = some (.bl (decide (lo ≤ i) && decide (i ≤ hi)), .non) := by
  by_cases h1 : lo ≤ i <;> simp [F_fits_whole, fb_fits_whole, is_whole_eq, h1, FB, runB, initE, ioEnd, lvOk, seqF, ifF, nopF, retF, setF, dropF, storeF, par2F, par3F, asgF, nevF, fVar, fVal, fNil, fCons, fTup, fLst, f2, f1, fN, rds, rd, esc, escs, asgR, isEnt, isImm, okL, gAdd, Dt.gSub, gMul, gFdiv, gMod, gNeg, gPow, gIx, gLen, gTuple, gList, Dt.g1, hAbs, hInt, hStr, itm, blO, cI, cGtI, cLeI, cGeI, cIs, isL, isDi, putItem, fDic, callF, andF, orF, notF, ifxF, chainF, neSlot, atI, ixN]
theorem is_tuple_of_eq (ds : List D) (lo hi : Int) : F_is_tuple_of [.tup ds, .int lo, .int hi] = some (.bl (decide (lo ≤ (ds.length : Int)) && decide ((ds.length : Int) ≤ hi)), .non) := by
  by_cases h1 : lo ≤ (ds.length : Int) <;> simp [F_is_tuple_of, fb_is_tuple_of, fIsi, isi_tuple, h1, FB, runB, initE, ioEnd, lvOk, seqF, ifF, nopF, retF, setF, dropF, storeF, par2F, par3F, asgF, nevF, fVar, fVal, fNil, fCons, fTup, fLst, f2, f1, fN, rds, rd, esc, escs, asgR, isEnt, isImm, okL, gAdd, Dt.gSub, gMul, gFdiv, gMod, gNeg, gPow, gIx, gLen, gTuple, gList, Dt.g1, hAbs, hInt, hStr, itm, blO, cI, cGtI, cLeI, cGeI, cIs, isL, isDi, putItem, fDic, callF, andF, orF, notF, ifxF, chainF, neSlot, atI, ixN]
theorem times_eq (a b c x y z : Int) (hx : x.natAbs < 18446744073709551616) (hy : y.natAbs < 18446744073709551616) (hz : z.natAbs < 18446744073709551616) : F_times_cell [.tup [.int a, .int b, .int c], .tup [.int x, .int y, .int z]] = some (.tup [.int (a * x), .int (b * y), .int (c * z)], .non) := by
  have hc : c_times_cell1 [some (.tup [.int a, .int b, .int c], 0), some (.tup [.int x, .int y, .int z], 0), none, none] = some (.own (.lst [.int (a * x), .int (b * y), .int (c * z)]) 1, [some (.tup [.int a, .int b, .int c], 0), some (.tup [.int x, .int y, .int z], 0), none, none]) := by
    unfold c_times_cell1
    refine (lcF_of (it := .z2 (.fz [.int a, .int b, .int c]) (.fz [.int x, .int y, .int z])) (ds := zip2D [.int a, .int b, .int c] [.int x, .int y, .int z]) (ρ1 := [some (.tup [.int a, .int b, .int c], 0), some (.tup [.int x, .int y, .int z], 0), none, none]) (ys := [.int (a * x), .int (b * y), .int (c * z)]) (by rfl) (fun _ => rfl) rfl rfl rfl three (ρ2 := [some (.tup [.int a, .int b, .int c], 0), some (.tup [.int x, .int y, .int z], 0), none, none]) ?_)
    simp [nameG, tupG, consG, nilG, oneF, z2F, z3F, enF, r1F, r2F, ctsF, ctF, chkI, Its.get, Ct.get, zip2D, zip3D, enD, wipeD, restD, immSlot, yesF, lcStep, lcGo, forGo, Its.sls, Ct.sls, FB, runB, initE, ioEnd, lvOk, seqF, ifF, nopF, retF, setF, dropF, storeF, par2F, par3F, asgF, nevF, fVar, fVal, fNil, fCons, fTup, fLst, f2, f1, fN, rds, rd, esc, escs, asgR, isEnt, isImm, okL, gAdd, Dt.gSub, gMul, gFdiv, gMod, gNeg, gPow, gIx, gLen, gTuple, gList, Dt.g1, hAbs, hInt, hStr, itm, blO, cI, cGtI, cLeI, cGeI, cIs, isL, isDi, putItem, fDic, callF, andF, orF, notF, ifxF, chainF, neSlot, atI, ixN, hx, hy, hz]
  simp [F_times_cell, fb_times_cell, hc, FB, runB, initE, ioEnd, lvOk, seqF, ifF, nopF, retF, setF, dropF, storeF, par2F, par3F, asgF, nevF, fVar, fVal, fNil, fCons, fTup, fLst, f2, f1, fN, rds, rd, esc, escs, asgR, isEnt, isImm, okL, gAdd, Dt.gSub, gMul, gFdiv, gMod, gNeg, gPow, gIx, gLen, gTuple, gList, Dt.g1, hAbs, hInt, hStr, itm, blO, cI, cGtI, cLeI, cGeI, cIs, isL, isDi, putItem, fDic, callF, andF, orF, notF, ifxF, chainF, neSlot, atI, ixN]
end P81
set_option Elab.async false
set_option linter.all false
set_option maxRecDepth 100000
set_option autoImplicit false
set_option maxHeartbeats 4000000
namespace P81
open PySem PySem.Spec L2 Dt Lw
def tupC (cs : List Cell) : D := .tup (cds cs)
section
variable (xs : List D) (ys : List (D × D)) (i : Int) (b : Bool) (c : Cell) (cs : List Cell) (n : Nat)
theorem im1 : isImm (.lst xs) = false := rfl
theorem im2 : isImm (.dic ys) = false := rfl
theorem im3 : isImm (.tup xs) = true := rfl
theorem im4 : isImm (.int i) = true := rfl
theorem im5 : isImm (.bl b) = true := rfl
theorem im6 : isImm c.d = true := rfl
theorem im7 : isImm (tupC cs) = true := rfl
theorem im8 : isImm .non = true := rfl
theorem ok1 : okL (.lst xs) n = decide (n ≤ 1) := rfl
theorem ok2 : okL (.dic ys) n = decide (n ≤ 1) := rfl
theorem ok3 : okL (.tup xs) n = true := rfl
theorem ok4 : okL (.int i) n = true := rfl
theorem ok5 : okL (.bl b) n = true := rfl
theorem ok6 : okL c.d n = true := rfl
theorem ok7 : okL (tupC cs) n = true := rfl
theorem ok8 : okL .non n = true := rfl
end
def inR (lo hi : Int) (c : Cell) : Prop := (lo ≤ c.x ∧ c.x ≤ hi) ∧ (lo ≤ c.y ∧ c.y ≤ hi) ∧ (lo ≤ c.z ∧ c.z ≤ hi)
theorem le_lim {n : Nat} (h : n ≤ 1000000) : n ≤ LIM := by show n ≤ 16777216; omega
theorem lt_lim {n : Nat} (h : n ≤ 1000000) : n < LIM := by show n < 16777216; omega
theorem hAll_true {α : Type} (ds : List α) : hAll (.lst (ds.map fun _ => .bl true)) = some (.bl true) := by
  have h : ∀ ds : List α, asBls (ds.map fun _ => .bl true) = some (ds.map fun _ => true) := by
    intro ds
    induction ds with
    | nil => rfl
    | cons d ds ih => simp only [List.map_cons, asBls, ih, Option.map_some]
  simp only [hAll, h, Option.map_some, Option.some.injEq, D.bl.injEq, List.all_map, List.all_eq_true]
  intro x _; rfl
theorem lcF_map {asg vs : List Nat} {fi : IF} {g : GF} {t e : EF} {ρ ρ1 : DEnv} {it : Its} {ds : List D} (v : D → D) (h1 : fi ρ = some (it, ρ1)) (hit : ∀ ρ, it.get ρ = some ds) (hs : it.sls = []) (im : vs.all (fun i => immSlot ρ1[i]?) = true) (ha : asg.all (fun i => vs.contains i) = true) (hl : ds.length < LIM)
    (hg : ∀ d ∈ ds, lcStep g t e vs d (wipeD ρ1 vs) = some (some (v d), wipeD ρ1 vs)) (hr : restD ρ1 (wipeD ρ1 vs) vs = ρ1) : lcF asg vs fi g t e ρ = some (.own (.lst (ds.map v)) 1, ρ1) := by
  have := lcF_pure (fun d => some (v d)) h1 hit hs im ha hl hg hr
  rwa [show ds.filterMap (fun d => some (v d)) = ds.map v from by simp] at this
theorem fits_cell_eq (c : Cell) (h : inR (-100) 100 c) : F_fits_cell [c.d] = some (.bl true, .non) := by
  obtain ⟨⟨a1, a2⟩, ⟨b1, b2⟩, c1, c2⟩ := h
  have hc : c_fits_cell1 [some (c.d, 0), none] = some (.own (.lst [.bl true, .bl true, .bl true]) 1, [some (c.d, 0), none]) := by
    unfold c_fits_cell1 Cell.d
    refine (lcF_of (it := .one (.fz [.int c.x, .int c.y, .int c.z])) (ds := [.int c.x, .int c.y, .int c.z]) (ρ1 := [some (c.d, 0), none]) (ys := [.bl true, .bl true, .bl true]) (by rfl) (fun _ => rfl) rfl rfl rfl three (ρ2 := [some (c.d, 0), none]) ?_)
    simp [nameG, tupG, consG, nilG, oneF, z2F, z3F, enF, r1F, r2F, ctsF, ctF, chkI, Its.get, Ct.get, zip2D, zip3D, enD, wipeD, restD, immSlot, yesF, lcStep, lcGo, forGo, Its.sls, Ct.sls, FB, runB, initE, ioEnd, lvOk, seqF, ifF, nopF, retF, setF, dropF, storeF, par2F, par3F, asgF, nevF, fVar, fVal, fNil, fCons, fTup, fLst, f2, f1, fN, rds, rd, esc, escs, asgR, isEnt, im1, im2, im3, im4, im5, im6, im7, im8, ok1, ok2, ok3, ok4, ok5, ok6, ok7, ok8, gAdd, Dt.gSub, gMul, gFdiv, gMod, gNeg, gPow, gIx, gLen, gTuple, gList, Dt.g1, hAbs, hInt, hStr, itm, blO, cI, cGtI, cLeI, cGeI, cIs, isL, isDi, putItem, fDic, callF, andF, orF, notF, ifxF, chainF, neSlot, atI, ixN, fits_whole_eq, a1, a2, b1, b2, c1, c2]
  have h3 : F_is_tuple_of [c.d, .int 3, .int 3] = some (.bl true, .non) := is_tuple_of_eq [.int c.x, .int c.y, .int c.z] 3 3
  have e1 : isImm c.d = true := rfl
  simp [F_fits_cell, fb_fits_cell, hc, h3, hAll, asBls, e1, FB, runB, initE, ioEnd, lvOk, seqF, ifF, nopF, retF, setF, dropF, storeF, par2F, par3F, asgF, nevF, fVar, fVal, fNil, fCons, fTup, fLst, f2, f1, fN, rds, rd, esc, escs, asgR, isEnt, im1, im2, im3, im4, im5, im6, im7, im8, ok1, ok2, ok3, ok4, ok5, ok6, ok7, ok8, gAdd, Dt.gSub, gMul, gFdiv, gMod, gNeg, gPow, gIx, gLen, gTuple, gList, Dt.g1, hAbs, hInt, hStr, itm, blO, cI, cGtI, cLeI, cGeI, cIs, isL, isDi, putItem, fDic, callF, andF, orF, notF, ifxF, chainF, neSlot, atI, ixN]
theorem fits_sides_eq (f : Cell) (h : inR 1 20 f) : F_fits_sides [f.d] = some (.bl true, .non) := by
  obtain ⟨⟨a1, a2⟩, ⟨b1, b2⟩, c1, c2⟩ := h
  have hc : c_fits_sides1 [some (f.d, 0), none] = some (.own (.lst [.bl true, .bl true, .bl true]) 1, [some (f.d, 0), none]) := by
    unfold c_fits_sides1 Cell.d
    refine (lcF_of (it := .one (.fz [.int f.x, .int f.y, .int f.z])) (ds := [.int f.x, .int f.y, .int f.z]) (ρ1 := [some (f.d, 0), none]) (ys := [.bl true, .bl true, .bl true]) (by rfl) (fun _ => rfl) rfl rfl rfl three (ρ2 := [some (f.d, 0), none]) ?_)
    simp [nameG, tupG, consG, nilG, oneF, z2F, z3F, enF, r1F, r2F, ctsF, ctF, chkI, Its.get, Ct.get, zip2D, zip3D, enD, wipeD, restD, immSlot, yesF, lcStep, lcGo, forGo, Its.sls, Ct.sls, FB, runB, initE, ioEnd, lvOk, seqF, ifF, nopF, retF, setF, dropF, storeF, par2F, par3F, asgF, nevF, fVar, fVal, fNil, fCons, fTup, fLst, f2, f1, fN, rds, rd, esc, escs, asgR, isEnt, im1, im2, im3, im4, im5, im6, im7, im8, ok1, ok2, ok3, ok4, ok5, ok6, ok7, ok8, gAdd, Dt.gSub, gMul, gFdiv, gMod, gNeg, gPow, gIx, gLen, gTuple, gList, Dt.g1, hAbs, hInt, hStr, itm, blO, cI, cGtI, cLeI, cGeI, cIs, isL, isDi, putItem, fDic, callF, andF, orF, notF, ifxF, chainF, neSlot, atI, ixN, fits_whole_eq, a1, a2, b1, b2, c1, c2]
  have h3 : F_is_tuple_of [f.d, .int 3, .int 3] = some (.bl true, .non) := is_tuple_of_eq [.int f.x, .int f.y, .int f.z] 3 3
  have e1 : isImm f.d = true := rfl
  simp [F_fits_sides, fb_fits_sides, hc, h3, hAll, asBls, e1, FB, runB, initE, ioEnd, lvOk, seqF, ifF, nopF, retF, setF, dropF, storeF, par2F, par3F, asgF, nevF, fVar, fVal, fNil, fCons, fTup, fLst, f2, f1, fN, rds, rd, esc, escs, asgR, isEnt, im1, im2, im3, im4, im5, im6, im7, im8, ok1, ok2, ok3, ok4, ok5, ok6, ok7, ok8, gAdd, Dt.gSub, gMul, gFdiv, gMod, gNeg, gPow, gIx, gLen, gTuple, gList, Dt.g1, hAbs, hInt, hStr, itm, blO, cI, cGtI, cLeI, cGeI, cIs, isL, isDi, putItem, fDic, callF, andF, orF, notF, ifxF, chainF, neSlot, atI, ixN]
theorem need_sides_eq (f : Cell) (h : inR 1 20 f) : F_need_sides [f.d] = some (.non, .non) := by
  have e1 : isImm f.d = true := rfl
  simp [F_need_sides, fb_need_sides, fits_sides_eq f h, e1, FB, runB, initE, ioEnd, lvOk, seqF, ifF, nopF, retF, setF, dropF, storeF, par2F, par3F, asgF, nevF, fVar, fVal, fNil, fCons, fTup, fLst, f2, f1, fN, rds, rd, esc, escs, asgR, isEnt, im1, im2, im3, im4, im5, im6, im7, im8, ok1, ok2, ok3, ok4, ok5, ok6, ok7, ok8, gAdd, Dt.gSub, gMul, gFdiv, gMod, gNeg, gPow, gIx, gLen, gTuple, gList, Dt.g1, hAbs, hInt, hStr, itm, blO, cI, cGtI, cLeI, cGeI, cIs, isL, isDi, putItem, fDic, callF, andF, orF, notF, ifxF, chainF, neSlot, atI, ixN]
theorem is_rising_eq (cs : List Cell) (hl : cs.length ≤ 1000) (h : cs.Pairwise fun a b => Cell.lt a b = true) : F_is_rising [tupC cs] = some (.bl true, .non) := by
  have hc : c_is_rising1 [some (tupC cs, 0), none, none] = some (.own (.lst ((zip2D (cds cs) (cutD (cds cs) (some 1) none)).map fun _ => .bl true)) 1, [some (tupC cs, 0), none, none]) := by
    unfold c_is_rising1 tupC
    have hcl : (cds cs).length ≤ LIM := le_lim (by simp only [cds, List.length_map]; omega)
    refine lcF_map (it := .z2 (.fz (cds cs)) (.fz (cutD (cds cs) (some 1) none))) (ds := zip2D (cds cs) (cutD (cds cs) (some 1) none)) (fun _ => .bl true) ?_ (fun _ => rfl) rfl rfl rfl ?_ ?_ rfl
    · simp [nameG, tupG, consG, nilG, oneF, z2F, z3F, enF, r1F, r2F, ctsF, ctF, chkI, Its.get, Ct.get, zip2D, zip3D, enD, wipeD, restD, immSlot, yesF, lcStep, lcGo, forGo, Its.sls, Ct.sls, FB, runB, initE, ioEnd, lvOk, seqF, ifF, nopF, retF, setF, dropF, storeF, par2F, par3F, asgF, nevF, fVar, fVal, fNil, fCons, fTup, fLst, f2, f1, fN, rds, rd, esc, escs, asgR, isEnt, im1, im2, im3, im4, im5, im6, im7, im8, ok1, ok2, ok3, ok4, ok5, ok6, ok7, ok8, gAdd, Dt.gSub, gMul, gFdiv, gMod, gNeg, gPow, gIx, gLen, gTuple, gList, Dt.g1, hAbs, hInt, hStr, itm, blO, cI, cGtI, cLeI, cGeI, cIs, isL, isDi, putItem, fDic, callF, andF, orF, notF, ifxF, chainF, neSlot, atI, ixN, slF, partF, slD, hcl]
    · refine lt_lim ?_
      simp only [zip2D, List.length_zipWith, cds, List.length_map]; omega
    · intro d hd
      obtain ⟨a, b, hab, rfl⟩ : ∃ a b : Cell, Cell.lt a b = true ∧ d = .tup [a.d, b.d] := by
        have e0 : cutD (cds cs) (some 1) none = cds (cs.drop 1) := by
          unfold cutD
          cases cs with
          | nil => rfl
          | cons c cs =>
            simp [cds, HT.sIx]
            exact List.take_of_length_le (by simp)
        rw [e0] at hd
        unfold zip2D cds at hd
        rw [List.zipWith_map] at hd
        clear hl hcl e0
        induction cs with
        | nil => cases hd
        | cons c cs ih =>
          cases cs with
          | nil => cases hd
          | cons c' cs =>
            simp only [List.drop_succ_cons, List.drop_zero, List.zipWith_cons_cons, List.mem_cons] at hd
            rcases hd with rfl | hd
            · exact ⟨c, c', (List.pairwise_cons.mp h).1 _ List.mem_cons_self, rfl⟩
            · exact ih (List.pairwise_cons.mp h).2 hd
      simp [nameG, tupG, consG, nilG, oneF, z2F, z3F, enF, r1F, r2F, ctsF, ctF, chkI, Its.get, Ct.get, zip2D, zip3D, enD, wipeD, restD, immSlot, yesF, lcStep, lcGo, forGo, Its.sls, Ct.sls, FB, runB, initE, ioEnd, lvOk, seqF, ifF, nopF, retF, setF, dropF, storeF, par2F, par3F, asgF, nevF, fVar, fVal, fNil, fCons, fTup, fLst, f2, f1, fN, rds, rd, esc, escs, asgR, isEnt, im1, im2, im3, im4, im5, im6, im7, im8, ok1, ok2, ok3, ok4, ok5, ok6, ok7, ok8, gAdd, Dt.gSub, gMul, gFdiv, gMod, gNeg, gPow, gIx, gLen, gTuple, gList, Dt.g1, hAbs, hInt, hStr, itm, blO, cI, cGtI, cLeI, cGeI, cIs, isL, isDi, putItem, fDic, callF, andF, orF, notF, ifxF, chainF, neSlot, atI, ixN, Cell.cLt, hab]
  simp [-List.map_const', -List.map_const, -List.map_const_fun, F_is_rising, fb_is_rising, hc, hAll_true, FB, runB, initE, ioEnd, lvOk, seqF, ifF, nopF, retF, setF, dropF, storeF, par2F, par3F, asgF, nevF, fVar, fVal, fNil, fCons, fTup, fLst, f2, f1, fN, rds, rd, esc, escs, asgR, isEnt, im1, im2, im3, im4, im5, im6, im7, im8, ok1, ok2, ok3, ok4, ok5, ok6, ok7, ok8, gAdd, Dt.gSub, gMul, gFdiv, gMod, gNeg, gPow, gIx, gLen, gTuple, gList, Dt.g1, hAbs, hInt, hStr, itm, blO, cI, cGtI, cLeI, cGeI, cIs, isL, isDi, putItem, fDic, callF, andF, orF, notF, ifxF, chainF, neSlot, atI, ixN]
structure Solid (cs : List Cell) : Prop where
  len : cs.length ≤ 128
  box : ∀ c ∈ cs, inR (-100) 100 c
  ris : cs.Pairwise fun a b => Cell.lt a b = true
theorem cds_mem {cs : List Cell} {d : D} (h : d ∈ cds cs) : ∃ c ∈ cs, d = c.d := by
  obtain ⟨c, h1, h2⟩ := List.mem_map.mp h
  exact ⟨c, h1, h2.symm⟩
theorem cds_len (cs : List Cell) : (cds cs).length = cs.length := List.length_map ..
theorem fits_solid_eq (cs : List Cell) (h : Solid cs) : F_fits_solid [tupC cs] = some (.bl true, .non) := by
  have hc : c_fits_solid1 [some (tupC cs, 0), none] = some (.own (.lst ((cds cs).map fun _ => .bl true)) 1, [some (tupC cs, 0), none]) := by
    unfold c_fits_solid1
    refine lcF_map (it := .one (.fz (cds cs))) (ds := cds cs) (fun _ => .bl true) (by rfl) (fun _ => rfl) rfl rfl rfl ?_ ?_ rfl
    · refine lt_lim ?_
      have := h.len
      rw [cds_len]; omega
    · intro d hd
      obtain ⟨c, hc, rfl⟩ := cds_mem hd
      simp [nameG, tupG, consG, nilG, oneF, z2F, z3F, enF, r1F, r2F, ctsF, ctF, chkI, Its.get, Ct.get, zip2D, zip3D, enD, wipeD, restD, immSlot, yesF, lcStep, lcGo, forGo, Its.sls, Ct.sls, FB, runB, initE, ioEnd, lvOk, seqF, ifF, nopF, retF, setF, dropF, storeF, par2F, par3F, asgF, nevF, fVar, fVal, fNil, fCons, fTup, fLst, f2, f1, fN, rds, rd, esc, escs, asgR, isEnt, im1, im2, im3, im4, im5, im6, im7, im8, ok1, ok2, ok3, ok4, ok5, ok6, ok7, ok8, gAdd, Dt.gSub, gMul, gFdiv, gMod, gNeg, gPow, gIx, gLen, gTuple, gList, Dt.g1, hAbs, hInt, hStr, itm, blO, cI, cGtI, cLeI, cGeI, cIs, isL, isDi, putItem, fDic, callF, andF, orF, notF, ifxF, chainF, neSlot, atI, ixN, fits_cell_eq c (h.box c hc)]
  have hl : ((cds cs).length : Int) ≤ 128 := by rw [cds_len]; have := h.len; omega
  have h3 : F_is_tuple_of [tupC cs, .int 0, .int 128] = some (.bl true, .non) := by
    unfold tupC
    rw [is_tuple_of_eq]
    simp [hl]
  simp [-List.map_const', -List.map_const, -List.map_const_fun, F_fits_solid, fb_fits_solid, hc, h3, hAll_true, is_rising_eq cs (by have := h.len; omega) h.ris, FB, runB, initE, ioEnd, lvOk, seqF, ifF, nopF, retF, setF, dropF, storeF, par2F, par3F, asgF, nevF, fVar, fVal, fNil, fCons, fTup, fLst, f2, f1, fN, rds, rd, esc, escs, asgR, isEnt, im1, im2, im3, im4, im5, im6, im7, im8, ok1, ok2, ok3, ok4, ok5, ok6, ok7, ok8, gAdd, Dt.gSub, gMul, gFdiv, gMod, gNeg, gPow, gIx, gLen, gTuple, gList, Dt.g1, hAbs, hInt, hStr, itm, blO, cI, cGtI, cLeI, cGeI, cIs, isL, isDi, putItem, fDic, callF, andF, orF, notF, ifxF, chainF, neSlot, atI, ixN]
theorem need_solid_eq (cs : List Cell) (h : Solid cs) : F_need_solid [tupC cs] = some (.non, .non) := by
  simp [F_need_solid, fb_need_solid, fits_solid_eq cs h, FB, runB, initE, ioEnd, lvOk, seqF, ifF, nopF, retF, setF, dropF, storeF, par2F, par3F, asgF, nevF, fVar, fVal, fNil, fCons, fTup, fLst, f2, f1, fN, rds, rd, esc, escs, asgR, isEnt, im1, im2, im3, im4, im5, im6, im7, im8, ok1, ok2, ok3, ok4, ok5, ok6, ok7, ok8, gAdd, Dt.gSub, gMul, gFdiv, gMod, gNeg, gPow, gIx, gLen, gTuple, gList, Dt.g1, hAbs, hInt, hStr, itm, blO, cI, cGtI, cLeI, cGeI, cIs, isL, isDi, putItem, fDic, callF, andF, orF, notF, ifxF, chainF, neSlot, atI, ixN]
theorem cEq_cells (a b : List Cell) : cEq (tupC a) (tupC b) = some (decide (a = b)) := by
  unfold tupC cEq
  simp only [Dt.toPy, toPys_cells, Option.map_some, shaped_tuple, Bool.and_self, if_true, Option.some.injEq, PyData.eqv]
  induction a generalizing b with
  | nil => cases b <;> simp [PyData.eqvAll]
  | cons x a ih =>
    cases b with
    | nil => simp [PyData.eqvAll]
    | cons y b =>
      simp only [List.map_cons, PyData.eqvAll, Cell.eqv, ih, List.cons.injEq, Bool.decide_and]
theorem need_some_eq (cs : List Cell) (h : Solid cs) (hn : cs ≠ []) : F_need_some [tupC cs] = some (.non, .non) := by
  have e : cEq (tupC cs) (.tup []) = some false := by
    rw [show D.tup [] = tupC [] from rfl, cEq_cells]; simp [hn]
  simp [F_need_some, fb_need_some, need_solid_eq cs h, e, FB, runB, initE, ioEnd, lvOk, seqF, ifF, nopF, retF, setF, dropF, storeF, par2F, par3F, asgF, nevF, fVar, fVal, fNil, fCons, fTup, fLst, f2, f1, fN, rds, rd, esc, escs, asgR, isEnt, im1, im2, im3, im4, im5, im6, im7, im8, ok1, ok2, ok3, ok4, ok5, ok6, ok7, ok8, gAdd, Dt.gSub, gMul, gFdiv, gMod, gNeg, gPow, gIx, gLen, gTuple, gList, Dt.g1, hAbs, hInt, hStr, itm, blO, cI, cGtI, cLeI, cGeI, cIs, isL, isDi, putItem, fDic, callF, andF, orF, notF, ifxF, chainF, neSlot, atI, ixN]
end P81
set_option Elab.async false
set_option linter.all false
set_option maxRecDepth 100000
set_option autoImplicit false
set_option maxHeartbeats 4000000
namespace P81
open PySem PySem.Spec L2 Dt Lw
def inP (f c : Cell) : Prop := (0 ≤ c.x ∧ c.x < f.x) ∧ (0 ≤ c.y ∧ c.y < f.y) ∧ (0 ≤ c.z ∧ c.z < f.z)
structure Pat (f : Cell) (cs : List Cell) : Prop where
  frame : inR 1 20 f
  sol : Solid cs
  ne : cs ≠ []
  fit : ∀ c ∈ cs, inP f c
theorem cLt_int (i j : Int) : cLt (.int i) (.int j) = some (decide (i < j)) := by
  unfold Dt.cLt
  simp only [Dt.toPy]
  have : PySem.W.alike (.int i) (.int j) = true := rfl
  simp [this, SeqAt.shaped, PyData.canLay0, PyData.depth, notNone, PySem.W.dataLt_int]
theorem need_pattern_eq (f : Cell) (cs : List Cell) (h : Pat f cs) : F_need_pattern [f.d, tupC cs] = some (.non, .non) := by
  have h1 : ∀ c ∈ cs, c_need_pattern1 [some (f.d, 0), some (tupC cs, 0), some (c.d, 5), none, none] = some (.own (.lst [.bl true, .bl true, .bl true]) 1, [some (f.d, 0), some (tupC cs, 0), some (c.d, 5), none, none]) := by
    intro c hc
    obtain ⟨⟨a1, a2⟩, ⟨b1, b2⟩, c1, c2⟩ := h.fit c hc
    unfold c_need_pattern1
    refine (lcF_of (it := .z2 (.fz [.int c.x, .int c.y, .int c.z]) (.fz [.int f.x, .int f.y, .int f.z])) (ds := zip2D [.int c.x, .int c.y, .int c.z] [.int f.x, .int f.y, .int f.z]) (ρ1 := [some (f.d, 0), some (tupC cs, 0), some (c.d, 5), none, none]) (ys := [.bl true, .bl true, .bl true]) (by rfl) (fun _ => rfl) rfl rfl rfl three (ρ2 := [some (f.d, 0), some (tupC cs, 0), some (c.d, 5), none, none]) ?_)
    simp [nameG, tupG, consG, nilG, oneF, z2F, z3F, enF, r1F, r2F, ctsF, ctF, chkI, Its.get, Ct.get, zip2D, zip3D, enD, wipeD, restD, immSlot, yesF, lcStep, lcGo, forGo, Its.sls, Ct.sls, FB, runB, initE, ioEnd, lvOk, seqF, ifF, nopF, retF, setF, dropF, storeF, par2F, par3F, asgF, nevF, fVar, fVal, fNil, fCons, fTup, fLst, f2, f1, fN, rds, rd, esc, escs, asgR, isEnt, im1, im2, im3, im4, im5, im6, im7, im8, ok1, ok2, ok3, ok4, ok5, ok6, ok7, ok8, gAdd, Dt.gSub, gMul, gFdiv, gMod, gNeg, gPow, gIx, gLen, gTuple, gList, Dt.g1, hAbs, hInt, hStr, itm, blO, cI, cGtI, cLeI, cGeI, cIs, isL, isDi, putItem, fDic, callF, andF, orF, notF, ifxF, chainF, neSlot, atI, ixN, cLt_int, a1, a2, b1, b2, c1, c2]
  have h2 : c_need_pattern2 [some (f.d, 0), some (tupC cs, 0), none, none, none] = some (.own (.lst ((cds cs).map fun _ => .bl true)) 1, [some (f.d, 0), some (tupC cs, 0), none, none, none]) := by
    unfold c_need_pattern2
    refine lcF_map (it := .one (.fz (cds cs))) (ds := cds cs) (fun _ => .bl true) (by rfl) (fun _ => rfl) rfl rfl rfl ?_ ?_ rfl
    · refine lt_lim ?_
      have := h.sol.len
      rw [cds_len]; omega
    · intro d hd
      obtain ⟨c, hc, rfl⟩ := cds_mem hd
      simp [nameG, tupG, consG, nilG, oneF, z2F, z3F, enF, r1F, r2F, ctsF, ctF, chkI, Its.get, Ct.get, zip2D, zip3D, enD, wipeD, restD, immSlot, yesF, lcStep, lcGo, forGo, Its.sls, Ct.sls, FB, runB, initE, ioEnd, lvOk, seqF, ifF, nopF, retF, setF, dropF, storeF, par2F, par3F, asgF, nevF, fVar, fVal, fNil, fCons, fTup, fLst, f2, f1, fN, rds, rd, esc, escs, asgR, isEnt, im1, im2, im3, im4, im5, im6, im7, im8, ok1, ok2, ok3, ok4, ok5, ok6, ok7, ok8, gAdd, Dt.gSub, gMul, gFdiv, gMod, gNeg, gPow, gIx, gLen, gTuple, gList, Dt.g1, hAbs, hInt, hStr, itm, blO, cI, cGtI, cLeI, cGeI, cIs, isL, isDi, putItem, fDic, callF, andF, orF, notF, ifxF, chainF, neSlot, atI, ixN, h1 c hc, hAll, asBls]
  simp [-List.map_const, -List.map_const_fun, F_need_pattern, fb_need_pattern, need_sides_eq f h.frame, need_some_eq cs h.sol h.ne, h2, hAll_true, FB, runB, initE, ioEnd, lvOk, seqF, ifF, nopF, retF, setF, dropF, storeF, par2F, par3F, asgF, nevF, fVar, fVal, fNil, fCons, fTup, fLst, f2, f1, fN, rds, rd, esc, escs, asgR, isEnt, im1, im2, im3, im4, im5, im6, im7, im8, ok1, ok2, ok3, ok4, ok5, ok6, ok7, ok8, gAdd, Dt.gSub, gMul, gFdiv, gMod, gNeg, gPow, gIx, gLen, gTuple, gList, Dt.g1, hAbs, hInt, hStr, itm, blO, cI, cGtI, cLeI, cGeI, cIs, isL, isDi, putItem, fDic, callF, andF, orF, notF, ifxF, chainF, neSlot, atI, ixN]
def hom (c f : Cell) : Cell := ⟨c.x.fdiv f.x, c.y.fdiv f.y, c.z.fdiv f.z⟩
def rst (c f : Cell) : Cell := ⟨c.x - c.x.fdiv f.x * f.x, c.y - c.y.fdiv f.y * f.y, c.z - c.z.fdiv f.z * f.z⟩
theorem home_in_eq (c f : Cell) (h : inR 1 20 f) : F_home_in [c.d, f.d] = some (.tup [(hom c f).d, (rst c f).d], .non) := by
  obtain ⟨⟨a1, a2⟩, ⟨b1, b2⟩, c1, c2⟩ := h
  have x1 : f.x ≠ 0 := by omega
  have x2 : f.x.natAbs < 1073741824 := by omega
  have x3 : f.x.natAbs < 18446744073709551616 := by omega
  have y1 : f.y ≠ 0 := by omega
  have y2 : f.y.natAbs < 1073741824 := by omega
  have y3 : f.y.natAbs < 18446744073709551616 := by omega
  have z1 : f.z ≠ 0 := by omega
  have z2 : f.z.natAbs < 1073741824 := by omega
  have z3 : f.z.natAbs < 18446744073709551616 := by omega
  have h2 : c_home_in2 [some (c.d, 0), some (f.d, 0), none, none, none, none] = some (.own (.lst [.int (c.x.fdiv f.x), .int (c.y.fdiv f.y), .int (c.z.fdiv f.z)]) 1, [some (c.d, 0), some (f.d, 0), none, none, none, none]) := by
    unfold c_home_in2
    refine (lcF_of (it := .z2 (.fz [.int c.x, .int c.y, .int c.z]) (.fz [.int f.x, .int f.y, .int f.z])) (ds := zip2D [.int c.x, .int c.y, .int c.z] [.int f.x, .int f.y, .int f.z]) (ρ1 := [some (c.d, 0), some (f.d, 0), none, none, none, none]) (ys := [.int (c.x.fdiv f.x), .int (c.y.fdiv f.y), .int (c.z.fdiv f.z)]) (by rfl) (fun _ => rfl) rfl rfl rfl three (ρ2 := [some (c.d, 0), some (f.d, 0), none, none, none, none]) ?_)
    simp [nameG, tupG, consG, nilG, oneF, z2F, z3F, enF, r1F, r2F, ctsF, ctF, chkI, Its.get, Ct.get, zip2D, zip3D, enD, wipeD, restD, immSlot, yesF, lcStep, lcGo, forGo, Its.sls, Ct.sls, FB, runB, initE, ioEnd, lvOk, seqF, ifF, nopF, retF, setF, dropF, storeF, par2F, par3F, asgF, nevF, fVar, fVal, fNil, fCons, fTup, fLst, f2, f1, fN, rds, rd, esc, escs, asgR, isEnt, im1, im2, im3, im4, im5, im6, im7, im8, ok1, ok2, ok3, ok4, ok5, ok6, ok7, ok8, gAdd, Dt.gSub, gMul, gFdiv, gMod, gNeg, gPow, gIx, gLen, gTuple, gList, Dt.g1, hAbs, hInt, hStr, itm, blO, cI, cGtI, cLeI, cGeI, cIs, isL, isDi, putItem, fDic, callF, andF, orF, notF, ifxF, chainF, neSlot, atI, ixN, x1, x2, y1, y2, z1, z2]
  have h1 : ∀ n, c_home_in1 [some (c.d, 0), some (f.d, 0), some (.tup [.int (c.x.fdiv f.x), .int (c.y.fdiv f.y), .int (c.z.fdiv f.z)], n), none, none, none] = some (.own (.lst [.int (c.x - c.x.fdiv f.x * f.x), .int (c.y - c.y.fdiv f.y * f.y), .int (c.z - c.z.fdiv f.z * f.z)]) 1, [some (c.d, 0), some (f.d, 0), some (.tup [.int (c.x.fdiv f.x), .int (c.y.fdiv f.y), .int (c.z.fdiv f.z)], n), none, none, none]) := by
    intro n
    unfold c_home_in1
    refine (lcF_of (it := .z3 (.fz [.int c.x, .int c.y, .int c.z]) (.fz [.int (c.x.fdiv f.x), .int (c.y.fdiv f.y), .int (c.z.fdiv f.z)]) (.fz [.int f.x, .int f.y, .int f.z])) (ds := zip3D [.int c.x, .int c.y, .int c.z] [.int (c.x.fdiv f.x), .int (c.y.fdiv f.y), .int (c.z.fdiv f.z)] [.int f.x, .int f.y, .int f.z]) (ρ1 := [some (c.d, 0), some (f.d, 0), some (.tup [.int (c.x.fdiv f.x), .int (c.y.fdiv f.y), .int (c.z.fdiv f.z)], n), none, none, none]) (ys := [.int (c.x - c.x.fdiv f.x * f.x), .int (c.y - c.y.fdiv f.y * f.y), .int (c.z - c.z.fdiv f.z * f.z)]) (by rfl) (fun _ => rfl) rfl rfl rfl three (ρ2 := [some (c.d, 0), some (f.d, 0), some (.tup [.int (c.x.fdiv f.x), .int (c.y.fdiv f.y), .int (c.z.fdiv f.z)], n), none, none, none]) ?_)
    simp [nameG, tupG, consG, nilG, oneF, z2F, z3F, enF, r1F, r2F, ctsF, ctF, chkI, Its.get, Ct.get, zip2D, zip3D, enD, wipeD, restD, immSlot, yesF, lcStep, lcGo, forGo, Its.sls, Ct.sls, FB, runB, initE, ioEnd, lvOk, seqF, ifF, nopF, retF, setF, dropF, storeF, par2F, par3F, asgF, nevF, fVar, fVal, fNil, fCons, fTup, fLst, f2, f1, fN, rds, rd, esc, escs, asgR, isEnt, im1, im2, im3, im4, im5, im6, im7, im8, ok1, ok2, ok3, ok4, ok5, ok6, ok7, ok8, gAdd, Dt.gSub, gMul, gFdiv, gMod, gNeg, gPow, gIx, gLen, gTuple, gList, Dt.g1, hAbs, hInt, hStr, itm, blO, cI, cGtI, cLeI, cGeI, cIs, isL, isDi, putItem, fDic, callF, andF, orF, notF, ifxF, chainF, neSlot, atI, ixN, x3, y3, z3]
  simp [F_home_in, fb_home_in, h1, h2, FB, runB, initE, ioEnd, lvOk, seqF, ifF, nopF, retF, setF, dropF, storeF, par2F, par3F, asgF, nevF, fVar, fVal, fNil, fCons, fTup, fLst, f2, f1, fN, rds, rd, esc, escs, asgR, isEnt, im1, im2, im3, im4, im5, im6, im7, im8, ok1, ok2, ok3, ok4, ok5, ok6, ok7, ok8, gAdd, Dt.gSub, gMul, gFdiv, gMod, gNeg, gPow, gIx, gLen, gTuple, gList, Dt.g1, hAbs, hInt, hStr, itm, blO, cI, cGtI, cLeI, cGeI, cIs, isL, isDi, putItem, fDic, callF, andF, orF, notF, ifxF, chainF, neSlot, atI, ixN]
  exact ⟨rfl, rfl⟩
def spt (f c s : Cell) : Cell := ⟨c.x * f.x + s.x, c.y * f.y + s.y, c.z * f.z + s.z⟩
def raw (f : Cell) (P cs : List Cell) : List Cell := cs.flatMap fun c => P.map fun s => spt f c s
def wvn (f : Cell) (P cs : List Cell) : List Cell := srt (raw f P cs)
theorem plus_cell (a b : Cell) : F_plus [a.d, b.d] = some ((Cell.mk (a.x + b.x) (a.y + b.y) (a.z + b.z)).d, .non) := plus_eq ..
theorem times_cell (c f : Cell) (h : inR 1 20 f) : F_times_cell [c.d, f.d] = some ((Cell.mk (c.x * f.x) (c.y * f.y) (c.z * f.z)).d, .non) := by
  obtain ⟨⟨a1, a2⟩, ⟨b1, b2⟩, c1, c2⟩ := h
  exact times_eq _ _ _ _ _ _ (by omega) (by omega) (by omega)
theorem raw_len (f : Cell) (P cs : List Cell) : (raw f P cs).length = cs.length * P.length := by
  unfold raw
  induction cs with
  | nil => simp
  | cons c cs ih => simp only [List.flatMap_cons, List.length_append, List.length_map, ih, List.length_cons]; rw [Nat.add_mul]; omega
/-- a thing that stands for cells -/
inductive Cls (cs : List Cell) : D → Prop
  | l : Cls cs (.lst (cds cs))
  | t : Cls cs (.tup (cds cs))
theorem woven_in_eq {X : D} (f : Cell) (P cs : List Cell) (hX : Cls cs X) (h : inR 1 20 f) (hl : cs.length * P.length ≤ 10000) (hl1 : cs.length ≤ 10000) (hl2 : P.length ≤ 10000) : F_woven_in [X, f.d, tupC P] = some (.lst (cds (wvn f P cs)), .non) := by
  have hc : c_woven_in1 [some (X, 0), some (f.d, 0), some (tupC P, 0), none, none] = some (.own (.lst (cds (raw f P cs))) 1, [some (X, 0), some (f.d, 0), some (tupC P, 0), none, none]) := by
    unfold c_woven_in1
    have h0 : oneF false (fVar 0) [some (X, 0), some (f.d, 0), some (tupC P, 0), none, none] = some (.one (.fz (cds cs)), [some (X, 0), some (f.d, 0), some (tupC P, 0), none, none]) := by
      cases hX <;> simp [nameG, tupG, consG, nilG, oneF, z2F, z3F, enF, r1F, r2F, ctsF, ctF, chkI, Its.get, Ct.get, zip2D, zip3D, enD, wipeD, restD, immSlot, yesF, lcStep, lcGo, forGo, Its.sls, Ct.sls, FB, runB, initE, ioEnd, lvOk, seqF, ifF, nopF, retF, setF, dropF, storeF, par2F, par3F, asgF, nevF, fVar, fVal, fNil, fCons, fTup, fLst, f2, f1, fN, rds, rd, esc, escs, asgR, isEnt, im1, im2, im3, im4, im5, im6, im7, im8, ok1, ok2, ok3, ok4, ok5, ok6, ok7, ok8, gAdd, Dt.gSub, gMul, gFdiv, gMod, gNeg, gPow, gIx, gLen, gTuple, gList, Dt.g1, hAbs, hInt, hStr, itm, blO, cI, cGtI, cLeI, cGeI, cIs, isL, isDi, putItem, fDic, callF, andF, orF, notF, ifxF, chainF, neSlot, atI, ixN]
    refine lc2F_of (it := .one (.fz (cds cs))) (ds := cds cs) (ys := cds (raw f P cs)) (ρ2 := [some (X, 0), some (f.d, 0), some (tupC P, 0), none, none]) h0 (fun _ => rfl) rfl rfl rfl rfl rfl ?_
    · suffices hg : ∀ (k : Nat) (cs : List Cell), k + cs.length * P.length ≤ 10000 → lc2Go (nameG 3) yesF (oneF false (fVar 2)) (nameG 4) yesF (callF false 0 F_plus (fCons (callF false 0 F_times_cell (fCons (fVar 3) (fCons (fVar 1) fNil))) (fCons (fVar 4) fNil))) [3, 4] [4] k (cds cs) [some (X, 0), some (f.d, 0), some (tupC P, 0), none, none] = some (cds (raw f P cs), [some (X, 0), some (f.d, 0), some (tupC P, 0), none, none]) by
        exact hg 0 cs (by omega)
      intro k cs
      induction cs generalizing k with
      | nil => intro _; rfl
      | cons c cs ih =>
        intro hk
        simp only [List.length_cons, Nat.add_mul, Nat.one_mul] at hk
        have hin : lcL (.one (.fz (cds P))) (cds P).length (nameG 4) yesF (callF false 0 F_plus (fCons (callF false 0 F_times_cell (fCons (fVar 3) (fCons (fVar 1) fNil))) (fCons (fVar 4) fNil))) [4] (cds P).length [some (X, 0), some (f.d, 0), some (tupC P, 0), some (c.d, 5), none] = some (cds (P.map fun s => spt f c s), [some (X, 0), some (f.d, 0), some (tupC P, 0), some (c.d, 5), none]) := by
          refine lcL_of (ds := cds P) (fun _ => rfl) _ _ _ (Nat.le_refl _) ?_
          rw [Nat.sub_self, List.drop_zero]
          clear hk ih h0 hl2 hl
          generalize tupC P = Y
          induction P with
          | nil => rfl
          | cons s P ih =>
            have e : cds (s :: P) = s.d :: cds P := rfl
            have hst : lcStep (nameG 4) yesF (callF false 0 F_plus (fCons (callF false 0 F_times_cell (fCons (fVar 3) (fCons (fVar 1) fNil))) (fCons (fVar 4) fNil))) [4] s.d [some (X, 0), some (f.d, 0), some (Y, 0), some (c.d, 5), none] = some (some (spt f c s).d, [some (X, 0), some (f.d, 0), some (Y, 0), some (c.d, 5), none]) := by
              simp [nameG, tupG, consG, nilG, oneF, z2F, z3F, enF, r1F, r2F, ctsF, ctF, chkI, Its.get, Ct.get, zip2D, zip3D, enD, wipeD, restD, immSlot, yesF, lcStep, lcGo, forGo, Its.sls, Ct.sls, FB, runB, initE, ioEnd, lvOk, seqF, ifF, nopF, retF, setF, dropF, storeF, par2F, par3F, asgF, nevF, fVar, fVal, fNil, fCons, fTup, fLst, f2, f1, fN, rds, rd, esc, escs, asgR, isEnt, im1, im2, im3, im4, im5, im6, im7, im8, ok1, ok2, ok3, ok4, ok5, ok6, ok7, ok8, gAdd, Dt.gSub, gMul, gFdiv, gMod, gNeg, gPow, gIx, gLen, gTuple, gList, Dt.g1, hAbs, hInt, hStr, itm, blO, cI, cGtI, cLeI, cGeI, cIs, isL, isDi, putItem, fDic, callF, andF, orF, notF, ifxF, chainF, neSlot, atI, ixN, times_cell c f h, plus_cell, spt]
            rw [e]
            simp only [lcGo, hst, ih]
            rfl
        have ih' := ih (k + (cds (P.map fun s => spt f c s)).length) (by rw [cds_len, List.length_map]; omega)
        have e : cds (c :: cs) = c.d :: cds cs := rfl
        have hf : oneF false (fVar 2) [some (X, 0), some (f.d, 0), some (tupC P, 0), some (c.d, 5), none] = some (.one (.fz (cds P)), [some (X, 0), some (f.d, 0), some (tupC P, 0), some (c.d, 5), none]) := by rfl
        have hk2 : k + (cds P).length < LIM := lt_lim (by rw [cds_len]; omega)
        have hn : nameG 3 c.d [some (X, 0), some (f.d, 0), some (tupC P, 0), none, none] = some [some (X, 0), some (f.d, 0), some (tupC P, 0), some (c.d, 5), none] := by rfl
        have hw : wipeD [some (X, 0), some (f.d, 0), some (tupC P, 0), some (c.d, 5), none] [4] = [some (X, 0), some (f.d, 0), some (tupC P, 0), some (c.d, 5), none] := by rfl
        have hw2 : wipeD [some (X, 0), some (f.d, 0), some (tupC P, 0), some (c.d, 5), none] [3, 4] = [some (X, 0), some (f.d, 0), some (tupC P, 0), none, none] := by rfl
        rw [e]
        simp only [lc2Go, hn, List.length_cons, List.length_nil, if_true, yesF, hf, Its.get, Ct.get, hk2, Its.sls, Ct.sls, List.all_nil, and_self]
        simp only [hw, hin, hw2, ih']
        simp [raw, cds]
  have hs := gSorted_cells (cs := raw f P cs) (le_lim (by rw [raw_len]; omega))
  cases hX <;> simp [F_woven_in, fb_woven_in, hc, hs, wvn, FB, runB, initE, ioEnd, lvOk, seqF, ifF, nopF, retF, setF, dropF, storeF, par2F, par3F, asgF, nevF, fVar, fVal, fNil, fCons, fTup, fLst, f2, f1, fN, rds, rd, esc, escs, asgR, isEnt, im1, im2, im3, im4, im5, im6, im7, im8, ok1, ok2, ok3, ok4, ok5, ok6, ok7, ok8, gAdd, Dt.gSub, gMul, gFdiv, gMod, gNeg, gPow, gIx, gLen, gTuple, gList, Dt.g1, hAbs, hInt, hStr, itm, blO, cI, cGtI, cLeI, cGeI, cIs, isL, isDi, putItem, fDic, callF, andF, orF, notF, ifxF, chainF, neSlot, atI, ixN]
end P81
set_option Elab.async false
set_option linter.all false
set_option maxRecDepth 100000
set_option autoImplicit false
set_option maxHeartbeats 4000000
namespace P81
open PySem PySem.Spec L2 Dt Lw
theorem lcGo_cells {g : GF} {t e : EF} {vs : List Nat} {v : Cell → Option D} {ρ : DEnv} : ∀ {cs : List Cell}, (∀ c ∈ cs, lcStep g t e vs c.d ρ = some (v c, ρ)) → lcGo g t e vs (cds cs) ρ = some (cs.filterMap v, ρ)
  | [], _ => rfl
  | c :: cs, h => by
    have h1 := h c List.mem_cons_self
    have ih := lcGo_cells fun x hx => h x (List.mem_cons_of_mem _ hx)
    have e0 : cds (c :: cs) = c.d :: cds cs := rfl
    rw [e0]
    simp only [lcGo, h1]
    cases e1 : v c with
    | none => simp only [ih, List.filterMap_cons, e1]
    | some y => simp only [ih, List.filterMap_cons, e1]
theorem lcF_cells {asg vs : List Nat} {fi : IF} {g : GF} {t e : EF} {ρ ρ1 : DEnv} {it : Its} {cs : List Cell} (v : Cell → Option D) (h1 : fi ρ = some (it, ρ1)) (hit : ∀ ρ, it.get ρ = some (cds cs)) (hs : it.sls = []) (im : vs.all (fun i => immSlot ρ1[i]?) = true) (ha : asg.all (fun i => vs.contains i) = true) (hl : cs.length ≤ 1000000)
    (hg : ∀ c ∈ cs, lcStep g t e vs c.d (wipeD ρ1 vs) = some (v c, wipeD ρ1 vs)) (hr : restD ρ1 (wipeD ρ1 vs) vs = ρ1) : lcF asg vs fi g t e ρ = some (.own (.lst (cs.filterMap v)) 1, ρ1) := by
  rw [lcF_of h1 hit hs im ha (lt_lim (by rw [cds_len]; exact hl)) (lcGo_cells hg), hr]
theorem dcGo_cells {g : GF} {t fk fv : EF} {vs : List Nat} {ρ : DEnv} : ∀ {cs : List Cell} (acc : List Cell), (acc ++ cs).Nodup → (acc ++ cs).length ≤ 1000000 → (∀ c ∈ cs, ∃ ρ1, g c.d ρ = some ρ1 ∧ ρ1.length = ρ.length ∧ t ρ1 = some (.own (.bl true) 0, ρ1) ∧ fk ρ1 = some (.own c.d 5, ρ1) ∧ fv ρ1 = some (.own (.bl true) 5, ρ1) ∧ wipeD ρ1 vs = ρ) → dcGo g t fk fv vs (cds cs) (dset acc) ρ = some (dset (acc ++ cs), ρ)
  | [], acc, _, _, _ => by simp [cds, dcGo]
  | c :: cs, acc, hn, hl, h => by
    obtain ⟨ρ1, h1, h2, h3, h4, h5, h6⟩ := h c List.mem_cons_self
    have e0 : cds (c :: cs) = c.d :: cds cs := rfl
    have e1 : acc ++ c :: cs = (acc ++ [c]) ++ cs := by simp
    have hni : c ∉ acc := by
      intro hc
      rw [List.nodup_append] at hn
      exact hn.2.2 c hc c List.mem_cons_self rfl
    have hi : ins c acc = acc ++ [c] := by simp [ins, hni]
    have hp := put_dset c acc
    rw [hi] at hp
    have hk : (D.tup [D.int c.x, D.int c.y, D.int c.z]).key = some c.k := Cell.key c
    have hl2 : (dset acc).length < LIM := lt_lim (by rw [dset, List.length_map]; simp at hl; omega)
    rw [e1] at hn hl ⊢
    have ih := dcGo_cells (acc ++ [c]) hn hl fun x hx => h x (List.mem_cons_of_mem _ hx)
    rw [e0]
    simp only [Cell.d] at hp h1 h4
    simp only [dcGo, Cell.d, h1, h2, if_true, h3, h4, h5, isEnt, esc, hk, Cell.k_depth, hl2, and_self, h6, hp]
    simpa using ih
theorem dcF_cells {asg vs : List Nat} {fi : IF} {g : GF} {t fk fv : EF} {ρ ρ1 : DEnv} {it : Its} {cs : List Cell} (h1 : fi ρ = some (it, ρ1)) (hit : ∀ ρ, it.get ρ = some (cds cs)) (hs : it.sls = []) (im : vs.all (fun i => immSlot ρ1[i]?) = true) (ha : asg.all (fun i => vs.contains i) = true) (hl : cs.length ≤ 1000000) (hn : cs.Nodup)
    (hg : ∀ c ∈ cs, ∃ ρ2, g c.d (wipeD ρ1 vs) = some ρ2 ∧ ρ2.length = (wipeD ρ1 vs).length ∧ t ρ2 = some (.own (.bl true) 0, ρ2) ∧ fk ρ2 = some (.own c.d 5, ρ2) ∧ fv ρ2 = some (.own (.bl true) 5, ρ2) ∧ wipeD ρ2 vs = wipeD ρ1 vs) (hr : restD ρ1 (wipeD ρ1 vs) vs = ρ1) : dcF asg vs fi g t fk fv ρ = some (.own (.dic (dset cs)) 1, ρ1) := by
  have := dcF_of (asg := asg) (vs := vs) (fk := fk) (fv := fv) h1 hit hs im ha (dcGo_cells (vs := vs) [] (by simpa using hn) (by simpa using hl) hg)
  rw [this, hr]
  rfl
theorem fm_len {α β : Type} (p : α → Bool) (f : α → β) (l : List α) : (l.filterMap fun a => if p a = true then some (f a) else none).length = (l.filter p).length := by
  induction l with
  | nil => rfl
  | cons a l ih =>
    cases h : p a
    · simp [h]; simpa using ih
    · simp [h]; simpa using ih
theorem nodup_of {cs : List Cell} (h : cs.Pairwise fun a b => Cell.lt a b = true) : cs.Nodup := h.imp fun {a b} hab e => by subst e; rw [Cell.lt_irrefl] at hab; cases hab
theorem solid_of_eq (cs : List Cell) (hl : cs.length ≤ 128) (h : ∀ c ∈ cs, inR (-100) 100 c) : F_solid_of [.lst (cds cs)] = some (tupC cs, .non) := by
  have hc : c_solid_of1 [some (.lst (cds cs), 0), none] = some (.own (.lst ((cds cs).map fun _ => .bl true)) 1, [some (.lst (cds cs), 0), none]) := by
    unfold c_solid_of1
    refine lcF_map (it := .one (.fz (cds cs))) (ds := cds cs) (fun _ => .bl true) (by rfl) (fun _ => rfl) rfl rfl rfl ?_ ?_ rfl
    · exact lt_lim (by rw [cds_len]; omega)
    · intro d hd
      obtain ⟨c, hc, rfl⟩ := cds_mem hd
      simp [nameG, tupG, consG, nilG, oneF, z2F, z3F, enF, r1F, r2F, ctsF, ctF, chkI, Its.get, Ct.get, zip2D, zip3D, enD, wipeD, restD, immSlot, yesF, lcStep, lcGo, forGo, Its.sls, Ct.sls, FB, runB, initE, ioEnd, lvOk, seqF, ifF, nopF, retF, setF, dropF, storeF, par2F, par3F, asgF, nevF, fVar, fVal, fNil, fCons, fTup, fLst, f2, f1, fN, rds, rd, esc, escs, asgR, isEnt, im1, im2, im3, im4, im5, im6, im7, im8, ok1, ok2, ok3, ok4, ok5, ok6, ok7, ok8, gAdd, Dt.gSub, gMul, gFdiv, gMod, gNeg, gPow, gIx, gLen, gTuple, gList, Dt.g1, hAbs, hInt, hStr, itm, blO, cI, cGtI, cLeI, cGeI, cIs, isL, isDi, putItem, fDic, callF, andF, orF, notF, ifxF, chainF, neSlot, atI, ixN, fits_cell_eq c (h c hc)]
  have h1 : ¬ (128 < ((cds cs).length : Int)) := by rw [cds_len]; omega
  simp [-List.map_const, -List.map_const_fun, F_solid_of, fb_solid_of, hc, h1, hAll_true, tupC, FB, runB, initE, ioEnd, lvOk, seqF, ifF, nopF, retF, setF, dropF, storeF, par2F, par3F, asgF, nevF, fVar, fVal, fNil, fCons, fTup, fLst, f2, f1, fN, rds, rd, esc, escs, asgR, isEnt, im1, im2, im3, im4, im5, im6, im7, im8, ok1, ok2, ok3, ok4, ok5, ok6, ok7, ok8, gAdd, Dt.gSub, gMul, gFdiv, gMod, gNeg, gPow, gIx, gLen, gTuple, gList, Dt.g1, hAbs, hInt, hStr, itm, blO, cI, cGtI, cLeI, cGeI, cIs, isL, isDi, putItem, fDic, callF, andF, orF, notF, ifxF, chainF, neSlot, atI, ixN]
def stp (w : Nat) : Cell := match w with | 0 => ⟨1, 0, 0⟩ | 1 => ⟨0, 1, 0⟩ | _ => ⟨0, 0, 1⟩
def pls (a b : Cell) : Cell := ⟨a.x + b.x, a.y + b.y, a.z + b.z⟩
def tch (cs : List Cell) (w : Nat) : Nat := (cs.filter fun c => decide (pls c (stp w) ∈ cs)).length
theorem plus_cell' (a b : Cell) : F_plus [a.d, b.d] = some ((pls a b).d, .non) := plus_eq ..
theorem cEq_int (i j : Int) : cEq (.int i) (.int j) = some (decide (i = j)) := by
  unfold cEq
  simp [Dt.toPy, SeqAt.shaped, PyData.canLay0, PyData.depth, PyData.eqv]
  rfl
theorem touches_in_eq (cs : List Cell) (w : Nat) (hw : w = 0 ∨ w = 1 ∨ w = 2) (hl : cs.length ≤ 1000000) (hn : cs.Nodup) : F_touches_in [tupC cs, .int w] = some (.int (tch cs w), .non) := by
  have h3 : c_touches_in3 [some (tupC cs, 0), some (.int w, 0), none, none, none, none] = some (.own (.lst [.int (stp w).x, .int (stp w).y, .int (stp w).z]) 1, [some (tupC cs, 0), some (.int w, 0), none, none, none, none]) := by
    unfold c_touches_in3
    refine (lcF_of (it := .one (.fz [.int 0, .int 1, .int 2])) (ds := [.int 0, .int 1, .int 2]) (ρ1 := [some (tupC cs, 0), some (.int w, 0), none, none, none, none]) (ys := [.int (stp w).x, .int (stp w).y, .int (stp w).z]) (by rfl) (fun _ => rfl) rfl rfl rfl three (ρ2 := [some (tupC cs, 0), some (.int w, 0), none, none, none, none]) ?_)
    rcases hw with rfl | rfl | rfl <;> simp [nameG, tupG, consG, nilG, oneF, z2F, z3F, enF, r1F, r2F, ctsF, ctF, chkI, Its.get, Ct.get, zip2D, zip3D, enD, wipeD, restD, immSlot, yesF, lcStep, lcGo, forGo, Its.sls, Ct.sls, FB, runB, initE, ioEnd, lvOk, seqF, ifF, nopF, retF, setF, dropF, storeF, par2F, par3F, asgF, nevF, fVar, fVal, fNil, fCons, fTup, fLst, f2, f1, fN, rds, rd, esc, escs, asgR, isEnt, im1, im2, im3, im4, im5, im6, im7, im8, ok1, ok2, ok3, ok4, ok5, ok6, ok7, ok8, gAdd, Dt.gSub, gMul, gFdiv, gMod, gNeg, gPow, gIx, gLen, gTuple, gList, Dt.g1, hAbs, hInt, hStr, itm, blO, cI, cGtI, cLeI, cGeI, cIs, isL, isDi, putItem, fDic, callF, andF, orF, notF, ifxF, chainF, neSlot, atI, ixN, cEq_int, stp]
  have h2 : ∀ n, c_touches_in2 [some (tupC cs, 0), some (.int w, 0), some ((stp w).d, n), none, none, none] = some (.own (.dic (dset cs)) 1, [some (tupC cs, 0), some (.int w, 0), some ((stp w).d, n), none, none, none]) := by
    intro n
    unfold c_touches_in2
    refine dcF_cells (it := .one (.fz (cds cs))) (by rfl) (fun _ => rfl) rfl rfl rfl hl hn ?_ rfl
    intro c hc
    exact ⟨[some (tupC cs, 0), some (.int w, 0), some ((stp w).d, n), none, none, some (c.d, 5)], rfl, rfl, rfl, rfl, rfl, rfl⟩
  have h1 : ∀ n m, c_touches_in1 [some (tupC cs, 0), some (.int w, 0), some ((stp w).d, n), some (.dic (dset cs), 1), m, none] = some (.own (.lst (cs.filterMap fun c => if decide (pls c (stp w) ∈ cs) = true then some c.d else none)) 1, [some (tupC cs, 0), some (.int w, 0), some ((stp w).d, n), some (.dic (dset cs), 1), m, none]) := by
    intro n m
    unfold c_touches_in1
    refine lcF_cells (it := .one (.fz (cds cs))) (fun c => if decide (pls c (stp w) ∈ cs) = true then some c.d else none) (by rfl) (fun _ => rfl) rfl rfl rfl hl ?_ rfl
    intro c hc
    by_cases h : pls c (stp w) ∈ cs <;> simp [nameG, tupG, consG, nilG, oneF, z2F, z3F, enF, r1F, r2F, ctsF, ctF, chkI, Its.get, Ct.get, zip2D, zip3D, enD, wipeD, restD, immSlot, yesF, lcStep, lcGo, forGo, Its.sls, Ct.sls, FB, runB, initE, ioEnd, lvOk, seqF, ifF, nopF, retF, setF, dropF, storeF, par2F, par3F, asgF, nevF, fVar, fVal, fNil, fCons, fTup, fLst, f2, f1, fN, rds, rd, esc, escs, asgR, isEnt, im1, im2, im3, im4, im5, im6, im7, im8, ok1, ok2, ok3, ok4, ok5, ok6, ok7, ok8, gAdd, Dt.gSub, gMul, gFdiv, gMod, gNeg, gPow, gIx, gLen, gTuple, gList, Dt.g1, hAbs, hInt, hStr, itm, blO, cI, cGtI, cLeI, cGeI, cIs, isL, isDi, putItem, fDic, callF, andF, orF, notF, ifxF, chainF, neSlot, atI, ixN, plus_cell', cIn_dset, h]
  have h4 : ∀ w, D.tup [D.int (stp w).x, D.int (stp w).y, D.int (stp w).z] = (stp w).d := fun _ => rfl
  simp [F_touches_in, fb_touches_in, h3, h2, h1, h4, FB, runB, initE, ioEnd, lvOk, seqF, ifF, nopF, retF, setF, dropF, storeF, par2F, par3F, asgF, nevF, fVar, fVal, fNil, fCons, fTup, fLst, f2, f1, fN, rds, rd, esc, escs, asgR, isEnt, im1, im2, im3, im4, im5, im6, im7, im8, ok1, ok2, ok3, ok4, ok5, ok6, ok7, ok8, gAdd, Dt.gSub, gMul, gFdiv, gMod, gNeg, gPow, gIx, gLen, gTuple, gList, Dt.g1, hAbs, hInt, hStr, itm, blO, cI, cGtI, cLeI, cGeI, cIs, isL, isDi, putItem, fDic, callF, andF, orF, notF, ifxF, chainF, neSlot, atI, ixN]
  rw [tch, ← fm_len _ Cell.d]
  simp
end P81
set_option Elab.async false
set_option linter.all false
set_option maxRecDepth 100000
set_option autoImplicit false
set_option maxHeartbeats 4000000
namespace P81
open PySem PySem.Spec L2 Dt Lw
def cmp (c : Cell) (w : Nat) : Int := match w with | 0 => c.x | 1 => c.y | _ => c.z
def zro (c : Cell) (w : Nat) : Cell := match w with | 0 => ⟨0, c.y, c.z⟩ | 1 => ⟨c.x, 0, c.z⟩ | _ => ⟨c.x, c.y, 0⟩
def mtP (f : Cell) (P : List Cell) (w : Nat) (s : Cell) : Bool := decide (cmp s w = cmp f w - 1) && decide (zro s w ∈ P)
def mts (f : Cell) (P : List Cell) (w : Nat) : Nat := (P.filter (mtP f P w)).length
theorem ix_cmp (c : Cell) (w : Nat) (hw : w = 0 ∨ w = 1 ∨ w = 2) : gIx c.d (.int w) = some (.int (cmp c w), 5) := by
  rcases hw with rfl | rfl | rfl <;> rfl
theorem meets_in_eq (f : Cell) (P : List Cell) (w : Nat) (hw : w = 0 ∨ w = 1 ∨ w = 2) (hl : P.length ≤ 1000000) (hn : P.Nodup) : F_meets_in [f.d, tupC P, .int w] = some (.int (mts f P w), .non) := by
  have h3 : c_meets_in3 [some (f.d, 0), some (tupC P, 0), some (.int w, 0), none, none, none, none, none, none] = some (.own (.dic (dset P)) 1, [some (f.d, 0), some (tupC P, 0), some (.int w, 0), none, none, none, none, none, none]) := by
    unfold c_meets_in3
    refine dcF_cells (it := .one (.fz (cds P))) (by rfl) (fun _ => rfl) rfl rfl rfl hl hn ?_ rfl
    intro c hc
    exact ⟨[some (f.d, 0), some (tupC P, 0), some (.int w, 0), none, none, some (c.d, 5), none, none, none], rfl, rfl, rfl, rfl, rfl, rfl⟩
  have h1 : ∀ (n : Int) (s : Cell) (x : Option (D × Nat)), c_meets_in1 [some (f.d, 0), some (tupC P, 0), some (.int w, 0), some (.dic (dset P), 1), some (.int n, 5), some (s.d, 5), x, none, none] = some (.own (.lst [.int (zro s w).x, .int (zro s w).y, .int (zro s w).z]) 1, [some (f.d, 0), some (tupC P, 0), some (.int w, 0), some (.dic (dset P), 1), some (.int n, 5), some (s.d, 5), x, none, none]) := by
    intro n s x
    unfold c_meets_in1
    refine (lcF_of (it := .en (.fz [.int s.x, .int s.y, .int s.z])) (ds := enD 0 [.int s.x, .int s.y, .int s.z]) (ρ1 := [some (f.d, 0), some (tupC P, 0), some (.int w, 0), some (.dic (dset P), 1), some (.int n, 5), some (s.d, 5), x, none, none]) (ys := [.int (zro s w).x, .int (zro s w).y, .int (zro s w).z]) (by rfl) (fun _ => rfl) rfl rfl rfl three (ρ2 := [some (f.d, 0), some (tupC P, 0), some (.int w, 0), some (.dic (dset P), 1), some (.int n, 5), some (s.d, 5), x, none, none]) ?_)
    rcases hw with rfl | rfl | rfl <;> simp [nameG, tupG, consG, nilG, oneF, z2F, z3F, enF, r1F, r2F, ctsF, ctF, chkI, Its.get, Ct.get, zip2D, zip3D, enD, wipeD, restD, immSlot, yesF, lcStep, lcGo, forGo, Its.sls, Ct.sls, FB, runB, initE, ioEnd, lvOk, seqF, ifF, nopF, retF, setF, dropF, storeF, par2F, par3F, asgF, nevF, fVar, fVal, fNil, fCons, fTup, fLst, f2, f1, fN, rds, rd, esc, escs, asgR, isEnt, im1, im2, im3, im4, im5, im6, im7, im8, ok1, ok2, ok3, ok4, ok5, ok6, ok7, ok8, gAdd, Dt.gSub, gMul, gFdiv, gMod, gNeg, gPow, gIx, gLen, gTuple, gList, Dt.g1, hAbs, hInt, hStr, itm, blO, cI, cGtI, cLeI, cGeI, cIs, isL, isDi, putItem, fDic, callF, andF, orF, notF, ifxF, chainF, neSlot, atI, ixN, cEq_int, zro]
  have h4 : ∀ s : Cell, D.tup [D.int s.x, D.int s.y, D.int s.z] = s.d := fun _ => rfl
  have h2 : ∀ fuel, ∃ x y, l_meets_in2 fuel [some (f.d, 0), some (tupC P, 0), some (.int w, 0), some (.dic (dset P), 1), some (.int 0, 5), none, none, none, none] = some (.nx [some (f.d, 0), some (tupC P, 0), some (.int w, 0), some (.dic (dset P), 1), some (.int (mts f P w), 5), x, y, none, none]) := by
    intro fuel
    unfold l_meets_in2
    rw [forF_of (it := .one (.fz (cds P))) (ds := cds P) (by rfl) (fun _ => rfl) rfl]
    suffices hg : ∀ (Q : List Cell) (n : Nat) (x y : Option (D × Nat)), ∃ x' y', forGo (nameG 5) (seqF (ifF (f2 (fun a b => blO (cEq a b)) (f2 gIx (fVar 5) (fVar 2)) (f2 Dt.gSub (f2 gIx (fVar 0) (fVar 2)) (fVal (.int 1)))) (seqF (setF 6 (fN gTuple (fCons c_meets_in1 fNil)))
    (seqF (setF 4 (f2 gAdd (fVar 4) (ifxF (f2 (fun a b => blO (cInD a b)) (fVar 6) (fVar 3)) (fVal (.int 1)) (fVal (.int 0)))))
    nopF)) nopF)
    nopF) fuel (cds Q) [some (f.d, 0), some (tupC P, 0), some (.int w, 0), some (.dic (dset P), 1), some (.int n, 5), x, y, none, none] = some (.nx [some (f.d, 0), some (tupC P, 0), some (.int w, 0), some (.dic (dset P), 1), some (.int ((n + (Q.filter (mtP f P w)).length : Nat)), 5), x', y', none, none]) by
      have := hg P 0 none none
      rw [Nat.zero_add] at this
      exact this
    intro Q
    induction Q with
    | nil => intro n x y; exact ⟨x, y, rfl⟩
    | cons s Q ih =>
      intro n x y
      have e : cds (s :: Q) = s.d :: cds Q := rfl
      rw [e]
      by_cases q1 : cmp s w = cmp f w - 1
      · by_cases q2 : zro s w ∈ P
        · obtain ⟨x', y', i⟩ := ih (n + 1) (some (s.d, 5)) (some ((zro s w).d, 5))
          refine ⟨x', y', ?_⟩
          have : mtP f P w s = true := by simp [mtP, q1, q2]
          rw [List.filter_cons_of_pos this, List.length_cons, ← Nat.add_assoc, Nat.add_right_comm, ← i]
          simp [nameG, tupG, consG, nilG, oneF, z2F, z3F, enF, r1F, r2F, ctsF, ctF, chkI, Its.get, Ct.get, zip2D, zip3D, enD, wipeD, restD, immSlot, yesF, lcStep, lcGo, forGo, Its.sls, Ct.sls, FB, runB, initE, ioEnd, lvOk, seqF, ifF, nopF, retF, setF, dropF, storeF, par2F, par3F, asgF, nevF, fVar, fVal, fNil, fCons, fTup, fLst, f2, f1, fN, rds, rd, esc, escs, asgR, isEnt, im1, im2, im3, im4, im5, im6, im7, im8, ok1, ok2, ok3, ok4, ok5, ok6, ok7, ok8, gAdd, Dt.gSub, gMul, gFdiv, gMod, gNeg, gPow, gTuple, gList, Dt.g1, hAbs, hInt, hStr, itm, blO, cI, cGtI, cLeI, cGeI, cIs, isL, isDi, putItem, fDic, callF, andF, orF, notF, ifxF, chainF, neSlot, ix_cmp, hw, cEq_int, q1, q2, h1, h4, cIn_dset]
        · obtain ⟨x', y', i⟩ := ih n (some (s.d, 5)) (some ((zro s w).d, 5))
          refine ⟨x', y', ?_⟩
          have : ¬ mtP f P w s = true := by simp [mtP, q1, q2]
          rw [List.filter_cons_of_neg this, ← i]
          simp [nameG, tupG, consG, nilG, oneF, z2F, z3F, enF, r1F, r2F, ctsF, ctF, chkI, Its.get, Ct.get, zip2D, zip3D, enD, wipeD, restD, immSlot, yesF, lcStep, lcGo, forGo, Its.sls, Ct.sls, FB, runB, initE, ioEnd, lvOk, seqF, ifF, nopF, retF, setF, dropF, storeF, par2F, par3F, asgF, nevF, fVar, fVal, fNil, fCons, fTup, fLst, f2, f1, fN, rds, rd, esc, escs, asgR, isEnt, im1, im2, im3, im4, im5, im6, im7, im8, ok1, ok2, ok3, ok4, ok5, ok6, ok7, ok8, gAdd, Dt.gSub, gMul, gFdiv, gMod, gNeg, gPow, gTuple, gList, Dt.g1, hAbs, hInt, hStr, itm, blO, cI, cGtI, cLeI, cGeI, cIs, isL, isDi, putItem, fDic, callF, andF, orF, notF, ifxF, chainF, neSlot, ix_cmp, hw, cEq_int, q1, q2, h1, h4, cIn_dset]
      · obtain ⟨x', y', i⟩ := ih n (some (s.d, 5)) y
        refine ⟨x', y', ?_⟩
        have : ¬ mtP f P w s = true := by simp [mtP, q1]
        rw [List.filter_cons_of_neg this, ← i]
        simp [nameG, tupG, consG, nilG, oneF, z2F, z3F, enF, r1F, r2F, ctsF, ctF, chkI, Its.get, Ct.get, zip2D, zip3D, enD, wipeD, restD, immSlot, yesF, lcStep, lcGo, forGo, Its.sls, Ct.sls, FB, runB, initE, ioEnd, lvOk, seqF, ifF, nopF, retF, setF, dropF, storeF, par2F, par3F, asgF, nevF, fVar, fVal, fNil, fCons, fTup, fLst, f2, f1, fN, rds, rd, esc, escs, asgR, isEnt, im1, im2, im3, im4, im5, im6, im7, im8, ok1, ok2, ok3, ok4, ok5, ok6, ok7, ok8, gAdd, Dt.gSub, gMul, gFdiv, gMod, gNeg, gPow, gTuple, gList, Dt.g1, hAbs, hInt, hStr, itm, blO, cI, cGtI, cLeI, cGeI, cIs, isL, isDi, putItem, fDic, callF, andF, orF, notF, ifxF, chainF, neSlot, ix_cmp, hw, cEq_int, q1, h1, h4, cIn_dset]
  obtain ⟨x, y, h2⟩ := h2 1000000
  simp [F_meets_in, fb_meets_in, h3, h2, FB, runB, initE, ioEnd, lvOk, seqF, ifF, nopF, retF, setF, dropF, storeF, par2F, par3F, asgF, nevF, fVar, fVal, fNil, fCons, fTup, fLst, f2, f1, fN, rds, rd, esc, escs, asgR, isEnt, im1, im2, im3, im4, im5, im6, im7, im8, ok1, ok2, ok3, ok4, ok5, ok6, ok7, ok8, gAdd, Dt.gSub, gMul, gFdiv, gMod, gNeg, gPow, gIx, gLen, gTuple, gList, Dt.g1, hAbs, hInt, hStr, itm, blO, cI, cGtI, cLeI, cGeI, cIs, isL, isDi, putItem, fDic, callF, andF, orF, notF, ifxF, chainF, neSlot, atI, ixN]
def tot (f : Cell) (P : List Cell) (w : Nat) : Nat → Int
  | 0 => 0
  | m + 1 => (P.length : Int) ^ m * tch P w + tot f P w m * mts f P w
theorem small_nat {m : Nat} (hm : m ≤ 1000000) : small62 (m : Int) = true := by
  unfold small62
  rw [Bool.and_eq_true]
  refine ⟨decide_eq_true ?_, decide_eq_true ?_⟩
  · have h2 : (-(2 ^ 62) : Int) = -4611686018427387904 := by rfl
    rw [h2]; omega
  · have h2 : ((2 ^ 62) : Int) = 4611686018427387904 := by rfl
    rw [h2]; omega
theorem gLen_tupC (P : List Cell) : gLen [tupC P] = some (.int P.length, 5) := by simp [gLen, tupC, cds_len]
theorem counts_loop (f : Cell) (P : List Cell) (m : Nat) (hm : m ≤ 1000) (hl : P.length ≤ 1000000) (hn : P.Nodup) : ∀ fuel, ∃ x y, l_counts_in2 fuel [some (f.d, 0), some (tupC P, 0), some (.int m, 0), some (.int 1, 5), some (.lst [.int 0, .int 0, .int 0], 0), none, none, none] = some (.nx [some (f.d, 0), some (tupC P, 0), some (.int m, 0), some (.int ((P.length : Int) ^ m), 5), some (.lst [.int (tot f P 0 m), .int (tot f P 1 m), .int (tot f P 2 m)], 0), x, y, none]) := by
  have b1 : ∀ w, (tch P w : Nat) < 18446744073709551616 := fun w => by
    have : tch P w ≤ P.length := List.length_filter_le ..
    omega
  have b2 : ∀ w, (mts f P w : Nat) < 18446744073709551616 := fun w => by
    have : mts f P w ≤ P.length := List.length_filter_le ..
    omega
  have h1 : ∀ (n a b c : Int) (x y : Option (D × Nat)), c_counts_in1 [some (f.d, 0), some (tupC P, 0), some (.int m, 0), some (.int n, 5), some (.lst [.int a, .int b, .int c], 0), x, y, none] = some (.own (.lst [.int (n * tch P 0 + a * mts f P 0), .int (n * tch P 1 + b * mts f P 1), .int (n * tch P 2 + c * mts f P 2)]) 1, [some (f.d, 0), some (tupC P, 0), some (.int m, 0), some (.int n, 5), some (.lst [.int a, .int b, .int c], 0), x, y, none]) := by
    intro n a b c x y
    unfold c_counts_in1
    refine (lcF_of (it := .one (.fz [.int 0, .int 1, .int 2])) (ds := [.int 0, .int 1, .int 2]) (ρ1 := [some (f.d, 0), some (tupC P, 0), some (.int m, 0), some (.int n, 5), some (.lst [.int a, .int b, .int c], 0), x, y, none]) (ys := [.int (n * tch P 0 + a * mts f P 0), .int (n * tch P 1 + b * mts f P 1), .int (n * tch P 2 + c * mts f P 2)]) (by rfl) (fun _ => rfl) rfl rfl rfl three (ρ2 := [some (f.d, 0), some (tupC P, 0), some (.int m, 0), some (.int n, 5), some (.lst [.int a, .int b, .int c], 0), x, y, none]) ?_)
    have t0 : F_touches_in [tupC P, .int 0] = _ := touches_in_eq P 0 (.inl rfl) hl hn
    have t1 : F_touches_in [tupC P, .int 1] = _ := touches_in_eq P 1 (.inr (.inl rfl)) hl hn
    have t2 : F_touches_in [tupC P, .int 2] = _ := touches_in_eq P 2 (.inr (.inr rfl)) hl hn
    have m0 : F_meets_in [f.d, tupC P, .int 0] = _ := meets_in_eq f P 0 (.inl rfl) hl hn
    have m1 : F_meets_in [f.d, tupC P, .int 1] = _ := meets_in_eq f P 1 (.inr (.inl rfl)) hl hn
    have m2 : F_meets_in [f.d, tupC P, .int 2] = _ := meets_in_eq f P 2 (.inr (.inr rfl)) hl hn
    have g0 : gIx (.lst [.int a, .int b, .int c]) (.int 0) = some (.int a, 5) := rfl
    have g1 : gIx (.lst [.int a, .int b, .int c]) (.int 1) = some (.int b, 5) := rfl
    have g2 : gIx (.lst [.int a, .int b, .int c]) (.int 2) = some (.int c, 5) := rfl
    simp [nameG, tupG, consG, nilG, oneF, z2F, z3F, enF, r1F, r2F, ctsF, ctF, chkI, Its.get, Ct.get, zip2D, zip3D, enD, wipeD, restD, immSlot, yesF, lcStep, lcGo, forGo, Its.sls, Ct.sls, FB, runB, initE, ioEnd, lvOk, seqF, ifF, nopF, retF, setF, dropF, storeF, par2F, par3F, asgF, nevF, fVar, fVal, fNil, fCons, fTup, fLst, f2, f1, fN, rds, rd, esc, escs, asgR, isEnt, im1, im2, im3, im4, im5, im6, im7, im8, ok1, ok2, ok3, ok4, ok5, ok6, ok7, ok8, gAdd, Dt.gSub, gMul, gFdiv, gMod, gNeg, gPow, gTuple, gList, Dt.g1, hAbs, hInt, hStr, itm, blO, cI, cGtI, cLeI, cGeI, cIs, isL, isDi, putItem, fDic, callF, andF, orF, notF, ifxF, chainF, neSlot, t0, t1, t2, m0, m1, m2, g0, g1, g2, b1, b2]
  have b3 : P.length < 18446744073709551616 := by omega
  have h2 : ∀ fuel, ∃ x y, l_counts_in2 fuel [some (f.d, 0), some (tupC P, 0), some (.int m, 0), some (.int 1, 5), some (.lst [.int 0, .int 0, .int 0], 0), none, none, none] = some (.nx [some (f.d, 0), some (tupC P, 0), some (.int m, 0), some (.int ((P.length : Int) ^ m), 5), some (.lst [.int (tot f P 0 m), .int (tot f P 1 m), .int (tot f P 2 m)], 0), x, y, none]) := by
    intro fuel
    unfold l_counts_in2
    have hs : small62 (m : Int) = true := small_nat (by omega)
    rw [forF_of (it := .rng 0 m) (ρ1 := [some (f.d, 0), some (tupC P, 0), some (.int m, 0), some (.int 1, 5), some (.lst [.int 0, .int 0, .int 0], 0), none, none, none]) (ds := (List.range m).map fun k : Nat => D.int (0 + (k : Int))) (by simp [nameG, tupG, consG, nilG, oneF, z2F, z3F, enF, r1F, r2F, ctsF, ctF, chkI, Its.get, Ct.get, zip2D, zip3D, enD, wipeD, restD, immSlot, yesF, lcStep, lcGo, forGo, Its.sls, Ct.sls, FB, runB, initE, ioEnd, lvOk, seqF, ifF, nopF, retF, setF, dropF, storeF, par2F, par3F, asgF, nevF, fVar, fVal, fNil, fCons, fTup, fLst, f2, f1, fN, rds, rd, esc, escs, asgR, isEnt, im1, im2, im3, im4, im5, im6, im7, im8, ok1, ok2, ok3, ok4, ok5, ok6, ok7, ok8, gAdd, Dt.gSub, gMul, gFdiv, gMod, gNeg, gPow, gTuple, gList, Dt.g1, hAbs, hInt, hStr, itm, blO, cI, cGtI, cLeI, cGeI, cIs, isL, isDi, putItem, fDic, callF, andF, orF, notF, ifxF, chainF, neSlot, hs]) (fun _ => rfl) rfl]
    suffices hg : ∀ (ds : List Nat) (j : Nat) (x y : Option (D × Nat)), ∃ x' y', forGo (nameG 5) (seqF (setF 6 c_counts_in1)
    (seqF (asgF (tupG 2 (consG (nameG 3) (consG (nameG 4) nilG))) (fTup (fCons (f2 gMul (fVar 3) (fN gLen (fCons (fVar 1) fNil))) (fCons (fVar 6) fNil))))
    nopF)) fuel (ds.map fun k : Nat => D.int (0 + (k : Int))) [some (f.d, 0), some (tupC P, 0), some (.int m, 0), some (.int ((P.length : Int) ^ j), 5), some (.lst [.int (tot f P 0 j), .int (tot f P 1 j), .int (tot f P 2 j)], 0), x, y, none] = some (.nx [some (f.d, 0), some (tupC P, 0), some (.int m, 0), some (.int ((P.length : Int) ^ (j + ds.length)), 5), some (.lst [.int (tot f P 0 (j + ds.length)), .int (tot f P 1 (j + ds.length)), .int (tot f P 2 (j + ds.length))], 0), x', y', none]) by
      have := hg (List.range m) 0 none none
      rw [Nat.zero_add, List.length_range] at this
      exact this
    intro ds
    induction ds with
    | nil => intro j x y; exact ⟨x, y, rfl⟩
    | cons d ds ih =>
      intro j x y
      obtain ⟨x', y', i⟩ := ih (j + 1) (some (.int (0 + d), 5)) (some (.lst [.int (tot f P 0 (j + 1)), .int (tot f P 1 (j + 1)), .int (tot f P 2 (j + 1))], 0))
      refine ⟨x', y', ?_⟩
      rw [List.length_cons, ← Nat.add_assoc, Nat.add_right_comm, ← i]
      simp [nameG, tupG, consG, nilG, oneF, z2F, z3F, enF, r1F, r2F, ctsF, ctF, chkI, Its.get, Ct.get, zip2D, zip3D, enD, wipeD, restD, immSlot, yesF, lcStep, lcGo, forGo, Its.sls, Ct.sls, FB, runB, initE, ioEnd, lvOk, seqF, ifF, nopF, retF, setF, dropF, storeF, par2F, par3F, asgF, nevF, fVar, fVal, fNil, fCons, fTup, fLst, f2, f1, fN, rds, rd, esc, escs, asgR, isEnt, im1, im2, im3, im4, im5, im6, im7, im8, ok1, ok2, ok3, ok4, ok5, ok6, ok7, ok8, gAdd, Dt.gSub, gMul, gFdiv, gMod, gNeg, gPow, gTuple, gList, Dt.g1, hAbs, hInt, hStr, itm, blO, cI, cGtI, cLeI, cGeI, cIs, isL, isDi, putItem, fDic, callF, andF, orF, notF, ifxF, chainF, neSlot, h1, gLen_tupC, b3, tot, Int.pow_succ]
  exact h2
end P81
set_option Elab.async false
set_option linter.all false
set_option maxRecDepth 100000
set_option autoImplicit false
set_option maxHeartbeats 4000000
namespace P81
open PySem PySem.Spec L2 Dt Lw
theorem counts_gen (l : SF) (fuel : Nat) (f : Cell) (P : List Cell) (m pm t0 t1 t2 : Int) (x y : Option (D × Nat)) (h2 : l fuel [some (f.d, 0), some (tupC P, 0), some (.int m, 0), some (.int 1, 5), some (.lst [.int 0, .int 0, .int 0], 0), none, none, none] = some (.nx [some (f.d, 0), some (tupC P, 0), some (.int m, 0), some (.int pm, 5), some (.lst [.int t0, .int t1, .int t2], 0), x, y, none])) : FB false 0 8 (seqF (asgF (tupG 2 (consG (nameG 3) (consG (nameG 4) nilG))) (fTup (fCons (fVal (.int 1)) (fCons (fLst (fCons (fVal (.int 0)) (fCons (fVal (.int 0)) (fCons (fVal (.int 0)) fNil)))) fNil)))) (seqF l (seqF (retF (fTup (fCons (fVar 3) (fCons (f2 Dt.gSub (f2 gMul (fVal (.int 6)) (fVar 3)) (f2 gMul (fVal (.int 2)) (fN (Dt.g1 hSum) (fCons (fVar 4) fNil)))) fNil)))) nopF))) fuel [f.d, tupC P, .int m] = some (.tup [.int pm, .int (6 * pm - 2 * (t0 + t1 + t2))], .non) := by
  have g1 : ∀ a b c : Int, hSum (.lst [.int a, .int b, .int c]) = some (.int (a + b + c)) := fun a b c => by simp [hSum, asInts, Int.add_assoc]
  have g2 : ∀ i : Int, gMul (.int 6) (.int i) = some (.int (6 * i), 5) := fun i => by simp [gMul]
  have g3 : ∀ i : Int, gMul (.int 2) (.int i) = some (.int (2 * i), 5) := fun i => by simp [gMul]
  have e1 : asgF (tupG 2 (consG (nameG 3) (consG (nameG 4) nilG))) (fTup (fCons (fVal (.int 1)) (fCons (fLst (fCons (fVal (.int 0)) (fCons (fVal (.int 0)) (fCons (fVal (.int 0)) fNil)))) fNil))) fuel [some (f.d, 0), some (tupC P, 0), some (.int m, 0), none, none, none, none, none] = some (.nx [some (f.d, 0), some (tupC P, 0), some (.int m, 0), some (.int 1, 5), some (.lst [.int 0, .int 0, .int 0], 0), none, none, none]) := by rfl
  have e2 : retF (fTup (fCons (fVar 3) (fCons (f2 Dt.gSub (f2 gMul (fVal (.int 6)) (fVar 3)) (f2 gMul (fVal (.int 2)) (fN (Dt.g1 hSum) (fCons (fVar 4) fNil)))) fNil))) fuel [some (f.d, 0), some (tupC P, 0), some (.int m, 0), some (.int pm, 5), some (.lst [.int t0, .int t1, .int t2], 0), x, y, none] = some (.rt (.tup [.int pm, .int (6 * pm - 2 * (t0 + t1 + t2))]) 5 [some (f.d, 0), some (tupC P, 0), some (.int m, 0), some (.int pm, 5), some (.lst [.int t0, .int t1, .int t2], 0), x, y, none]) := by
    simp [g1, g2, g3, retF, fTup, fCons, fVar, fNil, f2, Dt.gSub, fVal, fN, Dt.g1, isEnt, im1, im4, rd, rds, ok1, ok4, escs, esc]
  have hi : initE false 8 [f.d, tupC P, .int m] = [some (f.d, 0), some (tupC P, 0), some (.int m, 0), none, none, none, none, none] := rfl
  have hv : lvOk (.tup [.int pm, .int (6 * pm - 2 * (t0 + t1 + t2))]) 0 5 = true := rfl
  simp only [FB, runB, hi, seqF, e1, h2, e2, hv, ioEnd, if_true]
  rfl
theorem counts_in_eq (f : Cell) (P : List Cell) (m : Nat) (hm : m ≤ 1000) (hl : P.length ≤ 1000000) (hn : P.Nodup) : F_counts_in [f.d, tupC P, .int m] = some (.tup [.int ((P.length : Int) ^ m), .int (6 * (P.length : Int) ^ m - 2 * (tot f P 0 m + tot f P 1 m + tot f P 2 m))], .non) := by
  obtain ⟨x, y, h2⟩ := counts_loop f P m hm hl hn 1000000
  exact counts_gen l_counts_in2 1000000 f P m _ _ _ _ x y h2
end P81
set_option Elab.async false
set_option linter.all false
set_option maxRecDepth 100000
set_option autoImplicit false
set_option maxHeartbeats 4000000
namespace P81
open PySem PySem.Spec L2 Dt Lw
theorem lcL_pure {it : Its} {ds : List D} {g : GF} {t e : EF} {vs : List Nat} {v : D → Option D} {ρ : DEnv} (hit : it.get ρ = some ds) (hg : ∀ d ∈ ds, lcStep g t e vs d ρ = some (v d, ρ)) : ∀ m : Nat, m ≤ ds.length → lcL it ds.length g t e vs m ρ = some ((ds.drop (ds.length - m)).filterMap v, ρ)
  | 0, _ => by
    simp only [lcL, hit, if_true, Nat.sub_zero, List.drop_length, List.filterMap_nil]
  | m + 1, hm => by
    have hi : ds.length - (m + 1) < ds.length := by omega
    have ih := lcL_pure hit hg m (by omega)
    have h := hg _ (List.getElem_mem hi)
    rw [List.drop_eq_getElem_cons hi]
    have e1 : ds.length - (m + 1) + 1 = ds.length - m := by omega
    rw [e1]
    simp only [lcL, hit, if_true, List.getElem?_eq_getElem hi]
    unfold lcStep at h
    split at h
    case h_2 => cases h
    rename_i ρa ea
    split at h
    case isFalse => cases h
    rename_i hl
    split at h
    · rename_i n ρb eb
      split at h
      case h_2 => cases h
      rename_i r ρc ec
      split at h
      · cases h
      rename_i ne
      split at h
      case h_2 => cases h
      rename_i y' ρd ed
      simp only [Option.some.injEq, Prod.mk.injEq] at h
      obtain ⟨h1, h2⟩ := h
      simp only [ea, hl, if_true, eb, ec, ne, ed, h2, ih, List.filterMap_cons, ← h1]
      rfl
    · rename_i n ρb eb
      simp only [Option.some.injEq, Prod.mk.injEq] at h
      obtain ⟨h1, h2⟩ := h
      simp only [ea, hl, if_true, eb, h2, ih, List.filterMap_cons, ← h1]
    · cases h
theorem lcF_sl {asg vs : List Nat} {fi : IF} {g : GF} {t e : EF} {ρ ρ1 : DEnv} {it : Its} {cs : List Cell} (v : Cell → D) (h1 : fi ρ = some (it, ρ1)) (hit : it.get ρ1 = some (cds cs)) (hit2 : it.get (wipeD ρ1 vs) = some (cds cs)) (hs : it.sls.all (fun i => !vs.contains i) = true) (im : vs.all (fun i => immSlot ρ1[i]?) = true) (ha : asg.all (fun i => vs.contains i) = true) (hl : cs.length ≤ 1000000)
    (hg : ∀ c ∈ cs, lcStep g t e vs c.d (wipeD ρ1 vs) = some (some (v c), wipeD ρ1 vs)) (hr : restD ρ1 (wipeD ρ1 vs) vs = ρ1) : lcF asg vs fi g t e ρ = some (.own (.lst (cs.map v)) 1, ρ1) := by
  have hl2 : (cds cs).length < LIM := lt_lim (by rw [cds_len]; exact hl)
  have key : ∃ v' : D → Option D, ∀ c : Cell, v' c.d = some (v c) := ⟨fun d => match d with
    | .tup [.int x, .int y, .int z] => some (v ⟨x, y, z⟩)
    | _ => none, fun c => rfl⟩
  obtain ⟨v', hv⟩ := key
  have := lcL_pure (g := g) (t := t) (e := e) (vs := vs) (v := v') hit2 (fun d hd => by
    obtain ⟨c, hc, rfl⟩ := cds_mem hd
    rw [hv]; exact hg c hc) (cds cs).length (Nat.le_refl _)
  rw [Nat.sub_self, List.drop_zero] at this
  simp only [lcF, h1, hit, im, hs, ha, hl2, and_self, if_true, this, hr]
  congr 4
  unfold cds
  rw [List.filterMap_map]
  rw [show (v' ∘ Cell.d) = (fun c => some (v c)) from funext hv]
  simp
def pw (f : Cell) (P : List Cell) : Nat → List Cell
  | 0 => [⟨0, 0, 0⟩]
  | m + 1 => wvn f P (pw f P m)
theorem pw_len (f : Cell) (P : List Cell) : ∀ m, (pw f P m).length = P.length ^ m
  | 0 => rfl
  | m + 1 => by rw [pw, wvn, srt_len, raw_len, pw_len f P m, Nat.pow_succ]
theorem pc_gen (G G1 G2 : DF) (fuel : Nat) (fd TP r : D) (mm : Int) (i2 : isImm TP = true) (i3 : isImm fd = true) (w2 : G1 [fd, TP] = some (.non, .non)) (w1 : G2 [.int mm, .int 0, .int 200] = some (.bl true, .non)) (e : G [fd, TP, .int mm] = some (r, .non)) : FB false 0 3 (seqF (dropF (callF false 0 G1 (fCons (fVar 0) (fCons (fVar 1) fNil))))
    (seqF (ifF (notF (callF false 0 G2 (fCons (fVar 2) (fCons (fVal (.int 0)) (fCons (fVal (.int 200)) fNil))))) (seqF nevF
    nopF) nopF)
    (seqF (retF (callF false 0 G (fCons (fVar 0) (fCons (fVar 1) (fCons (fVar 2) fNil)))))
    nopF))) fuel [fd, TP, .int mm] = some (r, .non) := by
  simp [lvOk, w1, w2, e, i2, i3, FB, runB, initE, ioEnd, lvOk, seqF, ifF, nopF, retF, setF, dropF, storeF, par2F, par3F, asgF, nevF, fVar, fVal, fNil, fCons, fTup, fLst, f2, f1, fN, rds, rd, esc, escs, asgR, isEnt, im1, im2, im3, im4, im5, im6, im7, im8, ok1, ok2, ok3, ok4, ok5, ok6, ok7, ok8, gAdd, Dt.gSub, gMul, gFdiv, gMod, gNeg, gPow, gTuple, gList, Dt.g1, hAbs, hInt, hStr, itm, blO, cI, cGtI, cLeI, cGeI, cIs, isL, isDi, putItem, fDic, callF, andF, orF, notF, ifxF, chainF, neSlot]
theorem power_counts_eq (f : Cell) (P : List Cell) (m : Nat) (hm : m ≤ 200) (h : Pat f P) : F_power_counts [f.d, tupC P, .int m] = some (.tup [.int ((P.length : Int) ^ m), .int (6 * (P.length : Int) ^ m - 2 * (tot f P 0 m + tot f P 1 m + tot f P 2 m))], .non) := by
  have hn := nodup_of h.sol.ris
  have e := counts_in_eq f P m (by omega) (by have := h.sol.len; omega) hn
  have hm2 : (m : Int) ≤ 200 := by omega
  have hm3 : (0 : Int) ≤ m := by omega
  have w1 := fits_whole_eq m 0 200
  rw [decide_eq_true hm2, decide_eq_true hm3] at w1
  exact pc_gen F_counts_in F_need_pattern F_fits_whole 1000000 f.d (tupC P) _ m rfl rfl (need_pattern_eq f P h) w1 e
theorem woven_eq (f : Cell) (P C : List Cell) (h : Pat f P) (hC : Solid C) (hn : C ≠ []) (hl : C.length * P.length ≤ 128) (hb : ∀ c ∈ wvn f P C, inR (-100) 100 c) : F_woven [tupC C, f.d, tupC P] = some (tupC (wvn f P C), .non) := by
  have w := woven_in_eq f P C (.t) h.frame (by omega) (by have := hC.len; omega) (by have := h.sol.len; omega)
  have w1 : F_woven_in [tupC C, f.d, tupC P] = some (.lst (cds (wvn f P C)), .non) := w
  have s1 := solid_of_eq (wvn f P C) (by rw [wvn, srt_len, raw_len]; omega) hb
  have g1 : ∀ i j : Nat, i < 1000 → gMul (.int i) (.int j) = some (.int (i * j), 5) := fun i j hi => by
    have : i < 18446744073709551616 := by omega
    simp [gMul, this]
  have g2 := g1 C.length P.length (by have := hC.len; omega)
  have g3 : ¬ (128 < (C.length : Int) * P.length) := by
    rw [← Int.natCast_mul]; omega
  simp [F_woven, fb_woven, need_some_eq C hC hn, need_pattern_eq f P h, gLen_tupC, g2, g3, w1, s1, FB, runB, initE, ioEnd, lvOk, seqF, ifF, nopF, retF, setF, dropF, storeF, par2F, par3F, asgF, nevF, fVar, fVal, fNil, fCons, fTup, fLst, f2, f1, fN, rds, rd, esc, escs, asgR, isEnt, im1, im2, im3, im4, im5, im6, im7, im8, ok1, ok2, ok3, ok4, ok5, ok6, ok7, ok8, gAdd, Dt.gSub, gFdiv, gMod, gNeg, gPow, gTuple, gList, Dt.g1, hAbs, hInt, hStr, itm, blO, cI, cGtI, cLeI, cGeI, cIs, isL, isDi, putItem, fDic, callF, andF, orF, notF, ifxF, chainF, neSlot]
def mx (c : Cell) : Int := maxI [c.y, c.z] c.x
theorem hMax_cell (c : Cell) : hMax c.d = some (.int (mx c)) := rfl
theorem maxI_le : ∀ (xs : List Int) (m b : Int), m ≤ b → (∀ x ∈ xs, x ≤ b) → maxI xs m ≤ b
  | [], _, _, h, _ => h
  | x :: xs, m, b, h, hx => by
    unfold maxI
    refine maxI_le xs _ b ?_ fun y hy => hx y (List.mem_cons_of_mem _ hy)
    split
    · exact hx x List.mem_cons_self
    · exact h
theorem mx_le {c : Cell} {b : Int} (h1 : c.x ≤ b) (h2 : c.y ≤ b) (h3 : c.z ≤ b) : mx c ≤ b := maxI_le _ _ _ h1 fun x hx => by
  simp at hx
  rcases hx with rfl | rfl <;> assumption
theorem asInts_map (l : List Int) : asInts (l.map D.int) = some l := by
  induction l with
  | nil => rfl
  | cons a l ih => simp only [List.map_cons, asInts, ih, Option.map_some]
def mxs : List Cell → Int
  | [] => 0
  | c :: cs => maxI (cs.map mx) (mx c)
theorem hMax_cells (cs : List Cell) (hn : cs ≠ []) : hMax (.lst (cs.map fun c => .int (mx c))) = some (.int (mxs cs)) := by
  cases cs with
  | nil => exact absurd rfl hn
  | cons c cs =>
    have : (c :: cs).map (fun c => D.int (mx c)) = ((c :: cs).map mx).map D.int := by rw [List.map_map]; rfl
    simp only [hMax, this, asInts_map]
    rfl
theorem mxs_le (cs : List Cell) (b : Int) (hb : 0 ≤ b) (h : ∀ c ∈ cs, mx c ≤ b) : mxs cs ≤ b := by
  cases cs with
  | nil => exact hb
  | cons c cs =>
    refine maxI_le _ _ _ (h c List.mem_cons_self) fun x hx => ?_
    obtain ⟨c', h1, rfl⟩ := List.mem_map.mp hx
    exact h c' (List.mem_cons_of_mem _ h1)
theorem power_of1_eq (f : Cell) (P cs : List Cell) (m i : Int) (hl : cs.length ≤ 1000000) : c_power_of1 [some (f.d, 0), some (tupC P, 0), some (.int m, 0), some (.lst (cds cs), 1), some (.int i, 5), none] = some (.own (.lst (cs.map fun c => .int (mx c))) 1, [some (f.d, 0), some (tupC P, 0), some (.int m, 0), some (.lst (cds cs), 1), some (.int i, 5), none]) := by
  unfold c_power_of1
  refine lcF_sl (it := .one (.sl 3)) (fun c => .int (mx c)) (by rfl) (by rfl) (by rfl) rfl rfl rfl hl ?_ rfl
  intro c hc
  simp [nameG, tupG, consG, nilG, oneF, z2F, z3F, enF, r1F, r2F, ctsF, ctF, chkI, Its.get, Ct.get, zip2D, zip3D, enD, wipeD, restD, immSlot, yesF, lcStep, lcGo, forGo, Its.sls, Ct.sls, FB, runB, initE, ioEnd, lvOk, seqF, ifF, nopF, retF, setF, dropF, storeF, par2F, par3F, asgF, nevF, fVar, fVal, fNil, fCons, fTup, fLst, f2, f1, fN, rds, rd, esc, escs, asgR, isEnt, im1, im2, im3, im4, im5, im6, im7, im8, ok1, ok2, ok3, ok4, ok5, ok6, ok7, ok8, gAdd, Dt.gSub, gMul, gFdiv, gMod, gNeg, gPow, gTuple, gList, Dt.g1, hAbs, hInt, hStr, itm, blO, cI, cGtI, cLeI, cGeI, cIs, isL, isDi, putItem, fDic, callF, andF, orF, notF, ifxF, chainF, neSlot, hMax_cell]
theorem power_loop (f : Cell) (P : List Cell) (m : Nat) (hm : m ≤ 200) (h : Pat f P) (hl : ∀ j, j ≤ m → P.length ^ j ≤ 128) (hb : ∀ j, j ≤ m → ∀ c ∈ pw f P j, mx c ≤ 100) (fuel : Nat) : ∃ x, l_power_of2 fuel [some (f.d, 0), some (tupC P, 0), some (.int m, 0), some (.lst (cds [⟨0, 0, 0⟩]), 1), none, none] = some (.nx [some (f.d, 0), some (tupC P, 0), some (.int m, 0), some (.lst (cds (pw f P m)), 1), x, none]) := by
  unfold l_power_of2
  rw [forF_of (it := .rng 0 m) (ρ1 := [some (f.d, 0), some (tupC P, 0), some (.int m, 0), some (.lst (cds [⟨0, 0, 0⟩]), 1), none, none]) (ds := (List.range m).map fun k : Nat => D.int (0 + (k : Int))) (by simp [nameG, tupG, consG, nilG, oneF, z2F, z3F, enF, r1F, r2F, ctsF, ctF, chkI, Its.get, Ct.get, zip2D, zip3D, enD, wipeD, restD, immSlot, yesF, lcStep, lcGo, forGo, Its.sls, Ct.sls, FB, runB, initE, ioEnd, lvOk, seqF, ifF, nopF, retF, setF, dropF, storeF, par2F, par3F, asgF, nevF, fVar, fVal, fNil, fCons, fTup, fLst, f2, f1, fN, rds, rd, esc, escs, asgR, isEnt, im1, im2, im3, im4, im5, im6, im7, im8, ok1, ok2, ok3, ok4, ok5, ok6, ok7, ok8, gAdd, Dt.gSub, gMul, gFdiv, gMod, gNeg, gPow, gTuple, gList, Dt.g1, hAbs, hInt, hStr, itm, blO, cI, cGtI, cLeI, cGeI, cIs, isL, isDi, putItem, fDic, callF, andF, orF, notF, ifxF, chainF, neSlot, small_nat (m := m) (by omega)]) (fun _ => rfl) rfl]
  suffices hg : ∀ (ds : List Nat) (j : Nat) (x : Option (D × Nat)), j + ds.length ≤ m → ∃ x', forGo (nameG 4) (seqF (setF 3 (callF false 1 F_woven_in (fCons (fVar 3) (fCons (fVar 0) (fCons (fVar 1) fNil)))))
    (seqF (ifF (f2 (fun a b => blO (cGtI a b)) (fN (Dt.g1 hMax) (fCons c_power_of1 fNil)) (fVal (.int 100))) (seqF nevF
    nopF) nopF)
    nopF)) fuel (ds.map fun k : Nat => D.int (0 + (k : Int))) [some (f.d, 0), some (tupC P, 0), some (.int m, 0), some (.lst (cds (pw f P j)), 1), x, none] = some (.nx [some (f.d, 0), some (tupC P, 0), some (.int m, 0), some (.lst (cds (pw f P (j + ds.length))), 1), x', none]) by
    have := hg (List.range m) 0 none (by simp)
    rw [Nat.zero_add, List.length_range] at this
    exact this
  intro ds
  induction ds with
  | nil => intro j x _; exact ⟨x, rfl⟩
  | cons d ds ih =>
    intro j x hj
    rw [List.length_cons] at hj
    obtain ⟨x', i⟩ := ih (j + 1) (some (.int (0 + d), 5)) (by omega)
    refine ⟨x', ?_⟩
    rw [List.length_cons, ← Nat.add_assoc, Nat.add_right_comm, ← i]
    have hlj := hl j (by omega)
    have hlj1 := hl (j + 1) (by omega)
    have w := woven_in_eq f P (pw f P j) .l h.frame (by rw [pw_len, ← Nat.pow_succ]; exact Nat.le_trans hlj1 (by omega)) (by rw [pw_len]; omega) (by have := h.sol.len; omega)
    have w0 : F_woven_in [.lst (cds (pw f P j)), f.d, tupC P] = some (.lst (cds (pw f P (j + 1))), .non) := w
    have hne : pw f P (j + 1) ≠ [] := by
      intro e
      have := pw_len f P (j + 1)
      rw [e] at this
      have h0 : P.length ≠ 0 := fun q => h.ne (List.length_eq_zero_iff.mp q)
      have := Nat.pow_pos (n := j + 1) (Nat.pos_of_ne_zero h0)
      simp_all
    have p1 := fun i => power_of1_eq f P (pw f P (j + 1)) m i (by rw [pw_len]; omega)
    have m1 := hMax_cells _ hne
    have m2 : ¬ (100 < mxs (pw f P (j + 1))) := by
      have := mxs_le (pw f P (j + 1)) 100 (by omega) (hb (j + 1) (by omega))
      omega
    simp [nameG, tupG, consG, nilG, oneF, z2F, z3F, enF, r1F, r2F, ctsF, ctF, chkI, Its.get, Ct.get, zip2D, zip3D, enD, wipeD, restD, immSlot, yesF, lcStep, lcGo, forGo, Its.sls, Ct.sls, FB, runB, initE, ioEnd, lvOk, seqF, ifF, nopF, retF, setF, dropF, storeF, par2F, par3F, asgF, nevF, fVar, fVal, fNil, fCons, fTup, fLst, f2, f1, fN, rds, rd, esc, escs, asgR, isEnt, im1, im2, im3, im4, im5, im6, im7, im8, ok1, ok2, ok3, ok4, ok5, ok6, ok7, ok8, gAdd, Dt.gSub, gMul, gFdiv, gMod, gNeg, gPow, gTuple, gList, Dt.g1, hAbs, hInt, hStr, itm, blO, cI, cGtI, cLeI, cGeI, cIs, isL, isDi, putItem, fDic, callF, andF, orF, notF, ifxF, chainF, neSlot, w0, p1, m1, m2]
theorem gTuple_cds (cs : List Cell) : gTuple [.lst (cds cs)] = some (tupC cs, 5) := rfl
theorem po_gen (G G1 G2 : DF) (L : SF) (fuel : Nat) (fd TP : D) (cs : List Cell) (mm pm q : Int) (x : Option (D × Nat)) (i2 : isImm TP = true) (i3 : isImm fd = true) (w2 : G1 [fd, TP] = some (.non, .non)) (w1 : G2 [.int mm, .int 0, .int 200] = some (.bl true, .non)) (e : G [fd, TP, .int mm] = some (.tup [.int pm, .int q], .non)) (g2 : ¬ (128 < pm)) (h2 : L fuel [some (fd, 0), some (TP, 0), some (.int mm, 0), some (.lst (cds [⟨0, 0, 0⟩]), 1), none, none] = some (.nx [some (fd, 0), some (TP, 0), some (.int mm, 0), some (.lst (cds cs), 1), x, none])) : FB false 0 6 (seqF (dropF (callF false 0 G1 (fCons (fVar 0) (fCons (fVar 1) fNil))))
    (seqF (ifF (notF (callF false 0 G2 (fCons (fVar 2) (fCons (fVal (.int 0)) (fCons (fVal (.int 200)) fNil))))) (seqF nevF
    nopF) nopF)
    (seqF (ifF (f2 (fun a b => blO (cGtI a b)) (f2 gIx (callF false 0 G (fCons (fVar 0) (fCons (fVar 1) (fCons (fVar 2) fNil)))) (fVal (.int 0))) (fVal (.int 128))) (seqF nevF
    nopF) nopF)
    (seqF (setF 3 (fLst (fCons (fVal (.tup (List.map D.int [0, 0, 0]))) fNil)))
    (seqF L
    (seqF (retF (fN gTuple (fCons (fVar 3) fNil)))
    nopF)))))) fuel [fd, TP, .int mm] = some (tupC cs, .non) := by
  have g0 : D.tup (List.map D.int [0, 0, 0]) = (Cell.mk 0 0 0).d := rfl
  have g1 : gIx (.tup [.int pm, .int q]) (.int 0) = some (.int pm, 5) := rfl
  have g3 : [(Cell.mk 0 0 0).d] = cds [⟨0, 0, 0⟩] := rfl
  rw [g0]
  simp [lvOk, w1, w2, e, g1, g2, g3, h2, i2, i3, gTuple_cds, FB, runB, initE, ioEnd, lvOk, seqF, ifF, nopF, retF, setF, dropF, storeF, par2F, par3F, asgF, nevF, fVar, fVal, fNil, fCons, fTup, fLst, f2, f1, fN, rds, rd, esc, escs, asgR, isEnt, im1, im2, im3, im4, im5, im6, im7, im8, ok1, ok2, ok3, ok4, ok5, ok6, ok7, ok8, gAdd, Dt.gSub, gMul, gFdiv, gMod, gNeg, gPow, gTuple, gList, Dt.g1, hAbs, hInt, hStr, itm, blO, cI, cGtI, cLeI, cGeI, cIs, isL, isDi, putItem, fDic, callF, andF, orF, notF, ifxF, chainF, neSlot]
  rfl
theorem power_of_eq (f : Cell) (P : List Cell) (m : Nat) (hm : m ≤ 200) (h : Pat f P) (hl : ∀ j, j ≤ m → P.length ^ j ≤ 128) (hb : ∀ j, j ≤ m → ∀ c ∈ pw f P j, mx c ≤ 100) : F_power_of [f.d, tupC P, .int m] = some (tupC (pw f P m), .non) := by
  have hn := nodup_of h.sol.ris
  have e := counts_in_eq f P m (by omega) (by have := h.sol.len; omega) hn
  have hm2 : (m : Int) ≤ 200 := by omega
  have hm3 : (0 : Int) ≤ m := by omega
  have w1 := fits_whole_eq m 0 200
  rw [decide_eq_true hm2, decide_eq_true hm3] at w1
  have g2 : ¬ (128 < (P.length : Int) ^ m) := by
    have := hl m (by omega)
    rw [← Int.natCast_pow]; omega
  obtain ⟨x, h2⟩ := power_loop f P m hm h hl hb 1000000
  exact po_gen F_counts_in F_need_pattern F_fits_whole l_power_of2 1000000 f.d (tupC P) _ m _ _ x rfl rfl (need_pattern_eq f P h) w1 e g2 h2
end P81
set_option Elab.async false
set_option linter.all false
set_option maxRecDepth 100000
set_option autoImplicit false
set_option maxHeartbeats 4000000
namespace P81
open PySem PySem.Spec L2 Dt Lw
def hs (f : Cell) (P : List Cell) : Nat → Cell → Bool
  | 0, c => decide (c = ⟨0, 0, 0⟩)
  | m + 1, c => decide (rst c f ∈ P) && hs f P m (hom c f)
theorem has_loop (f : Cell) (P : List Cell) (m : Nat) (hm : m ≤ 200) (h : inR 1 20 f) (c : Cell) (fuel : Nat) : (hs f P m c = false ∧ ∃ ρ, l_power_has1 fuel [some (f.d, 0), some (tupC P, 0), some (.int m, 0), some (c.d, 0), some (.dic (dset P), 1), none, none, none] = some (.rt (.bl false) 5 ρ)) ∨ ∃ c' x y n, hs f P m c = decide (c' = ⟨0, 0, 0⟩) ∧ l_power_has1 fuel [some (f.d, 0), some (tupC P, 0), some (.int m, 0), some (c.d, 0), some (.dic (dset P), 1), none, none, none] = some (.nx [some (f.d, 0), some (tupC P, 0), some (.int m, 0), some (Cell.d c', n), some (.dic (dset P), 1), x, y, none]) := by
  unfold l_power_has1
  rw [forF_of (it := .rng 0 m) (ρ1 := [some (f.d, 0), some (tupC P, 0), some (.int m, 0), some (c.d, 0), some (.dic (dset P), 1), none, none, none]) (ds := (List.range m).map fun k : Nat => D.int (0 + (k : Int))) (by simp [nameG, tupG, consG, nilG, oneF, z2F, z3F, enF, r1F, r2F, ctsF, ctF, chkI, Its.get, Ct.get, zip2D, zip3D, enD, wipeD, restD, immSlot, yesF, lcStep, lcGo, forGo, Its.sls, Ct.sls, FB, runB, initE, ioEnd, lvOk, seqF, ifF, nopF, retF, setF, dropF, storeF, par2F, par3F, asgF, nevF, fVar, fVal, fNil, fCons, fTup, fLst, f2, f1, fN, rds, rd, esc, escs, asgR, isEnt, im1, im2, im3, im4, im5, im6, im7, im8, ok1, ok2, ok3, ok4, ok5, ok6, ok7, ok8, gAdd, Dt.gSub, gMul, gFdiv, gMod, gNeg, gPow, gTuple, gList, Dt.g1, hAbs, hInt, hStr, itm, blO, cI, cGtI, cLeI, cGeI, cIs, isL, isDi, putItem, fDic, callF, andF, orF, notF, ifxF, chainF, neSlot, small_nat (m := m) (by omega)]) (fun _ => rfl) rfl]
  suffices hg : ∀ (ds : List Nat) (c : Cell) (n : Nat) (x y : Option (D × Nat)), (hs f P ds.length c = false ∧ ∃ ρ, forGo (nameG 5) (seqF (asgF (tupG 2 (consG (nameG 3) (consG (nameG 6) nilG))) (callF false 0 F_home_in (fCons (fVar 3) (fCons (fVar 0) fNil))))
    (seqF (ifF (f2 (fun a b => blO ((cInD a b).map (!·))) (fVar 6) (fVar 4)) (seqF (retF (fVal (.bl false)))
    nopF) nopF)
    nopF)) fuel (ds.map fun k : Nat => D.int (0 + (k : Int))) [some (f.d, 0), some (tupC P, 0), some (.int m, 0), some (c.d, n), some (.dic (dset P), 1), x, y, none] = some (.rt (.bl false) 5 ρ)) ∨ ∃ c' x' y' n', hs f P ds.length c = decide (c' = ⟨0, 0, 0⟩) ∧ forGo (nameG 5) (seqF (asgF (tupG 2 (consG (nameG 3) (consG (nameG 6) nilG))) (callF false 0 F_home_in (fCons (fVar 3) (fCons (fVar 0) fNil))))
    (seqF (ifF (f2 (fun a b => blO ((cInD a b).map (!·))) (fVar 6) (fVar 4)) (seqF (retF (fVal (.bl false)))
    nopF) nopF)
    nopF)) fuel (ds.map fun k : Nat => D.int (0 + (k : Int))) [some (f.d, 0), some (tupC P, 0), some (.int m, 0), some (c.d, n), some (.dic (dset P), 1), x, y, none] = some (.nx [some (f.d, 0), some (tupC P, 0), some (.int m, 0), some (Cell.d c', n'), some (.dic (dset P), 1), x', y', none]) by
    have := hg (List.range m) c 0 none none
    rw [List.length_range] at this
    exact this
  intro ds
  induction ds with
  | nil => intro c n x y; exact .inr ⟨c, x, y, n, rfl, rfl⟩
  | cons d ds ih =>
    intro c n x y
    have hh := home_in_eq c f h
    by_cases q : rst c f ∈ P
    · have e : hs f P (d :: ds).length c = hs f P ds.length (hom c f) := by simp [hs, q]
      rw [e]
      have ih := ih (hom c f) 5 (some (.int (0 + d), 5)) (some ((rst c f).d, 5))
      have st : ∀ r, forGo (nameG 5) (seqF (asgF (tupG 2 (consG (nameG 3) (consG (nameG 6) nilG))) (callF false 0 F_home_in (fCons (fVar 3) (fCons (fVar 0) fNil))))
    (seqF (ifF (f2 (fun a b => blO ((cInD a b).map (!·))) (fVar 6) (fVar 4)) (seqF (retF (fVal (.bl false)))
    nopF) nopF)
    nopF)) fuel (ds.map fun k : Nat => D.int (0 + (k : Int))) [some (f.d, 0), some (tupC P, 0), some (.int m, 0), some ((hom c f).d, 5), some (.dic (dset P), 1), some (.int (0 + d), 5), some ((rst c f).d, 5), none] = r → forGo (nameG 5) (seqF (asgF (tupG 2 (consG (nameG 3) (consG (nameG 6) nilG))) (callF false 0 F_home_in (fCons (fVar 3) (fCons (fVar 0) fNil))))
    (seqF (ifF (f2 (fun a b => blO ((cInD a b).map (!·))) (fVar 6) (fVar 4)) (seqF (retF (fVal (.bl false)))
    nopF) nopF)
    nopF)) fuel ((d :: ds).map fun k : Nat => D.int (0 + (k : Int))) [some (f.d, 0), some (tupC P, 0), some (.int m, 0), some (c.d, n), some (.dic (dset P), 1), x, y, none] = r := by
        intro r hr
        rw [← hr]
        simp [nameG, tupG, consG, nilG, oneF, z2F, z3F, enF, r1F, r2F, ctsF, ctF, chkI, Its.get, Ct.get, zip2D, zip3D, enD, wipeD, restD, immSlot, yesF, lcStep, lcGo, forGo, Its.sls, Ct.sls, FB, runB, initE, ioEnd, lvOk, seqF, ifF, nopF, retF, setF, dropF, storeF, par2F, par3F, asgF, nevF, fVar, fVal, fNil, fCons, fTup, fLst, f2, f1, fN, rds, rd, esc, escs, asgR, isEnt, im1, im2, im3, im4, im5, im6, im7, im8, ok1, ok2, ok3, ok4, ok5, ok6, ok7, ok8, gAdd, Dt.gSub, gMul, gFdiv, gMod, gNeg, gPow, gTuple, gList, Dt.g1, hAbs, hInt, hStr, itm, blO, cI, cGtI, cLeI, cGeI, cIs, isL, isDi, putItem, fDic, callF, andF, orF, notF, ifxF, chainF, neSlot, hh, cIn_dset, q]
      rcases ih with ⟨a, ρ, b⟩ | ⟨c', x', y', n', a, b⟩
      · exact .inl ⟨a, ρ, st _ b⟩
      · exact .inr ⟨c', x', y', n', a, st _ b⟩
    · left
      refine ⟨by simp [hs, q], [some (f.d, 0), some (tupC P, 0), some (.int m, 0), some ((hom c f).d, 5), some (.dic (dset P), 1), some (.int (0 + d), 5), some ((rst c f).d, 5), none], ?_⟩
      simp [nameG, tupG, consG, nilG, oneF, z2F, z3F, enF, r1F, r2F, ctsF, ctF, chkI, Its.get, Ct.get, zip2D, zip3D, enD, wipeD, restD, immSlot, yesF, lcStep, lcGo, forGo, Its.sls, Ct.sls, FB, runB, initE, ioEnd, lvOk, seqF, ifF, nopF, retF, setF, dropF, storeF, par2F, par3F, asgF, nevF, fVar, fVal, fNil, fCons, fTup, fLst, f2, f1, fN, rds, rd, esc, escs, asgR, isEnt, im1, im2, im3, im4, im5, im6, im7, im8, ok1, ok2, ok3, ok4, ok5, ok6, ok7, ok8, gAdd, Dt.gSub, gMul, gFdiv, gMod, gNeg, gPow, gTuple, gList, Dt.g1, hAbs, hInt, hStr, itm, blO, cI, cGtI, cLeI, cGeI, cIs, isL, isDi, putItem, fDic, callF, andF, orF, notF, ifxF, chainF, neSlot, hh, cIn_dset, q]
end P81
set_option Elab.async false
set_option linter.all false
set_option maxRecDepth 100000
set_option autoImplicit false
set_option maxHeartbeats 4000000
namespace P81
open PySem PySem.Spec L2 Dt Lw
theorem cEq_cell (a b : Cell) : cEq a.d b.d = some (decide (a = b)) := by
  unfold cEq
  rw [Cell.toPy, Cell.toPy]
  simp [Cell.eqv, Cell.shaped]
theorem ph_gen (G1 G2 G3 : DF) (L : SF) (C2 C3 : EF) (fuel : Nat) (fd TP : D) (c : Cell) (dd : List (D × D)) (mm : Int) (b : Bool) (i2 : isImm TP = true) (i3 : isImm fd = true) (w2 : G1 [fd, TP] = some (.non, .non)) (w1 : G2 [.int mm, .int 0, .int 200] = some (.bl true, .non)) (w3 : G3 [c.d, .int 3, .int 3] = some (.bl true, .non))
  (e3 : C3 [some (fd, 0), some (TP, 0), some (.int mm, 0), some (c.d, 0), none, none, none, none] = some (.own (.lst [.bl true, .bl true, .bl true]) 1, [some (fd, 0), some (TP, 0), some (.int mm, 0), some (c.d, 0), none, none, none, none]))
  (e2 : C2 [some (fd, 0), some (TP, 0), some (.int mm, 0), some (c.d, 0), none, none, none, none] = some (.own (.dic dd) 1, [some (fd, 0), some (TP, 0), some (.int mm, 0), some (c.d, 0), none, none, none, none]))
  (h2 : (b = false ∧ ∃ ρ, L fuel [some (fd, 0), some (TP, 0), some (.int mm, 0), some (c.d, 0), some (.dic dd, 1), none, none, none] = some (.rt (.bl false) 5 ρ)) ∨ ∃ c' x y n, b = decide (c' = ⟨0, 0, 0⟩) ∧ L fuel [some (fd, 0), some (TP, 0), some (.int mm, 0), some (c.d, 0), some (.dic dd, 1), none, none, none] = some (.nx [some (fd, 0), some (TP, 0), some (.int mm, 0), some (Cell.d c', n), some (.dic dd, 1), x, y, none])) : FB false 0 8 (seqF (dropF (callF false 0 G1 (fCons (fVar 0) (fCons (fVar 1) fNil))))
    (seqF (ifF (notF (callF false 0 G2 (fCons (fVar 2) (fCons (fVal (.int 0)) (fCons (fVal (.int 200)) fNil))))) (seqF nevF
    nopF) nopF)
    (seqF (ifF (orF (notF (callF false 0 G3 (fCons (fVar 3) (fCons (fVal (.int 3)) (fCons (fVal (.int 3)) fNil))))) (notF (fN (g1 hAll) (fCons C3 fNil)))) (seqF nevF
    nopF) nopF)
    (seqF (setF 4 C2)
    (seqF L
    (seqF (retF (f2 (fun a b => blO (cEq a b)) (fVar 3) (fVal (.tup (List.map D.int [0, 0, 0])))))
    nopF)))))) fuel [fd, TP, .int mm, c.d] = some (.bl b, .non) := by
  have g0 : D.tup (List.map D.int [0, 0, 0]) = (Cell.mk 0 0 0).d := rfl
  have g1 : hAll (.lst [.bl true, .bl true, .bl true]) = some (.bl true) := rfl
  rw [g0]
  rcases h2 with ⟨rfl, ρ, h2⟩ | ⟨c', x, y, n, rfl, h2⟩
  · simp [lvOk, w1, w2, w3, e2, e3, g1, h2, i2, i3, FB, runB, initE, ioEnd, lvOk, seqF, ifF, nopF, retF, setF, dropF, storeF, par2F, par3F, asgF, nevF, fVar, fVal, fNil, fCons, fTup, fLst, f2, f1, fN, rds, rd, esc, escs, asgR, isEnt, im1, im2, im3, im4, im5, im6, im7, im8, ok1, ok2, ok3, ok4, ok5, ok6, ok7, ok8, gAdd, Dt.gSub, gMul, gFdiv, gMod, gNeg, gPow, gTuple, gList, Dt.g1, hAbs, hInt, hStr, itm, blO, cI, cGtI, cLeI, cGeI, cIs, isL, isDi, putItem, fDic, callF, andF, orF, notF, ifxF, chainF, neSlot]
  · simp [lvOk, w1, w2, w3, e2, e3, g1, h2, i2, i3, cEq_cell, FB, runB, initE, ioEnd, lvOk, seqF, ifF, nopF, retF, setF, dropF, storeF, par2F, par3F, asgF, nevF, fVar, fVal, fNil, fCons, fTup, fLst, f2, f1, fN, rds, rd, esc, escs, asgR, isEnt, im1, im2, im3, im4, im5, im6, im7, im8, ok1, ok2, ok3, ok4, ok5, ok6, ok7, ok8, gAdd, Dt.gSub, gMul, gFdiv, gMod, gNeg, gPow, gTuple, gList, Dt.g1, hAbs, hInt, hStr, itm, blO, cI, cGtI, cLeI, cGeI, cIs, isL, isDi, putItem, fDic, callF, andF, orF, notF, ifxF, chainF, neSlot]
theorem power_has_eq (f : Cell) (P : List Cell) (m : Nat) (hm : m ≤ 200) (h : Pat f P) (c : Cell) (hc : inR 0 (10 ^ 60) c) : F_power_has [f.d, tupC P, .int m, c.d] = some (.bl (hs f P m c), .non) := by
  have hm2 : (m : Int) ≤ 200 := by omega
  have hm3 : (0 : Int) ≤ m := by omega
  have w1 := fits_whole_eq m 0 200
  rw [decide_eq_true hm2, decide_eq_true hm3] at w1
  have w3 : F_is_tuple_of [c.d, .int 3, .int 3] = some (.bl true, .non) := is_tuple_of_eq [.int c.x, .int c.y, .int c.z] 3 3
  have e2 : c_power_has2 [some (f.d, 0), some (tupC P, 0), some (.int m, 0), some (c.d, 0), none, none, none, none] = some (.own (.dic (dset P)) 1, [some (f.d, 0), some (tupC P, 0), some (.int m, 0), some (c.d, 0), none, none, none, none]) := by
    unfold c_power_has2
    refine dcF_cells (it := .one (.fz (cds P))) (by rfl) (fun _ => rfl) rfl rfl rfl (by have := h.sol.len; omega) (nodup_of h.sol.ris) ?_ rfl
    intro s hs
    exact ⟨[some (f.d, 0), some (tupC P, 0), some (.int m, 0), some (c.d, 0), none, none, some (s.d, 5), none], rfl, rfl, rfl, rfl, rfl, rfl⟩
  have e3 : c_power_has3 [some (f.d, 0), some (tupC P, 0), some (.int m, 0), some (c.d, 0), none, none, none, none] = some (.own (.lst [.bl true, .bl true, .bl true]) 1, [some (f.d, 0), some (tupC P, 0), some (.int m, 0), some (c.d, 0), none, none, none, none]) := by
    obtain ⟨⟨a1, a2⟩, ⟨b1, b2⟩, c1, c2⟩ := hc
    have gp : gPow (.int 10) (.int 60) = some (.int (10 ^ 60), 5) := by rfl
    unfold c_power_has3
    generalize tupC P = TP
    generalize (m : Int) = mm
    generalize (10 ^ 60 : Int) = big at *
    refine (lcF_of (it := .one (.fz [.int c.x, .int c.y, .int c.z])) (ds := [.int c.x, .int c.y, .int c.z]) (ρ1 := [some (f.d, 0), some (TP, 0), some (.int mm, 0), some (c.d, 0), none, none, none, none]) (ys := [.bl true, .bl true, .bl true]) (by rfl) (fun _ => rfl) rfl rfl rfl three (ρ2 := [some (f.d, 0), some (TP, 0), some (.int mm, 0), some (c.d, 0), none, none, none, none]) ?_)
    simp [nameG, tupG, consG, nilG, oneF, z2F, z3F, enF, r1F, r2F, ctsF, ctF, chkI, Its.get, Ct.get, zip2D, zip3D, enD, wipeD, restD, immSlot, yesF, lcStep, lcGo, forGo, Its.sls, Ct.sls, FB, runB, initE, ioEnd, lvOk, seqF, ifF, nopF, retF, setF, dropF, storeF, par2F, par3F, asgF, nevF, fVar, fVal, fNil, fCons, fTup, fLst, f2, f1, fN, rds, rd, esc, escs, asgR, isEnt, im1, im2, im3, im4, im5, im6, im7, im8, ok1, ok2, ok3, ok4, ok5, ok6, ok7, ok8, gAdd, Dt.gSub, gMul, gFdiv, gMod, gNeg, gTuple, gList, Dt.g1, hAbs, hInt, hStr, itm, blO, cI, cGtI, cLeI, cGeI, cIs, isL, isDi, putItem, fDic, callF, andF, orF, notF, ifxF, chainF, neSlot, gp, fits_whole_eq, a1, a2, b1, b2, c1, c2]
  exact ph_gen F_need_pattern F_fits_whole F_is_tuple_of l_power_has1 c_power_has2 c_power_has3 1000000 f.d (tupC P) c (dset P) m _ rfl rfl (need_pattern_eq f P h) w1 w3 e3 e2 (has_loop f P m hm h.frame c 1000000)
end P81
set_option Elab.async false
set_option linter.all false
set_option maxRecDepth 100000
set_option autoImplicit false
set_option maxHeartbeats 4000000
namespace P81
open PySem PySem.Spec L2 Dt Lw
theorem cds_append (a b : List Cell) : cds (a ++ b) = cds a ++ cds b := by simp [cds]
theorem law_woven1_eq (f c s : Cell) (T U V W : Option (D × Nat)) (h : inR 1 20 f) : c_law_woven1 [T, some (f.d, 0), U, V, some (c.d, 5), some (s.d, 5), none, none, none] = some (.own (.lst [.int (c.x * f.x + s.x), .int (c.y * f.y + s.y), .int (c.z * f.z + s.z)]) 1, [T, some (f.d, 0), U, V, some (c.d, 5), some (s.d, 5), none, none, none]) := by
  obtain ⟨⟨a1, a2⟩, ⟨b1, b2⟩, c1, c2⟩ := h
  have x3 : f.x.natAbs < 18446744073709551616 := by omega
  have y3 : f.y.natAbs < 18446744073709551616 := by omega
  have z3 : f.z.natAbs < 18446744073709551616 := by omega
  unfold c_law_woven1
  refine (lcF_of (it := .z3 (.fz [.int c.x, .int c.y, .int c.z]) (.fz [.int f.x, .int f.y, .int f.z]) (.fz [.int s.x, .int s.y, .int s.z])) (ds := zip3D [.int c.x, .int c.y, .int c.z] [.int f.x, .int f.y, .int f.z] [.int s.x, .int s.y, .int s.z]) (ρ1 := [T, some (f.d, 0), U, V, some (c.d, 5), some (s.d, 5), none, none, none]) (ys := [.int (c.x * f.x + s.x), .int (c.y * f.y + s.y), .int (c.z * f.z + s.z)]) (by rfl) (fun _ => rfl) rfl rfl rfl three (ρ2 := [T, some (f.d, 0), U, V, some (c.d, 5), some (s.d, 5), none, none, none]) ?_)
  simp [nameG, tupG, consG, nilG, oneF, z2F, z3F, enF, r1F, r2F, ctsF, ctF, chkI, Its.get, Ct.get, zip2D, zip3D, enD, wipeD, restD, immSlot, yesF, lcStep, lcGo, forGo, Its.sls, Ct.sls, FB, runB, initE, ioEnd, lvOk, seqF, ifF, nopF, retF, setF, dropF, storeF, par2F, par3F, asgF, nevF, fVar, fVal, fNil, fCons, fTup, fLst, f2, f1, fN, rds, rd, esc, escs, asgR, isEnt, im1, im2, im3, im4, im5, im6, im7, im8, ok1, ok2, ok3, ok4, ok5, ok6, ok7, ok8, gAdd, Dt.gSub, gMul, gFdiv, gMod, gNeg, gPow, gIx, gLen, gTuple, gList, Dt.g1, hAbs, hInt, hStr, itm, blO, cI, cGtI, cLeI, cGeI, cIs, isL, isDi, putItem, fDic, callF, andF, orF, notF, ifxF, chainF, neSlot, atI, ixN, x3, y3, z3]
theorem law_woven2_eq (f c : Cell) (P : List Cell) (T V : Option (D × Nat)) (hl : P.length ≤ 1000000) (h : inR 1 20 f) : c_law_woven2 [T, some (f.d, 0), some (tupC P, 0), V, some (c.d, 5), none, none, none, none] = some (.own (.lst (cds (P.map fun s => spt f c s))) 1, [T, some (f.d, 0), some (tupC P, 0), V, some (c.d, 5), none, none, none, none]) := by
  unfold c_law_woven2
  have e : cds (P.map fun s => spt f c s) = P.filterMap (fun s => some (spt f c s).d) := by simp [cds]
  rw [e]
  refine lcF_cells (it := .one (.fz (cds P))) (fun s => some (spt f c s).d) (by rfl) (fun _ => rfl) rfl rfl rfl hl ?_ rfl
  intro s hs
  simp [nameG, tupG, consG, nilG, oneF, z2F, z3F, enF, r1F, r2F, ctsF, ctF, chkI, Its.get, Ct.get, zip2D, zip3D, enD, wipeD, restD, immSlot, yesF, lcStep, lcGo, forGo, Its.sls, Ct.sls, FB, runB, initE, ioEnd, lvOk, seqF, ifF, nopF, retF, setF, dropF, storeF, par2F, par3F, asgF, nevF, fVar, fVal, fNil, fCons, fTup, fLst, f2, f1, fN, rds, rd, esc, escs, asgR, isEnt, im1, im2, im3, im4, im5, im6, im7, im8, ok1, ok2, ok3, ok4, ok5, ok6, ok7, ok8, gAdd, Dt.gSub, gMul, gFdiv, gMod, gNeg, gPow, gTuple, gList, Dt.g1, hAbs, hInt, hStr, itm, blO, cI, cGtI, cLeI, cGeI, cIs, isL, isDi, putItem, fDic, callF, andF, orF, notF, ifxF, chainF, neSlot, law_woven1_eq f c s _ _ _ none h]
  rfl
theorem law_woven_loop (f : Cell) (P cs : List Cell) (hl : cs.length * P.length ≤ 10000) (hl2 : P.length ≤ 10000) (h : inR 1 20 f) (fuel : Nat) : ∃ x, l_law_woven3 fuel [some (tupC cs, 0), some (f.d, 0), some (tupC P, 0), some (.lst [], 1), none, none, none, none, none] = some (.nx [some (tupC cs, 0), some (f.d, 0), some (tupC P, 0), some (.lst (cds (raw f P cs)), 1), x, none, none, none, none]) := by
  unfold l_law_woven3
  rw [forF_of (it := .one (.fz (cds cs))) (ρ1 := [some (tupC cs, 0), some (f.d, 0), some (tupC P, 0), some (.lst [], 1), none, none, none, none, none]) (ds := cds cs) (by rfl) (fun _ => rfl) rfl]
  generalize some (tupC cs, 0) = T
  suffices hg : ∀ (Q A : List Cell) (x : Option (D × Nat)), A.length + Q.length * P.length ≤ 10000 → ∃ x', forGo (nameG 4) (seqF (setF 3 (f2 gAdd (fVar 3) c_law_woven2)) nopF) fuel (cds Q) [T, some (f.d, 0), some (tupC P, 0), some (.lst (cds A), 1), x, none, none, none, none] = some (.nx [T, some (f.d, 0), some (tupC P, 0), some (.lst (cds (A ++ raw f P Q)), 1), x', none, none, none, none]) by
    exact hg cs [] none (by simpa using hl)
  intro Q
  induction Q with
  | nil => intro A x _; exact ⟨x, by simp [raw, cds, forGo]⟩
  | cons c Q ih =>
    intro A x ha
    simp only [List.length_cons, Nat.add_mul, Nat.one_mul] at ha
    obtain ⟨x', i⟩ := ih (A ++ P.map fun s => spt f c s) (some (c.d, 5)) (by rw [List.length_append, List.length_map]; omega)
    refine ⟨x', ?_⟩
    have e : cds (c :: Q) = c.d :: cds Q := rfl
    have e2 : A ++ raw f P (c :: Q) = (A ++ P.map fun s => spt f c s) ++ raw f P Q := by simp [raw]
    rw [e, e2, ← i]
    have w := law_woven2_eq f c P T (some (.lst (cds A), 1)) (by omega) h
    have ll : (cds A).length + (cds (P.map fun s => spt f c s)).length ≤ LIM := le_lim (by rw [cds_len, cds_len, List.length_map]; omega)
    simp [nameG, tupG, consG, nilG, oneF, z2F, z3F, enF, r1F, r2F, ctsF, ctF, chkI, Its.get, Ct.get, zip2D, zip3D, enD, wipeD, restD, immSlot, yesF, lcStep, lcGo, forGo, Its.sls, Ct.sls, FB, runB, initE, ioEnd, lvOk, seqF, ifF, nopF, retF, setF, dropF, storeF, par2F, par3F, asgF, nevF, fVar, fVal, fNil, fCons, fTup, fLst, f2, f1, fN, rds, rd, esc, escs, asgR, isEnt, im1, im2, im3, im4, im5, im6, im7, im8, ok1, ok2, ok3, ok4, ok5, ok6, ok7, ok8, gAdd, Dt.gSub, gMul, gFdiv, gMod, gNeg, gPow, gTuple, gList, Dt.g1, hAbs, hInt, hStr, itm, blO, cI, cGtI, cLeI, cGeI, cIs, isL, isDi, putItem, fDic, callF, andF, orF, notF, ifxF, chainF, neSlot, w, ll, cds_append]
theorem lw_gen (L : SF) (fuel : Nat) (fd TP TC : D) (cs : List Cell) (x : Option (D × Nat)) (hl : cs.length ≤ 10000) (h2 : L fuel [some (TC, 0), some (fd, 0), some (TP, 0), some (.lst [], 1), none, none, none, none, none] = some (.nx [some (TC, 0), some (fd, 0), some (TP, 0), some (.lst (cds cs), 1), x, none, none, none, none])) : FB false 0 9 (seqF (setF 3 (fLst fNil))
    (seqF L
    (seqF (retF (fN gTuple (fCons (fN gSorted (fCons (fVar 3) fNil)) fNil)))
    nopF))) fuel [TC, fd, TP] = some (tupC (srt cs), .non) := by
  have hs := gSorted_cells (cs := cs) (le_lim (by omega))
  simp [lvOk, h2, hs, gTuple_cds, FB, runB, initE, ioEnd, lvOk, seqF, ifF, nopF, retF, setF, dropF, storeF, par2F, par3F, asgF, nevF, fVar, fVal, fNil, fCons, fTup, fLst, f2, f1, fN, rds, rd, esc, escs, asgR, isEnt, im1, im2, im3, im4, im5, im6, im7, im8, ok1, ok2, ok3, ok4, ok5, ok6, ok7, ok8, gAdd, Dt.gSub, gMul, gFdiv, gMod, gNeg, gPow, gTuple, gList, Dt.g1, hAbs, hInt, hStr, itm, blO, cI, cGtI, cLeI, cGeI, cIs, isL, isDi, putItem, fDic, callF, andF, orF, notF, ifxF, chainF, neSlot]
  rfl
theorem law_woven_eq (f : Cell) (P cs : List Cell) (hl : cs.length * P.length ≤ 10000) (hl2 : P.length ≤ 10000) (h : inR 1 20 f) : F_law_woven [tupC cs, f.d, tupC P] = some (tupC (wvn f P cs), .non) := by
  obtain ⟨x, h2⟩ := law_woven_loop f P cs hl hl2 h 1000000
  exact lw_gen l_law_woven3 1000000 f.d (tupC P) (tupC cs) (raw f P cs) x (by rw [raw_len]; omega) h2
end P81
set_option Elab.async false
set_option linter.all false
set_option maxRecDepth 100000
set_option autoImplicit false
set_option maxHeartbeats 4000000
namespace P81
open PySem PySem.Spec L2 Dt Lw
theorem fmod_rng (a m : Int) (hm : 0 < m) : 0 ≤ a.fmod m ∧ a.fmod m < m := ⟨Int.fmod_nonneg_of_pos _ hm, Int.fmod_lt_of_pos _ hm⟩
theorem roll_neg (a b m : Int) (h : ¬ 0 < a) (hm : m ≠ 0) (q : Int) (hq : (b * 35409 + 7433).fmod 2147483423 = q) (hq2 : q.natAbs < 18446744073709551616) : F_law_roll [.lst [.int a, .int b], .int m] = some (.int ((((q * (q + 4513)).fmod 2147483587).fdiv 1907).fmod m), .lst [.int a, .int q]) := by
  simp [F_law_roll, fb_law_roll, h, hm, hq, hq2, FB, runB, initE, ioEnd, lvOk, seqF, ifF, nopF, retF, setF, dropF, storeF, par2F, par3F, asgF, nevF, fVar, fVal, fNil, fCons, fTup, fLst, f2, f1, fN, rds, rd, esc, escs, asgR, isEnt, im1, im2, im3, im4, im5, im6, im7, im8, ok1, ok2, ok3, ok4, ok5, ok6, ok7, ok8, gAdd, Dt.gSub, gMul, gFdiv, gMod, gNeg, gPow, gIx, gLen, gTuple, gList, Dt.g1, hAbs, hInt, hStr, itm, blO, cI, cGtI, cLeI, cGeI, cIs, isL, isDi, putItem, fDic, callF, andF, orF, notF, ifxF, chainF, neSlot, atI, ixN]
theorem roll_ok (a b m : Int) (hm : 0 < m) (hm2 : m < 1073741824) : ∃ r a' b', F_law_roll [.lst [.int a, .int b], .int m] = some (.int r, .lst [.int a', .int b']) ∧ 0 ≤ r ∧ r < m := by
  by_cases h : 0 < a
  · have := fmod_rng a m hm
    exact ⟨_, _, _, roll_pos a b m h (by omega) (by omega), this.1, this.2⟩
  · have hq := fmod_rng (b * 35409 + 7433) 2147483423 (by decide)
    have := fmod_rng ((((b * 35409 + 7433).fmod 2147483423 * ((b * 35409 + 7433).fmod 2147483423 + 4513)).fmod 2147483587).fdiv 1907) m hm
    exact ⟨_, _, _, roll_neg a b m h (by omega) _ rfl (by omega), this.1, this.2⟩
end P81
set_option Elab.async false
set_option linter.all false
set_option maxRecDepth 100000
set_option autoImplicit false
set_option maxHeartbeats 4000000
namespace P81
open PySem PySem.Spec L2 Dt Lw
theorem ix_cells {X : D} (cs : List Cell) (hX : Cls cs X) (r : Int) (h0 : 0 ≤ r) (h1 : r < cs.length) : ∃ c ∈ cs, gIx X (.int r) = some (c.d, 5) := by
  have h2 : r.toNat < cs.length := by omega
  have h3 : r < ((cds cs).length : Int) := by rw [cds_len]; exact h1
  refine ⟨cs[r.toNat], List.getElem_mem h2, ?_⟩
  have e : (cds cs)[r.toNat]? = some cs[r.toNat].d := by simp [cds, h2]
  have h4 : r.toNat < (cds cs).length := by rw [cds_len]; exact h2
  have e5 : (cds cs)[r.toNat] = cs[r.toNat].d := by simp [cds]
  cases hX <;> simp [gIx, atI, ixN, h0, h3, itm, e5, im6]
theorem ls_gen (G : DF) (fuel : Nat) (X : D) (n r a b a' b' : Int) (c : Cell) (cs : List Cell) (hX : Cls cs X) (iX : gLen [X] = some (.int n, 5)) (e : G [.lst [.int a, .int b], .int n] = some (.int r, .lst [.int a', .int b'])) (hx : gIx X (.int r) = some (c.d, 5)) : FB true 0 2 (seqF (retF (f2 gIx (fVar 1) (callF true 0 G (fCons (fVar 0) (fCons (fN gLen (fCons (fVar 1) fNil)) fNil))))) nopF) fuel [.lst [.int a, .int b], X] = some (c.d, .lst [.int a', .int b']) := by
  cases hX <;> simp [lvOk, iX, e, hx, FB, runB, initE, ioEnd, lvOk, seqF, ifF, nopF, retF, setF, dropF, storeF, par2F, par3F, asgF, nevF, fVar, fVal, fNil, fCons, fTup, fLst, f2, f1, fN, rds, rd, esc, escs, asgR, isEnt, im1, im2, im3, im4, im5, im6, im7, im8, ok1, ok2, ok3, ok4, ok5, ok6, ok7, ok8, gAdd, Dt.gSub, gMul, gFdiv, gMod, gNeg, gPow, gTuple, gList, Dt.g1, hAbs, hInt, hStr, itm, blO, cI, cGtI, cLeI, cGeI, cIs, isL, isDi, putItem, fDic, callF, andF, orF, notF, ifxF, chainF, neSlot]
theorem some_ok {X : D} (a b : Int) (cs : List Cell) (hX : Cls cs X) (hn : cs ≠ []) (hl : cs.length ≤ 1000000) : ∃ c ∈ cs, ∃ a' b', F_law_some [.lst [.int a, .int b], X] = some (c.d, .lst [.int a', .int b']) := by
  have h0 : cs.length ≠ 0 := fun q => hn (List.length_eq_zero_iff.mp q)
  obtain ⟨r, a', b', e, r0, r1⟩ := roll_ok a b cs.length (by omega) (by omega)
  obtain ⟨c, hc, hx⟩ := ix_cells cs hX r r0 r1
  refine ⟨c, hc, a', b', ?_⟩
  exact ls_gen F_law_roll 1000000 X _ r a b a' b' c cs hX (by cases hX <;> simp [gLen, cds_len]) e hx
end P81
set_option Elab.async false
set_option linter.all false
set_option maxRecDepth 100000
set_option autoImplicit false
set_option maxHeartbeats 4000000
namespace P81
open PySem PySem.Spec L2 Dt Lw
theorem im9 (ns : List Int) : isImm (.scr ns) = true := rfl
theorem ok9 (ns : List Int) (n : Nat) : okL (.scr ns) n = true := rfl
theorem cup_ok (ns : List Int) (h : ns.length ≤ 63) : ∃ a b, F_law_cup [.scr ns] = some (.lst [.int a, .int b], .non) := by
  cases ns with
  | nil => exact ⟨_, _, rfl⟩
  | cons n ns =>
    have l1 : ns.length + 1 + 1 ≤ LIM := le_lim (by simp at h; omega)
    have l2 : (0 : Int) < (ns.length : Int) + 1 + 1 := by omega
    by_cases hn : n < 0
    · by_cases hb : (1000000000000000000 : Int) ≤ -n <;> simp [F_law_cup, fb_law_cup, l1, l2, itm, hn, hb, im9, ok9, hAbs, hInt, FB, runB, initE, ioEnd, lvOk, seqF, ifF, nopF, retF, setF, dropF, storeF, par2F, par3F, asgF, nevF, fVar, fVal, fNil, fCons, fTup, fLst, f2, f1, fN, rds, rd, esc, escs, asgR, isEnt, im1, im2, im3, im4, im5, im6, im7, im8, ok1, ok2, ok3, ok4, ok5, ok6, ok7, ok8, gAdd, Dt.gSub, gMul, gFdiv, gMod, gNeg, gPow, gIx, gLen, gTuple, gList, Dt.g1, hAbs, hInt, hStr, itm, blO, cI, cGtI, cLeI, cGeI, cIs, isL, isDi, putItem, fDic, callF, andF, orF, notF, ifxF, chainF, neSlot, atI, ixN]
    · by_cases hb : (1000000000000000000 : Int) ≤ n <;> simp [F_law_cup, fb_law_cup, l1, l2, itm, hn, hb, im9, ok9, hAbs, hInt, FB, runB, initE, ioEnd, lvOk, seqF, ifF, nopF, retF, setF, dropF, storeF, par2F, par3F, asgF, nevF, fVar, fVal, fNil, fCons, fTup, fLst, f2, f1, fN, rds, rd, esc, escs, asgR, isEnt, im1, im2, im3, im4, im5, im6, im7, im8, ok1, ok2, ok3, ok4, ok5, ok6, ok7, ok8, gAdd, Dt.gSub, gMul, gFdiv, gMod, gNeg, gPow, gIx, gLen, gTuple, gList, Dt.g1, hAbs, hInt, hStr, itm, blO, cI, cGtI, cLeI, cGeI, cIs, isL, isDi, putItem, fDic, callF, andF, orF, notF, ifxF, chainF, neSlot, atI, ixN]
end P81
set_option Elab.async false
set_option linter.all false
set_option maxRecDepth 100000
set_option autoImplicit false
set_option maxHeartbeats 4000000
namespace P81
open PySem PySem.Spec L2 Dt Lw
/-- plain data of a depth -/
def Pl : Nat → D → Bool
  | _, .int _ => true
  | _, .bl _ => true
  | k + 1, .tup ds => ds.all (Pl k) && decide (ds.length ≤ 100000)
  | _, _ => false
theorem cEqb (a b : Bool) : cEq (.bl a) (.bl b) = some (decide (a = b)) := by cases a <;> cases b <;> rfl
theorem cEq_nil : cEq (.lst []) (.lst []) = some true := by rfl
theorem same1_get (ds : List D) (k : Nat) (hk : k < ds.length) : gIx (.tup ds) (rk k) = some (itm ds[k]) := by
  have : (k : Int) < ds.length := by omega
  simp [gIx, atI, ixN, rk, this, hk]
theorem same1_step (Fr : DF) (T : D) (hT : isImm T = true) (ok : okL T 0 = true) (k : Nat) (d : D) (hx : gIx T (rk k) = some (itm d)) (hf : Fr [d, d] = some (.bl true, .non)) : lcStep (nameG 2) (notF (callF false 0 Fr (fCons (f2 gIx (fVar 0) (fVar 2)) (fCons (f2 gIx (fVar 1) (fVar 2)) fNil)))) (fVal (.int 1)) [2] (rk k) [some (T, 0), some (T, 0), none] = some (none, [some (T, 0), some (T, 0), none]) := by
  have hk2 : isImm (rk k) = true := rfl
  have hk3 : okL (rk k) 5 = true := rfl
  have ok5 : okL T 5 = true := by cases T <;> simp_all [isImm, okL]
  generalize rk k = K at *
  simp [nameG, tupG, consG, nilG, oneF, z2F, z3F, enF, r1F, r2F, ctsF, ctF, chkI, Its.get, Ct.get, zip2D, zip3D, enD, wipeD, restD, immSlot, yesF, lcStep, lcGo, forGo, Its.sls, Ct.sls, FB, runB, initE, ioEnd, lvOk, seqF, ifF, nopF, retF, setF, dropF, storeF, par2F, par3F, asgF, nevF, fVar, fVal, fNil, fCons, fTup, fLst, f2, f1, fN, rds, rd, esc, escs, asgR, isEnt, im1, im2, im3, im4, im5, im6, im7, im8, ok1, ok2, ok3, ok4, ok5, ok6, ok7, ok8, gAdd, Dt.gSub, gMul, gFdiv, gMod, gNeg, gPow, gTuple, gList, Dt.g1, hAbs, hInt, hStr, itm, blO, cI, cGtI, cLeI, cGeI, cIs, isL, isDi, putItem, fDic, callF, andF, orF, notF, ifxF, chainF, neSlot, hx, hf, hk2, hk3, hT, ok, ok5]
theorem same1_it (T : D) (n : Nat) (hn : n ≤ 100000) (hT : isImm T = true) (ok : okL T 5 = true) (gl : gLen [T] = some (.int n, 5)) : r1F (fCons (fN gLen (fCons (fVar 1) fNil)) fNil) [some (T, 0), some (T, 0), none] = some (.rng 0 n, [some (T, 0), some (T, 0), none]) := by
  have h2 := r1_of (fs := fCons (fN gLen (fCons (fVar 1) fNil)) fNil) (ρ := [some (T, 0), some (T, 0), none]) (ρ1 := [some (T, 0), some (T, 0), none]) (r := .own (.int n) 5) (m := n) (by simp [FB, runB, initE, ioEnd, lvOk, seqF, ifF, nopF, retF, setF, dropF, storeF, par2F, par3F, asgF, nevF, fVar, fVal, fNil, fCons, fTup, fLst, f2, f1, fN, rds, rd, esc, escs, asgR, isEnt, im1, im2, im3, im4, im5, im6, im7, im8, ok1, ok2, ok3, ok4, ok5, ok6, ok7, ok8, gAdd, Dt.gSub, gMul, gFdiv, gMod, gNeg, gPow, gTuple, gList, Dt.g1, hAbs, hInt, hStr, itm, blO, cI, cGtI, cLeI, cGeI, cIs, isL, isDi, putItem, fDic, callF, andF, orF, notF, ifxF, chainF, neSlot, gl, hT, ok]) rfl (small_of (by omega) (by omega))
  exact h2
theorem same1 (Fr : DF) (ds : List D) (hl : ds.length ≤ 100000) (h : ∀ d ∈ ds, Fr [d, d] = some (.bl true, .non)) : c_law_same1 Fr [some (.tup ds, 0), some (.tup ds, 0), none] = some (.own (.lst []) 1, [some (.tup ds, 0), some (.tup ds, 0), none]) := by
  have gl : gLen [.tup ds] = some (.int ds.length, 5) := rfl
  have it := same1_it (.tup ds) ds.length hl rfl rfl gl
  have gt := same1_get ds
  unfold c_law_same1
  have e0 : ([] : List D) = (List.range ds.length).filterMap (fun _ => none) := by simp
  rw [e0]
  have hl2 : (List.range ds.length).length < LIM := by rw [List.length_range]; exact lt_lim (by omega)
  refine lcF_fm rk (List.range ds.length) (fun _ => none) (it := .rng 0 ds.length) it (rng_get _ _) (rng_get _ _) rfl rfl rfl hl2 ?_ rfl
  intro k hk
  have hk : k < ds.length := List.mem_range.mp hk
  exact same1_step Fr (.tup ds) rfl rfl k ds[k] (gt k hk) (h ds[k] (List.getElem_mem hk))
theorem same_rest (Fr : DF) (T : D) (n : Int) (C : EF) (hT : isImm T = true) (ok : okL T 5 = true) (t1 : isiD "tuple" T = some true) (t2 : isiD "list" T = some false) (gl : gLen [T] = some (.int n, 5)) (h1 : C [some (T, 0), some (T, 0), none] = some (.own (.lst []) 1, [some (T, 0), some (T, 0), none])) : FB false 0 3 (seqF (ifF (orF (fIsi "tuple" (fVar 1)) (fIsi "list" (fVar 1))) (seqF (ifF (orF (f2 (fun a b => blO ((fun a b => (cEq a b).map (!·)) a b)) (fIsi "tuple" (fVar 0)) (fIsi "tuple" (fVar 1))) (orF (f2 (fun a b => blO ((fun a b => (cEq a b).map (!·)) a b)) (fIsi "list" (fVar 0)) (fIsi "list" (fVar 1))) (f2 (fun a b => blO ((fun a b => (cEq a b).map (!·)) a b)) (fN gLen (fCons (fVar 0) fNil)) (fN gLen (fCons (fVar 1) fNil))))) (seqF (retF (fVal (.bl false)))
    nopF) nopF)
    (seqF (retF (f2 (fun a b => blO (cEq a b)) C (fLst fNil)))
    nopF)) nopF)
    (seqF (ifF (f2 (fun a b => blO (cIs a b)) (fVar 1) (fVal .non)) (seqF (retF (f2 (fun a b => blO (cIs a b)) (fVar 0) (fVal .non)))
    nopF) nopF)
    (seqF (ifF (fIsi "bool" (fVar 1)) (seqF (retF (ifxF (fVar 1) (f2 (fun a b => blO (cIs a b)) (fVar 0) (fVal (.bl true))) (f2 (fun a b => blO (cIs a b)) (fVar 0) (fVal (.bl false)))))
    nopF) nopF)
    (seqF (ifF (fIsi "int" (fVar 1)) (seqF (retF (andF (fIsi "int" (fVar 0)) (andF (notF (fIsi "bool" (fVar 0))) (f2 (fun a b => blO (cEq a b)) (fN (g1 hInt) (fCons (fVar 0) fNil)) (fVar 1)))))
    nopF) nopF)
    (seqF (retF (andF (fIsi "str" (fVar 0)) (f2 (fun a b => blO (cEq a b)) (fN (g1 hStr) (fCons (fVar 0) fNil)) (fVar 1))))
    nopF))))) 1000000 [T, T] = some (.bl true, .non) := by
  have ci : ∀ i : Int, cEq (.int i) (.int i) = some true := fun i => by rw [cEq_int]; simp
  simp [fIsi, t1, t2, cEqb, h1, gl, hT, ok, ci, cEq_nil, FB, runB, initE, ioEnd, lvOk, seqF, ifF, nopF, retF, setF, dropF, storeF, par2F, par3F, asgF, nevF, fVar, fVal, fNil, fCons, fTup, fLst, f2, f1, fN, rds, rd, esc, escs, asgR, isEnt, im1, im2, im3, im4, im5, im6, im7, im8, ok1, ok2, ok3, ok4, ok5, ok6, ok7, ok8, gAdd, Dt.gSub, gMul, gFdiv, gMod, gNeg, gPow, gTuple, gList, Dt.g1, hAbs, hInt, hStr, itm, blO, cI, cGtI, cLeI, cGeI, cIs, isL, isDi, putItem, fDic, callF, andF, orF, notF, ifxF, chainF, neSlot]
theorem same_tup (Fr : DF) (ds : List D) (hl : ds.length ≤ 100000) (h : ∀ d ∈ ds, Fr [d, d] = some (.bl true, .non)) : FB false 0 3 (fb_law_same Fr) 1000000 [.tup ds, .tup ds] = some (.bl true, .non) :=
  same_rest Fr (.tup ds) ds.length (c_law_same1 Fr) rfl rfl (isi_tuple ds) (isi_list_tup ds) rfl (same1 Fr ds hl h)
theorem same_int (Fr : DF) (i : Int) : FB false 0 3 (fb_law_same Fr) 1000000 [.int i, .int i] = some (.bl true, .non) := by
  have ci : ∀ i : Int, cEq (.int i) (.int i) = some true := fun i => by rw [cEq_int]; simp
  simp [fb_law_same, fIsi, isi_tuple_int, isi_list_int, isi_bool_int, isi_int, ci, FB, runB, initE, ioEnd, lvOk, seqF, ifF, nopF, retF, setF, dropF, storeF, par2F, par3F, asgF, nevF, fVar, fVal, fNil, fCons, fTup, fLst, f2, f1, fN, rds, rd, esc, escs, asgR, isEnt, im1, im2, im3, im4, im5, im6, im7, im8, ok1, ok2, ok3, ok4, ok5, ok6, ok7, ok8, gAdd, Dt.gSub, gMul, gFdiv, gMod, gNeg, gPow, gTuple, gList, Dt.g1, hAbs, hInt, hStr, itm, blO, cI, cGtI, cLeI, cGeI, cIs, isL, isDi, putItem, fDic, callF, andF, orF, notF, ifxF, chainF, neSlot]
theorem same_bl (Fr : DF) (b : Bool) : FB false 0 3 (fb_law_same Fr) 1000000 [.bl b, .bl b] = some (.bl true, .non) := by
  cases b <;> rfl
theorem same_n : ∀ (k : Nat) (d : D), Pl k d = true → Fn_law_same (k + 1) [d, d] = some (.bl true, .non)
  | k, .int i, _ => same_int _ i
  | k, .bl b, _ => same_bl _ b
  | k + 1, .tup ds, h => by
    simp only [Pl, Bool.and_eq_true, List.all_eq_true, decide_eq_true_eq] at h
    exact same_tup _ ds h.2 fun d hd => same_n k d (h.1 d hd)
  | 0, .tup ds, h => by simp [Pl] at h
  | k, .non, h | k, .str _, h | k, .lst _, h | k, .dic _, h | k, .set _, h | k, .obj _, h | k, .scr _, h => by cases k <;> simp [Pl] at h
theorem Pl_mono : ∀ (k : Nat) (d : D), Pl k d = true → Pl (k + 1) d = true
  | k, .int i, _ => by cases k <;> rfl
  | k, .bl b, _ => by cases k <;> rfl
  | k + 1, .tup ds, h => by
    simp only [Pl, Bool.and_eq_true, List.all_eq_true, decide_eq_true_eq] at h ⊢
    exact ⟨fun d hd => Pl_mono k d (h.1 d hd), h.2⟩
  | 0, .tup ds, h => by simp [Pl] at h
  | k, .non, h | k, .str _, h | k, .lst _, h | k, .dic _, h | k, .set _, h | k, .obj _, h | k, .scr _, h => by cases k <;> simp [Pl] at h
theorem same_ok (d : D) (h : Pl 7 d = true) : F_law_same [d, d] = some (.bl true, .non) := same_n 7 d h
theorem Pl_cell (k : Nat) (c : Cell) : Pl (k + 1) c.d = true := by cases k <;> rfl
theorem Pl_cells (k : Nat) (cs : List Cell) (h : cs.length ≤ 100000) : Pl (k + 2) (tupC cs) = true := by
  simp only [tupC, Pl, Bool.and_eq_true, List.all_eq_true, decide_eq_true_eq, cds_len]
  refine ⟨fun d hd => ?_, h⟩
  obtain ⟨c, _, rfl⟩ := cds_mem hd
  exact Pl_cell k c
def bsd (c : Cell) : List Cell := [⟨c.x + 1, c.y, c.z⟩, ⟨c.x - 1, c.y, c.z⟩, ⟨c.x, c.y + 1, c.z⟩, ⟨c.x, c.y - 1, c.z⟩, ⟨c.x, c.y, c.z + 1⟩, ⟨c.x, c.y, c.z - 1⟩]
theorem beside_eq (c : Cell) : F_law_beside [c.d] = some (.lst (cds (bsd c)), .non) := by
  kernel_rfl
end P81
set_option Elab.async false
set_option linter.all false
set_option maxRecDepth 100000
set_option autoImplicit false
set_option maxHeartbeats 4000000
namespace P81
open PySem PySem.Spec L2 Dt Lw
theorem rk_eq (k : Nat) : rk k = .int k := by unfold rk; rw [Int.zero_add]
def row (q r : Int) (n : Nat) : List Cell := (List.range n).map fun s : Nat => ⟨q, r, (s : Int)⟩
def spotsR (q : Int) (m n : Nat) : List Cell := (List.range m).flatMap fun r : Nat => row q r n
def spots (f : Cell) : List Cell := (List.range f.x.toNat).flatMap fun q : Nat => spotsR q f.y.toNat f.z.toNat
theorem row_len (q r : Int) (n : Nat) : (row q r n).length = n := by simp [row]
theorem fm_some {α β : Type} (l : List α) (f : α → β) : l.filterMap (fun a => some (f a)) = l.map f := by simp
theorem spots1 (f : Cell) (q r : Int) (x : Option (D × Nat)) (h0 : 0 ≤ f.z) (h1 : f.z ≤ 1000) : c_law_spots1 [some (f.d, 0), x, some (.int q, 5), some (.int r, 5), none] = some (.own (.lst (cds (row q r f.z.toNat))) 1, [some (f.d, 0), x, some (.int q, 5), some (.int r, 5), none]) := by
  have e : cds (row q r f.z.toNat) = (List.range f.z.toNat).filterMap (fun k => some (.tup [.int q, .int r, rk k])) := by
    rw [fm_some]; simp only [cds, row, List.map_map]
    exact List.map_congr_left fun k _ => by simp only [Function.comp, Cell.d, rk_eq]
  have it : r1F (fCons (f2 gIx (fVar 0) (fVal (.int 2))) fNil) [some (f.d, 0), x, some (.int q, 5), some (.int r, 5), none] = some (.rng 0 f.z.toNat, [some (f.d, 0), x, some (.int q, 5), some (.int r, 5), none]) := r1_of (r := .own (.int f.z) 5) (m := f.z) (by rfl) rfl (small_of (by omega) (by omega))
  have hl2 : (List.range f.z.toNat).length < LIM := by rw [List.length_range]; exact lt_lim (by omega)
  rw [e]
  unfold c_law_spots1
  refine lcF_fm rk (List.range f.z.toNat) (fun k => some (.tup [.int q, .int r, rk k])) it (rng_get _ _) (rng_get _ _) rfl rfl rfl hl2 ?_ rfl
  intro k hk
  rfl
theorem cds_app (a b : List Cell) : cds (a ++ b) = cds a ++ cds b := cds_append a b
theorem spots2 (f : Cell) (q : Int) (A : List Cell) (x : Option (D × Nat)) (h0 : 0 ≤ f.z) (h1 : f.z ≤ 100) (h2 : 0 ≤ f.y) (h3 : f.y ≤ 100) (hA : A.length ≤ 200000) (fuel : Nat) : ∃ y, l_law_spots2 fuel [some (f.d, 0), some (.lst (cds A), 1), some (.int q, 5), x, none] = some (.nx [some (f.d, 0), some (.lst (cds (A ++ spotsR q f.y.toNat f.z.toNat)), 1), some (.int q, 5), y, none]) := by
  unfold l_law_spots2
  rw [forF_rng (r := .own (.int f.y) 5) (m := f.y) (ρ1 := [some (f.d, 0), some (.lst (cds A), 1), some (.int q, 5), x, none]) (by rfl) rfl (by omega) (by omega)]
  obtain ⟨ρ', h4, y, h5⟩ := forGo_inv (g := nameG 3) (f := b_law_spots2) (fuel := fuel) rk (fun pre ρ => ∃ y, ρ = [some (f.d, 0), some (.lst (cds (A ++ pre.flatMap fun r : Nat => row q r f.z.toNat)), 1), some (.int q, 5), y, none]) (List.range f.y.toNat) (fun pre k post ρ e ⟨y, hy⟩ => by
    subst hy
    refine ⟨[some (f.d, 0), some (.lst (cds (A ++ pre.flatMap fun r : Nat => row q r f.z.toNat)), 1), some (.int q, 5), some (rk k, 5), none], [some (f.d, 0), some (.lst (cds (A ++ (pre ++ [k]).flatMap fun r : Nat => row q r f.z.toNat)), 1), some (.int q, 5), some (rk k, 5), none], rfl, ?_, _, rfl⟩
    have c := spots1 f q k (some (.lst (cds (A ++ pre.flatMap fun r : Nat => row q r f.z.toNat)), 1)) h0 (by omega)
    have hp : pre.length ≤ 100 := by
      have := congrArg List.length e
      simp only [List.length_range, List.length_append, List.length_cons] at this
      omega
    have hl : ∀ pre : List Nat, (pre.flatMap fun r : Nat => row q r f.z.toNat).length ≤ pre.length * 100 := by
      intro pre
      induction pre with
      | nil => exact Nat.le_refl _
      | cons a l ih => simp only [List.flatMap_cons, List.length_append, row_len, List.length_cons]; omega
    have hl1 := hl pre
    have hg : (cds (A ++ pre.flatMap fun r : Nat => row q r f.z.toNat)).length + (cds (row q k f.z.toNat)).length ≤ LIM := le_lim (by rw [cds_len, cds_len, row_len, List.length_append]; omega)
    have e2 : A ++ ((pre ++ [k]).flatMap fun r : Nat => row q r f.z.toNat) = (A ++ pre.flatMap fun r : Nat => row q r f.z.toNat) ++ row q k f.z.toNat := by simp
    rw [e2, cds_app (A ++ pre.flatMap fun r : Nat => row q r f.z.toNat)]
    rw [rk_eq]
    generalize cds (A ++ pre.flatMap fun r : Nat => row q r f.z.toNat) = B at *
    generalize cds (row q k f.z.toNat) = C at *
    generalize (k : Int) = kk at *
    simp [b_law_spots2, c, hg, FB, runB, initE, ioEnd, lvOk, seqF, ifF, nopF, retF, setF, dropF, storeF, par2F, par3F, asgF, nevF, fVar, fVal, fNil, fCons, fTup, fLst, f2, f1, fN, rds, rd, esc, escs, asgR, isEnt, im1, im2, im3, im4, im5, im6, im7, im8, ok1, ok2, ok3, ok4, ok5, ok6, ok7, ok8, gAdd, Dt.gSub, gMul, gFdiv, gMod, gNeg, gPow, gTuple, gList, Dt.g1, hAbs, hInt, hStr, itm, blO, cI, cGtI, cLeI, cGeI, cIs, isL, isDi, putItem, fDic, callF, andF, orF, notF, ifxF, chainF, neSlot]) [some (f.d, 0), some (.lst (cds A), 1), some (.int q, 5), x, none] ⟨x, by simp⟩
  refine ⟨y, ?_⟩
  rw [h4, h5]
  rfl
theorem spotsR_len (q : Int) (m n : Nat) : (spotsR q m n).length = m * n := by
  unfold spotsR
  induction m with
  | zero => simp
  | succ m ih => rw [List.range_succ, List.flatMap_append, List.length_append, ih]; simp [row_len, Nat.succ_mul]
theorem spots_eq (f : Cell) (h0 : 0 ≤ f.z) (h1 : f.z ≤ 20) (h2 : 0 ≤ f.y) (h3 : f.y ≤ 20) (h4 : 0 ≤ f.x) (h5 : f.x ≤ 20) : F_law_spots [f.d] = some (.lst (cds (spots f)), .non) := by
  have L : ∀ fuel, ∃ x y, l_law_spots3 fuel [some (f.d, 0), some (.lst [], 1), none, none, none] = some (.nx [some (f.d, 0), some (.lst (cds (spots f)), 1), x, y, none]) := by
    intro fuel
    unfold l_law_spots3
    rw [forF_rng (r := .own (.int f.x) 5) (m := f.x) (ρ1 := [some (f.d, 0), some (.lst [], 1), none, none, none]) (by rfl) rfl (by omega) (by omega)]
    obtain ⟨ρ', h4, x, y, h5⟩ := forGo_inv (g := nameG 2) (f := b_law_spots3) (fuel := fuel) rk (fun pre ρ => ∃ x y, ρ = [some (f.d, 0), some (.lst (cds (pre.flatMap fun q : Nat => spotsR q f.y.toNat f.z.toNat)), 1), x, y, none]) (List.range f.x.toNat) (fun pre k post ρ e ⟨x, y, hy⟩ => by
      subst hy
      have hp : pre.length ≤ 20 := by
        have := congrArg List.length e
        simp only [List.length_range, List.length_append, List.length_cons] at this
        omega
      have hm : f.y.toNat * f.z.toNat ≤ 400 := Nat.le_trans (Nat.mul_le_mul (show f.y.toNat ≤ 20 by omega) (show f.z.toNat ≤ 20 by omega)) (by decide)
      have hl : ∀ pre : List Nat, (pre.flatMap fun q : Nat => spotsR q f.y.toNat f.z.toNat).length ≤ pre.length * 400 := by
        intro pre
        induction pre with
        | nil => exact Nat.le_refl _
        | cons a l ih => simp only [List.flatMap_cons, List.length_append, spotsR_len, List.length_cons]; omega
      have hl1 := hl pre
      obtain ⟨y', c⟩ := spots2 f k (pre.flatMap fun q : Nat => spotsR q f.y.toNat f.z.toNat) y h0 (by omega) h2 (by omega) (by omega) fuel
      refine ⟨[some (f.d, 0), some (.lst (cds (pre.flatMap fun q : Nat => spotsR q f.y.toNat f.z.toNat)), 1), some (rk k, 5), y, none], [some (f.d, 0), some (.lst (cds ((pre ++ [k]).flatMap fun q : Nat => spotsR q f.y.toNat f.z.toNat)), 1), some (rk k, 5), y', none], rfl, ?_, _, _, rfl⟩
      have e2 : ((pre ++ [k]).flatMap fun q : Nat => spotsR q f.y.toNat f.z.toNat) = (pre.flatMap fun q : Nat => spotsR q f.y.toNat f.z.toNat) ++ spotsR k f.y.toNat f.z.toNat := by simp
      rw [e2, rk_eq]
      exact seq_nx c rfl) [some (f.d, 0), some (.lst [], 1), none, none, none] ⟨none, none, rfl⟩
    refine ⟨x, y, ?_⟩
    rw [h4, h5]
    rfl
  obtain ⟨x, y, L⟩ := L 1000000
  exact FB_rt (n := 1) (seq_nx (set_own (d := .lst []) (n := 1) (ρ1 := [some (f.d, 0), none, none, none, none]) rfl rfl) (seq_nx L (seq_rt rfl))) rfl
end P81
set_option Elab.async false
set_option linter.all false
set_option maxRecDepth 100000
set_option autoImplicit false
set_option maxHeartbeats 4000000
namespace P81
open PySem PySem.Spec L2 Dt Lw
abbrev cup (a b : Int) : D := .lst [.int a, .int b]
theorem gSorted_dset {cs : List Cell} (h : cs.length ≤ LIM) : gSorted [.dic (dset cs)] = some (.lst (cds (srt cs)), 1) := by
  simp only [gSorted, dset_keys, sortOk_cells h, if_true, sort_cells]
theorem store_dset (cs : List Cell) (c : Cell) (h : cs.length ≤ 1000000) : putItem (.dic (dset cs)) 1 c.d (.bl true) = some (.dic (dset (ins c cs))) := by
  have hk : (D.tup [D.int c.x, D.int c.y, D.int c.z]).key = some c.k := Cell.key c
  have hl2 : (dset cs).length < LIM := lt_lim (by rw [dset, List.length_map]; exact h)
  have hp := put_dset c cs
  simp only [Cell.d] at hp
  simp only [putItem, Cell.d, hk, Cell.k_depth, hl2, and_self, if_true, hp]
theorem mem_spots {f c : Cell} (h : c ∈ spots f) : inP f c := by
  unfold spots at h
  obtain ⟨q, h1, h2⟩ := List.mem_flatMap.mp h
  unfold spotsR at h2
  obtain ⟨r, h3, h4⟩ := List.mem_flatMap.mp h2
  unfold row at h4
  obtain ⟨s, h5, h6⟩ := List.mem_map.mp h4
  have h1 := List.mem_range.mp h1
  have h3 := List.mem_range.mp h3
  have h5 := List.mem_range.mp h5
  subst h6
  unfold inP
  refine ⟨⟨?_, ?_⟩, ⟨?_, ?_⟩, ?_, ?_⟩ <;> simp only <;> omega
theorem spots_mem {f c : Cell} (h : inP f c) : c ∈ spots f := by
  obtain ⟨⟨h1, h2⟩, ⟨h3, h4⟩, h5, h6⟩ := h
  unfold spots
  refine List.mem_flatMap.mpr ⟨c.x.toNat, List.mem_range.mpr (by omega), ?_⟩
  unfold spotsR
  refine List.mem_flatMap.mpr ⟨c.y.toNat, List.mem_range.mpr (by omega), ?_⟩
  unfold row
  refine List.mem_map.mpr ⟨c.z.toNat, List.mem_range.mpr (by omega), ?_⟩
  rw [Cell.eq_iff]
  refine ⟨?_, ?_, ?_⟩ <;> simp only <;> omega
theorem spots_len (f : Cell) : (spots f).length = f.x.toNat * (f.y.toNat * f.z.toNat) := by
  unfold spots
  generalize f.x.toNat = n
  induction n with
  | zero => simp
  | succ m ih => rw [List.range_succ, List.flatMap_append, List.length_append, ih]; simp [spotsR_len, Nat.succ_mul]
theorem pat_body (f : Cell) (S : List Cell) (hS : S ≠ []) (hl : S.length ≤ 1000000) (m : Int) (acc : List Cell) (ha : acc.length ≤ 1000) (a b : Int) (k : Nat) (fuel : Nat) : ∃ c ∈ S, ∃ a' b', b_law_pattern1 fuel [some (cup a b, 1), some (.int m, 0), some (f.d, 5), some (.lst (cds S), 0), some (.dic (dset acc), 1), some (rk k, 5)] = some (.nx [some (cup a' b', 1), some (.int m, 0), some (f.d, 5), some (.lst (cds S), 0), some (.dic (dset (ins c acc)), 1), some (rk k, 5)]) := by
  obtain ⟨c, hc, a', b', e⟩ := some_ok (X := .lst (cds S)) a b S .l hS hl
  refine ⟨c, hc, a', b', ?_⟩
  have p := store_dset acc c (by omega)
  generalize rk k = K at *
  generalize cds S = X at *
  generalize dset acc = Y at *
  generalize dset (ins c acc) = Z at *
  simp [b_law_pattern1, cup, storeF, FB, runB, initE, ioEnd, lvOk, seqF, ifF, nopF, retF, setF, dropF, storeF, par2F, par3F, asgF, nevF, fVar, fVal, fNil, fCons, fTup, fLst, f2, f1, fN, rds, rd, esc, escs, asgR, isEnt, im1, im2, im3, im4, im5, im6, im7, im8, ok1, ok2, ok3, ok4, ok5, ok6, ok7, ok8, gAdd, Dt.gSub, gMul, gFdiv, gMod, gNeg, gPow, gTuple, gList, Dt.g1, hAbs, hInt, hStr, itm, blO, cI, cGtI, cLeI, cGeI, cIs, isL, isDi, putItem, fDic, callF, andF, orF, notF, ifxF, chainF, neSlot, e, p, -putItem]
theorem pattern_ok (a b : Int) (m : Int) (hm : 1 ≤ m) (hm2 : m ≤ 100) : ∃ f P a' b', F_law_pattern [cup a b, .int m] = some (.tup [f.d, tupC P], cup a' b') ∧ inR 1 3 f ∧ Pat f P ∧ P.length ≤ m := by
  obtain ⟨r1, a1, b1, e1, l1, u1⟩ := roll_ok a b 3 (by omega) (by omega)
  obtain ⟨r2, a2, b2, e2, l2, u2⟩ := roll_ok a1 b1 3 (by omega) (by omega)
  obtain ⟨r3, a3, b3, e3, l3, u3⟩ := roll_ok a2 b2 3 (by omega) (by omega)
  obtain ⟨r4, a4, b4, e4, l4, u4⟩ := roll_ok a3 b3 m (by omega) (by omega)
  have hf : ∃ f : Cell, f = ⟨1 + r1, 1 + r2, 1 + r3⟩ := ⟨_, rfl⟩
  obtain ⟨f, hf⟩ := hf
  have fx : f.x = 1 + r1 := by rw [hf]
  have fy : f.y = 1 + r2 := by rw [hf]
  have fz : f.z = 1 + r3 := by rw [hf]
  have s1 := spots_eq f (by omega) (by omega) (by omega) (by omega) (by omega) (by omega)
  have hne : spots f ≠ [] := fun q => by
    have : (⟨0, 0, 0⟩ : Cell) ∈ spots f := spots_mem (by unfold inP; simp only; omega)
    rw [q] at this; cases this
  have hle : (spots f).length ≤ 1000000 := by
    rw [spots_len]
    exact Nat.le_trans (Nat.mul_le_mul (show f.x.toNat ≤ 3 by omega) (Nat.mul_le_mul (show f.y.toNat ≤ 3 by omega) (show f.z.toNat ≤ 3 by omega))) (by decide)
  have L : ∀ fuel, ∃ acc a' b' x, (acc.Nodup ∧ acc ≠ [] ∧ (∀ c ∈ acc, c ∈ spots f) ∧ acc.length ≤ m) ∧ l_law_pattern1 fuel [some (cup a3 b3, 1), some (.int m, 0), some (f.d, 5), some (.lst (cds (spots f)), 0), some (.dic [], 1), none] = some (.nx [some (cup a' b', 1), some (.int m, 0), some (f.d, 5), some (.lst (cds (spots f)), 0), some (.dic (dset acc), 1), x]) := by
    intro fuel
    unfold l_law_pattern1
    have hfs : fCons (f2 gAdd (fVal (.int 1)) (callF true 0 F_law_roll (fCons (fVar 0) (fCons (fVar 1) fNil)))) fNil [some (cup a3 b3, 1), some (.int m, 0), some (f.d, 5), some (.lst (cds (spots f)), 0), some (.dic [], 1), none] = some ([.own (.int (1 + r4)) 5], [some (cup a4 b4, 1), some (.int m, 0), some (f.d, 5), some (.lst (cds (spots f)), 0), some (.dic [], 1), none]) := by
      generalize cds (spots f) = X at *
      simp [cup, e4, FB, runB, initE, ioEnd, lvOk, seqF, ifF, nopF, retF, setF, dropF, storeF, par2F, par3F, asgF, nevF, fVar, fVal, fNil, fCons, fTup, fLst, f2, f1, fN, rds, rd, esc, escs, asgR, isEnt, im1, im2, im3, im4, im5, im6, im7, im8, ok1, ok2, ok3, ok4, ok5, ok6, ok7, ok8, gAdd, Dt.gSub, gMul, gFdiv, gMod, gNeg, gPow, gTuple, gList, Dt.g1, hAbs, hInt, hStr, itm, blO, cI, cGtI, cLeI, cGeI, cIs, isL, isDi, putItem, fDic, callF, andF, orF, notF, ifxF, chainF, neSlot]
    rw [forF_rng (r := .own (.int (1 + r4)) 5) (m := 1 + r4) hfs rfl (by omega) (by omega)]
    obtain ⟨ρ', h4, acc, a', b', x, h5, h6⟩ := forGo_inv (g := nameG 5) (f := b_law_pattern1) (fuel := fuel) rk (fun pre ρ => ∃ acc a' b' x, (acc.Nodup ∧ (pre ≠ [] → acc ≠ []) ∧ (∀ c ∈ acc, c ∈ spots f) ∧ acc.length ≤ pre.length) ∧ ρ = [some (cup a' b', 1), some (.int m, 0), some (f.d, 5), some (.lst (cds (spots f)), 0), some (.dic (dset acc), 1), x]) (List.range (1 + r4).toNat) (fun pre k post ρ e ⟨acc, a', b', x, hi, hy⟩ => by
      subst hy
      have hp : pre.length ≤ 100 := by
        have := congrArg List.length e
        simp only [List.length_range, List.length_append, List.length_cons] at this
        omega
      obtain ⟨c, hc, a'', b'', h⟩ := pat_body f (spots f) hne hle m acc (by omega) a' b' k fuel
      refine ⟨_, _, rfl, h, ins c acc, a'', b'', _, ⟨ins_nodup hi.1, fun _ q => ?_, fun o ho => ?_, ?_⟩, rfl⟩
      · have : c ∈ ins c acc := ins_mem.mpr (.inl rfl)
        rw [q] at this; cases this
      · rcases ins_mem.mp ho with rfl | ho
        · exact hc
        · exact hi.2.2.1 o ho
      · have := ins_len c acc
        have := hi.2.2.2
        simp only [List.length_append, List.length_cons, List.length_nil]; omega) [some (cup a4 b4, 1), some (.int m, 0), some (f.d, 5), some (.lst (cds (spots f)), 0), some (.dic [], 1), none] ⟨[], a4, b4, none, ⟨List.nodup_nil, fun q => absurd rfl q, fun c hc => (by cases hc), Nat.le_refl _⟩, rfl⟩
    refine ⟨acc, a', b', x, ⟨h5.1, h5.2.1 ?_, h5.2.2.1, ?_⟩, by rw [h4, h6]⟩
    · intro q
      have := congrArg List.length q
      simp only [List.length_range, List.length_nil] at this
      omega
    · have := h5.2.2.2
      rw [List.length_range] at this
      omega
  obtain ⟨acc, a', b', x, ⟨i1, i2, i3, i4⟩, L⟩ := L 1000000
  refine ⟨f, srt acc, a', b', ?_, ⟨⟨by omega, by omega⟩, ⟨by omega, by omega⟩, by omega, by omega⟩, ⟨⟨⟨by omega, by omega⟩, ⟨by omega, by omega⟩, by omega, by omega⟩, ⟨?_, fun c hc => ?_, srt_rising i1⟩, ?_, fun c hc => mem_spots (i3 c (srt_mem.mp hc))⟩, ?_⟩
  · have gs := gSorted_dset (cs := acc) (le_lim (by omega))
    have ef : D.tup [D.int (1 + r1), D.int (1 + r2), D.int (1 + r3)] = f.d := by rw [hf]; rfl
    have gt := gTuple_cds (srt acc)
    generalize cds (spots f) = X at *
    generalize dset acc = Y at *
    generalize cds (srt acc) = Z at *
    generalize tupC (srt acc) = Z2 at *
    have im : isImm f.d = true := rfl
    have okf : okL f.d 5 = true := rfl
    have h1 : setF 2 (fTup (fCons (f2 gAdd (fVal (.int 1)) (callF true 0 F_law_roll (fCons (fVar 0) (fCons (fVal (.int 3)) fNil)))) (fCons (f2 gAdd (fVal (.int 1)) (callF true 0 F_law_roll (fCons (fVar 0) (fCons (fVal (.int 3)) fNil)))) (fCons (f2 gAdd (fVal (.int 1)) (callF true 0 F_law_roll (fCons (fVar 0) (fCons (fVal (.int 3)) fNil)))) fNil)))) 1000000 (initE true 6 [cup a b, .int m]) = some (.nx [some (cup a3 b3, 1), some (.int m, 0), some (f.d, 5), none, none, none]) := by
      simp [cup, e1, e2, e3, ef, FB, runB, initE, ioEnd, lvOk, seqF, ifF, nopF, retF, setF, dropF, storeF, par2F, par3F, asgF, nevF, fVar, fVal, fNil, fCons, fTup, fLst, f2, f1, fN, rds, rd, esc, escs, asgR, isEnt, im1, im2, im3, im4, im5, im6, im7, im8, ok1, ok2, ok3, ok4, ok5, ok6, ok7, ok8, gAdd, Dt.gSub, gMul, gFdiv, gMod, gNeg, gPow, gTuple, gList, Dt.g1, hAbs, hInt, hStr, itm, blO, cI, cGtI, cLeI, cGeI, cIs, isL, isDi, putItem, fDic, callF, andF, orF, notF, ifxF, chainF, neSlot]
    have h2 : setF 3 (callF false 0 F_law_spots (fCons (fVar 2) fNil)) 1000000 [some (cup a3 b3, 1), some (.int m, 0), some (f.d, 5), none, none, none] = some (.nx [some (cup a3 b3, 1), some (.int m, 0), some (f.d, 5), some (.lst X, 0), none, none]) := by
      simp [cup, s1, im, FB, runB, initE, ioEnd, lvOk, seqF, ifF, nopF, retF, setF, dropF, storeF, par2F, par3F, asgF, nevF, fVar, fVal, fNil, fCons, fTup, fLst, f2, f1, fN, rds, rd, esc, escs, asgR, isEnt, im1, im2, im3, im4, im5, im6, im7, im8, ok1, ok2, ok3, ok4, ok5, ok6, ok7, ok8, gAdd, Dt.gSub, gMul, gFdiv, gMod, gNeg, gPow, gTuple, gList, Dt.g1, hAbs, hInt, hStr, itm, blO, cI, cGtI, cLeI, cGeI, cIs, isL, isDi, putItem, fDic, callF, andF, orF, notF, ifxF, chainF, neSlot]
    have h3 : retF (fTup (fCons (fVar 2) (fCons (fN gTuple (fCons (fN gSorted (fCons (fVar 4) fNil)) fNil)) fNil))) 1000000 [some (cup a' b', 1), some (.int m, 0), some (f.d, 5), some (.lst X, 0), some (.dic Y, 1), x] = some (.rt (.tup [f.d, Z2]) 5 [some (cup a' b', 1), some (.int m, 0), some (f.d, 5), some (.lst X, 0), some (.dic Y, 1), x]) := by
      simp [cup, gs, gt, im, okf, FB, runB, initE, ioEnd, lvOk, seqF, ifF, nopF, retF, setF, dropF, storeF, par2F, par3F, asgF, nevF, fVar, fVal, fNil, fCons, fTup, fLst, f2, f1, fN, rds, rd, esc, escs, asgR, isEnt, im1, im2, im3, im4, im5, im6, im7, im8, ok1, ok2, ok3, ok4, ok5, ok6, ok7, ok8, gAdd, Dt.gSub, gMul, gFdiv, gMod, gNeg, gPow, gTuple, gList, Dt.g1, hAbs, hInt, hStr, itm, blO, cI, cGtI, cLeI, cGeI, cIs, isL, isDi, putItem, fDic, callF, andF, orF, notF, ifxF, chainF, neSlot, -gTuple]
    exact FBio_rt (seq_nx h1 (seq_nx h2 (seq_nx (set_own (d := .dic []) (n := 1) rfl rfl) (seq_nx L (seq_rt h3))))) rfl rfl
  · rw [srt_len]; omega
  · obtain ⟨⟨h1, h2⟩, ⟨h3, h4⟩, h5, h6⟩ := mem_spots (i3 c (srt_mem.mp hc))
    refine ⟨⟨by omega, by omega⟩, ⟨by omega, by omega⟩, by omega, by omega⟩
  · intro q
    have := congrArg List.length q
    rw [srt_len] at this
    exact i2 (List.length_eq_zero_iff.mp this)
  · rw [srt_len]; exact i4
end P81
set_option Elab.async false
set_option linter.all false
set_option maxRecDepth 100000
set_option autoImplicit false
set_option maxHeartbeats 4000000
namespace P81
open PySem PySem.Spec L2 Dt Lw
def shw1 (cs : List Cell) (c : Cell) : Nat := ((bsd c).filter fun o => !decide (o ∈ cs)).length
def shw (cs : List Cell) : Nat := (cs.map (shw1 cs)).sum
theorem prD_cells : ∀ cs : List Cell, Dt.prD (cs.map fun c => D.tup [c.d, .bl true]) = some (cs.map fun c => (c.k, c.d, .bl true))
  | [] => rfl
  | c :: cs => by
    have ih := prD_cells cs
    have hk : (D.tup [D.int c.x, D.int c.y, D.int c.z]).key = some c.k := Cell.key c
    simp only [List.map_cons, Cell.d, Dt.prD, hk]
    simp only [Cell.d] at ih
    simp only [ih, Cell.k_depth, if_true]
theorem putAll_cells : ∀ (cs acc : List Cell), (acc ++ cs).Nodup → putAll (dset acc) (cs.map fun c => (c.k, c.d, .bl true)) = dset (acc ++ cs)
  | [], acc, _ => by simp [putAll]
  | c :: cs, acc, h => by
    have e1 : acc ++ c :: cs = (acc ++ [c]) ++ cs := by simp
    have hni : c ∉ acc := by
      intro hc
      rw [List.nodup_append] at h
      exact h.2.2 c hc c List.mem_cons_self rfl
    have hi : ins c acc = acc ++ [c] := by simp [ins, hni]
    have hp := put_dset c acc
    rw [hi] at hp
    have ih := putAll_cells cs (acc ++ [c]) (by rw [← e1]; exact h)
    rw [e1, ← ih]
    simp only [putAll, List.map_cons, List.foldl_cons, hp]
theorem gDict_cells (cs : List Cell) (hn : cs.Nodup) (hl : cs.length ≤ 1000000) : gDict [.lst (cs.map fun c => D.tup [c.d, .bl true])] = some (.dic (dset cs), 1) := by
  have hl2 : (cs.map fun c => (c.k, c.d, D.bl true)).length ≤ LIM := le_lim (by rw [List.length_map]; exact hl)
  have := putAll_cells cs [] (by simpa using hn)
  simp only [gDict, prD_cells, hl2, if_true]
  rw [show ([] : List (D × D)) = dset [] from rfl, this, List.nil_append]
theorem shows_eq (cs : List Cell) (hn : cs.Nodup) (hl : cs.length ≤ 1000000) : F_law_shows [tupC cs] = some (.int (shw cs), .non) := by
  have h3 : c_law_shows3 [some (tupC cs, 0), none, none, none, none] = some (.own (.lst (cs.map fun c => D.tup [c.d, .bl true])) 1, [some (tupC cs, 0), none, none, none, none]) := by
    unfold c_law_shows3
    rw [← fm_some]
    refine lcF_fm Cell.d cs (fun c => some (D.tup [c.d, .bl true])) (it := .one (.fz (cds cs))) rfl rfl rfl rfl rfl rfl (lt_lim hl) ?_ rfl
    intro c hc
    rfl
  have h1 : ∀ (c : Cell) (n : Nat), c_law_shows1 [some (tupC cs, 0), some (.dic (dset cs), 0), some (.int n, 5), some (c.d, 5), none] = some (.own (.lst ((bsd c).filterMap fun o => if (!decide (o ∈ cs)) = true then some (.int 1) else none)) 1, [some (tupC cs, 0), some (.dic (dset cs), 0), some (.int n, 5), some (c.d, 5), none]) := by
    intro c n
    unfold c_law_shows1
    have hi : oneF false (callF false 1 F_law_beside (fCons (fVar 3) fNil)) [some (tupC cs, 0), some (.dic (dset cs), 0), some (.int n, 5), some (c.d, 5), none] = some (.one (.fz (cds (bsd c))), [some (tupC cs, 0), some (.dic (dset cs), 0), some (.int n, 5), some (c.d, 5), none]) := by
      have := beside_eq c
      generalize cds (bsd c) = X at *
      generalize tupC cs = T
      generalize dset cs = Y
      generalize (n : Int) = m
      simp [nameG, tupG, consG, nilG, oneF, z2F, z3F, enF, r1F, r2F, ctsF, ctF, chkI, Its.get, Ct.get, zip2D, zip3D, enD, wipeD, restD, immSlot, yesF, lcStep, lcGo, forGo, Its.sls, Ct.sls, FB, runB, initE, ioEnd, lvOk, seqF, ifF, nopF, retF, setF, dropF, storeF, par2F, par3F, asgF, nevF, fVar, fVal, fNil, fCons, fTup, fLst, f2, f1, fN, rds, rd, esc, escs, asgR, isEnt, im1, im2, im3, im4, im5, im6, im7, im8, ok1, ok2, ok3, ok4, ok5, ok6, ok7, ok8, gAdd, Dt.gSub, gMul, gFdiv, gMod, gNeg, gPow, gTuple, gList, Dt.g1, hAbs, hInt, hStr, itm, blO, cI, cGtI, cLeI, cGeI, cIs, isL, isDi, putItem, fDic, callF, andF, orF, notF, ifxF, chainF, neSlot, this]
    refine lcF_fm Cell.d (bsd c) (fun o => if (!decide (o ∈ cs)) = true then some (.int 1) else none) (it := .one (.fz (cds (bsd c)))) hi rfl rfl rfl rfl rfl (lt_lim (by simp [bsd])) ?_ rfl
    intro o ho
    have ci := cIn_dset o cs
    have i2 : isImm o.d = true := rfl
    generalize tupC cs = T
    generalize dset cs = Y at *
    generalize (n : Int) = m
    by_cases q : o ∈ cs
    · simp [nameG, tupG, consG, nilG, oneF, z2F, z3F, enF, r1F, r2F, ctsF, ctF, chkI, Its.get, Ct.get, zip2D, zip3D, enD, wipeD, restD, immSlot, yesF, lcStep, lcGo, forGo, Its.sls, Ct.sls, FB, runB, initE, ioEnd, lvOk, seqF, ifF, nopF, retF, setF, dropF, storeF, par2F, par3F, asgF, nevF, fVar, fVal, fNil, fCons, fTup, fLst, f2, f1, fN, rds, rd, esc, escs, asgR, isEnt, im1, im2, im3, im4, im5, im6, im7, im8, ok1, ok2, ok3, ok4, ok5, ok6, ok7, ok8, gAdd, Dt.gSub, gMul, gFdiv, gMod, gNeg, gPow, gTuple, gList, Dt.g1, hAbs, hInt, hStr, itm, blO, cI, cGtI, cLeI, cGeI, cIs, isL, isDi, putItem, fDic, callF, andF, orF, notF, ifxF, chainF, neSlot, ci, q]
    · simp [nameG, tupG, consG, nilG, oneF, z2F, z3F, enF, r1F, r2F, ctsF, ctF, chkI, Its.get, Ct.get, zip2D, zip3D, enD, wipeD, restD, immSlot, yesF, lcStep, lcGo, forGo, Its.sls, Ct.sls, FB, runB, initE, ioEnd, lvOk, seqF, ifF, nopF, retF, setF, dropF, storeF, par2F, par3F, asgF, nevF, fVar, fVal, fNil, fCons, fTup, fLst, f2, f1, fN, rds, rd, esc, escs, asgR, isEnt, im1, im2, im3, im4, im5, im6, im7, im8, ok1, ok2, ok3, ok4, ok5, ok6, ok7, ok8, gAdd, Dt.gSub, gMul, gFdiv, gMod, gNeg, gPow, gTuple, gList, Dt.g1, hAbs, hInt, hStr, itm, blO, cI, cGtI, cLeI, cGeI, cIs, isL, isDi, putItem, fDic, callF, andF, orF, notF, ifxF, chainF, neSlot, ci, q]
  have L : ∀ fuel, ∃ x, l_law_shows2 fuel [some (tupC cs, 0), some (.dic (dset cs), 0), some (.int 0, 5), none, none] = some (.nx [some (tupC cs, 0), some (.dic (dset cs), 0), some (.int (shw cs : Nat), 5), x, none]) := by
    intro fuel
    unfold l_law_shows2
    rw [forF_map Cell.d cs (it := .one (.fz (cds cs))) (ρ1 := [some (tupC cs, 0), some (.dic (dset cs), 0), some (.int 0, 5), none, none]) rfl (fun _ => rfl) rfl]
    obtain ⟨ρ', h4, x, h5⟩ := forGo_inv (g := nameG 3) (f := b_law_shows2) (fuel := fuel) Cell.d (fun pre ρ => ∃ x, ρ = [some (tupC cs, 0), some (.dic (dset cs), 0), some (.int ((pre.map (shw1 cs)).sum : Nat), 5), x, none]) cs (fun pre c post ρ e ⟨x, hy⟩ => by
      subst hy
      have g := h1 c (pre.map (shw1 cs)).sum
      have gl : gLen [.lst ((bsd c).filterMap fun o => if (!decide (o ∈ cs)) = true then some (.int 1) else none)] = some (.int (shw1 cs c : Nat), 5) := by
        simp only [gLen]
        rw [fm_len (fun o => !decide (o ∈ cs)) (fun _ => D.int 1)]
        rfl
      refine ⟨_, [some (tupC cs, 0), some (.dic (dset cs), 0), some (.int (((pre ++ [c]).map (shw1 cs)).sum : Nat), 5), some (c.d, 5), none], rfl, ?_, _, rfl⟩
      have es : (((pre ++ [c]).map (shw1 cs)).sum : Int) = ((pre.map (shw1 cs)).sum : Nat) + (shw1 cs c : Nat) := by simp
      rw [es]
      generalize ((bsd c).filterMap fun o => if (!decide (o ∈ cs)) = true then some (D.int 1) else none) = X at *
      generalize ((pre.map (shw1 cs)).sum : Int) = A at *
      generalize (shw1 cs c : Int) = B at *
      generalize tupC cs = T at *
      generalize dset cs = Y at *
      simp [b_law_shows2, g, gl, itm, FB, runB, initE, ioEnd, lvOk, seqF, ifF, nopF, retF, setF, dropF, storeF, par2F, par3F, asgF, nevF, fVar, fVal, fNil, fCons, fTup, fLst, f2, f1, fN, rds, rd, esc, escs, asgR, isEnt, im1, im2, im3, im4, im5, im6, im7, im8, ok1, ok2, ok3, ok4, ok5, ok6, ok7, ok8, gAdd, Dt.gSub, gMul, gFdiv, gMod, gNeg, gPow, gTuple, gList, Dt.g1, hAbs, hInt, hStr, itm, blO, cI, cGtI, cLeI, cGeI, cIs, isL, isDi, putItem, fDic, callF, andF, orF, notF, ifxF, chainF, neSlot]) [some (tupC cs, 0), some (.dic (dset cs), 0), some (.int 0, 5), none, none] ⟨none, rfl⟩
    exact ⟨x, by rw [h4, h5]; rfl⟩
  obtain ⟨x, L⟩ := L 1000000
  have gd := gDict_cells cs hn hl
  have h0 : asgF (tupG 2 (consG (nameG 1) (consG (nameG 2) nilG))) (fTup (fCons (fN gDict (fCons c_law_shows3 fNil)) (fCons (fVal (.int 0)) fNil))) 1000000 (initE false 5 [tupC cs]) = some (.nx [some (tupC cs, 0), some (.dic (dset cs), 0), some (.int 0, 5), none, none]) := by
    generalize (cs.map fun c => D.tup [c.d, .bl true]) = X at *
    generalize tupC cs = T at *
    generalize dset cs = Y at *
    generalize c_law_shows3 = C at *
    simp [nameG, tupG, consG, nilG, oneF, z2F, z3F, enF, r1F, r2F, ctsF, ctF, chkI, Its.get, Ct.get, zip2D, zip3D, enD, wipeD, restD, immSlot, yesF, lcStep, lcGo, forGo, Its.sls, Ct.sls, FB, runB, initE, ioEnd, lvOk, seqF, ifF, nopF, retF, setF, dropF, storeF, par2F, par3F, asgF, nevF, fVar, fVal, fNil, fCons, fTup, fLst, f2, f1, fN, rds, rd, esc, escs, asgR, isEnt, im1, im2, im3, im4, im5, im6, im7, im8, ok1, ok2, ok3, ok4, ok5, ok6, ok7, ok8, gAdd, Dt.gSub, gMul, gFdiv, gMod, gNeg, gPow, gTuple, gList, Dt.g1, hAbs, hInt, hStr, itm, blO, cI, cGtI, cLeI, cGeI, cIs, isL, isDi, putItem, fDic, callF, andF, orF, notF, ifxF, chainF, neSlot, h3, gd]
  exact FB_rt (seq_nx h0 (seq_nx L (seq_rt rfl))) rfl
end P81
set_option Elab.async false
set_option linter.all false
set_option maxRecDepth 100000
set_option autoImplicit false
set_option maxHeartbeats 4000000
namespace P81
open PySem PySem.Spec L2 Dt Lw
/-! the mathematics of weaving -/
theorem fdiv_of (a n r : Int) (h0 : 0 ≤ r) (h1 : r < n) : (a * n + r).fdiv n = a := by
  rw [Int.fdiv_eq_ediv_of_nonneg _ (by omega), Int.add_comm, Int.add_mul_ediv_right _ _ (by omega), Int.ediv_eq_zero_of_lt h0 h1]; omega
theorem fdiv_rng (a n : Int) (h : 0 < n) : 0 ≤ a - a.fdiv n * n ∧ a - a.fdiv n * n < n := by
  rw [Int.fdiv_eq_ediv_of_nonneg _ (by omega)]
  have h1 := Int.emod_nonneg a (b := n) (by omega)
  have h2 := Int.emod_lt_of_pos a h
  have h3 := Int.emod_def a n
  rw [Int.mul_comm] at h3
  omega
theorem hom_spt (f c s : Cell) (h : inP f s) : hom (spt f c s) f = c := by
  obtain ⟨⟨h1, h2⟩, ⟨h3, h4⟩, h5, h6⟩ := h
  rw [Cell.eq_iff]
  exact ⟨fdiv_of _ _ _ h1 h2, fdiv_of _ _ _ h3 h4, fdiv_of _ _ _ h5 h6⟩
theorem rst_spt (f c s : Cell) (h : inP f s) : rst (spt f c s) f = s := by
  obtain ⟨⟨h1, h2⟩, ⟨h3, h4⟩, h5, h6⟩ := h
  rw [Cell.eq_iff]
  unfold rst spt
  simp only [fdiv_of _ _ _ h1 h2, fdiv_of _ _ _ h3 h4, fdiv_of _ _ _ h5 h6]
  omega
theorem spt_hom (f c : Cell) : spt f (hom c f) (rst c f) = c := by
  rw [Cell.eq_iff]
  unfold rst spt hom
  simp only
  omega
theorem rst_inP (f c : Cell) (h : inR 1 20 f) : inP f (rst c f) := by
  obtain ⟨⟨h1, h2⟩, ⟨h3, h4⟩, h5, h6⟩ := h
  exact ⟨fdiv_rng _ _ (by omega), fdiv_rng _ _ (by omega), fdiv_rng _ _ (by omega)⟩
theorem mem_raw {f : Cell} {P C : List Cell} (hP : ∀ s ∈ P, inP f s) {c : Cell} : c ∈ raw f P C ↔ hom c f ∈ C ∧ rst c f ∈ P := by
  unfold raw
  rw [List.mem_flatMap]
  constructor
  · rintro ⟨c', h1, h2⟩
    obtain ⟨s, h3, rfl⟩ := List.mem_map.mp h2
    rw [hom_spt f c' s (hP s h3), rst_spt f c' s (hP s h3)]
    exact ⟨h1, h3⟩
  · rintro ⟨h1, h2⟩
    exact ⟨_, h1, List.mem_map.mpr ⟨_, h2, spt_hom f c⟩⟩
theorem mem_wvn {f : Cell} {P C : List Cell} (hP : ∀ s ∈ P, inP f s) {c : Cell} : c ∈ wvn f P C ↔ hom c f ∈ C ∧ rst c f ∈ P := by
  unfold wvn; rw [srt_mem]; exact mem_raw hP
theorem raw_nodup {f : Cell} {P : List Cell} (hP : ∀ s ∈ P, inP f s) (hn : P.Nodup) : ∀ {C : List Cell}, C.Nodup → (raw f P C).Nodup
  | [], _ => List.nodup_nil
  | c :: C, h => by
    have h' := List.nodup_cons.mp h
    have ih := raw_nodup hP hn h'.2
    have e : raw f P (c :: C) = (P.map fun s => spt f c s) ++ raw f P C := by simp [raw]
    rw [e, List.nodup_append]
    refine ⟨?_, ih, ?_⟩
    · have : ∀ (Q : List Cell), (∀ s ∈ Q, inP f s) → Q.Nodup → (Q.map fun s => spt f c s).Nodup := by
        intro Q hQ
        induction Q with
        | nil => intro _; exact List.nodup_nil
        | cons s Q ih =>
          intro hn
          have hn := List.nodup_cons.mp hn
          rw [List.map_cons, List.nodup_cons]
          refine ⟨fun q => ?_, ih (fun s hs => hQ s (List.mem_cons_of_mem _ hs)) hn.2⟩
          obtain ⟨s', h1, h2⟩ := List.mem_map.mp q
          have h3 := congrArg (fun c => rst c f) h2
          simp only [rst_spt f c s' (hQ s' (List.mem_cons_of_mem _ h1)), rst_spt f c s (hQ s List.mem_cons_self)] at h3
          subst h3
          exact hn.1 h1
      exact this P hP hn
    · intro a ha b hb q
      subst q
      obtain ⟨s, h1, rfl⟩ := List.mem_map.mp ha
      have := ((mem_raw hP).mp hb).1
      rw [hom_spt f c s (hP s h1)] at this
      exact h'.1 this
theorem wvn_nodup {f : Cell} {P C : List Cell} (hP : ∀ s ∈ P, inP f s) (hn : P.Nodup) (hC : C.Nodup) : (wvn f P C).Nodup := srt_nodup (raw_nodup hP hn hC)
theorem pw_nodup {f : Cell} {P : List Cell} (hP : ∀ s ∈ P, inP f s) (hn : P.Nodup) : ∀ m, (pw f P m).Nodup
  | 0 => by simp [pw]
  | m + 1 => wvn_nodup hP hn (pw_nodup hP hn m)
theorem hs_eq {f : Cell} {P : List Cell} (hP : ∀ s ∈ P, inP f s) : ∀ (m : Nat) (c : Cell), hs f P m c = decide (c ∈ pw f P m)
  | 0, c => by simp [hs, pw]
  | m + 1, c => by
    rw [hs, hs_eq hP m, pw, Bool.eq_iff_iff]
    simp only [Bool.and_eq_true, decide_eq_true_eq, mem_wvn hP]
    exact And.comm
/-! faces -/
theorem pls_lt {f c s : Cell} {w : Nat} (hw : w = 0 ∨ w = 1 ∨ w = 2) (h : inP f s) (q : cmp s w + 1 < cmp f w) : pls (spt f c s) (stp w) = spt f c (pls s (stp w)) ∧ inP f (pls s (stp w)) := by
  obtain ⟨⟨h1, h2⟩, ⟨h3, h4⟩, h5, h6⟩ := h
  rcases hw with rfl | rfl | rfl <;> simp only [cmp] at q <;> refine ⟨?_, ?_⟩ <;> simp only [pls, spt, stp, inP, Cell.mk.injEq] <;> omega
theorem pls_eq {f c s : Cell} {w : Nat} (hw : w = 0 ∨ w = 1 ∨ w = 2) (h : inP f s) (q : cmp s w + 1 = cmp f w) : pls (spt f c s) (stp w) = spt f (pls c (stp w)) (zro s w) ∧ inP f (zro s w) := by
  obtain ⟨⟨h1, h2⟩, ⟨h3, h4⟩, h5, h6⟩ := h
  rcases hw with rfl | rfl | rfl <;> simp only [cmp] at q <;> refine ⟨?_, ?_⟩ <;> simp only [pls, spt, stp, zro, inP, Cell.mk.injEq, Int.add_mul, Int.one_mul] <;> omega
theorem cmp_lt {f s : Cell} {w : Nat} (hw : w = 0 ∨ w = 1 ∨ w = 2) (h : inP f s) : 0 ≤ cmp s w ∧ cmp s w < cmp f w := by
  obtain ⟨⟨h1, h2⟩, ⟨h3, h4⟩, h5, h6⟩ := h
  rcases hw with rfl | rfl | rfl <;> simp only [cmp] <;> omega
theorem cmp_pls {s : Cell} {w : Nat} (hw : w = 0 ∨ w = 1 ∨ w = 2) : cmp (pls s (stp w)) w = cmp s w + 1 := by
  rcases hw with rfl | rfl | rfl <;> rfl
theorem tch_perm {A B : List Cell} (w : Nat) (h : A.Perm B) : tch A w = tch B w := by
  unfold tch
  rw [(h.filter _).length_eq]
  congr 1
  refine List.filter_congr fun c _ => ?_
  rw [decide_eq_decide]
  exact h.mem_iff
theorem sum_ite (p : Cell → Bool) (n : Nat) : ∀ C : List Cell, (C.map fun c => if p c = true then n else 0).sum = (C.filter p).length * n
  | [] => by simp
  | c :: C => by
    rw [List.map_cons, List.sum_cons, sum_ite p n C]
    by_cases h : p c = true
    · rw [if_pos h, List.filter_cons_of_pos h, List.length_cons, Nat.succ_mul]; omega
    · rw [if_neg h, List.filter_cons_of_neg h]; omega
theorem sum_add {α : Type} (g h : α → Nat) : ∀ C : List α, (C.map fun c => g c + h c).sum = (C.map g).sum + (C.map h).sum
  | [] => rfl
  | c :: C => by simp only [List.map_cons, List.sum_cons, sum_add g h C]; omega
theorem sum_const {α : Type} (n : Nat) : ∀ C : List α, (C.map fun _ => n).sum = C.length * n
  | [] => by simp
  | c :: C => by rw [List.map_cons, List.sum_cons, sum_const n C, List.length_cons, Nat.succ_mul]; omega
theorem filter_or_disj {α : Type} (p q : α → Bool) (P : List α) (h : ∀ s ∈ P, ¬ (p s = true ∧ q s = true)) : (P.filter fun s => p s || q s).length = (P.filter p).length + (P.filter q).length := by
  induction P with
  | nil => rfl
  | cons s P ih =>
    have ih := ih fun s hs => h s (List.mem_cons_of_mem _ hs)
    have h0 := h s List.mem_cons_self
    cases e1 : p s <;> cases e2 : q s <;> simp_all <;> omega
theorem filter_length_flatMap {α β : Type} (p : β → Bool) (g : α → List β) : ∀ C : List α, ((C.flatMap g).filter p).length = (C.map fun c => ((g c).filter p).length).sum
  | [] => rfl
  | c :: C => by rw [List.flatMap_cons, List.filter_append, List.length_append, List.map_cons, List.sum_cons, filter_length_flatMap p g C]
theorem tch_wvn {f : Cell} {P C : List Cell} (hP : ∀ s ∈ P, inP f s) (w : Nat) (hw : w = 0 ∨ w = 1 ∨ w = 2) : tch (wvn f P C) w = C.length * tch P w + tch C w * mts f P w := by
  have hp : tch (wvn f P C) w = tch (raw f P C) w := tch_perm w (srt_perm _)
  rw [hp]
  have key : ∀ c, ∀ s ∈ P, decide (pls (spt f c s) (stp w) ∈ raw f P C) = ((decide (c ∈ C) && decide (pls s (stp w) ∈ P)) || (decide (pls c (stp w) ∈ C) && mtP f P w s)) := by
    intro c s hs
    have h := cmp_lt hw (hP s hs)
    rw [Bool.eq_iff_iff]
    simp only [decide_eq_true_eq, Bool.or_eq_true, Bool.and_eq_true, mtP]
    by_cases q : cmp s w + 1 < cmp f w
    · obtain ⟨h1, h2⟩ := pls_lt (c := c) hw (hP s hs) q
      rw [h1, mem_raw hP, hom_spt f c _ h2, rst_spt f c _ h2]
      constructor
      · exact fun z => .inl z
      · rintro (z | z)
        · exact z
        · have := z.2.1; omega
    · have q : cmp s w + 1 = cmp f w := by omega
      obtain ⟨h1, h2⟩ := pls_eq (c := c) hw (hP s hs) q
      rw [h1, mem_raw hP, hom_spt f _ _ h2, rst_spt f _ _ h2]
      constructor
      · exact fun z => .inr ⟨z.1, by omega, z.2⟩
      · rintro (z | z)
        · have := cmp_lt hw (hP _ z.2)
          rw [cmp_pls hw] at this
          omega
        · exact ⟨z.1, z.2.2⟩
  have inner : ∀ c ∈ C, ((P.map fun s => spt f c s).filter fun x => decide (pls x (stp w) ∈ raw f P C)).length = tch P w + (if decide (pls c (stp w) ∈ C) = true then mts f P w else 0) := by
    intro c hc
    rw [List.filter_map, List.length_map]
    have e : P.filter ((fun x => decide (pls x (stp w) ∈ raw f P C)) ∘ fun s => spt f c s) = P.filter fun s => (decide (pls s (stp w) ∈ P)) || (decide (pls c (stp w) ∈ C) && mtP f P w s) := by
      refine List.filter_congr fun s hs => ?_
      simp only [Function.comp, key c s hs, hc, decide_true, Bool.true_and]
    rw [e, filter_or_disj]
    · unfold tch mts
      congr 1
      by_cases q : pls c (stp w) ∈ C <;> simp [q]
    · intro s hs ⟨h1, h2⟩
      simp only [decide_eq_true_eq, Bool.and_eq_true, mtP] at h1 h2
      have := cmp_lt hw (hP _ h1)
      rw [cmp_pls hw] at this
      have := h2.2.1
      omega
  conv => lhs; unfold tch
  rw [show raw f P C = C.flatMap fun c => P.map fun s => spt f c s from rfl, filter_length_flatMap]
  rw [show (C.flatMap fun c => P.map fun s => spt f c s) = raw f P C from rfl]
  rw [List.map_congr_left inner, sum_add, sum_const, sum_ite]
  rfl
theorem tot_eq {f : Cell} {P : List Cell} (hP : ∀ s ∈ P, inP f s) (w : Nat) (hw : w = 0 ∨ w = 1 ∨ w = 2) : ∀ m, tot f P w m = (tch (pw f P m) w : Nat)
  | 0 => by rcases hw with rfl | rfl | rfl <;> rfl
  | m + 1 => by
    rw [tot, tot_eq hP w hw m, pw, tch_wvn hP w hw, pw_len]
    simp
/-- shared faces told from both sides -/
def mns (a b : Cell) : Cell := ⟨a.x - b.x, a.y - b.y, a.z - b.z⟩
theorem filter_len_le {A B : List Cell} (p q : Cell → Bool) (g : Cell → Cell) (hA : A.Nodup) (gi : ∀ a b, g a = g b → a = b) (h : ∀ a ∈ A, p a = true → g a ∈ B ∧ q (g a) = true) : (A.filter p).length ≤ (B.filter q).length := by
  have h1 : ((A.filter p).map g).Nodup := by
    have : (A.filter p).Nodup := hA.filter _
    unfold List.Nodup at this ⊢
    rw [List.pairwise_map]
    exact this.imp fun {a b} hab e => hab (gi _ _ e)
  have h2 : ∀ x ∈ (A.filter p).map g, x ∈ B.filter q := by
    intro x hx
    obtain ⟨a, ha, rfl⟩ := List.mem_map.mp hx
    obtain ⟨h3, h4⟩ := List.mem_filter.mp ha
    obtain ⟨h5, h6⟩ := h a h3 h4
    exact List.mem_filter.mpr ⟨h5, h6⟩
  have := nodup_len_le h1 h2
  rwa [List.length_map] at this
theorem back_eq {A : List Cell} (hA : A.Nodup) (w : Nat) : (A.filter fun c => decide (mns c (stp w) ∈ A)).length = tch A w := by
  have i1 : ∀ a b : Cell, mns a (stp w) = mns b (stp w) → a = b := by
    intro a b e
    simp only [mns, Cell.mk.injEq] at e
    rw [Cell.eq_iff]; omega
  have i2 : ∀ a b : Cell, pls a (stp w) = pls b (stp w) → a = b := by
    intro a b e
    simp only [pls, Cell.mk.injEq] at e
    rw [Cell.eq_iff]; omega
  have e1 : ∀ a : Cell, pls (mns a (stp w)) (stp w) = a := by
    intro a; rw [Cell.eq_iff]; simp only [pls, mns]; omega
  have e2 : ∀ a : Cell, mns (pls a (stp w)) (stp w) = a := by
    intro a; rw [Cell.eq_iff]; simp only [pls, mns]; omega
  refine Nat.le_antisymm ?_ ?_
  · refine filter_len_le _ _ (fun a => mns a (stp w)) hA i1 fun a ha hp => ⟨by simpa using hp, ?_⟩
    simp only [decide_eq_true_eq, e1]; exact ha
  · refine filter_len_le _ _ (fun a => pls a (stp w)) hA i2 fun a ha hp => ⟨by simpa using hp, ?_⟩
    simp only [decide_eq_true_eq, e2]; exact ha
theorem bsd_eq (c : Cell) : bsd c = [pls c (stp 0), mns c (stp 0), pls c (stp 1), mns c (stp 1), pls c (stp 2), mns c (stp 2)] := by
  simp [bsd, pls, mns, stp]
def b1 (b : Bool) : Nat := if b = true then 1 else 0
theorem filter_sum {α : Type} (p : α → Bool) : ∀ C : List α, (C.filter p).length = (C.map fun c => b1 (p c)).sum
  | [] => rfl
  | c :: C => by
    rw [List.map_cons, List.sum_cons, ← filter_sum p C]
    unfold b1
    by_cases h : p c = true
    · rw [if_pos h, List.filter_cons_of_pos h, List.length_cons]; omega
    · rw [if_neg h, List.filter_cons_of_neg h]; omega
theorem shw1_eq (cs : List Cell) (c : Cell) : shw1 cs c + (b1 (decide (pls c (stp 0) ∈ cs)) + b1 (decide (mns c (stp 0) ∈ cs)) + b1 (decide (pls c (stp 1) ∈ cs)) + b1 (decide (mns c (stp 1) ∈ cs)) + b1 (decide (pls c (stp 2) ∈ cs)) + b1 (decide (mns c (stp 2) ∈ cs))) = 6 := by
  unfold shw1
  rw [bsd_eq, filter_sum]
  have : ∀ b : Bool, b1 (!b) + b1 b = 1 := by intro b; cases b <;> rfl
  have h1 := this (decide (pls c (stp 0) ∈ cs))
  have h2 := this (decide (mns c (stp 0) ∈ cs))
  have h3 := this (decide (pls c (stp 1) ∈ cs))
  have h4 := this (decide (mns c (stp 1) ∈ cs))
  have h5 := this (decide (pls c (stp 2) ∈ cs))
  have h6 := this (decide (mns c (stp 2) ∈ cs))
  simp only [List.map_cons, List.map_nil, List.sum_cons, List.sum_nil]
  omega
theorem shw_sum (cs : List Cell) : ∀ C : List Cell, (C.map (shw1 cs)).sum + ((C.filter fun c => decide (pls c (stp 0) ∈ cs)).length + (C.filter fun c => decide (mns c (stp 0) ∈ cs)).length + (C.filter fun c => decide (pls c (stp 1) ∈ cs)).length + (C.filter fun c => decide (mns c (stp 1) ∈ cs)).length + (C.filter fun c => decide (pls c (stp 2) ∈ cs)).length + (C.filter fun c => decide (mns c (stp 2) ∈ cs)).length) = 6 * C.length
  | [] => rfl
  | c :: C => by
    have ih := shw_sum cs C
    have h := shw1_eq cs c
    simp only [filter_sum, List.map_cons, List.sum_cons, List.length_cons] at ih ⊢
    omega
theorem shw_eq {cs : List Cell} (hn : cs.Nodup) : shw cs + 2 * (tch cs 0 + tch cs 1 + tch cs 2) = 6 * cs.length := by
  have h := shw_sum cs cs
  rw [back_eq hn 0, back_eq hn 1, back_eq hn 2] at h
  unfold shw
  have e0 : (cs.filter fun c => decide (pls c (stp 0) ∈ cs)).length = tch cs 0 := rfl
  have e1 : (cs.filter fun c => decide (pls c (stp 1) ∈ cs)).length = tch cs 1 := rfl
  have e2 : (cs.filter fun c => decide (pls c (stp 2) ∈ cs)).length = tch cs 2 := rfl
  rw [e0, e1, e2] at h
  omega
theorem shows_pw {f : Cell} {P : List Cell} (hP : ∀ s ∈ P, inP f s) (hn : P.Nodup) (m : Nat) : (shw (pw f P m) : Int) = 6 * (P.length : Int) ^ m - 2 * (tot f P 0 m + tot f P 1 m + tot f P 2 m) := by
  have h := shw_eq (pw_nodup hP hn m)
  rw [tot_eq hP 0 (.inl rfl), tot_eq hP 1 (.inr (.inl rfl)), tot_eq hP 2 (.inr (.inr rfl))]
  rw [pw_len] at h
  have e : (P.length : Int) ^ m = ((P.length ^ m : Nat) : Int) := by simp
  rw [e]
  omega
/-- where the cells of a power lie -/
theorem mul_lt_of {a b x y : Int} (h0 : 0 ≤ a) (h1 : a < x) (h2 : 0 ≤ b) (h3 : b < y) : 0 ≤ a * y + b ∧ a * y + b < x * y := by
  have h4 : 0 ≤ a * y := Int.mul_nonneg h0 (by omega)
  have h5 : (a + 1) * y ≤ x * y := Int.mul_le_mul_of_nonneg_right (by omega) (by omega)
  rw [Int.add_mul, Int.one_mul] at h5
  omega
def box (n : Int) (c : Cell) : Prop := (0 ≤ c.x ∧ c.x < n) ∧ (0 ≤ c.y ∧ c.y < n) ∧ (0 ≤ c.z ∧ c.z < n)
theorem mul_lt3 {a b x f : Int} (h0 : 0 ≤ a) (h1 : a < x) (h2 : 0 ≤ b) (h3 : b < f) (hf : f ≤ 3) : 0 ≤ a * f + b ∧ a * f + b < x * 3 := by
  have := mul_lt_of h0 h1 h2 h3
  have h5 : x * f ≤ x * 3 := Int.mul_le_mul_of_nonneg_left hf (by omega)
  omega
theorem box_pw {f : Cell} {P : List Cell} (hf : inR 1 3 f) (hP : ∀ s ∈ P, inP f s) : ∀ (m : Nat) (c : Cell), c ∈ pw f P m → box (3 ^ m) c
  | 0, c, h => by
    simp only [pw, List.mem_singleton] at h
    subst h
    simp [box]
  | m + 1, c, h => by
    obtain ⟨⟨f1, f2⟩, ⟨f3, f4⟩, f5, f6⟩ := hf
    have h := (mem_wvn hP).mp h
    obtain ⟨⟨h1, h2⟩, ⟨h3, h4⟩, h5, h6⟩ := box_pw ⟨⟨f1, f2⟩, ⟨f3, f4⟩, f5, f6⟩ hP m _ h.1
    obtain ⟨⟨g1, g2⟩, ⟨g3, g4⟩, g5, g6⟩ := hP _ h.2
    rw [← spt_hom f c, Int.pow_succ]
    exact ⟨mul_lt3 h1 h2 g1 g2 f2, mul_lt3 h3 h4 g3 g4 f4, mul_lt3 h5 h6 g5 g6 f6⟩
theorem pw_rising {f : Cell} {P : List Cell} (hP : ∀ s ∈ P, inP f s) (hn : P.Nodup) : ∀ m, (pw f P m).Pairwise fun a b => Cell.lt a b = true
  | 0 => by simp [pw]
  | m + 1 => srt_rising (raw_nodup hP hn (pw_nodup hP hn m))
end P81
set_option Elab.async false
set_option linter.all false
set_option maxRecDepth 100000
set_option autoImplicit false
set_option maxHeartbeats 4000000
namespace P81
open PySem PySem.Spec L2 Dt Lw
theorem same_call {A B : EF} {ρ : DEnv} {d : D} {na nb : Nat} (hp : Pl 7 d = true) (ha : A ρ = some (.own d na, ρ)) (hb : B ρ = some (.own d nb, ρ)) : callF false 0 F_law_same (fCons A (fCons B fNil)) ρ = some (.own (.bl true) 0, ρ) := by
  simp [callF, fCons, fNil, ha, hb, isEnt, escs, esc, same_ok d hp]
theorem if_not {C : EF} {A : SF} {ρ ρ1 : DEnv} {n fuel : Nat} (h : C ρ = some (.own (.bl true) n, ρ1)) : ifF (notF C) A nopF fuel ρ = some (.nx ρ1) := by
  simp [ifF, notF, h, nopF]
theorem Pl_two (i j : Int) : Pl 7 (.tup [.int i, .int j]) = true := rfl
section
variable (ns : List Int) (a b : Int) (t x3 x4 x5 x6 x7 x8 x9 x10 x11 x12 : Option (D × Nat))
/-- for look in range(4) -/
theorem law5_ok (f : Cell) (P D0 : List Cell) (m mx9 : Int) (c : Cell) (n6 n9 : Nat) (h0 : 0 ≤ mx9) (h1 : mx9 ≤ 1000) (hm : hMax c.d = some (.int mx9)) : ∃ r1 r2 r3 a' b', c_law5 [some (.scr ns, 0), some (cup a b, 1), t, some (f.d, 5), some (tupC P, 5), some (.int m, 0), some (tupC D0, n6), x7, x8, some (c.d, n9), x10, x11, x12, none, none, none, none, none, none] = some (.own (.lst [.int r1, .int r2, .int r3]) 1, [some (.scr ns, 0), some (cup a' b', 1), t, some (f.d, 5), some (tupC P, 5), some (.int m, 0), some (tupC D0, n6), x7, x8, some (c.d, n9), x10, x11, x12, none, none, none, none, none, none]) ∧ (0 ≤ r1 ∧ r1 < 4000) ∧ (0 ≤ r2 ∧ r2 < 4000) ∧ 0 ≤ r3 ∧ r3 < 4000 := by
  obtain ⟨r1, a1, b1, e1, l1, u1⟩ := roll_ok a b (2 + 3 * mx9) (by omega) (by omega)
  obtain ⟨r2, a2, b2, e2, l2, u2⟩ := roll_ok a1 b1 (2 + 3 * mx9) (by omega) (by omega)
  obtain ⟨r3, a3, b3, e3, l3, u3⟩ := roll_ok a2 b2 (2 + 3 * mx9) (by omega) (by omega)
  refine ⟨r1, r2, r3, a3, b3, ?_, ⟨l1, by omega⟩, ⟨l2, by omega⟩, l3, by omega⟩
  unfold c_law5
  have it : r1F (fCons (fVal (.int 3)) fNil) [some (.scr ns, 0), some (cup a b, 1), t, some (f.d, 5), some (tupC P, 5), some (.int m, 0), some (tupC D0, n6), x7, x8, some (c.d, n9), x10, x11, x12, none, none, none, none, none, none] = some (.rng 0 3, [some (.scr ns, 0), some (cup a b, 1), t, some (f.d, 5), some (tupC P, 5), some (.int m, 0), some (tupC D0, n6), x7, x8, some (c.d, n9), x10, x11, x12, none, none, none, none, none, none]) := r1_of (r := .own (.int 3) 5) (m := 3) (by rfl) rfl (small_of (by omega) (by omega))
  refine lcF_of (ds := [rk 0, rk 1, rk 2]) (ρ2 := [some (.scr ns, 0), some (cup a3 b3, 1), t, some (f.d, 5), some (tupC P, 5), some (.int m, 0), some (tupC D0, n6), x7, x8, some (c.d, n9), x10, x11, x12, none, none, none, none, none, none]) it (fun _ => rfl) rfl rfl rfl (lt_lim (by decide)) ?_
  have i9 : isImm c.d = true := rfl
  have o9 : okL c.d n9 = true := rfl
  generalize rk 0 = k0
  generalize rk 1 = k1
  generalize rk 2 = k2
  generalize tupC D0 = TD
  generalize tupC P = TP
  have g3 : gMul (.int 3) (.int mx9) = some (.int (3 * mx9), 5) := by simp [gMul]
  have st : ∀ (k : D) (a b a' b' r : Int), F_law_roll [.lst [.int a, .int b], .int (2 + 3 * mx9)] = some (.int r, .lst [.int a', .int b']) → lcStep (nameG 17) yesF (callF true 0 F_law_roll (fCons (fVar 1) (fCons (f2 gAdd (fVal (.int 2)) (f2 gMul (fVal (.int 3)) (fN (Dt.g1 hMax) (fCons (fVar 9) fNil)))) fNil))) [17] k [some (.scr ns, 0), some (cup a b, 1), t, some (f.d, 5), some (TP, 5), some (.int m, 0), some (TD, n6), x7, x8, some (c.d, n9), x10, x11, x12, none, none, none, none, none, none] = some (some (.int r), [some (.scr ns, 0), some (cup a' b', 1), t, some (f.d, 5), some (TP, 5), some (.int m, 0), some (TD, n6), x7, x8, some (c.d, n9), x10, x11, x12, none, none, none, none, none, none]) := by
    intro k a b a' b' r e
    simp [nameG, tupG, consG, nilG, oneF, z2F, z3F, enF, r1F, r2F, ctsF, ctF, chkI, Its.get, Ct.get, zip2D, zip3D, enD, wipeD, restD, immSlot, yesF, lcStep, lcGo, forGo, Its.sls, Ct.sls, FB, runB, initE, ioEnd, lvOk, seqF, ifF, nopF, retF, setF, dropF, storeF, par2F, par3F, asgF, nevF, fVar, fVal, fNil, fCons, fTup, fLst, f2, f1, fN, rds, rd, esc, escs, asgR, isEnt, im1, im2, im3, im4, im5, im6, im7, im8, ok1, ok2, ok3, ok4, ok5, ok6, ok7, ok8, gAdd, Dt.gSub, gMul, gFdiv, gMod, gNeg, gPow, gTuple, gList, Dt.g1, hAbs, hInt, hStr, itm, blO, cI, cGtI, cLeI, cGeI, cIs, isL, isDi, putItem, fDic, callF, andF, orF, notF, ifxF, chainF, neSlot, cup, e, hm, g3, i9, o9]
  have w : wipeD [some (.scr ns, 0), some (cup a b, 1), t, some (f.d, 5), some (TP, 5), some (.int m, 0), some (TD, n6), x7, x8, some (c.d, n9), x10, x11, x12, none, none, none, none, none, none] [17] = [some (.scr ns, 0), some (cup a b, 1), t, some (f.d, 5), some (TP, 5), some (.int m, 0), some (TD, n6), x7, x8, some (c.d, n9), x10, x11, x12, none, none, none, none, none, none] := rfl
  rw [w]
  simp only [lcGo, st k0 _ _ _ _ _ e1, st k1 _ _ _ _ _ e2, st k2 _ _ _ _ _ e3]
theorem law6_ok (f : Cell) (P : List Cell) (mm : Nat) (n6 : Nat) (hP : Pat f P) (h3 : inR 1 3 f) (hmm : mm ≤ 3) (hl5 : P.length ≤ 5) (hne : pw f P mm ≠ []) (hi9 : immSlot (some x9) = true) : ∃ a' b' y8 y9, l_law6 1000000 [some (.scr ns, 0), some (cup a b, 1), t, some (f.d, 5), some (tupC P, 5), some (.int mm, 0), some (tupC (pw f P mm), n6), x7, x8, x9, x10, x11, x12, none, none, none, none, none, none] = some (.nx [some (.scr ns, 0), some (cup a' b', 1), t, some (f.d, 5), some (tupC P, 5), some (.int mm, 0), some (tupC (pw f P mm), n6), x7, y8, y9, x10, x11, x12, none, none, none, none, none, none]) ∧ immSlot (some y9) = true := by
  unfold l_law6
  rw [forF_rng (r := .own (.int 4) 5) (m := 4) (ρ1 := [some (.scr ns, 0), some (cup a b, 1), t, some (f.d, 5), some (tupC P, 5), some (.int mm, 0), some (tupC (pw f P mm), n6), x7, x8, x9, x10, x11, x12, none, none, none, none, none, none]) (by rfl) rfl (by omega) (by omega)]
  obtain ⟨ρ', h4, a', b', y8, y9, h5, h6⟩ := forGo_const (g := nameG 8) (f := b_law6) (fuel := 1000000) rk (fun ρ => ∃ a b x8 x9, ρ = [some (.scr ns, 0), some (cup a b, 1), t, some (f.d, 5), some (tupC P, 5), some (.int mm, 0), some (tupC (pw f P mm), n6), x7, x8, x9, x10, x11, x12, none, none, none, none, none, none] ∧ immSlot (some x9) = true) (List.range (4 : Int).toNat) (fun k hk ρ ⟨a, b, x8, x9, hy, hi⟩ => by
    subst hy
    have hlen : (pw f P mm).length ≤ 1000000 := by
      rw [pw_len]
      have : mm = 0 ∨ mm = 1 ∨ mm = 2 ∨ mm = 3 := by omega
      refine Nat.le_trans (Nat.pow_le_pow_left hl5 mm) ?_
      rcases this with rfl | rfl | rfl | rfl <;> decide
    obtain ⟨c, hc, a1, b1, e1⟩ := some_ok (X := tupC (pw f P mm)) a b (pw f P mm) .t hne hlen
    obtain ⟨r2, a2, b2, e2, l2, u2⟩ := roll_ok a1 b1 2 (by omega) (by omega)
    have bx := box_pw h3 hP.fit mm c hc
    have b27 : (3 : Int) ^ mm ≤ 27 := by
      have : mm = 0 ∨ mm = 1 ∨ mm = 2 ∨ mm = 3 := by omega
      rcases this with rfl | rfl | rfl | rfl <;> decide
    have h3' : hMax c.d = some (.int (mx c)) := hMax_cell c
    have m0 : 0 ≤ mx c := by
      have := (maxI_ge [c.y, c.z] c.x).1
      have := bx.1.1
      unfold mx; omega
    have m1 : mx c ≤ 1000 := by
      have := bx.1.2
      have := bx.2.1.2
      have := bx.2.2.2
      exact mx_le (by omega) (by omega) (by omega)
    -- what is asked of a cell
    have tail : ∀ (c : Cell) (n9 : Nat) (a b : Int) (y8 : Option (D × Nat)), inR 0 4000 c → ifF (notF (callF false 0 F_law_same (fCons (callF false 0 F_power_has (fCons (fVar 3) (fCons (fVar 4) (fCons (fVar 5) (fCons (fVar 9) fNil))))) (fCons (f2 (fun a b => blO (cInD a b)) (fVar 9) (fVar 6)) fNil)))) (seqF (retF (fVal (.bl false)))
    nopF) nopF 1000000 [some (.scr ns, 0), some (cup a b, 1), t, some (f.d, 5), some (tupC P, 5), some (.int mm, 0), some (tupC (pw f P mm), n6), x7, y8, some (c.d, n9), x10, x11, x12, none, none, none, none, none, none] = some (.nx [some (.scr ns, 0), some (cup a b, 1), t, some (f.d, 5), some (tupC P, 5), some (.int mm, 0), some (tupC (pw f P mm), n6), x7, y8, some (c.d, n9), x10, x11, x12, none, none, none, none, none, none]) := by
      intro c n9 a b y8 hc
      have big : inR 0 (10 ^ 60) c := by
        obtain ⟨⟨h1, h2⟩, ⟨h3, h4⟩, h5, h6⟩ := hc
        have : (4000 : Int) ≤ 10 ^ 60 := by decide
        exact ⟨⟨h1, by omega⟩, ⟨h3, by omega⟩, h5, by omega⟩
      have ph := power_has_eq f P mm (by omega) hP c big
      rw [hs_eq hP.fit mm c] at ph
      have ci : cInD c.d (tupC (pw f P mm)) = some (decide (c ∈ pw f P mm)) := cIn_tup c (pw f P mm)
      generalize decide (c ∈ pw f P mm) = bb at *
      have e7 : ∃ TL : List Cell, TL = pw f P mm := ⟨_, rfl⟩
      obtain ⟨TL, e7⟩ := e7
      rw [← e7] at ci ⊢
      generalize (mm : Int) = m at *
      refine if_not (n := 0) (same_call (d := .bl bb) (na := 0) (nb := 5) (by cases bb <;> rfl) ?_ ?_)
      · simp [FB, runB, initE, ioEnd, lvOk, seqF, ifF, nopF, retF, setF, dropF, storeF, par2F, par3F, asgF, nevF, fVar, fVal, fNil, fCons, fTup, fLst, f2, f1, fN, rds, rd, esc, escs, asgR, isEnt, im1, im2, im3, im4, im5, im6, im7, im8, ok1, ok2, ok3, ok4, ok5, ok6, ok7, ok8, gAdd, Dt.gSub, gMul, gFdiv, gMod, gNeg, gPow, gTuple, gList, Dt.g1, hAbs, hInt, hStr, itm, blO, cI, cGtI, cLeI, cGeI, cIs, isL, isDi, putItem, fDic, callF, andF, orF, notF, ifxF, chainF, neSlot, ph, cup]
      · simp [FB, runB, initE, ioEnd, lvOk, seqF, ifF, nopF, retF, setF, dropF, storeF, par2F, par3F, asgF, nevF, fVar, fVal, fNil, fCons, fTup, fLst, f2, f1, fN, rds, rd, esc, escs, asgR, isEnt, im1, im2, im3, im4, im5, im6, im7, im8, ok1, ok2, ok3, ok4, ok5, ok6, ok7, ok8, gAdd, Dt.gSub, gMul, gFdiv, gMod, gNeg, gPow, gTuple, gList, Dt.g1, hAbs, hInt, hStr, itm, blO, cI, cGtI, cLeI, cGeI, cIs, isL, isDi, putItem, fDic, callF, andF, orF, notF, ifxF, chainF, neSlot, ci, cup]
    have i9' : ∀ (c : Cell) (n : Nat), immSlot (some (some (c.d, n))) = true := fun _ _ => rfl
    have s9 : setF 9 (callF true 0 F_law_some (fCons (fVar 1) (fCons (fVar 6) fNil))) 1000000 [some (.scr ns, 0), some (cup a b, 1), t, some (f.d, 5), some (tupC P, 5), some (.int mm, 0), some (tupC (pw f P mm), n6), x7, some (rk k, 5), x9, x10, x11, x12, none, none, none, none, none, none] = some (.nx [some (.scr ns, 0), some (cup a1 b1, 1), t, some (f.d, 5), some (tupC P, 5), some (.int mm, 0), some (tupC (pw f P mm), n6), x7, some (rk k, 5), some (c.d, 0), x10, x11, x12, none, none, none, none, none, none]) := by
      generalize (mm : Int) = m at *
      generalize pw f P mm = TL at *
      generalize rk k = K at *
      simp [FB, runB, initE, ioEnd, lvOk, seqF, ifF, nopF, retF, setF, dropF, storeF, par2F, par3F, asgF, nevF, fVar, fVal, fNil, fCons, fTup, fLst, f2, f1, fN, rds, rd, esc, escs, asgR, isEnt, im1, im2, im3, im4, im5, im6, im7, im8, ok1, ok2, ok3, ok4, ok5, ok6, ok7, ok8, gAdd, Dt.gSub, gMul, gFdiv, gMod, gNeg, gPow, gTuple, gList, Dt.g1, hAbs, hInt, hStr, itm, blO, cI, cGtI, cLeI, cGeI, cIs, isL, isDi, putItem, fDic, callF, andF, orF, notF, ifxF, chainF, neSlot, e1, cup]
    have cc : inR 0 4000 c := ⟨⟨bx.1.1, by have := bx.1.2; omega⟩, ⟨bx.2.1.1, by have := bx.2.1.2; omega⟩, bx.2.2.1, by have := bx.2.2.2; omega⟩
    have tst : ∀ r2, F_law_roll [D.lst [D.int a1, D.int b1], D.int 2] = some (D.int r2, D.lst [D.int a2, D.int b2]) → f2 (fun a b => blO (cEq a b)) (callF true 0 F_law_roll (fCons (fVar 1) (fCons (fVal (.int 2)) fNil))) (fVal (.int 0)) [some (.scr ns, 0), some (cup a1 b1, 1), t, some (f.d, 5), some (tupC P, 5), some (.int mm, 0), some (tupC (pw f P mm), n6), x7, some (rk k, 5), some (c.d, 0), x10, x11, x12, none, none, none, none, none, none] = some (.own (.bl (decide (r2 = 0))) 5, [some (.scr ns, 0), some (cup a2 b2, 1), t, some (f.d, 5), some (tupC P, 5), some (.int mm, 0), some (tupC (pw f P mm), n6), x7, some (rk k, 5), some (c.d, 0), x10, x11, x12, none, none, none, none, none, none]) := by
      intro r2 e2
      generalize (mm : Int) = m at *
      generalize pw f P mm = TL at *
      generalize rk k = K at *
      simp [FB, runB, initE, ioEnd, lvOk, seqF, ifF, nopF, retF, setF, dropF, storeF, par2F, par3F, asgF, nevF, fVar, fVal, fNil, fCons, fTup, fLst, f2, f1, fN, rds, rd, esc, escs, asgR, isEnt, im1, im2, im3, im4, im5, im6, im7, im8, ok1, ok2, ok3, ok4, ok5, ok6, ok7, ok8, gAdd, Dt.gSub, gMul, gFdiv, gMod, gNeg, gPow, gTuple, gList, Dt.g1, hAbs, hInt, hStr, itm, blO, cI, cGtI, cLeI, cGeI, cIs, isL, isDi, putItem, fDic, callF, andF, orF, notF, ifxF, chainF, neSlot, e2, cup, cEq_int]
    by_cases q : r2 = 0
    · obtain ⟨r1, r2', r3, a3, b3, e5, z1, z2, z3⟩ := law5_ok ns a2 b2 t x7 (some (rk k, 5)) x10 x11 x12 f P (pw f P mm) mm (mx c) c n6 0 m0 m1 h3'
      have t9 : setF 9 (fN gTuple (fCons c_law5 fNil)) 1000000 [some (.scr ns, 0), some (cup a2 b2, 1), t, some (f.d, 5), some (tupC P, 5), some (.int mm, 0), some (tupC (pw f P mm), n6), x7, some (rk k, 5), some (c.d, 0), x10, x11, x12, none, none, none, none, none, none] = some (.nx [some (.scr ns, 0), some (cup a3 b3, 1), t, some (f.d, 5), some (tupC P, 5), some (.int mm, 0), some (tupC (pw f P mm), n6), x7, some (rk k, 5), some ((⟨r1, r2', r3⟩ : Cell).d, 5), x10, x11, x12, none, none, none, none, none, none]) := by
        generalize (mm : Int) = m at *
        generalize pw f P mm = TL at *
        generalize rk k = K at *
        simp [FB, runB, initE, ioEnd, lvOk, seqF, ifF, nopF, retF, setF, dropF, storeF, par2F, par3F, asgF, nevF, fVar, fVal, fNil, fCons, fTup, fLst, f2, f1, fN, rds, rd, esc, escs, asgR, isEnt, im1, im2, im3, im4, im5, im6, im7, im8, ok1, ok2, ok3, ok4, ok5, ok6, ok7, ok8, gAdd, Dt.gSub, gMul, gFdiv, gMod, gNeg, gPow, gTuple, gList, Dt.g1, hAbs, hInt, hStr, itm, blO, cI, cGtI, cLeI, cGeI, cIs, isL, isDi, putItem, fDic, callF, andF, orF, notF, ifxF, chainF, neSlot, e5, cup]
        rfl
      refine ⟨[some (.scr ns, 0), some (cup a b, 1), t, some (f.d, 5), some (tupC P, 5), some (.int mm, 0), some (tupC (pw f P mm), n6), x7, some (rk k, 5), x9, x10, x11, x12, none, none, none, none, none, none], _, rfl, seq_nx s9 (seq_nx (ρ1 := [some (.scr ns, 0), some (cup a3 b3, 1), t, some (f.d, 5), some (tupC P, 5), some (.int mm, 0), some (tupC (pw f P mm), n6), x7, some (rk k, 5), some ((⟨r1, r2', r3⟩ : Cell).d, 5), x10, x11, x12, none, none, none, none, none, none]) ?_ (seq_nx (tail ⟨r1, r2', r3⟩ 5 a3 b3 (some (rk k, 5)) ⟨⟨z1.1, by have := z1.2; simp only; omega⟩, ⟨z2.1, by have := z2.2; simp only; omega⟩, z3.1, by have := z3.2; simp only; omega⟩) rfl)), a3, b3, _, _, rfl, i9' _ _⟩
      have tt := tst r2 e2
      rw [show decide (r2 = 0) = true from decide_eq_true q] at tt
      simp only [ifF, tt]
      exact seq_nx t9 rfl
    · refine ⟨[some (.scr ns, 0), some (cup a b, 1), t, some (f.d, 5), some (tupC P, 5), some (.int mm, 0), some (tupC (pw f P mm), n6), x7, some (rk k, 5), x9, x10, x11, x12, none, none, none, none, none, none], _, rfl, seq_nx s9 (seq_nx (ρ1 := [some (.scr ns, 0), some (cup a2 b2, 1), t, some (f.d, 5), some (tupC P, 5), some (.int mm, 0), some (tupC (pw f P mm), n6), x7, some (rk k, 5), some (c.d, 0), x10, x11, x12, none, none, none, none, none, none]) ?_ (seq_nx (tail c 0 a2 b2 (some (rk k, 5)) cc) rfl)), a2, b2, _, _, rfl, i9' _ _⟩
      have tt := tst r2 e2
      rw [show decide (r2 = 0) = false from decide_eq_false q] at tt
      simp only [ifF, tt, nopF]) [some (.scr ns, 0), some (cup a b, 1), t, some (f.d, 5), some (tupC P, 5), some (.int mm, 0), some (tupC (pw f P mm), n6), x7, x8, x9, x10, x11, x12, none, none, none, none, none, none] ⟨a, b, x8, x9, rfl, hi9⟩
  exact ⟨a', b', y8, y9, by rw [h4, h5], h6⟩
end
end P81
set_option Elab.async false
set_option linter.all false
set_option maxRecDepth 100000
set_option autoImplicit false
set_option maxHeartbeats 4000000
namespace P81
open PySem PySem.Spec L2 Dt Lw
theorem pw_small {f : Cell} {P : List Cell} {m : Nat} (hmm : m ≤ 3) (hl5 : P.length ≤ 5) : (pw f P m).length ≤ 125 := by
  rw [pw_len]
  have : m = 0 ∨ m = 1 ∨ m = 2 ∨ m = 3 := by omega
  refine Nat.le_trans (Nat.pow_le_pow_left hl5 m) ?_
  rcases this with rfl | rfl | rfl | rfl <;> decide
theorem pw_ne {f : Cell} {P : List Cell} (m : Nat) (h : P ≠ []) : pw f P m ≠ [] := by
  intro e
  have := pw_len f P m
  rw [e] at this
  have h0 : P.length ≠ 0 := fun q => h (List.length_eq_zero_iff.mp q)
  have := Nat.pow_pos (n := m) (Nat.pos_of_ne_zero h0)
  simp_all
section
variable (ns : List Int) (a b : Int) (t x3 x4 x5 x6 x7 x8 x9 x10 x11 x12 : Option (D × Nat))
/-- for step in range(many): due = woven -/
theorem law7_ok (f : Cell) (P : List Cell) (m : Nat) (hP : Pat f P) (hm : m ≤ 3) (hl5 : P.length ≤ 5) (n5 : Nat) : ∃ n6 y7, l_law7 1000000 [some (.scr ns, 0), some (cup a b, 1), t, some (f.d, 5), some (tupC P, 5), some (.int m, n5), some (tupC (pw f P 0), 5), x7, x8, x9, x10, x11, x12, none, none, none, none, none, none] = some (.nx [some (.scr ns, 0), some (cup a b, 1), t, some (f.d, 5), some (tupC P, 5), some (.int m, n5), some (tupC (pw f P m), n6), y7, x8, x9, x10, x11, x12, none, none, none, none, none, none]) := by
  unfold l_law7
  rw [forF_rng (r := .own (.int m) 5) (m := m) (ρ1 := [some (.scr ns, 0), some (cup a b, 1), t, some (f.d, 5), some (tupC P, 5), some (.int m, n5), some (tupC (pw f P 0), 5), x7, x8, x9, x10, x11, x12, none, none, none, none, none, none]) (by rfl) rfl (by omega) (by omega)]
  obtain ⟨ρ', h4, n6, y7, h5⟩ := forGo_inv (g := nameG 7) (f := b_law7) (fuel := 1000000) rk (fun pre ρ => ∃ n6 y7, ρ = [some (.scr ns, 0), some (cup a b, 1), t, some (f.d, 5), some (tupC P, 5), some (.int m, n5), some (tupC (pw f P pre.length), n6), y7, x8, x9, x10, x11, x12, none, none, none, none, none, none]) (List.range (m : Int).toNat) (fun pre k post ρ e ⟨n6, y7, hy⟩ => by
    subst hy
    have hp : pre.length < m := by
      have := congrArg List.length e
      simp only [List.length_range, List.length_append, List.length_cons] at this
      omega
    have hs := pw_small (f := f) (P := P) (m := pre.length) (by omega) hl5
    have w := law_woven_eq f P (pw f P pre.length) (Nat.le_trans (Nat.mul_le_mul hs hl5) (by decide)) (by omega) hP.frame
    refine ⟨_, [some (.scr ns, 0), some (cup a b, 1), t, some (f.d, 5), some (tupC P, 5), some (.int m, n5), some (tupC (pw f P (pre ++ [k]).length), 0), some (rk k, 5), x8, x9, x10, x11, x12, none, none, none, none, none, none], rfl, ?_, _, _, rfl⟩
    rw [show (pre ++ [k]).length = pre.length + 1 by simp, pw]
    have kI : isImm (rk k) = true := rfl
    generalize wvn f P (pw f P pre.length) = W at *
    generalize pw f P pre.length = V at *
    generalize (m : Int) = mi at *
    generalize rk k = K at *
    simp [b_law7, FB, runB, initE, ioEnd, lvOk, seqF, ifF, nopF, retF, setF, dropF, storeF, par2F, par3F, asgF, nevF, fVar, fVal, fNil, fCons, fTup, fLst, f2, f1, fN, rds, rd, esc, escs, asgR, isEnt, im1, im2, im3, im4, im5, im6, im7, im8, ok1, ok2, ok3, ok4, ok5, ok6, ok7, ok8, gAdd, Dt.gSub, gMul, gFdiv, gMod, gNeg, gPow, gTuple, gList, Dt.g1, hAbs, hInt, hStr, itm, blO, cI, cGtI, cLeI, cGeI, cIs, isL, isDi, putItem, fDic, callF, andF, orF, notF, ifxF, chainF, neSlot, w, kI]) [some (.scr ns, 0), some (cup a b, 1), t, some (f.d, 5), some (tupC P, 5), some (.int m, n5), some (tupC (pw f P 0), 5), x7, x8, x9, x10, x11, x12, none, none, none, none, none, none] ⟨5, x7, rfl⟩
  refine ⟨n6, y7, ?_⟩
  rw [h4, h5, List.length_range, Int.toNat_natCast]
/-- for step in range(great): times = times * len(pattern) -/
theorem law3_ok (f : Cell) (P : List Cell) (g : Nat) (hg : g ≤ 200) (hl5 : P.length ≤ 5) (n4 n10 : Nat) : ∃ y7, l_law3 1000000 [some (.scr ns, 0), some (cup a b, 1), t, x3, some (tupC P, n4), x5, x6, x7, x8, x9, some (.int g, n10), x11, some (.int 1, 5), none, none, none, none, none, none] = some (.nx [some (.scr ns, 0), some (cup a b, 1), t, x3, some (tupC P, n4), x5, x6, y7, x8, x9, some (.int g, n10), x11, some (.int ((P.length : Int) ^ g), 5), none, none, none, none, none, none]) := by
  unfold l_law3
  rw [forF_rng (r := .own (.int g) 5) (m := g) (ρ1 := [some (.scr ns, 0), some (cup a b, 1), t, x3, some (tupC P, n4), x5, x6, x7, x8, x9, some (.int g, n10), x11, some (.int 1, 5), none, none, none, none, none, none]) (by rfl) rfl (by omega) (by omega)]
  obtain ⟨ρ', h4, y7, h5⟩ := forGo_inv (g := nameG 7) (f := b_law3) (fuel := 1000000) rk (fun pre ρ => ∃ y7, ρ = [some (.scr ns, 0), some (cup a b, 1), t, x3, some (tupC P, n4), x5, x6, y7, x8, x9, some (.int g, n10), x11, some (.int ((P.length : Int) ^ pre.length), 5), none, none, none, none, none, none]) (List.range (g : Int).toNat) (fun pre k post ρ e ⟨y7, hy⟩ => by
    subst hy
    refine ⟨_, [some (.scr ns, 0), some (cup a b, 1), t, x3, some (tupC P, n4), x5, x6, some (rk k, 5), x8, x9, some (.int g, n10), x11, some (.int ((P.length : Int) ^ (pre ++ [k]).length), 5), none, none, none, none, none, none], rfl, ?_, _, rfl⟩
    rw [show (pre ++ [k]).length = pre.length + 1 by simp, Int.pow_succ]
    have gl := gLen_tupC P
    have kI : isImm (rk k) = true := rfl
    have gm : ∀ i : Int, gMul (.int i) (.int P.length) = some (.int (i * P.length), 5) := fun i => by
      have : P.length < 18446744073709551616 := by omega
      simp [gMul, this]
    have gm := gm ((P.length : Int) ^ pre.length)
    generalize (P.length : Int) ^ pre.length = A at *
    generalize (P.length : Int) = L at *
    generalize (g : Int) = gi at *
    generalize rk k = K at *
    simp [b_law3, FB, runB, initE, ioEnd, lvOk, seqF, ifF, nopF, retF, setF, dropF, storeF, par2F, par3F, asgF, nevF, fVar, fVal, fNil, fCons, fTup, fLst, f2, f1, fN, rds, rd, esc, escs, asgR, isEnt, im1, im2, im3, im4, im5, im6, im7, im8, ok1, ok2, ok3, ok4, ok5, ok6, ok7, ok8, gAdd, Dt.gSub, gFdiv, gMod, gNeg, gPow, gTuple, gList, Dt.g1, hAbs, hInt, hStr, itm, blO, cI, cGtI, cLeI, cGeI, cIs, isL, isDi, putItem, fDic, callF, andF, orF, notF, ifxF, chainF, neSlot, gl, gm, kI]) [some (.scr ns, 0), some (cup a b, 1), t, x3, some (tupC P, n4), x5, x6, x7, x8, x9, some (.int g, n10), x11, some (.int 1, 5), none, none, none, none, none, none] ⟨x7, rfl⟩
  refine ⟨y7, ?_⟩
  rw [h4, h5, List.length_range, Int.toNat_natCast]
theorem law4_ok (f : Cell) (P C : List Cell) (m : Int) (hl : C.length ≤ 1000) (n5 n6 : Nat) (hi9 : immSlot (some x9) = true) : c_law4 [some (.scr ns, 0), some (cup a b, 1), t, some (f.d, 5), some (tupC P, 5), some (.int m, n5), some (tupC C, n6), x7, x8, x9, x10, x11, x12, none, none, none, none, none, none] = some (.own (.lst (C.map fun c => .int (mx c))) 1, [some (.scr ns, 0), some (cup a b, 1), t, some (f.d, 5), some (tupC P, 5), some (.int m, n5), some (tupC C, n6), x7, x8, x9, x10, x11, x12, none, none, none, none, none, none]) := by
  unfold c_law4
  rw [← fm_some]
  refine lcF_fm Cell.d C (fun c => some (.int (mx c))) (it := .one (.fz (cds C))) rfl rfl rfl rfl (by simpa [immSlot] using hi9) rfl (lt_lim (by omega)) ?_ rfl
  intro c hc
  have := hMax_cell c
  generalize mx c = mm at *
  simp [nameG, tupG, consG, nilG, oneF, z2F, z3F, enF, r1F, r2F, ctsF, ctF, chkI, Its.get, Ct.get, zip2D, zip3D, enD, wipeD, restD, immSlot, yesF, lcStep, lcGo, forGo, Its.sls, Ct.sls, FB, runB, initE, ioEnd, lvOk, seqF, ifF, nopF, retF, setF, dropF, storeF, par2F, par3F, asgF, nevF, fVar, fVal, fNil, fCons, fTup, fLst, f2, f1, fN, rds, rd, esc, escs, asgR, isEnt, im1, im2, im3, im4, im5, im6, im7, im8, ok1, ok2, ok3, ok4, ok5, ok6, ok7, ok8, gAdd, Dt.gSub, gMul, gFdiv, gMod, gNeg, gPow, gTuple, gList, Dt.g1, hAbs, hInt, hStr, itm, blO, cI, cGtI, cLeI, cGeI, cIs, isL, isDi, putItem, fDic, callF, andF, orF, notF, ifxF, chainF, neSlot, this]
end
end P81
set_option Elab.async false
set_option linter.all false
set_option maxRecDepth 100000
set_option autoImplicit false
set_option maxHeartbeats 4000000
namespace P81
open PySem PySem.Spec L2 Dt Lw
theorem if_and_not {A C : EF} {B : SF} {ρ ρ1 : DEnv} {n n1 fuel : Nat} (ha : A ρ = some (.own (.bl true) n1, ρ)) (h : C ρ = some (.own (.bl true) n, ρ1)) : ifF (andF A (notF C)) B nopF fuel ρ = some (.nx ρ1) := by
  simp [ifF, andF, notF, h, ha, nopF]
section
variable (ns : List Int) (a b : Int) (t x3 x4 x5 x6 x7 x8 x9 x10 x11 x12 : Option (D × Nat))
theorem u1 (P : List Cell) (f : Cell) (a' b' : Int) (e : F_law_pattern [cup a b, .int 5] = some (.tup [f.d, tupC P], cup a' b')) : asgF (tupG 2 (consG (nameG 3) (consG (nameG 4) nilG))) (callF true 0 F_law_pattern (fCons (fVar 1) (fCons (fVal (.int 5)) fNil))) 1000000 [some (.scr ns, 0), some (cup a b, 1), t, x3, x4, x5, x6, x7, x8, x9, x10, x11, x12, none, none, none, none, none, none] = some (.nx [some (.scr ns, 0), some (cup a' b', 1), t, some (f.d, 5), some (tupC P, 5), x5, x6, x7, x8, x9, x10, x11, x12, none, none, none, none, none, none]) := by
  simp only [cup] at e ⊢
  simp [nameG, tupG, consG, nilG, oneF, z2F, z3F, enF, r1F, r2F, ctsF, ctF, chkI, Its.get, Ct.get, zip2D, zip3D, enD, wipeD, restD, immSlot, yesF, lcStep, lcGo, forGo, Its.sls, Ct.sls, FB, runB, initE, ioEnd, lvOk, seqF, ifF, nopF, retF, setF, dropF, storeF, par2F, par3F, asgF, nevF, fVar, fVal, fNil, fCons, fTup, fLst, f2, f1, fN, rds, rd, esc, escs, asgR, isEnt, im1, im2, im3, im4, im5, im6, im7, im8, ok1, ok2, ok3, ok4, ok5, ok6, ok7, ok8, gAdd, Dt.gSub, gMul, gFdiv, gMod, gNeg, gPow, gTuple, gList, Dt.g1, hAbs, hInt, hStr, itm, blO, cI, cGtI, cLeI, cGeI, cIs, isL, isDi, putItem, fDic, callF, andF, orF, notF, ifxF, chainF, neSlot, e]
theorem u2 (P : List Cell) (f : Cell) (a' b' r : Int) (e : F_law_roll [cup a b, .int 4] = some (.int r, cup a' b')) : par2F 5 6 (callF true 0 F_law_roll (fCons (fVar 1) (fCons (fVal (.int 4)) fNil))) (fTup (fCons (fTup (fCons (fVal (.int 0)) (fCons (fVal (.int 0)) (fCons (fVal (.int 0)) fNil)))) fNil)) 1000000 [some (.scr ns, 0), some (cup a b, 1), t, some (f.d, 5), some (tupC P, 5), x5, x6, x7, x8, x9, x10, x11, x12, none, none, none, none, none, none] = some (.nx [some (.scr ns, 0), some (cup a' b', 1), t, some (f.d, 5), some (tupC P, 5), some (.int r, 0), some (tupC [⟨0, 0, 0⟩], 5), x7, x8, x9, x10, x11, x12, none, none, none, none, none, none]) := by
  simp only [cup] at e ⊢
  simp [nameG, tupG, consG, nilG, oneF, z2F, z3F, enF, r1F, r2F, ctsF, ctF, chkI, Its.get, Ct.get, zip2D, zip3D, enD, wipeD, restD, immSlot, yesF, lcStep, lcGo, forGo, Its.sls, Ct.sls, FB, runB, initE, ioEnd, lvOk, seqF, ifF, nopF, retF, setF, dropF, storeF, par2F, par3F, asgF, nevF, fVar, fVal, fNil, fCons, fTup, fLst, f2, f1, fN, rds, rd, esc, escs, asgR, isEnt, im1, im2, im3, im4, im5, im6, im7, im8, ok1, ok2, ok3, ok4, ok5, ok6, ok7, ok8, gAdd, Dt.gSub, gMul, gFdiv, gMod, gNeg, gPow, gTuple, gList, Dt.g1, hAbs, hInt, hStr, itm, blO, cI, cGtI, cLeI, cGeI, cIs, isL, isDi, putItem, fDic, callF, andF, orF, notF, ifxF, chainF, neSlot, e]
  rfl
theorem u4 (P C : List Cell) (f : Cell) (m n s : Int) (n6 : Nat) (e1 : F_power_counts [f.d, tupC P, .int m] = some (.tup [.int n, .int s], .non)) (e2 : F_law_shows [tupC C] = some (.int s, .non)) (e3 : gLen [tupC C] = some (.int n, 5)) : ifF (notF (callF false 0 F_law_same (fCons (callF false 0 F_power_counts (fCons (fVar 3) (fCons (fVar 4) (fCons (fVar 5) fNil)))) (fCons (fTup (fCons (fN gLen (fCons (fVar 6) fNil)) (fCons (callF false 0 F_law_shows (fCons (fVar 6) fNil)) fNil))) fNil)))) (seqF (retF (fVal (.bl false)))
    nopF) nopF 1000000 [some (.scr ns, 0), some (cup a b, 1), t, some (f.d, 5), some (tupC P, 5), some (.int m, 0), some (tupC C, n6), x7, x8, x9, x10, x11, x12, none, none, none, none, none, none] = some (.nx [some (.scr ns, 0), some (cup a b, 1), t, some (f.d, 5), some (tupC P, 5), some (.int m, 0), some (tupC C, n6), x7, x8, x9, x10, x11, x12, none, none, none, none, none, none]) := by
  refine if_not (n := 0) (same_call (d := .tup [.int n, .int s]) (na := 0) (nb := 5) rfl ?_ ?_)
  · simp [FB, runB, initE, ioEnd, lvOk, seqF, ifF, nopF, retF, setF, dropF, storeF, par2F, par3F, asgF, nevF, fVar, fVal, fNil, fCons, fTup, fLst, f2, f1, fN, rds, rd, esc, escs, asgR, isEnt, im1, im2, im3, im4, im5, im6, im7, im8, ok1, ok2, ok3, ok4, ok5, ok6, ok7, ok8, gAdd, Dt.gSub, gMul, gFdiv, gMod, gNeg, gPow, gTuple, gList, Dt.g1, hAbs, hInt, hStr, itm, blO, cI, cGtI, cLeI, cGeI, cIs, isL, isDi, putItem, fDic, callF, andF, orF, notF, ifxF, chainF, neSlot, e1]
  · simp [FB, runB, initE, ioEnd, lvOk, seqF, ifF, nopF, retF, setF, dropF, storeF, par2F, par3F, asgF, nevF, fVar, fVal, fNil, fCons, fTup, fLst, f2, f1, fN, rds, rd, esc, escs, asgR, isEnt, im1, im2, im3, im4, im5, im6, im7, im8, ok1, ok2, ok3, ok4, ok5, ok6, ok7, ok8, gAdd, Dt.gSub, gMul, gFdiv, gMod, gNeg, gPow, gTuple, gList, Dt.g1, hAbs, hInt, hStr, itm, blO, cI, cGtI, cLeI, cGeI, cIs, isL, isDi, putItem, fDic, callF, andF, orF, notF, ifxF, chainF, neSlot, e2, e3]
theorem u5 (P C : List Cell) (f : Cell) (m n : Int) (n6 : Nat) (e1 : F_power_of [f.d, tupC P, .int m] = some (tupC C, .non)) (e3 : gLen [tupC C] = some (.int n, 5)) (hn : n < 129) (hC : C.length ≤ 100000) : ifF (andF (f2 (fun a b => blO (cLt a b)) (fN gLen (fCons (fVar 6) fNil)) (fVal (.int 129))) (notF (callF false 0 F_law_same (fCons (callF false 0 F_power_of (fCons (fVar 3) (fCons (fVar 4) (fCons (fVar 5) fNil)))) (fCons (fVar 6) fNil))))) (seqF (retF (fVal (.bl false)))
    nopF) nopF 1000000 [some (.scr ns, 0), some (cup a b, 1), t, some (f.d, 5), some (tupC P, 5), some (.int m, 0), some (tupC C, n6), x7, x8, x9, x10, x11, x12, none, none, none, none, none, none] = some (.nx [some (.scr ns, 0), some (cup a b, 1), t, some (f.d, 5), some (tupC P, 5), some (.int m, 0), some (tupC C, n6), x7, x8, x9, x10, x11, x12, none, none, none, none, none, none]) := by
  refine if_and_not (n1 := 5) (n := 0) ?_ (same_call (d := tupC C) (na := 0) (nb := 5) (Pl_cells 5 C hC) ?_ ?_)
  · have c1 := cLt_int n 129
    rw [decide_eq_true hn] at c1
    simp [FB, runB, initE, ioEnd, lvOk, seqF, ifF, nopF, retF, setF, dropF, storeF, par2F, par3F, asgF, nevF, fVar, fVal, fNil, fCons, fTup, fLst, f2, f1, fN, rds, rd, esc, escs, asgR, isEnt, im1, im2, im3, im4, im5, im6, im7, im8, ok1, ok2, ok3, ok4, ok5, ok6, ok7, ok8, gAdd, Dt.gSub, gMul, gFdiv, gMod, gNeg, gPow, gTuple, gList, Dt.g1, hAbs, hInt, hStr, itm, blO, cI, cGtI, cLeI, cGeI, cIs, isL, isDi, putItem, fDic, callF, andF, orF, notF, ifxF, chainF, neSlot, e3, c1]
  · simp [FB, runB, initE, ioEnd, lvOk, seqF, ifF, nopF, retF, setF, dropF, storeF, par2F, par3F, asgF, nevF, fVar, fVal, fNil, fCons, fTup, fLst, f2, f1, fN, rds, rd, esc, escs, asgR, isEnt, im1, im2, im3, im4, im5, im6, im7, im8, ok1, ok2, ok3, ok4, ok5, ok6, ok7, ok8, gAdd, Dt.gSub, gMul, gFdiv, gMod, gNeg, gPow, gTuple, gList, Dt.g1, hAbs, hInt, hStr, itm, blO, cI, cGtI, cLeI, cGeI, cIs, isL, isDi, putItem, fDic, callF, andF, orF, notF, ifxF, chainF, neSlot, e1]
  · simp [FB, runB, initE, ioEnd, lvOk, seqF, ifF, nopF, retF, setF, dropF, storeF, par2F, par3F, asgF, nevF, fVar, fVal, fNil, fCons, fTup, fLst, f2, f1, fN, rds, rd, esc, escs, asgR, isEnt, im1, im2, im3, im4, im5, im6, im7, im8, ok1, ok2, ok3, ok4, ok5, ok6, ok7, ok8, gAdd, Dt.gSub, gMul, gFdiv, gMod, gNeg, gPow, gTuple, gList, Dt.g1, hAbs, hInt, hStr, itm, blO, cI, cGtI, cLeI, cGeI, cIs, isL, isDi, putItem, fDic, callF, andF, orF, notF, ifxF, chainF, neSlot]
theorem u7 (P C C' : List Cell) (f : Cell) (m n mx : Int) (n6 : Nat) (e0 : 0 < m → F_power_of [f.d, tupC P, .int (m - 1)] = some (tupC C', .non)) (e1 : 0 < m → F_woven [tupC C', f.d, tupC P] = some (tupC C, .non)) (e3 : gLen [tupC C] = some (.int n, 5)) (hn : n < 129) (ec : c_law4 [some (.scr ns, 0), some (cup a b, 1), t, some (f.d, 5), some (tupC P, 5), some (.int m, 0), some (tupC C, n6), x7, x8, x9, x10, x11, x12, none, none, none, none, none, none] = some (.own (.lst (C.map fun c => .int (P81.mx c))) 1, [some (.scr ns, 0), some (cup a b, 1), t, some (f.d, 5), some (tupC P, 5), some (.int m, 0), some (tupC C, n6), x7, x8, x9, x10, x11, x12, none, none, none, none, none, none])) (em : hMax (.lst (C.map fun c => .int (P81.mx c))) = some (.int mx)) (hx : mx < 101) : ifF (andF (f2 (fun a b => blO (cGtI a b)) (fVar 5) (fVal (.int 0))) (andF (f2 (fun a b => blO (cLt a b)) (fN gLen (fCons (fVar 6) fNil)) (fVal (.int 129))) (f2 (fun a b => blO (cLt a b)) (fN (g1 hMax) (fCons c_law4 fNil)) (fVal (.int 101))))) (seqF (ifF (f2 (fun a b => blO ((fun a b => (cEq a b).map (!·)) a b)) (callF false 0 F_woven (fCons (callF false 0 F_power_of (fCons (fVar 3) (fCons (fVar 4) (fCons (f2 gSub (fVar 5) (fVal (.int 1))) fNil)))) (fCons (fVar 3) (fCons (fVar 4) fNil)))) (fVar 6)) (seqF (retF (fVal (.bl false)))
    nopF) nopF)
    nopF) nopF 1000000 [some (.scr ns, 0), some (cup a b, 1), t, some (f.d, 5), some (tupC P, 5), some (.int m, 0), some (tupC C, n6), x7, x8, x9, x10, x11, x12, none, none, none, none, none, none] = some (.nx [some (.scr ns, 0), some (cup a b, 1), t, some (f.d, 5), some (tupC P, 5), some (.int m, 0), some (tupC C, n6), x7, x8, x9, x10, x11, x12, none, none, none, none, none, none]) := by
  have c1 := cLt_int n 129
  rw [decide_eq_true hn] at c1
  have c2 := cLt_int mx 101
  rw [decide_eq_true hx] at c2
  have c3 := cEq_cells C C
  rw [decide_eq_true rfl] at c3
  generalize (C.map fun c => D.int (P81.mx c)) = X at *
  by_cases hm : 0 < m
  · have e0 := e0 hm
    have e1 := e1 hm
    simp [FB, runB, initE, ioEnd, lvOk, seqF, ifF, nopF, retF, setF, dropF, storeF, par2F, par3F, asgF, nevF, fVar, fVal, fNil, fCons, fTup, fLst, f2, f1, fN, rds, rd, esc, escs, asgR, isEnt, im1, im2, im3, im4, im5, im6, im7, im8, ok1, ok2, ok3, ok4, ok5, ok6, ok7, ok8, gAdd, Dt.gSub, gMul, gFdiv, gMod, gNeg, gPow, gTuple, gList, Dt.g1, hAbs, hInt, hStr, itm, blO, cI, cGtI, cLeI, cGeI, cIs, isL, isDi, putItem, fDic, callF, andF, orF, notF, ifxF, chainF, neSlot, e0, e1, e3, c1, c2, c3, ec, em, hm]
  · simp [FB, runB, initE, ioEnd, lvOk, seqF, ifF, nopF, retF, setF, dropF, storeF, par2F, par3F, asgF, nevF, fVar, fVal, fNil, fCons, fTup, fLst, f2, f1, fN, rds, rd, esc, escs, asgR, isEnt, im1, im2, im3, im4, im5, im6, im7, im8, ok1, ok2, ok3, ok4, ok5, ok6, ok7, ok8, gAdd, Dt.gSub, gMul, gFdiv, gMod, gNeg, gPow, gTuple, gList, Dt.g1, hAbs, hInt, hStr, itm, blO, cI, cGtI, cLeI, cGeI, cIs, isL, isDi, putItem, fDic, callF, andF, orF, notF, ifxF, chainF, neSlot, hm]
theorem u8 (f : Cell) (P : List Cell) (a' b' r : Int) (e : F_law_roll [cup a b, .int 201] = some (.int r, cup a' b')) : setF 10 (callF true 0 F_law_roll (fCons (fVar 1) (fCons (fVal (.int 201)) fNil))) 1000000 [some (.scr ns, 0), some (cup a b, 1), t, some (f.d, 5), some (tupC P, 5), x5, x6, x7, x8, x9, x10, x11, x12, none, none, none, none, none, none] = some (.nx [some (.scr ns, 0), some (cup a' b', 1), t, some (f.d, 5), some (tupC P, 5), x5, x6, x7, x8, x9, some (.int r, 0), x11, x12, none, none, none, none, none, none]) := by
  simp only [cup] at e ⊢
  simp [nameG, tupG, consG, nilG, oneF, z2F, z3F, enF, r1F, r2F, ctsF, ctF, chkI, Its.get, Ct.get, zip2D, zip3D, enD, wipeD, restD, immSlot, yesF, lcStep, lcGo, forGo, Its.sls, Ct.sls, FB, runB, initE, ioEnd, lvOk, seqF, ifF, nopF, retF, setF, dropF, storeF, par2F, par3F, asgF, nevF, fVar, fVal, fNil, fCons, fTup, fLst, f2, f1, fN, rds, rd, esc, escs, asgR, isEnt, im1, im2, im3, im4, im5, im6, im7, im8, ok1, ok2, ok3, ok4, ok5, ok6, ok7, ok8, gAdd, Dt.gSub, gMul, gFdiv, gMod, gNeg, gPow, gTuple, gList, Dt.g1, hAbs, hInt, hStr, itm, blO, cI, cGtI, cLeI, cGeI, cIs, isL, isDi, putItem, fDic, callF, andF, orF, notF, ifxF, chainF, neSlot, e]
theorem u9 (f : Cell) (P : List Cell) (g n s : Int) (e1 : F_power_counts [f.d, tupC P, .int g] = some (.tup [.int n, .int s], .non)) : par2F 11 12 (f2 gIx (callF false 0 F_power_counts (fCons (fVar 3) (fCons (fVar 4) (fCons (fVar 10) fNil)))) (fVal (.int 0))) (fVal (.int 1)) 1000000 [some (.scr ns, 0), some (cup a b, 1), t, some (f.d, 5), some (tupC P, 5), x5, x6, x7, x8, x9, some (.int g, 0), x11, x12, none, none, none, none, none, none] = some (.nx [some (.scr ns, 0), some (cup a b, 1), t, some (f.d, 5), some (tupC P, 5), x5, x6, x7, x8, x9, some (.int g, 0), some (.int n, 5), some (.int 1, 5), none, none, none, none, none, none]) := by
  have g0 : gIx (.tup [.int n, .int s]) (.int 0) = some (.int n, 5) := rfl
  simp [nameG, tupG, consG, nilG, oneF, z2F, z3F, enF, r1F, r2F, ctsF, ctF, chkI, Its.get, Ct.get, zip2D, zip3D, enD, wipeD, restD, immSlot, yesF, lcStep, lcGo, forGo, Its.sls, Ct.sls, FB, runB, initE, ioEnd, lvOk, seqF, ifF, nopF, retF, setF, dropF, storeF, par2F, par3F, asgF, nevF, fVar, fVal, fNil, fCons, fTup, fLst, f2, f1, fN, rds, rd, esc, escs, asgR, isEnt, im1, im2, im3, im4, im5, im6, im7, im8, ok1, ok2, ok3, ok4, ok5, ok6, ok7, ok8, gAdd, Dt.gSub, gMul, gFdiv, gMod, gNeg, gPow, gTuple, gList, Dt.g1, hAbs, hInt, hStr, itm, blO, cI, cGtI, cLeI, cGeI, cIs, isL, isDi, putItem, fDic, callF, andF, orF, notF, ifxF, chainF, neSlot, e1, g0]
theorem u11 (n : Int) : ifF (notF (callF false 0 F_law_same (fCons (fVar 11) (fCons (fVar 12) fNil)))) (seqF (retF (fVal (.bl false)))
    nopF) nopF 1000000 [some (.scr ns, 0), some (cup a b, 1), t, x3, x4, x5, x6, x7, x8, x9, x10, some (.int n, 5), some (.int n, 5), none, none, none, none, none, none] = some (.nx [some (.scr ns, 0), some (cup a b, 1), t, x3, x4, x5, x6, x7, x8, x9, x10, some (.int n, 5), some (.int n, 5), none, none, none, none, none, none]) := by
  refine if_not (n := 0) (same_call (d := .int n) (na := 5) (nb := 5) rfl ?_ ?_)
  · simp [FB, runB, initE, ioEnd, lvOk, seqF, ifF, nopF, retF, setF, dropF, storeF, par2F, par3F, asgF, nevF, fVar, fVal, fNil, fCons, fTup, fLst, f2, f1, fN, rds, rd, esc, escs, asgR, isEnt, im1, im2, im3, im4, im5, im6, im7, im8, ok1, ok2, ok3, ok4, ok5, ok6, ok7, ok8, gAdd, Dt.gSub, gMul, gFdiv, gMod, gNeg, gPow, gTuple, gList, Dt.g1, hAbs, hInt, hStr, itm, blO, cI, cGtI, cLeI, cGeI, cIs, isL, isDi, putItem, fDic, callF, andF, orF, notF, ifxF, chainF, neSlot]
  · simp [FB, runB, initE, ioEnd, lvOk, seqF, ifF, nopF, retF, setF, dropF, storeF, par2F, par3F, asgF, nevF, fVar, fVal, fNil, fCons, fTup, fLst, f2, f1, fN, rds, rd, esc, escs, asgR, isEnt, im1, im2, im3, im4, im5, im6, im7, im8, ok1, ok2, ok3, ok4, ok5, ok6, ok7, ok8, gAdd, Dt.gSub, gMul, gFdiv, gMod, gNeg, gPow, gTuple, gList, Dt.g1, hAbs, hInt, hStr, itm, blO, cI, cGtI, cLeI, cGeI, cIs, isL, isDi, putItem, fDic, callF, andF, orF, notF, ifxF, chainF, neSlot]
/-- a turn -/
theorem turn_ok (hi9 : immSlot (some x9) = true) : ∃ a' b' y3 y4 y5 y6 y7 y8 y9 y10 y11 y12, b_law8 1000000 [some (.scr ns, 0), some (cup a b, 1), t, x3, x4, x5, x6, x7, x8, x9, x10, x11, x12, none, none, none, none, none, none] = some (.nx [some (.scr ns, 0), some (cup a' b', 1), t, y3, y4, y5, y6, y7, y8, y9, y10, y11, y12, none, none, none, none, none, none]) ∧ immSlot (some y9) = true := by
  obtain ⟨f, P, a1, b1, e1, h3, hP, hl5⟩ := pattern_ok a b 5 (by omega) (by omega)
  obtain ⟨r, a2, b2, e2, l2, m2⟩ := roll_ok a1 b1 4 (by omega) (by omega)
  obtain ⟨m, rfl⟩ : ∃ m : Nat, r = m := ⟨r.toNat, by omega⟩
  have hm : m ≤ 3 := by omega
  have hl5 : P.length ≤ 5 := by omega
  have hn := nodup_of hP.sol.ris
  have hfit := hP.fit
  have hlen := pw_small (f := f) (P := P) (m := m) hm hl5
  have hne := pw_ne (f := f) m hP.ne
  obtain ⟨n6, y7, s7⟩ := law7_ok ns a2 b2 t x7 x8 x9 x10 x11 x12 f P m hP hm hl5 0
  have pc := power_counts_eq f P m (by omega) hP
  have sh := shows_eq (pw f P m) (pw_nodup hfit hn m) (by omega)
  rw [shows_pw hfit hn m] at sh
  have gl := gLen_tupC (pw f P m)
  rw [pw_len] at gl
  have e0 : ((P.length ^ m : Nat) : Int) = (P.length : Int) ^ m := by simp
  rw [e0] at gl
  have bx : ∀ j, j ≤ m → ∀ c ∈ pw f P j, box 27 c := by
    intro j hj c hc
    obtain ⟨⟨h1, h2⟩, ⟨h3, h4⟩, h5, h6⟩ := box_pw h3 hfit j c hc
    have b27 : (3 : Int) ^ j ≤ 27 := by
      have : j = 0 ∨ j = 1 ∨ j = 2 ∨ j = 3 := by omega
      rcases this with rfl | rfl | rfl | rfl <;> decide
    exact ⟨⟨h1, by omega⟩, ⟨h3, by omega⟩, h5, by omega⟩
  have hmx : ∀ j, j ≤ m → ∀ c ∈ pw f P j, P81.mx c ≤ 100 := by
    intro j hj c hc
    obtain ⟨⟨h1, h2⟩, ⟨h3, h4⟩, h5, h6⟩ := bx j hj c hc
    exact mx_le (by omega) (by omega) (by omega)
  have hpl : ∀ j, j ≤ m → P.length ^ j ≤ 128 := by
    intro j hj
    have := pw_small (f := f) (P := P) (m := j) (by omega) hl5
    rw [pw_len] at this
    omega
  have po := power_of_eq f P m (by omega) hP hpl hmx
  obtain ⟨a3, b3, y8, y9, s6, i9⟩ := law6_ok ns a2 b2 t y7 x8 x9 x10 x11 x12 f P m n6 hP h3 hm hl5 hne hi9
  obtain ⟨g, a4, b4, e4, l4, m4⟩ := roll_ok a3 b3 201 (by omega) (by omega)
  obtain ⟨g, rfl⟩ : ∃ m : Nat, g = m := ⟨g.toNat, by omega⟩
  have pcg := power_counts_eq f P g (by omega) hP
  obtain ⟨z7, s3⟩ := law3_ok ns a4 b4 t (some (f.d, 5)) (some (.int m, 0)) (some (tupC (pw f P m), n6)) y7 y8 y9 (some (.int ((P.length : Int) ^ g), 5)) f P g (by omega) hl5 5 0
  have c4 := law4_ok ns a3 b3 t y7 y8 y9 x10 x11 x12 f P (pw f P m) m (by omega) 0 n6 i9
  have s4 := u4 ns a2 b2 t y7 x8 x9 x10 x11 x12 P (pw f P m) f m _ _ n6 pc sh gl
  have l128 : ((P.length : Int) ^ m) < 129 := by
    rw [← e0]
    have := hpl m (Nat.le_refl _)
    omega
  have s5 := u5 ns a2 b2 t y7 x8 x9 x10 x11 x12 P (pw f P m) f m _ n6 po gl l128 (by omega)
  have em := hMax_cells (pw f P m) hne
  have hmx2 : mxs (pw f P m) < 101 := by
    have := mxs_le (pw f P m) 100 (by omega) (hmx m (Nat.le_refl _))
    omega
  have q0 : 0 < (m : Int) → F_power_of [f.d, tupC P, .int ((m : Int) - 1)] = some (tupC (pw f P (m - 1)), .non) := by
    intro hm0
    have e : (m : Int) - 1 = ((m - 1 : Nat) : Int) := by omega
    rw [e]
    exact power_of_eq f P (m - 1) (by omega) hP (fun j hj => hpl j (by omega)) (fun j hj => hmx j (by omega))
  have q1 : 0 < (m : Int) → F_woven [tupC (pw f P (m - 1)), f.d, tupC P] = some (tupC (pw f P m), .non) := by
    intro hm0
    obtain ⟨k, rfl⟩ : ∃ k, m = k + 1 := ⟨m - 1, by omega⟩
    rw [Nat.add_sub_cancel, pw]
    refine woven_eq f P (pw f P k) hP ⟨?_, ?_, pw_rising hfit hn k⟩ (pw_ne k hP.ne) ?_ ?_
    · rw [pw_len]; exact hpl k (by omega)
    · intro c hc
      obtain ⟨⟨h1, h2⟩, ⟨h3, h4⟩, h5, h6⟩ := bx k (by omega) c hc
      exact ⟨⟨by omega, by omega⟩, ⟨by omega, by omega⟩, by omega, by omega⟩
    · rw [pw_len, ← Nat.pow_succ]; exact hpl (k + 1) (Nat.le_refl _)
    · intro c hc
      obtain ⟨⟨h1, h2⟩, ⟨h3, h4⟩, h5, h6⟩ := bx (k + 1) (Nat.le_refl _) c hc
      exact ⟨⟨by omega, by omega⟩, ⟨by omega, by omega⟩, by omega, by omega⟩
  have s7' := u7 ns a3 b3 t y7 y8 y9 x10 x11 x12 P (pw f P m) (pw f P (m - 1)) f m _ _ n6 q0 q1 gl l128 c4 em hmx2
  have fin := seq_nx (u1 ns a b t x3 x4 x5 x6 x7 x8 x9 x10 x11 x12 P f a1 b1 e1) (seq_nx (u2 ns a1 b1 t x5 x6 x7 x8 x9 x10 x11 x12 P f a2 b2 m e2) (seq_nx s7 (seq_nx s4 (seq_nx s5 (seq_nx s6 (seq_nx s7' (seq_nx (u8 ns a3 b3 t _ _ _ _ _ _ _ _ f P a4 b4 g e4) (seq_nx (u9 ns a4 b4 t _ _ _ _ _ _ _ f P g _ _ pcg) (seq_nx s3 (seq_nx (u11 ns a4 b4 t _ _ _ _ _ _ _ _ _) (rfl : nopF 1000000 _ = _)))))))))))
  exact ⟨a4, b4, _, _, _, _, _, _, y9, _, _, _, fin, i9⟩
end
end P81
set_option Elab.async false
set_option linter.all false
set_option maxRecDepth 100000
set_option autoImplicit false
set_option maxHeartbeats 4000000
namespace P81
open PySem PySem.Spec L2 Dt Lw
def ones (c : Cell) : Nat := ([c.x, c.y, c.z].filter fun i => decide (i = 1)).length
def f3 : Cell := ⟨3, 3, 3⟩
def sponge : List Cell := (spots f3).filter fun c => decide (ones c < 2)
section
variable (ns : List Int) (a b : Int) (t x3 x4 x5 x6 x7 x8 x9 x10 x11 x12 : Option (D × Nat))
theorem v1 (c : Cell) : c_law1 [some (.scr ns, 0), some (cup a b, 1), t, x3, x4, x5, x6, x7, x8, some (c.d, 5), x10, x11, x12, none, none, none, none, none, none] = some (.own (.lst ([c.x, c.y, c.z].filterMap fun i => if decide (i = 1) = true then some (.int i) else none)) 1, [some (.scr ns, 0), some (cup a b, 1), t, x3, x4, x5, x6, x7, x8, some (c.d, 5), x10, x11, x12, none, none, none, none, none, none]) := by
  unfold c_law1
  refine lcF_fm D.int [c.x, c.y, c.z] (fun i => if decide (i = 1) = true then some (.int i) else none) (it := .one (.fz [.int c.x, .int c.y, .int c.z])) rfl rfl rfl rfl rfl rfl three ?_ rfl
  intro i hi
  by_cases q : i = 1
  · simp [nameG, tupG, consG, nilG, oneF, z2F, z3F, enF, r1F, r2F, ctsF, ctF, chkI, Its.get, Ct.get, zip2D, zip3D, enD, wipeD, restD, immSlot, yesF, lcStep, lcGo, forGo, Its.sls, Ct.sls, FB, runB, initE, ioEnd, lvOk, seqF, ifF, nopF, retF, setF, dropF, storeF, par2F, par3F, asgF, nevF, fVar, fVal, fNil, fCons, fTup, fLst, f2, f1, fN, rds, rd, esc, escs, asgR, isEnt, im1, im2, im3, im4, im5, im6, im7, im8, ok1, ok2, ok3, ok4, ok5, ok6, ok7, ok8, gAdd, Dt.gSub, gMul, gFdiv, gMod, gNeg, gPow, gTuple, gList, Dt.g1, hAbs, hInt, hStr, itm, blO, cI, cGtI, cLeI, cGeI, cIs, isL, isDi, putItem, fDic, callF, andF, orF, notF, ifxF, chainF, neSlot, cEq_int, q]
  · simp [nameG, tupG, consG, nilG, oneF, z2F, z3F, enF, r1F, r2F, ctsF, ctF, chkI, Its.get, Ct.get, zip2D, zip3D, enD, wipeD, restD, immSlot, yesF, lcStep, lcGo, forGo, Its.sls, Ct.sls, FB, runB, initE, ioEnd, lvOk, seqF, ifF, nopF, retF, setF, dropF, storeF, par2F, par3F, asgF, nevF, fVar, fVal, fNil, fCons, fTup, fLst, f2, f1, fN, rds, rd, esc, escs, asgR, isEnt, im1, im2, im3, im4, im5, im6, im7, im8, ok1, ok2, ok3, ok4, ok5, ok6, ok7, ok8, gAdd, Dt.gSub, gMul, gFdiv, gMod, gNeg, gPow, gTuple, gList, Dt.g1, hAbs, hInt, hStr, itm, blO, cI, cGtI, cLeI, cGeI, cIs, isL, isDi, putItem, fDic, callF, andF, orF, notF, ifxF, chainF, neSlot, cEq_int, q]
theorem v2 (hi9 : immSlot (some x9) = true) : c_law2 [some (.scr ns, 0), some (cup a b, 1), t, x3, x4, x5, x6, x7, x8, x9, x10, x11, x12, none, none, none, none, none, none] = some (.own (.lst (cds sponge)) 1, [some (.scr ns, 0), some (cup a b, 1), t, x3, x4, x5, x6, x7, x8, x9, x10, x11, x12, none, none, none, none, none, none]) := by
  unfold c_law2
  have sp : F_law_spots [.tup [.int 3, .int 3, .int 3]] = some (.lst (cds (spots f3)), .non) := spots_eq f3 (by decide) (by decide) (by decide) (by decide) (by decide) (by decide)
  have hi : oneF false (callF false 0 F_law_spots (fCons (fTup (fCons (fVal (.int 3)) (fCons (fVal (.int 3)) (fCons (fVal (.int 3)) fNil)))) fNil)) [some (.scr ns, 0), some (cup a b, 1), t, x3, x4, x5, x6, x7, x8, x9, x10, x11, x12, none, none, none, none, none, none] = some (.one (.fz (cds (spots f3))), [some (.scr ns, 0), some (cup a b, 1), t, x3, x4, x5, x6, x7, x8, x9, x10, x11, x12, none, none, none, none, none, none]) := by
    generalize cds (spots f3) = X at *
    simp [nameG, tupG, consG, nilG, oneF, z2F, z3F, enF, r1F, r2F, ctsF, ctF, chkI, Its.get, Ct.get, zip2D, zip3D, enD, wipeD, restD, immSlot, yesF, lcStep, lcGo, forGo, Its.sls, Ct.sls, FB, runB, initE, ioEnd, lvOk, seqF, ifF, nopF, retF, setF, dropF, storeF, par2F, par3F, asgF, nevF, fVar, fVal, fNil, fCons, fTup, fLst, f2, f1, fN, rds, rd, esc, escs, asgR, isEnt, im1, im2, im3, im4, im5, im6, im7, im8, ok1, ok2, ok3, ok4, ok5, ok6, ok7, ok8, gAdd, Dt.gSub, gMul, gFdiv, gMod, gNeg, gPow, gTuple, gList, Dt.g1, hAbs, hInt, hStr, itm, blO, cI, cGtI, cLeI, cGeI, cIs, isL, isDi, putItem, fDic, callF, andF, orF, notF, ifxF, chainF, neSlot, sp]
  have e : cds sponge = (spots f3).filterMap (fun c => if decide (ones c < 2) = true then some c.d else none) := by
    unfold sponge cds
    generalize spots f3 = l
    induction l with
    | nil => rfl
    | cons c l ih =>
      by_cases q : ones c < 2 <;> simp [q, ih]
  rw [e]
  refine lcF_fm Cell.d (spots f3) (fun c => if decide (ones c < 2) = true then some c.d else none) (it := .one (.fz (cds (spots f3)))) hi rfl rfl rfl (by simpa [immSlot] using hi9) rfl (lt_lim (by rw [spots_len]; decide)) ?_ rfl
  intro c hc
  have g := v1 ns a b t x3 x4 x5 x6 x7 x8 x10 x11 x12 c
  have gl : gLen [.lst ([c.x, c.y, c.z].filterMap fun i => if decide (i = 1) = true then some (.int i) else none)] = some (.int (ones c : Nat), 5) := by
    simp only [gLen]
    rw [fm_len (fun i : Int => decide (i = 1)) D.int]
    rfl
  have cl := cLt_int (ones c : Nat) 2
  have eq2 : decide (((ones c : Nat) : Int) < 2) = decide (ones c < 2) := decide_eq_decide.mpr (by omega)
  rw [eq2] at cl
  generalize decide (ones c < 2) = bb at *
  generalize ((ones c : Nat) : Int) = n at *
  generalize ([c.x, c.y, c.z].filterMap fun i => if decide (i = 1) = true then some (D.int i) else none) = X at *
  cases bb
  · simp [nameG, tupG, consG, nilG, oneF, z2F, z3F, enF, r1F, r2F, ctsF, ctF, chkI, Its.get, Ct.get, zip2D, zip3D, enD, wipeD, restD, immSlot, yesF, lcStep, lcGo, forGo, Its.sls, Ct.sls, FB, runB, initE, ioEnd, lvOk, seqF, ifF, nopF, retF, setF, dropF, storeF, par2F, par3F, asgF, nevF, fVar, fVal, fNil, fCons, fTup, fLst, f2, f1, fN, rds, rd, esc, escs, asgR, isEnt, im1, im2, im3, im4, im5, im6, im7, im8, ok1, ok2, ok3, ok4, ok5, ok6, ok7, ok8, gAdd, Dt.gSub, gMul, gFdiv, gMod, gNeg, gPow, gTuple, gList, Dt.g1, hAbs, hInt, hStr, itm, blO, cI, cGtI, cLeI, cGeI, cIs, isL, isDi, putItem, fDic, callF, andF, orF, notF, ifxF, chainF, neSlot, g, gl, cl]
  · simp [nameG, tupG, consG, nilG, oneF, z2F, z3F, enF, r1F, r2F, ctsF, ctF, chkI, Its.get, Ct.get, zip2D, zip3D, enD, wipeD, restD, immSlot, yesF, lcStep, lcGo, forGo, Its.sls, Ct.sls, FB, runB, initE, ioEnd, lvOk, seqF, ifF, nopF, retF, setF, dropF, storeF, par2F, par3F, asgF, nevF, fVar, fVal, fNil, fCons, fTup, fLst, f2, f1, fN, rds, rd, esc, escs, asgR, isEnt, im1, im2, im3, im4, im5, im6, im7, im8, ok1, ok2, ok3, ok4, ok5, ok6, ok7, ok8, gAdd, Dt.gSub, gMul, gFdiv, gMod, gNeg, gPow, gTuple, gList, Dt.g1, hAbs, hInt, hStr, itm, blO, cI, cGtI, cLeI, cGeI, cIs, isL, isDi, putItem, fDic, callF, andF, orF, notF, ifxF, chainF, neSlot, g, gl, cl]
end
theorem sponge_pat : Pat f3 sponge := by
  refine ⟨by unfold inR f3; decide, ⟨by decide +kernel, ?_, by decide +kernel⟩, by decide +kernel, fun c hc => mem_spots (List.mem_filter.mp hc).1⟩
  intro c hc
  obtain ⟨⟨h1, h2⟩, ⟨h3, h4⟩, h5, h6⟩ := mem_spots (List.mem_filter.mp hc).1
  simp only [f3] at h2 h4 h6
  exact ⟨⟨by omega, by omega⟩, ⟨by omega, by omega⟩, by omega, by omega⟩
theorem pc_sponge (m : Nat) (hm : m ≤ 200) (n s : Int) (h1 : ((sponge.length : Nat) : Int) ^ m = n) (h2 : 6 * ((sponge.length : Nat) : Int) ^ m - 2 * (tot f3 sponge 0 m + tot f3 sponge 1 m + tot f3 sponge 2 m) = s) : F_power_counts [.tup [.int 3, .int 3, .int 3], tupC sponge, .int m] = some (.tup [.int n, .int s], .non) := by
  have := power_counts_eq f3 sponge m hm sponge_pat
  rw [h2, h1] at this
  exact this
theorem pc1 : F_power_counts [.tup [.int 3, .int 3, .int 3], tupC sponge, .int 1] = some (.tup [.int 20, .int 72], .non) := pc_sponge 1 (by omega) 20 72 (by decide +kernel) (by decide +kernel)
theorem pc2 : F_power_counts [.tup [.int 3, .int 3, .int 3], tupC sponge, .int 2] = some (.tup [.int 400, .int 1056], .non) := pc_sponge 2 (by omega) 400 1056 (by decide +kernel) (by decide +kernel)
theorem pc3 : F_power_counts [.tup [.int 3, .int 3, .int 3], tupC sponge, .int 3] = some (.tup [.int 8000, .int 18048], .non) := pc_sponge 3 (by omega) 8000 18048 (by decide +kernel) (by decide +kernel)
theorem hs0 : ∀ m, hs f3 sponge m ⟨0, 0, 0⟩ = true
  | 0 => rfl
  | m + 1 => by
    have e1 : rst ⟨0, 0, 0⟩ f3 ∈ sponge := by decide +kernel
    have e2 : hom ⟨0, 0, 0⟩ f3 = ⟨0, 0, 0⟩ := by decide +kernel
    rw [hs, e2, hs0 m]
    simp [e1]
theorem hs1 (m : Nat) : hs f3 sponge (m + 1) ⟨1, 1, 0⟩ = false := by
  have e1 : rst ⟨1, 1, 0⟩ f3 ∉ sponge := by decide +kernel
  simp [hs, e1]
theorem ph0 (m : Nat) (hm : m ≤ 200) : F_power_has [.tup [.int 3, .int 3, .int 3], tupC sponge, .int m, .tup [.int 0, .int 0, .int 0]] = some (.bl true, .non) := by
  have := power_has_eq f3 sponge m hm sponge_pat ⟨0, 0, 0⟩ (by unfold inR; decide)
  rw [hs0] at this
  exact this
theorem ph1 (m : Nat) (hm : m ≤ 200) (h0 : 0 < m) : F_power_has [.tup [.int 3, .int 3, .int 3], tupC sponge, .int m, .tup [.int 1, .int 1, .int 0]] = some (.bl false, .non) := by
  obtain ⟨k, rfl⟩ : ∃ k, m = k + 1 := ⟨m - 1, by omega⟩
  have := power_has_eq f3 sponge (k + 1) hm sponge_pat ⟨1, 1, 0⟩ (by unfold inR; decide)
  rw [hs1] at this
  exact this
section
variable (ns : List Int) (a b : Int) (t x3 x4 x5 x6 x7 x8 x9 x10 x11 x12 : Option (D × Nat))
def told3 : D := .tup [.tup [.int 20, .int 72], .tup [.int 400, .int 1056], .tup [.int 8000, .int 18048]]
theorem w3 (Y : List Cell) : setF 14 (fN gTuple (fCons (fVar 13) fNil)) 1000000 [some (.scr ns, 0), some (cup a b, 1), t, x3, x4, x5, x6, x7, x8, x9, x10, x11, x12, some (.lst (cds Y), 1), none, none, none, none, none] = some (.nx [some (.scr ns, 0), some (cup a b, 1), t, x3, x4, x5, x6, x7, x8, x9, x10, x11, x12, some (.lst (cds Y), 1), some (tupC Y, 5), none, none, none, none]) := by
  have gt := gTuple_cds Y
  simp [FB, runB, initE, ioEnd, lvOk, seqF, ifF, nopF, retF, setF, dropF, storeF, par2F, par3F, asgF, nevF, fVar, fVal, fNil, fCons, fTup, fLst, f2, f1, fN, rds, rd, esc, escs, asgR, isEnt, im1, im2, im3, im4, im5, im6, im7, im8, ok1, ok2, ok3, ok4, ok5, ok6, ok7, ok8, gAdd, Dt.gSub, gMul, gFdiv, gMod, gNeg, gPow, gTuple, gList, Dt.g1, hAbs, hInt, hStr, itm, blO, cI, cGtI, cLeI, cGeI, cIs, isL, isDi, putItem, fDic, callF, andF, orF, notF, ifxF, chainF, neSlot, -gTuple, gt]
theorem w4 (Y : List Cell) (h1 : F_power_counts [.tup [.int 3, .int 3, .int 3], tupC Y, .int 1] = some (.tup [.int 20, .int 72], .non)) (h2 : F_power_counts [.tup [.int 3, .int 3, .int 3], tupC Y, .int 2] = some (.tup [.int 400, .int 1056], .non)) (h3 : F_power_counts [.tup [.int 3, .int 3, .int 3], tupC Y, .int 3] = some (.tup [.int 8000, .int 18048], .non)) : setF 15 (fTup (fCons (callF false 0 F_power_counts (fCons (fTup (fCons (fVal (.int 3)) (fCons (fVal (.int 3)) (fCons (fVal (.int 3)) fNil)))) (fCons (fVar 14) (fCons (fVal (.int 1)) fNil)))) (fCons (callF false 0 F_power_counts (fCons (fTup (fCons (fVal (.int 3)) (fCons (fVal (.int 3)) (fCons (fVal (.int 3)) fNil)))) (fCons (fVar 14) (fCons (fVal (.int 2)) fNil)))) (fCons (callF false 0 F_power_counts (fCons (fTup (fCons (fVal (.int 3)) (fCons (fVal (.int 3)) (fCons (fVal (.int 3)) fNil)))) (fCons (fVar 14) (fCons (fVal (.int 3)) fNil)))) fNil)))) 1000000 [some (.scr ns, 0), some (cup a b, 1), t, x3, x4, x5, x6, x7, x8, x9, x10, x11, x12, some (.lst (cds Y), 1), some (tupC Y, 5), none, none, none, none] = some (.nx [some (.scr ns, 0), some (cup a b, 1), t, x3, x4, x5, x6, x7, x8, x9, x10, x11, x12, some (.lst (cds Y), 1), some (tupC Y, 5), some (told3, 5), none, none, none]) := by
  simp [FB, runB, initE, ioEnd, lvOk, seqF, ifF, nopF, retF, setF, dropF, storeF, par2F, par3F, asgF, nevF, fVar, fVal, fNil, fCons, fTup, fLst, f2, f1, fN, rds, rd, esc, escs, asgR, isEnt, im1, im2, im3, im4, im5, im6, im7, im8, ok1, ok2, ok3, ok4, ok5, ok6, ok7, ok8, gAdd, Dt.gSub, gMul, gFdiv, gMod, gNeg, gPow, gTuple, gList, Dt.g1, hAbs, hInt, hStr, itm, blO, cI, cGtI, cLeI, cGeI, cIs, isL, isDi, putItem, fDic, callF, andF, orF, notF, ifxF, chainF, neSlot, h1, h2, h3, told3]
theorem w5 (Y : List Cell) : ifF (notF (callF false 0 F_law_same (fCons (fVar 15) (fCons (fTup (fCons (fTup (fCons (fVal (.int 20)) (fCons (fVal (.int 72)) fNil))) (fCons (fTup (fCons (fVal (.int 400)) (fCons (fVal (.int 1056)) fNil))) (fCons (fTup (fCons (fVal (.int 8000)) (fCons (fVal (.int 18048)) fNil))) fNil)))) fNil)))) (seqF (retF (fVal (.bl false)))
    nopF) nopF 1000000 [some (.scr ns, 0), some (cup a b, 1), t, x3, x4, x5, x6, x7, x8, x9, x10, x11, x12, some (.lst (cds Y), 1), some (tupC Y, 5), some (told3, 5), none, none, none] = some (.nx [some (.scr ns, 0), some (cup a b, 1), t, x3, x4, x5, x6, x7, x8, x9, x10, x11, x12, some (.lst (cds Y), 1), some (tupC Y, 5), some (told3, 5), none, none, none]) := by
  refine if_not (n := 0) (same_call (d := told3) (na := 5) (nb := 5) rfl ?_ ?_)
  · simp [FB, runB, initE, ioEnd, lvOk, seqF, ifF, nopF, retF, setF, dropF, storeF, par2F, par3F, asgF, nevF, fVar, fVal, fNil, fCons, fTup, fLst, f2, f1, fN, rds, rd, esc, escs, asgR, isEnt, im1, im2, im3, im4, im5, im6, im7, im8, ok1, ok2, ok3, ok4, ok5, ok6, ok7, ok8, gAdd, Dt.gSub, gMul, gFdiv, gMod, gNeg, gPow, gTuple, gList, Dt.g1, hAbs, hInt, hStr, itm, blO, cI, cGtI, cLeI, cGeI, cIs, isL, isDi, putItem, fDic, callF, andF, orF, notF, ifxF, chainF, neSlot, told3]
  · simp [FB, runB, initE, ioEnd, lvOk, seqF, ifF, nopF, retF, setF, dropF, storeF, par2F, par3F, asgF, nevF, fVar, fVal, fNil, fCons, fTup, fLst, f2, f1, fN, rds, rd, esc, escs, asgR, isEnt, im1, im2, im3, im4, im5, im6, im7, im8, ok1, ok2, ok3, ok4, ok5, ok6, ok7, ok8, gAdd, Dt.gSub, gMul, gFdiv, gMod, gNeg, gPow, gTuple, gList, Dt.g1, hAbs, hInt, hStr, itm, blO, cI, cGtI, cLeI, cGeI, cIs, isL, isDi, putItem, fDic, callF, andF, orF, notF, ifxF, chainF, neSlot, told3]
theorem w6 (Y : List Cell) (a' b' r : Int) (e : F_law_roll [cup a b, .int 60] = some (.int r, cup a' b')) : setF 16 (f2 gAdd (fVal (.int 40)) (callF true 0 F_law_roll (fCons (fVar 1) (fCons (fVal (.int 60)) fNil)))) 1000000 [some (.scr ns, 0), some (cup a b, 1), t, x3, x4, x5, x6, x7, x8, x9, x10, x11, x12, some (.lst (cds Y), 1), some (tupC Y, 5), some (told3, 5), none, none, none] = some (.nx [some (.scr ns, 0), some (cup a' b', 1), t, x3, x4, x5, x6, x7, x8, x9, x10, x11, x12, some (.lst (cds Y), 1), some (tupC Y, 5), some (told3, 5), some (.int (40 + r), 5), none, none]) := by
  simp only [cup] at e ⊢
  simp [FB, runB, initE, ioEnd, lvOk, seqF, ifF, nopF, retF, setF, dropF, storeF, par2F, par3F, asgF, nevF, fVar, fVal, fNil, fCons, fTup, fLst, f2, f1, fN, rds, rd, esc, escs, asgR, isEnt, im1, im2, im3, im4, im5, im6, im7, im8, ok1, ok2, ok3, ok4, ok5, ok6, ok7, ok8, gAdd, Dt.gSub, gMul, gFdiv, gMod, gNeg, gPow, gTuple, gList, Dt.g1, hAbs, hInt, hStr, itm, blO, cI, cGtI, cLeI, cGeI, cIs, isL, isDi, putItem, fDic, callF, andF, orF, notF, ifxF, chainF, neSlot, e]
theorem w7 (Y : List Cell) (g : Int) (h0 : F_power_has [.tup [.int 3, .int 3, .int 3], tupC Y, .int g, .tup [.int 0, .int 0, .int 0]] = some (.bl true, .non)) (h1 : F_power_has [.tup [.int 3, .int 3, .int 3], tupC Y, .int g, .tup [.int 1, .int 1, .int 0]] = some (.bl false, .non)) : ∃ ρ, retF (callF false 0 F_law_same (fCons (fTup (fCons (callF false 0 F_power_has (fCons (fTup (fCons (fVal (.int 3)) (fCons (fVal (.int 3)) (fCons (fVal (.int 3)) fNil)))) (fCons (fVar 14) (fCons (fVar 16) (fCons (fTup (fCons (fVal (.int 0)) (fCons (fVal (.int 0)) (fCons (fVal (.int 0)) fNil)))) fNil))))) (fCons (callF false 0 F_power_has (fCons (fTup (fCons (fVal (.int 3)) (fCons (fVal (.int 3)) (fCons (fVal (.int 3)) fNil)))) (fCons (fVar 14) (fCons (fVar 16) (fCons (fTup (fCons (fVal (.int 1)) (fCons (fVal (.int 1)) (fCons (fVal (.int 0)) fNil)))) fNil))))) fNil))) (fCons (fTup (fCons (fVal (.bl true)) (fCons (fVal (.bl false)) fNil))) fNil))) 1000000 [some (.scr ns, 0), some (cup a b, 1), t, x3, x4, x5, x6, x7, x8, x9, x10, x11, x12, some (.lst (cds Y), 1), some (tupC Y, 5), some (told3, 5), some (.int g, 5), none, none] = some (.rt (.bl true) 0 ρ) := by
  have sc := same_call (A := fTup (fCons (callF false 0 F_power_has (fCons (fTup (fCons (fVal (.int 3)) (fCons (fVal (.int 3)) (fCons (fVal (.int 3)) fNil)))) (fCons (fVar 14) (fCons (fVar 16) (fCons (fTup (fCons (fVal (.int 0)) (fCons (fVal (.int 0)) (fCons (fVal (.int 0)) fNil)))) fNil))))) (fCons (callF false 0 F_power_has (fCons (fTup (fCons (fVal (.int 3)) (fCons (fVal (.int 3)) (fCons (fVal (.int 3)) fNil)))) (fCons (fVar 14) (fCons (fVar 16) (fCons (fTup (fCons (fVal (.int 1)) (fCons (fVal (.int 1)) (fCons (fVal (.int 0)) fNil)))) fNil))))) fNil))) (B := fTup (fCons (fVal (.bl true)) (fCons (fVal (.bl false)) fNil))) (ρ := [some (.scr ns, 0), some (cup a b, 1), t, x3, x4, x5, x6, x7, x8, x9, x10, x11, x12, some (.lst (cds Y), 1), some (tupC Y, 5), some (told3, 5), some (.int g, 5), none, none]) (d := .tup [.bl true, .bl false]) (na := 5) (nb := 5) rfl (by simp [FB, runB, initE, ioEnd, lvOk, seqF, ifF, nopF, retF, setF, dropF, storeF, par2F, par3F, asgF, nevF, fVar, fVal, fNil, fCons, fTup, fLst, f2, f1, fN, rds, rd, esc, escs, asgR, isEnt, im1, im2, im3, im4, im5, im6, im7, im8, ok1, ok2, ok3, ok4, ok5, ok6, ok7, ok8, gAdd, Dt.gSub, gMul, gFdiv, gMod, gNeg, gPow, gTuple, gList, Dt.g1, hAbs, hInt, hStr, itm, blO, cI, cGtI, cLeI, cGeI, cIs, isL, isDi, putItem, fDic, callF, andF, orF, notF, ifxF, chainF, neSlot, h0, h1]) (by simp [FB, runB, initE, ioEnd, lvOk, seqF, ifF, nopF, retF, setF, dropF, storeF, par2F, par3F, asgF, nevF, fVar, fVal, fNil, fCons, fTup, fLst, f2, f1, fN, rds, rd, esc, escs, asgR, isEnt, im1, im2, im3, im4, im5, im6, im7, im8, ok1, ok2, ok3, ok4, ok5, ok6, ok7, ok8, gAdd, Dt.gSub, gMul, gFdiv, gMod, gNeg, gPow, gTuple, gList, Dt.g1, hAbs, hInt, hStr, itm, blO, cI, cGtI, cLeI, cGeI, cIs, isL, isDi, putItem, fDic, callF, andF, orF, notF, ifxF, chainF, neSlot])
  have hr : ∀ (e : EF) (ρ : DEnv), e ρ = some (.own (.bl true) 0, ρ) → ∃ ρ', retF e 1000000 ρ = some (.rt (.bl true) 0 ρ') := fun e ρ h => ⟨ρ, by unfold retF; rw [h]⟩
  exact hr _ _ sc
end
theorem law_ok (ns : List Int) (hns : ns.length ≤ 63) : ∃ d0, F_law [.scr ns] = some (.bl true, d0) := by
  obtain ⟨a0, b0, ec⟩ := cup_ok ns hns
  have s1 : setF 1 (callF false 1 F_law_cup (fCons (fVar 0) fNil)) 1000000 (initE false 19 [.scr ns]) = some (.nx [some (.scr ns, 0), some (cup a0 b0, 1), none, none, none, none, none, none, none, none, none, none, none, none, none, none, none, none, none]) := by
    simp [FB, runB, initE, ioEnd, lvOk, seqF, ifF, nopF, retF, setF, dropF, storeF, par2F, par3F, asgF, nevF, fVar, fVal, fNil, fCons, fTup, fLst, f2, f1, fN, rds, rd, esc, escs, asgR, isEnt, im1, im2, im3, im4, im5, im6, im7, im8, ok1, ok2, ok3, ok4, ok5, ok6, ok7, ok8, gAdd, Dt.gSub, gMul, gFdiv, gMod, gNeg, gPow, gTuple, gList, Dt.g1, hAbs, hInt, hStr, itm, blO, cI, cGtI, cLeI, cGeI, cIs, isL, isDi, putItem, fDic, callF, andF, orF, notF, ifxF, chainF, neSlot, ec, cup, im9]
  have L : ∃ a b t x3 x4 x5 x6 x7 x8 x9 x10 x11 x12, l_law8 1000000 [some (.scr ns, 0), some (cup a0 b0, 1), none, none, none, none, none, none, none, none, none, none, none, none, none, none, none, none, none] = some (.nx [some (.scr ns, 0), some (cup a b, 1), t, x3, x4, x5, x6, x7, x8, x9, x10, x11, x12, none, none, none, none, none, none]) ∧ immSlot (some x9) = true := by
    have e := forF_rng (asg := [2, 3, 4, 5, 6, 7, 6, 8, 9, 9, 10, 11, 12, 7, 12]) (fs := fCons (fVal (.int 5)) fNil) (g := nameG 2) (f := b_law8) (fuel := 1000000) (ρ := [some (.scr ns, 0), some (cup a0 b0, 1), none, none, none, none, none, none, none, none, none, none, none, none, none, none, none, none, none]) (r := .own (.int 5) 5) (m := 5) (ρ1 := [some (.scr ns, 0), some (cup a0 b0, 1), none, none, none, none, none, none, none, none, none, none, none, none, none, none, none, none, none]) (by rfl) rfl (by omega) (by omega)
    obtain ⟨ρ', h4, a', b', t, x3, x4, x5, x6, x7, x8, x9, x10, x11, x12, h5, h6⟩ := forGo_const (g := nameG 2) (f := b_law8) (fuel := 1000000) rk (fun ρ => ∃ a b t x3 x4 x5 x6 x7 x8 x9 x10 x11 x12, ρ = [some (.scr ns, 0), some (cup a b, 1), t, x3, x4, x5, x6, x7, x8, x9, x10, x11, x12, none, none, none, none, none, none] ∧ immSlot (some x9) = true) (List.range (5 : Int).toNat) (fun k hk ρ ⟨a, b, t, x3, x4, x5, x6, x7, x8, x9, x10, x11, x12, hy, hi⟩ => by
      subst hy
      obtain ⟨a', b', y3, y4, y5, y6, y7, y8, y9, y10, y11, y12, h, hj⟩ := turn_ok ns a b (some (rk k, 5)) x3 x4 x5 x6 x7 x8 x9 x10 x11 x12 hi
      exact ⟨_, _, rfl, h, a', b', _, y3, y4, y5, y6, y7, y8, y9, y10, y11, y12, rfl, hj⟩) [some (.scr ns, 0), some (cup a0 b0, 1), none, none, none, none, none, none, none, none, none, none, none, none, none, none, none, none, none] ⟨a0, b0, none, none, none, none, none, none, none, none, none, none, none, rfl, rfl⟩
    exact ⟨a', b', t, x3, x4, x5, x6, x7, x8, x9, x10, x11, x12, by unfold l_law8; rw [e, h4, h5], h6⟩
  obtain ⟨a, b, t, x3, x4, x5, x6, x7, x8, x9, x10, x11, x12, L, hi⟩ := L
  have s2 := set_own (i := 13) (fuel := 1000000) (v2 ns a b t x3 x4 x5 x6 x7 x8 x9 x10 x11 x12 hi) rfl
  obtain ⟨r, a2, b2, e2, l2, m2⟩ := roll_ok a b 60 (by omega) (by omega)
  obtain ⟨g, hg⟩ : ∃ m : Nat, 40 + r = m := ⟨(40 + r).toNat, by omega⟩
  have p0 := ph0 g (by omega)
  have p1 := ph1 g (by omega) (by omega)
  rw [← hg] at p0 p1
  obtain ⟨ρ, h7⟩ := w7 ns a2 b2 t x3 x4 x5 x6 x7 x8 x9 x10 x11 x12 sponge (40 + r) p0 p1
  have fin := seq_nx s1 (seq_nx L (seq_nx s2 (seq_nx (w3 ns a b t x3 x4 x5 x6 x7 x8 x9 x10 x11 x12 sponge) (seq_nx (w4 ns a b t x3 x4 x5 x6 x7 x8 x9 x10 x11 x12 sponge pc1 pc2 pc3) (seq_nx (w5 ns a b t x3 x4 x5 x6 x7 x8 x9 x10 x11 x12 sponge) (seq_nx (w6 ns a b t x3 x4 x5 x6 x7 x8 x9 x10 x11 x12 sponge a2 b2 r e2) (seq_rt (g := nopF) h7)))))))
  exact ⟨_, FB_rt (rl := 0) fin rfl⟩
end P81
set_option Elab.async false
set_option linter.all false
set_option maxRecDepth 100000
set_option maxHeartbeats 0
set_option autoImplicit false
/-! Printed by gen.py: the defs of the law, read on trees. -/
namespace Lw
open PySem PySem.Spec L2 Dt
open PyProof.Rows hiding St
def top (i : Nat) : Stmt := PySem.Challenge.pw_cubegrounds_k81_whole_powers_of_patterns.main.body.getD i (.Pass ⟨0, 0, 0, 0⟩)
abbrev s_is_whole : Stmt := top 10
abbrev s_fits_whole : Stmt := top 11
abbrev s_is_tuple_of : Stmt := top 12
abbrev s_is_rising : Stmt := top 13
abbrev s_fits_cell : Stmt := top 14
abbrev s_fits_solid : Stmt := top 15
abbrev s_need_solid : Stmt := top 16
abbrev s_need_some : Stmt := top 17
abbrev s_fits_sides : Stmt := top 22
abbrev s_need_sides : Stmt := top 23
abbrev s_need_pattern : Stmt := top 24
abbrev s_times_cell : Stmt := top 25
abbrev s_plus : Stmt := top 26
abbrev s_home_in : Stmt := top 27
abbrev s_woven_in : Stmt := top 28
abbrev s_solid_of : Stmt := top 29
abbrev s_touches_in : Stmt := top 30
abbrev s_meets_in : Stmt := top 31
abbrev s_counts_in : Stmt := top 32
abbrev s_woven : Stmt := top 33
abbrev s_power_of : Stmt := top 34
abbrev s_power_counts : Stmt := top 35
abbrev s_power_has : Stmt := top 36
abbrev s_law_cup : Stmt := top 38
abbrev s_law_roll : Stmt := top 39
abbrev s_law_some : Stmt := top 40
abbrev s_law_same : Stmt := top 41
abbrev s_law_beside : Stmt := top 42
abbrev s_law_spots : Stmt := top 43
abbrev s_law_woven : Stmt := top 44
abbrev s_law_pattern : Stmt := top 45
abbrev s_law_shows : Stmt := top 46
abbrev s_law : Stmt := top 47
/-- what the head tells -/
structure Fx (K : PySem.W.Frag) (mg : Str → Option Value) : Prop where
  m_isinstance : mg "isinstance" = none
  m_int : mg "int" = none
  m_bool : mg "bool" = none
  m_tuple : mg "tuple" = none
  m_len : mg "len" = none
  m_all : mg "all" = none
  m_zip : mg "zip" = none
  m_sorted : mg "sorted" = none
  m_enumerate : mg "enumerate" = none
  m_sum : mg "sum" = none
  m_range : mg "range" = none
  m_max : mg "max" = none
  m_abs : mg "abs" = none
  m_list : mg "list" = none
  m_str : mg "str" = none
  m_dict : mg "dict" = none
  i_FAR : ∃ t, mg "FAR" = some (.int 100 t)
  i_MANY : ∃ t, mg "MANY" = some (.int 128 t)
  i_SIDE : ∃ t, mg "SIDE" = some (.int 20 t)
  i_POWER : ∃ t, mg "POWER" = some (.int 200 t)
  t_ORIGIN : mg "ORIGIN" = some (.ref (He.ga K "ORIGIN")) ∧ KTup K (He.ga K "ORIGIN") (List.map V.int [0, 0, 0])
  g_is_whole : mg "is_whole" = some (.ref (He.ga K "is_whole"))
  d_is_whole : ∃ fd, FunD K "is_whole" "is_whole" (defArgs s_is_whole) (defBody s_is_whole) (defScope s_is_whole) [] [] (He.ga K "is_whole") fd
  g_fits_whole : mg "fits_whole" = some (.ref (He.ga K "fits_whole"))
  d_fits_whole : ∃ fd, FunD K "fits_whole" "fits_whole" (defArgs s_fits_whole) (defBody s_fits_whole) (defScope s_fits_whole) [] [] (He.ga K "fits_whole") fd
  g_is_tuple_of : mg "is_tuple_of" = some (.ref (He.ga K "is_tuple_of"))
  d_is_tuple_of : ∃ fd, FunD K "is_tuple_of" "is_tuple_of" (defArgs s_is_tuple_of) (defBody s_is_tuple_of) (defScope s_is_tuple_of) [] [] (He.ga K "is_tuple_of") fd
  g_is_rising : mg "is_rising" = some (.ref (He.ga K "is_rising"))
  d_is_rising : ∃ fd, FunD K "is_rising" "is_rising" (defArgs s_is_rising) (defBody s_is_rising) (defScope s_is_rising) [] [] (He.ga K "is_rising") fd
  g_fits_cell : mg "fits_cell" = some (.ref (He.ga K "fits_cell"))
  d_fits_cell : ∃ fd, FunD K "fits_cell" "fits_cell" (defArgs s_fits_cell) (defBody s_fits_cell) (defScope s_fits_cell) [] [] (He.ga K "fits_cell") fd
  g_fits_solid : mg "fits_solid" = some (.ref (He.ga K "fits_solid"))
  d_fits_solid : ∃ fd, FunD K "fits_solid" "fits_solid" (defArgs s_fits_solid) (defBody s_fits_solid) (defScope s_fits_solid) [] [] (He.ga K "fits_solid") fd
  g_need_solid : mg "need_solid" = some (.ref (He.ga K "need_solid"))
  d_need_solid : ∃ fd, FunD K "need_solid" "need_solid" (defArgs s_need_solid) (defBody s_need_solid) (defScope s_need_solid) [] [] (He.ga K "need_solid") fd
  g_need_some : mg "need_some" = some (.ref (He.ga K "need_some"))
  d_need_some : ∃ fd, FunD K "need_some" "need_some" (defArgs s_need_some) (defBody s_need_some) (defScope s_need_some) [] [] (He.ga K "need_some") fd
  g_fits_sides : mg "fits_sides" = some (.ref (He.ga K "fits_sides"))
  d_fits_sides : ∃ fd, FunD K "fits_sides" "fits_sides" (defArgs s_fits_sides) (defBody s_fits_sides) (defScope s_fits_sides) [] [] (He.ga K "fits_sides") fd
  g_need_sides : mg "need_sides" = some (.ref (He.ga K "need_sides"))
  d_need_sides : ∃ fd, FunD K "need_sides" "need_sides" (defArgs s_need_sides) (defBody s_need_sides) (defScope s_need_sides) [] [] (He.ga K "need_sides") fd
  g_need_pattern : mg "need_pattern" = some (.ref (He.ga K "need_pattern"))
  d_need_pattern : ∃ fd, FunD K "need_pattern" "need_pattern" (defArgs s_need_pattern) (defBody s_need_pattern) (defScope s_need_pattern) [] [] (He.ga K "need_pattern") fd
  g_times_cell : mg "times_cell" = some (.ref (He.ga K "times_cell"))
  d_times_cell : ∃ fd, FunD K "times_cell" "times_cell" (defArgs s_times_cell) (defBody s_times_cell) (defScope s_times_cell) [] [] (He.ga K "times_cell") fd
  g_plus : mg "plus" = some (.ref (He.ga K "plus"))
  d_plus : ∃ fd, FunD K "plus" "plus" (defArgs s_plus) (defBody s_plus) (defScope s_plus) [] [] (He.ga K "plus") fd
  g_home_in : mg "home_in" = some (.ref (He.ga K "home_in"))
  d_home_in : ∃ fd, FunD K "home_in" "home_in" (defArgs s_home_in) (defBody s_home_in) (defScope s_home_in) [] [] (He.ga K "home_in") fd
  g_woven_in : mg "woven_in" = some (.ref (He.ga K "woven_in"))
  d_woven_in : ∃ fd, FunD K "woven_in" "woven_in" (defArgs s_woven_in) (defBody s_woven_in) (defScope s_woven_in) [] [] (He.ga K "woven_in") fd
  g_solid_of : mg "solid_of" = some (.ref (He.ga K "solid_of"))
  d_solid_of : ∃ fd, FunD K "solid_of" "solid_of" (defArgs s_solid_of) (defBody s_solid_of) (defScope s_solid_of) [] [] (He.ga K "solid_of") fd
  g_touches_in : mg "touches_in" = some (.ref (He.ga K "touches_in"))
  d_touches_in : ∃ fd, FunD K "touches_in" "touches_in" (defArgs s_touches_in) (defBody s_touches_in) (defScope s_touches_in) [] [] (He.ga K "touches_in") fd
  g_meets_in : mg "meets_in" = some (.ref (He.ga K "meets_in"))
  d_meets_in : ∃ fd, FunD K "meets_in" "meets_in" (defArgs s_meets_in) (defBody s_meets_in) (defScope s_meets_in) [] [] (He.ga K "meets_in") fd
  g_counts_in : mg "counts_in" = some (.ref (He.ga K "counts_in"))
  d_counts_in : ∃ fd, FunD K "counts_in" "counts_in" (defArgs s_counts_in) (defBody s_counts_in) (defScope s_counts_in) [] [] (He.ga K "counts_in") fd
  g_woven : mg "woven" = some (.ref (He.ga K "woven"))
  d_woven : ∃ fd, FunD K "woven" "woven" (defArgs s_woven) (defBody s_woven) (defScope s_woven) [] [] (He.ga K "woven") fd
  g_power_of : mg "power_of" = some (.ref (He.ga K "power_of"))
  d_power_of : ∃ fd, FunD K "power_of" "power_of" (defArgs s_power_of) (defBody s_power_of) (defScope s_power_of) [] [] (He.ga K "power_of") fd
  g_power_counts : mg "power_counts" = some (.ref (He.ga K "power_counts"))
  d_power_counts : ∃ fd, FunD K "power_counts" "power_counts" (defArgs s_power_counts) (defBody s_power_counts) (defScope s_power_counts) [] [] (He.ga K "power_counts") fd
  g_power_has : mg "power_has" = some (.ref (He.ga K "power_has"))
  d_power_has : ∃ fd, FunD K "power_has" "power_has" (defArgs s_power_has) (defBody s_power_has) (defScope s_power_has) [] [] (He.ga K "power_has") fd
  g_law_cup : mg "_law_cup" = some (.ref (He.ga K "_law_cup"))
  d_law_cup : ∃ fd, FunD K "_law_cup" "_law_cup" (defArgs s_law_cup) (defBody s_law_cup) (defScope s_law_cup) [] [] (He.ga K "_law_cup") fd
  g_law_roll : mg "_law_roll" = some (.ref (He.ga K "_law_roll"))
  d_law_roll : ∃ fd, FunD K "_law_roll" "_law_roll" (defArgs s_law_roll) (defBody s_law_roll) (defScope s_law_roll) [] [] (He.ga K "_law_roll") fd
  g_law_some : mg "_law_some" = some (.ref (He.ga K "_law_some"))
  d_law_some : ∃ fd, FunD K "_law_some" "_law_some" (defArgs s_law_some) (defBody s_law_some) (defScope s_law_some) [] [] (He.ga K "_law_some") fd
  g_law_same : mg "_law_same" = some (.ref (He.ga K "_law_same"))
  d_law_same : ∃ fd, FunD K "_law_same" "_law_same" (defArgs s_law_same) (defBody s_law_same) (defScope s_law_same) [] [] (He.ga K "_law_same") fd
  g_law_beside : mg "_law_beside" = some (.ref (He.ga K "_law_beside"))
  d_law_beside : ∃ fd, FunD K "_law_beside" "_law_beside" (defArgs s_law_beside) (defBody s_law_beside) (defScope s_law_beside) [] [] (He.ga K "_law_beside") fd
  g_law_spots : mg "_law_spots" = some (.ref (He.ga K "_law_spots"))
  d_law_spots : ∃ fd, FunD K "_law_spots" "_law_spots" (defArgs s_law_spots) (defBody s_law_spots) (defScope s_law_spots) [] [] (He.ga K "_law_spots") fd
  g_law_woven : mg "_law_woven" = some (.ref (He.ga K "_law_woven"))
  d_law_woven : ∃ fd, FunD K "_law_woven" "_law_woven" (defArgs s_law_woven) (defBody s_law_woven) (defScope s_law_woven) [] [] (He.ga K "_law_woven") fd
  g_law_pattern : mg "_law_pattern" = some (.ref (He.ga K "_law_pattern"))
  d_law_pattern : ∃ fd, FunD K "_law_pattern" "_law_pattern" (defArgs s_law_pattern) (defBody s_law_pattern) (defScope s_law_pattern) [] [] (He.ga K "_law_pattern") fd
  g_law_shows : mg "_law_shows" = some (.ref (He.ga K "_law_shows"))
  d_law_shows : ∃ fd, FunD K "_law_shows" "_law_shows" (defArgs s_law_shows) (defBody s_law_shows) (defScope s_law_shows) [] [] (He.ga K "_law_shows") fd
  g_law : mg "law" = some (.ref (He.ga K "law"))
  d_law : ∃ fd, FunD K "law" "law" (defArgs s_law) (defBody s_law) (defScope s_law) [] [] (He.ga K "law") fd
/-! ### is_whole -/
theorem sc_is_whole : FnScope ["value"] ["value"] (defScope s_is_whole) := ⟨rfl, rfl, rfl, by decide +kernel, rfl, by decide +kernel, by decide +kernel⟩
theorem ok_is_whole {P : Program} {w : World} {K : PySem.W.Frag} {mg : Str → Option Value} {base : Heap} (Y : Fx K mg) : FunOk P w K mg base 1 "is_whole" 1 false 0 F_is_whole := by
  obtain ⟨fd, D0⟩ := Y.d_is_whole
  have S := sc_is_whole
  have hbd : Binds K fd ["value"] [] := FunD.bindsN D0 fun _ _ _ _ _ _ us hl => match us, hl with | [_], _ => rfl
  refine fun_ok (asg := []) (fb := fb_is_whole) (N := ["value"]) (ps := ["value"]) D0 Y.g_is_whole S hbd (fun cdv A outer s H E hr => ?_) (fun h => by first | (cases h; done) | decide) rfl (by decide) (by decide) (fun ds r h hi => FB_io h hi) (fun ds d d0 h _ => FB_run h)
  have u := room100 hr
  exact (s_cons (sret (r_and (xisi (T := "int") Y.m_isinstance Y.m_int (xv (i := 0))) (r_one (r_not (xisi (T := "bool") Y.m_isinstance Y.m_bool (xv (i := 0)))))))
    (s_nil (asg := [])))
/-! ### fits_whole -/
theorem sc_fits_whole : FnScope ["value", "low", "high"] ["value", "low", "high"] (defScope s_fits_whole) := ⟨rfl, rfl, rfl, by decide +kernel, rfl, by decide +kernel, by decide +kernel⟩
theorem ok_fits_whole {P : Program} {w : World} {K : PySem.W.Frag} {mg : Str → Option Value} {base : Heap} (Y : Fx K mg) (G_is_whole : FunOk P w K mg base 1 "is_whole" 1 false 0 F_is_whole) : FunOk P w K mg base 2 "fits_whole" 3 false 0 F_fits_whole := by
  obtain ⟨fd, D0⟩ := Y.d_fits_whole
  have S := sc_fits_whole
  have hbd : Binds K fd ["value", "low", "high"] [] := FunD.bindsN D0 fun _ _ _ _ _ _ us hl => match us, hl with | [_, _, _], _ => rfl
  refine fun_ok (asg := []) (fb := fb_fits_whole) (N := ["value", "low", "high"]) (ps := ["value", "low", "high"]) D0 Y.g_fits_whole S hbd (fun cdv A outer s H E hr => ?_) (fun h => by first | (cases h; done) | decide) rfl (by decide) (by decide) (fun ds r h hi => FB_io h hi) (fun ds d d0 h _ => FB_run h)
  have u := room100 hr
  exact (s_cons (sret (r_and (xcall G_is_whole hr (by omega) (xcons (xv (i := 0)) r_nil) (len_cons len_nil)) (r_one (xchain (kLe) (kLe) (xv (i := 1)) (xv (i := 0)) (xv (i := 2))))))
    (s_nil (asg := [])))
/-! ### is_tuple_of -/
theorem sc_is_tuple_of : FnScope ["value", "least", "most"] ["value", "least", "most"] (defScope s_is_tuple_of) := ⟨rfl, rfl, rfl, by decide +kernel, rfl, by decide +kernel, by decide +kernel⟩
theorem ok_is_tuple_of {P : Program} {w : World} {K : PySem.W.Frag} {mg : Str → Option Value} {base : Heap} (Y : Fx K mg) : FunOk P w K mg base 1 "is_tuple_of" 3 false 0 F_is_tuple_of := by
  obtain ⟨fd, D0⟩ := Y.d_is_tuple_of
  have S := sc_is_tuple_of
  have hbd : Binds K fd ["value", "least", "most"] [] := FunD.bindsN D0 fun _ _ _ _ _ _ us hl => match us, hl with | [_, _, _], _ => rfl
  refine fun_ok (asg := []) (fb := fb_is_tuple_of) (N := ["value", "least", "most"]) (ps := ["value", "least", "most"]) D0 Y.g_is_tuple_of S hbd (fun cdv A outer s H E hr => ?_) (fun h => by first | (cases h; done) | decide) rfl (by decide) (by decide) (fun ds r h hi => FB_io h hi) (fun ds d d0 h _ => FB_run h)
  have u := room100 hr
  exact (s_cons (sret (r_and (xisi (T := "tuple") Y.m_isinstance Y.m_tuple (xv (i := 0))) (r_one (xchain (kLe) (kLe) (xv (i := 1)) (xlen Y.m_len (xcons (xv (i := 0)) r_nil)) (xv (i := 2))))))
    (s_nil (asg := [])))
/-! ### is_rising -/
theorem sc_is_rising : FnScope ["values", "one", "other"] ["values"] (defScope s_is_rising) := ⟨rfl, rfl, rfl, by decide +kernel, rfl, by decide +kernel, by decide +kernel⟩
theorem ok_is_rising {P : Program} {w : World} {K : PySem.W.Frag} {mg : Str → Option Value} {base : Heap} (Y : Fx K mg) : FunOk P w K mg base 1 "is_rising" 1 false 0 F_is_rising := by
  obtain ⟨fd, D0⟩ := Y.d_is_rising
  have S := sc_is_rising
  have hbd : Binds K fd ["values"] [] := FunD.bindsN D0 fun _ _ _ _ _ _ us hl => match us, hl with | [_], _ => rfl
  refine fun_ok (asg := []) (fb := fb_is_rising) (N := ["values", "one", "other"]) (ps := ["values"]) D0 Y.g_is_rising S hbd (fun cdv A outer s H E hr => ?_) (fun h => by first | (cases h; done) | decide) rfl (by decide) (by decide) (fun ds r h hi => FB_io h hi) (fun ds d d0 h _ => FB_run h)
  have u := room100 hr
  exact (s_cons (sret (xall Y.m_all (xcons (xlc (bo := [("one", 1), ("other", 2)]) S.nd (izip2 Y.m_zip (xcons (xv (i := 0)) (xcons (r_slice (xv (i := 0)) (po_s c_int) po_n) r_nil))) (blkOk_by rfl) (fun _ _ _ _ _ => (gtup (gcons (gv (i := 1) S.nd) (gcons (gv (i := 2) S.nd) ts_nil)))) (fun _ _ _ _ _ => q_nil) (fun _ _ _ _ _ => (xcmp (kLt u) (xv (i := 1)) (xv (i := 2))))) r_nil)))
    (s_nil (asg := [])))
/-! ### fits_cell -/
theorem sc_fits_cell : FnScope ["value", "one"] ["value"] (defScope s_fits_cell) := ⟨rfl, rfl, rfl, by decide +kernel, rfl, by decide +kernel, by decide +kernel⟩
theorem ok_fits_cell {P : Program} {w : World} {K : PySem.W.Frag} {mg : Str → Option Value} {base : Heap} (Y : Fx K mg) (G_is_tuple_of : FunOk P w K mg base 1 "is_tuple_of" 3 false 0 F_is_tuple_of) (G_fits_whole : FunOk P w K mg base 2 "fits_whole" 3 false 0 F_fits_whole) : FunOk P w K mg base 3 "fits_cell" 1 false 0 F_fits_cell := by
  obtain ⟨fd, D0⟩ := Y.d_fits_cell
  have S := sc_fits_cell
  have hbd : Binds K fd ["value"] [] := FunD.bindsN D0 fun _ _ _ _ _ _ us hl => match us, hl with | [_], _ => rfl
  refine fun_ok (asg := []) (fb := fb_fits_cell) (N := ["value", "one"]) (ps := ["value"]) D0 Y.g_fits_cell S hbd (fun cdv A outer s H E hr => ?_) (fun h => by first | (cases h; done) | decide) rfl (by decide) (by decide) (fun ds r h hi => FB_io h hi) (fun ds d d0 h _ => FB_run h)
  have u := room100 hr
  exact (s_cons (sret (r_and (xcall G_is_tuple_of hr (by omega) (xcons (xv (i := 0)) (xcons c_int (xcons c_int r_nil))) (len_cons (len_cons (len_cons len_nil)))) (r_one (xall Y.m_all (xcons (xlc (bo := [("one", 1)]) S.nd (p_one (xv (i := 0))) (blkOk_by rfl) (fun _ _ _ _ _ => (gv (i := 1) S.nd)) (fun _ _ _ _ _ => q_nil) (fun _ _ _ _ _ => (xcall G_fits_whole hr (by omega) (xcons (xv (i := 1)) (xcons (xneg (xgint Y.i_FAR)) (xcons (xgint Y.i_FAR) r_nil))) (len_cons (len_cons (len_cons len_nil)))))) r_nil)))))
    (s_nil (asg := [])))
/-! ### fits_solid -/
theorem sc_fits_solid : FnScope ["value", "one"] ["value"] (defScope s_fits_solid) := ⟨rfl, rfl, rfl, by decide +kernel, rfl, by decide +kernel, by decide +kernel⟩
theorem ok_fits_solid {P : Program} {w : World} {K : PySem.W.Frag} {mg : Str → Option Value} {base : Heap} (Y : Fx K mg) (G_is_tuple_of : FunOk P w K mg base 1 "is_tuple_of" 3 false 0 F_is_tuple_of) (G_fits_cell : FunOk P w K mg base 3 "fits_cell" 1 false 0 F_fits_cell) (G_is_rising : FunOk P w K mg base 1 "is_rising" 1 false 0 F_is_rising) : FunOk P w K mg base 4 "fits_solid" 1 false 0 F_fits_solid := by
  obtain ⟨fd, D0⟩ := Y.d_fits_solid
  have S := sc_fits_solid
  have hbd : Binds K fd ["value"] [] := FunD.bindsN D0 fun _ _ _ _ _ _ us hl => match us, hl with | [_], _ => rfl
  refine fun_ok (asg := []) (fb := fb_fits_solid) (N := ["value", "one"]) (ps := ["value"]) D0 Y.g_fits_solid S hbd (fun cdv A outer s H E hr => ?_) (fun h => by first | (cases h; done) | decide) rfl (by decide) (by decide) (fun ds r h hi => FB_io h hi) (fun ds d d0 h _ => FB_run h)
  have u := room100 hr
  exact (s_cons (sret (r_and (xcall G_is_tuple_of hr (by omega) (xcons (xv (i := 0)) (xcons c_int (xcons (xgint Y.i_MANY) r_nil))) (len_cons (len_cons (len_cons len_nil)))) (r_and (xall Y.m_all (xcons (xlc (bo := [("one", 1)]) S.nd (p_one (xv (i := 0))) (blkOk_by rfl) (fun _ _ _ _ _ => (gv (i := 1) S.nd)) (fun _ _ _ _ _ => q_nil) (fun _ _ _ _ _ => (xcall G_fits_cell hr (by omega) (xcons (xv (i := 1)) r_nil) (len_cons len_nil)))) r_nil)) (r_one (xcall G_is_rising hr (by omega) (xcons (xv (i := 0)) r_nil) (len_cons len_nil))))))
    (s_nil (asg := [])))
/-! ### need_solid -/
theorem sc_need_solid : FnScope ["value"] ["value"] (defScope s_need_solid) := ⟨rfl, rfl, rfl, by decide +kernel, rfl, by decide +kernel, by decide +kernel⟩
theorem ok_need_solid {P : Program} {w : World} {K : PySem.W.Frag} {mg : Str → Option Value} {base : Heap} (Y : Fx K mg) (G_fits_solid : FunOk P w K mg base 4 "fits_solid" 1 false 0 F_fits_solid) : FunOk P w K mg base 5 "need_solid" 1 false 0 F_need_solid := by
  obtain ⟨fd, D0⟩ := Y.d_need_solid
  have S := sc_need_solid
  have hbd : Binds K fd ["value"] [] := FunD.bindsN D0 fun _ _ _ _ _ _ us hl => match us, hl with | [_], _ => rfl
  refine fun_ok (asg := []) (fb := fb_need_solid) (N := ["value"]) (ps := ["value"]) D0 Y.g_need_solid S hbd (fun cdv A outer s H E hr => ?_) (fun h => by first | (cases h; done) | decide) rfl (by decide) (by decide) (fun ds r h hi => FB_io h hi) (fun ds d d0 h _ => FB_run h)
  have u := room100 hr
  exact (s_cons (s_if (t_not (tval (xcall G_fits_solid hr (by omega) (xcons (xv (i := 0)) r_nil) (len_cons len_nil)))) (s_cons (s_nev (asg := []))
    (s_nil (asg := []))) (s_nil (asg := [])))
    (s_nil (asg := [])))
/-! ### need_some -/
theorem sc_need_some : FnScope ["value"] ["value"] (defScope s_need_some) := ⟨rfl, rfl, rfl, by decide +kernel, rfl, by decide +kernel, by decide +kernel⟩
theorem ok_need_some {P : Program} {w : World} {K : PySem.W.Frag} {mg : Str → Option Value} {base : Heap} (Y : Fx K mg) (G_need_solid : FunOk P w K mg base 5 "need_solid" 1 false 0 F_need_solid) : FunOk P w K mg base 6 "need_some" 1 false 0 F_need_some := by
  obtain ⟨fd, D0⟩ := Y.d_need_some
  have S := sc_need_some
  have hbd : Binds K fd ["value"] [] := FunD.bindsN D0 fun _ _ _ _ _ _ us hl => match us, hl with | [_], _ => rfl
  refine fun_ok (asg := []) (fb := fb_need_some) (N := ["value"]) (ps := ["value"]) D0 Y.g_need_some S hbd (fun cdv A outer s H E hr => ?_) (fun h => by first | (cases h; done) | decide) rfl (by decide) (by decide) (fun ds r h hi => FB_io h hi) (fun ds d d0 h _ => FB_run h)
  have u := room100 hr
  exact (s_cons (sdrop (xcall G_need_solid hr (by omega) (xcons (xv (i := 0)) r_nil) (len_cons len_nil)))
    (s_cons (s_if (tcmp (kEq u) (xv (i := 0)) (r_tup r_nil)) (s_cons (s_nev (asg := []))
    (s_nil (asg := []))) (s_nil (asg := [])))
    (s_nil (asg := []))))
/-! ### fits_sides -/
theorem sc_fits_sides : FnScope ["value", "side"] ["value"] (defScope s_fits_sides) := ⟨rfl, rfl, rfl, by decide +kernel, rfl, by decide +kernel, by decide +kernel⟩
theorem ok_fits_sides {P : Program} {w : World} {K : PySem.W.Frag} {mg : Str → Option Value} {base : Heap} (Y : Fx K mg) (G_is_tuple_of : FunOk P w K mg base 1 "is_tuple_of" 3 false 0 F_is_tuple_of) (G_fits_whole : FunOk P w K mg base 2 "fits_whole" 3 false 0 F_fits_whole) : FunOk P w K mg base 3 "fits_sides" 1 false 0 F_fits_sides := by
  obtain ⟨fd, D0⟩ := Y.d_fits_sides
  have S := sc_fits_sides
  have hbd : Binds K fd ["value"] [] := FunD.bindsN D0 fun _ _ _ _ _ _ us hl => match us, hl with | [_], _ => rfl
  refine fun_ok (asg := []) (fb := fb_fits_sides) (N := ["value", "side"]) (ps := ["value"]) D0 Y.g_fits_sides S hbd (fun cdv A outer s H E hr => ?_) (fun h => by first | (cases h; done) | decide) rfl (by decide) (by decide) (fun ds r h hi => FB_io h hi) (fun ds d d0 h _ => FB_run h)
  have u := room100 hr
  exact (s_cons (sret (r_and (xcall G_is_tuple_of hr (by omega) (xcons (xv (i := 0)) (xcons c_int (xcons c_int r_nil))) (len_cons (len_cons (len_cons len_nil)))) (r_one (xall Y.m_all (xcons (xlc (bo := [("side", 1)]) S.nd (p_one (xv (i := 0))) (blkOk_by rfl) (fun _ _ _ _ _ => (gv (i := 1) S.nd)) (fun _ _ _ _ _ => q_nil) (fun _ _ _ _ _ => (xcall G_fits_whole hr (by omega) (xcons (xv (i := 1)) (xcons c_int (xcons (xgint Y.i_SIDE) r_nil))) (len_cons (len_cons (len_cons len_nil)))))) r_nil)))))
    (s_nil (asg := [])))
/-! ### need_sides -/
theorem sc_need_sides : FnScope ["frame"] ["frame"] (defScope s_need_sides) := ⟨rfl, rfl, rfl, by decide +kernel, rfl, by decide +kernel, by decide +kernel⟩
theorem ok_need_sides {P : Program} {w : World} {K : PySem.W.Frag} {mg : Str → Option Value} {base : Heap} (Y : Fx K mg) (G_fits_sides : FunOk P w K mg base 3 "fits_sides" 1 false 0 F_fits_sides) : FunOk P w K mg base 4 "need_sides" 1 false 0 F_need_sides := by
  obtain ⟨fd, D0⟩ := Y.d_need_sides
  have S := sc_need_sides
  have hbd : Binds K fd ["frame"] [] := FunD.bindsN D0 fun _ _ _ _ _ _ us hl => match us, hl with | [_], _ => rfl
  refine fun_ok (asg := []) (fb := fb_need_sides) (N := ["frame"]) (ps := ["frame"]) D0 Y.g_need_sides S hbd (fun cdv A outer s H E hr => ?_) (fun h => by first | (cases h; done) | decide) rfl (by decide) (by decide) (fun ds r h hi => FB_io h hi) (fun ds d d0 h _ => FB_run h)
  have u := room100 hr
  exact (s_cons (s_if (t_not (tval (xcall G_fits_sides hr (by omega) (xcons (xv (i := 0)) r_nil) (len_cons len_nil)))) (s_cons (s_nev (asg := []))
    (s_nil (asg := []))) (s_nil (asg := [])))
    (s_nil (asg := [])))
/-! ### need_pattern -/
theorem sc_need_pattern : FnScope ["frame", "pattern", "cell", "one", "side"] ["frame", "pattern"] (defScope s_need_pattern) := ⟨rfl, rfl, rfl, by decide +kernel, rfl, by decide +kernel, by decide +kernel⟩
theorem ok_need_pattern {P : Program} {w : World} {K : PySem.W.Frag} {mg : Str → Option Value} {base : Heap} (Y : Fx K mg) (G_need_some : FunOk P w K mg base 6 "need_some" 1 false 0 F_need_some) (G_need_sides : FunOk P w K mg base 4 "need_sides" 1 false 0 F_need_sides) : FunOk P w K mg base 7 "need_pattern" 2 false 0 F_need_pattern := by
  obtain ⟨fd, D0⟩ := Y.d_need_pattern
  have S := sc_need_pattern
  have hbd : Binds K fd ["frame", "pattern"] [] := FunD.bindsN D0 fun _ _ _ _ _ _ us hl => match us, hl with | [_, _], _ => rfl
  refine fun_ok (asg := []) (fb := fb_need_pattern) (N := ["frame", "pattern", "cell", "one", "side"]) (ps := ["frame", "pattern"]) D0 Y.g_need_pattern S hbd (fun cdv A outer s H E hr => ?_) (fun h => by first | (cases h; done) | decide) rfl (by decide) (by decide) (fun ds r h hi => FB_io h hi) (fun ds d d0 h _ => FB_run h)
  have u := room100 hr
  exact (s_cons (sdrop (xcall G_need_sides hr (by omega) (xcons (xv (i := 0)) r_nil) (len_cons len_nil)))
    (s_cons (sdrop (xcall G_need_some hr (by omega) (xcons (xv (i := 1)) r_nil) (len_cons len_nil)))
    (s_cons (s_if (t_not (tval (xall Y.m_all (xcons (xlc (bo := [("cell", 2)]) S.nd (p_one (xv (i := 1))) (blkOk_by rfl) (fun _ _ _ _ _ => (gv (i := 2) S.nd)) (fun _ _ _ _ _ => q_nil) (fun _ _ _ _ _ => (xall Y.m_all (xcons (xlc (bo := [("one", 3), ("side", 4)]) S.nd (izip2 Y.m_zip (xcons (xv (i := 2)) (xcons (xv (i := 0)) r_nil))) (blkOk_by rfl) (fun _ _ _ _ _ => (gtup (gcons (gv (i := 3) S.nd) (gcons (gv (i := 4) S.nd) ts_nil)))) (fun _ _ _ _ _ => q_nil) (fun _ _ _ _ _ => (xchain (kLe) (kLt u) c_int (xv (i := 3)) (xv (i := 4))))) r_nil)))) r_nil)))) (s_cons (s_nev (asg := []))
    (s_nil (asg := []))) (s_nil (asg := [])))
    (s_nil (asg := [])))))
/-! ### times_cell -/
theorem sc_times_cell : FnScope ["cell", "frame", "one", "side"] ["cell", "frame"] (defScope s_times_cell) := ⟨rfl, rfl, rfl, by decide +kernel, rfl, by decide +kernel, by decide +kernel⟩
theorem ok_times_cell {P : Program} {w : World} {K : PySem.W.Frag} {mg : Str → Option Value} {base : Heap} (Y : Fx K mg) : FunOk P w K mg base 1 "times_cell" 2 false 0 F_times_cell := by
  obtain ⟨fd, D0⟩ := Y.d_times_cell
  have S := sc_times_cell
  have hbd : Binds K fd ["cell", "frame"] [] := FunD.bindsN D0 fun _ _ _ _ _ _ us hl => match us, hl with | [_, _], _ => rfl
  refine fun_ok (asg := []) (fb := fb_times_cell) (N := ["cell", "frame", "one", "side"]) (ps := ["cell", "frame"]) D0 Y.g_times_cell S hbd (fun cdv A outer s H E hr => ?_) (fun h => by first | (cases h; done) | decide) rfl (by decide) (by decide) (fun ds r h hi => FB_io h hi) (fun ds d d0 h _ => FB_run h)
  have u := room100 hr
  exact (s_cons (sret (xtuple Y.m_tuple (xcons (xlc (bo := [("one", 2), ("side", 3)]) S.nd (izip2 Y.m_zip (xcons (xv (i := 0)) (xcons (xv (i := 1)) r_nil))) (blkOk_by rfl) (fun _ _ _ _ _ => (gtup (gcons (gv (i := 2) S.nd) (gcons (gv (i := 3) S.nd) ts_nil)))) (fun _ _ _ _ _ => q_nil) (fun _ _ _ _ _ => (xmul (xv (i := 2)) (xv (i := 3))))) r_nil)))
    (s_nil (asg := [])))
/-! ### plus -/
theorem sc_plus : FnScope ["one", "other", "first", "second"] ["one", "other"] (defScope s_plus) := ⟨rfl, rfl, rfl, by decide +kernel, rfl, by decide +kernel, by decide +kernel⟩
theorem ok_plus {P : Program} {w : World} {K : PySem.W.Frag} {mg : Str → Option Value} {base : Heap} (Y : Fx K mg) : FunOk P w K mg base 1 "plus" 2 false 0 F_plus := by
  obtain ⟨fd, D0⟩ := Y.d_plus
  have S := sc_plus
  have hbd : Binds K fd ["one", "other"] [] := FunD.bindsN D0 fun _ _ _ _ _ _ us hl => match us, hl with | [_, _], _ => rfl
  refine fun_ok (asg := []) (fb := fb_plus) (N := ["one", "other", "first", "second"]) (ps := ["one", "other"]) D0 Y.g_plus S hbd (fun cdv A outer s H E hr => ?_) (fun h => by first | (cases h; done) | decide) rfl (by decide) (by decide) (fun ds r h hi => FB_io h hi) (fun ds d d0 h _ => FB_run h)
  have u := room100 hr
  exact (s_cons (sret (xtuple Y.m_tuple (xcons (xlc (bo := [("first", 2), ("second", 3)]) S.nd (izip2 Y.m_zip (xcons (xv (i := 0)) (xcons (xv (i := 1)) r_nil))) (blkOk_by rfl) (fun _ _ _ _ _ => (gtup (gcons (gv (i := 2) S.nd) (gcons (gv (i := 3) S.nd) ts_nil)))) (fun _ _ _ _ _ => q_nil) (fun _ _ _ _ _ => (xadd (xv (i := 2)) (xv (i := 3))))) r_nil)))
    (s_nil (asg := [])))
/-! ### home_in -/
theorem sc_home_in : FnScope ["cell", "frame", "home", "one", "side", "own"] ["cell", "frame"] (defScope s_home_in) := ⟨rfl, rfl, rfl, by decide +kernel, rfl, by decide +kernel, by decide +kernel⟩
theorem ok_home_in {P : Program} {w : World} {K : PySem.W.Frag} {mg : Str → Option Value} {base : Heap} (Y : Fx K mg) : FunOk P w K mg base 1 "home_in" 2 false 0 F_home_in := by
  obtain ⟨fd, D0⟩ := Y.d_home_in
  have S := sc_home_in
  have hbd : Binds K fd ["cell", "frame"] [] := FunD.bindsN D0 fun _ _ _ _ _ _ us hl => match us, hl with | [_, _], _ => rfl
  refine fun_ok (asg := [2]) (fb := fb_home_in) (N := ["cell", "frame", "home", "one", "side", "own"]) (ps := ["cell", "frame"]) D0 Y.g_home_in S hbd (fun cdv A outer s H E hr => ?_) (fun h => by first | (cases h; done) | decide) rfl (by decide) (by decide) (fun ds r h hi => FB_io h hi) (fun ds d d0 h _ => FB_run h)
  have u := room100 hr
  exact (s_cons (sset (i := 2) S.nd (xtuple Y.m_tuple (xcons (xlc (bo := [("one", 3), ("side", 4)]) S.nd (izip2 Y.m_zip (xcons (xv (i := 0)) (xcons (xv (i := 1)) r_nil))) (blkOk_by rfl) (fun _ _ _ _ _ => (gtup (gcons (gv (i := 3) S.nd) (gcons (gv (i := 4) S.nd) ts_nil)))) (fun _ _ _ _ _ => q_nil) (fun _ _ _ _ _ => (xfdiv (xv (i := 3)) (xv (i := 4))))) r_nil)))
    (s_cons (sret (r_tup (xcons (xv (i := 2)) (xcons (xtuple Y.m_tuple (xcons (xlc (bo := [("one", 3), ("own", 5), ("side", 4)]) S.nd (izip3 Y.m_zip (xcons (xv (i := 0)) (xcons (xv (i := 2)) (xcons (xv (i := 1)) r_nil)))) (blkOk_by rfl) (fun _ _ _ _ _ => (gtup (gcons (gv (i := 3) S.nd) (gcons (gv (i := 5) S.nd) (gcons (gv (i := 4) S.nd) ts_nil))))) (fun _ _ _ _ _ => q_nil) (fun _ _ _ _ _ => (xsub (xv (i := 3)) (xmul (xv (i := 5)) (xv (i := 4)))))) r_nil)) r_nil))))
    (s_nil (asg := []))))
/-! ### woven_in -/
theorem sc_woven_in : FnScope ["cells", "frame", "pattern", "cell", "spot"] ["cells", "frame", "pattern"] (defScope s_woven_in) := ⟨rfl, rfl, rfl, by decide +kernel, rfl, by decide +kernel, by decide +kernel⟩
theorem ok_woven_in {P : Program} {w : World} {K : PySem.W.Frag} {mg : Str → Option Value} {base : Heap} (Y : Fx K mg) (G_times_cell : FunOk P w K mg base 1 "times_cell" 2 false 0 F_times_cell) (G_plus : FunOk P w K mg base 1 "plus" 2 false 0 F_plus) : FunOk P w K mg base 2 "woven_in" 3 false 1 F_woven_in := by
  obtain ⟨fd, D0⟩ := Y.d_woven_in
  have S := sc_woven_in
  have hbd : Binds K fd ["cells", "frame", "pattern"] [] := FunD.bindsN D0 fun _ _ _ _ _ _ us hl => match us, hl with | [_, _, _], _ => rfl
  refine fun_ok (asg := []) (fb := fb_woven_in) (N := ["cells", "frame", "pattern", "cell", "spot"]) (ps := ["cells", "frame", "pattern"]) D0 Y.g_woven_in S hbd (fun cdv A outer s H E hr => ?_) (fun h => by first | (cases h; done) | decide) rfl (by decide) (by decide) (fun ds r h hi => FB_io h hi) (fun ds d d0 h _ => FB_run h)
  have u := room100 hr
  exact (s_cons (sret (xsorted u Y.m_sorted (xcons (xlc2 (bo := [("cell", 3), ("spot", 4)]) (vs1 := [4]) S.nd (p_one (xv (i := 0))) (blkOk_by rfl) (by decide) (fun _ _ _ _ _ => (gv (i := 3) S.nd)) (fun _ _ _ _ _ => q_nil) (fun _ _ _ _ _ => (p_one (xv (i := 2)))) (fun _ _ _ _ _ => (gv (i := 4) S.nd)) (fun _ _ _ _ _ => q_nil) (fun _ _ _ _ _ => (xcall G_plus hr (by omega) (xcons (xcall G_times_cell hr (by omega) (xcons (xv (i := 3)) (xcons (xv (i := 1)) r_nil)) (len_cons (len_cons len_nil))) (xcons (xv (i := 4)) r_nil)) (len_cons (len_cons len_nil))))) r_nil)))
    (s_nil (asg := [])))
/-! ### solid_of -/
theorem sc_solid_of : FnScope ["cells", "cell"] ["cells"] (defScope s_solid_of) := ⟨rfl, rfl, rfl, by decide +kernel, rfl, by decide +kernel, by decide +kernel⟩
theorem ok_solid_of {P : Program} {w : World} {K : PySem.W.Frag} {mg : Str → Option Value} {base : Heap} (Y : Fx K mg) (G_fits_cell : FunOk P w K mg base 3 "fits_cell" 1 false 0 F_fits_cell) : FunOk P w K mg base 4 "solid_of" 1 false 0 F_solid_of := by
  obtain ⟨fd, D0⟩ := Y.d_solid_of
  have S := sc_solid_of
  have hbd : Binds K fd ["cells"] [] := FunD.bindsN D0 fun _ _ _ _ _ _ us hl => match us, hl with | [_], _ => rfl
  refine fun_ok (asg := []) (fb := fb_solid_of) (N := ["cells", "cell"]) (ps := ["cells"]) D0 Y.g_solid_of S hbd (fun cdv A outer s H E hr => ?_) (fun h => by first | (cases h; done) | decide) rfl (by decide) (by decide) (fun ds r h hi => FB_io h hi) (fun ds d d0 h _ => FB_run h)
  have u := room100 hr
  exact (s_cons (s_if (tcmp (kGt) (xlen Y.m_len (xcons (xv (i := 0)) r_nil)) (xgint Y.i_MANY)) (s_cons (s_nev (asg := []))
    (s_nil (asg := []))) (s_nil (asg := [])))
    (s_cons (s_if (t_not (tval (xall Y.m_all (xcons (xlc (bo := [("cell", 1)]) S.nd (p_one (xv (i := 0))) (blkOk_by rfl) (fun _ _ _ _ _ => (gv (i := 1) S.nd)) (fun _ _ _ _ _ => q_nil) (fun _ _ _ _ _ => (xcall G_fits_cell hr (by omega) (xcons (xv (i := 1)) r_nil) (len_cons len_nil)))) r_nil)))) (s_cons (s_nev (asg := []))
    (s_nil (asg := []))) (s_nil (asg := [])))
    (s_cons (sret (xtuple Y.m_tuple (xcons (xv (i := 0)) r_nil)))
    (s_nil (asg := [])))))
/-! ### touches_in -/
theorem sc_touches_in : FnScope ["cells", "way", "step", "inside", "at", "cell"] ["cells", "way"] (defScope s_touches_in) := ⟨rfl, rfl, rfl, by decide +kernel, rfl, by decide +kernel, by decide +kernel⟩
theorem ok_touches_in {P : Program} {w : World} {K : PySem.W.Frag} {mg : Str → Option Value} {base : Heap} (Y : Fx K mg) (G_plus : FunOk P w K mg base 1 "plus" 2 false 0 F_plus) : FunOk P w K mg base 2 "touches_in" 2 false 0 F_touches_in := by
  obtain ⟨fd, D0⟩ := Y.d_touches_in
  have S := sc_touches_in
  have hbd : Binds K fd ["cells", "way"] [] := FunD.bindsN D0 fun _ _ _ _ _ _ us hl => match us, hl with | [_, _], _ => rfl
  refine fun_ok (asg := [2, 3]) (fb := fb_touches_in) (N := ["cells", "way", "step", "inside", "at", "cell"]) (ps := ["cells", "way"]) D0 Y.g_touches_in S hbd (fun cdv A outer s H E hr => ?_) (fun h => by first | (cases h; done) | decide) rfl (by decide) (by decide) (fun ds r h hi => FB_io h hi) (fun ds d d0 h _ => FB_run h)
  have u := room100 hr
  exact (s_cons (sset (i := 2) S.nd (xtuple Y.m_tuple (xcons (xlc (bo := [("at", 4)]) S.nd (p_one (r_tup (xcons c_int (xcons c_int (xcons c_int r_nil))))) (blkOk_by rfl) (fun _ _ _ _ _ => (gv (i := 4) S.nd)) (fun _ _ _ _ _ => q_nil) (fun _ _ _ _ _ => (r_ifx (tcmp (kEq u) (xv (i := 4)) (xv (i := 1))) c_int c_int))) r_nil)))
    (s_cons (sset (i := 3) S.nd (xdc u (bo := [("cell", 5)]) S.nd (p_one (xv (i := 0))) (blkOk_by rfl) (fun _ _ _ _ _ => (gv (i := 5) S.nd)) (fun _ _ _ _ _ => q_nil) (fun _ _ _ _ _ => (xv (i := 5))) (fun _ _ _ _ _ => c_bl)))
    (s_cons (sret (xlen Y.m_len (xcons (xlc (bo := [("cell", 5)]) S.nd (p_one (xv (i := 0))) (blkOk_by rfl) (fun _ _ _ _ _ => (gv (i := 5) S.nd)) (fun _ _ _ _ _ => (q_one (tin u (xcall G_plus hr (by omega) (xcons (xv (i := 5)) (xcons (xv (i := 2)) r_nil)) (len_cons (len_cons len_nil))) (xv (i := 3))))) (fun _ _ _ _ _ => (xv (i := 5)))) r_nil)))
    (s_nil (asg := [])))))
/-! ### meets_in -/
theorem sc_meets_in : FnScope ["frame", "pattern", "way", "inside", "found", "spot", "front", "at", "one"] ["frame", "pattern", "way"] (defScope s_meets_in) := ⟨rfl, rfl, rfl, by decide +kernel, rfl, by decide +kernel, by decide +kernel⟩
theorem ok_meets_in {P : Program} {w : World} {K : PySem.W.Frag} {mg : Str → Option Value} {base : Heap} (Y : Fx K mg) : FunOk P w K mg base 1 "meets_in" 3 false 0 F_meets_in := by
  obtain ⟨fd, D0⟩ := Y.d_meets_in
  have S := sc_meets_in
  have hbd : Binds K fd ["frame", "pattern", "way"] [] := FunD.bindsN D0 fun _ _ _ _ _ _ us hl => match us, hl with | [_, _, _], _ => rfl
  refine fun_ok (asg := [3, 4, 5, 6, 4]) (fb := fb_meets_in) (N := ["frame", "pattern", "way", "inside", "found", "spot", "front", "at", "one"]) (ps := ["frame", "pattern", "way"]) D0 Y.g_meets_in S hbd (fun cdv A outer s H E hr => ?_) (fun h => by first | (cases h; done) | decide) rfl (by decide) (by decide) (fun ds r h hi => FB_io h hi) (fun ds d d0 h _ => FB_run h)
  have u := room100 hr
  exact (s_cons (sdc u (i := 3) (bo := [("spot", 5)]) S.nd (p_one (xv (i := 1))) (blkOk_by rfl) (fun _ _ _ _ _ => (gv (i := 5) S.nd)) (fun _ _ _ _ _ => q_nil) (fun _ _ _ _ _ => (xv (i := 5))) (fun _ _ _ _ _ => c_bl))
    (s_cons (sset (i := 4) S.nd c_int)
    (s_cons (sfor (p_one (xv (i := 1))) (gv (i := 5) S.nd) (s_cons (s_if (tcmp (kEq u) (xix u (xv (i := 5)) (xv (i := 2))) (xsub (xix u (xv (i := 0)) (xv (i := 2))) c_int)) (s_cons (sset (i := 6) S.nd (xtuple Y.m_tuple (xcons (xlc (bo := [("at", 7), ("one", 8)]) S.nd (ienum Y.m_enumerate (xcons (xv (i := 5)) r_nil)) (blkOk_by rfl) (fun _ _ _ _ _ => (gtup (gcons (gv (i := 7) S.nd) (gcons (gv (i := 8) S.nd) ts_nil)))) (fun _ _ _ _ _ => q_nil) (fun _ _ _ _ _ => (r_ifx (tcmp (kEq u) (xv (i := 7)) (xv (i := 2))) c_int (xv (i := 8))))) r_nil)))
    (s_cons (sset (i := 4) S.nd (xadd (xv (i := 4)) (r_ifx (tin u (xv (i := 6)) (xv (i := 3))) c_int c_int)))
    (s_nil (asg := [])))) (s_nil (asg := [])))
    (s_nil (asg := []))))
    (s_cons (sret (xv (i := 4)))
    (s_nil (asg := []))))))
/-! ### counts_in -/
theorem sc_counts_in : FnScope ["frame", "pattern", "many", "cells", "touches", "turn", "own", "way"] ["frame", "pattern", "many"] (defScope s_counts_in) := ⟨rfl, rfl, rfl, by decide +kernel, rfl, by decide +kernel, by decide +kernel⟩
theorem ok_counts_in {P : Program} {w : World} {K : PySem.W.Frag} {mg : Str → Option Value} {base : Heap} (Y : Fx K mg) (G_touches_in : FunOk P w K mg base 2 "touches_in" 2 false 0 F_touches_in) (G_meets_in : FunOk P w K mg base 1 "meets_in" 3 false 0 F_meets_in) : FunOk P w K mg base 3 "counts_in" 3 false 0 F_counts_in := by
  obtain ⟨fd, D0⟩ := Y.d_counts_in
  have S := sc_counts_in
  have hbd : Binds K fd ["frame", "pattern", "many"] [] := FunD.bindsN D0 fun _ _ _ _ _ _ us hl => match us, hl with | [_, _, _], _ => rfl
  refine fun_ok (asg := [3, 4, 5, 6, 3, 4]) (fb := fb_counts_in) (N := ["frame", "pattern", "many", "cells", "touches", "turn", "own", "way"]) (ps := ["frame", "pattern", "many"]) D0 Y.g_counts_in S hbd (fun cdv A outer s H E hr => ?_) (fun h => by first | (cases h; done) | decide) rfl (by decide) (by decide) (fun ds r h hi => FB_io h hi) (fun ds d d0 h _ => FB_run h)
  have u := room100 hr
  exact (s_cons (sasg (r_tup (xcons c_int (xcons (r_lst (xcons c_int (xcons c_int (xcons c_int r_nil)))) r_nil))) (gtup (gcons (gv (i := 3) S.nd) (gcons (gv (i := 4) S.nd) ts_nil))))
    (s_cons (sfor (irange1 Y.m_range (xcons (xv (i := 2)) r_nil)) (gv (i := 5) S.nd) (s_cons (slc (i := 6) (bo := [("way", 7)]) S.nd (p_one (r_tup (xcons c_int (xcons c_int (xcons c_int r_nil))))) (blkOk_by rfl) (fun _ _ _ _ _ => (gv (i := 7) S.nd)) (fun _ _ _ _ _ => q_nil) (fun _ _ _ _ _ => (xadd (xmul (xv (i := 3)) (xcall G_touches_in hr (by omega) (xcons (xv (i := 1)) (xcons (xv (i := 7)) r_nil)) (len_cons (len_cons len_nil)))) (xmul (xix u (xv (i := 4)) (xv (i := 7))) (xcall G_meets_in hr (by omega) (xcons (xv (i := 0)) (xcons (xv (i := 1)) (xcons (xv (i := 7)) r_nil))) (len_cons (len_cons (len_cons len_nil))))))))
    (s_cons (sasg (r_tup (xcons (xmul (xv (i := 3)) (xlen Y.m_len (xcons (xv (i := 1)) r_nil))) (xcons (xv (i := 6)) r_nil))) (gtup (gcons (gv (i := 3) S.nd) (gcons (gv (i := 4) S.nd) ts_nil))))
    (s_nil (asg := [])))))
    (s_cons (sret (r_tup (xcons (xv (i := 3)) (xcons (xsub (xmul c_int (xv (i := 3))) (xmul c_int (xsum Y.m_sum (xcons (xv (i := 4)) r_nil)))) r_nil))))
    (s_nil (asg := [])))))
/-! ### woven -/
theorem sc_woven : FnScope ["solid", "frame", "pattern"] ["solid", "frame", "pattern"] (defScope s_woven) := ⟨rfl, rfl, rfl, by decide +kernel, rfl, by decide +kernel, by decide +kernel⟩
theorem ok_woven {P : Program} {w : World} {K : PySem.W.Frag} {mg : Str → Option Value} {base : Heap} (Y : Fx K mg) (G_woven_in : FunOk P w K mg base 2 "woven_in" 3 false 1 F_woven_in) (G_solid_of : FunOk P w K mg base 4 "solid_of" 1 false 0 F_solid_of) (G_need_pattern : FunOk P w K mg base 7 "need_pattern" 2 false 0 F_need_pattern) (G_need_some : FunOk P w K mg base 6 "need_some" 1 false 0 F_need_some) : FunOk P w K mg base 8 "woven" 3 false 0 F_woven := by
  obtain ⟨fd, D0⟩ := Y.d_woven
  have S := sc_woven
  have hbd : Binds K fd ["solid", "frame", "pattern"] [] := FunD.bindsN D0 fun _ _ _ _ _ _ us hl => match us, hl with | [_, _, _], _ => rfl
  refine fun_ok (asg := []) (fb := fb_woven) (N := ["solid", "frame", "pattern"]) (ps := ["solid", "frame", "pattern"]) D0 Y.g_woven S hbd (fun cdv A outer s H E hr => ?_) (fun h => by first | (cases h; done) | decide) rfl (by decide) (by decide) (fun ds r h hi => FB_io h hi) (fun ds d d0 h _ => FB_run h)
  have u := room100 hr
  exact (s_cons (sdrop (xcall G_need_some hr (by omega) (xcons (xv (i := 0)) r_nil) (len_cons len_nil)))
    (s_cons (sdrop (xcall G_need_pattern hr (by omega) (xcons (xv (i := 1)) (xcons (xv (i := 2)) r_nil)) (len_cons (len_cons len_nil))))
    (s_cons (s_if (tcmp (kGt) (xmul (xlen Y.m_len (xcons (xv (i := 0)) r_nil)) (xlen Y.m_len (xcons (xv (i := 2)) r_nil))) (xgint Y.i_MANY)) (s_cons (s_nev (asg := []))
    (s_nil (asg := []))) (s_nil (asg := [])))
    (s_cons (sret (xcall G_solid_of hr (by omega) (xcons (xcall G_woven_in hr (by omega) (xcons (xv (i := 0)) (xcons (xv (i := 1)) (xcons (xv (i := 2)) r_nil))) (len_cons (len_cons (len_cons len_nil)))) r_nil) (len_cons len_nil)))
    (s_nil (asg := []))))))
/-! ### power_of -/
theorem sc_power_of : FnScope ["frame", "pattern", "many", "found", "turn", "cell"] ["frame", "pattern", "many"] (defScope s_power_of) := ⟨rfl, rfl, rfl, by decide +kernel, rfl, by decide +kernel, by decide +kernel⟩
theorem ok_power_of {P : Program} {w : World} {K : PySem.W.Frag} {mg : Str → Option Value} {base : Heap} (Y : Fx K mg) (G_woven_in : FunOk P w K mg base 2 "woven_in" 3 false 1 F_woven_in) (G_counts_in : FunOk P w K mg base 3 "counts_in" 3 false 0 F_counts_in) (G_fits_whole : FunOk P w K mg base 2 "fits_whole" 3 false 0 F_fits_whole) (G_need_pattern : FunOk P w K mg base 7 "need_pattern" 2 false 0 F_need_pattern) : FunOk P w K mg base 8 "power_of" 3 false 0 F_power_of := by
  obtain ⟨fd, D0⟩ := Y.d_power_of
  have S := sc_power_of
  have hbd : Binds K fd ["frame", "pattern", "many"] [] := FunD.bindsN D0 fun _ _ _ _ _ _ us hl => match us, hl with | [_, _, _], _ => rfl
  refine fun_ok (asg := [3, 4, 3]) (fb := fb_power_of) (N := ["frame", "pattern", "many", "found", "turn", "cell"]) (ps := ["frame", "pattern", "many"]) D0 Y.g_power_of S hbd (fun cdv A outer s H E hr => ?_) (fun h => by first | (cases h; done) | decide) rfl (by decide) (by decide) (fun ds r h hi => FB_io h hi) (fun ds d d0 h _ => FB_run h)
  have u := room100 hr
  exact (s_cons (sdrop (xcall G_need_pattern hr (by omega) (xcons (xv (i := 0)) (xcons (xv (i := 1)) r_nil)) (len_cons (len_cons len_nil))))
    (s_cons (s_if (t_not (tval (xcall G_fits_whole hr (by omega) (xcons (xv (i := 2)) (xcons c_int (xcons (xgint Y.i_POWER) r_nil))) (len_cons (len_cons (len_cons len_nil)))))) (s_cons (s_nev (asg := []))
    (s_nil (asg := []))) (s_nil (asg := [])))
    (s_cons (s_if (tcmp (kGt) (xix u (xcall G_counts_in hr (by omega) (xcons (xv (i := 0)) (xcons (xv (i := 1)) (xcons (xv (i := 2)) r_nil))) (len_cons (len_cons (len_cons len_nil)))) c_int) (xgint Y.i_MANY)) (s_cons (s_nev (asg := []))
    (s_nil (asg := []))) (s_nil (asg := [])))
    (s_cons (sset (i := 3) S.nd (r_lst (xcons (c_gtup (ns := [0, 0, 0]) (by rfl) Y.t_ORIGIN.1 Y.t_ORIGIN.2 (by decide)) r_nil)))
    (s_cons (sfor (irange1 Y.m_range (xcons (xv (i := 2)) r_nil)) (gv (i := 4) S.nd) (s_cons (sset (i := 3) S.nd (xcall G_woven_in hr (by omega) (xcons (xv (i := 3)) (xcons (xv (i := 0)) (xcons (xv (i := 1)) r_nil))) (len_cons (len_cons (len_cons len_nil)))))
    (s_cons (s_if (tcmp (kGt) (xmax u Y.m_max (xcons (xlc (bo := [("cell", 5)]) S.nd (p_one (xv (i := 3))) (blkOk_by rfl) (fun _ _ _ _ _ => (gv (i := 5) S.nd)) (fun _ _ _ _ _ => q_nil) (fun _ _ _ _ _ => (xmax u Y.m_max (xcons (xv (i := 5)) r_nil)))) r_nil)) (xgint Y.i_FAR)) (s_cons (s_nev (asg := []))
    (s_nil (asg := []))) (s_nil (asg := [])))
    (s_nil (asg := [])))))
    (s_cons (sret (xtuple Y.m_tuple (xcons (xv (i := 3)) r_nil)))
    (s_nil (asg := []))))))))
/-! ### power_counts -/
theorem sc_power_counts : FnScope ["frame", "pattern", "many"] ["frame", "pattern", "many"] (defScope s_power_counts) := ⟨rfl, rfl, rfl, by decide +kernel, rfl, by decide +kernel, by decide +kernel⟩
theorem ok_power_counts {P : Program} {w : World} {K : PySem.W.Frag} {mg : Str → Option Value} {base : Heap} (Y : Fx K mg) (G_counts_in : FunOk P w K mg base 3 "counts_in" 3 false 0 F_counts_in) (G_fits_whole : FunOk P w K mg base 2 "fits_whole" 3 false 0 F_fits_whole) (G_need_pattern : FunOk P w K mg base 7 "need_pattern" 2 false 0 F_need_pattern) : FunOk P w K mg base 8 "power_counts" 3 false 0 F_power_counts := by
  obtain ⟨fd, D0⟩ := Y.d_power_counts
  have S := sc_power_counts
  have hbd : Binds K fd ["frame", "pattern", "many"] [] := FunD.bindsN D0 fun _ _ _ _ _ _ us hl => match us, hl with | [_, _, _], _ => rfl
  refine fun_ok (asg := []) (fb := fb_power_counts) (N := ["frame", "pattern", "many"]) (ps := ["frame", "pattern", "many"]) D0 Y.g_power_counts S hbd (fun cdv A outer s H E hr => ?_) (fun h => by first | (cases h; done) | decide) rfl (by decide) (by decide) (fun ds r h hi => FB_io h hi) (fun ds d d0 h _ => FB_run h)
  have u := room100 hr
  exact (s_cons (sdrop (xcall G_need_pattern hr (by omega) (xcons (xv (i := 0)) (xcons (xv (i := 1)) r_nil)) (len_cons (len_cons len_nil))))
    (s_cons (s_if (t_not (tval (xcall G_fits_whole hr (by omega) (xcons (xv (i := 2)) (xcons c_int (xcons (xgint Y.i_POWER) r_nil))) (len_cons (len_cons (len_cons len_nil)))))) (s_cons (s_nev (asg := []))
    (s_nil (asg := []))) (s_nil (asg := [])))
    (s_cons (sret (xcall G_counts_in hr (by omega) (xcons (xv (i := 0)) (xcons (xv (i := 1)) (xcons (xv (i := 2)) r_nil))) (len_cons (len_cons (len_cons len_nil)))))
    (s_nil (asg := [])))))
/-! ### power_has -/
theorem sc_power_has : FnScope ["frame", "pattern", "many", "cell", "inside", "turn", "spot", "one"] ["frame", "pattern", "many", "cell"] (defScope s_power_has) := ⟨rfl, rfl, rfl, by decide +kernel, rfl, by decide +kernel, by decide +kernel⟩
theorem ok_power_has {P : Program} {w : World} {K : PySem.W.Frag} {mg : Str → Option Value} {base : Heap} (Y : Fx K mg) (G_home_in : FunOk P w K mg base 1 "home_in" 2 false 0 F_home_in) (G_is_tuple_of : FunOk P w K mg base 1 "is_tuple_of" 3 false 0 F_is_tuple_of) (G_fits_whole : FunOk P w K mg base 2 "fits_whole" 3 false 0 F_fits_whole) (G_need_pattern : FunOk P w K mg base 7 "need_pattern" 2 false 0 F_need_pattern) : FunOk P w K mg base 8 "power_has" 4 false 0 F_power_has := by
  obtain ⟨fd, D0⟩ := Y.d_power_has
  have S := sc_power_has
  have hbd : Binds K fd ["frame", "pattern", "many", "cell"] [] := FunD.bindsN D0 fun _ _ _ _ _ _ us hl => match us, hl with | [_, _, _, _], _ => rfl
  refine fun_ok (asg := [4, 5, 3, 6]) (fb := fb_power_has) (N := ["frame", "pattern", "many", "cell", "inside", "turn", "spot", "one"]) (ps := ["frame", "pattern", "many", "cell"]) D0 Y.g_power_has S hbd (fun cdv A outer s H E hr => ?_) (fun h => by first | (cases h; done) | decide) rfl (by decide) (by decide) (fun ds r h hi => FB_io h hi) (fun ds d d0 h _ => FB_run h)
  have u := room100 hr
  exact (s_cons (sdrop (xcall G_need_pattern hr (by omega) (xcons (xv (i := 0)) (xcons (xv (i := 1)) r_nil)) (len_cons (len_cons len_nil))))
    (s_cons (s_if (t_not (tval (xcall G_fits_whole hr (by omega) (xcons (xv (i := 2)) (xcons c_int (xcons (xgint Y.i_POWER) r_nil))) (len_cons (len_cons (len_cons len_nil)))))) (s_cons (s_nev (asg := []))
    (s_nil (asg := []))) (s_nil (asg := [])))
    (s_cons (s_if (t_w (tw_or (t_not (tval (xcall G_is_tuple_of hr (by omega) (xcons (xv (i := 3)) (xcons c_int (xcons c_int r_nil))) (len_cons (len_cons (len_cons len_nil)))))) (tw_or1 (t_not (tval (xall Y.m_all (xcons (xlc (bo := [("one", 7)]) S.nd (p_one (xv (i := 3))) (blkOk_by rfl) (fun _ _ _ _ _ => (gv (i := 7) S.nd)) (fun _ _ _ _ _ => q_nil) (fun _ _ _ _ _ => (xcall G_fits_whole hr (by omega) (xcons (xv (i := 7)) (xcons c_int (xcons (xpow c_int c_int) r_nil))) (len_cons (len_cons (len_cons len_nil)))))) r_nil))))))) (s_cons (s_nev (asg := []))
    (s_nil (asg := []))) (s_nil (asg := [])))
    (s_cons (sdc u (i := 4) (bo := [("spot", 6)]) S.nd (p_one (xv (i := 1))) (blkOk_by rfl) (fun _ _ _ _ _ => (gv (i := 6) S.nd)) (fun _ _ _ _ _ => q_nil) (fun _ _ _ _ _ => (xv (i := 6))) (fun _ _ _ _ _ => c_bl))
    (s_cons (sfor (irange1 Y.m_range (xcons (xv (i := 2)) r_nil)) (gv (i := 5) S.nd) (s_cons (sasg (xcall G_home_in hr (by omega) (xcons (xv (i := 3)) (xcons (xv (i := 0)) r_nil)) (len_cons (len_cons len_nil))) (gtup (gcons (gv (i := 3) S.nd) (gcons (gv (i := 6) S.nd) ts_nil))))
    (s_cons (s_if (tnin u (xv (i := 6)) (xv (i := 4))) (s_cons (sret c_bl)
    (s_nil (asg := []))) (s_nil (asg := [])))
    (s_nil (asg := [])))))
    (s_cons (sret (xcmp (kEq u) (xv (i := 3)) (c_gtup (ns := [0, 0, 0]) (by rfl) Y.t_ORIGIN.1 Y.t_ORIGIN.2 (by decide))))
    (s_nil (asg := []))))))))
/-! ### _law_cup -/
theorem sc_law_cup : FnScope ["script", "cell"] ["script"] (defScope s_law_cup) := ⟨rfl, rfl, rfl, by decide +kernel, rfl, by decide +kernel, by decide +kernel⟩
theorem ok_law_cup {P : Program} {w : World} {K : PySem.W.Frag} {mg : Str → Option Value} {base : Heap} (Y : Fx K mg) : FunOk P w K mg base 1 "_law_cup" 1 false 1 F_law_cup := by
  obtain ⟨fd, D0⟩ := Y.d_law_cup
  have S := sc_law_cup
  have hbd : Binds K fd ["script"] [] := FunD.bindsN D0 fun _ _ _ _ _ _ us hl => match us, hl with | [_], _ => rfl
  refine fun_ok (asg := [1]) (fb := fb_law_cup) (N := ["script", "cell"]) (ps := ["script"]) D0 Y.g_law_cup S hbd (fun cdv A outer s H E hr => ?_) (fun h => by first | (cases h; done) | decide) rfl (by decide) (by decide) (fun ds r h hi => FB_io h hi) (fun ds d d0 h _ => FB_run h)
  have u := room100 hr
  exact (s_cons (sset (i := 1) S.nd (xabs Y.m_abs (xcons (xix u (xadd (xlist Y.m_list (xcons (xv (i := 0)) r_nil)) (r_lst (xcons c_int r_nil))) c_int) r_nil)))
    (s_cons (sret (r_lst (xcons (r_ifx (tcmp (kGe) (xv (i := 1)) (xpow c_int c_int)) (xfdiv (xv (i := 1)) c_int) c_int) (xcons (xadd (xmod (xint Y.m_int (xcons (xadd (xmul (xv (i := 1)) c_int) c_int) r_nil)) c_int) c_int) r_nil))))
    (s_nil (asg := []))))
/-! ### _law_roll -/
theorem sc_law_roll : FnScope ["cup", "many", "found", "deep"] ["cup", "many"] (defScope s_law_roll) := ⟨rfl, rfl, rfl, by decide +kernel, rfl, by decide +kernel, by decide +kernel⟩
theorem ok_law_roll {P : Program} {w : World} {K : PySem.W.Frag} {mg : Str → Option Value} {base : Heap} (Y : Fx K mg) : FunOk P w K mg base 1 "_law_roll" 2 true 0 F_law_roll := by
  obtain ⟨fd, D0⟩ := Y.d_law_roll
  have S := sc_law_roll
  have hbd : Binds K fd ["cup", "many"] [] := FunD.bindsN D0 fun _ _ _ _ _ _ us hl => match us, hl with | [_, _], _ => rfl
  refine fun_ok (asg := [2, 3]) (fb := fb_law_roll) (N := ["cup", "many", "found", "deep"]) (ps := ["cup", "many"]) D0 Y.g_law_roll S hbd (fun cdv A outer s H E hr => ?_) (fun h => by first | (cases h; done) | decide) rfl (by decide) (by decide) (fun ds r h hi => FB_io h hi) (fun ds d d0 h _ => FB_run h)
  have u := room100 hr
  exact (s_cons (s_if (tcmp (kGt) (xix u (xv (i := 0)) c_int) c_int) (s_cons (sset (i := 2) S.nd (xmod (xint Y.m_int (xcons (xix u (xv (i := 0)) c_int) r_nil)) (xv (i := 1))))
    (s_cons (sstore u (i := 0) c_int (xfdiv (xix u (xv (i := 0)) c_int) (xv (i := 1))))
    (s_cons (sret (xv (i := 2)))
    (s_nil (asg := []))))) (s_nil (asg := [])))
    (s_cons (sstore u (i := 0) c_int (xmod (xint Y.m_int (xcons (xadd (xmul (xix u (xv (i := 0)) c_int) c_int) c_int) r_nil)) c_int))
    (s_cons (sset (i := 3) S.nd (xmod (xint Y.m_int (xcons (xmul (xix u (xv (i := 0)) c_int) (xadd (xix u (xv (i := 0)) c_int) c_int)) r_nil)) c_int))
    (s_cons (sret (xmod (xint Y.m_int (xcons (xfdiv (xv (i := 3)) c_int) r_nil)) (xv (i := 1))))
    (s_nil (asg := []))))))
/-! ### _law_some -/
theorem sc_law_some : FnScope ["cup", "things"] ["cup", "things"] (defScope s_law_some) := ⟨rfl, rfl, rfl, by decide +kernel, rfl, by decide +kernel, by decide +kernel⟩
theorem ok_law_some {P : Program} {w : World} {K : PySem.W.Frag} {mg : Str → Option Value} {base : Heap} (Y : Fx K mg) (G_law_roll : FunOk P w K mg base 1 "_law_roll" 2 true 0 F_law_roll) : FunOk P w K mg base 2 "_law_some" 2 true 0 F_law_some := by
  obtain ⟨fd, D0⟩ := Y.d_law_some
  have S := sc_law_some
  have hbd : Binds K fd ["cup", "things"] [] := FunD.bindsN D0 fun _ _ _ _ _ _ us hl => match us, hl with | [_, _], _ => rfl
  refine fun_ok (asg := []) (fb := fb_law_some) (N := ["cup", "things"]) (ps := ["cup", "things"]) D0 Y.g_law_some S hbd (fun cdv A outer s H E hr => ?_) (fun h => by first | (cases h; done) | decide) rfl (by decide) (by decide) (fun ds r h hi => FB_io h hi) (fun ds d d0 h _ => FB_run h)
  have u := room100 hr
  exact (s_cons (sret (xix u (xv (i := 1)) (xcall G_law_roll hr (by omega) (xcons (xv (i := 0)) (xcons (xlen Y.m_len (xcons (xv (i := 1)) r_nil)) r_nil)) (len_cons (len_cons len_nil)))))
    (s_nil (asg := [])))
/-! ### _law_same -/
theorem sc_law_same : FnScope ["told", "due", "at"] ["told", "due"] (defScope s_law_same) := ⟨rfl, rfl, rfl, by decide +kernel, rfl, by decide +kernel, by decide +kernel⟩
theorem st_law_same {P : Program} {w : World} {K : PySem.W.Frag} {mg : Str → Option Value} {base : Heap} (Y : Fx K mg) {Fr : DF} {k : Nat} (G_law_same : FunOk P w K mg base (1 + k) "_law_same" 2 false 0 Fr) : FunOk P w K mg base (1 + k + 1) "_law_same" 2 false 0 (FB false 0 3 (fb_law_same Fr) 1000000) := by
  obtain ⟨fd, D0⟩ := Y.d_law_same
  have S := sc_law_same
  have hbd : Binds K fd ["told", "due"] [] := FunD.bindsN D0 fun _ _ _ _ _ _ us hl => match us, hl with | [_, _], _ => rfl
  refine fun_ok (asg := []) (fb := fb_law_same Fr) (N := ["told", "due", "at"]) (ps := ["told", "due"]) D0 Y.g_law_same S hbd (fun cdv A outer s H E hr => ?_) (fun h => by first | (cases h; done) | decide) rfl (by decide) (by decide) (fun ds r h hi => FB_io h hi) (fun ds d d0 h _ => FB_run h)
  have u := room100 hr
  exact (s_cons (s_if (t_w (tw_or (tval (xisi (T := "tuple") Y.m_isinstance Y.m_tuple (xv (i := 1)))) (tw_or1 (tval (xisi (T := "list") Y.m_isinstance Y.m_list (xv (i := 1))))))) (s_cons (s_if (t_w (tw_or (tcmp (kNe u) (xisi (T := "tuple") Y.m_isinstance Y.m_tuple (xv (i := 0))) (xisi (T := "tuple") Y.m_isinstance Y.m_tuple (xv (i := 1)))) (tw_or (tcmp (kNe u) (xisi (T := "list") Y.m_isinstance Y.m_list (xv (i := 0))) (xisi (T := "list") Y.m_isinstance Y.m_list (xv (i := 1)))) (tw_or1 (tcmp (kNe u) (xlen Y.m_len (xcons (xv (i := 0)) r_nil)) (xlen Y.m_len (xcons (xv (i := 1)) r_nil))))))) (s_cons (sret c_bl)
    (s_nil (asg := []))) (s_nil (asg := [])))
    (s_cons (sret (xcmp (kEq u) (xlc (bo := [("at", 2)]) S.nd (irange1 Y.m_range (xcons (xlen Y.m_len (xcons (xv (i := 1)) r_nil)) r_nil)) (blkOk_by rfl) (fun _ _ _ _ _ => (gv (i := 2) S.nd)) (fun _ _ _ _ _ => (q_one (t_not (tval (xcall G_law_same hr (by omega) (xcons (xix u (xv (i := 0)) (xv (i := 2))) (xcons (xix u (xv (i := 1)) (xv (i := 2))) r_nil)) (len_cons (len_cons len_nil))))))) (fun _ _ _ _ _ => c_int)) (r_lst r_nil)))
    (s_nil (asg := [])))) (s_nil (asg := [])))
    (s_cons (s_if (tcmp kIs (xv (i := 1)) c_non) (s_cons (sret (xcmp kIs (xv (i := 0)) c_non))
    (s_nil (asg := []))) (s_nil (asg := [])))
    (s_cons (s_if (tval (xisi (T := "bool") Y.m_isinstance Y.m_bool (xv (i := 1)))) (s_cons (sret (r_ifx (tval (xv (i := 1))) (xcmp kIs (xv (i := 0)) c_bl) (xcmp kIs (xv (i := 0)) c_bl)))
    (s_nil (asg := []))) (s_nil (asg := [])))
    (s_cons (s_if (tval (xisi (T := "int") Y.m_isinstance Y.m_int (xv (i := 1)))) (s_cons (sret (r_and (xisi (T := "int") Y.m_isinstance Y.m_int (xv (i := 0))) (r_and (r_not (xisi (T := "bool") Y.m_isinstance Y.m_bool (xv (i := 0)))) (r_one (xcmp (kEq u) (xint Y.m_int (xcons (xv (i := 0)) r_nil)) (xv (i := 1)))))))
    (s_nil (asg := []))) (s_nil (asg := [])))
    (s_cons (sret (r_and (xisi (T := "str") Y.m_isinstance Y.m_str (xv (i := 0))) (r_one (xcmp (kEq u) (xstr Y.m_str (xcons (xv (i := 0)) r_nil)) (xv (i := 1))))))
    (s_nil (asg := [])))))))
theorem ok_law_same {P : Program} {w : World} {K : PySem.W.Frag} {mg : Str → Option Value} {base : Heap} (Y : Fx K mg) : FunOk P w K mg base 9 "_law_same" 2 false 0 F_law_same := by
  have z : FunOk P w K mg base (1 + 0) "_law_same" 2 false 0 (Fn_law_same 0) := by
    obtain ⟨fd, D0⟩ := Y.d_law_same
    exact (fun_none (ar := 2) (io := false) (rl := 0) (N := ["told", "due", "at"]) (ps := ["told", "due"]) D0 Y.g_law_same sc_law_same (FunD.bindsN D0 fun _ _ _ _ _ _ us hl => match us, hl with | [_, _], _ => rfl) rfl (by decide) (by decide)).up (by omega)
  have z1 : FunOk P w K mg base (1 + 1) "_law_same" 2 false 0 (Fn_law_same 1) := st_law_same Y z
  have z2 : FunOk P w K mg base (1 + 2) "_law_same" 2 false 0 (Fn_law_same 2) := st_law_same Y z1
  have z3 : FunOk P w K mg base (1 + 3) "_law_same" 2 false 0 (Fn_law_same 3) := st_law_same Y z2
  have z4 : FunOk P w K mg base (1 + 4) "_law_same" 2 false 0 (Fn_law_same 4) := st_law_same Y z3
  have z5 : FunOk P w K mg base (1 + 5) "_law_same" 2 false 0 (Fn_law_same 5) := st_law_same Y z4
  have z6 : FunOk P w K mg base (1 + 6) "_law_same" 2 false 0 (Fn_law_same 6) := st_law_same Y z5
  have z7 : FunOk P w K mg base (1 + 7) "_law_same" 2 false 0 (Fn_law_same 7) := st_law_same Y z6
  have z8 : FunOk P w K mg base (1 + 8) "_law_same" 2 false 0 (Fn_law_same 8) := st_law_same Y z7
  exact z8
/-! ### _law_beside -/
theorem sc_law_beside : FnScope ["cell", "q", "r", "s"] ["cell"] (defScope s_law_beside) := ⟨rfl, rfl, rfl, by decide +kernel, rfl, by decide +kernel, by decide +kernel⟩
theorem ok_law_beside {P : Program} {w : World} {K : PySem.W.Frag} {mg : Str → Option Value} {base : Heap} (Y : Fx K mg) : FunOk P w K mg base 1 "_law_beside" 1 false 1 F_law_beside := by
  obtain ⟨fd, D0⟩ := Y.d_law_beside
  have S := sc_law_beside
  have hbd : Binds K fd ["cell"] [] := FunD.bindsN D0 fun _ _ _ _ _ _ us hl => match us, hl with | [_], _ => rfl
  refine fun_ok (asg := [1, 2, 3]) (fb := fb_law_beside) (N := ["cell", "q", "r", "s"]) (ps := ["cell"]) D0 Y.g_law_beside S hbd (fun cdv A outer s H E hr => ?_) (fun h => by first | (cases h; done) | decide) rfl (by decide) (by decide) (fun ds r h hi => FB_io h hi) (fun ds d d0 h _ => FB_run h)
  have u := room100 hr
  exact (s_cons (sasg (xv (i := 0)) (gtup (gcons (gv (i := 1) S.nd) (gcons (gv (i := 2) S.nd) (gcons (gv (i := 3) S.nd) ts_nil)))))
    (s_cons (sret (r_lst (xcons (r_tup (xcons (xadd (xv (i := 1)) c_int) (xcons (xv (i := 2)) (xcons (xv (i := 3)) r_nil)))) (xcons (r_tup (xcons (xsub (xv (i := 1)) c_int) (xcons (xv (i := 2)) (xcons (xv (i := 3)) r_nil)))) (xcons (r_tup (xcons (xv (i := 1)) (xcons (xadd (xv (i := 2)) c_int) (xcons (xv (i := 3)) r_nil)))) (xcons (r_tup (xcons (xv (i := 1)) (xcons (xsub (xv (i := 2)) c_int) (xcons (xv (i := 3)) r_nil)))) (xcons (r_tup (xcons (xv (i := 1)) (xcons (xv (i := 2)) (xcons (xadd (xv (i := 3)) c_int) r_nil)))) (xcons (r_tup (xcons (xv (i := 1)) (xcons (xv (i := 2)) (xcons (xsub (xv (i := 3)) c_int) r_nil)))) r_nil))))))))
    (s_nil (asg := []))))
/-! ### _law_spots -/
theorem sc_law_spots : FnScope ["frame", "found", "q", "r", "s"] ["frame"] (defScope s_law_spots) := ⟨rfl, rfl, rfl, by decide +kernel, rfl, by decide +kernel, by decide +kernel⟩
theorem ok_law_spots {P : Program} {w : World} {K : PySem.W.Frag} {mg : Str → Option Value} {base : Heap} (Y : Fx K mg) : FunOk P w K mg base 1 "_law_spots" 1 false 0 F_law_spots := by
  obtain ⟨fd, D0⟩ := Y.d_law_spots
  have S := sc_law_spots
  have hbd : Binds K fd ["frame"] [] := FunD.bindsN D0 fun _ _ _ _ _ _ us hl => match us, hl with | [_], _ => rfl
  refine fun_ok (asg := [1, 2, 3, 1]) (fb := fb_law_spots) (N := ["frame", "found", "q", "r", "s"]) (ps := ["frame"]) D0 Y.g_law_spots S hbd (fun cdv A outer s H E hr => ?_) (fun h => by first | (cases h; done) | decide) rfl (by decide) (by decide) (fun ds r h hi => FB_io h hi) (fun ds d d0 h _ => FB_run h)
  have u := room100 hr
  exact (s_cons (sset (i := 1) S.nd (r_lst r_nil))
    (s_cons (sfor (irange1 Y.m_range (xcons (xix u (xv (i := 0)) c_int) r_nil)) (gv (i := 2) S.nd) (s_cons (sfor (irange1 Y.m_range (xcons (xix u (xv (i := 0)) c_int) r_nil)) (gv (i := 3) S.nd) (s_cons (sset (i := 1) S.nd (xadd (xv (i := 1)) (xlc (bo := [("s", 4)]) S.nd (irange1 Y.m_range (xcons (xix u (xv (i := 0)) c_int) r_nil)) (blkOk_by rfl) (fun _ _ _ _ _ => (gv (i := 4) S.nd)) (fun _ _ _ _ _ => q_nil) (fun _ _ _ _ _ => (r_tup (xcons (xv (i := 2)) (xcons (xv (i := 3)) (xcons (xv (i := 4)) r_nil))))))))
    (s_nil (asg := []))))
    (s_nil (asg := []))))
    (s_cons (sret (xv (i := 1)))
    (s_nil (asg := [])))))
/-! ### _law_woven -/
theorem sc_law_woven : FnScope ["cells", "frame", "pattern", "found", "cell", "spot", "one", "side", "own"] ["cells", "frame", "pattern"] (defScope s_law_woven) := ⟨rfl, rfl, rfl, by decide +kernel, rfl, by decide +kernel, by decide +kernel⟩
theorem ok_law_woven {P : Program} {w : World} {K : PySem.W.Frag} {mg : Str → Option Value} {base : Heap} (Y : Fx K mg) : FunOk P w K mg base 1 "_law_woven" 3 false 0 F_law_woven := by
  obtain ⟨fd, D0⟩ := Y.d_law_woven
  have S := sc_law_woven
  have hbd : Binds K fd ["cells", "frame", "pattern"] [] := FunD.bindsN D0 fun _ _ _ _ _ _ us hl => match us, hl with | [_, _, _], _ => rfl
  refine fun_ok (asg := [3, 4, 3]) (fb := fb_law_woven) (N := ["cells", "frame", "pattern", "found", "cell", "spot", "one", "side", "own"]) (ps := ["cells", "frame", "pattern"]) D0 Y.g_law_woven S hbd (fun cdv A outer s H E hr => ?_) (fun h => by first | (cases h; done) | decide) rfl (by decide) (by decide) (fun ds r h hi => FB_io h hi) (fun ds d d0 h _ => FB_run h)
  have u := room100 hr
  exact (s_cons (sset (i := 3) S.nd (r_lst r_nil))
    (s_cons (sfor (p_one (xv (i := 0))) (gv (i := 4) S.nd) (s_cons (sset (i := 3) S.nd (xadd (xv (i := 3)) (xlc (bo := [("spot", 5)]) S.nd (p_one (xv (i := 2))) (blkOk_by rfl) (fun _ _ _ _ _ => (gv (i := 5) S.nd)) (fun _ _ _ _ _ => q_nil) (fun _ _ _ _ _ => (xtuple Y.m_tuple (xcons (xlc (bo := [("one", 6), ("side", 7), ("own", 8)]) S.nd (izip3 Y.m_zip (xcons (xv (i := 4)) (xcons (xv (i := 1)) (xcons (xv (i := 5)) r_nil)))) (blkOk_by rfl) (fun _ _ _ _ _ => (gtup (gcons (gv (i := 6) S.nd) (gcons (gv (i := 7) S.nd) (gcons (gv (i := 8) S.nd) ts_nil))))) (fun _ _ _ _ _ => q_nil) (fun _ _ _ _ _ => (xadd (xmul (xv (i := 6)) (xv (i := 7))) (xv (i := 8))))) r_nil))))))
    (s_nil (asg := []))))
    (s_cons (sret (xtuple Y.m_tuple (xcons (xsorted u Y.m_sorted (xcons (xv (i := 3)) r_nil)) r_nil)))
    (s_nil (asg := [])))))
/-! ### _law_pattern -/
theorem sc_law_pattern : FnScope ["cup", "most", "frame", "spots", "found", "turn"] ["cup", "most"] (defScope s_law_pattern) := ⟨rfl, rfl, rfl, by decide +kernel, rfl, by decide +kernel, by decide +kernel⟩
theorem ok_law_pattern {P : Program} {w : World} {K : PySem.W.Frag} {mg : Str → Option Value} {base : Heap} (Y : Fx K mg) (G_law_some : FunOk P w K mg base 2 "_law_some" 2 true 0 F_law_some) (G_law_roll : FunOk P w K mg base 1 "_law_roll" 2 true 0 F_law_roll) (G_law_spots : FunOk P w K mg base 1 "_law_spots" 1 false 0 F_law_spots) : FunOk P w K mg base 3 "_law_pattern" 2 true 0 F_law_pattern := by
  obtain ⟨fd, D0⟩ := Y.d_law_pattern
  have S := sc_law_pattern
  have hbd : Binds K fd ["cup", "most"] [] := FunD.bindsN D0 fun _ _ _ _ _ _ us hl => match us, hl with | [_, _], _ => rfl
  refine fun_ok (asg := [2, 3, 4, 5]) (fb := fb_law_pattern) (N := ["cup", "most", "frame", "spots", "found", "turn"]) (ps := ["cup", "most"]) D0 Y.g_law_pattern S hbd (fun cdv A outer s H E hr => ?_) (fun h => by first | (cases h; done) | decide) rfl (by decide) (by decide) (fun ds r h hi => FB_io h hi) (fun ds d d0 h _ => FB_run h)
  have u := room100 hr
  exact (s_cons (sset (i := 2) S.nd (r_tup (xcons (xadd c_int (xcall G_law_roll hr (by omega) (xcons (xv (i := 0)) (xcons c_int r_nil)) (len_cons (len_cons len_nil)))) (xcons (xadd c_int (xcall G_law_roll hr (by omega) (xcons (xv (i := 0)) (xcons c_int r_nil)) (len_cons (len_cons len_nil)))) (xcons (xadd c_int (xcall G_law_roll hr (by omega) (xcons (xv (i := 0)) (xcons c_int r_nil)) (len_cons (len_cons len_nil)))) r_nil)))))
    (s_cons (sset (i := 3) S.nd (xcall G_law_spots hr (by omega) (xcons (xv (i := 2)) r_nil) (len_cons len_nil)))
    (s_cons (sset (i := 4) S.nd r_dic)
    (s_cons (sfor (irange1 Y.m_range (xcons (xadd c_int (xcall G_law_roll hr (by omega) (xcons (xv (i := 0)) (xcons (xv (i := 1)) r_nil)) (len_cons (len_cons len_nil)))) r_nil)) (gv (i := 5) S.nd) (s_cons (sstore u (i := 4) (xcall G_law_some hr (by omega) (xcons (xv (i := 0)) (xcons (xv (i := 3)) r_nil)) (len_cons (len_cons len_nil))) c_bl)
    (s_nil (asg := []))))
    (s_cons (sret (r_tup (xcons (xv (i := 2)) (xcons (xtuple Y.m_tuple (xcons (xsorted u Y.m_sorted (xcons (xv (i := 4)) r_nil)) r_nil)) r_nil))))
    (s_nil (asg := [])))))))
/-! ### _law_shows -/
theorem sc_law_shows : FnScope ["cells", "inside", "found", "cell", "other"] ["cells"] (defScope s_law_shows) := ⟨rfl, rfl, rfl, by decide +kernel, rfl, by decide +kernel, by decide +kernel⟩
theorem ok_law_shows {P : Program} {w : World} {K : PySem.W.Frag} {mg : Str → Option Value} {base : Heap} (Y : Fx K mg) (G_law_beside : FunOk P w K mg base 1 "_law_beside" 1 false 1 F_law_beside) : FunOk P w K mg base 2 "_law_shows" 1 false 0 F_law_shows := by
  obtain ⟨fd, D0⟩ := Y.d_law_shows
  have S := sc_law_shows
  have hbd : Binds K fd ["cells"] [] := FunD.bindsN D0 fun _ _ _ _ _ _ us hl => match us, hl with | [_], _ => rfl
  refine fun_ok (asg := [1, 2, 3, 2]) (fb := fb_law_shows) (N := ["cells", "inside", "found", "cell", "other"]) (ps := ["cells"]) D0 Y.g_law_shows S hbd (fun cdv A outer s H E hr => ?_) (fun h => by first | (cases h; done) | decide) rfl (by decide) (by decide) (fun ds r h hi => FB_io h hi) (fun ds d d0 h _ => FB_run h)
  have u := room100 hr
  exact (s_cons (sasg (r_tup (xcons (xdict u Y.m_dict (xcons (xlc (bo := [("cell", 3)]) S.nd (p_one (xv (i := 0))) (blkOk_by rfl) (fun _ _ _ _ _ => (gv (i := 3) S.nd)) (fun _ _ _ _ _ => q_nil) (fun _ _ _ _ _ => (r_tup (xcons (xv (i := 3)) (xcons c_bl r_nil))))) r_nil)) (xcons c_int r_nil))) (gtup (gcons (gv (i := 1) S.nd) (gcons (gv (i := 2) S.nd) ts_nil))))
    (s_cons (sfor (p_one (xv (i := 0))) (gv (i := 3) S.nd) (s_cons (sset (i := 2) S.nd (xadd (xv (i := 2)) (xlen Y.m_len (xcons (xlc (bo := [("other", 4)]) S.nd (p_one (xcall G_law_beside hr (by omega) (xcons (xv (i := 3)) r_nil) (len_cons len_nil))) (blkOk_by rfl) (fun _ _ _ _ _ => (gv (i := 4) S.nd)) (fun _ _ _ _ _ => (q_one (tnin u (xv (i := 4)) (xv (i := 1))))) (fun _ _ _ _ _ => c_int)) r_nil))))
    (s_nil (asg := []))))
    (s_cons (sret (xv (i := 2)))
    (s_nil (asg := [])))))
theorem sc_law : FnScope ["script", "cup", "turn", "frame", "pattern", "many", "due", "step", "look", "cell", "great", "cells", "times", "spots", "sponge", "told", "deep", "way", "one"] ["script"] (defScope s_law) := ⟨rfl, rfl, rfl, by decide +kernel, rfl, by decide +kernel, by decide +kernel⟩
/-- the law itself -/
theorem okL_law {P : Program} {w : World} {K : PySem.W.Frag} {mg : Str → Option Value} {base : Heap} (Y : Fx K mg) {fd : FuncData} (D0 : FunD K "law" "law" (defArgs s_law) (defBody s_law) (defScope s_law) [] [] (He.ga K "law") fd) : FnOk P w K mg base CX0 10 (He.ga K "law") fd ["script"] (SpD P w K false 1 0 F_law) := by
  have G_home_in := ok_home_in (P := P) (w := w) (base := base) Y
  have G_is_tuple_of := ok_is_tuple_of (P := P) (w := w) (base := base) Y
  have G_is_whole := ok_is_whole (P := P) (w := w) (base := base) Y
  have G_fits_whole := ok_fits_whole (P := P) (w := w) (base := base) Y G_is_whole
  have G_fits_cell := ok_fits_cell (P := P) (w := w) (base := base) Y G_is_tuple_of G_fits_whole
  have G_is_rising := ok_is_rising (P := P) (w := w) (base := base) Y
  have G_fits_solid := ok_fits_solid (P := P) (w := w) (base := base) Y G_is_tuple_of G_fits_cell G_is_rising
  have G_need_solid := ok_need_solid (P := P) (w := w) (base := base) Y G_fits_solid
  have G_need_some := ok_need_some (P := P) (w := w) (base := base) Y G_need_solid
  have G_fits_sides := ok_fits_sides (P := P) (w := w) (base := base) Y G_is_tuple_of G_fits_whole
  have G_need_sides := ok_need_sides (P := P) (w := w) (base := base) Y G_fits_sides
  have G_need_pattern := ok_need_pattern (P := P) (w := w) (base := base) Y G_need_some G_need_sides
  have G_power_has := ok_power_has (P := P) (w := w) (base := base) Y G_home_in G_is_tuple_of G_fits_whole G_need_pattern
  have G_law_same := ok_law_same (P := P) (w := w) (base := base) Y
  have G_law_roll := ok_law_roll (P := P) (w := w) (base := base) Y
  have G_plus := ok_plus (P := P) (w := w) (base := base) Y
  have G_touches_in := ok_touches_in (P := P) (w := w) (base := base) Y G_plus
  have G_meets_in := ok_meets_in (P := P) (w := w) (base := base) Y
  have G_counts_in := ok_counts_in (P := P) (w := w) (base := base) Y G_touches_in G_meets_in
  have G_power_counts := ok_power_counts (P := P) (w := w) (base := base) Y G_counts_in G_fits_whole G_need_pattern
  have G_law_spots := ok_law_spots (P := P) (w := w) (base := base) Y
  have G_times_cell := ok_times_cell (P := P) (w := w) (base := base) Y
  have G_woven_in := ok_woven_in (P := P) (w := w) (base := base) Y G_times_cell G_plus
  have G_power_of := ok_power_of (P := P) (w := w) (base := base) Y G_woven_in G_counts_in G_fits_whole G_need_pattern
  have G_solid_of := ok_solid_of (P := P) (w := w) (base := base) Y G_fits_cell
  have G_woven := ok_woven (P := P) (w := w) (base := base) Y G_woven_in G_solid_of G_need_pattern G_need_some
  have G_law_some := ok_law_some (P := P) (w := w) (base := base) Y G_law_roll
  have G_law_beside := ok_law_beside (P := P) (w := w) (base := base) Y
  have G_law_shows := ok_law_shows (P := P) (w := w) (base := base) Y G_law_beside
  have G_law_woven := ok_law_woven (P := P) (w := w) (base := base) Y
  have G_law_pattern := ok_law_pattern (P := P) (w := w) (base := base) Y G_law_some G_law_roll G_law_spots
  have G_law_cup := ok_law_cup (P := P) (w := w) (base := base) Y
  have S := sc_law
  refine law_fn (asg := [1, 2, 3, 4, 5, 6, 7, 6, 8, 9, 9, 10, 11, 12, 7, 12, 13, 14, 15, 16]) (fb := fb_law) (N := ["script", "cup", "turn", "frame", "pattern", "many", "due", "step", "look", "cell", "great", "cells", "times", "spots", "sponge", "told", "deep", "way", "one"]) (ps := ["script"]) D0 S (fun cdv A outer s H E hr => ?_) (fun h => by cases h) rfl (by decide) (by decide) (fun ds r h hi => FB_io h hi) (fun ds d d0 h _ => FB_run h)
  have u := room100 hr
  exact (s_cons (sset (i := 1) S.nd (xcall G_law_cup hr (by omega) (xcons (xv (i := 0)) r_nil) (len_cons len_nil)))
    (s_cons (sfor (irange1 Y.m_range (xcons c_int r_nil)) (gv (i := 2) S.nd) (s_cons (sasg (xcall G_law_pattern hr (by omega) (xcons (xv (i := 1)) (xcons c_int r_nil)) (len_cons (len_cons len_nil))) (gtup (gcons (gv (i := 3) S.nd) (gcons (gv (i := 4) S.nd) ts_nil))))
    (s_cons (spar2 (i := 5) (j := 6) S.nd (xcall G_law_roll hr (by omega) (xcons (xv (i := 1)) (xcons c_int r_nil)) (len_cons (len_cons len_nil))) (r_tup (xcons (r_tup (xcons c_int (xcons c_int (xcons c_int r_nil)))) r_nil)))
    (s_cons (sfor (irange1 Y.m_range (xcons (xv (i := 5)) r_nil)) (gv (i := 7) S.nd) (s_cons (sset (i := 6) S.nd (xcall G_law_woven hr (by omega) (xcons (xv (i := 6)) (xcons (xv (i := 3)) (xcons (xv (i := 4)) r_nil))) (len_cons (len_cons (len_cons len_nil)))))
    (s_nil (asg := []))))
    (s_cons (s_if (t_not (tval (xcall G_law_same hr (by omega) (xcons (xcall G_power_counts hr (by omega) (xcons (xv (i := 3)) (xcons (xv (i := 4)) (xcons (xv (i := 5)) r_nil))) (len_cons (len_cons (len_cons len_nil)))) (xcons (r_tup (xcons (xlen Y.m_len (xcons (xv (i := 6)) r_nil)) (xcons (xcall G_law_shows hr (by omega) (xcons (xv (i := 6)) r_nil) (len_cons len_nil)) r_nil))) r_nil)) (len_cons (len_cons len_nil))))) (s_cons (sret c_bl)
    (s_nil (asg := []))) (s_nil (asg := [])))
    (s_cons (s_if (t_w (tw_and (tcmp (kLt u) (xlen Y.m_len (xcons (xv (i := 6)) r_nil)) c_int) (tw_and1 (t_not (tval (xcall G_law_same hr (by omega) (xcons (xcall G_power_of hr (by omega) (xcons (xv (i := 3)) (xcons (xv (i := 4)) (xcons (xv (i := 5)) r_nil))) (len_cons (len_cons (len_cons len_nil)))) (xcons (xv (i := 6)) r_nil)) (len_cons (len_cons len_nil)))))))) (s_cons (sret c_bl)
    (s_nil (asg := []))) (s_nil (asg := [])))
    (s_cons (sfor (irange1 Y.m_range (xcons c_int r_nil)) (gv (i := 8) S.nd) (s_cons (sset (i := 9) S.nd (xcall G_law_some hr (by omega) (xcons (xv (i := 1)) (xcons (xv (i := 6)) r_nil)) (len_cons (len_cons len_nil))))
    (s_cons (s_if (tcmp (kEq u) (xcall G_law_roll hr (by omega) (xcons (xv (i := 1)) (xcons c_int r_nil)) (len_cons (len_cons len_nil))) c_int) (s_cons (sset (i := 9) S.nd (xtuple Y.m_tuple (xcons (xlc (bo := [("way", 17)]) S.nd (irange1 Y.m_range (xcons c_int r_nil)) (blkOk_by rfl) (fun _ _ _ _ _ => (gv (i := 17) S.nd)) (fun _ _ _ _ _ => q_nil) (fun _ _ _ _ _ => (xcall G_law_roll hr (by omega) (xcons (xv (i := 1)) (xcons (xadd c_int (xmul c_int (xmax u Y.m_max (xcons (xv (i := 9)) r_nil)))) r_nil)) (len_cons (len_cons len_nil))))) r_nil)))
    (s_nil (asg := []))) (s_nil (asg := [])))
    (s_cons (s_if (t_not (tval (xcall G_law_same hr (by omega) (xcons (xcall G_power_has hr (by omega) (xcons (xv (i := 3)) (xcons (xv (i := 4)) (xcons (xv (i := 5)) (xcons (xv (i := 9)) r_nil)))) (len_cons (len_cons (len_cons (len_cons len_nil))))) (xcons (xin u (xv (i := 9)) (xv (i := 6))) r_nil)) (len_cons (len_cons len_nil))))) (s_cons (sret c_bl)
    (s_nil (asg := []))) (s_nil (asg := [])))
    (s_nil (asg := []))))))
    (s_cons (s_if (t_w (tw_and (tcmp (kGt) (xv (i := 5)) c_int) (tw_and (tcmp (kLt u) (xlen Y.m_len (xcons (xv (i := 6)) r_nil)) c_int) (tw_and1 (tcmp (kLt u) (xmax u Y.m_max (xcons (xlc (bo := [("cell", 9)]) S.nd (p_one (xv (i := 6))) (blkOk_by rfl) (fun _ _ _ _ _ => (gv (i := 9) S.nd)) (fun _ _ _ _ _ => q_nil) (fun _ _ _ _ _ => (xmax u Y.m_max (xcons (xv (i := 9)) r_nil)))) r_nil)) c_int))))) (s_cons (s_if (tcmp (kNe u) (xcall G_woven hr (by omega) (xcons (xcall G_power_of hr (by omega) (xcons (xv (i := 3)) (xcons (xv (i := 4)) (xcons (xsub (xv (i := 5)) c_int) r_nil))) (len_cons (len_cons (len_cons len_nil)))) (xcons (xv (i := 3)) (xcons (xv (i := 4)) r_nil))) (len_cons (len_cons (len_cons len_nil)))) (xv (i := 6))) (s_cons (sret c_bl)
    (s_nil (asg := []))) (s_nil (asg := [])))
    (s_nil (asg := []))) (s_nil (asg := [])))
    (s_cons (sset (i := 10) S.nd (xcall G_law_roll hr (by omega) (xcons (xv (i := 1)) (xcons c_int r_nil)) (len_cons (len_cons len_nil))))
    (s_cons (spar2 (i := 11) (j := 12) S.nd (xix u (xcall G_power_counts hr (by omega) (xcons (xv (i := 3)) (xcons (xv (i := 4)) (xcons (xv (i := 10)) r_nil))) (len_cons (len_cons (len_cons len_nil)))) c_int) c_int)
    (s_cons (sfor (irange1 Y.m_range (xcons (xv (i := 10)) r_nil)) (gv (i := 7) S.nd) (s_cons (sset (i := 12) S.nd (xmul (xv (i := 12)) (xlen Y.m_len (xcons (xv (i := 4)) r_nil))))
    (s_nil (asg := []))))
    (s_cons (s_if (t_not (tval (xcall G_law_same hr (by omega) (xcons (xv (i := 11)) (xcons (xv (i := 12)) r_nil)) (len_cons (len_cons len_nil))))) (s_cons (sret c_bl)
    (s_nil (asg := []))) (s_nil (asg := [])))
    (s_nil (asg := []))))))))))))))
    (s_cons (slc (i := 13) (bo := [("cell", 9)]) S.nd (p_one (xcall G_law_spots hr (by omega) (xcons (r_tup (xcons c_int (xcons c_int (xcons c_int r_nil)))) r_nil) (len_cons len_nil))) (blkOk_by rfl) (fun _ _ _ _ _ => (gv (i := 9) S.nd)) (fun _ _ _ _ _ => (q_one (tcmp (kLt u) (xlen Y.m_len (xcons (xlc (bo := [("one", 18)]) S.nd (p_one (xv (i := 9))) (blkOk_by rfl) (fun _ _ _ _ _ => (gv (i := 18) S.nd)) (fun _ _ _ _ _ => (q_one (tcmp (kEq u) (xv (i := 18)) c_int))) (fun _ _ _ _ _ => (xv (i := 18)))) r_nil)) c_int))) (fun _ _ _ _ _ => (xv (i := 9))))
    (s_cons (sset (i := 14) S.nd (xtuple Y.m_tuple (xcons (xv (i := 13)) r_nil)))
    (s_cons (sset (i := 15) S.nd (r_tup (xcons (xcall G_power_counts hr (by omega) (xcons (r_tup (xcons c_int (xcons c_int (xcons c_int r_nil)))) (xcons (xv (i := 14)) (xcons c_int r_nil))) (len_cons (len_cons (len_cons len_nil)))) (xcons (xcall G_power_counts hr (by omega) (xcons (r_tup (xcons c_int (xcons c_int (xcons c_int r_nil)))) (xcons (xv (i := 14)) (xcons c_int r_nil))) (len_cons (len_cons (len_cons len_nil)))) (xcons (xcall G_power_counts hr (by omega) (xcons (r_tup (xcons c_int (xcons c_int (xcons c_int r_nil)))) (xcons (xv (i := 14)) (xcons c_int r_nil))) (len_cons (len_cons (len_cons len_nil)))) r_nil)))))
    (s_cons (s_if (t_not (tval (xcall G_law_same hr (by omega) (xcons (xv (i := 15)) (xcons (r_tup (xcons (r_tup (xcons c_int (xcons c_int r_nil))) (xcons (r_tup (xcons c_int (xcons c_int r_nil))) (xcons (r_tup (xcons c_int (xcons c_int r_nil))) r_nil)))) r_nil)) (len_cons (len_cons len_nil))))) (s_cons (sret c_bl)
    (s_nil (asg := []))) (s_nil (asg := [])))
    (s_cons (sset (i := 16) S.nd (xadd c_int (xcall G_law_roll hr (by omega) (xcons (xv (i := 1)) (xcons c_int r_nil)) (len_cons (len_cons len_nil)))))
    (s_cons (sret (xcall G_law_same hr (by omega) (xcons (r_tup (xcons (xcall G_power_has hr (by omega) (xcons (r_tup (xcons c_int (xcons c_int (xcons c_int r_nil)))) (xcons (xv (i := 14)) (xcons (xv (i := 16)) (xcons (r_tup (xcons c_int (xcons c_int (xcons c_int r_nil)))) r_nil)))) (len_cons (len_cons (len_cons (len_cons len_nil))))) (xcons (xcall G_power_has hr (by omega) (xcons (r_tup (xcons c_int (xcons c_int (xcons c_int r_nil)))) (xcons (xv (i := 14)) (xcons (xv (i := 16)) (xcons (r_tup (xcons c_int (xcons c_int (xcons c_int r_nil)))) r_nil)))) (len_cons (len_cons (len_cons (len_cons len_nil))))) r_nil))) (xcons (r_tup (xcons c_bl (xcons c_bl r_nil))) r_nil)) (len_cons (len_cons len_nil))))
    (s_nil (asg := []))))))))))
/-! ### the head -/
def fn : List He.DefD := [
  ⟨("is_whole", none), "is_whole", "is_whole", defArgs s_is_whole, defBody s_is_whole, defScope s_is_whole, [], []⟩,
  ⟨("fits_whole", none), "fits_whole", "fits_whole", defArgs s_fits_whole, defBody s_fits_whole, defScope s_fits_whole, [], []⟩,
  ⟨("is_tuple_of", none), "is_tuple_of", "is_tuple_of", defArgs s_is_tuple_of, defBody s_is_tuple_of, defScope s_is_tuple_of, [], []⟩,
  ⟨("is_rising", none), "is_rising", "is_rising", defArgs s_is_rising, defBody s_is_rising, defScope s_is_rising, [], []⟩,
  ⟨("fits_cell", none), "fits_cell", "fits_cell", defArgs s_fits_cell, defBody s_fits_cell, defScope s_fits_cell, [], []⟩,
  ⟨("fits_solid", none), "fits_solid", "fits_solid", defArgs s_fits_solid, defBody s_fits_solid, defScope s_fits_solid, [], []⟩,
  ⟨("need_solid", none), "need_solid", "need_solid", defArgs s_need_solid, defBody s_need_solid, defScope s_need_solid, [], []⟩,
  ⟨("need_some", none), "need_some", "need_some", defArgs s_need_some, defBody s_need_some, defScope s_need_some, [], []⟩,
  ⟨("fits_sides", none), "fits_sides", "fits_sides", defArgs s_fits_sides, defBody s_fits_sides, defScope s_fits_sides, [], []⟩,
  ⟨("need_sides", none), "need_sides", "need_sides", defArgs s_need_sides, defBody s_need_sides, defScope s_need_sides, [], []⟩,
  ⟨("need_pattern", none), "need_pattern", "need_pattern", defArgs s_need_pattern, defBody s_need_pattern, defScope s_need_pattern, [], []⟩,
  ⟨("times_cell", none), "times_cell", "times_cell", defArgs s_times_cell, defBody s_times_cell, defScope s_times_cell, [], []⟩,
  ⟨("plus", none), "plus", "plus", defArgs s_plus, defBody s_plus, defScope s_plus, [], []⟩,
  ⟨("home_in", none), "home_in", "home_in", defArgs s_home_in, defBody s_home_in, defScope s_home_in, [], []⟩,
  ⟨("woven_in", none), "woven_in", "woven_in", defArgs s_woven_in, defBody s_woven_in, defScope s_woven_in, [], []⟩,
  ⟨("solid_of", none), "solid_of", "solid_of", defArgs s_solid_of, defBody s_solid_of, defScope s_solid_of, [], []⟩,
  ⟨("touches_in", none), "touches_in", "touches_in", defArgs s_touches_in, defBody s_touches_in, defScope s_touches_in, [], []⟩,
  ⟨("meets_in", none), "meets_in", "meets_in", defArgs s_meets_in, defBody s_meets_in, defScope s_meets_in, [], []⟩,
  ⟨("counts_in", none), "counts_in", "counts_in", defArgs s_counts_in, defBody s_counts_in, defScope s_counts_in, [], []⟩,
  ⟨("woven", none), "woven", "woven", defArgs s_woven, defBody s_woven, defScope s_woven, [], []⟩,
  ⟨("power_of", none), "power_of", "power_of", defArgs s_power_of, defBody s_power_of, defScope s_power_of, [], []⟩,
  ⟨("power_counts", none), "power_counts", "power_counts", defArgs s_power_counts, defBody s_power_counts, defScope s_power_counts, [], []⟩,
  ⟨("power_has", none), "power_has", "power_has", defArgs s_power_has, defBody s_power_has, defScope s_power_has, [], []⟩,
  ⟨("_law_cup", none), "_law_cup", "_law_cup", defArgs s_law_cup, defBody s_law_cup, defScope s_law_cup, [], []⟩,
  ⟨("_law_roll", none), "_law_roll", "_law_roll", defArgs s_law_roll, defBody s_law_roll, defScope s_law_roll, [], []⟩,
  ⟨("_law_some", none), "_law_some", "_law_some", defArgs s_law_some, defBody s_law_some, defScope s_law_some, [], []⟩,
  ⟨("_law_same", none), "_law_same", "_law_same", defArgs s_law_same, defBody s_law_same, defScope s_law_same, [], []⟩,
  ⟨("_law_beside", none), "_law_beside", "_law_beside", defArgs s_law_beside, defBody s_law_beside, defScope s_law_beside, [], []⟩,
  ⟨("_law_spots", none), "_law_spots", "_law_spots", defArgs s_law_spots, defBody s_law_spots, defScope s_law_spots, [], []⟩,
  ⟨("_law_woven", none), "_law_woven", "_law_woven", defArgs s_law_woven, defBody s_law_woven, defScope s_law_woven, [], []⟩,
  ⟨("_law_pattern", none), "_law_pattern", "_law_pattern", defArgs s_law_pattern, defBody s_law_pattern, defScope s_law_pattern, [], []⟩,
  ⟨("_law_shows", none), "_law_shows", "_law_shows", defArgs s_law_shows, defBody s_law_shows, defScope s_law_shows, [], []⟩,
  ⟨("law", none), "law", "law", defArgs s_law, defBody s_law, defScope s_law, [], []⟩]
def fa : List He.Fa := [.free "isinstance", .free "int", .free "bool", .free "tuple", .free "len", .free "all", .free "zip", .free "sorted", .free "enumerate", .free "sum", .free "range", .free "max", .free "abs", .free "list", .free "str", .free "dict", .int "FAR" 100, .int "MANY" 128, .int "SIDE" 20, .int "POWER" 200, .glo "ORIGIN", .glo "is_whole", .glo "fits_whole", .glo "is_tuple_of", .glo "is_rising", .glo "fits_cell", .glo "fits_solid", .glo "need_solid", .glo "need_some", .glo "fits_sides", .glo "need_sides", .glo "need_pattern", .glo "times_cell", .glo "plus", .glo "home_in", .glo "woven_in", .glo "solid_of", .glo "touches_in", .glo "meets_in", .glo "counts_in", .glo "woven", .glo "power_of", .glo "power_counts", .glo "power_has", .glo "_law_cup", .glo "_law_roll", .glo "_law_some", .glo "_law_same", .glo "_law_beside", .glo "_law_spots", .glo "_law_woven", .glo "_law_pattern", .glo "_law_shows", .glo "law"]
def ex (K : PySem.W.Frag) : Bool := He.tupB K "ORIGIN" (List.map He.Dv.int [0, 0, 0])
theorem fx {K : PySem.W.Frag} {h : Heap} {mg : Str → Option Value} (X : K.In h) (G : h.Ns mainGlobals mg) {w : World} (c0 : He.SaysX fa fn [] [] ex w h K) : Fx K mg := by
  have c := c0.t.d
  exact {
    m_isinstance := He.free_ok X G (c.fact 0 (f := .free "isinstance") rfl)
    m_int := He.free_ok X G (c.fact 1 (f := .free "int") rfl)
    m_bool := He.free_ok X G (c.fact 2 (f := .free "bool") rfl)
    m_tuple := He.free_ok X G (c.fact 3 (f := .free "tuple") rfl)
    m_len := He.free_ok X G (c.fact 4 (f := .free "len") rfl)
    m_all := He.free_ok X G (c.fact 5 (f := .free "all") rfl)
    m_zip := He.free_ok X G (c.fact 6 (f := .free "zip") rfl)
    m_sorted := He.free_ok X G (c.fact 7 (f := .free "sorted") rfl)
    m_enumerate := He.free_ok X G (c.fact 8 (f := .free "enumerate") rfl)
    m_sum := He.free_ok X G (c.fact 9 (f := .free "sum") rfl)
    m_range := He.free_ok X G (c.fact 10 (f := .free "range") rfl)
    m_max := He.free_ok X G (c.fact 11 (f := .free "max") rfl)
    m_abs := He.free_ok X G (c.fact 12 (f := .free "abs") rfl)
    m_list := He.free_ok X G (c.fact 13 (f := .free "list") rfl)
    m_str := He.free_ok X G (c.fact 14 (f := .free "str") rfl)
    m_dict := He.free_ok X G (c.fact 15 (f := .free "dict") rfl)
    i_FAR := He.int_ok X G (c.fact 16 (f := .int "FAR" 100) rfl)
    i_MANY := He.int_ok X G (c.fact 17 (f := .int "MANY" 128) rfl)
    i_SIDE := He.int_ok X G (c.fact 18 (f := .int "SIDE" 20) rfl)
    i_POWER := He.int_ok X G (c.fact 19 (f := .int "POWER" 200) rfl)
    t_ORIGIN := ⟨He.glo_ok X G (c.fact 20 (f := .glo "ORIGIN") rfl), ktup_of (ns := [0, 0, 0]) c0.more⟩
    g_is_whole := He.glo_ok X G (c.fact 21 (f := .glo "is_whole") rfl)
    d_is_whole := c.def_ 0 (d := ⟨("is_whole", none), "is_whole", "is_whole", defArgs s_is_whole, defBody s_is_whole, defScope s_is_whole, [], []⟩) rfl
    g_fits_whole := He.glo_ok X G (c.fact 22 (f := .glo "fits_whole") rfl)
    d_fits_whole := c.def_ 1 (d := ⟨("fits_whole", none), "fits_whole", "fits_whole", defArgs s_fits_whole, defBody s_fits_whole, defScope s_fits_whole, [], []⟩) rfl
    g_is_tuple_of := He.glo_ok X G (c.fact 23 (f := .glo "is_tuple_of") rfl)
    d_is_tuple_of := c.def_ 2 (d := ⟨("is_tuple_of", none), "is_tuple_of", "is_tuple_of", defArgs s_is_tuple_of, defBody s_is_tuple_of, defScope s_is_tuple_of, [], []⟩) rfl
    g_is_rising := He.glo_ok X G (c.fact 24 (f := .glo "is_rising") rfl)
    d_is_rising := c.def_ 3 (d := ⟨("is_rising", none), "is_rising", "is_rising", defArgs s_is_rising, defBody s_is_rising, defScope s_is_rising, [], []⟩) rfl
    g_fits_cell := He.glo_ok X G (c.fact 25 (f := .glo "fits_cell") rfl)
    d_fits_cell := c.def_ 4 (d := ⟨("fits_cell", none), "fits_cell", "fits_cell", defArgs s_fits_cell, defBody s_fits_cell, defScope s_fits_cell, [], []⟩) rfl
    g_fits_solid := He.glo_ok X G (c.fact 26 (f := .glo "fits_solid") rfl)
    d_fits_solid := c.def_ 5 (d := ⟨("fits_solid", none), "fits_solid", "fits_solid", defArgs s_fits_solid, defBody s_fits_solid, defScope s_fits_solid, [], []⟩) rfl
    g_need_solid := He.glo_ok X G (c.fact 27 (f := .glo "need_solid") rfl)
    d_need_solid := c.def_ 6 (d := ⟨("need_solid", none), "need_solid", "need_solid", defArgs s_need_solid, defBody s_need_solid, defScope s_need_solid, [], []⟩) rfl
    g_need_some := He.glo_ok X G (c.fact 28 (f := .glo "need_some") rfl)
    d_need_some := c.def_ 7 (d := ⟨("need_some", none), "need_some", "need_some", defArgs s_need_some, defBody s_need_some, defScope s_need_some, [], []⟩) rfl
    g_fits_sides := He.glo_ok X G (c.fact 29 (f := .glo "fits_sides") rfl)
    d_fits_sides := c.def_ 8 (d := ⟨("fits_sides", none), "fits_sides", "fits_sides", defArgs s_fits_sides, defBody s_fits_sides, defScope s_fits_sides, [], []⟩) rfl
    g_need_sides := He.glo_ok X G (c.fact 30 (f := .glo "need_sides") rfl)
    d_need_sides := c.def_ 9 (d := ⟨("need_sides", none), "need_sides", "need_sides", defArgs s_need_sides, defBody s_need_sides, defScope s_need_sides, [], []⟩) rfl
    g_need_pattern := He.glo_ok X G (c.fact 31 (f := .glo "need_pattern") rfl)
    d_need_pattern := c.def_ 10 (d := ⟨("need_pattern", none), "need_pattern", "need_pattern", defArgs s_need_pattern, defBody s_need_pattern, defScope s_need_pattern, [], []⟩) rfl
    g_times_cell := He.glo_ok X G (c.fact 32 (f := .glo "times_cell") rfl)
    d_times_cell := c.def_ 11 (d := ⟨("times_cell", none), "times_cell", "times_cell", defArgs s_times_cell, defBody s_times_cell, defScope s_times_cell, [], []⟩) rfl
    g_plus := He.glo_ok X G (c.fact 33 (f := .glo "plus") rfl)
    d_plus := c.def_ 12 (d := ⟨("plus", none), "plus", "plus", defArgs s_plus, defBody s_plus, defScope s_plus, [], []⟩) rfl
    g_home_in := He.glo_ok X G (c.fact 34 (f := .glo "home_in") rfl)
    d_home_in := c.def_ 13 (d := ⟨("home_in", none), "home_in", "home_in", defArgs s_home_in, defBody s_home_in, defScope s_home_in, [], []⟩) rfl
    g_woven_in := He.glo_ok X G (c.fact 35 (f := .glo "woven_in") rfl)
    d_woven_in := c.def_ 14 (d := ⟨("woven_in", none), "woven_in", "woven_in", defArgs s_woven_in, defBody s_woven_in, defScope s_woven_in, [], []⟩) rfl
    g_solid_of := He.glo_ok X G (c.fact 36 (f := .glo "solid_of") rfl)
    d_solid_of := c.def_ 15 (d := ⟨("solid_of", none), "solid_of", "solid_of", defArgs s_solid_of, defBody s_solid_of, defScope s_solid_of, [], []⟩) rfl
    g_touches_in := He.glo_ok X G (c.fact 37 (f := .glo "touches_in") rfl)
    d_touches_in := c.def_ 16 (d := ⟨("touches_in", none), "touches_in", "touches_in", defArgs s_touches_in, defBody s_touches_in, defScope s_touches_in, [], []⟩) rfl
    g_meets_in := He.glo_ok X G (c.fact 38 (f := .glo "meets_in") rfl)
    d_meets_in := c.def_ 17 (d := ⟨("meets_in", none), "meets_in", "meets_in", defArgs s_meets_in, defBody s_meets_in, defScope s_meets_in, [], []⟩) rfl
    g_counts_in := He.glo_ok X G (c.fact 39 (f := .glo "counts_in") rfl)
    d_counts_in := c.def_ 18 (d := ⟨("counts_in", none), "counts_in", "counts_in", defArgs s_counts_in, defBody s_counts_in, defScope s_counts_in, [], []⟩) rfl
    g_woven := He.glo_ok X G (c.fact 40 (f := .glo "woven") rfl)
    d_woven := c.def_ 19 (d := ⟨("woven", none), "woven", "woven", defArgs s_woven, defBody s_woven, defScope s_woven, [], []⟩) rfl
    g_power_of := He.glo_ok X G (c.fact 41 (f := .glo "power_of") rfl)
    d_power_of := c.def_ 20 (d := ⟨("power_of", none), "power_of", "power_of", defArgs s_power_of, defBody s_power_of, defScope s_power_of, [], []⟩) rfl
    g_power_counts := He.glo_ok X G (c.fact 42 (f := .glo "power_counts") rfl)
    d_power_counts := c.def_ 21 (d := ⟨("power_counts", none), "power_counts", "power_counts", defArgs s_power_counts, defBody s_power_counts, defScope s_power_counts, [], []⟩) rfl
    g_power_has := He.glo_ok X G (c.fact 43 (f := .glo "power_has") rfl)
    d_power_has := c.def_ 22 (d := ⟨("power_has", none), "power_has", "power_has", defArgs s_power_has, defBody s_power_has, defScope s_power_has, [], []⟩) rfl
    g_law_cup := He.glo_ok X G (c.fact 44 (f := .glo "_law_cup") rfl)
    d_law_cup := c.def_ 23 (d := ⟨("_law_cup", none), "_law_cup", "_law_cup", defArgs s_law_cup, defBody s_law_cup, defScope s_law_cup, [], []⟩) rfl
    g_law_roll := He.glo_ok X G (c.fact 45 (f := .glo "_law_roll") rfl)
    d_law_roll := c.def_ 24 (d := ⟨("_law_roll", none), "_law_roll", "_law_roll", defArgs s_law_roll, defBody s_law_roll, defScope s_law_roll, [], []⟩) rfl
    g_law_some := He.glo_ok X G (c.fact 46 (f := .glo "_law_some") rfl)
    d_law_some := c.def_ 25 (d := ⟨("_law_some", none), "_law_some", "_law_some", defArgs s_law_some, defBody s_law_some, defScope s_law_some, [], []⟩) rfl
    g_law_same := He.glo_ok X G (c.fact 47 (f := .glo "_law_same") rfl)
    d_law_same := c.def_ 26 (d := ⟨("_law_same", none), "_law_same", "_law_same", defArgs s_law_same, defBody s_law_same, defScope s_law_same, [], []⟩) rfl
    g_law_beside := He.glo_ok X G (c.fact 48 (f := .glo "_law_beside") rfl)
    d_law_beside := c.def_ 27 (d := ⟨("_law_beside", none), "_law_beside", "_law_beside", defArgs s_law_beside, defBody s_law_beside, defScope s_law_beside, [], []⟩) rfl
    g_law_spots := He.glo_ok X G (c.fact 49 (f := .glo "_law_spots") rfl)
    d_law_spots := c.def_ 28 (d := ⟨("_law_spots", none), "_law_spots", "_law_spots", defArgs s_law_spots, defBody s_law_spots, defScope s_law_spots, [], []⟩) rfl
    g_law_woven := He.glo_ok X G (c.fact 50 (f := .glo "_law_woven") rfl)
    d_law_woven := c.def_ 29 (d := ⟨("_law_woven", none), "_law_woven", "_law_woven", defArgs s_law_woven, defBody s_law_woven, defScope s_law_woven, [], []⟩) rfl
    g_law_pattern := He.glo_ok X G (c.fact 51 (f := .glo "_law_pattern") rfl)
    d_law_pattern := c.def_ 30 (d := ⟨("_law_pattern", none), "_law_pattern", "_law_pattern", defArgs s_law_pattern, defBody s_law_pattern, defScope s_law_pattern, [], []⟩) rfl
    g_law_shows := He.glo_ok X G (c.fact 52 (f := .glo "_law_shows") rfl)
    d_law_shows := c.def_ 31 (d := ⟨("_law_shows", none), "_law_shows", "_law_shows", defArgs s_law_shows, defBody s_law_shows, defScope s_law_shows, [], []⟩) rfl
    g_law := He.glo_ok X G (c.fact 53 (f := .glo "law") rfl)
    d_law := c.def_ 32 (d := ⟨("law", none), "law", "law", defArgs s_law, defBody s_law, defScope s_law, [], []⟩) rfl
  }
def loose : List PySem.Str := (["CubeError", "InvalidSolid", "InvalidTable", "InvalidPlan", "InvalidNumber", "TooMany", "FAR", "MANY", "is_whole", "fits_whole", "is_tuple_of", "is_rising", "fits_cell", "fits_solid", "need_solid", "need_some", "SIDE", "POWER", "ORIGIN", "fits_sides", "need_sides", "need_pattern", "times_cell", "plus", "home_in", "woven_in", "solid_of", "touches_in", "meets_in", "counts_in"] : List PySem.Str) ++ (["woven", "power_of", "power_counts", "power_has", "_law_cup", "_law_roll", "_law_some", "_law_same", "_law_beside", "_law_spots", "_law_woven", "_law_pattern", "_law_shows"] : List PySem.Str)
end Lw
namespace Lw
open PySem PySem.W PySem.Calls PyProof.Rows
abbrev R : PySem.W.OpenRow := PySem.W.OpenLaw.row PySem.Challenge.rw_cubegrounds_k81_whole_powers_of_patterns
abbrev hk : PySem.W.Hook := He.hookX 4 fa fn [] [] ex
def ob (s : PySem.W.SharedT) : He.AlX := He.obsX 4 fa fn [] [] ex (HandSHeadRun.getT s)
theorem ob_eq (s : PySem.W.SharedT) : ob s = hk.obs s.abs := He.obsX_eq (HandSHeadRun.getT_eq s)
theorem run (w : World) : HandSHeadRun.RunEq R (PySem.W.view R.prog [47]) hk ob 9000 loose w := by
  intro os
  kernel_rfl
/-- the law holds where its reading says True -/
theorem holds_of (ht : ∀ ns : List Int, ns.length ≤ 63 → ∃ d0, F_law [.scr ns] = some (.bl true, d0)) : PySem.Challenge.rw_cubegrounds_k81_whole_powers_of_patterns.Holds := by
  w_on; o_law
  refine HandSHeadRun.head_any (r := OpenLaw.row PySem.Challenge.rw_cubegrounds_k81_whole_powers_of_patterns) (q := view (OpenLaw.row PySem.Challenge.rw_cubegrounds_k81_whole_powers_of_patterns).prog [47]) (H := hk) (ob := ob) (M := 9000) (loose := loose) (d := HandSHeadRun.topDef (OpenLaw.row PySem.Challenge.rw_cubegrounds_k81_whole_powers_of_patterns).prog 47) (kwd := []) ob_eq
    (by kernel_rfl) (fun s => by kernel_rfl) run (by kernel_rfl) (by kernel_rfl) (by kernel_rfl) (by rfl) (by first | assumption | decide +kernel) (by decide +kernel) ⟨rfl, rfl, rfl, rfl, rfl, by decide +kernel⟩ ?hw ?hc
  case hw => w_witness2
  case hc =>
    refine L2.walk_ofE (l := PySem.Challenge.rw_cubegrounds_k81_whole_powers_of_patterns) (n := 63) (k := 10) (x := "script") (CX := L2.CX0) rfl (by decide) (by kernel_rfl) ⟨rfl, by decide, by decide⟩ ?F (fun _ _ _ _ z => z)
    intro w mg fa_ h Y G hmg0
    obtain ⟨K, KX, c⟩ := Y
    have Y := fx KX G c
    have hmg : mg ("law" : PySem.Str) = some (.ref fa_) := by
      have e : (HandSHeadRun.topDef (OpenLaw.row PySem.Challenge.rw_cubegrounds_k81_whole_powers_of_patterns).prog 47).name = ("law" : PySem.Str) := by kernel_rfl
      rw [← e]
      exact hmg0
    obtain ⟨fd, D0⟩ := Y.d_law
    have ef := hmg.symm.trans Y.g_law
    cases ef
    refine ⟨K, fd, Dt.SpD (PySem.Challenge.rw_cubegrounds_k81_whole_powers_of_patterns).prog w K false 1 0 F_law, KX, fun s v => L2.FunD.bindsA (ps := ["script"]) D0 (fun _ _ _ _ _ _ us hl => match us, hl with | [_], _ => rfl) s [v] rfl, fun H a ns hl _ hS => ?_, fun base _ _ => okL_law Y D0⟩
    obtain ⟨d0, hd⟩ := ht ns hl
    exact Dt.law_sp hS hd
end Lw
theorem PySem.Challenge.cw_cubegrounds_k81_whole_powers_of_patterns_holds : PySem.Challenge.rw_cubegrounds_k81_whole_powers_of_patterns.Holds := by
  exact Lw.holds_of P81.law_ok
