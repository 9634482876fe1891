import PyProof.Rows.All
import Wide.All
import OpenK.AllK
import Wide.FinOn
import HandS.ForMost
import HandS.Exc
import HandS.WordsExc
import HandS.Walk
import HandS.Flow
import HandS.IsInst
import HandS.Wide
import KE.DataCmp
import KE.DataEq
import KE.DataIsa
import PyProof.ReprReads
import HandS.TupAny
import KE.SortData
import HandS.SortInts
import PyProof.ReprRoads
import PyProof.CallFns
import PyProof.TupleOfSeq
import HandS.Zip
import KE.GoesEnum
import HandS.Style
import HandS.Words
import HandS.Ends
import PyProof.ReprLen
import PyProof.Rows.RegStrFacts
import PySem.Challenge.RW_cutrooms_k38_whole_reaches_and_brackets
set_option Elab.async false
set_option linter.all false
set_option maxRecDepth 100000
set_option maxHeartbeats 4000000
/-! ZrA: data (PyData) as it lies in the abstract heap: borrowed, owned; slots; worlds; steps. -/
namespace Zr
open PySem PySem.Spec PyProof.Rows L2

abbrev D := PyData
abbrev Fr' := PySem.W.Frag

mutual
def pur : D → Bool
  | .none => true
  | .bool _ => true
  | .int _ => true
  | .str _ => true
  | .tuple xs => purs xs
  | .list _ => false
  | .dict _ => false
def purs : List D → Bool
  | [] => true
  | x :: xs => pur x && purs xs
end

/-- objects that may change -/
def Lst : HO → Prop
  | .lst _ => True
  | .dK _ => True
  | .dT _ => True
  | _ => False

/-- a list of the written part -/
def KL (K : Fr') (a : Addr) (xs : List V) : Prop :=
  ∃ (o : Obj) (its : Array Value) (n : Nat), K.lookup a = some o ∧ o.cls = .type "list" ∧
    o.dict = none ∧ o.data = .seq its n ∧ its.size ≤ sizeLine ∧ Vals xs its.toList
/-- a list that is only read: locked, or of the written part -/
def Scr (K : Fr') (H : Hp) (a : Addr) (xs : List V) : Prop := (∃ o, H a = some (.frz o (.lst xs))) ∨ KL K a xs
theorem Scr.sq {K : Fr'} {H : Hp} {a : Addr} {xs : List V} (h : Scr K H a xs) : SqL K H a xs := h.elim (fun z => .inl (.inr z)) .inr

section
variable (K : Fr') (H : Hp)
mutual
inductive Bor (k : Bool) (P : Addr → Prop) : V → D → Prop
  | non : Bor k P .non .none
  | bl (b : Bool) : Bor k P (.bl b) (.bool b)
  | int (i : Int) : Bor k P (.int i) (.int i)
  | str (x : Str) : Bor k P (.str x) (.str x)
  | tup {a : Addr} {xs : List V} {ds : List D} : SqT K H a xs → BorL k P xs ds → Bor k P (.ref a) (.tuple ds)
  | lst {a : Addr} {xs : List V} {ds : List D} : H a = some (.lst xs) → P a → BorL k P xs ds → Bor k P (.ref a) (.list ds)
  | lsk {a : Addr} {xs : List V} {ds : List D} : k = true → Scr K H a xs → BorL k P xs ds → Bor k P (.ref a) (.list ds)
inductive BorL (k : Bool) (P : Addr → Prop) : List V → List D → Prop
  | nil : BorL k P [] []
  | cons {v : V} {vs : List V} {d : D} {ds : List D} : Bor k P v d → BorL k P vs ds → BorL k P (v :: vs) (d :: ds)
end
mutual
inductive Own : V → D → List Addr → Prop
  | non : Own .non .none []
  | bl (b : Bool) : Own (.bl b) (.bool b) []
  | int (i : Int) : Own (.int i) (.int i) []
  | str (x : Str) : Own (.str x) (.str x) []
  | tup {a : Addr} {xs : List V} {ds : List D} {A : List Addr} : SqT K H a xs → OwnL xs ds A → Own (.ref a) (.tuple ds) A
  | lst {a : Addr} {xs : List V} {ds : List D} {A : List Addr} : H a = some (.lst xs) → OwnL xs ds A → Own (.ref a) (.list ds) (a :: A)
inductive OwnL : List V → List D → List Addr → Prop
  | nil : OwnL [] [] []
  | cons {v : V} {vs : List V} {d : D} {ds : List D} {A B : List Addr} : Own v d A → OwnL vs ds B → OwnL (v :: vs) (d :: ds) (A ++ B)
end
end

section
variable {K : Fr'} {H H' : Hp} {P P' : Addr → Prop} {b : Bool}
theorem rd_keepT {a : Addr} {xs : List V} (k : ∀ a o, H a = some o → (Lst o → P a) → H' a = some o) (h : Rd H a (.tup xs)) : Rd H' a (.tup xs) := by
  rcases h with h | ⟨o, h⟩
  · exact .inl (k _ _ h fun z => z.elim)
  · exact .inr ⟨o, k _ _ h fun z => z.elim⟩
theorem scr_keep {a : Addr} {xs : List V} (k : ∀ a o, H a = some o → (Lst o → P a) → H' a = some o) (h : Scr K H a xs) : Scr K H' a xs := h.imp (fun ⟨o, e⟩ => ⟨o, k _ _ e fun z => z.elim⟩) id
theorem sqT_keep {a : Addr} {xs : List V} (k : ∀ a o, H a = some o → (Lst o → P a) → H' a = some o) (h : SqT K H a xs) : SqT K H' a xs := by
  rcases h with h | h
  · exact .inl (rd_keepT k h)
  · exact .inr h
mutual
theorem Bor.keep (k : ∀ a o, H a = some o → (Lst o → P a) → H' a = some o) (p : ∀ a, P a → H a ≠ none → P' a) : ∀ {v : V} {d : D}, Bor K H b P v d → Bor K H' b P' v d
  | _, _, .non => .non
  | _, _, .bl b => .bl b
  | _, _, .int i => .int i
  | _, _, .str x => .str x
  | _, _, .tup h t => .tup (sqT_keep k h) (BorL.keep k p t)
  | _, _, .lst h q t => .lst (k _ _ h fun _ => q) (p _ q (by rw [h]; exact fun z => nomatch z)) (BorL.keep k p t)
  | _, _, .lsk e h t => .lsk e (scr_keep k h) (BorL.keep k p t)
theorem BorL.keep (k : ∀ a o, H a = some o → (Lst o → P a) → H' a = some o) (p : ∀ a, P a → H a ≠ none → P' a) : ∀ {vs : List V} {ds : List D}, BorL K H b P vs ds → BorL K H' b P' vs ds
  | _, _, .nil => .nil
  | _, _, .cons h t => .cons (Bor.keep k p h) (BorL.keep k p t)
end
mutual
theorem Bor.wide : ∀ {v : V} {d : D}, Bor K H b P v d → Bor K H true P v d
  | _, _, .non => .non
  | _, _, .bl b => .bl b
  | _, _, .int i => .int i
  | _, _, .str x => .str x
  | _, _, .tup h t => .tup h (BorL.wide t)
  | _, _, .lst h q t => .lst h q (BorL.wide t)
  | _, _, .lsk e h t => .lsk rfl h (BorL.wide t)
theorem BorL.wide : ∀ {vs : List V} {ds : List D}, BorL K H b P vs ds → BorL K H true P vs ds
  | _, _, .nil => .nil
  | _, _, .cons h t => .cons (Bor.wide h) (BorL.wide t)
end
theorem Bor.imp {v : V} {d : D} (h : Bor K H b P v d) (p : ∀ a, P a → P' a) : Bor K H b P' v d := h.keep (fun _ _ e _ => e) fun a q _ => p a q
theorem BorL.imp {v : List V} {d : List D} (h : BorL K H b P v d) (p : ∀ a, P a → P' a) : BorL K H b P' v d := h.keep (fun _ _ e _ => e) fun a q _ => p a q
mutual
theorem Own.bor : ∀ {v : V} {d : D} {A : List Addr}, Own K H v d A → (∀ a ∈ A, P a) → Bor K H b P v d
  | _, _, _, .non, _ => .non
  | _, _, _, .bl b, _ => .bl b
  | _, _, _, .int i, _ => .int i
  | _, _, _, .str x, _ => .str x
  | _, _, _, .tup h t, p => .tup h (OwnL.bor t p)
  | _, _, _, .lst h t, p => .lst h (p _ List.mem_cons_self) (OwnL.bor t fun a m => p a (List.mem_cons_of_mem _ m))
theorem OwnL.bor : ∀ {vs : List V} {ds : List D} {A : List Addr}, OwnL K H vs ds A → (∀ a ∈ A, P a) → BorL K H b P vs ds
  | _, _, _, .nil, _ => .nil
  | _, _, _, .cons h t, p => .cons (Own.bor h fun a m => p a (List.mem_append_left _ m)) (OwnL.bor t fun a m => p a (List.mem_append_right _ m))
end
mutual
theorem Bor.own : ∀ {v : V} {d : D}, Bor K H b P v d → pur d = true → Own K H v d []
  | _, _, .non, _ => .non
  | _, _, .bl b, _ => .bl b
  | _, _, .int i, _ => .int i
  | _, _, .str x, _ => .str x
  | _, _, .tup h t, p => .tup h (BorL.own t (by simpa [pur] using p))
  | _, _, .lst _ _ _, p => by simp [pur] at p
  | _, _, .lsk _ _ _, p => by simp [pur] at p
theorem BorL.own : ∀ {vs : List V} {ds : List D}, BorL K H b P vs ds → purs ds = true → OwnL K H vs ds []
  | _, _, .nil, _ => .nil
  | _, _, .cons h t, p => by
    simp only [purs, Bool.and_eq_true] at p
    exact OwnL.cons (A := []) (B := []) (Bor.own h p.1) (BorL.own t p.2)
end
mutual
theorem Own.nil_of : ∀ {v : V} {d : D} {A : List Addr}, Own K H v d A → pur d = true → A = []
  | _, _, _, .non, _ => rfl
  | _, _, _, .bl b, _ => rfl
  | _, _, _, .int i, _ => rfl
  | _, _, _, .str x, _ => rfl
  | _, _, _, .tup h t, p => OwnL.nil_of t (by simpa [pur] using p)
  | _, _, _, .lst _ _, p => by simp [pur] at p
theorem OwnL.nil_of : ∀ {vs : List V} {ds : List D} {A : List Addr}, OwnL K H vs ds A → purs ds = true → A = []
  | _, _, _, .nil, _ => rfl
  | _, _, _, .cons h t, p => by
    simp only [purs, Bool.and_eq_true] at p
    rw [Own.nil_of h p.1, OwnL.nil_of t p.2]
    rfl
end
mutual
theorem Own.tr : ∀ {v : V} {d : D} {A : List Addr}, Own K H v d A → ∀ a ∈ A, ∃ o, H a = some o ∧ Lst o
  | _, _, _, .non, _, m => nomatch m
  | _, _, _, .bl b, _, m => nomatch m
  | _, _, _, .int i, _, m => nomatch m
  | _, _, _, .str x, _, m => nomatch m
  | _, _, _, .tup h t, a, m => OwnL.tr t a m
  | _, _, _, .lst h t, a, m => by
    rcases List.mem_cons.mp m with e | m
    · subst e
      exact ⟨_, h, trivial⟩
    · exact OwnL.tr t a m
theorem OwnL.tr : ∀ {vs : List V} {ds : List D} {A : List Addr}, OwnL K H vs ds A → ∀ a ∈ A, ∃ o, H a = some o ∧ Lst o
  | _, _, _, .nil, _, m => nomatch m
  | _, _, _, .cons h t, a, m => (List.mem_append.mp m).elim (Own.tr h a) (OwnL.tr t a)
end
mutual
theorem Own.keep : ∀ {v : V} {d : D} {A : List Addr}, Own K H v d A → (∀ a o, H a = some o → (Lst o → a ∈ A) → H' a = some o) → Own K H' v d A
  | _, _, _, .non, _ => .non
  | _, _, _, .bl b, _ => .bl b
  | _, _, _, .int i, _ => .int i
  | _, _, _, .str x, _ => .str x
  | _, _, _, .tup h t, k => .tup (sqT_keep k h) (OwnL.keep t k)
  | _, _, _, .lst h t, k => .lst (k _ _ h fun _ => List.mem_cons_self) (OwnL.keep t fun a o e f => k a o e fun l => List.mem_cons_of_mem _ (f l))
theorem OwnL.keep : ∀ {vs : List V} {ds : List D} {A : List Addr}, OwnL K H vs ds A → (∀ a o, H a = some o → (Lst o → a ∈ A) → H' a = some o) → OwnL K H' vs ds A
  | _, _, _, .nil, _ => .nil
  | _, _, _, .cons h t, k => .cons (Own.keep h fun a o e f => k a o e fun l => List.mem_append_left _ (f l)) (OwnL.keep t fun a o e f => k a o e fun l => List.mem_append_right _ (f l))
end
theorem BorL.length : ∀ {vs : List V} {ds : List D}, BorL K H b P vs ds → vs.length = ds.length
  | _, _, .nil => rfl
  | _, _, .cons _ t => congrArg (· + 1) t.length
theorem OwnL.length : ∀ {vs : List V} {ds : List D} {A : List Addr}, OwnL K H vs ds A → vs.length = ds.length
  | _, _, _, .nil => rfl
  | _, _, _, .cons _ t => congrArg (· + 1) t.length
theorem BorL.get : ∀ {vs : List V} {ds : List D} {i : Nat} {d : D}, BorL K H b P vs ds → ds[i]? = some d → ∃ v, vs[i]? = some v ∧ Bor K H b P v d
  | _, _, _, _, .nil, e => by simp at e
  | _, _, 0, _, .cons h _, e => by
    simp at e
    subst e
    exact ⟨_, rfl, h⟩
  | _, _, i + 1, _, .cons _ t, e => by
    obtain ⟨v, h1, h2⟩ := BorL.get (i := i) t (by simpa using e)
    exact ⟨v, by simpa using h1, h2⟩
theorem BorL.get' {vs : List V} {ds : List D} {i : Nat} {v : V} (h : BorL K H b P vs ds) (e : vs[i]? = some v) : ∃ d, ds[i]? = some d ∧ Bor K H b P v d := by
  have hi : i < ds.length := by
    rw [← h.length]
    exact (List.getElem?_eq_some_iff.mp e).1
  obtain ⟨w, h1, h2⟩ := h.get (List.getElem?_eq_getElem hi)
  rw [e] at h1
  cases h1
  exact ⟨_, List.getElem?_eq_getElem hi, h2⟩
theorem BorL.append : ∀ {vs ws : List V} {ds es : List D}, BorL K H b P vs ds → BorL K H b P ws es → BorL K H b P (vs ++ ws) (ds ++ es)
  | _, _, _, _, .nil, k => k
  | _, _, _, _, .cons h t, k => .cons h (t.append k)
theorem BorL.take : ∀ {vs : List V} {ds : List D} (n : Nat), BorL K H b P vs ds → BorL K H b P (vs.take n) (ds.take n)
  | _, _, 0, _ => .nil
  | _, _, _ + 1, .nil => .nil
  | _, _, n + 1, .cons h t => .cons h (t.take n)
theorem BorL.drop : ∀ {vs : List V} {ds : List D} (n : Nat), BorL K H b P vs ds → BorL K H b P (vs.drop n) (ds.drop n)
  | _, _, 0, h => h
  | _, _, _ + 1, .nil => .nil
  | _, _, n + 1, .cons _ t => t.drop n
theorem BorL.reverse : ∀ {vs : List V} {ds : List D}, BorL K H b P vs ds → BorL K H b P vs.reverse ds.reverse
  | _, _, .nil => .nil
  | _, _, .cons h t => by
    rw [List.reverse_cons, List.reverse_cons]
    exact t.reverse.append (.cons h .nil)
theorem OwnL.append : ∀ {vs ws : List V} {ds es : List D} {A B : List Addr}, OwnL K H vs ds A → OwnL K H ws es B → OwnL K H (vs ++ ws) (ds ++ es) (A ++ B)
  | _, _, _, _, _, _, .nil, k => k
  | _, _, _, _, _, _, .cons h t, k => by
    rw [List.append_assoc]
    exact .cons h (t.append k)
theorem purs_mem : ∀ {ds : List D}, purs ds = true → ∀ d ∈ ds, pur d = true
  | [], _, _, m => nomatch m
  | x :: xs, h, d, m => by
    simp only [purs, Bool.and_eq_true] at h
    rcases List.mem_cons.mp m with e | m
    · rw [e]
      exact h.1
    · exact purs_mem h.2 d m
theorem purs_of : ∀ {ds : List D}, (∀ d ∈ ds, pur d = true) → purs ds = true
  | [], _ => rfl
  | x :: xs, h => by
    simp only [purs, Bool.and_eq_true]
    exact ⟨h x List.mem_cons_self, purs_of fun d m => h d (List.mem_cons_of_mem _ m)⟩
end

/-! ### slots and worlds -/
inductive Slot where
  | emp
  | pur (d : D)
  | own (d : D)
  | byr (d : D)
  | bor (d : D)
  | scr (d : D)
inductive Stat where
  | fresh
  | froz
  | scr
  | loan (i : Nat)
  | take (i : Nat)
  deriving DecidableEq

abbrev Fa := Nat → List Addr
def fset (F : Fa) (i : Nat) (B : List Addr) : Fa := fun j => if j = i then B else F j
theorem fset_same {F : Fa} {i : Nat} {B : List Addr} : fset F i B i = B := if_pos rfl
theorem fset_ne {F : Fa} {i j : Nat} {B : List Addr} (h : j ≠ i) : fset F i B j = F j := if_neg h

def SR (K : Fr') (H : Hp) (F : Fa) (Z : Addr → Prop) (i : Nat) (ov : Option (Option V)) : Slot → Prop
  | .emp => F i = []
  | .pur d => F i = [] ∧ Zr.pur d = true ∧ ∃ v, ov = some (some v) ∧ Bor K H false (fun _ => True) v d
  | .own d => ∃ v, ov = some (some v) ∧ Own K H v d (F i)
  | .byr d => ∃ v, ov = some (some v) ∧ Own K H v d (F i)
  | .bor d => F i = [] ∧ ∃ v, ov = some (some v) ∧ Bor K H false (fun a => ¬ Z a) v d
  | .scr d => F i = [] ∧ ∃ v, ov = some (some v) ∧ Bor K H true (fun a => ¬ Z a) v d

structure W (K : Fr') (H : Hp) (ρ : List Slot) (σ : L2.St) (F : Fa) (Z : Addr → Prop) : Prop where
  len : σ.length = ρ.length
  out : ∀ i, ρ.length ≤ i → F i = []
  slot : ∀ i s, ρ[i]? = some s → SR K H F Z i σ[i]? s
  nodup : ∀ i, (F i).Nodup
  disj : ∀ i j a, i ≠ j → a ∈ F i → a ∉ F j
  zed : ∀ i a, a ∈ F i → Z a

structure Step (E : List Nat) (H : Hp) (ρ : List Slot) (F : Fa) (Z : Addr → Prop) (H' : Hp) (ρ' : List Slot) (F' : Fa) (Z' : Addr → Prop) : Prop where
  keep : ∀ a o, H a = some o → (Lst o → ∀ j ∈ E, a ∉ F j) → H' a = some o
  there : ∀ a, H a ≠ none → H' a ≠ none
  same : ∀ j, j ∉ E → ρ'[j]? = ρ[j]? ∧ F' j = F j
  own : ∀ j a, a ∈ F' j → a ∈ F j ∨ (∃ i ∈ E, a ∈ F i) ∨ H a = none
  zed : ∀ a, Z' a → Z a ∨ H a = none
  zk : ∀ a, Z a → H a ≠ none → Z' a ∨ ∃ i ∈ E, a ∈ F i

section
variable {K : Fr'} {H H' H1 H2 : Hp} {ρ ρ' ρ1 ρ2 : List Slot} {σ σ' : L2.St} {F F' F1 F2 : Fa} {Z Z' Z1 Z2 : Addr → Prop} {E E1 E2 : List Nat}

theorem Step.refl : Step E H ρ F Z H ρ F Z := ⟨fun _ _ e _ => e, fun _ e => e, fun _ _ => ⟨rfl, rfl⟩, fun _ _ m => .inl m, fun _ z => .inl z, fun _ z _ => .inl z⟩
theorem Step.gone (s : Step E H ρ F Z H' ρ' F' Z') {a : Addr} (h : H' a = none) : H a = none := by
  cases e : H a with
  | none => rfl
  | some o => exact absurd h (s.there a (by rw [e]; exact fun z => nomatch z))
theorem Step.trans (s : Step E1 H ρ F Z H1 ρ1 F1 Z1) (t : Step E2 H1 ρ1 F1 Z1 H2 ρ2 F2 Z2) : Step (E1 ++ E2) H ρ F Z H2 ρ2 F2 Z2 := by
  refine ⟨fun a o e l => ?_, fun a h => t.there a (s.there a h), fun j hj => ?_, fun j a m => ?_, fun a z => ?_, fun a z n => ?_⟩
  · have e1 : H1 a = some o := s.keep a o e fun q j hj => l q j (List.mem_append_left _ hj)
    refine t.keep a o e1 fun q j hj m => ?_
    rcases s.own j a m with m | ⟨i, hi, m⟩ | n
    · exact l q j (List.mem_append_right _ hj) m
    · exact l q i (List.mem_append_left _ hi) m
    · rw [n] at e
      cases e
  · have h1 : j ∉ E1 := fun z => hj (List.mem_append_left _ z)
    have h2 : j ∉ E2 := fun z => hj (List.mem_append_right _ z)
    exact ⟨(t.same j h2).1.trans (s.same j h1).1, (t.same j h2).2.trans (s.same j h1).2⟩
  · have back : ∀ i, a ∈ F1 i → a ∈ F i ∨ (∃ k ∈ E1 ++ E2, a ∈ F k) ∨ H a = none := fun i m => by
      rcases s.own i a m with m | ⟨k, hk, m⟩ | n
      · exact .inl m
      · exact .inr (.inl ⟨k, List.mem_append_left _ hk, m⟩)
      · exact .inr (.inr n)
    rcases t.own j a m with m | ⟨i, hi, m⟩ | n
    · exact back j m
    · rcases back i m with m | z
      · exact .inr (.inl ⟨i, List.mem_append_right _ hi, m⟩)
      · exact .inr z
    · exact .inr (.inr (s.gone n))
  · rcases t.zed a z with z | n
    · exact s.zed a z
    · exact .inr (s.gone n)
  · rcases s.zk a z n with z | ⟨i, hi, m⟩
    · rcases t.zk a z (s.there a n) with z | ⟨i, hi, m⟩
      · exact .inl z
      · rcases s.own i a m with m | ⟨k, hk, m⟩ | q
        · exact .inr ⟨i, List.mem_append_right _ hi, m⟩
        · exact .inr ⟨k, List.mem_append_left _ hk, m⟩
        · exact absurd q n
    · exact .inr ⟨i, List.mem_append_left _ hi, m⟩
theorem Step.more (s : Step E1 H ρ F Z H' ρ' F' Z') (h : ∀ j ∈ E1, j ∈ E2) : Step E2 H ρ F Z H' ρ' F' Z' :=
  ⟨fun a o e l => s.keep a o e fun q j hj => l q j (h j hj), s.there, fun j hj => s.same j fun z => hj (h j z), fun j a m => by
    rcases s.own j a m with m | ⟨i, hi, m⟩ | n
    · exact .inl m
    · exact .inr (.inl ⟨i, h i hi, m⟩)
    · exact .inr (.inr n), s.zed, fun a z n => (s.zk a z n).imp id fun ⟨i, hi, m⟩ => ⟨i, h i hi, m⟩⟩
theorem Step.seq (s : Step E1 H ρ F Z H1 ρ1 F1 Z1) (t : Step E2 H1 ρ1 F1 Z1 H2 ρ2 F2 Z2) (h1 : ∀ j ∈ E1, j ∈ E) (h2 : ∀ j ∈ E2, j ∈ E) : Step E H ρ F Z H2 ρ2 F2 Z2 :=
  (s.trans t).more fun j hj => (List.mem_append.mp hj).elim (h1 j) (h2 j)

/-- a value at the end of a step, its owned addresses B -/
def VB (K : Fr') (H : Hp) (ρ : List Slot) (σ : L2.St) (F : Fa) (Z : Addr → Prop) (v : V) (d : D) (B : List Addr) : Stat → Prop
  | .fresh => Own K H v d B
  | .froz => B = [] ∧ Bor K H false (fun a => ¬ Z a) v d
  | .scr => B = [] ∧ Bor K H true (fun a => ¬ Z a) v d
  | .loan i => B = [] ∧ Bor K H false (fun a => a ∈ F i ∨ ¬ Z a) v d
  | .take i => B = [] ∧ ρ[i]? = some (.own d) ∧ σ[i]? = some (some v) ∧ Own K H v d (F i)
/-- owned addresses in flight -/
structure Fl (E : List Nat) (H : Hp) (F : Fa) (F' : Fa) (Z' : Addr → Prop) (B : List Addr) : Prop where
  nodup : B.Nodup
  zed : ∀ a ∈ B, Z' a
  off : ∀ a ∈ B, ∀ j, a ∉ F' j
  new : ∀ a ∈ B, (∃ i ∈ E, a ∈ F i) ∨ H a = none
def VR (E : List Nat) (K : Fr') (H : Hp) (F : Fa) (H' : Hp) (ρ' : List Slot) (σ : L2.St) (F' : Fa) (Z' : Addr → Prop) (v : V) (d : D) (st : Stat) : Prop :=
  ∃ B, VB K H' ρ' σ F' Z' v d B st ∧ Fl E H F F' Z' B

theorem Fl.nil : Fl E H F F' Z' [] := ⟨List.nodup_nil, fun _ m => (nomatch m), fun _ m => (nomatch m), fun _ m => (nomatch m)⟩
theorem Fl.more {B : List Addr} (f : Fl E1 H F F' Z' B) (h : ∀ j ∈ E1, j ∈ E2) : Fl E2 H F F' Z' B :=
  ⟨f.nodup, f.zed, f.off, fun a m => (f.new a m).imp (fun ⟨i, hi, q⟩ => ⟨i, h i hi, q⟩) id⟩
theorem VR.more {v : V} {d : D} {st : Stat} (h : VR E1 K H F H' ρ' σ F' Z' v d st) (k : ∀ j ∈ E1, j ∈ E2) : VR E2 K H F H' ρ' σ F' Z' v d st :=
  let ⟨B, q, f⟩ := h
  ⟨B, q, f.more k⟩
/-- what was in flight ahead of a step stays in flight -/
theorem Fl.over {B : List Addr} (f : Fl E1 H F F1 Z1 B) (t : Step E2 H1 ρ1 F1 Z1 H2 ρ2 F2 Z2) (tr : ∀ a ∈ B, H1 a ≠ none) : Fl E1 H F F2 Z2 B :=
  ⟨f.nodup, fun a m => (t.zk a (f.zed a m) (tr a m)).elim id fun ⟨i, _, q⟩ => (f.off a m i q).elim, fun a m j q => by
    rcases t.own j a q with q | ⟨i, _, q⟩ | n
    · exact f.off a m j q
    · exact f.off a m i q
    · exact tr a m n, f.new⟩
theorem lst_tr {a : Addr} (h : ∃ o, H a = some o ∧ Lst o) : H a ≠ none := by
  obtain ⟨o, e, _⟩ := h
  rw [e]
  exact fun z => nomatch z
/-- whether a value of this status outlives a step on the slots E -/
def okSt (st : Stat) (E : List Nat) : Bool := match st with
  | .loan i => !E.contains i
  | .take i => !E.contains i
  | _ => true
theorem VB.over {v : V} {d : D} {st : Stat} {B : List Addr} (h : VB K H1 ρ1 σ F1 Z1 v d B st) (w : W K H1 ρ1 σ F1 Z1) (f : Fl E1 H F F1 Z1 B) (t : Step E2 H1 ρ1 F1 Z1 H2 ρ2 F2 Z2) (ok : okSt st E2 = true) : VB K H2 ρ2 σ F2 Z2 v d B st := by
  cases st with
  | fresh => exact Own.keep h fun a o e l => t.keep a o e fun q j _ m => f.off a (l q) j m
  | froz =>
    refine ⟨h.1, Bor.keep (P := fun a => ¬ Z1 a) (fun a o e l => t.keep a o e fun q j hj m => l q (w.zed j a m)) (fun a p n z => ?_) h.2⟩
    rcases t.zed a z with z | z
    · exact p z
    · exact n z
  | scr =>
    refine ⟨h.1, Bor.keep (P := fun a => ¬ Z1 a) (fun a o e l => t.keep a o e fun q j hj m => l q (w.zed j a m)) (fun a p n z => ?_) h.2⟩
    rcases t.zed a z with z | z
    · exact p z
    · exact n z
  | loan i =>
    have hi : i ∉ E2 := by simpa [okSt] using ok
    refine ⟨h.1, Bor.keep (P := fun a => a ∈ F1 i ∨ ¬ Z1 a) (fun a o e l => t.keep a o e fun q j hj m => ?_) (fun a p n => ?_) h.2⟩
    · rcases l q with z | z
      · exact w.disj i j a (fun e => hi (e ▸ hj)) z m
      · exact z (w.zed j a m)
    · rcases p with z | z
      · exact .inl ((t.same i hi).2 ▸ z)
      · exact .inr fun y => (t.zed a y).elim z n
  | take i =>
    have hi : i ∉ E2 := by simpa [okSt] using ok
    obtain ⟨e0, e1, e2, e3⟩ := h
    refine ⟨e0, (t.same i hi).1.trans e1, e2, ?_⟩
    rw [(t.same i hi).2]
    exact e3.keep fun a o e l => t.keep a o e fun q j hj m => w.disj i j a (fun e => hi (e ▸ hj)) (l q) m
theorem VB.tr {v : V} {d : D} {st : Stat} {B : List Addr} (h : VB K H ρ σ F Z v d B st) : ∀ a ∈ B, H a ≠ none := fun a m => by
  cases st with
  | fresh => exact lst_tr (Own.tr h a m)
  | froz =>
    rw [h.1] at m
    cases m
  | scr =>
    rw [h.1] at m
    cases m
  | loan i =>
    rw [h.1] at m
    cases m
  | take i =>
    rw [h.1] at m
    cases m
theorem VB.bor {v : V} {d : D} {st : Stat} {B : List Addr} (h : VB K H ρ σ F Z v d B st) : Bor K H true (fun _ => True) v d := by
  cases st with
  | fresh => exact Own.bor h fun _ _ => trivial
  | froz => exact (h.2.imp fun _ _ => trivial).wide
  | scr => exact h.2.imp fun _ _ => trivial
  | loan i => exact (h.2.imp fun _ _ => trivial).wide
  | take i => exact Own.bor h.2.2.2 fun _ _ => trivial
/-- a value that may be handed to what wants lists that may change -/
def noScr : Stat → Bool
  | .scr => false
  | _ => true
theorem VB.borX {v : V} {d : D} {st : Stat} {B : List Addr} (h : VB K H ρ σ F Z v d B st) (n : noScr st = true) : Bor K H false (fun _ => True) v d := by
  cases st with
  | fresh => exact Own.bor h fun _ _ => trivial
  | froz => exact h.2.imp fun _ _ => trivial
  | scr => cases n
  | loan i => exact h.2.imp fun _ _ => trivial
  | take i => exact Own.bor h.2.2.2 fun _ _ => trivial
theorem VR.bor {v : V} {d : D} {st : Stat} (h : VR E K H F H' ρ' σ F' Z' v d st) : Bor K H' true (fun _ => True) v d :=
  let ⟨_, q, _⟩ := h
  q.bor
theorem VR.borX {v : V} {d : D} {st : Stat} (h : VR E K H F H' ρ' σ F' Z' v d st) (n : noScr st = true) : Bor K H' false (fun _ => True) v d :=
  let ⟨_, q, _⟩ := h
  q.borX n
theorem VR.pure {v : V} {d : D} (p : Zr.pur d = true) {b : Bool} {P : Addr → Prop} (h : Bor K H' b P v d) : VR E K H F H' ρ' σ F' Z' v d .fresh := ⟨[], Bor.own h p, Fl.nil⟩
/-- a value ahead of a step, behind it -/
theorem VR.over {v : V} {d : D} {st : Stat} (h : VR E1 K H F H1 ρ1 σ F1 Z1 v d st) (w : W K H1 ρ1 σ F1 Z1) (t : Step E2 H1 ρ1 F1 Z1 H2 ρ2 F2 Z2) (ok : okSt st E2 = true) : VR E1 K H F H2 ρ2 σ F2 Z2 v d st :=
  let ⟨B, q, f⟩ := h
  ⟨B, q.over w f t ok, f.over t q.tr⟩
/-- told from the start of the step ahead -/
theorem Fl.back {B : List Addr} (s : Step E1 H ρ F Z H1 ρ1 F1 Z1) (f : Fl E2 H1 F1 F' Z' B) : Fl (E1 ++ E2) H F F' Z' B :=
  ⟨f.nodup, f.zed, f.off, fun a m => by
    rcases f.new a m with ⟨i, hi, q⟩ | n
    · rcases s.own i a q with q | ⟨k, hk, q⟩ | n
      · exact .inl ⟨i, List.mem_append_right _ hi, q⟩
      · exact .inl ⟨k, List.mem_append_left _ hk, q⟩
      · exact .inr n
    · exact .inr (s.gone n)⟩
theorem VR.back {v : V} {d : D} {st : Stat} (s : Step E1 H ρ F Z H1 ρ1 F1 Z1) (h : VR E2 K H1 F1 H' ρ' σ F' Z' v d st) : VR (E1 ++ E2) K H F H' ρ' σ F' Z' v d st :=
  let ⟨B, q, f⟩ := h
  ⟨B, q, f.back s⟩
/-- two in flight stand apart -/
theorem Fl.apart {A B : List Addr} (f : Fl E1 H F F1 Z1 A) (g : Fl E2 H1 F1 F2 Z2 B) (tr : ∀ a ∈ A, H1 a ≠ none) : ∀ a ∈ A, a ∉ B := fun a m q => by
  rcases g.new a q with ⟨i, _, z⟩ | n
  · exact f.off a m i z
  · exact tr a m n
end
end Zr

set_option maxRecDepth 100000
set_option maxHeartbeats 4000000
/-! ZrB: a small language for the bodies of defs, and what it computes over data. -/
namespace Zr
open PySem PySem.Spec PyProof.Rows L2

inductive Bi where
  | len | abs | int | max | min | sum | all | any | sorted | tuple | list | repr | str
  deriving DecidableEq
inductive Me where
  | join | count | index
  deriving DecidableEq
inductive Mu where
  | append | extend | pop | insert | remove
  deriving DecidableEq
inductive Ty where
  | int | bool | str | list | tuple | dict
  deriving DecidableEq

/-- a target -/
inductive IG where
  | nm (i : Nat)
  | t1 (a : IG)
  | t2 (a b : IG)
  | t3 (a b c : IG)
  | t4 (a b c d : IG)

mutual
inductive IE where
  | var (i : Nat)
  | mov (i : Nat)
  | fz (i : Nat) (e : IE)
  | int (i : Int)
  | str (x : Str)
  | bl (b : Bool)
  | non
  | glob (x : Str) (d : D)
  | bin (op : Operator) (a b : IE)
  | neg (a : IE)
  | cmp (op : CmpOp) (a b : IE)
  | chain (op op' : CmpOp) (a b c : IE)
  | andV (a b : IE)
  | orV (a b : IE)
  | oneV (a : IE)
  | notV (a : IE)
  | ite (t : IT) (a b : IE)
  | tup (es : IEs)
  | lst (es : IEs)
  | ix (a b : IE)
  | sl (a : IE) (lo hi : IO)
  | isi (a : IE) (ts : List Ty)
  | bcall (b : Bi) (es : IEs)
  | fcall (f : Nat) (es : IEs)
  | fscr (f : Nat) (es : IEs)
  | fref (f : Nat) (s : Nat) (es : IEs)
  | meth (m : Me) (o : IE) (es : IEs)
  | mut (m : Mu) (i : Nat) (es : IEs)
  | lc (own : List Nat) (elt : IE) (g : IG) (it : II) (t : IC)
  | lc2 (own : List Nat) (elt : IE) (g : IG) (it : II) (t : IC) (g1 : IG) (it1 : II) (t1 : IC)
inductive IEs where
  | nil
  | cons (e : IE) (es : IEs)
inductive IO where
  | none
  | some (e : IE)
/-- a test -/
inductive IT where
  | tru (e : IE)
  | cmp (e : IE)
  | and (a b : IT)
  | or (a b : IT)
  | one (a : IT)
  | not (a : IT)
/-- a comprehension's tests -/
inductive IC where
  | yes
  | one (t : IT)
/-- what is walked -/
inductive II where
  | seq (e : IE)
  | rng1 (a : IE)
  | rng2 (a b : IE)
  | enum (e : IE)
  | zip (a b : IE)
end
mutual
inductive IS where
  | asg (g : IG) (e : IE)
  | par (is : List Nat) (es : IEs)
  | set (i : Nat) (k e : IE)
  | set2 (i : Nat) (k1 k e : IE)
  | aug (op : Operator) (i : Nat) (e : IE)
  | augx (op : Operator) (i : Nat) (k e : IE)
  | expr (e : IE)
  | ifs (t : IT) (a b : ISs)
  | whl (t : IT) (b : ISs)
  | for (g : IG) (it : II) (b : ISs)
  | ret (e : IE)
  | retN
  | pass
  | never
inductive ISs where
  | nil
  | cons (s : IS) (ss : ISs)
end

/-! ### the slots that may be changed -/
def IG.slots : IG → List Nat
  | .nm i => [i]
  | .t1 a => a.slots
  | .t2 a b => a.slots ++ b.slots
  | .t3 a b c => a.slots ++ (b.slots ++ c.slots)
  | .t4 a b c d => a.slots ++ (b.slots ++ (c.slots ++ d.slots))
/-- the slots that may be taken -/
def tkE : IE → List Nat
  | .mov i => [i]
  | .andV a b => tkE a ++ tkE b
  | .orV a b => tkE a ++ tkE b
  | .oneV a => tkE a
  | .fz _ a => tkE a
  | .ite _ a b => tkE a ++ tkE b
  | _ => []
def tks : IEs → List Nat
  | .nil => []
  | .cons e es => tkE e ++ tks es
mutual
def effE : IE → List Nat
  | .fz i e => i :: effE e
  | .bin _ a b => effE a ++ effE b
  | .neg a => effE a
  | .cmp _ a b => effE a ++ effE b
  | .chain _ _ a b c => effE a ++ (effE b ++ effE c)
  | .andV a b => effE a ++ effE b
  | .orV a b => effE a ++ effE b
  | .oneV a => effE a
  | .notV a => effE a
  | .ite t a b => effT t ++ (effE a ++ effE b)
  | .tup es => effs es ++ tks es
  | .lst es => effs es ++ tks es
  | .ix a b => effE a ++ effE b
  | .sl a lo hi => effE a ++ (effO lo ++ effO hi)
  | .isi a _ => effE a
  | .bcall _ es => effs es
  | .fcall _ es => effs es
  | .fscr _ es => effs es
  | .fref _ s es => s :: effs es
  | .meth _ o es => effE o ++ effs es
  | .mut _ i es => i :: (effs es ++ tks es)
  | .lc own elt g it t => effI it ++ (effC t ++ (effE elt ++ tkE elt))
  | .lc2 own elt g it t g1 it1 t1 => effI it ++ (effC t ++ (effI it1 ++ (effC t1 ++ (effE elt ++ tkE elt))))
  | _ => []
def effs : IEs → List Nat
  | .nil => []
  | .cons e es => effE e ++ effs es
def effO : IO → List Nat
  | .none => []
  | .some e => effE e
def effT : IT → List Nat
  | .tru e => effE e
  | .cmp e => effE e
  | .and a b => effT a ++ effT b
  | .or a b => effT a ++ effT b
  | .one a => effT a
  | .not a => effT a
def effC : IC → List Nat
  | .yes => []
  | .one t => effT t
def effI : II → List Nat
  | .seq e => effE e
  | .rng1 a => effE a
  | .rng2 a b => effE a ++ effE b
  | .enum e => effE e
  | .zip a b => effE a ++ effE b
end
mutual
def effS : IS → List Nat
  | .asg g e => effE e ++ (tkE e ++ g.slots)
  | .par is es => effs es ++ (tks es ++ is)
  | .set i k e => effE e ++ (tkE e ++ (effE k ++ [i]))
  | .set2 i k1 k e => effE e ++ (tkE e ++ (effE k1 ++ (effE k ++ [i])))
  | .aug _ i e => effE e ++ [i]
  | .augx _ i k e => effE k ++ (effE e ++ [i])
  | .expr e => effE e
  | .ifs t a b => effT t ++ (effSs a ++ effSs b)
  | .whl t b => effT t ++ effSs b
  | .for g it b => effI it ++ (g.slots ++ effSs b)
  | .ret e => effE e ++ tkE e
  | _ => []
def effSs : ISs → List Nat
  | .nil => []
  | .cons s ss => effS s ++ effSs ss
end

mutual
/-- the slots that a statement stores into -/
def asS : IS → List Nat
  | .asg g _ => g.slots
  | .par is _ => is
  | .aug _ i _ => [i]
  | .ifs _ a b => asSs a ++ asSs b
  | .whl _ b => asSs b
  | .for g _ b => g.slots ++ asSs b
  | _ => []
def asSs : ISs → List Nat
  | .nil => []
  | .cons s ss => asS s ++ asSs ss
end

/-! ### operations on data -/
def lim : Nat := 1000000
def truD : D → Option Bool
  | .none => some false
  | .bool b => some b
  | .int i => some (i != 0)
  | .str x => if x.length ≤ lim then some ((x.length : Int) != 0) else none
  | .list xs => some !xs.isEmpty
  | .tuple xs => some !xs.isEmpty
  | .dict _ => none
def mulSm (i j : Int) : Bool := decide (i.natAbs < 2 ^ 64) || decide (j.natAbs < 2 ^ 64)
def mulOk (i j : Int) : Bool := mulSm i j || decide (i.natAbs.log2 + j.natAbs.log2 < 1000000)
def divOk (j : Int) : Bool := decide (j ≠ 0) && decide (j.natAbs < 1073741824)
def powOk (i j : Int) : Bool := decide (0 ≤ j) && decide (j ≤ 1000000) && decide (i.natAbs < 2 ^ 64)
def repS (n : Nat) (x : Str) : Str := ⟨(List.replicate n x.cps).foldl (· ++ ·) #[]⟩
def binop : Operator → D → D → Option D
  | .Add, .int i, .int j => some (.int (i + j))
  | .Sub, .int i, .int j => some (.int (i - j))
  | .Mult, .int i, .int j => if mulOk i j then some (.int (i * j)) else none
  | .FloorDiv, .int i, .int j => if divOk j then some (.int (i.fdiv j)) else none
  | .Mod, .int i, .int j => if j ≠ 0 then some (.int (i.fmod j)) else none
  | .Pow, .int i, .int j => if powOk i j then some (.int (i ^ j.toNat)) else none
  | .Add, .str x, .str y => if x.length + y.length ≤ lim then some (.str (x ++ y)) else none
  | .Add, .tuple xs, .tuple ys => if xs.length + ys.length ≤ lim ∧ purs xs = true ∧ purs ys = true then some (.tuple (xs ++ ys)) else none
  | .Add, .list xs, .list ys => if xs.length + ys.length ≤ lim ∧ purs xs = true ∧ purs ys = true then some (.list (xs ++ ys)) else none
  | .Mult, .list xs, .int k => if xs.length * k.toNat ≤ lim ∧ -lim < k ∧ k < lim ∧ purs xs = true then some (.list (List.replicate k.toNat xs).flatten) else none
  | .Mult, .str x, .int k => if x.length * k.toNat ≤ lim ∧ -lim < k ∧ k < lim then some (.str (repS k.toNat x)) else none
  | _, _, _ => none
def augop : Operator → Int → Int → Option Int
  | .Add, i, j => some (i + j)
  | .Sub, i, j => some (i - j)
  | .Mult, i, j => if mulSm i j then some (i * j) else none
  | _, _, _ => none
def augD : Operator → D → D → Option D
  | op, .int i, .int j => (augop op i j).map .int
  | .Add, .str x, .str y => if x.length + y.length ≤ lim then some (.str (x ++ y)) else none
  | _, _, _ => none
def isNone : D → Bool
  | .none => true
  | _ => false
def eqD (a b : D) : Option Bool := match a, b with
  | .int i, .int j => some (i == j)
  | _, _ => if a.plain && b.plain && decide (a.depth ≤ 40) then some (PyData.eqv a b) else none
def ltD (a b : D) : Option Bool := match a, b with
  | .int i, .int j => some (decide (i < j))
  | _, _ => if PySem.W.alike a b && decide (a.depth ≤ 40) && !isNone a then some (PySem.W.dataLt a b) else none
def memD (x : D) (ys : List D) : Option Bool :=
  if x.plain && PyData.plainAll ys && decide (x.depth ≤ 40) then some (ys.any fun y => PyData.eqv y x) else none
def cmpop : CmpOp → D → D → Option Bool
  | .Eq, a, b => eqD a b
  | .NotEq, a, b => (eqD a b).map (!·)
  | .Lt, a, b => ltD a b
  | .Gt, a, b => ltD b a
  | .LtE, a, b => (ltD b a).map (!·)
  | .GtE, a, b => (ltD a b).map (!·)
  | .Is, a, .none => some (isNone a)
  | .IsNot, a, .none => some (!isNone a)
  | .In, x, .tuple ys => memD x ys
  | .In, x, .list ys => memD x ys
  | .NotIn, x, .tuple ys => (memD x ys).map (!·)
  | .NotIn, x, .list ys => (memD x ys).map (!·)
  | _, _, _ => none
def toInts : List D → Option (List Int)
  | [] => some []
  | .int i :: r => (toInts r).map (i :: ·)
  | _ :: _ => none
def toBls : List D → Option (List Bool)
  | [] => some []
  | .bool b :: r => (toBls r).map (b :: ·)
  | _ :: _ => none
def insI (x : Int) : List Int → List Int
  | [] => [x]
  | y :: r => if x ≤ y then x :: y :: r else y :: insI x r
def sortI : List Int → List Int
  | [] => []
  | x :: r => insI x (sortI r)
def maxI : Int → List Int → Int
  | m, [] => m
  | m, x :: r => maxI (if x > m then x else m) r
def minI : Int → List Int → Int
  | m, [] => m
  | m, x :: r => minI (if x < m then x else m) r
def bi : Bi → List D → Option D
  | .len, [.list xs] => some (.int xs.length)
  | .len, [.tuple xs] => some (.int xs.length)
  | .len, [.str x] => if x.length ≤ lim then some (.int x.length) else none
  | .abs, [.int i] => some (.int (if i < 0 then -i else i))
  | .int, [.int i] => some (.int i)
  | .int, [.bool b] => some (.int (if b then 1 else 0))
  | .max, [.int i, .int j] => some (.int (if j > i then j else i))
  | .min, [.int i, .int j] => some (.int (if j < i then j else i))
  | .max, [.list xs] => match toInts xs with | some (m :: r) => some (.int (maxI m r)) | _ => none
  | .min, [.list xs] => match toInts xs with | some (m :: r) => some (.int (minI m r)) | _ => none
  | .sum, [.list xs] => (toInts xs).map fun ns => .int ns.sum
  | .all, [.list xs] => (toBls xs).map fun bs => .bool (bs.all id)
  | .any, [.list xs] => (toBls xs).map fun bs => .bool (bs.any id)
  | .sorted, [.list xs] => (toInts xs).map fun ns => .list ((sortI ns).map .int)
  | .sorted, [.tuple xs] => (toInts xs).map fun ns => .list ((sortI ns).map .int)
  | .tuple, [.list xs] => if purs xs then some (.tuple xs) else none
  | .tuple, [.tuple xs] => if purs xs then some (.tuple xs) else none
  | .list, [.list xs] => if purs xs then some (.list xs) else none
  | .list, [.tuple xs] => if purs xs then some (.list xs) else none
  | .repr, [d] => if d.showable && !d.hasDict && decide (d.depth ≤ 40) && decide (d.shown.length ≤ lim) then some (.str d.shown) else none
  | .str, [.int i] => if i.natAbs.log2 < 1920 then some (.str (toString i : String)) else none
  | _, _ => none
def meD : Me → D → List D → Option D
  | _, _, _ => none
def tyD : Ty → D → Bool
  | .int, .int _ => true
  | .int, .bool _ => true
  | .bool, .bool _ => true
  | .str, .str _ => true
  | .list, .list _ => true
  | .tuple, .tuple _ => true
  | .dict, .dict _ => true
  | _, _ => false
/-- an index: the place -/
def pixN (n : Nat) (i : Int) : Option Nat := if 0 ≤ i then (if i < n then some i.toNat else none) else if -(n : Int) ≤ i then some (i + n).toNat else none
def ixD : D → D → Option D
  | .list xs, .int i => match pixN xs.length i with | some j => xs[j]? | none => none
  | .tuple xs, .int i => match pixN xs.length i with | some j => xs[j]? | none => none
  | .str x, .int i => if x.length ≤ lim then match pixN x.length i with
    | some j => match x.cps.toList[j]? with
      | some c => some (.str ⟨#[c]⟩)
      | none => none
    | none => none else none
  | _, _ => none
def slD (d : D) (lo hi : Option Int) : Option D := match d with
  | .list xs => if purs xs then some (.list ((xs.drop (HT.sIx xs.length 0 lo)).take (HT.sIx xs.length xs.length hi - HT.sIx xs.length 0 lo))) else none
  | .tuple xs => if purs xs then some (.tuple ((xs.drop (HT.sIx xs.length 0 lo)).take (HT.sIx xs.length xs.length hi - HT.sIx xs.length 0 lo))) else none
  | .str x => if x.length ≤ lim then some (.str (cutS x lo hi)) else none
  | _ => none

mutual
/-- data are the same -/
def deq : D → D → Bool
  | .none, .none => true
  | .bool a, .bool b => a == b
  | .int a, .int b => decide (a = b)
  | .str a, .str b => decide (a = b)
  | .list xs, .list ys => deqs xs ys
  | .tuple xs, .tuple ys => deqs xs ys
  | _, _ => false
def deqs : List D → List D → Bool
  | [], [] => true
  | x :: xs, y :: ys => deq x y && deqs xs ys
  | _, _ => false
end
mutual
theorem deq_eq : ∀ {a b : D}, deq a b = true → a = b
  | .none, .none, _ => rfl
  | .bool a, .bool b, h => by simp [deq] at h; rw [h]
  | .int a, .int b, h => by simp [deq] at h; rw [h]
  | .str a, .str b, h => by simp [deq] at h; rw [h]
  | .list xs, .list ys, h => by rw [deqs_eq (show deqs xs ys = true from h)]
  | .tuple xs, .tuple ys, h => by rw [deqs_eq (show deqs xs ys = true from h)]
theorem deqs_eq : ∀ {a b : List D}, deqs a b = true → a = b
  | [], [], _ => rfl
  | x :: xs, y :: ys, h => by
    simp only [deqs, Bool.and_eq_true] at h
    rw [deq_eq h.1, deqs_eq h.2]
end
/-! ### running -/
abbrev Ro := List Slot
abbrev R := Option (D × Stat × Ro)
/-- calls: the def, the argument by reference, the others -/
abbrev CallF := Nat → Option D → List D → Option (D × Option D)
def bind1 (d : D) : Slot := if pur d then .pur d else .bor d
def stOf (d : D) (s : Stat) : Stat := if pur d then .fresh else s
def gv (ρ : Ro) (i : Nat) : Option (D × Stat) := match ρ[i]? with
  | some (.pur d) => some (d, .fresh)
  | some (.own d) => some (d, .loan i)
  | some (.byr d) => some (d, .loan i)
  | some (.bor d) => some (d, .froz)
  | some (.scr d) => some (d, .scr)
  | _ => none
def noByr (ρ : Ro) (i : Nat) : Bool := match ρ[i]? with
  | some (.byr _) => false
  | some _ => true
  | none => false
/-- a fresh or frozen value stored into a target -/
def bindV : IG → D → Stat → Ro → Option Ro
  | .nm i, d, st, ρ => if noByr ρ i then (match st with
    | .fresh => some (ρ.set i (if pur d then .pur d else .own d))
    | .froz => some (ρ.set i (if pur d then .pur d else .bor d))
    | _ => none) else none
  | .t1 a, .tuple [x], st, ρ => bindV a x st ρ
  | .t2 a b, .tuple [x, y], st, ρ => (bindV a x st ρ).bind (bindV b y st)
  | .t3 a b c, .tuple [x, y, z], st, ρ => (bindV a x st ρ).bind fun ρ1 => (bindV b y st ρ1).bind (bindV c z st)
  | .t4 a b c e, .tuple [x, y, z, u], st, ρ => (bindV a x st ρ).bind fun ρ1 => (bindV b y st ρ1).bind fun ρ2 => (bindV c z st ρ2).bind (bindV e u st)
  | _, _, _, _ => none
def bindNs : List Nat → List D → Ro → Option Ro
  | [], [], ρ => some ρ
  | i :: is, d :: ds, ρ => match bindV (.nm i) d .fresh ρ with
    | some ρ1 => bindNs is ds ρ1
    | none => none
  | _, _, _ => none
/-- a value taken out of where it lies -/
def settle (d : D) (s : Stat) (ρ : Ro) : Option Ro := match s with
  | .fresh => some ρ
  | .take i => match ρ[i]? with
    | some (.own _) => some (ρ.set i .emp)
    | _ => none
  | _ => if pur d then some ρ else none
def settleA (d : D) (s : Stat) (ρ : Ro) : Option (Stat × Ro) := match s with
  | .froz => some (.froz, ρ)
  | s => (settle d s ρ).map fun ρ1 => (.fresh, ρ1)
/-- hidden slots: only such as own nothing -/
def hide (ρ : Ro) : List Nat → Option Ro
  | [] => some ρ
  | i :: r => match hide ρ r with
    | some ρ1 => match ρ1[i]? with
      | some .emp => some ρ1
      | some (.pur _) => some (ρ1.set i .emp)
      | some (.bor _) => some (ρ1.set i .emp)
      | some (.scr _) => some (ρ1.set i .emp)
      | _ => none
    | none => none
def unhide (ρ0 : Ro) (ρ : Ro) : List Nat → Ro
  | [] => ρ
  | i :: r => (unhide ρ0 ρ r).set i (ρ0[i]?.getD .emp)
/-- items of what is walked -/
def itemsOf : D → Option (List D)
  | .list xs => some xs
  | .tuple xs => some xs
  | .str x => some (x.cps.toList.map fun c => .str ⟨#[c]⟩)
  | _ => none
def rangeD (lo : Int) (n : Nat) : List D := (List.range n).map fun (i : Nat) => PyData.int (lo + (i : Int))
def enumD : Nat → List D → List D
  | _, [] => []
  | i, x :: r => .tuple [.int i, x] :: enumD (i + 1) r
def zipD : List D → List D → List D
  | x :: xs, y :: ys => .tuple [x, y] :: zipD xs ys
  | _, _ => []
/-- whether what is walked may be walked while E changes: it is on loan from a slot that stays, its items are plain -/
def walkOk (st : Stat) (xs : List D) (E : List Nat) : Bool := match st with
  | .loan i => purs xs && !E.contains i
  | .take i => purs xs && !E.contains i
  | .scr => purs xs
  | _ => true
def lcGo (turn : D → Ro → List D → Option (List D × Ro)) : List D → Ro → List D → Option (List D × Ro)
  | [], ρ, acc => some (acc, ρ)
  | x :: r, ρ, acc => match turn x ρ acc with
    | some (acc1, ρ1) => lcGo turn r ρ1 acc1
    | none => none
/-- a method that changes a list: the list behind it, the answer -/
def mu : Mu → List D → List D → Option (List D × D)
  | .append, xs, [y] => if xs.length < lim then some (xs ++ [y], .none) else none
  | .extend, xs, [.list ys] => if xs.length + ys.length ≤ lim ∧ purs ys = true then some (xs ++ ys, .none) else none
  | .pop, xs, [] => match xs.getLast? with
    | some y => if pur y then some (xs.dropLast, y) else none
    | none => none
  | .pop, xs, [.int i] => if -lim < i ∧ i < lim then match pixN xs.length i with
    | some j => match xs[j]? with
      | some y => if pur y then some (xs.eraseIdx j, y) else none
      | none => none
    | none => none else none
  | _, _, _ => none
/-- a slot that owns what it holds -/
def isOwn (ρ : Ro) (i : Nat) : Bool := match ρ[i]? with
  | some (.own _) => true
  | some (.byr _) => true
  | _ => false
/-- a slot that owns a list -/
def isLst (ρ : Ro) (i : Nat) : Bool := match ρ[i]? with
  | some (.own (.list _)) => true
  | some (.byr (.list _)) => true
  | _ => false
/-- an item stored -/
def setL (xs : List D) (n : Int) (y : D) : Option (List D) := match pixN xs.length n with
  | some j => match xs[j]? with
    | some x => if pur x then some (xs.set j y) else none
    | none => none
  | none => none
def setL2 (xs : List D) (m n : Int) (y : D) : Option (List D) := match pixN xs.length m with
  | some j => match xs[j]? with
    | some (.list zs) => if pur y then (match setL zs n y with
      | some ws => some (xs.set j (.list ws))
      | none => none) else none
    | _ => none
  | none => none
/-- the statuses of evaluated arguments -/
abbrev Ds := List (D × Stat)
def settles : Ds → Ro → Option (List D × Ro)
  | [], ρ => some ([], ρ)
  | (d, s) :: r, ρ => match settle d s ρ with
    | some ρ1 => match settles r ρ1 with
      | some (ds, ρ2) => some (d :: ds, ρ2)
      | none => none
    | none => none
inductive Out where
  | nx (ρ : Ro)
  | rt (d : D) (ρ : Ro)

mutual
def ev (C : CallF) : IE → Ro → R
  | .var i, ρ => match gv ρ i with
    | some (d, s) => some (d, s, ρ)
    | none => none
  | .mov i, ρ => match ρ[i]? with
    | some (.pur d) => some (d, .fresh, ρ)
    | some (.own d) => some (d, .take i, ρ)
    | some (.bor d) => some (d, .froz, ρ)
    | some (.scr d) => some (d, .scr, ρ)
    | _ => none
  | .fz i e, ρ => match ev C e ρ with
    | some (d, .loan j, ρ1) => if j = i then (match ρ1[i]? with
      | some (.own c) => some (d, .froz, ρ1.set i (.bor c))
      | _ => none) else none
    | r => r
  | .int i, ρ => some (.int i, .fresh, ρ)
  | .str x, ρ => some (.str x, .fresh, ρ)
  | .bl b, ρ => some (.bool b, .fresh, ρ)
  | .non, ρ => some (.none, .fresh, ρ)
  | .glob x d, ρ => if pur d then some (d, .fresh, ρ) else none
  | .bin op a b, ρ => match ev C a ρ with
    | some (x, sx, ρ1) => match ev C b ρ1 with
      | some (y, sy, ρ2) => if okSt sx (effE b) && noScr sx && noScr sy then (match binop op x y with
        | some d => some (d, .fresh, ρ2)
        | none => none) else none
      | none => none
    | none => none
  | .neg a, ρ => match ev C a ρ with
    | some (.int i, _, ρ1) => some (.int (-i), .fresh, ρ1)
    | _ => none
  | .cmp op a b, ρ => match ev C a ρ with
    | some (x, sx, ρ1) => match ev C b ρ1 with
      | some (y, _, ρ2) => if okSt sx (effE b) then (match cmpop op x y with
        | some k => some (.bool k, .fresh, ρ2)
        | none => none) else none
      | none => none
    | none => none
  | .chain op op' a b c, ρ => match ev C a ρ with
    | some (x, sx, ρ1) => match ev C b ρ1 with
      | some (y, sy, ρ2) => if okSt sx (effE b) then (match cmpop op x y with
        | some true => match ev C c ρ2 with
          | some (z, _, ρ3) => if okSt sy (effE c) then (match cmpop op' y z with
            | some k => some (.bool k, .fresh, ρ3)
            | none => none) else none
          | none => none
        | some false => some (.bool false, .fresh, ρ2)
        | none => none) else none
      | none => none
    | none => none
  | .andV a b, ρ => match ev C a ρ with
    | some (x, s, ρ1) => match truD x with
      | some true => ev C b ρ1
      | some false => some (x, s, ρ1)
      | none => none
    | none => none
  | .orV a b, ρ => match ev C a ρ with
    | some (x, s, ρ1) => match truD x with
      | some true => some (x, s, ρ1)
      | some false => ev C b ρ1
      | none => none
    | none => none
  | .oneV a, ρ => ev C a ρ
  | .notV a, ρ => match ev C a ρ with
    | some (x, _, ρ1) => match truD x with
      | some k => some (.bool !k, .fresh, ρ1)
      | none => none
    | none => none
  | .ite t a b, ρ => match evT C t ρ with
    | some (k, ρ1) => if k then ev C a ρ1 else ev C b ρ1
    | none => none
  | .tup es, ρ => match evs C es ρ with
    | some (ds, ρ1) => match settles ds ρ1 with
      | some (xs, ρ2) => if xs.length ≤ lim then some (.tuple xs, .fresh, ρ2) else none
      | none => none
    | none => none
  | .lst es, ρ => match evs C es ρ with
    | some (ds, ρ1) => match settles ds ρ1 with
      | some (xs, ρ2) => if xs.length ≤ lim then some (.list xs, .fresh, ρ2) else none
      | none => none
    | none => none
  | .ix a b, ρ => match ev C a ρ with
    | some (x, sx, ρ1) => match ev C b ρ1 with
      | some (y, _, ρ2) => if okSt sx (effE b) then (match ixD x y with
        | some d => if pur d then some (d, .fresh, ρ2) else (match sx with
          | .fresh => none
          | .take _ => none
          | s => some (d, s, ρ2))
        | none => none) else none
      | none => none
    | none => none
  | .sl a lo hi, ρ => match ev C a ρ with
    | some (x, sx, ρ1) => match evO C lo ρ1 with
      | some (l, ρ2) => match evO C hi ρ2 with
        | some (h, ρ3) => if okSt sx (effO lo ++ effO hi) then (match slD x l h with
          | some d => some (d, .fresh, ρ3)
          | none => none) else none
        | none => none
      | none => none
    | none => none
  | .isi a ts, ρ => match ev C a ρ with
    | some (x, _, ρ1) => some (.bool (ts.any fun t => tyD t x), .fresh, ρ1)
    | none => none
  | .bcall b es, ρ => match evs C es ρ with
    | some (ds, ρ1) => match bi b (ds.map (·.1)) with
      | some d => some (d, .fresh, ρ1)
      | none => none
    | none => none
  | .fcall f es, ρ => match evs C es ρ with
    | some (ds, ρ1) => if ds.all (fun p => noScr p.2) then (match C f none (ds.map (·.1)) with
      | some (d, _) => some (d, .fresh, ρ1)
      | none => none) else none
    | none => none
  | .fscr f es, ρ => match evs C es ρ with
    | some (ds, ρ1) => if ds.tail.all (fun p => noScr p.2) then (match C f none (ds.map (·.1)) with
      | some (d, _) => some (d, .fresh, ρ1)
      | none => none) else none
    | none => none
  | .fref f s es, ρ => match evs C es ρ with
    | some (ds, ρ1) => if ds.all (fun p => okSt p.2 [s] && noScr p.2) && isOwn ρ s then (match ρ1[s]? with
      | some (.own c) => match C f (some c) (ds.map (·.1)) with
        | some (d, some c') => some (d, .fresh, ρ1.set s (.own c'))
        | _ => none
      | some (.byr c) => match C f (some c) (ds.map (·.1)) with
        | some (d, some c') => some (d, .fresh, ρ1.set s (.byr c'))
        | _ => none
      | _ => none) else none
    | none => none
  | .meth m o es, ρ => match ev C o ρ with
    | some (x, sx, ρ1) => match evs C es ρ1 with
      | some (ds, ρ2) => if okSt sx (effs es) then (match meD m x (ds.map (·.1)) with
        | some d => some (d, .fresh, ρ2)
        | none => none) else none
      | none => none
    | none => none
  | .mut m i es, ρ => if isLst ρ i && !(effs es).contains i && !(tks es).contains i then (match evs C es ρ with
    | some (ds, ρ1) => match settles ds ρ1 with
      | some (args, ρ2) => match ρ2[i]? with
        | some (.own (.list xs)) => match mu m xs args with
          | some (ys, d) => some (d, .fresh, ρ2.set i (.own (.list ys)))
          | none => none
        | some (.byr (.list xs)) => match mu m xs args with
          | some (ys, d) => some (d, .fresh, ρ2.set i (.byr (.list ys)))
          | none => none
        | _ => none
      | none => none
    | none => none) else none
  | .lc own elt g it t, ρ => match evI C it ρ with
    | some (xs, st, ρ1) => match hide ρ1 own with
      | some ρ2 => if st.all (walkOk · xs (own ++ (effC t ++ (effE elt ++ tkE elt)))) && g.slots.all own.contains then
          (match lcGo (fun x ρ acc => match bindV g x .froz ρ with
            | some ρa => match evC C t ρa with
              | some (true, ρb) => match ev C elt ρb with
                | some (y, sy, ρc) => match settle y sy ρc with
                  | some ρe => match hide ρe own with
                    | some ρd => if acc.length < lim then some (y :: acc, ρd) else none
                    | none => none
                  | none => none
                | none => none
              | some (false, ρb) => match hide ρb own with
                | some ρd => some (acc, ρd)
                | none => none
              | none => none
            | none => none) xs ρ2 [] with
          | some (acc, ρ3) => some (.list acc.reverse, .fresh, unhide ρ1 ρ3 own)
          | none => none) else none
      | none => none
    | none => none
  | .lc2 own elt g it t g1 it1 t1, ρ => match evI C it ρ with
    | some (xs, st, ρ1) => match hide ρ1 own with
      | some ρ2 => if st.all (walkOk · xs (own ++ (effC t ++ (effI it1 ++ (effC t1 ++ (effE elt ++ tkE elt)))))) && g.slots.all own.contains && g1.slots.all own.contains then
          (match lcGo (fun x ρ acc => match bindV g x .froz ρ with
            | some ρa => match evC C t ρa with
              | some (true, ρb) => match evI C it1 ρb with
                | some (xs1, st1, ρb1) => match hide ρb1 g1.slots with
                  | some ρb2 => if st1.all (walkOk · xs1 (own ++ (effC t ++ (effI it1 ++ (effC t1 ++ (effE elt ++ tkE elt)))))) then
                    (match lcGo (fun x ρ acc => match bindV g1 x .froz ρ with
                    | some ρa => match evC C t1 ρa with
                      | some (true, ρb) => match ev C elt ρb with
                        | some (y, sy, ρc) => match settle y sy ρc with
                          | some ρe => match hide ρe g1.slots with
                            | some ρd => if acc.length < lim then some (y :: acc, ρd) else none
                            | none => none
                          | none => none
                        | none => none
                      | some (false, ρb) => match hide ρb g1.slots with
                        | some ρd => some (acc, ρd)
                        | none => none
                      | none => none
                    | none => none) xs1 ρb2 acc with
                    | some (acc1, ρ3) => match hide ρ3 own with
                      | some ρd => some (acc1, ρd)
                      | none => none
                    | none => none) else none
                  | none => none
                | none => none
              | some (false, ρb) => match hide ρb own with
                | some ρd => some (acc, ρd)
                | none => none
              | none => none
            | none => none) xs ρ2 [] with
          | some (acc, ρ3) => some (.list acc.reverse, .fresh, unhide ρ1 ρ3 own)
          | none => none) else none
      | none => none
    | none => none
def evs (C : CallF) : IEs → Ro → Option (Ds × Ro)
  | .nil, ρ => some ([], ρ)
  | .cons e es, ρ => match ev C e ρ with
    | some (d, s, ρ1) => match evs C es ρ1 with
      | some (ds, ρ2) => if okSt s (effs es) then some ((d, s) :: ds, ρ2) else none
      | none => none
    | none => none
def evO (C : CallF) : IO → Ro → Option (Option Int × Ro)
  | .none, ρ => some (none, ρ)
  | .some e, ρ => match ev C e ρ with
    | some (.int i, _, ρ1) => some (some i, ρ1)
    | _ => none
def evT (C : CallF) : IT → Ro → Option (Bool × Ro)
  | .tru e, ρ => match ev C e ρ with
    | some (x, _, ρ1) => match truD x with
      | some k => some (k, ρ1)
      | none => none
    | none => none
  | .cmp e, ρ => match ev C e ρ with
    | some (.bool k, _, ρ1) => some (k, ρ1)
    | _ => none
  | .and a b, ρ => match evT C a ρ with
    | some (true, ρ1) => evT C b ρ1
    | r => r
  | .or a b, ρ => match evT C a ρ with
    | some (false, ρ1) => evT C b ρ1
    | r => r
  | .one a, ρ => evT C a ρ
  | .not a, ρ => match evT C a ρ with
    | some (k, ρ1) => some (!k, ρ1)
    | none => none
def evC (C : CallF) : IC → Ro → Option (Bool × Ro)
  | .yes, ρ => some (true, ρ)
  | .one t, ρ => evT C t ρ
def evI (C : CallF) : II → Ro → Option (List D × List Stat × Ro)
  | .seq e, ρ => match ev C e ρ with
    | some (d, s, ρ1) => match itemsOf d with
      | some xs => some (xs, [s], ρ1)
      | none => none
    | none => none
  | .rng1 a, ρ => match ev C a ρ with
    | some (.int j, _, ρ1) => if j < lim ∧ -lim < j then some (rangeD 0 j.toNat, [], ρ1) else none
    | _ => none
  | .rng2 a b, ρ => match ev C a ρ with
    | some (.int i, sx, ρ1) => match ev C b ρ1 with
      | some (.int j, _, ρ2) => if okSt sx (effE b) = true ∧ j < lim ∧ -lim < j ∧ i < lim ∧ -lim < i then some (rangeD i (j - i).toNat, [], ρ2) else none
      | _ => none
    | _ => none
  | .enum e, ρ => match ev C e ρ with
    | some (d, s, ρ1) => match d with
      | .list xs => some (enumD 0 xs, [s], ρ1)
      | .tuple xs => some (enumD 0 xs, [s], ρ1)
      | _ => none
    | none => none
  | .zip a b, ρ => match ev C a ρ with
    | some (x, sx, ρ1) => match ev C b ρ1 with
      | some (y, sy, ρ2) => if okSt sx (effE b) then (match x, y with
        | .list xs, .list ys => some (zipD xs ys, [sx, sy], ρ2)
        | .tuple xs, .tuple ys => some (zipD xs ys, [sx, sy], ρ2)
        | _, _ => none) else none
      | none => none
    | none => none
end

def wf : Nat := 100000
def whGo (t : Ro → Option (Bool × Ro)) (b : Ro → Option Out) : Nat → Ro → Option Out
  | 0, _ => none
  | n + 1, ρ => match t ρ with
    | some (true, ρ1) => match b ρ1 with
      | some (.nx ρ2) => whGo t b n ρ2
      | r => r
    | some (false, ρ1) => some (.nx ρ1)
    | none => none
def forGo (turn : D → Ro → Option Out) : List D → Ro → Option Out
  | [], ρ => some (.nx ρ)
  | x :: r, ρ => match turn x ρ with
    | some (.nx ρ1) => forGo turn r ρ1
    | q => q
mutual
def exec (C : CallF) : IS → Ro → Option Out
  | .asg g e, ρ => match ev C e ρ with
    | some (d, s, ρ1) => match settleA d s ρ1 with
      | some (s', ρ2) => match bindV g d s' ρ2 with
        | some ρ3 => some (.nx ρ3)
        | none => none
      | none => none
    | none => none
  | .par is es, ρ => match evs C es ρ with
    | some (ds, ρ1) => match settles ds ρ1 with
      | some (xs, ρ2) => match bindNs is xs ρ2 with
        | some ρ3 => some (.nx ρ3)
        | none => none
      | none => none
    | none => none
  | .set i k e, ρ => match ev C e ρ with
    | some (y, sy, ρ0) => match settle y sy ρ0 with
      | some ρ1 => if isOwn ρ1 i && !(effE k).contains i then (match ev C k ρ1 with
        | some (.int n, _, ρ3) => match ρ3[i]? with
          | some (.own (.list xs)) => match setL xs n y with
            | some ys => some (.nx (ρ3.set i (.own (.list ys))))
            | none => none
          | some (.byr (.list xs)) => match setL xs n y with
            | some ys => some (.nx (ρ3.set i (.byr (.list ys))))
            | none => none
          | _ => none
        | _ => none) else none
      | none => none
    | none => none
  | .set2 i k1 k e, ρ => match ev C e ρ with
    | some (y, sy, ρ0) => match settle y sy ρ0 with
      | some ρ1 => if isOwn ρ1 i && !(effE k1).contains i && !(effE k).contains i then (match ev C k1 ρ1 with
        | some (.int m, _, ρ2) => match ev C k ρ2 with
          | some (.int n, _, ρ3) => match ρ3[i]? with
            | some (.own (.list xs)) => match setL2 xs m n y with
              | some ys => some (.nx (ρ3.set i (.own (.list ys))))
              | none => none
            | some (.byr (.list xs)) => match setL2 xs m n y with
              | some ys => some (.nx (ρ3.set i (.byr (.list ys))))
              | none => none
            | _ => none
          | _ => none
        | _ => none) else none
      | none => none
    | none => none
  | .aug op i e, ρ => match ev C e ρ with
    | some (y, _, ρ1) => match ρ[i]?, ρ1[i]? with
      | some (.pur x), some (.pur x') => if deq x x' then (match augD op x y with
        | some d => some (.nx (ρ1.set i (.pur d)))
        | none => none) else none
      | _, _ => none
    | _ => none
  | .augx op i k e, ρ => none
  | .expr e, ρ => match ev C e ρ with
    | some (_, _, ρ1) => some (.nx ρ1)
    | none => none
  | .ifs t a b, ρ => match evT C t ρ with
    | some (k, ρ1) => if k then execs C a ρ1 else execs C b ρ1
    | none => none
  | .whl t b, ρ => whGo (evT C t) (execs C b) wf ρ
  | .for g it b, ρ => match evI C it ρ with
    | some (xs, st, ρ1) => if st.all (walkOk · xs (g.slots ++ effSs b)) then
        forGo (fun x ρ => match bindV g x .froz ρ with
          | some ρa => execs C b ρa
          | none => none) xs ρ1 else none
    | none => none
  | .ret e, ρ => match ev C e ρ with
    | some (d, s, ρ1) => match settle d s ρ1 with
      | some ρ2 => some (.rt d ρ2)
      | none => none
    | none => none
  | .retN, ρ => some (.rt .none ρ)
  | .pass, ρ => some (.nx ρ)
  | .never, _ => none
def execs (C : CallF) : ISs → Ro → Option Out
  | .nil, ρ => some (.nx ρ)
  | .cons s ss, ρ => match exec C s ρ with
    | some (.nx ρ1) => execs C ss ρ1
    | r => r
end

/-- how a def's parameters come: all to be read; the first by reference; the first a list that may be locked -/
inductive Mode where
  | plain
  | byr
  | scr
  deriving DecidableEq
/-- a def: its name, how many parameters, its mode, its names, its body -/
structure Fd where
  name : Str
  nparams : Nat
  mode : Mode
  nslots : Nat
  body : ISs
def bindS : Mode → List D → List Slot
  | .scr, d :: r => (if pur d then .pur d else .scr d) :: r.map bind1
  | _, ds => ds.map bind1
def startRo (f : Fd) (r : Option D) (ds : List D) : Ro :=
  (match r with | some c => [Slot.byr c] | none => []) ++ bindS f.mode ds ++ List.replicate (f.nslots - f.nparams) .emp
def modeOk (m : Mode) (r : Option D) : Bool := match m, r with
  | .byr, some _ => true
  | .byr, none => false
  | _, none => true
  | _, some _ => false
def finish (r : Option D) : Option Out → Option (D × Option D)
  | some (.rt d ρ) => match r with
    | some _ => match (ρ : List Slot)[0]? with
      | some (Slot.byr c) => some (d, some c)
      | _ => none
    | none => some (d, none)
  | some (.nx ρ) => match r with
    | some _ => match (ρ : List Slot)[0]? with
      | some (Slot.byr c) => some (.none, some c)
      | _ => none
    | none => some (.none, none)
  | none => none
def run (T : List Fd) : Nat → CallF
  | 0, _, _, _ => none
  | k + 1, f, r, ds => match T[f]? with
    | some fd => if (if r.isSome then 1 else 0) + ds.length = fd.nparams ∧ modeOk fd.mode r = true ∧ fd.nparams ≤ fd.nslots then finish r (execs (run T k) fd.body (startRo fd r ds)) else none
    | none => none
def isOut (r : Option (D × Option D)) (d : D) : Bool := match r with
  | some (e, _) => deq e d
  | none => false
end Zr

set_option maxRecDepth 100000
set_option maxHeartbeats 4000000
/-! ZrC: the operations of ZrB are what the model does, by values. -/
namespace Zr
open PySem PySem.Spec PyProof.Rows L2

section
variable {K : Fr'} {H H' : Hp} {P : Addr → Prop} {b : Bool}
mutual
theorem Bor.dp : ∀ {v : V} {d : D}, Bor K H b P v d → Dp K H v d
  | _, _, .non => .non
  | _, _, .bl b => .bl b
  | _, _, .int i => .int i
  | _, _, .str x => .str x
  | _, _, .tup h t => .tup h (BorL.dp t)
  | _, _, .lst h _ t => .lst (.inl (.inl h)) (BorL.dp t)
  | _, _, .lsk _ h t => .lst h.sq (BorL.dp t)
theorem BorL.dp : ∀ {vs : List V} {ds : List D}, BorL K H b P vs ds → DpAll K H vs ds
  | _, _, .nil => .nil
  | _, _, .cons h t => .cons (Bor.dp h) (BorL.dp t)
end
theorem Bor.reads {X : Cx} {pins : List (Addr × Obj)} {σ : L2.St} {s : Shared} {v : V} {d : D} {u : Value} (h : Bor X.K H b P v d) (I : Inv X pins σ H s) (r : RelV v u) : ∃ as, Reads s.heap u d as :=
  Dp.reads I d v u h.dp r

/-- a new value: nothing that stood has changed -/
def NewD (K : Fr') (H H' : Hp) (v : V) (d : D) : Prop :=
  (∀ a o, H a = some o → H' a = some o) ∧ ∃ B, Own K H' v d B ∧ B.Nodup ∧ ∀ a ∈ B, H a = none
theorem NewD.pure {v : V} {d : D} (p : pur d = true) (h : Bor K H b P v d) : NewD K H H v d := ⟨fun _ _ e => e, [], Bor.own h p, List.nodup_nil, fun _ m => (nomatch m)⟩
theorem upd_kept {p : Addr} {o : HO} (n : H p = none) : ∀ a u, H a = some u → upd H p o a = some u := fun a u e => by
  rw [upd_ne (ne_of_none e n)]
  exact e
theorem BorL.up {p : Addr} {o : HO} (n : H p = none) {vs : List V} {ds : List D} (h : BorL K H b P vs ds) : BorL K (upd H p o) b P vs ds := h.keep (fun a u e _ => upd_kept n a u e) fun _ q _ => q
theorem NewD.lst {p : Addr} {vs : List V} {ds : List D} (n : H p = none) (p' : purs ds = true) (h : BorL K H b P vs ds) : NewD K H (upd H p (.lst vs)) (.ref p) (.list ds) :=
  ⟨upd_kept n, [p], .lst upd_same (BorL.own (h.up n) p'), List.nodup_cons.mpr ⟨fun z => (nomatch z), List.nodup_nil⟩, fun a m => by
    rw [List.mem_singleton.mp m]
    exact n⟩
theorem NewD.tup {p : Addr} {vs : List V} {ds : List D} (n : H p = none) (p' : purs ds = true) (h : BorL K H b P vs ds) : NewD K H (upd H p (.tup vs)) (.ref p) (.tuple ds) :=
  ⟨upd_kept n, [], .tup (.inl (.inl upd_same)) (BorL.own (h.up n) p'), List.nodup_nil, fun a m => (nomatch m)⟩
theorem purs_append {xs ys : List D} (h : purs xs = true) (k : purs ys = true) : purs (xs ++ ys) = true := purs_of fun d m => (List.mem_append.mp m).elim (purs_mem h d) (purs_mem k d)
theorem purs_sub {xs ys : List D} (h : purs xs = true) (k : ∀ d ∈ ys, d ∈ xs) : purs ys = true := purs_of fun d m => purs_mem h d (k d m)
end

/-! ### comparisons -/
def natB {X : Cx} (hu : X.A.units + 64 < cLine) (n : Nat) (h : n ≤ 40) : X.A.units + n < cLine := by omega
theorem minle {a b n : Nat} (h : a ≤ n) : min a b ≤ n := Nat.le_trans (Nat.min_le_left _ _) h
theorem eqD_spec {a b : D} {k : Bool} (h : eqD a b = some k) : k = PyData.eqv a b ∧ a.plain = true ∧ b.plain = true ∧ a.depth ≤ 40 := by
  have gen : (if (a.plain && b.plain && decide (a.depth ≤ 40)) = true then some (PyData.eqv a b) else none) = some k → k = PyData.eqv a b ∧ a.plain = true ∧ b.plain = true ∧ a.depth ≤ 40 := by
    intro h
    by_cases q : (a.plain && b.plain && decide (a.depth ≤ 40)) = true
    · rw [if_pos q] at h
      simp only [Bool.and_eq_true, decide_eq_true_eq] at q
      cases h
      exact ⟨rfl, q.1.1, q.1.2, q.2⟩
    · rw [if_neg q] at h
      cases h
  cases a <;> cases b <;> first
    | exact gen h
    | (cases h
       exact ⟨by simp [PyData.eqv], rfl, rfl, Nat.zero_le _⟩)
theorem dataLt_int (i j : Int) : PySem.W.dataLt (.int i) (.int j) = decide (i < j) := by
  have h := congrFun (congrFun (PySem.W.dataLe_int (β := Int) id) j) i
  have e : PySem.W.dataLe false (fun b : Int => PyData.int (id b)) j i = !PySem.W.dataLt (.int i) (.int j) := rfl
  rw [e] at h
  have h2 : PySem.W.dataLt (.int i) (.int j) = !decide (id j ≤ id i) := by rw [← h]; simp
  rw [h2]
  by_cases q : i < j
  · simp [q]
  · simp [q]
    omega
theorem ltD_spec {a b : D} {k : Bool} (h : ltD a b = some k) : k = PySem.W.dataLt a b ∧ PySem.W.alike a b = true ∧ a ≠ .none ∧ a.depth ≤ 40 := by
  have gen : (if (PySem.W.alike a b && decide (a.depth ≤ 40) && !isNone a) = true then some (PySem.W.dataLt a b) else none) = some k → k = PySem.W.dataLt a b ∧ PySem.W.alike a b = true ∧ a ≠ .none ∧ a.depth ≤ 40 := by
    intro h
    by_cases q : (PySem.W.alike a b && decide (a.depth ≤ 40) && !isNone a) = true
    · rw [if_pos q] at h
      simp only [Bool.and_eq_true, decide_eq_true_eq] at q
      cases h
      refine ⟨rfl, q.1.1, ?_, q.1.2⟩
      rintro rfl
      exact absurd q.2 (by simp [isNone])
    · rw [if_neg q] at h
      cases h
  cases a <;> cases b <;> first
    | exact gen h
    | (cases h
       exact ⟨(dataLt_int _ _).symm, rfl, (fun z => nomatch z), Nat.zero_le _⟩)
theorem memD_spec {x : D} {ys : List D} {k : Bool} (h : memD x ys = some k) : k = (ys.any fun y => PyData.eqv y x) ∧ x.plain = true ∧ PyData.plainAll ys = true ∧ x.depth ≤ 40 := by
  unfold memD at h
  split at h
  · rename_i q
    simp only [Bool.and_eq_true, decide_eq_true_eq] at q
    cases h
    exact ⟨rfl, q.1.1, q.1.2, q.2⟩
  · cases h
section
variable {X : Cx}
/-- a comparison of data -/
def rCmp (K : Fr') (op : CmpOp) : R2 := fun x y H Q => ∃ dx dy k, Bor K H true (fun _ => True) x dx ∧ Bor K H true (fun _ => True) y dy ∧ cmpop op dx dy = some k ∧ Q (.bl k) H
theorem notD {o : Option Bool} {k : Bool} (h : o.map (!·) = some k) : ∃ k', o = some k' ∧ k = !k' := by
  cases o with
  | none => cases h
  | some k' => exact ⟨k', rfl, (Option.some.inj h).symm⟩
theorem op_cmp (hu : X.A.units + 64 < cLine) (op : CmpOp) : OpR X (compareOp op) (rCmp X.K op) := by
  intro pins s σ H x y v u Q I rx ry h
  obtain ⟨dx, dy, k, hx, hy, hk, q⟩ := h
  obtain ⟨as, r1⟩ := hx.reads I rx
  obtain ⟨bs, r2⟩ := hy.reads I ry
  have fin : ∀ k', k' = k → EP X pins σ Q (.bool k') s := fun k' e => ⟨.bl k, H, I, by rw [e]; rfl, q⟩
  cases op with
  | Eq =>
    obtain ⟨e, p1, p2, p3⟩ := eqD_spec hk
    exact PySem.SeqAt.eq_plain r1 r2 p1 p2 (by have := minle (b := dy.depth) p3; omega) (fin _ e.symm)
  | NotEq =>
    obtain ⟨k', hk', e'⟩ := notD hk
    obtain ⟨e, p1, p2, p3⟩ := eqD_spec hk'
    exact PySem.SeqAt.ne_plain r1 r2 p1 p2 (by have := minle (b := dy.depth) p3; omega) (fin _ (by rw [e', e]))
  | Lt =>
    obtain ⟨e, p1, p2, p3⟩ := ltD_spec hk
    exact PySem.W.lt_data r1 r2 p1 p2 (by have := minle (b := dy.depth) p3; omega) (fin _ e.symm)
  | Gt =>
    obtain ⟨e, p1, p2, p3⟩ := ltD_spec hk
    have p1' : PySem.W.alike dx dy = true := by rw [PySem.W.alike_comm]; exact p1
    exact PySem.W.gt_data r1 r2 p1' (PySem.W.ne_none_both p1 p2) (by have := minle (b := dx.depth) p3; rw [Nat.min_comm]; omega) (fin _ e.symm)
  | LtE =>
    obtain ⟨k', hk', e'⟩ := notD hk
    obtain ⟨e, p1, p2, p3⟩ := ltD_spec hk'
    have p1' : PySem.W.alike dx dy = true := by rw [PySem.W.alike_comm]; exact p1
    exact PySem.W.le_data r1 r2 p1' (PySem.W.ne_none_both p1 p2) (by have := minle (b := dx.depth) p3; rw [Nat.min_comm]; omega) (fin _ (by rw [e', e]))
  | GtE =>
    obtain ⟨k', hk', e'⟩ := notD hk
    obtain ⟨e, p1, p2, p3⟩ := ltD_spec hk'
    exact PySem.W.ge_data r1 r2 p1 p2 (by have := minle (b := dy.depth) p3; omega) (fin _ (by rw [e', e]))
  | Is =>
    cases hy <;> simp only [cmpop] at hk <;> try (cases hk; done)
    exact op_isN pins s σ H x .non v u Q I rx ry ⟨rfl, by
      cases hk
      cases hx <;> simpa [isNone] using q⟩
  | IsNot =>
    cases hy <;> simp only [cmpop] at hk <;> try (cases hk; done)
    exact op_notN pins s σ H x .non v u Q I rx ry ⟨rfl, by
      cases hk
      cases hx <;> simpa [isNone] using q⟩
  | In =>
    cases dy <;> simp only [cmpop] at hk <;> try (cases hk; done)
    · obtain ⟨e, p1, p2, p3⟩ := memD_spec hk
      exact PySem.SeqAt.in_list_data r2 r1 p2 p1 (by have := Nat.min_le_right (PyData.depthAll (by assumption)) dx.depth; omega) (fin _ e.symm)
    · obtain ⟨e, p1, p2, p3⟩ := memD_spec hk
      exact PySem.SeqAt.in_tuple_data r2 r1 p2 p1 (by have := Nat.min_le_right (PyData.depthAll (by assumption)) dx.depth; omega) (fin _ e.symm)
  | NotIn =>
    cases dy <;> simp only [cmpop] at hk <;> try (cases hk; done)
    · obtain ⟨k', hk', e'⟩ := notD hk
      obtain ⟨e, p1, p2, p3⟩ := memD_spec hk'
      exact PySem.SeqAt.notIn_list_data r2 r1 p2 p1 (by have := Nat.min_le_right (PyData.depthAll (by assumption)) dx.depth; omega) (fin _ (by rw [e', e]))
    · obtain ⟨k', hk', e'⟩ := notD hk
      obtain ⟨e, p1, p2, p3⟩ := memD_spec hk'
      exact PySem.SeqAt.notIn_tuple_data r2 r1 p2 p1 (by have := Nat.min_le_right (PyData.depthAll (by assumption)) dx.depth; omega) (fin _ (by rw [e', e]))
/-! ### operators -/
theorem lim_line {n : Nat} (h : n ≤ lim) : n ≤ sizeLine := by
  rw [sizeLine_eq]
  exact Nat.le_trans h (by decide)
theorem BorL.ints {K : Fr'} {H : Hp} {b : Bool} {P : Addr → Prop} : ∀ {ns : List Int} {vs : List V}, BorL K H b P vs (ns.map .int) → vs = ns.map V.int
  | [], _, .nil => rfl
  | n :: ns, _, .cons h t => by
    cases h
    rw [t.ints]
    rfl
theorem BorL.of_ints {K : Fr'} {H : Hp} {b : Bool} {P : Addr → Prop} : ∀ (ns : List Int), BorL K H b P (ns.map V.int) (ns.map .int)
  | [] => .nil
  | n :: ns => .cons (.int n) (BorL.of_ints ns)
theorem BorL.rep {K : Fr'} {H : Hp} {b : Bool} {P : Addr → Prop} {vs : List V} {ds : List D} (h : BorL K H b P vs ds) : ∀ k : Nat, BorL K H b P (List.replicate k vs).flatten (List.replicate k ds).flatten
  | 0 => .nil
  | k + 1 => by
    rw [List.replicate_succ, List.replicate_succ, List.flatten_cons, List.flatten_cons]
    exact h.append (h.rep k)
theorem purs_rep {ds : List D} (h : purs ds = true) (k : Nat) : purs (List.replicate k ds).flatten = true := purs_of fun d m => by
  obtain ⟨l, h1, h2⟩ := List.mem_flatten.mp m
  rw [(List.mem_replicate.mp h1).2] at h2
  exact purs_mem h d h2
theorem fold_nil (c : Array Nat) (h : c = #[]) : ∀ n : Nat, (List.replicate n c).foldl (· ++ ·) #[] = (#[] : Array Nat)
  | 0 => rfl
  | n + 1 => by
    rw [List.replicate_succ, List.foldl_cons, h]
    have := fold_nil c h n
    rw [h] at this
    simpa using this
theorem repS_nil {x : Str} {n : Nat} (h : x.length = 0) : repS n x = x := by
  have e : x.cps = #[] := by
    have : x.cps.size = 0 := h
    exact Array.eq_empty_of_size_eq_zero this
  unfold repS
  rw [fold_nil _ e]
  cases x
  simp at e
  rw [e]
theorem op_rep_str : OpR X (binaryOp .Mult) (fun x y H Q => ∃ z k, x = .str z ∧ y = .int k ∧ z.length * k.toNat ≤ lim ∧ -(lim : Int) < k ∧ k < lim ∧ Q (.str (repS k.toNat z)) H) := by
  intro pins s σ H x y v u Q I rx ry h
  obtain ⟨z, k, rfl, rfl, hz, h1, h2, q⟩ := h
  obtain ⟨t, rfl⟩ := rx
  obtain ⟨t2, rfl⟩ := ry
  have hl : (lim : Int) = 1000000 := rfl
  have ln : lim = 1000000 := rfl
  refine PySem.P.mul_str ?_ (fun a c => ?_) (fun a c => ?_) ?_
  · rw [decide_eq_false (by omega : ¬ k < -(2 ^ 63 : Int)), decide_eq_false (by omega : ¬ k ≥ 2 ^ 63)]
    rfl
  · have hk : (z.length : Int) * k ≤ 1000000 := by
      have e : ((z.length * k.toNat : Nat) : Int) = (z.length : Int) * k := by
        rw [Int.natCast_mul, Int.toNat_of_nonneg (by omega)]
      rw [← e, ← hl]
      exact Int.ofNat_le.mpr hz
    refine Int.not_lt.mpr ?_
    refine Int.le_ediv_of_mul_le (by omega) (Int.le_trans hk (by decide))
  · unfold Builtin.Str.tooLong
    have := lim_line hz
    simp
    omega
  · by_cases a : k < 1
    · rw [if_pos a]
      refine ⟨by decide, ⟨.str _, H, I.tok _, ⟨_, rfl⟩, ?_⟩⟩
      have e : k.toNat = 0 := by omega
      rw [e] at q
      exact q
    · rw [if_neg a]
      by_cases c : (k == 1 || z.length == 0) = true
      · rw [if_pos c]
        refine ⟨.str z, H, I, ⟨_, rfl⟩, ?_⟩
        simp only [Bool.or_eq_true, beq_iff_eq] at c
        rcases c with c | c
        · subst c
          have e : repS (1 : Int).toNat z = z := by
            unfold repS
            cases z
            simp
          rw [e] at q
          exact q
        · rw [repS_nil c] at q
          exact q
      · rw [if_neg c]
        refine ⟨?_, ⟨.str _, H, I.tok _, ⟨_, rfl⟩, q⟩⟩
        have big : ∀ (n : Nat) (w : Array Nat), ((List.replicate n z.cps).foldl (· ++ ·) w).size = w.size + n * z.cps.size := by
          intro n
          induction n with
          | zero => intro w; simp
          | succ n ih =>
            intro w
            rw [List.replicate_succ, List.foldl_cons, ih, Array.size_append, Nat.succ_mul]
            omega
        show ((List.replicate k.toNat z.cps).foldl (· ++ ·) #[]).size ≤ sizeLine
        rw [big]
        have := lim_line hz
        have e : z.length = z.cps.size := rfl
        rw [e, Nat.mul_comm] at this
        simpa using this
def rBin (K : Fr') (op : Operator) : R2 := fun x y H Q => ∃ dx dy d, Bor K H false (fun _ => True) x dx ∧ Bor K H false (fun _ => True) y dy ∧ binop op dx dy = some d ∧ ∀ v H', NewD K H H' v d → Q v H'
theorem ifs {α : Type} {c : Prop} [Decidable c] {a : α} {d : α} (h : (if c then some a else none) = some d) : c ∧ a = d := by
  by_cases q : c
  · rw [if_pos q] at h
    exact ⟨q, Option.some.inj h⟩
  · rw [if_neg q] at h
    cases h
theorem op_bin (op : Operator) : OpR X (binaryOp op) (rBin X.K op) := by
  intro pins s σ H x y v u Q I rx ry h
  obtain ⟨dx, dy, d, hx, hy, hd, q⟩ := h
  have qi : ∀ i, d = .int i → Q (.int i) H := fun i e => q _ _ (by rw [e]; exact NewD.pure (b := false) (P := fun _ => True) rfl (.int i))
  have qs : ∀ z, d = .str z → Q (.str z) H := fun z e => q _ _ (by rw [e]; exact NewD.pure (b := false) (P := fun _ => True) rfl (.str z))
  cases op <;> cases hx <;> cases hy <;> simp only [binop] at hd <;> first
    | (cases hd; done)
    | exact absurd (by assumption : false = true) Bool.false_ne_true
    | skip
  · cases hd
    exact op_add pins s σ H _ _ v u Q I rx ry ⟨_, _, rfl, rfl, qi _ rfl⟩
  · obtain ⟨c, e⟩ := ifs hd
    exact op_add_str pins s σ H _ _ v u Q I rx ry ⟨_, _, rfl, rfl, lim_line c, qs _ e.symm⟩
  · rename_i a xs ds ha la b ys es hb lb
    obtain ⟨⟨c, p1, p2⟩, e⟩ := ifs hd
    subst e
    refine op_catA pins s σ H _ _ v u Q I rx ry ⟨a, b, xs, ys, rfl, rfl, ha, hb, lim_line (by rw [la.length, lb.length]; exact c), fun e => ?_, fun _ e => ?_, fun _ _ p n => ?_⟩
    · subst e
      cases la
      exact q _ _ (NewD.pure (b := false) (P := fun _ => True) p2 (.tup hb lb))
    · subst e
      cases lb
      rw [List.append_nil] at q
      exact q _ _ (NewD.pure (b := false) (P := fun _ => True) p1 (.tup ha la))
    · exact q _ _ (NewD.tup n (purs_append p1 p2) (la.append lb))
  · rename_i a xs ds ha pa la b ys es hb pb lb
    obtain ⟨⟨c, p1, p2⟩, e⟩ := ifs hd
    subst e
    exact op_cat pins s σ H _ _ v u Q I rx ry ⟨a, b, xs, ys, rfl, rfl, ha, hb, lim_line (by rw [la.length, lb.length]; exact c), fun p n => q _ _ (NewD.lst n (purs_append p1 p2) (la.append lb))⟩
  · cases hd
    exact op_sub pins s σ H _ _ v u Q I rx ry ⟨_, _, rfl, rfl, qi _ rfl⟩
  · obtain ⟨c, e⟩ := ifs hd
    simp only [mulOk, mulSm, Bool.or_eq_true, decide_eq_true_eq] at c
    rcases c with c | c
    · refine op_mul pins s σ H _ _ v u Q I rx ry ⟨_, _, rfl, rfl, c.imp (fun z => ?_) (fun z => ?_), qi _ e.symm⟩ <;> omega
    · exact op_mulW pins s σ H _ _ v u Q I rx ry ⟨_, _, rfl, rfl, c, qi _ e.symm⟩
  · obtain ⟨⟨c, c1, c2⟩, e⟩ := ifs hd
    exact op_rep_str pins s σ H _ _ v u Q I rx ry ⟨_, _, rfl, rfl, c, c1, c2, qs _ e.symm⟩
  · rename_i a xs ds ha pa la k
    obtain ⟨⟨c, c1, c2, p⟩, e⟩ := ifs hd
    subst e
    have ln : (lim : Int) = 1000000 := rfl
    exact op_rep pins s σ H _ _ v u Q I rx ry ⟨a, k, xs, rfl, rfl, ha, by omega, by omega, lim_line (by rw [la.length]; exact c), fun p' n => q _ _ (NewD.lst n (purs_rep p _) (la.rep _))⟩
  · obtain ⟨c, e⟩ := ifs hd
    exact op_modN pins s σ H _ _ v u Q I rx ry ⟨_, _, rfl, rfl, c, qi _ e.symm⟩
  · obtain ⟨c, e⟩ := ifs hd
    simp only [powOk, Bool.and_eq_true, decide_eq_true_eq] at c
    exact op_pow pins s σ H _ _ v u Q I rx ry ⟨_, _, rfl, rfl, ⟨c.1.1, c.1.2, c.2⟩, qi _ e.symm⟩
  · obtain ⟨c, e⟩ := ifs hd
    simp only [divOk, Bool.and_eq_true, decide_eq_true_eq] at c
    exact op_fdivN pins s σ H _ _ v u Q I rx ry ⟨_, _, rfl, rfl, c, qi _ e.symm⟩
end
end Zr

set_option maxRecDepth 100000
set_option maxHeartbeats 4000000
/-! ZrD: built-ins, indices, slices, truth, by values. -/
namespace Zr
open PySem PySem.Spec PyProof.Rows L2

theorem toInts_eq : ∀ {xs : List D} {ns : List Int}, toInts xs = some ns → xs = ns.map .int
  | [], ns, h => by
    cases h
    rfl
  | d :: r, ns, h => by
    cases d <;> simp only [toInts] at h <;> try (cases h; done)
    cases e : toInts r with
    | none =>
      rw [e] at h
      cases h
    | some ms =>
      rw [e] at h
      cases h
      rw [toInts_eq e]
      rfl
theorem toBls_eq : ∀ {xs : List D} {ns : List Bool}, toBls xs = some ns → xs = ns.map .bool
  | [], ns, h => by
    cases h
    rfl
  | d :: r, ns, h => by
    cases d <;> simp only [toBls] at h <;> try (cases h; done)
    cases e : toBls r with
    | none =>
      rw [e] at h
      cases h
    | some ms =>
      rw [e] at h
      cases h
      rw [toBls_eq e]
      rfl
theorem BorL.bls {K : Fr'} {H : Hp} {b : Bool} {P : Addr → Prop} : ∀ {ns : List Bool} {vs : List V}, BorL K H b P vs (ns.map .bool) → vs = ns.map V.bl
  | [], _, .nil => rfl
  | n :: ns, _, .cons h t => by
    cases h
    rw [t.bls]
    rfl
/-! ### greatest, least, sorted -/
theorem maxI_spec : ∀ (r : List Int) (m : Int), (maxI m r = m ∨ maxI m r ∈ r) ∧ m ≤ maxI m r ∧ ∀ y ∈ r, y ≤ maxI m r
  | [], m => ⟨.inl rfl, Int.le_refl _, fun _ z => nomatch z⟩
  | x :: r, m => by
    unfold maxI
    by_cases h : x > m
    · rw [if_pos h]
      obtain ⟨h1, h2, h3⟩ := maxI_spec r x
      refine ⟨.inr ?_, by omega, fun y hy => ?_⟩
      · rcases h1 with e | e
        · rw [e]
          exact List.mem_cons_self
        · exact List.mem_cons_of_mem _ e
      · rcases List.mem_cons.mp hy with e | e
        · rw [e]
          exact h2
        · exact h3 y e
    · rw [if_neg h]
      obtain ⟨h1, h2, h3⟩ := maxI_spec r m
      refine ⟨h1.imp id (List.mem_cons_of_mem _), h2, fun y hy => ?_⟩
      rcases List.mem_cons.mp hy with e | e
      · rw [e]
        omega
      · exact h3 y e
theorem minI_spec : ∀ (r : List Int) (m : Int), (minI m r = m ∨ minI m r ∈ r) ∧ minI m r ≤ m ∧ ∀ y ∈ r, minI m r ≤ y
  | [], m => ⟨.inl rfl, Int.le_refl _, fun _ z => nomatch z⟩
  | x :: r, m => by
    unfold minI
    by_cases h : x < m
    · rw [if_pos h]
      obtain ⟨h1, h2, h3⟩ := minI_spec r x
      refine ⟨.inr ?_, by omega, fun y hy => ?_⟩
      · rcases h1 with e | e
        · rw [e]
          exact List.mem_cons_self
        · exact List.mem_cons_of_mem _ e
      · rcases List.mem_cons.mp hy with e | e
        · rw [e]
          exact h2
        · exact h3 y e
    · rw [if_neg h]
      obtain ⟨h1, h2, h3⟩ := minI_spec r m
      refine ⟨h1.imp id (List.mem_cons_of_mem _), h2, fun y hy => ?_⟩
      rcases List.mem_cons.mp hy with e | e
      · rw [e]
        omega
      · exact h3 y e
theorem insI_perm (x : Int) : ∀ l : List Int, (insI x l).Perm (x :: l)
  | [] => .refl _
  | y :: r => by
    unfold insI
    split
    · exact .refl _
    · exact ((insI_perm x r).cons y).trans (.swap x y r)
theorem sortI_perm : ∀ l : List Int, (sortI l).Perm l
  | [] => .refl _
  | x :: r => (insI_perm x _).trans ((sortI_perm r).cons x)
theorem insI_up (x : Int) : ∀ l : List Int, l.Pairwise (· ≤ ·) → (insI x l).Pairwise (· ≤ ·)
  | [], _ => List.pairwise_cons.mpr ⟨fun _ m => (nomatch m), .nil⟩
  | y :: r, h => by
    obtain ⟨h1, h2⟩ := List.pairwise_cons.mp h
    unfold insI
    split
    · rename_i q
      refine List.pairwise_cons.mpr ⟨fun z m => ?_, h⟩
      rcases List.mem_cons.mp m with e | e
      · rw [e]
        exact q
      · exact Int.le_trans q (h1 z e)
    · rename_i q
      refine List.pairwise_cons.mpr ⟨fun z m => ?_, insI_up x r h2⟩
      rcases List.mem_cons.mp ((insI_perm x r).mem_iff.mp m) with e | e
      · rw [e]
        omega
      · exact h1 z e
theorem sortI_up : ∀ l : List Int, (sortI l).Pairwise (· ≤ ·)
  | [] => .nil
  | x :: r => insI_up x _ (sortI_up r)
theorem up_one : ∀ {l m : List Int}, l.Perm m → l.Pairwise (· ≤ ·) → m.Pairwise (· ≤ ·) → l = m
  | [], m, p, _, _ => p.nil_eq
  | x :: r, [], p, _, _ => absurd p.length_eq (by simp)
  | x :: r, y :: t, p, h, k => by
    obtain ⟨h1, h2⟩ := List.pairwise_cons.mp h
    obtain ⟨k1, k2⟩ := List.pairwise_cons.mp k
    have e : x = y := by
      have a : y ≤ x := by
        rcases List.mem_cons.mp (p.mem_iff.mp List.mem_cons_self) with e | e
        · rw [e]
          exact Int.le_refl _
        · exact k1 x e
      have b : x ≤ y := by
        rcases List.mem_cons.mp (p.mem_iff.mpr (List.mem_cons_self (a := y) (l := t))) with e | e
        · rw [e]
          exact Int.le_refl _
        · exact h1 y e
      omega
    subst e
    rw [up_one (List.Perm.cons_inv p) h2 k2]

/-! ### built-ins by name -/
def bn : Bi → Str
  | .len => "len"
  | .abs => "abs"
  | .int => "int"
  | .max => "max"
  | .min => "min"
  | .sum => "sum"
  | .all => "all"
  | .any => "any"
  | .sorted => "sorted"
  | .tuple => "tuple"
  | .list => "list"
  | .repr => "repr"
  | .str => "str"
def bv : Bi → Value
  | .len => .builtin "len"
  | .abs => .builtin "abs"
  | .int => .type "int"
  | .max => .builtin "max"
  | .min => .builtin "min"
  | .sum => .builtin "sum"
  | .all => .builtin "all"
  | .any => .builtin "any"
  | .sorted => .builtin "sorted"
  | .tuple => .type "tuple"
  | .list => .type "list"
  | .repr => .builtin "repr"
  | .str => .type "str"
theorem bn_boot (b : Bi) : bootBuiltins (bn b) = some (bv b) := by cases b <;> decide +kernel
theorem purs_ints (ns : List Int) : purs (ns.map PyData.int) = true := purs_of fun d m => by
  obtain ⟨n, _, e⟩ := List.mem_map.mp m
  rw [← e]
  rfl
theorem cr_sortedTup {X : Cx} : CallR X (.builtin "sorted") (fun vs H Q => ∃ (a : Addr) (ns : List Int), vs = [V.ref a] ∧ SqT X.K H a (ns.map V.int) ∧ ∀ (ns' : List Int) (p : Addr), ns'.Perm ns → ns'.Pairwise (· ≤ ·) → H p = none → Q (.ref p) (upd H p (.lst (ns'.map V.int)))) := by
  intro pins s σ H vs us Q I r h
  obtain ⟨a, ns, rfl, hs, q⟩ := h
  obtain ⟨its, rv, ht, hz⟩ := I.tuple hs
  rw [Vals.ref1 r]
  have hi := rv.ints
  obtain ⟨o, ho, hc, n0, hd⟩ := ht
  have hz2 : its.length ≤ sizeLine := by rw [← rv.length]; exact hz
  refine Calls.call_function_entry kind_sorted plain_sorted entry_sorted (args_sorted1 _) ?_
  unfold Builtin.«sorted»
  refine wpAny_bind (m := checkCount "sorted" 1 1 _) (wpAny_pure ?_)
  refine wpAny_bind (wpAny_collect_seq a (.inr rfl) ho hc hd (fun h1 keep1 => ?_) (by rw [List.size_toArray]; exact hz2))
  have el : its.toArray.toList = its := by simp
  rw [el]
  refine wpAny_bind (wpAny_newList ?_ hz2)
  generalize hb : h1.objs.size = b
  have hoL : (h1.push (seqObj "list" its.toArray 0)).get? b = some (seqObj "list" its.toArray 0) := by
    rw [← hb]
    exact Heap.get?_push_size _ rfl
  have I1 : Inv X pins σ H { s with heap := h1 } := I.kept (t' := s.toks) keep1
  have old : ∀ c u, h1.get? c = some u → c ≠ b ∧ (h1.push (seqObj "list" its.toArray 0)).get? c = some u := fun c u e => by
    refine ⟨?_, Heap.get?_push_of_some _ e⟩
    rw [← hb]
    exact Nat.ne_of_lt (Heap.lt_size e)
  have fresh : h1.objs.size ≤ b := Nat.le_of_eq hb
  refine wpAny_bind (wpAny_holding (wpAny_call_entry slot_list_sort ⟨_, hoL, rfl⟩ entry_list_sort (SrtO.list_sort_ord SrtO.swo_int hoL hz2 (fun h2 => SrtO.ints_sortable hi h2) fun out hs' hb' => ⟨_, rfl, ?_⟩) (args_list_sort _)))
  obtain ⟨k1, k2, k3⟩ := SrtO.ints_out hi hs' hb'
  obtain ⟨ep, he'⟩ := PyProof.Rows.sortedHeap_at (vs := its) (out := out.toArray) hoL
  have hlen : ((out.map SrtO.iv).map V.int).length ≤ sizeLine := by
    rw [List.length_map, k2.length_eq]
    rw [List.length_map] at hz
    exact hz
  refine wpAny_pure ⟨_, rfl, .ref b, upd H b (.lst ((out.map SrtO.iv).map V.int)), I1.laid (t' := s.toks) (fun c u e => ?_) fresh ⟨hlen, out, ep, vals_of_ints k1, he'⟩, rfl, q _ _ k2 k3 (I1.hok.fresh fresh)⟩
  obtain ⟨n1, e1⟩ := old c u e
  rw [PyProof.Rows.sortedHeap_old n1 (Heap.lt_size e1)]
  exact e1

section
variable {X : Cx}
def rBi (K : Fr') (b : Bi) : List V → Hp → VK → Prop := fun vs H Q => ∃ ds d, BorL K H true (fun _ => True) vs ds ∧ bi b ds = some d ∧ ∀ v H', NewD K H H' v d → Q v H'
theorem call_repr_data (hg : X.A.guards = some []) (hu : X.A.units + 64 < cLine) : CallR X (.builtin "repr") (fun vs H Q => ∃ x d, vs = [x] ∧ Bor X.K H true (fun _ => True) x d ∧ d.showable = true ∧ d.hasDict = false ∧ d.depth ≤ 40 ∧ d.shown.length ≤ sizeLine ∧ Q (.str d.shown) H) := by
  intro pins s σ H xs us Q I r h
  obtain ⟨x, d, rfl, hx, h1, h2, h3, h4, q⟩ := h
  obtain ⟨u, rfl, rx⟩ := vals1 r
  obtain ⟨as, rd⟩ := hx.reads I rx
  have fin : ∀ tk, EP X pins σ Q (.str d.shown tk) { s with toks := s.toks + 1 } := fun tk => ⟨.str d.shown, H, I.tok _, ⟨_, rfl⟩, q⟩
  cases rd with
  | none => exact PySem.P.repr_of_none (fin _)
  | bool b => exact PySem.P.repr_of_bool (by
      have := fin s.toks
      simpa only [PyData.shown] using this)
  | int n t => exact PySem.P.repr_of_int (by simpa [PyData.showable] using h1) (by
      have := fin s.toks
      simpa only [PyData.shown] using this)
  | str z t => exact PySem.P.repr_of_str (by
      have := fin s.toks
      simpa only [PyData.shown] using this) (by simpa only [PyData.shown] using h4)
  | list a b c e => exact repr_of_reads' (.list a b c e) h1 (fun z => by rw [h2] at z; cases z) hg (by omega) (fun _ _ e => e) (fun h' u tk k => ⟨.str _, H, I.kept (t' := tk) k, ⟨_, rfl⟩, q⟩) h4
  | tuple a b c e => exact repr_of_reads' (.tuple a b c e) h1 (fun z => by rw [h2] at z; cases z) hg (by omega) (fun _ _ e => e) (fun h' u tk k => ⟨.str _, H, I.kept (t' := tk) k, ⟨_, rfl⟩, q⟩) h4
  | dict a b c e f => cases h2
theorem BorL.one {K : Fr'} {H : Hp} {b : Bool} {P : Addr → Prop} {vs : List V} {d : D} (h : BorL K H b P vs [d]) : ∃ v, vs = [v] ∧ Bor K H b P v d := by
  cases h with
  | cons h t =>
    cases t
    exact ⟨_, rfl, h⟩
theorem BorL.two {K : Fr'} {H : Hp} {b : Bool} {P : Addr → Prop} {vs : List V} {d e : D} (h : BorL K H b P vs [d, e]) : ∃ v w, vs = [v, w] ∧ Bor K H b P v d ∧ Bor K H b P w e := by
  cases h with
  | cons h t =>
    cases t with
    | cons k t =>
      cases t
      exact ⟨_, _, rfl, h, k⟩
theorem Bor.list {K : Fr'} {H : Hp} {b : Bool} {P : Addr → Prop} {v : V} {ds : List D} (h : Bor K H b P v (.list ds)) : ∃ a xs, v = .ref a ∧ SqL K H a xs ∧ BorL K H b P xs ds := by
  cases h with
  | lst h _ t => exact ⟨_, _, rfl, .inl (.inl h), t⟩
  | lsk _ h t => exact ⟨_, _, rfl, h.sq, t⟩
theorem Bor.tuple {K : Fr'} {H : Hp} {b : Bool} {P : Addr → Prop} {v : V} {ds : List D} (h : Bor K H b P v (.tuple ds)) : ∃ a xs, v = .ref a ∧ SqT K H a xs ∧ BorL K H b P xs ds := by
  cases h with
  | tup h t => exact ⟨_, _, rfl, h, t⟩
theorem Bor.int' {K : Fr'} {H : Hp} {b : Bool} {P : Addr → Prop} {v : V} {i : Int} (h : Bor K H b P v (.int i)) : v = .int i := by
  cases h
  rfl
theorem Bor.bool' {K : Fr'} {H : Hp} {b : Bool} {P : Addr → Prop} {v : V} {i : Bool} (h : Bor K H b P v (.bool i)) : v = .bl i := by
  cases h
  rfl
theorem Bor.str' {K : Fr'} {H : Hp} {b : Bool} {P : Addr → Prop} {v : V} {i : Str} (h : Bor K H b P v (.str i)) : v = .str i := by
  cases h
  rfl
theorem call_bi (hc : X.calm = true) (hg : X.A.guards = some []) (hu : X.A.units + 64 < cLine) (b : Bi) : CallR X (bv b) (rBi X.K b) := by
  intro pins s σ H vs us Q I r h
  obtain ⟨ds, d, hb, hd, q⟩ := h
  have qi : ∀ i, d = .int i → Q (.int i) H := fun i e => q _ _ (by rw [e]; exact NewD.pure (b := false) (P := fun _ => True) rfl (.int i))
  have qb : ∀ i, d = .bool i → Q (.bl i) H := fun i e => q _ _ (by rw [e]; exact NewD.pure (b := false) (P := fun _ => True) rfl (.bl i))
  have qs : ∀ z, d = .str z → Q (.str z) H := fun z e => q _ _ (by rw [e]; exact NewD.pure (b := false) (P := fun _ => True) rfl (.str z))
  unfold bi at hd
  split at hd
  all_goals first | (cases hd; done) | skip
  -- len
  · obtain ⟨v, rfl, h1⟩ := hb.one
    obtain ⟨a, xs, rfl, h2, h3⟩ := h1.list
    cases hd
    exact call_len pins s σ H _ us Q I r ⟨_, xs.length, rfl, .inl ⟨xs, h2, rfl⟩, by rw [h3.length]; exact qi _ rfl⟩
  · obtain ⟨v, rfl, h1⟩ := hb.one
    obtain ⟨a, xs, rfl, h2, h3⟩ := h1.tuple
    cases hd
    exact call_len pins s σ H _ us Q I r ⟨_, xs.length, rfl, .inr ⟨xs, h2, rfl⟩, by rw [h3.length]; exact qi _ rfl⟩
  · obtain ⟨v, rfl, h1⟩ := hb.one
    obtain rfl := h1.str'
    obtain ⟨c, e⟩ := ifs hd
    exact call_len pins s σ H _ us Q I r ⟨_, _, rfl, ⟨lim_line c, rfl⟩, qi _ e.symm⟩
  · obtain ⟨v, rfl, h1⟩ := hb.one
    obtain rfl := h1.int'
    cases hd
    exact call_abs pins s σ H _ us Q I r ⟨_, rfl, qi _ rfl⟩
  · obtain ⟨v, rfl, h1⟩ := hb.one
    obtain rfl := h1.int'
    cases hd
    exact call_int1 pins s σ H _ us Q I r (.inl ⟨_, rfl, qi _ rfl⟩)
  · obtain ⟨v, rfl, h1⟩ := hb.one
    obtain rfl := h1.bool'
    cases hd
    exact call_int1 pins s σ H _ us Q I r (.inr ⟨_, rfl, qi _ rfl⟩)
  · obtain ⟨v, w, rfl, h1, h2⟩ := hb.two
    obtain rfl := h1.int'
    obtain rfl := h2.int'
    cases hd
    exact call_max2 hc pins s σ H _ us Q I r ⟨_, _, rfl, qi _ rfl⟩
  · obtain ⟨v, w, rfl, h1, h2⟩ := hb.two
    obtain rfl := h1.int'
    obtain rfl := h2.int'
    cases hd
    exact call_min2 hc pins s σ H _ us Q I r ⟨_, _, rfl, qi _ rfl⟩
  · obtain ⟨v, rfl, h1⟩ := hb.one
    obtain ⟨a, xs, rfl, h2, h3⟩ := h1.list
    split at hd
    · rename_i m r' e
      cases hd
      have e2 := toInts_eq e
      subst e2
      obtain rfl := h3.ints
      refine cr_max hc pins s σ H _ us Q I r ⟨a, m :: r', rfl, h2, Nat.succ_pos _, fun z hz hl => ?_⟩
      obtain ⟨g1, g2, g3⟩ := maxI_spec r' m
      have e3 : z = maxI m r' := by
        have a1 : maxI m r' ≤ z := hl _ (g1.elim (fun e => by rw [e]; exact List.mem_cons_self) fun e => List.mem_cons_of_mem _ e)
        have a2 : z ≤ maxI m r' := (List.mem_cons.mp hz).elim (fun e => e ▸ g2) fun e => g3 z e
        omega
      rw [e3]
      exact qi _ rfl
    · cases hd
  · obtain ⟨v, rfl, h1⟩ := hb.one
    obtain ⟨a, xs, rfl, h2, h3⟩ := h1.list
    split at hd
    · rename_i m r' e
      cases hd
      have e2 := toInts_eq e
      subst e2
      obtain rfl := h3.ints
      refine cr_min hc pins s σ H _ us Q I r ⟨a, m :: r', rfl, h2, Nat.succ_pos _, fun z hz hl => ?_⟩
      obtain ⟨g1, g2, g3⟩ := minI_spec r' m
      have e3 : z = minI m r' := by
        have a1 : z ≤ minI m r' := hl _ (g1.elim (fun e => by rw [e]; exact List.mem_cons_self) fun e => List.mem_cons_of_mem _ e)
        have a2 : minI m r' ≤ z := (List.mem_cons.mp hz).elim (fun e => e ▸ g2) fun e => g3 z e
        omega
      rw [e3]
      exact qi _ rfl
    · cases hd
  · obtain ⟨v, rfl, h1⟩ := hb.one
    obtain ⟨a, xs, rfl, h2, h3⟩ := h1.list
    obtain ⟨ns, e, rfl⟩ := Option.map_eq_some_iff.mp hd
    have e2 := toInts_eq e
    subst e2
    obtain rfl := h3.ints
    exact cr_sum hc pins s σ H _ us Q I r ⟨a, ns, rfl, h2, qi _ rfl⟩
  · obtain ⟨v, rfl, h1⟩ := hb.one
    obtain ⟨a, xs, rfl, h2, h3⟩ := h1.list
    obtain ⟨ns, e, rfl⟩ := Option.map_eq_some_iff.mp hd
    have e2 := toBls_eq e
    subst e2
    obtain rfl := h3.bls
    exact cr_all hc pins s σ H _ us Q I r ⟨a, ns, rfl, h2, qb _ rfl⟩
  · obtain ⟨v, rfl, h1⟩ := hb.one
    obtain ⟨a, xs, rfl, h2, h3⟩ := h1.list
    obtain ⟨ns, e, rfl⟩ := Option.map_eq_some_iff.mp hd
    have e2 := toBls_eq e
    subst e2
    obtain rfl := h3.bls
    exact cr_any hc pins s σ H _ us Q I r ⟨a, ns, rfl, h2, qb _ rfl⟩
  · obtain ⟨v, rfl, h1⟩ := hb.one
    obtain ⟨a, xs, rfl, h2, h3⟩ := h1.list
    obtain ⟨ns, e, rfl⟩ := Option.map_eq_some_iff.mp hd
    have e2 := toInts_eq e
    subst e2
    obtain rfl := h3.ints
    refine cr_sortedI pins s σ H _ us Q I r ⟨a, ns, rfl, h2, fun ns' p pm up n => ?_⟩
    have e3 : ns' = sortI ns := up_one (pm.trans (sortI_perm ns).symm) up (sortI_up ns)
    rw [e3]
    exact q _ _ (NewD.lst n (purs_ints _) (BorL.of_ints (b := true) (P := fun _ => True) _))
  · obtain ⟨v, rfl, h1⟩ := hb.one
    obtain ⟨a, xs, rfl, h2, h3⟩ := h1.tuple
    obtain ⟨ns, e, rfl⟩ := Option.map_eq_some_iff.mp hd
    have e2 := toInts_eq e
    subst e2
    obtain rfl := h3.ints
    refine cr_sortedTup pins s σ H _ us Q I r ⟨a, ns, rfl, h2, fun ns' p pm up n => ?_⟩
    have e3 : ns' = sortI ns := up_one (pm.trans (sortI_perm ns).symm) up (sortI_up ns)
    rw [e3]
    exact q _ _ (NewD.lst n (purs_ints _) (BorL.of_ints (b := true) (P := fun _ => True) _))
  · obtain ⟨v, rfl, h1⟩ := hb.one
    obtain ⟨a, xs, rfl, h2, h3⟩ := h1.list
    obtain ⟨c, rfl⟩ := ifs hd
    exact call_tuple_of pins s σ H _ us Q I r ⟨a, xs, rfl, .inl ⟨h2, fun l n => q _ _ (NewD.tup n c h3)⟩⟩
  · obtain ⟨v, rfl, h1⟩ := hb.one
    obtain ⟨a, xs, rfl, h2, h3⟩ := h1.tuple
    obtain ⟨c, rfl⟩ := ifs hd
    exact call_tuple_of pins s σ H _ us Q I r ⟨a, xs, rfl, .inr ⟨h2, q _ _ (NewD.pure (b := true) (P := fun _ => True) c (.tup h2 h3))⟩⟩
  · obtain ⟨v, rfl, h1⟩ := hb.one
    obtain ⟨a, xs, rfl, h2, h3⟩ := h1.list
    obtain ⟨c, rfl⟩ := ifs hd
    exact call_list_of pins s σ H _ us Q I r ⟨a, xs, rfl, .inl h2, fun l n => q _ _ (NewD.lst n c h3)⟩
  · obtain ⟨v, rfl, h1⟩ := hb.one
    obtain ⟨a, xs, rfl, h2, h3⟩ := h1.tuple
    obtain ⟨c, rfl⟩ := ifs hd
    exact call_list_of pins s σ H _ us Q I r ⟨a, xs, rfl, .inr h2, fun l n => q _ _ (NewD.lst n c h3)⟩
  · obtain ⟨v, rfl, h1⟩ := hb.one
    obtain ⟨c, e⟩ := ifs hd
    simp only [Bool.and_eq_true, Bool.not_eq_true', decide_eq_true_eq] at c
    exact call_repr_data hg hu pins s σ H _ us Q I r ⟨_, _, rfl, h1, c.1.1.1, c.1.1.2, c.1.2, lim_line c.2, qs _ e.symm⟩
  · obtain ⟨v, rfl, h1⟩ := hb.one
    obtain rfl := h1.int'
    obtain ⟨c, e⟩ := ifs hd
    exact call_str_int pins s σ H _ us Q I r ⟨_, rfl, c, qs _ e.symm⟩
end
/-! ### truth, indices, slices -/
section
variable {X : Cx}
theorem truD_V {K : Fr'} {H : Hp} {b : Bool} {P : Addr → Prop} {v : V} {d : D} {k : Bool} (h : Bor K H b P v d) (e : truD d = some k) : TruV K v H k := by
  cases h with
  | non =>
    cases e
    rfl
  | bl b =>
    cases e
    rfl
  | int i =>
    cases e
    rfl
  | str x =>
    obtain ⟨c, e⟩ := ifs e
    exact ⟨lim_line c, e.symm⟩
  | tup h t =>
    cases e
    refine .inr (.inl ⟨_, h, ?_⟩)
    cases t <;> rfl
  | lst h _ t =>
    cases e
    refine .inl ⟨_, .inl (.inl h), ?_⟩
    cases t <;> rfl
  | lsk _ h t =>
    cases e
    refine .inl ⟨_, h.sq, ?_⟩
    cases t <;> rfl
theorem pixN_eq (n : Nat) (i : Int) : pixN n i = ixN n i := rfl
theorem pix_atI {α : Type} {xs : List α} {i : Int} {j : Nat} {x : α} (h : pixN xs.length i = some j) (e : xs[j]? = some x) : atI xs i = some x := by
  unfold atI
  rw [← pixN_eq, h]
  exact e
theorem sqL_inj {pins : List (Addr × Obj)} {s : Shared} {σ : L2.St} {H : Hp} {a : Addr} {xs ys : List V} (I : Inv X pins σ H s) (h : SqL X.K H a xs) (k : SqL X.K H a ys) : xs = ys := by
  obtain ⟨i1, r1, ⟨o1, n1, e1, _, _, d1⟩, _⟩ := I.list h
  obtain ⟨i2, r2, ⟨o2, n2, e2, _, _, d2⟩, _⟩ := I.list k
  rw [e1] at e2
  cases e2
  rw [d1] at d2
  injection d2 with d3 _
  have : i1 = i2 := by simpa using d3
  subst this
  exact r1.inj r2
theorem sqT_inj {pins : List (Addr × Obj)} {s : Shared} {σ : L2.St} {H : Hp} {a : Addr} {xs ys : List V} (I : Inv X pins σ H s) (h : SqT X.K H a xs) (k : SqT X.K H a ys) : xs = ys := by
  obtain ⟨i1, r1, ⟨o1, e1, _, n1, d1⟩, _⟩ := I.tuple h
  obtain ⟨i2, r2, ⟨o2, e2, _, n2, d2⟩, _⟩ := I.tuple k
  rw [e1] at e2
  cases e2
  rw [d1] at d2
  injection d2 with d3 _
  have : i1 = i2 := by simpa using d3
  subst this
  exact r1.inj r2
/-- an item of data -/
def rIxD (K : Fr') : R2 := fun x y H Q => ∃ dx dy d, Bor K H true (fun _ => True) x dx ∧ Bor K H true (fun _ => True) y dy ∧ ixD dx dy = some d ∧ ∀ v, (∀ b P, Bor K H b P x dx → Bor K H b P v d) → Q v H
theorem ix_data : IxR X (rIxD X.K) := by
  intro value slice pins s σ H x y v u Q I rx ry h hs
  obtain ⟨dx, dy, d, hx, hy, hd, q⟩ := h
  unfold ixD at hd
  split at hd
  · obtain rfl := hy.int'
    obtain ⟨a, vs, rfl, h2, h3⟩ := hx.list
    split at hd
    · rename_i ds i j e
      obtain ⟨w, e1, e2⟩ := h3.get hd
      refine ix_list value slice pins s σ H _ _ v u Q I rx ry ⟨a, vs, _, w, rfl, rfl, h2, pix_atI (by rw [h3.length]; exact e) e1, q w fun b P hb => ?_⟩ hs
      obtain ⟨a', vs', e3, h4, h5⟩ := hb.list
      cases e3
      have := sqL_inj I h2 h4
      subst this
      obtain ⟨w', e4, e5⟩ := h5.get hd
      rw [e1] at e4
      cases e4
      exact e5
    · cases hd
  · obtain rfl := hy.int'
    obtain ⟨a, vs, rfl, h2, h3⟩ := hx.tuple
    split at hd
    · rename_i ds i j e
      obtain ⟨w, e1, e2⟩ := h3.get hd
      refine ix_tup value slice pins s σ H _ _ v u Q I rx ry ⟨a, vs, _, w, rfl, rfl, h2, pix_atI (by rw [h3.length]; exact e) e1, q w fun b P hb => ?_⟩ hs
      obtain ⟨a', vs', e3, h4, h5⟩ := hb.tuple
      cases e3
      have := sqT_inj I h2 h4
      subst this
      obtain ⟨w', e4, e5⟩ := h5.get hd
      rw [e1] at e4
      cases e4
      exact e5
    · cases hd
  · obtain rfl := hy.int'
    obtain rfl := hx.str'
    obtain ⟨c, hd⟩ : (_ ≤ lim) ∧ _ := by
      split at hd
      · rename_i c
        exact ⟨c, hd⟩
      · cases hd
    split at hd
    · rename_i j e
      split at hd
      · rename_i z e2
        cases hd
        exact ix_str value slice pins s σ H _ _ v u Q I rx ry ⟨_, _, z, rfl, rfl, lim_line c, pix_atI (by rw [Array.length_toList]; exact e) e2, q _ fun b P _ => .str _⟩ hs
      · cases hd
    · cases hd
  · cases hd
/-- a slice of data -/
def rSlD (K : Fr') : V → Option Int → Option Int → Hp → VK → Prop := fun x lo hi H Q => ∃ dx d, Bor K H true (fun _ => True) x dx ∧ slD dx lo hi = some d ∧ ∀ v H', NewD K H H' v d → Q v H'
theorem cutV_eq (xs : List V) (ds : List D) (h : xs.length = ds.length) (lo hi : Option Int) : cutV xs lo hi = (xs.drop (HT.sIx ds.length 0 lo)).take (HT.sIx ds.length ds.length hi - HT.sIx ds.length 0 lo) := by
  unfold cutV
  rw [h]
theorem purs_cut {ds : List D} (h : purs ds = true) (i j : Nat) : purs ((ds.drop i).take j) = true := purs_sub h fun d m => List.mem_of_mem_drop (List.mem_of_mem_take m)
theorem sl_data : SlR X (rSlD X.K) := by
  intro pins s σ H x v vl vu lo hi sl Q I rx hs pl pu h
  obtain ⟨dx, d, hx, hd, q⟩ := h
  unfold slD at hd
  split at hd
  · obtain ⟨a, vs, rfl, h2, h3⟩ := hx.list
    obtain ⟨c, rfl⟩ := ifs hd
    refine sl_list pins s σ H _ v vl vu lo hi sl Q I rx hs pl pu ⟨a, vs, rfl, h2, fun p n => q _ _ ?_⟩
    rw [cutV_eq vs _ h3.length]
    exact NewD.lst n (purs_cut c _ _) ((h3.drop _).take _)
  · obtain ⟨a, vs, rfl, h2, h3⟩ := hx.tuple
    obtain ⟨c, rfl⟩ := ifs hd
    refine sl_tupA pins s σ H _ v vl vu lo hi sl Q I rx hs pl pu ⟨a, vs, rfl, h2, fun e => q _ _ ?_, fun _ p n => q _ _ ?_⟩
    · rw [h3.length] at e
      rw [e.1, e.2, List.drop_zero, Nat.sub_zero, List.take_length]
      exact NewD.pure (b := true) (P := fun _ => True) c (.tup h2 h3)
    · rw [cutV_eq vs _ h3.length]
      exact NewD.tup n (purs_cut c _ _) ((h3.drop _).take _)
  · obtain rfl := hx.str'
    obtain ⟨c, rfl⟩ := ifs hd
    exact sl_str pins s σ H _ v vl vu lo hi sl Q I rx hs pl pu ⟨_, rfl, lim_line c, q _ _ (NewD.pure (b := false) (P := fun _ => True) rfl (.str _))⟩
  · cases hd
end
end Zr

set_option maxRecDepth 100000
set_option maxHeartbeats 4000000
/-! ZrE: a text's def is told by a term of ZrB (chk); expressions do what ev says. -/
namespace Zr
open PySem PySem.Spec PyProof.Rows L2

structure Gx where
  fns : List (Str × Nat × Mode)
  cons : List (Str × D)
  blts : List Str
structure Sx where
  N : List Str
  sc : Scope
  rw : Scope
def visB (sc : Scope) (x : Str) : Bool := match sc.names.lookup x with
  | some .local => true
  | some .cell => true
  | some .free => true
  | _ => false
def glB (sc : Scope) (x : Str) : Bool := match sc.names.lookup x with
  | some .globalImplicit => true
  | _ => false
def locB (sc : Scope) (x : Str) : Bool := match sc.names.lookup x with
  | some .local => true
  | some .cell => true
  | _ => false
def loc1B (sc : Scope) (x : Str) : Bool := match sc.names.lookup x with
  | some .local => true
  | _ => false
def nodun (x : Str) : Bool := !(x == ("__debug__" : Str)) && !(x == ("__classdict__" : Str)) && !decide (x = ("__name__" : Str))
def nameB (S : Sx) (i : Nat) (x : Str) : Bool := decide (S.N[i]? = some x) && visB S.sc x && nodun x
def gloB (S : Sx) (x : Str) : Bool := glB S.sc x && nodun x
def bltB (G : Gx) (S : Sx) (x : Str) : Bool := gloB S x && G.blts.contains x
def tyn : Ty → String
  | .int => "int"
  | .bool => "bool"
  | .str => "str"
  | .list => "list"
  | .tuple => "tuple"
  | .dict => "dict"
def notStar : Expr → Bool
  | .Starred _ _ => false
  | _ => true
def notSlice : Expr → Bool
  | .Slice _ _ _ _ => false
  | _ => true
def notSet : Expr → Bool
  | .Set _ _ _ => false
  | _ => true
def plainTest : Expr → Bool
  | .UnaryOp .Not _ _ => false
  | .BoolOp _ _ _ => false
  | .IfExp _ _ _ _ => false
  | .Compare _ _ _ _ => false
  | _ => true
def notComp : Expr → Bool
  | .ListComp _ _ _ _ => false
  | .SetComp _ _ _ _ => false
  | .DictComp _ _ _ _ _ => false
  | _ => true
def chkTys (G : Gx) (S : Sx) : List Ty → List Expr → Bool
  | [], [] => true
  | t :: ts, .Name n _ :: es => decide (n = Str.ofString (tyn t)) && bltB G S n && chkTys G S ts es
  | _, _ => false
def chkG (S : Sx) : IG → Expr → Bool
  | .nm i, .Name x _ => decide (S.N[i]? = some x) && locB S.rw x && nodun x
  | .t1 a, .Tuple [x] _ _ => chkG S a x
  | .t2 a b, .Tuple [x, y] _ _ => chkG S a x && chkG S b y
  | .t3 a b c, .Tuple [x, y, z] _ _ => chkG S a x && chkG S b y && chkG S c z
  | .t4 a b c d, .Tuple [x, y, z, u] _ _ => chkG S a x && chkG S b y && chkG S c z && chkG S d u
  | _, _ => false
def inner (S : Sx) (scope : Scope) : Sx := ⟨S.N, relS scope S.sc, scope⟩
def ownOf (S : Sx) (own : List Nat) : List (Str × Nat) := own.map fun i => (S.N.getD i ("" : Str), i)
/-- enumerate and zip are walked into a tuple -/
def tgI : II → Expr → Bool
  | .enum _, .Tuple _ _ _ => true
  | .zip _ _, .Tuple _ _ _ => true
  | .enum _, _ => false
  | .zip _ _, _ => false
  | _, _ => true
def mun : Mu → Str
  | .append => "append"
  | .extend => "extend"
  | .pop => "pop"
  | .insert => "insert"
  | .remove => "remove"
mutual
def chkE (G : Gx) (S : Sx) : IE → Expr → Bool
  | .var i, .Name x _ => nameB S i x
  | .mov i, .Name x _ => nameB S i x
  | .fz _ e, ex => chkE G S e ex
  | .int i, .Constant (.int j) _ _ => decide (i = j)
  | .str x, .Constant (.str y) _ _ => decide (x = y)
  | .bl b, .Constant (.bool c) _ _ => decide (b = c)
  | .non, .Constant .none _ _ => true
  | .glob x d, .Name y _ => decide (x = y) && gloB S y && G.cons.any fun p => decide (p.1 = x) && deq p.2 d
  | .bin op a b, .BinOp l o r _ => decide (op = o) && chkE G S a l && chkE G S b r
  | .neg a, .UnaryOp .USub x _ => chkE G S a x
  | .cmp op a b, .Compare l [o] [r] _ => decide (op = o) && !behindInMarks o r && chkE G S a l && chkE G S b r
  | .chain op op' a b c, .Compare l [o, o'] [m, r] _ => decide (op = o) && decide (op' = o') && !lastMarks [o, o'] [m, r] && chkE G S a l && chkE G S b m && chkE G S c r
  | .andV a b, .BoolOp .And (x :: y :: r) p => chkE G S a x && chkE G S b (.BoolOp .And (y :: r) p)
  | .orV a b, .BoolOp .Or (x :: y :: r) p => chkE G S a x && chkE G S b (.BoolOp .Or (y :: r) p)
  | .oneV a, .BoolOp _ [x] _ => chkE G S a x
  | .notV a, .UnaryOp .Not x _ => chkE G S a x
  | .ite t a b, .IfExp c x y _ => chkT G S t c && chkE G S a x && chkE G S b y
  | .tup es, .Tuple xs _ _ => chks G S es xs
  | .lst es, .List xs _ => chks G S es xs
  | .ix a b, .Subscript v s _ => notSlice s && chkE G S a v && chkE G S b s
  | .sl a lo hi, .Subscript v (.Slice l h none _) _ => chkE G S a v && chkO G S lo l && chkO G S hi h
  | .isi a ts, .Call (.Name f _) [x, t] [] _ => decide (f = ("isinstance" : Str)) && bltB G S f && notStar x && chkE G S a x && (match ts, t with
    | [_], .Name _ _ => chkTys G S ts [t]
    | _, .Tuple ns _ _ => decide (ts.length < 20) && chkTys G S ts ns
    | _, _ => false)
  | .bcall b es, .Call (.Name f _) (x :: xs) [] _ => decide (f = bn b) && bltB G S f && chks G S es (x :: xs)
  | .fcall f es, .Call (.Name n _) (x :: xs) [] _ => decide (G.fns[f]? = some (n, (x :: xs).length, .plain)) && gloB S n && chks G S es (x :: xs)
  | .fscr f es, .Call (.Name n _) (x :: xs) [] _ => decide (G.fns[f]? = some (n, (x :: xs).length, .scr)) && gloB S n && chks G S es (x :: xs)
  | .fref f s es, .Call (.Name n _) (.Name x _ :: xs) [] _ => decide (G.fns[f]? = some (n, xs.length + 1, .byr)) && gloB S n && nameB S s x && chks G S es xs
  | .mut m i es, .Call (.Attribute (.Name x _) a ap) xs [] cp => decide (a = mun m) && nameB S i x && (ap.endLine == cp.line) && decide (xs.length < 20) && chks G S es xs
  | .lc own elt g it t, .ListComp ex [⟨tg, ie, ifs, 0⟩] scope _ => blkC S.N S.sc scope (ownOf S own) && chkI G S it ie && tgI it tg && notSet ie && chkG (inner S scope) g tg && chkC G (inner S scope) t ifs && chkE G (inner S scope) elt ex
  | .lc2 own elt g it t g1 it1 t1, .ListComp ex [⟨tg, ie, ifs, 0⟩, ⟨tg1, ie1, ifs1, 0⟩] scope _ => blkC S.N S.sc scope (ownOf S own) && chkI G S it ie && tgI it tg && notSet ie && chkG (inner S scope) g tg && chkC G (inner S scope) t ifs && chkI G (inner S scope) it1 ie1 && tgI it1 tg1 && notSet ie1 && g1.slots.all own.contains && chkG (inner S scope) g1 tg1 && chkC G (inner S scope) t1 ifs1 && chkE G (inner S scope) elt ex
  | _, _ => false
def chks (G : Gx) (S : Sx) : IEs → List Expr → Bool
  | .nil, [] => true
  | .cons e es, x :: xs => notStar x && chkE G S e x && chks G S es xs
  | _, _ => false
def chkO (G : Gx) (S : Sx) : IO → Option Expr → Bool
  | .none, none => true
  | .some e, some x => chkE G S e x
  | _, _ => false
def chkT (G : Gx) (S : Sx) : IT → Expr → Bool
  | .tru e, x => plainTest x && chkE G S e x
  | .cmp (.cmp op a b), .Compare l [o] [r] _ => decide (op = o) && !behindInMarks o r && chkE G S a l && chkE G S b r
  | .cmp (.chain op op' a b c), .Compare l [o, o'] [m, r] _ => decide (op = o) && decide (op' = o') && !lastMarks [o, o'] [m, r] && chkE G S a l && chkE G S b m && chkE G S c r
  | .and a b, .BoolOp .And (x :: y :: r) p => chkT G S a x && chkT G S b (.BoolOp .And (y :: r) p)
  | .or a b, .BoolOp .Or (x :: y :: r) p => chkT G S a x && chkT G S b (.BoolOp .Or (y :: r) p)
  | .one a, .BoolOp _ [x] _ => chkT G S a x
  | .not a, .UnaryOp .Not x _ => chkT G S a x
  | _, _ => false
def chkC (G : Gx) (S : Sx) : IC → List Expr → Bool
  | .yes, [] => true
  | .one t, [x] => chkT G S t x
  | _, _ => false
def chkI (G : Gx) (S : Sx) : II → Expr → Bool
  | .seq e, x => chkE G S e x
  | .rng1 a, .Call (.Name f _) [x] [] _ => decide (f = ("range" : Str)) && bltB G S f && notStar x && chkE G S a x
  | .rng2 a b, .Call (.Name f _) [x, y] [] _ => decide (f = ("range" : Str)) && bltB G S f && notStar x && notStar y && chkE G S a x && chkE G S b y
  | .enum e, .Call (.Name f _) [x] [] _ => decide (f = ("enumerate" : Str)) && bltB G S f && notStar x && chkE G S e x
  | .zip a b, .Call (.Name f _) [x, y] [] _ => decide (f = ("zip" : Str)) && bltB G S f && notStar x && notStar y && chkE G S a x && chkE G S b y
  | _, _ => false
end
end Zr

set_option maxRecDepth 100000
set_option maxHeartbeats 8000000
/-! ZrF: worlds behind a new value, a slot taken; what is asked of a context; readings. -/
namespace Zr
open PySem PySem.Spec PyProof.Rows L2

section
variable {K : Fr'} {H H' H1 H2 H3 : Hp} {ρ ρ' ρ1 ρ2 : List Slot} {σ σ' : L2.St} {F F' F1 F2 : Fa} {Z Z' Z1 Z2 : Addr → Prop} {E E1 E2 : List Nat}

/-- a slot's tie is kept where its objects are -/
theorem SR.keep {i : Nat} {ov : Option (Option V)} {s : Slot} (h : SR K H F Z i ov s) (hF : F' i = F i) (k : ∀ a o, H a = some o → (Lst o → a ∈ F i ∨ ¬ Z a) → H' a = some o) (z : ∀ a, ¬ Z a → H a ≠ none → ¬ Z' a) : SR K H' F' Z' i ov s := by
  cases s with
  | emp => exact hF.trans h
  | pur d =>
    obtain ⟨h0, hp, v, e, hb⟩ := h
    exact ⟨hF.trans h0, hp, v, e, (Own.keep (Bor.own hb hp) fun a o e l => k a o e fun q => absurd (l q) (by simp)).bor fun _ _ => trivial⟩
  | own d =>
    obtain ⟨v, e, ho⟩ := h
    refine ⟨v, e, ?_⟩
    show Own K H' v d (F' i)
    rw [hF]
    exact ho.keep fun a o e l => k a o e fun q => .inl (l q)
  | byr d =>
    obtain ⟨v, e, ho⟩ := h
    refine ⟨v, e, ?_⟩
    show Own K H' v d (F' i)
    rw [hF]
    exact ho.keep fun a o e l => k a o e fun q => .inl (l q)
  | bor d =>
    obtain ⟨h0, v, e, hb⟩ := h
    exact ⟨hF.trans h0, v, e, hb.keep (P := fun a => ¬ Z a) (fun a o e l => k a o e fun q => .inr (l q)) fun a p n => z a p n⟩
  | scr d =>
    obtain ⟨h0, v, e, hb⟩ := h
    exact ⟨hF.trans h0, v, e, hb.keep (P := fun a => ¬ Z a) (fun a o e l => k a o e fun q => .inr (l q)) fun a p n => z a p n⟩

/-- owned objects stand -/
theorem W.tr (w : W K H ρ σ F Z) {j : Nat} {a : Addr} (q : a ∈ F j) : ∃ o, H a = some o ∧ Lst o := by
  by_cases hj : j < ρ.length
  · have hs := w.slot j ρ[j] (List.getElem?_eq_getElem hj)
    cases e : ρ[j] with
    | emp =>
      rw [e] at hs
      rw [show F j = [] from hs] at q
      cases q
    | pur d =>
      rw [e] at hs
      rw [hs.1] at q
      cases q
    | own d =>
      rw [e] at hs
      obtain ⟨_, _, ho⟩ := hs
      exact ho.tr a q
    | byr d =>
      rw [e] at hs
      obtain ⟨_, _, ho⟩ := hs
      exact ho.tr a q
    | bor d =>
      rw [e] at hs
      rw [hs.1] at q
      cases q
    | scr d =>
      rw [e] at hs
      rw [hs.1] at q
      cases q
  · rw [w.out j (by omega)] at q
    cases q
/-- behind a new value -/
theorem W.new {v : V} {d : D} (w : W K H ρ σ F Z) (n : NewD K H H' v d) : ∃ Z', Step [] H ρ F Z H' ρ F Z' ∧ W K H' ρ σ F Z' ∧ VR [] K H F H' ρ σ F Z' v d .fresh := by
  obtain ⟨k, B, ho, nd, nw⟩ := n
  have z0 : ∀ a, ¬ Z a → H a ≠ none → ¬ (Z a ∨ a ∈ B) := fun a p q r => r.elim p fun m => q (nw a m)
  refine ⟨fun a => Z a ∨ a ∈ B, ⟨fun a o e _ => k a o e, fun a q => ?_, fun _ _ => ⟨rfl, rfl⟩, fun _ _ m => .inl m, fun a q => q.imp id (nw a), fun a q _ => .inl (.inl q)⟩,
    ⟨w.len, w.out, fun i s e => (w.slot i s e).keep rfl (fun a o e _ => k a o e) z0, w.nodup, w.disj, fun i a m => .inl (w.zed i a m)⟩, B, ho, nd, fun a m => .inr m, fun a m j q => ?_, fun a m => .inr (nw a m)⟩
  · cases e : H a with
    | none => exact absurd e q
    | some o =>
      rw [k a o e]
      exact fun z => nomatch z
  · obtain ⟨o, e, _⟩ := w.tr q
    rw [nw a m] at e
    cases e
theorem fin_new {v : V} {d : D} (s : Step E H ρ F Z H2 ρ2 F2 Z2) (w : W K H2 ρ2 σ F2 Z2) (n : NewD K H2 H3 v d) : ∃ Z3, Step E H ρ F Z H3 ρ2 F2 Z3 ∧ W K H3 ρ2 σ F2 Z3 ∧ VR E K H F H3 ρ2 σ F2 Z3 v d .fresh := by
  obtain ⟨Z3, s3, w3, r3⟩ := w.new n
  exact ⟨Z3, s.seq s3 (fun _ h => h) (fun _ h => nomatch h), w3, (VR.back s r3).more fun j hj => (List.mem_append.mp hj).elim id fun h => nomatch h⟩
theorem fin_pure {v : V} {d : D} {b : Bool} {P : Addr → Prop} (p : pur d = true) (h : Bor K H2 b P v d) : VR E K H F H2 ρ2 σ F2 Z2 v d .fresh := VR.pure p h

/-- arguments, at the end of a step -/
inductive VLB (K : Fr') (H : Hp) (ρ : List Slot) (σ : L2.St) (F : Fa) (Z : Addr → Prop) : List V → Ds → List Addr → Prop
  | nil : VLB K H ρ σ F Z [] [] []
  | cons {v : V} {vs : List V} {d : D} {st : Stat} {ds : Ds} {B C : List Addr} : VB K H ρ σ F Z v d B st → VLB K H ρ σ F Z vs ds C → VLB K H ρ σ F Z (v :: vs) ((d, st) :: ds) (B ++ C)
def VL (E : List Nat) (K : Fr') (H : Hp) (F : Fa) (H' : Hp) (ρ' : List Slot) (σ : L2.St) (F' : Fa) (Z' : Addr → Prop) (vs : List V) (ds : Ds) : Prop :=
  ∃ B, VLB K H' ρ' σ F' Z' vs ds B ∧ Fl E H F F' Z' B
theorem VLB.bor : ∀ {vs : List V} {ds : Ds} {B : List Addr}, VLB K H ρ σ F Z vs ds B → BorL K H true (fun _ => True) vs (ds.map (·.1))
  | _, _, _, .nil => .nil
  | _, _, _, .cons h t => .cons h.bor t.bor
theorem VL.bor {vs : List V} {ds : Ds} (h : VL E K H F H' ρ' σ F' Z' vs ds) : BorL K H' true (fun _ => True) vs (ds.map (·.1)) :=
  let ⟨_, q, _⟩ := h
  q.bor
theorem Fl.two {A B : List Addr} (f : Fl E H F F' Z' A) (g : Fl E H F F' Z' B) (ap : ∀ a ∈ A, a ∉ B) : Fl E H F F' Z' (A ++ B) :=
  ⟨List.nodup_append.mpr ⟨f.nodup, g.nodup, fun a m b q e => ap a m (e ▸ q)⟩, fun a m => (List.mem_append.mp m).elim (f.zed a) (g.zed a), fun a m => (List.mem_append.mp m).elim (f.off a) (g.off a), fun a m => (List.mem_append.mp m).elim (f.new a) (g.new a)⟩
/-- a value, then the other arguments -/
theorem VL.cons {v : V} {d : D} {st : Stat} {vs : List V} {ds : Ds} (h : VR E1 K H F H1 ρ1 σ F1 Z1 v d st) (w : W K H1 ρ1 σ F1 Z1) (s : Step E1 H ρ F Z H1 ρ1 F1 Z1) (t : Step E2 H1 ρ1 F1 Z1 H2 ρ2 F2 Z2) (ok : okSt st E2 = true)
    (k : VL E2 K H1 F1 H2 ρ2 σ F2 Z2 vs ds) : VL (E1 ++ E2) K H F H2 ρ2 σ F2 Z2 (v :: vs) ((d, st) :: ds) := by
  obtain ⟨B, hb, fb⟩ := h
  obtain ⟨C, hc, fc⟩ := k
  refine ⟨B ++ C, .cons (hb.over w fb t ok) hc, Fl.two ((fb.over t hb.tr).more fun j hj => List.mem_append_left _ hj) (fc.back s) (fb.apart fc hb.tr)⟩
end

/-! ### the promise of a def by the calls it stands for -/
def Post (K : Fr') (H : Hp) (A : List Addr) (d : D) (Q : VK) : Prop :=
  ∀ v H' B, (∀ a o, H a = some o → (Lst o → a ∉ A) → H' a = some o) → (∀ a, H a ≠ none → H' a ≠ none) → Own K H' v d B → B.Nodup → (∀ a ∈ B, a ∈ A ∨ H a = none) → Q v H'
def PostR (K : Fr') (H : Hp) (A : List Addr) (v0 : V) (c' : D) (d : D) (Q : VK) : Prop :=
  ∀ v H' B A', (∀ a o, H a = some o → (Lst o → a ∉ A) → H' a = some o) → (∀ a, H a ≠ none → H' a ≠ none) → Own K H' v d B → B.Nodup → (∀ a ∈ B, a ∈ A ∨ H a = none) →
    Own K H' v0 c' A' → A'.Nodup → (∀ a ∈ A', a ∈ A ∨ H a = none) → (∀ a ∈ B, a ∉ A') → Q v H'
def spC (K : Fr') (C : CallF) (f : Nat) : Mode → List V → Hp → VK → Prop
  | .plain, vs, H, Q => ∃ ds d o, BorL K H false (fun _ => True) vs ds ∧ C f none ds = some (d, o) ∧ Post K H [] d Q
  | .scr, vs, H, Q => ∃ v0 ws d0 ds d o, vs = v0 :: ws ∧ Bor K H true (fun _ => True) v0 d0 ∧ BorL K H false (fun _ => True) ws ds ∧ C f none (d0 :: ds) = some (d, o) ∧ Post K H [] d Q
  | .byr, vs, H, Q => ∃ v0 ws c A ds d c', vs = v0 :: ws ∧ Own K H v0 c A ∧ A.Nodup ∧ BorL K H false (fun a => a ∉ A) ws ds ∧ C f (some c) ds = some (d, some c') ∧ PostR K H A v0 c' d Q

/-! ### what is asked of a context -/
/-- the defs may be called by their names, wherever one stands -/
def CallOk (P : Program) (w : World) (K : Fr') (mg : Str → Option Value) (base : Heap) (A : Around) (G : Gx) (C : CallF) : Prop :=
  ∀ f n m mo, G.fns[f]? = some (n, m, mo) → ∀ X : Cx, X.prog = P → X.w = w → X.K = K → X.mg = mg → X.base = base → X.A = A → ∀ (es : List Expr) (t : TA) (p pos : Pos), es.length = m → es ≠ [] → es.all notStar = true → Gl X n → nodun n = true → PA X es t →
    PE X (.Call (.Name n p) es [] pos) (fun σ H Q => t σ H fun vs H1 => spC K C f mo vs H1 Q)
structure Ok (X : Cx) (G : Gx) (S : Sx) (C : CallF) : Prop where
  hN : X.N = S.N
  nd : S.N.Nodup
  calm : X.calm = true
  sc : X.env.scope = S.sc
  kind : S.sc.kind = .function
  sto : ∀ x, locB S.rw x = true → Loc S.sc x ∧ (X.fn x = true ∨ S.sc.names.lookup x = some .local)
  units : X.A.units + 64 < cLine
  guards : X.A.guards = some []
  blt : ∀ x ∈ G.blts, X.mg x = none
  con : ∀ p ∈ G.cons, ∃ u v, X.mg p.1 = some u ∧ RelV v u ∧ ∀ H, Bor X.K H false (fun _ => True) v p.2
  call : CallOk X.prog X.w X.K X.mg X.base X.A G C
theorem lookup_loc {sc : Scope} {x : Str} (h : locB sc x = true) : sc.names.lookup x = some .local ∨ sc.names.lookup x = some .cell := by
  unfold locB at h
  split at h
  · rename_i e; exact .inl e
  · rename_i e; exact .inr e
  · cases h
/-- a comprehension's block -/
theorem Ok.blk {X : Cx} {G : Gx} {S : Sx} {C : CallF} (ok : Ok X G S C) {scope : Scope} (hk : scope.kind = .function) (s : Shared) (H : Hp) (c : Addr) (cl : List (Str × Addr)) (fp : List Addr) : Ok (X.blk s H scope (compEnvC scope cl c X.env) fp) G (inner S scope) C where
  hN := ok.hN
  nd := ok.nd
  calm := ok.calm
  sc := by
    show relS scope X.env.scope = relS scope S.sc
    rw [ok.sc]
  kind := hk
  sto := fun x h => by
    rcases lookup_loc h with e | e
    · exact ⟨.inl (lookup_relS_keep (by decide) e), .inr (lookup_relS_keep (by decide) e)⟩
    · refine ⟨.inr (lookup_relS_keep (by decide) e), .inl ?_⟩
      have e' : scope.names.lookup x = some .cell := e
      show (scope.names.lookup x == some .cell) = true
      rw [e']
      rfl
  units := ok.units
  guards := ok.guards
  blt := ok.blt
  con := ok.con
  call := ok.call
section
variable {X : Cx} {G : Gx} {S : Sx} {C : CallF}
theorem visB_ok {sc : Scope} {x : Str} (h : visB sc x = true) : Vis sc x := by
  unfold visB at h
  unfold Vis
  split at h
  · rename_i e; exact .inl e
  · rename_i e; exact .inr (.inl e)
  · rename_i e; exact .inr (.inr e)
  · cases h
theorem glB_ok (ok : Ok X G S C) {x : Str} (h : glB S.sc x = true) : Gl X x := by
  unfold glB at h
  split at h
  · rename_i e
    show X.env.scope.names.lookup x = _
    rw [ok.sc]
    exact e
  · cases h
theorem nodun_ok {x : Str} (h : nodun x = true) : (x == ("__debug__" : Str)) = false ∧ (x == ("__classdict__" : Str)) = false ∧ x ≠ ("__name__" : Str) := by
  unfold nodun at h
  simp only [Bool.and_eq_true, Bool.not_eq_true', decide_eq_false_iff_not] at h
  exact ⟨h.1.1, h.1.2, h.2⟩
theorem _root_.L2.PE.of {e : Expr} {t t' : TE} (h : PE X e t) (k : ∀ σ H Q, t' σ H Q → t σ H Q) : PE X e t' := ⟨fun pins s σ H Q I q => h.run pins s σ H Q I (k σ H Q q)⟩
theorem _root_.L2.PT.of {e : Expr} {t t' : TT} (h : PT X e t) (k : ∀ σ H Q, t' σ H Q → t σ H Q) : PT X e t' := ⟨fun pins s σ H Q I q => h.run pins s σ H Q I (k σ H Q q)⟩
theorem _root_.L2.PW.of {e : Expr} {t t' : TT} (h : PW X e t) (k : ∀ σ H Q, t' σ H Q → t σ H Q) : PW X e t' := ⟨fun whole pins s σ H Q I q => h.run whole pins s σ H Q I (k σ H Q q)⟩
theorem _root_.L2.PA.of {e : List Expr} {t t' : TA} (h : PA X e t) (k : ∀ σ H Q, t' σ H Q → t σ H Q) : PA X e t' := ⟨fun pos pins s σ H Q I q => h.run pos pins s σ H Q I (k σ H Q q)⟩

/-- what an expression does -/
def tE (K : Fr') (C : CallF) (e : IE) : TE := fun σ H Q => ∃ ρ F Z d st ρ', W K H ρ σ F Z ∧ ev C e ρ = some (d, st, ρ') ∧
  ∀ v H' F' Z', Step (effE e) H ρ F Z H' ρ' F' Z' → W K H' ρ' σ F' Z' → VR (effE e) K H F H' ρ' σ F' Z' v d st → Q v H'
def tTt (K : Fr') (C : CallF) (t : IT) : TT := fun σ H Q => ∃ ρ F Z k ρ', W K H ρ σ F Z ∧ evT C t ρ = some (k, ρ') ∧
  ∀ H' F' Z', Step (effT t) H ρ F Z H' ρ' F' Z' → W K H' ρ' σ F' Z' → Q k H'
def tAs (K : Fr') (C : CallF) (es : IEs) : TA := fun σ H Q => ∃ ρ F Z ds ρ', W K H ρ σ F Z ∧ evs C es ρ = some (ds, ρ') ∧
  ∀ vs H' F' Z', Step (effs es) H ρ F Z H' ρ' F' Z' → W K H' ρ' σ F' Z' → VL (effs es) K H F H' ρ' σ F' Z' vs ds → Q vs H'
def tOs (K : Fr') (C : CallF) (o : IO) : TO := fun σ H Q => ∃ ρ F Z i ρ', W K H ρ σ F Z ∧ evO C o ρ = some (i, ρ') ∧
  ∀ H' F' Z', Step (effO o) H ρ F Z H' ρ' F' Z' → W K H' ρ' σ F' Z' → Q i H'

/-! ### names and constants -/
theorem se_const {x : IE} {e : Expr} {v : V} {d : D} (h : PE X e (tC v)) (hev : ∀ ρ, ev C x ρ = some (d, .fresh, ρ)) (p : pur d = true) (hb : ∀ H, Bor X.K H false (fun _ => True) v d) : PE X e (tE X.K C x) :=
  h.of fun σ H Q ⟨ρ, F, Z, d', st, ρ', w, he, k⟩ => by
    rw [hev] at he
    cases he
    exact k v H F Z .refl w (fin_pure p (hb H))
theorem SR.val {K : Fr'} {H : Hp} {F : Fa} {Z : Addr → Prop} {i : Nat} {ov : Option (Option V)} {s : Slot} (h : SR K H F Z i ov s) (n : s ≠ .emp) : ∃ v, ov = some (some v) := by
  cases s with
  | emp => exact absurd rfl n
  | pur d => obtain ⟨_, _, v, e, _⟩ := h; exact ⟨v, e⟩
  | own d => obtain ⟨v, e, _⟩ := h; exact ⟨v, e⟩
  | byr d => obtain ⟨v, e, _⟩ := h; exact ⟨v, e⟩
  | bor d => obtain ⟨_, v, e, _⟩ := h; exact ⟨v, e⟩
  | scr d => obtain ⟨_, v, e, _⟩ := h; exact ⟨v, e⟩
theorem se_var (ok : Ok X G S C) {i : Nat} {x : Str} {p : Pos} (h : nameB S i x = true) : PE X (.Name x p) (tE X.K C (.var i)) := by
  unfold nameB at h
  simp only [Bool.and_eq_true, decide_eq_true_eq] at h
  obtain ⟨h1, h2, _⟩ := nodun_ok h.2
  refine (pe_var (i := i) (by rw [ok.hN]; exact h.1.1) (by rw [ok.sc]; exact visB_ok h.1.2) h1 h2).of fun σ H Q ⟨ρ, F, Z, d, st, ρ', w, he, k⟩ => ?_
  simp only [ev, gv] at he
  cases e : ρ[i]? with
  | none =>
    rw [e] at he
    cases he
  | some s =>
    rw [e] at he
    have hs := w.slot i s e
    cases s with
    | emp => cases he
    | pur d =>
      cases he
      obtain ⟨h0, hp, v, ev, hb⟩ := hs
      exact ⟨v, ev, k v H F Z .refl w (fin_pure hp hb)⟩
    | own d =>
      cases he
      obtain ⟨v, ev, ho⟩ := hs
      exact ⟨v, ev, k v H F Z .refl w ⟨[], ⟨rfl, ho.bor fun a m => .inl m⟩, Fl.nil⟩⟩
    | byr d =>
      cases he
      obtain ⟨v, ev, ho⟩ := hs
      exact ⟨v, ev, k v H F Z .refl w ⟨[], ⟨rfl, ho.bor fun a m => .inl m⟩, Fl.nil⟩⟩
    | bor d =>
      cases he
      obtain ⟨h0, v, ev, hb⟩ := hs
      exact ⟨v, ev, k v H F Z .refl w ⟨[], ⟨rfl, hb⟩, Fl.nil⟩⟩
    | scr d =>
      cases he
      obtain ⟨h0, v, ev, hb⟩ := hs
      exact ⟨v, ev, k v H F Z .refl w ⟨[], ⟨rfl, hb⟩, Fl.nil⟩⟩
theorem se_mov (ok : Ok X G S C) {i : Nat} {x : Str} {p : Pos} (h : nameB S i x = true) : PE X (.Name x p) (tE X.K C (.mov i)) := by
  unfold nameB at h
  simp only [Bool.and_eq_true, decide_eq_true_eq] at h
  obtain ⟨h1, h2, _⟩ := nodun_ok h.2
  refine (pe_var (i := i) (by rw [ok.hN]; exact h.1.1) (by rw [ok.sc]; exact visB_ok h.1.2) h1 h2).of fun σ H Q ⟨ρ, F, Z, d, st, ρ', w, he, k⟩ => ?_
  simp only [ev] at he
  cases e : ρ[i]? with
  | none =>
    rw [e] at he
    cases he
  | some s =>
    rw [e] at he
    have hs := w.slot i s e
    cases s with
    | emp => cases he
    | byr d => cases he
    | pur d =>
      cases he
      obtain ⟨h0, hp, v, ev, hb⟩ := hs
      exact ⟨v, ev, k v H F Z .refl w (fin_pure hp hb)⟩
    | own d =>
      cases he
      obtain ⟨v, ev, ho⟩ := hs
      exact ⟨v, ev, k v H F Z .refl w ⟨[], ⟨rfl, e, ev, ho⟩, Fl.nil⟩⟩
    | bor d =>
      cases he
      obtain ⟨h0, v, ev, hb⟩ := hs
      exact ⟨v, ev, k v H F Z .refl w ⟨[], ⟨rfl, hb⟩, Fl.nil⟩⟩
    | scr d =>
      cases he
      obtain ⟨h0, v, ev, hb⟩ := hs
      exact ⟨v, ev, k v H F Z .refl w ⟨[], ⟨rfl, hb⟩, Fl.nil⟩⟩
end
end Zr

set_option maxRecDepth 100000
set_option maxHeartbeats 8000000
/-! ZrG: the rules for expressions, one a construct. -/
namespace Zr
open PySem PySem.Spec PyProof.Rows L2
section
variable {X : Cx} {G : Gx} {S : Sx} {C : CallF}

theorem ml {α : Type} {a : α} {A B : List α} (h : a ∈ A) : a ∈ A ++ B := List.mem_append_left _ h
theorem mr {α : Type} {a : α} {A B : List α} (h : a ∈ B) : a ∈ A ++ B := List.mem_append_right _ h
theorem VR.app {K : Fr'} {H H' H1 : Hp} {ρ ρ' ρ1 : List Slot} {σ : L2.St} {F F' F1 : Fa} {Z Z' Z1 : Addr → Prop} {E1 E2 E : List Nat} {v : V} {d : D} {st : Stat} (s : Step E1 H ρ F Z H1 ρ1 F1 Z1) (h : VR E2 K H1 F1 H' ρ' σ F' Z' v d st)
    (h1 : ∀ j ∈ E1, j ∈ E) (h2 : ∀ j ∈ E2, j ∈ E) : VR E K H F H' ρ' σ F' Z' v d st := (VR.back s h).more fun j hj => (List.mem_append.mp hj).elim (h1 j) (h2 j)

theorem se_bin {op : Operator} {a b : IE} {l r : Expr} {p : Pos} (ha : PE X l (tE X.K C a)) (hb : PE X r (tE X.K C b)) : PE X (.BinOp l op r p) (tE X.K C (.bin op a b)) := by
  refine (pe_op (op_bin op) ha hb).of fun σ H Q ⟨ρ, F, Z, d, st, ρ', w, he, k⟩ => ?_
  simp only [ev] at he
  split at he
  · rename_i x sx ρ1 ea
    split at he
    · rename_i y sy ρ2 eb
      split at he
      · rename_i c
        simp only [Bool.and_eq_true] at c
        split at he
        · rename_i d' ed
          cases he
          refine ⟨ρ, F, Z, x, sx, ρ1, w, ea, fun v H1 F1 Z1 s1 w1 r1 => ⟨ρ1, F1, Z1, y, sy, _, w1, eb, fun u H2 F2 Z2 s2 w2 r2 => ⟨x, y, d, (r1.over w1 s2 c.1.1).borX c.1.2, r2.borX c.2, ed, fun z H3 nd => ?_⟩⟩⟩
          obtain ⟨Z3, s3, w3, r3⟩ := fin_new (s1.seq s2 (fun _ => ml) (fun _ => mr)) w2 nd
          exact k z H3 F2 Z3 s3 w3 r3
        · cases he
      · cases he
    · cases he
  · cases he
theorem se_neg {a : IE} {l : Expr} {p : Pos} (ha : PE X l (tE X.K C a)) : PE X (.UnaryOp .USub l p) (tE X.K C (.neg a)) := by
  refine (pe_un un_neg ha).of fun σ H Q ⟨ρ, F, Z, d, st, ρ', w, he, k⟩ => ?_
  simp only [ev] at he
  split at he
  · rename_i i sx ρ1 ea
    cases he
    refine ⟨ρ, F, Z, _, sx, _, w, ea, fun v H1 F1 Z1 s1 w1 r1 => ⟨i, r1.bor.int', ?_⟩⟩
    exact k _ H1 F1 Z1 s1 w1 (fin_pure (b := true) (P := fun _ => True) rfl (.int _))
  · cases he
theorem se_cmp (ok : Ok X G S C) {op : CmpOp} {a b : IE} {l r : Expr} {p : Pos} (hm : behindInMarks op r = false) (ha : PE X l (tE X.K C a)) (hb : PE X r (tE X.K C b)) : PE X (.Compare l [op] [r] p) (tE X.K C (.cmp op a b)) := by
  refine (pe_cmpR (op_cmp ok.units op) ha hb hm).of fun σ H Q ⟨ρ, F, Z, d, st, ρ', w, he, k⟩ => ?_
  simp only [ev] at he
  split at he
  · rename_i x sx ρ1 ea
    split at he
    · rename_i y sy ρ2 eb
      split at he
      · rename_i c
        split at he
        · rename_i q ed
          cases he
          refine ⟨ρ, F, Z, x, sx, ρ1, w, ea, fun v H1 F1 Z1 s1 w1 r1 => ⟨ρ1, F1, Z1, y, sy, _, w1, eb, fun u H2 F2 Z2 s2 w2 r2 => ⟨x, y, q, (r1.over w1 s2 c).bor, r2.bor, ed, ?_⟩⟩⟩
          exact k _ H2 F2 Z2 (s1.seq s2 (fun _ => ml) (fun _ => mr)) w2 (fin_pure (b := true) (P := fun _ => True) rfl (.bl _))
        · cases he
      · cases he
    · cases he
  · cases he
theorem st_cmp (ok : Ok X G S C) {op : CmpOp} {a b : IE} {l r : Expr} {p : Pos} (hm : behindInMarks op r = false) (ha : PE X l (tE X.K C a)) (hb : PE X r (tE X.K C b)) : PT X (.Compare l [op] [r] p) (tTt X.K C (.cmp (.cmp op a b))) := by
  refine (pt_cmpR (op_cmp ok.units op) ha hb hm).of fun σ H Q ⟨ρ, F, Z, q0, ρ', w, he, k⟩ => ?_
  simp only [evT] at he
  split at he
  · rename_i q1 s1 ρ1 he1
    cases he
    simp only [ev] at he1
    split at he1
    · rename_i x sx ρ1 ea
      split at he1
      · rename_i y sy ρ2 eb
        split at he1
        · rename_i c
          split at he1
          · rename_i q ed
            cases he1
            refine ⟨ρ, F, Z, x, sx, ρ1, w, ea, fun v H1 F1 Z1 s1 w1 r1 => ⟨ρ1, F1, Z1, y, sy, _, w1, eb, fun u H2 F2 Z2 s2 w2 r2 => ⟨x, y, _, (r1.over w1 s2 c).bor, r2.bor, ed, _, rfl, ?_⟩⟩⟩
            exact k H2 F2 Z2 (s1.seq s2 (fun _ => ml) (fun _ => mr)) w2
          · cases he1
        · cases he1
      · cases he1
    · cases he1
  · cases he
theorem se_andV {a b : IE} {x y : Expr} {r : List Expr} {p : Pos} (ha : PE X x (tE X.K C a)) (hb : PE X (.BoolOp .And (y :: r) p) (tE X.K C b)) : PE X (.BoolOp .And (x :: y :: r) p) (tE X.K C (.andV a b)) := by
  refine (pe_andT ha hb).of fun σ H Q ⟨ρ, F, Z, d, st, ρ', w, he, k⟩ => ?_
  simp only [ev] at he
  split at he
  · rename_i x' sx ρ1 ea
    split at he
    · rename_i ek
      refine ⟨ρ, F, Z, x', sx, ρ1, w, ea, fun v H1 F1 Z1 s1 w1 r1 => ⟨true, truD_V r1.bor ek, ?_⟩⟩
      rw [if_pos rfl]
      exact ⟨ρ1, F1, Z1, d, st, ρ', w1, he, fun u H2 F2 Z2 s2 w2 r2 => k u H2 F2 Z2 (s1.seq s2 (fun _ => ml) (fun _ => mr)) w2 (VR.back s1 r2)⟩
    · rename_i ek
      cases he
      refine ⟨ρ, F, Z, _, _, _, w, ea, fun v H1 F1 Z1 s1 w1 r1 => ⟨false, truD_V r1.bor ek, ?_⟩⟩
      rw [if_neg (by decide)]
      exact k v H1 F1 Z1 (s1.more fun _ => ml) w1 (r1.more fun _ => ml)
    · cases he
  · cases he
theorem se_orV {a b : IE} {x y : Expr} {r : List Expr} {p : Pos} (ha : PE X x (tE X.K C a)) (hb : PE X (.BoolOp .Or (y :: r) p) (tE X.K C b)) : PE X (.BoolOp .Or (x :: y :: r) p) (tE X.K C (.orV a b)) := by
  refine (pe_orT ha hb).of fun σ H Q ⟨ρ, F, Z, d, st, ρ', w, he, k⟩ => ?_
  simp only [ev] at he
  split at he
  · rename_i x' sx ρ1 ea
    split at he
    · rename_i ek
      cases he
      refine ⟨ρ, F, Z, _, _, _, w, ea, fun v H1 F1 Z1 s1 w1 r1 => ⟨true, truD_V r1.bor ek, ?_⟩⟩
      rw [if_pos rfl]
      exact k v H1 F1 Z1 (s1.more fun _ => ml) w1 (r1.more fun _ => ml)
    · rename_i ek
      refine ⟨ρ, F, Z, x', sx, ρ1, w, ea, fun v H1 F1 Z1 s1 w1 r1 => ⟨false, truD_V r1.bor ek, ?_⟩⟩
      rw [if_neg (by decide)]
      exact ⟨ρ1, F1, Z1, d, st, ρ', w1, he, fun u H2 F2 Z2 s2 w2 r2 => k u H2 F2 Z2 (s1.seq s2 (fun _ => ml) (fun _ => mr)) w2 (VR.back s1 r2)⟩
    · cases he
  · cases he
theorem se_oneV {op : BoolOp} {a : IE} {x : Expr} {p : Pos} (ha : PE X x (tE X.K C a)) : PE X (.BoolOp op [x] p) (tE X.K C (.oneV a)) :=
  (pe_one ha).of fun σ H Q ⟨ρ, F, Z, d, st, ρ', w, he, k⟩ => ⟨ρ, F, Z, d, st, ρ', w, by simpa only [ev] using he, k⟩
theorem se_notV {a : IE} {l : Expr} {p : Pos} (ha : PE X l (tE X.K C a)) : PE X (.UnaryOp .Not l p) (tE X.K C (.notV a)) := by
  refine (pe_notT ha).of fun σ H Q ⟨ρ, F, Z, d, st, ρ', w, he, k⟩ => ?_
  simp only [ev] at he
  split at he
  · rename_i x sx ρ1 ea
    split at he
    · rename_i q ek
      cases he
      exact ⟨ρ, F, Z, _, sx, _, w, ea, fun v H1 F1 Z1 s1 w1 r1 => ⟨q, truD_V r1.bor ek, k _ H1 F1 Z1 s1 w1 (fin_pure (b := true) (P := fun _ => True) rfl (.bl _))⟩⟩
    · cases he
  · cases he
theorem se_ite {t : IT} {a b : IE} {c x y : Expr} {p : Pos} (ht : PT X c (tTt X.K C t)) (ha : PE X x (tE X.K C a)) (hb : PE X y (tE X.K C b)) : PE X (.IfExp c x y p) (tE X.K C (.ite t a b)) := by
  refine (pe_ifExp ht ha hb).of fun σ H Q ⟨ρ, F, Z, d, st, ρ', w, he, k⟩ => ?_
  simp only [ev] at he
  split at he
  · rename_i q ρ1 et
    refine ⟨ρ, F, Z, q, ρ1, w, et, fun H1 F1 Z1 s1 w1 => ?_⟩
    cases q with
    | true =>
      rw [if_pos rfl] at he ⊢
      exact ⟨ρ1, F1, Z1, d, st, ρ', w1, he, fun u H2 F2 Z2 s2 w2 r2 => k u H2 F2 Z2 (s1.seq s2 (fun _ => ml) (fun _ h => mr (ml h))) w2 (VR.app s1 r2 (fun _ => ml) (fun _ h => mr (ml h)))⟩
    | false =>
      rw [if_neg (by decide)] at he ⊢
      exact ⟨ρ1, F1, Z1, d, st, ρ', w1, he, fun u H2 F2 Z2 s2 w2 r2 => k u H2 F2 Z2 (s1.seq s2 (fun _ => ml) (fun _ h => mr (mr h))) w2 (VR.app s1 r2 (fun _ => ml) (fun _ h => mr (mr h)))⟩
  · cases he
theorem se_ix {a b : IE} {l r : Expr} {p : Pos} (hs : PlainIx r) (ha : PE X l (tE X.K C a)) (hb : PE X r (tE X.K C b)) : PE X (.Subscript l r p) (tE X.K C (.ix a b)) := by
  refine (pe_ix ix_data ha hb hs).of fun σ H Q ⟨ρ, F, Z, d, st, ρ', w, he, k⟩ => ?_
  simp only [ev] at he
  split at he
  · rename_i x sx ρ1 ea
    split at he
    · rename_i y sy ρ2 eb
      split at he
      · rename_i c
        split at he
        · rename_i d' ed
          refine ⟨ρ, F, Z, x, sx, ρ1, w, ea, fun v H1 F1 Z1 s1 w1 r1 => ⟨ρ1, F1, Z1, y, sy, ρ2, w1, eb, fun u H2 F2 Z2 s2 w2 r2 => ?_⟩⟩
          have r1' := r1.over w1 s2 c
          refine ⟨x, y, d', r1'.bor, r2.bor, ed, fun z hz => ?_⟩
          have S2 := s1.seq s2 (E := effE (.ix a b)) (fun _ => ml) (fun _ => mr)
          by_cases hp : pur d' = true
          · rw [if_pos hp] at he
            cases he
            exact k z H2 F2 Z2 S2 w2 (fin_pure hp (hz _ _ r1'.bor))
          · rw [if_neg hp] at he
            obtain ⟨B, q, f⟩ := r1'
            cases sx with
            | fresh => cases he
            | froz =>
              cases he
              exact k z H2 F2 Z2 S2 w2 ⟨[], ⟨rfl, hz _ _ q.2⟩, Fl.nil⟩
            | scr =>
              cases he
              exact k z H2 F2 Z2 S2 w2 ⟨[], ⟨rfl, hz _ _ q.2⟩, Fl.nil⟩
            | loan i =>
              cases he
              exact k z H2 F2 Z2 S2 w2 ⟨[], ⟨rfl, hz _ _ q.2⟩, Fl.nil⟩
            | take i => cases he
        · cases he
      · cases he
    · cases he
  · cases he
theorem se_sl {a : IE} {lo hi : IO} {l : Expr} {lo' hi' : Option Expr} {p p2 : Pos} (ha : PE X l (tE X.K C a)) (hl : PO X lo' (tOs X.K C lo)) (hh : PO X hi' (tOs X.K C hi)) : PE X (.Subscript l (.Slice lo' hi' none p2) p) (tE X.K C (.sl a lo hi)) := by
  refine (pe_slice sl_data ha hl hh).of fun σ H Q ⟨ρ, F, Z, d, st, ρ', w, he, k⟩ => ?_
  simp only [ev] at he
  split at he
  · rename_i x sx ρ1 ea
    split at he
    · rename_i i ρ2 eb
      split at he
      · rename_i j ρ3 ec
        split at he
        · rename_i c
          split at he
          · rename_i d' ed
            cases he
            refine ⟨ρ, F, Z, x, sx, ρ1, w, ea, fun v H1 F1 Z1 s1 w1 r1 => ⟨ρ1, F1, Z1, i, ρ2, w1, eb, fun H2 F2 Z2 s2 w2 => ⟨ρ2, F2, Z2, j, _, w2, ec, fun H3 F3 Z3 s3 w3 => ⟨x, _, (r1.over w1 (s2.trans s3) c).bor, ed, fun z H4 nd => ?_⟩⟩⟩⟩
            obtain ⟨Z4, s4, w4, r4⟩ := fin_new (s1.seq (s2.trans s3) (E := effE (.sl a lo hi)) (fun _ => ml) (fun _ => mr)) w3 nd
            exact k z H4 F3 Z4 s4 w4 r4
          · cases he
        · cases he
      · cases he
    · cases he
  · cases he
/-! ### argument lists -/
theorem sa_nil : PA X [] (tAs X.K C .nil) := pa_nil.of fun σ H Q ⟨ρ, F, Z, ds, ρ', w, he, k⟩ => by
  simp only [evs] at he
  cases he
  exact k [] H F Z .refl w ⟨[], .nil, Fl.nil⟩
theorem star_of {e : Expr} {es : List Expr} {env : Env} (h : notStar e = true) : starEach (e :: es) env = (false, eval e env) :: starEach es env := by
  cases e <;> first | rfl | cases h
theorem sa_cons {e : IE} {es : IEs} {x : Expr} {xs : List Expr} (hs : notStar x = true) (ha : PE X x (tE X.K C e)) (hb : PA X xs (tAs X.K C es)) : PA X (x :: xs) (tAs X.K C (.cons e es)) := by
  refine (pa_cons ha hb (star_of hs)).of fun σ H Q ⟨ρ, F, Z, ds, ρ', w, he, k⟩ => ?_
  simp only [evs] at he
  split at he
  · rename_i d s ρ1 ea
    split at he
    · rename_i ds' ρ2 eb
      split at he
      · rename_i c
        cases he
        exact ⟨ρ, F, Z, d, s, ρ1, w, ea, fun v H1 F1 Z1 s1 w1 r1 => ⟨ρ1, F1, Z1, ds', _, w1, eb, fun vs H2 F2 Z2 s2 w2 r2 => k (v :: vs) H2 F2 Z2 (s1.seq s2 (fun _ => ml) (fun _ => mr)) w2 (VL.cons r1 w1 s1 s2 c r2)⟩⟩
      · cases he
    · cases he
  · cases he
theorem so_none : PO X none (tOs X.K C .none) := by
  refine ⟨fun pins s σ H Q I h => (po_none (X := X)).run pins s σ H Q I ?_⟩
  obtain ⟨ρ, F, Z, i, ρ', w, he, k⟩ := h
  simp only [evO] at he
  cases he
  exact k H F Z .refl w
theorem so_some {e : IE} {x : Expr} (ha : PE X x (tE X.K C e)) : PO X (some x) (tOs X.K C (.some e)) := by
  refine ⟨fun pins s σ H Q I h => (po_some ha).run pins s σ H Q I ?_⟩
  obtain ⟨ρ, F, Z, i, ρ', w, he, k⟩ := h
  simp only [evO] at he
  split at he
  · rename_i j s' ρ1 ea
    cases he
    exact ⟨ρ, F, Z, _, s', _, w, ea, fun v H1 F1 Z1 s1 w1 r1 => ⟨j, r1.bor.int', k H1 F1 Z1 s1 w1⟩⟩
  · cases he
/-! ### calls of built-ins -/
theorem pl_of : ∀ {es : List Expr} {env : Env} {pos : Pos}, es.all notStar = true → (backTo pos (starEach es env)).any (·.1) = false
  | [], _, _, _ => by
    first | rfl | simp [backTo, starEach]
  | e :: es, env, pos, h => by
    simp only [List.all_cons, Bool.and_eq_true] at h
    rw [star_of h.1]
    have ih := @pl_of es env pos h.2
    first | exact ih | simpa [backTo] using ih
theorem se_bi (ok : Ok X G S C) {b : Bi} {es : IEs} {f : Str} {x : Expr} {xs : List Expr} {p pos : Pos} (hf : f = bn b) (hb : bltB G S f = true) (ht : (x :: xs).all notStar = true) (ha : PA X (x :: xs) (tAs X.K C es)) :
    PE X (.Call (.Name f p) (x :: xs) [] pos) (tE X.K C (.bcall b es)) := by
  unfold bltB gloB at hb
  simp only [Bool.and_eq_true] at hb
  obtain ⟨⟨h1, h2⟩, h3⟩ := hb
  obtain ⟨n1, n2, n3⟩ := nodun_ok h2
  have hg : Gl X f := glB_ok ok h1
  have hm : X.mg f = none := ok.blt f (by simpa using h3)
  have hx : notStar x = true ∧ xs.all notStar = true := by simpa using ht
  have base : PE X (.Call (.Name f p) (x :: xs) [] pos) (tCB (rBi X.K b) (tAs X.K C es)) := by
    subst hf
    have hc := call_bi ok.calm ok.guards ok.units b
    have hv := bn_boot b
    cases b <;> first
      | exact pe_callB hc hg hm hv ha n3 n1 (star_of hx.1) (pl_of hx.2)
      | exact pe_callTy hc hg hm hv ha n3 n1 (star_of hx.1) (pl_of hx.2)
  refine base.of fun σ H Q ⟨ρ, F, Z, d, st, ρ', w, he, k⟩ => ?_
  simp only [ev] at he
  split at he
  · rename_i ds ρ1 ea
    split at he
    · rename_i d' ed
      cases he
      refine ⟨ρ, F, Z, ds, _, w, ea, fun vs H1 F1 Z1 s1 w1 r1 => ⟨_, _, r1.bor, ed, fun z H2 nd => ?_⟩⟩
      obtain ⟨Z2, s2, w2, r2⟩ := fin_new s1 w1 nd
      exact k z H2 F1 Z2 s2 w2 r2
    · cases he
  · cases he
end
end Zr

set_option maxRecDepth 100000
set_option maxHeartbeats 8000000
/-! ZrH: values taken; displays; calls of defs. -/
namespace Zr
open PySem PySem.Spec PyProof.Rows L2
section
variable {K : Fr'} {H H' H1 H2 H3 : Hp} {ρ ρ' ρ1 ρ2 : List Slot} {σ σ' : L2.St} {F F' F1 F2 : Fa} {Z Z' Z1 Z2 : Addr → Prop} {E E1 E2 : List Nat}

/-- owned addresses that lie in no slot -/
structure Off (F : Fa) (Z : Addr → Prop) (B : List Addr) : Prop where
  nodup : B.Nodup
  zed : ∀ a ∈ B, Z a
  off : ∀ a ∈ B, ∀ j, a ∉ F j
theorem Fl.toOff {B : List Addr} (f : Fl E H F F' Z' B) : Off F' Z' B := ⟨f.nodup, f.zed, f.off⟩
theorem Off.fl {B : List Addr} (o : Off F' Z' B) (n : ∀ a ∈ B, (∃ i ∈ E, a ∈ F i) ∨ H a = none) : Fl E H F F' Z' B := ⟨o.nodup, o.zed, o.off, n⟩
def tkS : Stat → List Nat
  | .take i => [i]
  | _ => []
def tkL : Ds → List Nat
  | [] => []
  | (_, s) :: r => tkS s ++ tkL r
theorem get_set_self {α : Type} {l : List α} {i : Nat} {x y : α} (h : l[i]? = some y) : (l.set i x)[i]? = some x := by
  rw [List.getElem?_set_self (List.getElem?_eq_some_iff.mp h).1]
theorem get_set_ne {α : Type} {l : List α} {i j : Nat} {x : α} (h : j ≠ i) : (l.set i x)[j]? = l[j]? := by
  rw [List.getElem?_set_ne (Ne.symm h)]

/-- a slot is emptied -/
theorem W.empty {i : Nat} {d : D} (w : W K H ρ σ F Z) (e : ρ[i]? = some (.own d)) : W K H (ρ.set i .emp) σ (fset F i []) Z ∧ Step [i] H ρ F Z H (ρ.set i .emp) (fset F i []) Z ∧ Off (fset F i []) Z (F i) := by
  have sub : ∀ j a, a ∈ fset F i [] j → a ∈ F j ∧ j ≠ i := fun j a m => by
    by_cases hj : j = i
    · subst hj
      rw [fset_same] at m
      cases m
    · rw [fset_ne hj] at m
      exact ⟨m, hj⟩
  refine ⟨⟨by rw [List.length_set]; exact w.len, fun j hj => ?_, fun j s q => ?_, fun j => ?_, fun j k a n m q => ?_, fun j a m => w.zed j a (sub j a m).1⟩,
    ⟨fun _ _ q _ => q, fun _ q => q, fun j hj => ?_, fun j a m => .inl (sub j a m).1, fun _ z => .inl z, fun _ z _ => .inl z⟩, w.nodup i, w.zed i, fun a m j q => ?_⟩
  · by_cases h : j = i
    · rw [h, fset_same]
    · rw [fset_ne h]
      exact w.out j (by rwa [List.length_set] at hj)
  · by_cases h : j = i
    · subst h
      rw [get_set_self e] at q
      cases q
      exact fset_same
    · rw [get_set_ne h] at q
      exact (w.slot j s q).keep (fset_ne h) (fun _ _ e _ => e) fun _ z _ => z
  · by_cases h : j = i
    · rw [h, fset_same]
      exact List.nodup_nil
    · rw [fset_ne h]
      exact w.nodup j
  · exact w.disj j k a n (sub j a m).1 (sub k a q).1
  · have h : j ≠ i := fun q => hj (by simp [q])
    exact ⟨get_set_ne h, fset_ne h⟩
  · obtain ⟨q, n⟩ := sub j a q
    exact w.disj i j a (Ne.symm n) m q

/-- a value as it stands while others are taken -/
def VC (K : Fr') (H : Hp) (ρ : List Slot) (σ : L2.St) (F : Fa) (v : V) (d : D) (B : List Addr) : Stat → Prop
  | .fresh => Own K H v d B
  | .take i => B = [] ∧ ∀ d', ρ[i]? = some (.own d') → d' = d ∧ σ[i]? = some (some v) ∧ Own K H v d (F i)
  | _ => B = [] ∧ (pur d = true → Own K H v d [])
theorem VB.vc {v : V} {d : D} {st : Stat} {B : List Addr} (h : VB K H ρ σ F Z v d B st) : VC K H ρ σ F v d B st := by
  cases st with
  | fresh => exact h
  | froz => exact ⟨h.1, fun p => h.2.own p⟩
  | scr => exact ⟨h.1, fun p => h.2.own p⟩
  | loan i => exact ⟨h.1, fun p => h.2.own p⟩
  | take i =>
    refine ⟨h.1, fun d' e => ?_⟩
    rw [h.2.1] at e
    cases e
    exact ⟨rfl, h.2.2.1, h.2.2.2⟩
inductive VCs (K : Fr') (H : Hp) (ρ : List Slot) (σ : L2.St) (F : Fa) : List V → Ds → List Addr → Prop
  | nil : VCs K H ρ σ F [] [] []
  | cons {v : V} {vs : List V} {d : D} {st : Stat} {ds : Ds} {B C : List Addr} : VC K H ρ σ F v d B st → VCs K H ρ σ F vs ds C → VCs K H ρ σ F (v :: vs) ((d, st) :: ds) (B ++ C)
theorem VLB.vc : ∀ {vs : List V} {ds : Ds} {B : List Addr}, VLB K H ρ σ F Z vs ds B → VCs K H ρ σ F vs ds B
  | _, _, _, .nil => .nil
  | _, _, _, .cons h t => .cons h.vc t.vc
theorem VC.emptied {i : Nat} {v : V} {d c : D} {st : Stat} {B : List Addr} (e : ρ[i]? = some (.own c)) (h : VC K H ρ σ F v d B st) : VC K H (ρ.set i .emp) σ (fset F i []) v d B st := by
  cases st with
  | take j =>
    refine ⟨h.1, fun d' q => ?_⟩
    by_cases hj : j = i
    · subst hj
      rw [get_set_self e] at q
      cases q
    · rw [get_set_ne hj] at q
      rw [fset_ne hj]
      exact h.2 d' q
  | fresh => exact h
  | froz => exact h
  | scr => exact h
  | loan i => exact h
theorem VCs.emptied {i : Nat} {c : D} (e : ρ[i]? = some (.own c)) : ∀ {vs : List V} {ds : Ds} {B : List Addr}, VCs K H ρ σ F vs ds B → VCs K H (ρ.set i .emp) σ (fset F i []) vs ds B
  | _, _, _, .nil => .nil
  | _, _, _, .cons h t => .cons (h.emptied e) (t.emptied e)
theorem Off.emptied {i : Nat} {B : List Addr} (o : Off F Z B) : Off (fset F i []) Z B := ⟨o.nodup, o.zed, fun a m j q => by
  by_cases hj : j = i
  · rw [hj, fset_same] at q
    cases q
  · rw [fset_ne hj] at q
    exact o.off a m j q⟩
/-- one value is taken -/
theorem settle_ok {v : V} {d : D} {st : Stat} {B : List Addr} (w : W K H ρ σ F Z) (h : VC K H ρ σ F v d B st) (o : Off F Z B) (e : settle d st ρ = some ρ1) :
    ∃ F1 B1, W K H ρ1 σ F1 Z ∧ Step (tkS st) H ρ F Z H ρ1 F1 Z ∧ Own K H v d B1 ∧ Off F1 Z B1 ∧ (∀ a ∈ B1, a ∈ B ∨ ∃ i ∈ tkS st, a ∈ F i) ∧ (∀ i ∈ tkS st, ∃ c, ρ[i]? = some (.own c) ∧ ρ1 = ρ.set i .emp ∧ F1 = fset F i []) ∧ (tkS st = [] → ρ1 = ρ ∧ F1 = F) := by
  unfold settle at e
  cases st with
  | fresh =>
    cases e
    exact ⟨F, B, w, .refl, h, o, fun a m => .inl m, fun i m => (nomatch m), fun _ => ⟨rfl, rfl⟩⟩
  | take i =>
    simp only at e
    split at e
    · rename_i c q
      cases e
      obtain ⟨w1, s1, o1⟩ := w.empty q
      obtain ⟨e1, e2, e3⟩ := h.2 c q
      exact ⟨_, F i, w1, s1, e3, o1, fun a m => .inr ⟨i, by simp [tkS], m⟩, fun j m => ⟨c, by simp [tkS] at m; rw [m]; exact ⟨q, rfl, rfl⟩⟩, fun z => by simp [tkS] at z⟩
    · cases e
  | froz =>
    obtain ⟨p, e⟩ := ifs e
    subst e
    exact ⟨F, [], w, .refl, h.2 p, ⟨List.nodup_nil, fun _ m => (nomatch m), fun _ m => (nomatch m)⟩, fun a m => (nomatch m), fun i m => (nomatch m), fun _ => ⟨rfl, rfl⟩⟩
  | scr =>
    obtain ⟨p, e⟩ := ifs e
    subst e
    exact ⟨F, [], w, .refl, h.2 p, ⟨List.nodup_nil, fun _ m => (nomatch m), fun _ m => (nomatch m)⟩, fun a m => (nomatch m), fun i m => (nomatch m), fun _ => ⟨rfl, rfl⟩⟩
  | loan i =>
    obtain ⟨p, e⟩ := ifs e
    subst e
    exact ⟨F, [], w, .refl, h.2 p, ⟨List.nodup_nil, fun _ m => (nomatch m), fun _ m => (nomatch m)⟩, fun a m => (nomatch m), fun i m => (nomatch m), fun _ => ⟨rfl, rfl⟩⟩
theorem VCs.settled {st : Stat} (hd : ∀ i ∈ tkS st, ∃ c, ρ[i]? = some (.own c) ∧ ρ1 = ρ.set i .emp ∧ F1 = fset F i []) (h0 : tkS st = [] → ρ1 = ρ ∧ F1 = F) {vs : List V} {ds : Ds} {B : List Addr} (h : VCs K H ρ σ F vs ds B) : VCs K H ρ1 σ F1 vs ds B := by
  cases st with
  | take i =>
    obtain ⟨c, q, e1, e2⟩ := hd i (by simp [tkS])
    rw [e1, e2]
    exact h.emptied q
  | fresh =>
    obtain ⟨e1, e2⟩ := h0 rfl
    rw [e1, e2]
    exact h
  | froz =>
    obtain ⟨e1, e2⟩ := h0 rfl
    rw [e1, e2]
    exact h
  | scr =>
    obtain ⟨e1, e2⟩ := h0 rfl
    rw [e1, e2]
    exact h
  | loan i =>
    obtain ⟨e1, e2⟩ := h0 rfl
    rw [e1, e2]
    exact h
theorem Off.settled {st : Stat} (hd : ∀ i ∈ tkS st, ∃ c, ρ[i]? = some (.own c) ∧ ρ1 = ρ.set i .emp ∧ F1 = fset F i []) (h0 : tkS st = [] → ρ1 = ρ ∧ F1 = F) {B : List Addr} (h : Off F Z B) : Off F1 Z B := by
  cases st with
  | take i =>
    obtain ⟨c, q, e1, e2⟩ := hd i (by simp [tkS])
    rw [e2]
    exact h.emptied
  | fresh => rw [(h0 rfl).2]; exact h
  | froz => rw [(h0 rfl).2]; exact h
  | scr => rw [(h0 rfl).2]; exact h
  | loan i => rw [(h0 rfl).2]; exact h
theorem Off.left {A B : List Addr} (o : Off F Z (A ++ B)) : Off F Z A := ⟨(List.nodup_append.mp o.nodup).1, fun a m => o.zed a (ml m), fun a m => o.off a (ml m)⟩
theorem Off.right {A B : List Addr} (o : Off F Z (A ++ B)) : Off F Z B := ⟨(List.nodup_append.mp o.nodup).2.1, fun a m => o.zed a (mr m), fun a m => o.off a (mr m)⟩
/-- all are taken -/
theorem settles_ok : ∀ {ds : Ds} {vs : List V} {B : List Addr} {ρ : List Slot} {F : Fa} {xs : List D} {ρ1 : List Slot}, W K H ρ σ F Z → VCs K H ρ σ F vs ds B → Off F Z B → settles ds ρ = some (xs, ρ1) →
    ∃ F1 B1, W K H ρ1 σ F1 Z ∧ Step (tkL ds) H ρ F Z H ρ1 F1 Z ∧ OwnL K H vs xs B1 ∧ Off F1 Z B1 ∧ (∀ a ∈ B1, a ∈ B ∨ ∃ i ∈ tkL ds, a ∈ F i) ∧ xs = ds.map (·.1)
  | [], _, _, _, F, _, _, w, .nil, o, e => by
    simp only [settles] at e
    cases e
    exact ⟨F, [], w, .refl, .nil, o, fun a m => (nomatch m), rfl⟩
  | (d, st) :: ds, _, _, ρ, F, xs, ρ1, w, .cons (B := B) (C := B') h t, o, e => by
    simp only [settles] at e
    split at e
    · rename_i ρ2 e1
      split at e
      · rename_i ys ρ3 e2
        cases e
        obtain ⟨F1, B1, w1, s1, ho, o1, n1, hd, h0⟩ := settle_ok w h o.left e1
        obtain ⟨F2, B2, w2, s2, ho2, o2, n2, ex⟩ := settles_ok w1 (t.settled hd h0) (o.right.settled hd h0) e2
        have keepB1 : ∀ a ∈ B1, ∀ j, a ∉ F2 j := fun a m j q => by
          rcases s2.own j a q with q | ⟨i, _, q⟩ | q
          · exact o1.off a m j q
          · exact o1.off a m i q
          · exact lst_tr (ho.tr a m) q
        refine ⟨F2, B1 ++ B2, w2, s1.seq s2 (fun _ => ml) (fun _ => mr), .cons ho ho2, ⟨List.nodup_append.mpr ⟨o1.nodup, o2.nodup, fun a m b q z => ?_⟩, fun a m => (List.mem_append.mp m).elim (o1.zed a) (o2.zed a), fun a m => (List.mem_append.mp m).elim (keepB1 a) (o2.off a)⟩, fun a m => ?_, by rw [ex]; rfl⟩
        · subst z
          rcases n2 a q with q | ⟨i, _, q⟩
          · rcases n1 a m with m' | ⟨i, hi, m'⟩
            · exact (List.nodup_append.mp o.nodup).2.2 a m' a q rfl
            · exact o.off a (mr q) i m'
          · exact o1.off a m i q
        · rcases List.mem_append.mp m with m | m
          · exact (n1 a m).imp ml fun ⟨i, hi, q⟩ => ⟨i, ml hi, q⟩
          · rcases n2 a m with m | ⟨i, hi, q⟩
            · exact .inl (mr m)
            · rcases s1.own i a q with q | ⟨k, hk, q⟩ | q
              · exact .inr ⟨i, mr hi, q⟩
              · exact .inr ⟨k, ml hk, q⟩
              · exact absurd q (lst_tr (w1.tr (by assumption)))
      · cases e
    · cases e

/-- a new object is laid -/
theorem W.grow {p : Addr} {o : HO} (w : W K H ρ σ F Z) (n : H p = none) : W K (upd H p o) ρ σ F Z ∧ Step [] H ρ F Z (upd H p o) ρ F Z := by
  have k := upd_kept (o := o) n
  refine ⟨⟨w.len, w.out, fun i s e => (w.slot i s e).keep rfl (fun a o e _ => k a o e) fun _ z _ => z, w.nodup, w.disj, w.zed⟩, fun a o e _ => k a o e, fun a q => ?_, fun _ _ => ⟨rfl, rfl⟩, fun _ _ m => .inl m, fun _ z => .inl z, fun _ z _ => .inl z⟩
  cases e : H a with
  | none => exact absurd e q
  | some u =>
    rw [k a u e]
    exact fun z => nomatch z
theorem W.wide {P : Addr → Prop} (w : W K H ρ σ F Z) (n : ∀ a, P a → H a = none) : W K H ρ σ F (fun a => Z a ∨ P a) ∧ Step [] H ρ F Z H ρ F (fun a => Z a ∨ P a) :=
  ⟨⟨w.len, w.out, fun i s e => (w.slot i s e).keep rfl (fun _ _ e _ => e) fun a z t q => q.elim z fun y => t (n a y), w.nodup, w.disj, fun i a m => .inl (w.zed i a m)⟩,
    fun _ _ e _ => e, fun _ q => q, fun _ _ => ⟨rfl, rfl⟩, fun _ _ m => .inl m, fun a z => z.imp id (n a), fun _ z _ => .inl (.inl z)⟩
theorem OwnL.up {p : Addr} {o : HO} {vs : List V} {ds : List D} {B : List Addr} (n : H p = none) (h : OwnL K H vs ds B) : OwnL K (upd H p o) vs ds B := h.keep fun a u e _ => upd_kept n a u e
/-- a new tuple, a new list of owned parts -/
theorem W.tup {p : Addr} {vs : List V} {xs : List D} {B : List Addr} (w : W K H ρ σ F Z) (n : H p = none) (h : OwnL K H vs xs B) (o : Off F Z B) :
    ∃ Z', W K (upd H p (.tup vs)) ρ σ F Z' ∧ Step [] H ρ F Z (upd H p (.tup vs)) ρ F Z' ∧ Own K (upd H p (.tup vs)) (.ref p) (.tuple xs) B ∧ Off F Z' B :=
  let ⟨w1, s1⟩ := w.grow (o := .tup vs) n
  ⟨Z, w1, s1, .tup (.inl (.inl upd_same)) (h.up n), o⟩
theorem W.lst {p : Addr} {vs : List V} {xs : List D} {B : List Addr} (w : W K H ρ σ F Z) (n : H p = none) (h : OwnL K H vs xs B) (o : Off F Z B) :
    ∃ Z', W K (upd H p (.lst vs)) ρ σ F Z' ∧ Step [] H ρ F Z (upd H p (.lst vs)) ρ F Z' ∧ Own K (upd H p (.lst vs)) (.ref p) (.list xs) (p :: B) ∧ Off F Z' (p :: B) := by
  obtain ⟨w0, s0⟩ := w.wide (P := fun a => a = p) fun a e => by rw [e]; exact n
  obtain ⟨w1, s1⟩ := w0.grow (o := .lst vs) n
  refine ⟨_, w1, s0.seq s1 (fun _ h => h) (fun _ h => h), .lst upd_same (h.up n), ⟨List.nodup_cons.mpr ⟨fun m => lst_tr (h.tr p m) n, o.nodup⟩, fun a m => ?_, fun a m j q => ?_⟩⟩
  · rcases List.mem_cons.mp m with e | m
    · exact .inr e
    · exact .inl (o.zed a m)
  · rcases List.mem_cons.mp m with e | m
    · subst e
      exact lst_tr (w.tr q) n
    · exact o.off a m j q
end
end Zr

set_option maxRecDepth 100000
set_option maxHeartbeats 8000000
/-! ZrI: displays, calls of defs, isinstance, module names. -/
namespace Zr
open PySem PySem.Spec PyProof.Rows L2

/-! ### which slots a value may be taken from -/
theorem gv_tk {ρ : Ro} {i : Nat} {d : D} {s : Stat} (h : gv ρ i = some (d, s)) : tkS s = [] := by
  unfold gv at h
  split at h <;> first | (cases h; rfl) | cases h
theorem ix_tk {d : D} {sx st : Stat} {ρ ρ' : Ro} {d' : D} (h : (if pur d then some (d, Stat.fresh, ρ) else (match sx with
          | .fresh => none
          | .take _ => none
          | s => some (d, s, ρ)) : R) = some (d', st, ρ')) : tkS st = [] := by
  split at h
  · cases h
    rfl
  · split at h
    · cases h
    · cases h
    · cases h
      rename_i n1 n2
      cases sx with
      | take i => exact absurd rfl (n2 i)
      | _ => rfl
theorem tk_of (C : CallF) : ∀ (e : IE) {ρ ρ' : Ro} {d : D} {st : Stat}, ev C e ρ = some (d, st, ρ') → ∀ i ∈ tkS st, i ∈ tkE e
  | .var j, ρ, ρ', d, st, h, i, hi => by
    simp only [ev] at h
    split at h
    · rename_i q
      cases h
      rw [gv_tk q] at hi
      cases hi
    · cases h
  | .mov j, ρ, ρ', d, st, h, i, hi => by
    simp only [ev] at h
    split at h
    all_goals first
      | (cases h; cases hi; done)
      | (cases h; exact hi)
      | cases h
  | .fz j e, ρ, ρ', d, st, h, i, hi => by
    simp only [ev] at h
    split at h
    · split at h
      · split at h
        · cases h
          cases hi
        · cases h
      · cases h
    · exact tk_of C e h i hi
  | .andV a b, ρ, ρ', d, st, h, i, hi => by
    simp only [ev] at h
    split at h
    · rename_i ea
      split at h
      · exact mr (tk_of C b h i hi)
      · cases h
        exact ml (tk_of C a ea i hi)
      · cases h
    · cases h
  | .orV a b, ρ, ρ', d, st, h, i, hi => by
    simp only [ev] at h
    split at h
    · rename_i ea
      split at h
      · cases h
        exact ml (tk_of C a ea i hi)
      · exact mr (tk_of C b h i hi)
      · cases h
    · cases h
  | .oneV a, ρ, ρ', d, st, h, i, hi => by
    simp only [ev] at h
    exact tk_of C a h i hi
  | .ite t a b, ρ, ρ', d, st, h, i, hi => by
    simp only [ev] at h
    split at h
    · split at h
      · exact ml (tk_of C a h i hi)
      · exact mr (tk_of C b h i hi)
    · cases h
  | .ix a b, ρ, ρ', d, st, h, i, hi => by
    simp only [ev] at h
    split at h
    · split at h
      · split at h
        · split at h
          · rw [ix_tk h] at hi
            cases hi
          · cases h
        · cases h
      · cases h
    · cases h
  | .int _, _, _, _, _, h, i, hi | .str _, _, _, _, _, h, i, hi | .bl _, _, _, _, _, h, i, hi | .non, _, _, _, _, h, i, hi | .glob _ _, _, _, _, _, h, i, hi | .bin _ _ _, _, _, _, _, h, i, hi
  | .neg _, _, _, _, _, h, i, hi | .cmp _ _ _, _, _, _, _, h, i, hi | .chain _ _ _ _ _, _, _, _, _, h, i, hi | .notV _, _, _, _, _, h, i, hi | .tup _, _, _, _, _, h, i, hi | .lst _, _, _, _, _, h, i, hi
  | .sl _ _ _, _, _, _, _, h, i, hi | .isi _ _, _, _, _, _, h, i, hi | .bcall _ _, _, _, _, _, h, i, hi | .fcall _ _, _, _, _, _, h, i, hi | .fscr _ _, _, _, _, _, h, i, hi | .fref _ _ _, _, _, _, _, h, i, hi
  | .meth _ _ _, _, _, _, _, h, i, hi | .mut _ _ _, _, _, _, _, h, i, hi | .lc _ _ _ _ _, _, _, _, _, h, i, hi | .lc2 _ _ _ _ _ _ _ _, _, _, _, _, h, i, hi => by
    simp only [ev] at h
    (repeat' split at h) <;> first
      | (cases h; cases hi; done)
      | cases h
theorem tks_of (C : CallF) : ∀ (es : IEs) {ρ ρ' : Ro} {ds : Ds}, evs C es ρ = some (ds, ρ') → ∀ i ∈ tkL ds, i ∈ tks es
  | .nil, _, _, _, h, i, hi => by
    simp only [evs] at h
    cases h
    cases hi
  | .cons e es, ρ, ρ', ds, h, i, hi => by
    simp only [evs] at h
    split at h
    · rename_i e1
      split at h
      · rename_i e2
        split at h
        · cases h
          rcases List.mem_append.mp hi with hi | hi
          · exact ml (tk_of C e e1 i hi)
          · exact mr (tks_of C es e2 i hi)
        · cases h
      · cases h
    · cases h
section
variable {X : Cx} {G : Gx} {S : Sx} {C : CallF}
/-- taken behind the step that made them -/
theorem take_all {K : Fr'} {H H1 : Hp} {ρ ρ1 ρ2 : List Slot} {σ : L2.St} {F F1 : Fa} {Z Z1 : Addr → Prop} {es : IEs} {ds : Ds} {vs : List V} {xs : List D} {E : List Nat} (he : evs C es ρ = some (ds, ρ1)) (s : Step (effs es) H ρ F Z H1 ρ1 F1 Z1) (w : W K H1 ρ1 σ F1 Z1)
    (h : VL (effs es) K H F H1 ρ1 σ F1 Z1 vs ds) (e : settles ds ρ1 = some (xs, ρ2)) (h1 : ∀ j ∈ effs es, j ∈ E) (h2 : ∀ j ∈ tks es, j ∈ E) :
    ∃ F2 B, W K H1 ρ2 σ F2 Z1 ∧ Step E H ρ F Z H1 ρ2 F2 Z1 ∧ OwnL K H1 vs xs B ∧ Fl E H F F2 Z1 B ∧ xs = ds.map (·.1) := by
  obtain ⟨B, hb, fb⟩ := h
  obtain ⟨F2, B2, w2, s2, ho, o2, n2, ex⟩ := settles_ok w hb.vc fb.toOff e
  have S2 : Step E H ρ F Z H1 ρ2 F2 Z1 := s.seq s2 h1 fun j hj => h2 j (tks_of C es he j hj)
  refine ⟨F2, B2, w2, S2, ho, o2.fl fun a m => ?_, ex⟩
  rcases n2 a m with m | ⟨i, hi, m⟩
  · exact (fb.new a m).imp (fun ⟨i, hi, q⟩ => ⟨i, h1 i hi, q⟩) id
  · rcases s.own i a m with m | ⟨k, hk, m⟩ | n
    · exact .inl ⟨i, h2 i (tks_of C es he i hi), m⟩
    · exact .inl ⟨k, h1 k hk, m⟩
    · exact .inr n
theorem se_tup {es : IEs} {xs : List Expr} {k : Nat} {p : Pos} (ha : PA X xs (tAs X.K C es)) : PE X (.Tuple xs k p) (tE X.K C (.tup es)) := by
  refine (pe_tup ha).of fun σ H Q ⟨ρ, F, Z, d, st, ρ', w, he, k⟩ => ?_
  simp only [ev] at he
  split at he
  · rename_i ds ρ1 ea
    split at he
    · rename_i ys ρ2 es'
      obtain ⟨c, he⟩ := ifs he
      cases he
      refine ⟨ρ, F, Z, ds, ρ1, w, ea, fun vs H1 F1 Z1 s1 w1 r1 => ?_⟩
      obtain ⟨F2, B, w2, s2, ho, fl, ex⟩ := take_all (E := effE (.tup es)) ea s1 w1 r1 es' (fun _ => ml) (fun _ => mr)
      refine ⟨lim_line (by rw [ho.length]; exact c), fun q n => ?_⟩
      obtain ⟨Z3, w3, s3, o3, f3⟩ := w2.tup n ho fl.toOff
      exact k _ _ F2 Z3 (s2.seq s3 (fun _ h => h) (fun _ h => nomatch h)) w3 ⟨B, o3, f3.fl fl.new⟩
    · cases he
  · cases he
theorem se_lst {es : IEs} {xs : List Expr} {p : Pos} (ha : PA X xs (tAs X.K C es)) : PE X (.List xs p) (tE X.K C (.lst es)) := by
  refine (pe_lst ha).of fun σ H Q ⟨ρ, F, Z, d, st, ρ', w, he, k⟩ => ?_
  simp only [ev] at he
  split at he
  · rename_i ds ρ1 ea
    split at he
    · rename_i ys ρ2 es'
      obtain ⟨c, he⟩ := ifs he
      cases he
      refine ⟨ρ, F, Z, ds, ρ1, w, ea, fun vs H1 F1 Z1 s1 w1 r1 => ?_⟩
      obtain ⟨F2, B, w2, s2, ho, fl, ex⟩ := take_all (E := effE (.lst es)) ea s1 w1 r1 es' (fun _ => ml) (fun _ => mr)
      refine ⟨lim_line (by rw [ho.length]; exact c), fun q n => ?_⟩
      obtain ⟨Z3, w3, s3, o3, f3⟩ := w2.lst n ho fl.toOff
      refine k _ _ F2 Z3 (s2.seq s3 (fun _ h => h) (fun _ h => nomatch h)) w3 ⟨q :: B, o3, f3.fl fun a m => ?_⟩
      rcases List.mem_cons.mp m with e | m
      · rw [e]
        exact .inr (s2.gone n)
      · exact fl.new a m
    · cases he
  · cases he
/-! ### module names -/
theorem se_glob (ok : Ok X G S C) {x y : Str} {d : D} {p : Pos} (e : x = y) (h : gloB S y = true) (hc : (G.cons.any fun q => decide (q.1 = x) && deq q.2 d) = true) : PE X (.Name y p) (tE X.K C (.glob x d)) := by
  subst e
  unfold gloB at h
  simp only [Bool.and_eq_true] at h
  obtain ⟨n1, n2, n3⟩ := nodun_ok h.2
  rw [List.any_eq_true] at hc
  obtain ⟨⟨z, c⟩, hm, hq⟩ := hc
  simp only [Bool.and_eq_true, decide_eq_true_eq] at hq
  have e2 := deq_eq hq.2
  obtain ⟨e1, _⟩ := hq
  subst e1
  subst e2
  obtain ⟨u, v, h1, h2, h3⟩ := ok.con _ hm
  refine (pe_glob (v := v) (glB_ok ok h.1) h1 h2 n1).of fun σ H Q ⟨ρ, F, Z, d', st, ρ', w, he, k⟩ => ?_
  simp only [ev] at he
  obtain ⟨c, he⟩ := ifs he
  cases he
  exact k v H F Z .refl w (fin_pure c (h3 H))
/-! ### calls of defs -/
theorem VLB.borX : ∀ {K : Fr'} {H : Hp} {ρ : List Slot} {σ : L2.St} {F : Fa} {Z : Addr → Prop} {vs : List V} {ds : Ds} {B : List Addr}, VLB K H ρ σ F Z vs ds B → ds.all (fun p => noScr p.2) = true → BorL K H false (fun _ => True) vs (ds.map (·.1))
  | _, _, _, _, _, _, _, _, _, .nil, _ => .nil
  | _, _, _, _, _, _, _, _, _, .cons h t, n => by
    simp only [List.all_cons, Bool.and_eq_true] at n
    exact .cons (h.borX n.1) (t.borX n.2)
theorem Post.new {K : Fr'} {H : Hp} {d : D} {Q : VK} (h : ∀ v H', NewD K H H' v d → Q v H') : Post K H [] d Q := fun v H' B k t o n w => h v H' ⟨fun a u e => k a u e fun _ m => (nomatch m), B, o, n, fun a m => (w a m).elim (fun z => nomatch z) id⟩
theorem chks_star : ∀ {es : IEs} {xs : List Expr}, chks G S es xs = true → xs.all notStar = true
  | .nil, [], _ => rfl
  | .cons e es, x :: xs, h => by
    simp only [chks, Bool.and_eq_true] at h
    simp only [List.all_cons, Bool.and_eq_true]
    exact ⟨h.1.1, chks_star h.2⟩
theorem se_fcall (ok : Ok X G S C) {f : Nat} {es : IEs} {n : Str} {xs : List Expr} {p pos : Pos} (hf : G.fns[f]? = some (n, xs.length, .plain)) (hg : gloB S n = true) (hs : xs.all notStar = true) (hx : xs ≠ []) (ha : PA X xs (tAs X.K C es)) :
    PE X (.Call (.Name n p) xs [] pos) (tE X.K C (.fcall f es)) := by
  unfold gloB at hg
  simp only [Bool.and_eq_true] at hg
  refine (ok.call f n _ _ hf X rfl rfl rfl rfl rfl rfl xs _ p pos rfl hx hs (glB_ok ok hg.1) hg.2 ha).of fun σ H Q ⟨ρ, F, Z, d, st, ρ', w, he, k⟩ => ?_
  simp only [ev] at he
  split at he
  · rename_i ds ρ1 ea
    split at he
    · rename_i c
      split at he
      · rename_i d' o ec
        cases he
        refine ⟨ρ, F, Z, ds, _, w, ea, fun vs H1 F1 Z1 s1 w1 r1 => ⟨_, _, o, r1.elim fun B q => q.1.borX c, ec, Post.new fun z H2 nd => ?_⟩⟩
        obtain ⟨Z2, s2, w2, r2⟩ := fin_new s1 w1 nd
        exact k z H2 F1 Z2 s2 w2 r2
      · cases he
    · cases he
  · cases he
theorem se_fscr (ok : Ok X G S C) {f : Nat} {es : IEs} {n : Str} {xs : List Expr} {p pos : Pos} (hf : G.fns[f]? = some (n, xs.length, .scr)) (hg : gloB S n = true) (hs : xs.all notStar = true) (hx : xs ≠ []) (hl : es ≠ .nil) (ha : PA X xs (tAs X.K C es)) :
    PE X (.Call (.Name n p) xs [] pos) (tE X.K C (.fscr f es)) := by
  unfold gloB at hg
  simp only [Bool.and_eq_true] at hg
  refine (ok.call f n _ _ hf X rfl rfl rfl rfl rfl rfl xs _ p pos rfl hx hs (glB_ok ok hg.1) hg.2 ha).of fun σ H Q ⟨ρ, F, Z, d, st, ρ', w, he, k⟩ => ?_
  simp only [ev] at he
  split at he
  · rename_i ds ρ1 ea
    split at he
    · rename_i c
      split at he
      · rename_i d' o ec
        cases he
        refine ⟨ρ, F, Z, ds, _, w, ea, fun vs H1 F1 Z1 s1 w1 r1 => ?_⟩
        obtain ⟨B, hb, fb⟩ := id r1
        cases hb with
        | nil =>
          cases es with
          | nil => exact absurd rfl hl
          | cons e es =>
            simp only [evs] at ea
            (repeat' split at ea) <;> cases ea
        | cons h t =>
          refine ⟨_, _, _, _, _, o, rfl, h.bor, t.borX c, ec, Post.new fun z H2 nd => ?_⟩
          obtain ⟨Z2, s2, w2, r2⟩ := fin_new s1 w1 nd
          exact k z H2 F1 Z2 s2 w2 r2
      · cases he
    · cases he
  · cases he
end
end Zr

set_option maxRecDepth 100000
set_option maxHeartbeats 8000000
/-! ZrJ: what changes a slot's own datum; calls by reference; isinstance; tests. -/
namespace Zr
open PySem PySem.Spec PyProof.Rows L2

section
variable {K : Fr'} {H H0 H' H1 H2 H3 : Hp} {ρ ρ0 ρ' ρ1 ρ2 : List Slot} {σ σ' : L2.St} {F F0 F' F1 F2 : Fa} {Z Z0 Z' Z1 Z2 : Addr → Prop} {E E1 E2 : List Nat}
/-- a slot's own datum is another one -/
inductive OwnSlot : Slot → D → Slot → D → Prop
  | own (d d' : D) : OwnSlot (.own d) d (.own d') d'
  | byr (d d' : D) : OwnSlot (.byr d) d (.byr d') d'
theorem put_slot {i : Nat} {sl sl' : Slot} {d d' : D} {v : V} {B : List Addr} (s : Step E H0 ρ0 F0 Z0 H ρ F Z) (w : W K H ρ σ F Z) (hi : i ∈ E) (e : ρ[i]? = some sl) (os : OwnSlot sl d sl' d') (hσ : σ[i]? = some (some v))
    (k : ∀ b o, H b = some o → (Lst o → b ∉ F i) → H' b = some o) (t : ∀ b, H b ≠ none → H' b ≠ none) (ho : Own K H' v d' B) (nb : B.Nodup) (zb : ∀ b ∈ B, Z b) (off : ∀ b ∈ B, ∀ j, j ≠ i → b ∉ F j) (new : ∀ b ∈ B, b ∈ F i ∨ (∃ q ∈ E, b ∈ F0 q) ∨ H0 b = none) :
    Step E H0 ρ0 F0 Z0 H' (ρ.set i sl') (fset F i B) Z ∧ W K H' (ρ.set i sl') σ (fset F i B) Z := by
  have new' : ∀ b ∈ B, (∃ q ∈ E, b ∈ F0 q) ∨ H0 b = none := fun b m => by
    rcases new b m with m | m
    · rcases s.own i b m with m | m | m
      · exact .inl ⟨i, hi, m⟩
      · exact .inl m
      · exact .inr m
    · exact m
  refine ⟨⟨fun a o q l => ?_, fun a q => t a (s.there a q), fun j hj => ?_, fun j a m => ?_, s.zed, s.zk⟩, by rw [List.length_set]; exact w.len, fun j hj => ?_, fun j u q => ?_, fun j => ?_, fun j l a n m q => ?_, fun j a m => ?_⟩
  · refine k a o (s.keep a o q l) fun y m => ?_
    rcases s.own i a m with m | ⟨q', hq, m⟩ | m
    · exact l y i hi m
    · exact l y q' hq m
    · rw [m] at q
      cases q
  · have hn : j ≠ i := fun q => hj (q ▸ hi)
    rw [get_set_ne hn, fset_ne hn]
    exact s.same j hj
  · by_cases hj : j = i
    · subst hj
      rw [fset_same] at m
      exact .inr (new' a m)
    · rw [fset_ne hj] at m
      exact s.own j a m
  · rw [List.length_set] at hj
    have hn : j ≠ i := fun q => by
      have := (List.getElem?_eq_some_iff.mp e).1
      omega
    rw [fset_ne hn]
    exact w.out j hj
  · by_cases hj : j = i
    · subst hj
      rw [get_set_self e] at q
      cases q
      cases os with
      | own d d' => exact ⟨v, hσ, by rw [fset_same]; exact ho⟩
      | byr d d' => exact ⟨v, hσ, by rw [fset_same]; exact ho⟩
    · rw [get_set_ne hj] at q
      exact (w.slot j u q).keep (fset_ne hj) (fun a o e l => k a o e fun y m => (l y).elim (fun z => w.disj j i a hj z m) fun z => z (w.zed i a m)) fun a z _ => z
  · by_cases hj : j = i
    · rw [hj, fset_same]
      exact nb
    · rw [fset_ne hj]
      exact w.nodup j
  · by_cases hj : j = i
    · subst hj
      rw [fset_same] at m
      by_cases hl : l = j
      · exact n hl.symm
      · rw [fset_ne hl] at q
        exact off a m l hl q
    · rw [fset_ne hj] at m
      by_cases hl : l = i
      · subst hl
        rw [fset_same] at q
        exact off a q j hj m
      · rw [fset_ne hl] at q
        exact w.disj j l a n m q
  · by_cases hj : j = i
    · subst hj
      rw [fset_same] at m
      exact zb a m
    · rw [fset_ne hj] at m
      exact w.zed j a m

/-! ### methods that change a list -/
theorem OwnL.dropLast_pure : ∀ {xs : List V} {ds : List D} {A : List Addr} {y : D}, OwnL K H xs ds A → ds.getLast? = some y → pur y = true → OwnL K H xs.dropLast ds.dropLast A
  | _, _, _, _, .nil, e, _ => by simp at e
  | _, _, _, y, .cons (vs := []) (A := A) (B := B) h t, e, p => by
    cases t
    simp at e
    subst e
    have : A = [] := h.nil_of p
    subst this
    exact .nil
  | _, _, _, y, .cons (vs := v :: vs) h t, e, p => by
    cases t with
    | cons h2 t2 =>
      rw [List.getLast?_cons_cons] at e
      exact .cons h (OwnL.dropLast_pure (.cons h2 t2) e p)
theorem OwnL.erase_pure : ∀ {xs : List V} {ds : List D} {A : List Addr} {y : D} {j : Nat}, OwnL K H xs ds A → ds[j]? = some y → pur y = true → OwnL K H (xs.eraseIdx j) (ds.eraseIdx j) A
  | _, _, _, _, _, .nil, e, _ => by simp at e
  | _, _, _, y, 0, .cons (A := A) h t, e, p => by
    simp at e
    subst e
    have : A = [] := h.nil_of p
    subst this
    exact t
  | _, _, _, y, j + 1, .cons h t, e, p => .cons h (OwnL.erase_pure t (by simpa using e) p)
theorem OwnL.get_pure : ∀ {xs : List V} {ds : List D} {A : List Addr} {y : D} {j : Nat}, OwnL K H xs ds A → ds[j]? = some y → ∃ v B, xs[j]? = some v ∧ Own K H v y B ∧ ∀ a ∈ B, a ∈ A
  | _, _, _, _, _, .nil, e => by simp at e
  | _, _, _, y, 0, .cons h t, e => by
    simp at e
    subst e
    exact ⟨_, _, rfl, h, fun a m => ml m⟩
  | _, _, _, y, j + 1, .cons h t, e => by
    obtain ⟨v, B, h1, h2, h3⟩ := OwnL.get_pure t (j := j) (by simpa using e)
    exact ⟨v, B, by simpa using h1, h2, fun a m => mr (h3 a m)⟩
theorem OwnL.set_at : ∀ {xs : List V} {ds : List D} {A : List Addr} {y z : D} {u : V} {B : List Addr} {j : Nat}, OwnL K H xs ds A → ds[j]? = some y → pur y = true → Own K H u z B → ∃ A1 A2, A = A1 ++ A2 ∧ OwnL K H (xs.set j u) (ds.set j z) (A1 ++ (B ++ A2))
  | _, _, _, _, _, _, _, _, .nil, e, _, _ => by simp at e
  | _, _, _, y, z, u, B, 0, .cons (A := A) (B := A2) h t, e, p, q => by
    simp at e
    subst e
    have : A = [] := h.nil_of p
    subst this
    exact ⟨[], A2, rfl, (OwnL.cons q t : OwnL K H _ _ (B ++ A2))⟩
  | _, _, _, y, z, u, B, j + 1, .cons (A := A0) h t, e, p, q => by
    obtain ⟨A1, A2, e1, h2⟩ := OwnL.set_at t (j := j) (by simpa using e) p q
    subst e1
    refine ⟨A0 ++ A1, A2, by rw [List.append_assoc], ?_⟩
    rw [List.append_assoc]
    exact .cons h h2
def mid : Mu → String
  | .append => "list.append"
  | .extend => "list.extend"
  | .pop => "list.pop"
  | .insert => "list.insert"
  | .remove => "list.remove"
/-- the reading of such a method: the list at a, what it becomes -/
theorem mu_rule {X : Cx} {m : Mu} {ds args ds' : List D} {d : D} (e : mu m ds args = some (ds', d)) : ∃ r, MtR X (mid m) r ∧ ∀ (H : Hp) (a : Addr) (xs vs : List V) (A B : List Addr) (Q : VK), H a = some (.lst xs) → OwnL X.K H xs ds A → OwnL X.K H vs args B →
    (∀ v xs' A', OwnL X.K H xs' ds' A' → (∀ b ∈ A', b ∈ A ∨ b ∈ B) → (A.Nodup → B.Nodup → (∀ b ∈ A, b ∉ B) → A'.Nodup) → pur d = true → Bor X.K H true (fun _ => True) v d → Q v (upd H a (.lst xs'))) → r (.ref a) vs H Q := by
  unfold mu at e
  split at e
  · obtain ⟨c, e⟩ := ifs e
    cases e
    refine ⟨_, mt_append, fun H a xs vs A B Q h ho hb q => ?_⟩
    cases hb with
    | cons h1 t =>
      cases t
      refine ⟨a, xs, _, rfl, rfl, h, Nat.lt_of_lt_of_le (by rw [ho.length]; exact c) (lim_line (Nat.le_refl _)), q _ _ _ (ho.append (.cons h1 .nil)) (fun b m => List.mem_append.mp m) (fun n1 n2 n3 => List.nodup_append.mpr ⟨n1, n2, fun x m y m' z => n3 x m (z ▸ m')⟩) rfl .non⟩
  · obtain ⟨⟨c, p⟩, e⟩ := ifs e
    cases e
    refine ⟨_, mt_extend, fun H a xs vs A B Q h ho hb q => ?_⟩
    cases hb with
    | cons h1 t =>
      cases t
      cases h1 with
      | lst h2 t2 =>
        rename_i zs A2
        have z2 : A2 = [] := t2.nil_of p
        subst z2
        refine ⟨a, _, xs, _, rfl, rfl, h, h2, lim_line (by rw [ho.length, t2.length]; exact c), q _ _ _ (ho.append t2) (fun b m => ?_) (fun n1 n2 n3 => ?_) rfl .non⟩
        · rw [List.append_nil] at m
          exact .inl m
        · rw [List.append_nil]
          exact n1
  · split at e
    · rename_i y ey
      obtain ⟨p, e⟩ := ifs e
      cases e
      refine ⟨_, mt_pop, fun H a xs vs A B Q h ho hb q => ?_⟩
      cases hb
      have e2 : ds[ds.length - 1]? = some d := by rw [← List.getLast?_eq_getElem?]; exact ey
      obtain ⟨v, B', h1, h2, h3⟩ := ho.get_pure e2
      exact ⟨a, xs, v, rfl, rfl, h, by rw [ho.length]; exact h1, q _ _ _ (ho.dropLast_pure ey p) (fun b m => .inl m) (fun n _ _ => n) p (h2.bor fun _ _ => trivial)⟩
    · cases e
  · obtain ⟨⟨c1, c2⟩, e⟩ : _ ∧ _ := by
      split at e
      · rename_i c
        exact ⟨c, e⟩
      · cases e
    split at e
    · rename_i j ej
      split at e
      · rename_i y ey
        obtain ⟨p, e⟩ := ifs e
        cases e
        refine ⟨_, mt_popAt, fun H a xs vs A B Q h ho hb q => ?_⟩
        cases hb with
        | cons h1 t =>
          cases t
          cases h1
          obtain ⟨v, B', g1, g2, g3⟩ := ho.get_pure ey
          have ln : (lim : Int) = 1000000 := rfl
          exact ⟨a, xs, _, _, v, rfl, rfl, h, by omega, by omega, (ixN_seq (by rw [← pixN_eq, ho.length]; exact ej)).1, g1, q _ _ _ (ho.erase_pure ey p) (fun b m => .inl m) (fun n _ _ => n) p (g2.bor fun _ _ => trivial)⟩
      · cases e
    · cases e
  · cases e
end
section
variable {X : Cx} {G : Gx} {S : Sx} {C : CallF}
theorem few_of {es : List Expr} {env : Env} {cp : Pos} (h : es.all notStar = true) (hl : es.length < 20) : ((backTo cp (starEach es env)).all (fun x => !x.1) && (backToKw cp (keywordEach [] env)).all (fun x => x.1.isSome)
      && decide (es.length + ([] : List Keyword).length + (if ([] : List Keyword).isEmpty then 0 else 1) < 30)) = true := by
  have h1 : (backTo cp (starEach es env)).all (fun x => !x.1) = true := by
    rw [List.all_eq_true]
    intro x m
    have := pl_of (env := env) (pos := cp) h
    rw [List.any_eq_false] at this
    simpa using this x m
  rw [h1]
  have h2 : (backToKw cp (keywordEach [] env)).all (fun x => x.1.isSome) = true := rfl
  rw [h2]
  simp
  omega
theorem base_name {x : Str} {p : Pos} {a : Str} {env : Env} {t : Sem Value} : attributeBase (.Name x p) a env t = t := rfl
theorem isLst_ok {K : Fr'} {H : Hp} {ρ : Ro} {σ : L2.St} {F : Fa} {Z : Addr → Prop} {i : Nat} (w : W K H ρ σ F Z) (h : isLst ρ i = true) : ∃ a xs, σ[i]? = some (some (.ref a)) ∧ H a = some (.lst xs) := by
  unfold isLst at h
  split at h
  · rename_i d e
    obtain ⟨v, e1, ho⟩ := w.slot i _ e
    generalize F i = A at ho
    cases ho with
    | lst h1 t => exact ⟨_, _, e1, h1⟩
  · rename_i d e
    obtain ⟨v, e1, ho⟩ := w.slot i _ e
    generalize F i = A at ho
    cases ho with
    | lst h1 t => exact ⟨_, _, e1, h1⟩
  · cases h
theorem isOwn_ok {K : Fr'} {H : Hp} {ρ : Ro} {σ : L2.St} {F : Fa} {Z : Addr → Prop} {i : Nat} (w : W K H ρ σ F Z) (h : isOwn ρ i = true) : ∃ v, σ[i]? = some (some v) := by
  unfold isOwn at h
  split at h
  · rename_i d e
    obtain ⟨v, e1, ho⟩ := w.slot i _ e
    exact ⟨v, e1⟩
  · rename_i d e
    obtain ⟨v, e1, ho⟩ := w.slot i _ e
    exact ⟨v, e1⟩
  · cases h
theorem mut_core {m : Mu} {i : Nat} {es : IEs} {σ : L2.St} {H : Hp} {Q : VK} (h : tE X.K C (.mut m i es) σ H Q) : ∃ r, MtR X (mid m) r ∧ ∃ v, σ[i]? = some (some v) ∧ tyV X.K "list" v H ∧ tAs X.K C es σ H fun vs H2 => r v vs H2 Q := by
  obtain ⟨ρ, F, Z, d, st, ρ', w, he, k⟩ := h
  simp only [ev] at he
  obtain ⟨c, he⟩ : _ ∧ _ := by
    split at he
    · rename_i c
      exact ⟨c, he⟩
    · cases he
  simp only [Bool.and_eq_true, Bool.not_eq_true', List.contains_eq_mem, decide_eq_false_iff_not] at c
  obtain ⟨a, xs0, hσ, hH⟩ := isLst_ok w c.1.1
  split at he
  · rename_i ds ρ1 ea
    split at he
    · rename_i args ρ2 es'
      have main : ∀ (sl sl' : Slot) (xs ys : List D), ρ2[i]? = some sl → OwnSlot sl (.list xs) sl' (.list ys) → mu m xs args = some (ys, d) → st = .fresh → ρ' = ρ2.set i sl' → ∃ r, MtR X (mid m) r ∧ ∃ v, σ[i]? = some (some v) ∧ tyV X.K "list" v H ∧ tAs X.K C es σ H fun vs H2 => r v vs H2 Q := by
        intro sl sl' xs ys e os em e1 e2
        subst e1
        subst e2
        obtain ⟨r, hr, rule⟩ := mu_rule (X := X) em
        refine ⟨r, hr, .ref a, hσ, .inl ⟨rfl, xs0, .inl (.inl hH)⟩, ρ, F, Z, ds, ρ1, w, ea, fun vs H1 F1 Z1 s1 w1 r1 => ?_⟩
        obtain ⟨F2, B, w2, s2, ho, fl, ex⟩ := take_all (E := effE (.mut m i es)) ea s1 w1 r1 es' (fun j hj => List.mem_cons_of_mem _ (ml hj)) (fun j hj => List.mem_cons_of_mem _ (mr hj))
        have hs := w2.slot i sl e
        have hown : ∃ v, σ[i]? = some (some v) ∧ Own X.K H1 v (.list xs) (F2 i) := by
          cases os with
          | own => exact hs
          | byr => exact hs
        obtain ⟨v, e3, ho2⟩ := hown
        rw [hσ] at e3
        cases e3
        generalize hF : F2 i = A0 at ho2
        cases ho2 with
        | lst h1 t =>
          rename_i vs0 A
          refine rule H1 a vs0 vs A B Q h1 t ho fun z xs' A' ho' sub nd pd hz => ?_
          have nA : (a :: A).Nodup := hF ▸ w2.nodup i
          have inF : ∀ b ∈ A, b ∈ F2 i := fun b m => by rw [hF]; exact List.mem_cons_of_mem _ m
          have nA' : A'.Nodup := nd (List.nodup_cons.mp nA).2 fl.nodup fun b m q => fl.off b q i (inF b m)
          have na : a ∉ A' := fun m => by
            rcases sub a m with m | m
            · exact (List.nodup_cons.mp nA).1 m
            · exact fl.off a m i (by rw [hF]; exact List.mem_cons_self)
          have kk : ∀ b o, H1 b = some o → (Lst o → b ∉ F2 i) → upd H1 a (.lst xs') b = some o := fun b o q l => by
            rw [upd_ne]
            · exact q
            · intro z
              subst z
              rw [h1] at q
              cases q
              exact l trivial (by rw [hF]; exact List.mem_cons_self)
          have tt : ∀ b, H1 b ≠ none → upd H1 a (.lst xs') b ≠ none := fun b q => by
            by_cases hb : b = a
            · rw [hb, upd_same]
              exact fun z => nomatch z
            · rw [upd_ne hb]
              exact q
          have ho3 : OwnL X.K (upd H1 a (.lst xs')) xs' ys A' := ho'.keep fun b o q l => by
            rw [upd_ne]
            · exact q
            · intro z
              subst z
              rw [h1] at q
              cases q
              exact na (l trivial)
          obtain ⟨s3, w3⟩ := put_slot (i := i) (B := a :: A') s2 w2 (List.mem_cons_self) e os hσ kk tt (.lst upd_same ho3) (List.nodup_cons.mpr ⟨na, nA'⟩) (fun b m => by
              rcases List.mem_cons.mp m with m | m
              · exact w2.zed i b (by rw [hF, m]; exact List.mem_cons_self)
              · rcases sub b m with m | m
                · exact w2.zed i b (inF b m)
                · exact fl.zed b m) (fun b m j hj q => by
              rcases List.mem_cons.mp m with m | m
              · exact w2.disj j i b hj q (by rw [hF, m]; exact List.mem_cons_self)
              · rcases sub b m with m | m
                · exact w2.disj j i b hj q (inF b m)
                · exact fl.off b m j q) (fun b m => by
              rcases List.mem_cons.mp m with m | m
              · exact .inl (by rw [hF, m]; exact List.mem_cons_self)
              · rcases sub b m with m | m
                · exact .inl (inF b m)
                · exact .inr (fl.new b m))
          refine k z _ _ _ s3 w3 (fin_pure (b := true) (P := fun _ => True) pd ?_)
          exact (Own.keep (Bor.own hz pd) fun b o q l => kk b o q fun y => absurd (l y) (by simp)).bor fun _ _ => trivial
      split at he
      · rename_i xs e
        split at he
        · rename_i ys d' em
          cases he
          exact main _ _ xs ys e (.own _ _) em rfl rfl
        · cases he
      · rename_i xs e
        split at he
        · rename_i ys d' em
          cases he
          exact main _ _ xs ys e (.byr _ _) em rfl rfl
        · cases he
      · cases he
    · cases he
  · cases he
theorem se_mut (ok : Ok X G S C) {m : Mu} {i : Nat} {es : IEs} {x : Str} {p ap cp : Pos} {a : Str} {xs : List Expr} (ha' : a = mun m) (hx : nameB S i x = true) (hl : (ap.endLine == cp.line) = true) (hn : xs.length < 20) (hs : xs.all notStar = true) (h0 : xs = [] → es = .nil)
    (ha : PA X xs (tAs X.K C es)) : PE X (.Call (.Attribute (.Name x p) a ap) xs [] cp) (tE X.K C (.mut m i es)) := by
  unfold nameB at hx
  simp only [Bool.and_eq_true, decide_eq_true_eq] at hx
  obtain ⟨n1, n2, _⟩ := nodun_ok hx.2
  have ho : PE X (.Name x p) (tVar i) := pe_var (i := i) (by rw [ok.hN]; exact hx.1.1) (by rw [ok.sc]; exact visB_ok hx.1.2) n1 n2
  refine ⟨fun pins s σ H Q I h => ?_⟩
  obtain ⟨r, hr, v, hv, hty, hA⟩ := mut_core (X := X) h
  subst ha'
  cases xs with
  | nil =>
    have e0 := h0 rfl
    subst e0
    have hA' : r v [] H Q := by
      obtain ⟨ρ, F, Z, ds, ρ', w, he, k⟩ := hA
      simp only [evs] at he
      cases he
      exact k [] H F Z .refl w ⟨[], .nil, Fl.nil⟩
    have g : tBM0 X.K "list" r (tVar i) σ H Q := ⟨v, hv, hty, hA'⟩
    cases m
    · exact (pe_bm0 PySem.F.plainAttrs_list PySem.F.slot_list_append PySem.F.type_list_append hr ho base_name hl).run pins s σ H Q I g
    · exact (pe_bm0 PySem.F.plainAttrs_list PySem.F.slot_list_extend PySem.F.type_list_extend hr ho base_name hl).run pins s σ H Q I g
    · exact (pe_bm0 PySem.F.plainAttrs_list PySem.F.slot_list_pop PySem.F.type_list_pop hr ho base_name hl).run pins s σ H Q I g
    · exact (pe_bm0 PySem.F.plainAttrs_list PySem.F.slot_list_insert PySem.F.type_list_insert hr ho base_name hl).run pins s σ H Q I g
    · exact (pe_bm0 PySem.F.plainAttrs_list PySem.F.slot_list_remove PySem.F.type_list_remove hr ho base_name hl).run pins s σ H Q I g
  | cons y ys =>
    have hy : notStar y = true ∧ ys.all notStar = true := by simpa using hs
    have g : tBM X.K "list" r (tVar i) (tAs X.K C es) σ H Q := ⟨v, hv, hty, hA⟩
    cases m
    · exact (pe_bm PySem.F.plainAttrs_list PySem.F.slot_list_append PySem.F.type_list_append hr ho ha base_name (few_of hs hn) hl (star_of hy.1) (pl_of hy.2)).run pins s σ H Q I g
    · exact (pe_bm PySem.F.plainAttrs_list PySem.F.slot_list_extend PySem.F.type_list_extend hr ho ha base_name (few_of hs hn) hl (star_of hy.1) (pl_of hy.2)).run pins s σ H Q I g
    · exact (pe_bm PySem.F.plainAttrs_list PySem.F.slot_list_pop PySem.F.type_list_pop hr ho ha base_name (few_of hs hn) hl (star_of hy.1) (pl_of hy.2)).run pins s σ H Q I g
    · exact (pe_bm PySem.F.plainAttrs_list PySem.F.slot_list_insert PySem.F.type_list_insert hr ho ha base_name (few_of hs hn) hl (star_of hy.1) (pl_of hy.2)).run pins s σ H Q I g
    · exact (pe_bm PySem.F.plainAttrs_list PySem.F.slot_list_remove PySem.F.type_list_remove hr ho ha base_name (few_of hs hn) hl (star_of hy.1) (pl_of hy.2)).run pins s σ H Q I g
/-! ### calls by reference -/
theorem VLB.borR {K : Fr'} {H : Hp} {ρ : List Slot} {σ : L2.St} {F : Fa} {Z : Addr → Prop} {i : Nat} (w : W K H ρ σ F Z) : ∀ {vs : List V} {ds : Ds} {B : List Addr}, VLB K H ρ σ F Z vs ds B → (∀ a ∈ B, a ∉ F i) → ds.all (fun p => okSt p.2 [i] && noScr p.2) = true → BorL K H false (fun a => a ∉ F i) vs (ds.map (·.1))
  | _, _, _, .nil, _, _ => .nil
  | _, _, _, .cons (st := st) h t, hB, n => by
    simp only [List.all_cons, Bool.and_eq_true] at n
    refine .cons ?_ (t.borR w (fun a m => hB a (mr m)) (by simpa using n.2))
    cases st with
    | fresh => exact Own.bor h fun a m => hB a (ml m)
    | froz => exact h.2.imp fun a z q => z (w.zed i a q)
    | scr => cases n.1.2
    | loan j =>
      have hj : j ≠ i := by simpa [okSt] using n.1.1
      exact h.2.imp fun a z q => z.elim (fun y => w.disj j i a hj y q) fun y => y (w.zed i a q)
    | take j =>
      have hj : j ≠ i := by simpa [okSt] using n.1.1
      exact Own.bor h.2.2.2 fun a y q => w.disj j i a hj y q
theorem se_fref (ok : Ok X G S C) {f s : Nat} {es : IEs} {n x : Str} {xs : List Expr} {p p2 pos : Pos} (hf : G.fns[f]? = some (n, xs.length + 1, .byr)) (hg : gloB S n = true) (hx : nameB S s x = true) (hs : xs.all notStar = true) (ha : PA X xs (tAs X.K C es)) :
    PE X (.Call (.Name n p) (.Name x p2 :: xs) [] pos) (tE X.K C (.fref f s es)) := by
  unfold gloB at hg
  simp only [Bool.and_eq_true] at hg
  unfold nameB at hx
  simp only [Bool.and_eq_true, decide_eq_true_eq] at hx
  obtain ⟨n1, n2, _⟩ := nodun_ok hx.2
  have ho : PE X (.Name x p2) (tVar s) := pe_var (i := s) (by rw [ok.hN]; exact hx.1.1) (by rw [ok.sc]; exact visB_ok hx.1.2) n1 n2
  have hA : PA X (.Name x p2 :: xs) (tCons (tVar s) (tAs X.K C es)) := pa_cons ho ha (star_of rfl)
  refine (ok.call f n _ _ hf X rfl rfl rfl rfl rfl rfl (.Name x p2 :: xs) _ p pos rfl (fun z => nomatch z) (by simpa [notStar] using hs) (glB_ok ok hg.1) hg.2 hA).of fun σ H Q ⟨ρ, F, Z, d, st, ρ', w, he, k⟩ => ?_
  simp only [ev] at he
  split at he
  · rename_i ds ρ1 ea
    obtain ⟨c, he⟩ : _ ∧ _ := by
      split at he
      · rename_i c
        exact ⟨c, he⟩
      · cases he
    simp only [Bool.and_eq_true] at c
    have main : ∀ (sl sl' : Slot) (c0 c' : D), ρ1[s]? = some sl → OwnSlot sl c0 sl' c' → C f (some c0) (ds.map (·.1)) = some (d, some c') → st = .fresh → ρ' = ρ1.set s sl' →
        (∃ v, σ[s]? = some (some v)) → tCons (tVar s) (tAs X.K C es) σ H fun vs H1 => spC X.K C f .byr vs H1 Q := by
      intro sl sl' c0 c' e os ec e1 e2 ⟨v0, hσ⟩
      subst e1
      subst e2
      refine ⟨v0, hσ, ρ, F, Z, ds, ρ1, w, ea, fun vs H1 F1 Z1 s1 w1 r1 => ?_⟩
      obtain ⟨B, hb, fb⟩ := r1
      have hown : Own X.K H1 v0 c0 (F1 s) := by
        have hs := w1.slot s sl e
        cases os with
        | own =>
          obtain ⟨v, e3, q⟩ := hs
          rw [hσ] at e3
          cases e3
          exact q
        | byr =>
          obtain ⟨v, e3, q⟩ := hs
          rw [hσ] at e3
          cases e3
          exact q
      refine ⟨v0, vs, c0, F1 s, _, d, c', rfl, hown, w1.nodup s, hb.borR w1 (fun a m => fb.off a m s) c.1, ec, fun z H2 B2 A2 kk tt oz nz wz oA nA wA dis => ?_⟩
      obtain ⟨ww, sw⟩ := w1.wide (P := fun a => H1 a = none) fun a q => q
      have S1 := s1.seq sw (E := effE (.fref f s es)) (fun j hj => List.mem_cons_of_mem _ hj) (fun j hj => nomatch hj)
      obtain ⟨s3, w3⟩ := put_slot (i := s) (B := A2) S1 ww List.mem_cons_self e os hσ kk tt oA nA (fun b m => (wA b m).elim (fun q => .inl (w1.zed s b q)) .inr) (fun b m j hj q => by
          rcases wA b m with m | m
          · exact w1.disj j s b hj q m
          · exact lst_tr (w1.tr q) m) (fun b m => (wA b m).elim .inl fun q => .inr (.inr (s1.gone q)))
      refine k z H2 _ _ s3 w3 ⟨B2, oz, nz, fun a m => ?_, fun a m j q => ?_, fun a m => ?_⟩
      · exact (wz a m).elim (fun q => .inl (w1.zed s a q)) .inr
      · by_cases hj : j = s
        · subst hj
          rw [fset_same] at q
          exact dis a m q
        · rw [fset_ne hj] at q
          rcases wz a m with m | m
          · exact w1.disj j s a hj q m
          · exact lst_tr (w1.tr q) m
      · rcases wz a m with m | m
        · rcases s1.own s a m with m | ⟨i, hi, m⟩ | m
          · exact .inl ⟨s, List.mem_cons_self, m⟩
          · exact .inl ⟨i, List.mem_cons_of_mem _ hi, m⟩
          · exact .inr m
        · exact .inr (s1.gone m)
    have hv := isOwn_ok w c.2
    split at he
    · rename_i c0 e
      split at he
      · rename_i d' c' ec
        cases he
        exact main _ _ c0 c' e (.own _ _) ec rfl rfl hv
      · cases he
    · rename_i c0 e
      split at he
      · rename_i d' c' ec
        cases he
        exact main _ _ c0 c' e (.byr _ _) ec rfl rfl hv
      · cases he
    · cases he
  · cases he
end
end Zr

set_option maxRecDepth 100000
set_option maxHeartbeats 8000000
/-! ZrK: isinstance, chains, tests, freezing. -/
namespace Zr
open PySem PySem.Spec PyProof.Rows L2

section
variable {X : Cx} {G : Gx} {S : Sx} {C : CallF}
theorem se_chain (ok : Ok X G S C) {op op' : CmpOp} {a b c : IE} {l m r : Expr} {p : Pos} (hm : lastMarks [op, op'] [m, r] = false) (ha : PE X l (tE X.K C a)) (hb : PE X m (tE X.K C b)) (hc : PE X r (tE X.K C c)) : PE X (.Compare l [op, op'] [m, r] p) (tE X.K C (.chain op op' a b c)) := by
  refine (pe_chain (op_cmp ok.units op) (op_cmp ok.units op') ha hb hc hm).of fun σ H Q ⟨ρ, F, Z, d, st, ρ', w, he, k⟩ => ?_
  simp only [ev] at he
  split at he
  · rename_i x sx ρ1 ea
    split at he
    · rename_i y sy ρ2 eb
      split at he
      · rename_i cc
        split at he
        · rename_i ek
          split at he
          · rename_i z sz ρ3 ec
            split at he
            · rename_i cd
              split at he
              · rename_i q eq
                cases he
                refine ⟨ρ, F, Z, x, sx, ρ1, w, ea, fun v H1 F1 Z1 s1 w1 r1 => ⟨ρ1, F1, Z1, y, sy, ρ2, w1, eb, fun u H2 F2 Z2 s2 w2 r2 => ⟨x, y, true, (r1.over w1 s2 cc).bor, r2.bor, ek, true, rfl, ?_⟩⟩⟩
                rw [if_pos rfl]
                refine ⟨ρ2, F2, Z2, z, sz, _, w2, ec, fun t H3 F3 Z3 s3 w3 r3 => ⟨y, z, q, (r2.over w2 s3 cd).bor, r3.bor, eq, ?_⟩⟩
                exact k _ H3 F3 Z3 (s1.seq (s2.trans s3) (fun _ => ml) (fun _ => mr)) w3 (fin_pure (b := true) (P := fun _ => True) rfl (.bl _))
              · cases he
            · cases he
          · cases he
        · rename_i ek
          cases he
          refine ⟨ρ, F, Z, x, sx, ρ1, w, ea, fun v H1 F1 Z1 s1 w1 r1 => ⟨ρ1, F1, Z1, y, sy, _, w1, eb, fun u H2 F2 Z2 s2 w2 r2 => ⟨x, y, false, (r1.over w1 s2 cc).bor, r2.bor, ek, false, rfl, ?_⟩⟩⟩
          rw [if_neg (by decide)]
          exact k _ H2 F2 Z2 (s1.seq s2 (fun _ => ml) (fun _ h => mr (ml h))) w2 (fin_pure (b := true) (P := fun _ => True) rfl (.bl _))
        · cases he
      · cases he
    · cases he
  · cases he
theorem st_chain (ok : Ok X G S C) {op op' : CmpOp} {a b c : IE} {l m r : Expr} {p : Pos} (hm : lastMarks [op, op'] [m, r] = false) (ha : PE X l (tE X.K C a)) (hb : PE X m (tE X.K C b)) (hc : PE X r (tE X.K C c)) : PT X (.Compare l [op, op'] [m, r] p) (tTt X.K C (.cmp (.chain op op' a b c))) := by
  refine (pt_chain (op_cmp ok.units op) (op_cmp ok.units op') ha hb hc hm).of fun σ H Q ⟨ρ, F, Z, q0, ρ', w, he, k⟩ => ?_
  simp only [evT] at he
  split at he
  · rename_i q1 s1 ρ0 he1
    cases he
    simp only [ev] at he1
    split at he1
    · rename_i x sx ρ1 ea
      split at he1
      · rename_i y sy ρ2 eb
        split at he1
        · rename_i cc
          split at he1
          · rename_i ek
            split at he1
            · rename_i z sz ρ3 ec
              split at he1
              · rename_i cd
                split at he1
                · rename_i q eq
                  cases he1
                  refine ⟨ρ, F, Z, x, sx, ρ1, w, ea, fun v H1 F1 Z1 s1 w1 r1 => ⟨ρ1, F1, Z1, y, sy, ρ2, w1, eb, fun u H2 F2 Z2 s2 w2 r2 => ⟨x, y, true, (r1.over w1 s2 cc).bor, r2.bor, ek, true, rfl, ?_⟩⟩⟩
                  rw [if_pos rfl]
                  refine ⟨ρ2, F2, Z2, z, sz, _, w2, ec, fun t H3 F3 Z3 s3 w3 r3 => ⟨y, z, _, (r2.over w2 s3 cd).bor, r3.bor, eq, _, rfl, ?_⟩⟩
                  exact k H3 F3 Z3 (s1.seq (s2.trans s3) (fun _ => ml) (fun _ => mr)) w3
                · cases he1
              · cases he1
            · cases he1
          · rename_i ek
            cases he1
            refine ⟨ρ, F, Z, x, sx, ρ1, w, ea, fun v H1 F1 Z1 s1 w1 r1 => ⟨ρ1, F1, Z1, y, sy, _, w1, eb, fun u H2 F2 Z2 s2 w2 r2 => ⟨x, y, false, (r1.over w1 s2 cc).bor, r2.bor, ek, false, rfl, ?_⟩⟩⟩
            rw [if_neg (by decide)]
            exact ⟨false, rfl, k H2 F2 Z2 (s1.seq s2 (fun _ => ml) (fun _ h => mr (ml h))) w2⟩
          · cases he1
        · cases he1
      · cases he1
    · cases he1
  · cases he
/-! ### tests -/
theorem test_of {e : Expr} {env : Env} (h : plainTest e = true) : ∀ whole, isTrue e env whole = (do let v ← whole; standAt e.pos; holding [v] (truthy v)) := by
  cases e with
  | UnaryOp op a p => cases op <;> first | (intro _; rfl) | cases h
  | BoolOp => cases h
  | IfExp => cases h
  | Compare => cases h
  | _ => intro _; rfl
theorem st_tru {a : IE} {x : Expr} (hp : plainTest x = true) (ha : PE X x (tE X.K C a)) : PT X x (tTt X.K C (.tru a)) := by
  refine (pt_truth ha (test_of hp)).of fun σ H Q ⟨ρ, F, Z, q0, ρ', w, he, k⟩ => ?_
  simp only [evT] at he
  split at he
  · rename_i x sx ρ1 ea
    split at he
    · rename_i q ek
      cases he
      exact ⟨ρ, F, Z, x, sx, _, w, ea, fun v H1 F1 Z1 s1 w1 r1 => ⟨_, truD_V r1.bor ek, k H1 F1 Z1 s1 w1⟩⟩
    · cases he
  · cases he
theorem st_and {a b : IT} {x y : Expr} {r : List Expr} {p : Pos} (ha : PT X x (tTt X.K C a)) (hb : PW X (.BoolOp .And (y :: r) p) (tTt X.K C b)) : PW X (.BoolOp .And (x :: y :: r) p) (tTt X.K C (.and a b)) := by
  refine (pw_and ha hb).of fun σ H Q ⟨ρ, F, Z, q0, ρ', w, he, k⟩ => ?_
  simp only [evT] at he
  split at he
  · rename_i ρ1 ea
    refine ⟨ρ, F, Z, true, ρ1, w, ea, fun H1 F1 Z1 s1 w1 => ?_⟩
    exact iteT ⟨ρ1, F1, Z1, q0, ρ', w1, he, fun H2 F2 Z2 s2 w2 => k H2 F2 Z2 (s1.seq s2 (fun _ => ml) (fun _ => mr)) w2⟩
  · rename_i nt
    refine ⟨ρ, F, Z, q0, ρ', w, he, fun H1 F1 Z1 s1 w1 => ?_⟩
    cases q0 with
    | true => exact absurd he (by
        intro z
        exact nt ρ' z)
    | false =>
      exact iteF (k H1 F1 Z1 (s1.more fun _ => ml) w1)
theorem st_or {a b : IT} {x y : Expr} {r : List Expr} {p : Pos} (ha : PT X x (tTt X.K C a)) (hb : PW X (.BoolOp .Or (y :: r) p) (tTt X.K C b)) : PW X (.BoolOp .Or (x :: y :: r) p) (tTt X.K C (.or a b)) := by
  refine (pw_or ha hb).of fun σ H Q ⟨ρ, F, Z, q0, ρ', w, he, k⟩ => ?_
  simp only [evT] at he
  split at he
  · rename_i ρ1 ea
    refine ⟨ρ, F, Z, false, ρ1, w, ea, fun H1 F1 Z1 s1 w1 => ?_⟩
    exact iteF ⟨ρ1, F1, Z1, q0, ρ', w1, he, fun H2 F2 Z2 s2 w2 => k H2 F2 Z2 (s1.seq s2 (fun _ => ml) (fun _ => mr)) w2⟩
  · rename_i nt
    refine ⟨ρ, F, Z, q0, ρ', w, he, fun H1 F1 Z1 s1 w1 => ?_⟩
    cases q0 with
    | false => exact absurd he (by
        intro z
        exact nt ρ' z)
    | true =>
      exact iteT (k H1 F1 Z1 (s1.more fun _ => ml) w1)
theorem st_one {op : BoolOp} {a : IT} {x : Expr} {p : Pos} (ha : PT X x (tTt X.K C a)) : PW X (.BoolOp op [x] p) (tTt X.K C (.one a)) := by
  have h : ∀ σ H Q, tTt X.K C (.one a) σ H Q → tTt X.K C a σ H Q := fun σ H Q ⟨ρ, F, Z, q0, ρ', w, he, k⟩ => ⟨ρ, F, Z, q0, ρ', w, by simpa only [evT] using he, k⟩
  cases op with
  | And => exact (pw_and1 ha).of h
  | Or => exact (pw_or1 ha).of h
theorem st_not {a : IT} {x : Expr} {p : Pos} (ha : PT X x (tTt X.K C a)) : PT X (.UnaryOp .Not x p) (tTt X.K C (.not a)) := by
  refine (pt_not ha).of fun σ H Q ⟨ρ, F, Z, q0, ρ', w, he, k⟩ => ?_
  simp only [evT] at he
  split at he
  · rename_i q ρ1 ea
    cases he
    exact ⟨ρ, F, Z, q, _, w, ea, k⟩
  · cases he
/-! ### a slot frozen -/
theorem W.freeze {K : Fr'} {H : Hp} {ρ : List Slot} {σ : L2.St} {F : Fa} {Z : Addr → Prop} {i : Nat} {c : D} (w : W K H ρ σ F Z) (e : ρ[i]? = some (.own c)) : W K H (ρ.set i (.bor c)) σ (fset F i []) (fun a => Z a ∧ a ∉ F i) ∧ Step [i] H ρ F Z H (ρ.set i (.bor c)) (fset F i []) (fun a => Z a ∧ a ∉ F i) := by
  obtain ⟨w0, s0, o0⟩ := w.empty e
  have sub : ∀ j a, a ∈ fset F i [] j → a ∈ F j ∧ j ≠ i := fun j a m => by
    by_cases hj : j = i
    · subst hj
      rw [fset_same] at m
      cases m
    · rw [fset_ne hj] at m
      exact ⟨m, hj⟩
  obtain ⟨v, hv, ho⟩ := w.slot i _ e
  refine ⟨⟨by rw [List.length_set]; exact w.len, fun j hj => ?_, fun j s q => ?_, w0.nodup, w0.disj, fun j a m => ⟨w0.zed j a m, fun q => w.disj j i a (sub j a m).2 (sub j a m).1 q⟩⟩,
    ⟨s0.keep, s0.there, fun j hj => ?_, s0.own, fun a z => .inl z.1, fun a z n => ?_⟩⟩
  · have := w0.out j (by rw [List.length_set] at hj ⊢; exact hj)
    exact this
  · by_cases h : j = i
    · subst h
      rw [get_set_self e] at q
      cases q
      exact ⟨fset_same, v, hv, ho.bor fun a m z => z.2 m⟩
    · rw [get_set_ne h] at q
      exact (w.slot j s q).keep (fset_ne h) (fun _ _ e _ => e) fun a z _ y => z y.1
  · have hn : j ≠ i := fun q => hj (by simp [q])
    exact ⟨get_set_ne hn, fset_ne hn⟩
  · by_cases h : a ∈ F i
    · exact .inr ⟨i, by simp, h⟩
    · exact .inl ⟨z, h⟩
theorem se_fz {i : Nat} {e : IE} {x : Expr} (ha : PE X x (tE X.K C e)) : PE X x (tE X.K C (.fz i e)) := by
  refine ha.of fun σ H Q ⟨ρ, F, Z, d, st, ρ', w, he, k⟩ => ?_
  simp only [ev] at he
  split at he
  · rename_i d' j ρ1 ea
    obtain ⟨c, he⟩ : _ ∧ _ := by
      split at he
      · rename_i c
        exact ⟨c, he⟩
      · cases he
    subst c
    split at he
    · rename_i c e1
      cases he
      refine ⟨ρ, F, Z, _, _, ρ1, w, ea, fun v H1 F1 Z1 s1 w1 r1 => ?_⟩
      obtain ⟨w2, s2⟩ := w1.freeze e1
      refine k v H1 _ _ (s1.seq s2 (fun _ h => List.mem_cons_of_mem _ h) (fun q h => by
        rw [List.mem_singleton.mp h]
        exact List.mem_cons_self)) w2 ⟨[], ⟨rfl, ?_⟩, Fl.nil⟩
      obtain ⟨B, hb, _⟩ := r1
      exact hb.2.imp fun a z y => z.elim (fun q => y.2 q) fun q => q y.1
    · cases he
  · exact ⟨ρ, F, Z, d, st, ρ', w, he, fun v H1 F1 Z1 s1 w1 r1 => k v H1 F1 Z1 (s1.more fun _ h => List.mem_cons_of_mem _ h) w1 (r1.more fun _ h => List.mem_cons_of_mem _ h)⟩
/-! ### isinstance -/
def tyOfD : D → String
  | .none => "NoneType"
  | .bool _ => "bool"
  | .int _ => "int"
  | .str _ => "str"
  | .list _ => "list"
  | .tuple _ => "tuple"
  | .dict _ => "dict"
theorem tyX_of {K : Fr'} {H : Hp} {b : Bool} {P : Addr → Prop} {v : V} {d : D} (h : Bor K H b P v d) : TyX K H v (.type (tyOfD d)) := by
  cases h with
  | non => exact .base .non
  | bl b => exact .base (.bl b)
  | int i => exact .base (.int i)
  | str x => exact .base (.str x)
  | tup h t =>
    rcases h with (h | ⟨o, h⟩) | ⟨o, its, n, h, c, _⟩
    · exact .base (.tup h)
    · exact .fTuple h
    · exact .kTuple h c
  | lst h _ t => exact .base (.lst h)
  | lsk _ h t =>
    rcases h with ⟨o, h⟩ | ⟨o, its, n, h, c, _⟩
    · exact .base (.frz h)
    · exact .kList h c
theorem kit_one (K : Fr') (d : D) (t : Ty) : PySem.W.kitOne K (.type (tyOfD d)) (.type (tyn t)) = some (tyD t d) := by
  have h1 : ∀ t, kitB "NoneType" (tyn t) = some (tyD t .none) := fun t => by cases t <;> decide +kernel
  have h2 : ∀ t, kitB "bool" (tyn t) = some (tyD t (.bool true)) := fun t => by cases t <;> decide +kernel
  have h3 : ∀ t, kitB "int" (tyn t) = some (tyD t (.int 0)) := fun t => by cases t <;> decide +kernel
  have h4 : ∀ t, kitB "str" (tyn t) = some (tyD t (.str "")) := fun t => by cases t <;> decide +kernel
  have h5 : ∀ t, kitB "list" (tyn t) = some (tyD t (.list [])) := fun t => by cases t <;> decide +kernel
  have h6 : ∀ t, kitB "tuple" (tyn t) = some (tyD t (.tuple [])) := fun t => by cases t <;> decide +kernel
  have h7 : ∀ t, kitB "dict" (tyn t) = some (tyD t (.dict [])) := fun t => by cases t <;> decide +kernel
  cases d with
  | none => exact kit_ty (h1 t)
  | bool b => exact (kit_ty (h2 t)).trans (by cases t <;> rfl)
  | int b => exact (kit_ty (h3 t)).trans (by cases t <;> rfl)
  | str b => exact (kit_ty (h4 t)).trans (by cases t <;> rfl)
  | list b => exact (kit_ty (h5 t)).trans (by cases t <;> rfl)
  | tuple b => exact (kit_ty (h6 t)).trans (by cases t <;> rfl)
  | dict b => exact (kit_ty (h7 t)).trans (by cases t <;> rfl)
theorem kit_any (K : Fr') (d : D) : ∀ ts : List Ty, PySem.W.kitAny K (.type (tyOfD d)) (ts.map fun t => .type (tyn t)) = some (ts.any fun t => tyD t d)
  | [] => rfl
  | t :: ts => by
    have ih := kit_any K d ts
    unfold PySem.W.kitAny
    show (match PySem.W.kitOne K (.type (tyOfD d)) (.type (tyn t)) with
      | some true => some true
      | some false => PySem.W.kitAny K (.type (tyOfD d)) (ts.map fun t => .type (tyn t))
      | none => none) = some ((t :: ts).any fun t => tyD t d)
    rw [kit_one, List.any_cons]
    cases tyD t d with
    | true => rfl
    | false => exact ih
/-- the classes as values -/
theorem sa_tys (ok : Ok X G S C) : ∀ (ts : List Ty) (es : List Expr), chkTys G S ts es = true → PA X es (fun _ H Q => Q (ts.map fun t => V.ty (tyn t)) H)
  | [], [], _ => pa_nil
  | t :: ts, e :: es, h => by
    cases e with
    | Name n p =>
      simp only [chkTys, Bool.and_eq_true, decide_eq_true_eq] at h
      obtain ⟨⟨e1, h2⟩, h3⟩ := h
      unfold bltB gloB at h2
      simp only [Bool.and_eq_true] at h2
      obtain ⟨n1, n2, n3⟩ := nodun_ok h2.1.2
      have hv : bootBuiltins n = some (.type (tyn t)) := by
        rw [e1]
        cases t <;> decide +kernel
      have h1 : PE X (.Name n p) (tC (.ty (tyn t))) := pe_bltn (v := .ty (tyn t)) (glB_ok ok h2.1.1) (ok.blt n (by simpa using h2.2)) hv rfl n3 n1
      exact pa_cons h1 (sa_tys ok ts es h3) (star_of rfl)
    | _ => simp [chkTys] at h
  | [], _ :: _, h => by simp [chkTys] at h
  | _ :: _, [], h => by simp [chkTys] at h
theorem cls_all : ∀ ts : List Ty, Paired ClsV (ts.map fun t => V.ty (tyn t)) (ts.map fun t => Value.type (tyn t))
  | [] => .nil
  | t :: ts => .cons (.ty _) (cls_all ts)
theorem se_isi (ok : Ok X G S C) {a : IE} {ts : List Ty} {f : Str} {x t : Expr} {p pos : Pos} (hf : f = ("isinstance" : Str)) (hb : bltB G S f = true) (hx : notStar x = true) (ha : PE X x (tE X.K C a))
    (ht : (match ts, t with
      | [_], .Name _ _ => chkTys G S ts [t]
      | _, .Tuple ns _ _ => decide (ts.length < 20) && chkTys G S ts ns
      | _, _ => false) = true) : PE X (.Call (.Name f p) [x, t] [] pos) (tE X.K C (.isi a ts)) := by
  unfold bltB gloB at hb
  simp only [Bool.and_eq_true] at hb
  obtain ⟨⟨h1, h2⟩, h3⟩ := hb
  obtain ⟨n1, n2, n3⟩ := nodun_ok h2
  have hg : Gl X f := glB_ok ok h1
  have hm : X.mg f = none := ok.blt f (by simpa using h3)
  have hv : bootBuiltins f = some (.builtin "isinstance") := by
    rw [hf]
    decide +kernel
  have one : chkTys G S ts [t] = true → PE X (.Call (.Name f p) [x, t] [] pos) (tE X.K C (.isi a ts)) := fun ht => by
    have hst : notStar t = true := by
      cases t <;> first | rfl | (cases ts <;> simp [chkTys] at ht)
    obtain ⟨t0, e0⟩ : ∃ t0, ts = [t0] := by
      cases ts with
      | nil => simp [chkTys] at ht
      | cons t0 r =>
        cases r with
        | nil => exact ⟨t0, rfl⟩
        | cons _ _ => cases t <;> simp [chkTys] at ht
    subst e0
    refine (pe_callB call_isi hg hm hv (pa_cons ha (sa_tys ok [t0] [t] ht) (star_of hx)) n3 n1 (star_of hx) (pl_of (by simpa using hst))).of fun σ H Q ⟨ρ, F, Z, d, st, ρ', w, he, k⟩ => ?_
    simp only [ev] at he
    split at he
    · rename_i y sx ρ1 ea
      cases he
      refine ⟨ρ, F, Z, y, sx, _, w, ea, fun v H1 F1 Z1 s1 w1 r1 => ?_⟩
      refine ⟨v, .ty (tyn t0), .type (tyOfD y), .type (tyn t0), tyD t0 y, rfl, .ty _, tyX_of r1.bor, kit_one X.K y t0, ?_⟩
      have e : tyD t0 y = ([t0].any fun t => tyD t y) := by simp
      rw [e]
      exact k _ H1 F1 Z1 s1 w1 (fin_pure (b := true) (P := fun _ => True) rfl (.bl _))
    · cases he
  have many : ∀ ns k0 q, t = .Tuple ns k0 q → (decide (ts.length < 20) && chkTys G S ts ns) = true → PE X (.Call (.Name f p) [x, t] [] pos) (tE X.K C (.isi a ts)) := fun ns k0 q e0 ht => by
    subst e0
    simp only [Bool.and_eq_true, decide_eq_true_eq] at ht
    refine (pe_callB call_isiT hg hm hv (pa_cons ha (pa_cons (pe_tup (sa_tys ok ts ns ht.2)) pa_nil (star_of rfl)) (star_of hx)) n3 n1 (star_of hx) (pl_of rfl)).of fun σ H Q ⟨ρ, F, Z, d, st, ρ', w, he, k⟩ => ?_
    simp only [ev] at he
    split at he
    · rename_i y sx ρ1 ea
      cases he
      refine ⟨ρ, F, Z, y, sx, _, w, ea, fun v H1 F1 Z1 s1 w1 r1 => ⟨?_, fun q n => ?_⟩⟩
      · rw [List.length_map]
        exact lim_line (Nat.le_trans (Nat.le_of_lt ht.1) (by decide))
      · obtain ⟨w2, s2⟩ := w1.grow (o := .tup (ts.map fun t => V.ty (tyn t))) n
        have hb2 : Bor X.K (upd H1 q (.tup (ts.map fun t => V.ty (tyn t)))) true (fun _ => True) v y := r1.bor.keep (fun a u e _ => upd_kept n a u e) fun _ z _ => z
        exact ⟨v, q, _, .type (tyOfD y), _, _, rfl, upd_same, cls_all ts, tyX_of hb2, kit_any X.K y ts, k _ _ F1 Z1 (s1.seq s2 (fun _ h => h) (fun _ h => nomatch h)) w2 (fin_pure (b := true) (P := fun _ => True) rfl (.bl _))⟩
    · cases he
  split at ht
  · exact one ht
  · exact many _ _ _ rfl ht
  · cases ht
end
end Zr

set_option maxRecDepth 100000
set_option maxHeartbeats 8000000
/-! ZrL: targets; what is walked. -/
namespace Zr
open PySem PySem.Spec PyProof.Rows L2

section
variable {K : Fr'} {H H0 H' H1 H2 H3 : Hp} {ρ ρ0 ρ' ρ1 ρ2 : List Slot} {σ σ' σ1 σ2 : L2.St} {F F0 F' F1 F2 : Fa} {Z Z0 Z' Z1 Z2 : Addr → Prop} {E E1 E2 : List Nat}
/-- more may stand -/
theorem W.ext (w : W K H ρ σ F Z) (k : ∀ a o, H a = some o → H' a = some o) : W K H' ρ σ F Z ∧ Step [] H ρ F Z H' ρ F Z := by
  refine ⟨⟨w.len, w.out, fun i s e => (w.slot i s e).keep rfl (fun a o e _ => k a o e) fun _ z _ => z, w.nodup, w.disj, w.zed⟩, fun a o e _ => k a o e, fun a q => ?_, fun _ _ => ⟨rfl, rfl⟩, fun _ _ m => .inl m, fun _ z => .inl z, fun _ z _ => .inl z⟩
  cases e : H a with
  | none => exact absurd e q
  | some u =>
    rw [k a u e]
    exact fun z => nomatch z
/-- owned addresses in flight are given up: the value is only read from now on -/
theorem give_up {B : List Addr} (s : Step E H ρ F Z H' ρ' F' Z') (w : W K H' ρ' σ F' Z') (f : Fl E H F F' Z' B) : Step E H ρ F Z H' ρ' F' (fun a => Z' a ∧ a ∉ B) ∧ W K H' ρ' σ F' (fun a => Z' a ∧ a ∉ B) := by
  refine ⟨⟨s.keep, s.there, s.same, s.own, fun a z => s.zed a z.1, fun a z n => ?_⟩, w.len, w.out, fun i u e => (w.slot i u e).keep rfl (fun _ _ e _ => e) fun a z _ y => z y.1, w.nodup, w.disj, fun i a m => ⟨w.zed i a m, fun q => f.off a q i m⟩⟩
  rcases s.zk a z n with q | q
  · by_cases hb : a ∈ B
    · rcases f.new a hb with h | h
      · exact .inr h
      · exact absurd h n
    · exact .inl ⟨q, hb⟩
  · exact .inr q
/-- .. and how it is read: the predicate that its lists keep -/
def keeps (F : Fa) (Z : Addr → Prop) : Stat → Addr → Prop
  | .loan i, a => a ∈ F i ∨ ¬ Z a
  | .take i, a => a ∈ F i ∨ ¬ Z a
  | _, a => ¬ Z a
theorem VR.read {v : V} {d : D} {st : Stat} (s : Step E H ρ F Z H' ρ' F' Z') (w : W K H' ρ' σ F' Z') (r : VR E K H F H' ρ' σ F' Z' v d st) :
    ∃ Z2, Step E H ρ F Z H' ρ' F' Z2 ∧ W K H' ρ' σ F' Z2 ∧ (∀ a, ¬ Z' a → ¬ Z2 a) ∧ Bor K H' true (keeps F' Z2 st) v d ∧ (noScr st = true → Bor K H' false (keeps F' Z2 st) v d) := by
  obtain ⟨B, q, f⟩ := r
  cases st with
  | fresh =>
    obtain ⟨s2, w2⟩ := give_up s w f
    exact ⟨_, s2, w2, fun a z y => z y.1, Own.bor q fun a m z => z.2 m, fun _ => Own.bor q fun a m z => z.2 m⟩
  | froz => exact ⟨Z', s, w, fun _ z => z, q.2.wide, fun _ => q.2⟩
  | scr => exact ⟨Z', s, w, fun _ z => z, q.2, fun z => nomatch z⟩
  | loan i => exact ⟨Z', s, w, fun _ z => z, q.2.wide, fun _ => q.2⟩
  | take i => exact ⟨Z', s, w, fun _ z => z, Own.bor q.2.2.2 fun a m => .inl m, fun _ => Own.bor q.2.2.2 fun a m => .inl m⟩
/-- what is read stays while the slots E change -/
theorem keeps_stay {st : Stat} (w : W K H ρ σ F Z) (t : Step E H ρ F Z H' ρ' F' Z') (ok : okSt st E = true) : (∀ a o, H a = some o → (Lst o → keeps F Z st a) → H' a = some o) ∧ ∀ a, keeps F Z st a → H a ≠ none → keeps F' Z' st a := by
  cases st with
  | loan i =>
    have hi : i ∉ E := by simpa [okSt] using ok
    refine ⟨fun a o e l => t.keep a o e fun q j hj m => ?_, fun a p n => ?_⟩
    · rcases l q with z | z
      · exact w.disj i j a (fun e => hi (e ▸ hj)) z m
      · exact z (w.zed j a m)
    · rcases p with z | z
      · exact .inl ((t.same i hi).2 ▸ z)
      · exact .inr fun y => (t.zed a y).elim z n
  | take i =>
    have hi : i ∉ E := by simpa [okSt] using ok
    refine ⟨fun a o e l => t.keep a o e fun q j hj m => ?_, fun a p n => ?_⟩
    · rcases l q with z | z
      · exact w.disj i j a (fun e => hi (e ▸ hj)) z m
      · exact z (w.zed j a m)
    · rcases p with z | z
      · exact .inl ((t.same i hi).2 ▸ z)
      · exact .inr fun y => (t.zed a y).elim z n
  | fresh => exact ⟨fun a o e l => t.keep a o e fun q j hj m => l q (w.zed j a m), fun a p n y => (t.zed a y).elim p n⟩
  | froz => exact ⟨fun a o e l => t.keep a o e fun q j hj m => l q (w.zed j a m), fun a p n y => (t.zed a y).elim p n⟩
  | scr => exact ⟨fun a o e l => t.keep a o e fun q j hj m => l q (w.zed j a m), fun a p n y => (t.zed a y).elim p n⟩
/-- an item that may be bound: frozen, or plain -/
theorem item_bor {st : Stat} {xs : List D} {i : Nat} {d : D} {b : Bool} {v : V} (hw : walkOk st xs E = true) (e : xs[i]? = some d) (h : Bor K H b (keeps F Z st) v d) (hb : noScr st = true → Bor K H false (keeps F Z st) v d) : Bor K H false (fun a => ¬ Z a) v d := by
  have pure : purs xs = true → Bor K H false (fun a => ¬ Z a) v d := fun p => (h.own (purs_mem p d (List.mem_of_getElem? e))).bor fun a m => nomatch m
  cases st with
  | fresh => exact hb rfl
  | froz => exact hb rfl
  | scr => exact pure hw
  | loan j => exact pure (by simp only [walkOk, Bool.and_eq_true] at hw; exact hw.1)
  | take j => exact pure (by simp only [walkOk, Bool.and_eq_true] at hw; exact hw.1)
theorem walk_okSt {st : Stat} {xs : List D} (hw : walkOk st xs E = true) : okSt st E = true := by
  cases st with
  | fresh => rfl
  | froz => rfl
  | scr => rfl
  | loan j =>
    simp only [walkOk, Bool.and_eq_true] at hw
    exact hw.2
  | take j =>
    simp only [walkOk, Bool.and_eq_true] at hw
    exact hw.2

/-! ### targets -/
structure SameQ (E : List Nat) (ρ : List Slot) (σ : L2.St) (ρ' : List Slot) (σ' : L2.St) : Prop where
  off : ∀ j : Nat, j ∉ E → σ'[j]? = σ[j]?
  byr : ∀ (j : Nat) (d : D), ρ[j]? = some (Slot.byr d) → ∃ d', ρ'[j]? = some (Slot.byr d') ∧ σ'[j]? = σ[j]?
theorem SameQ.refl : SameQ E ρ σ ρ σ := ⟨fun _ _ => rfl, fun _ d e => ⟨d, e, rfl⟩⟩
theorem SameQ.trans (a : SameQ E1 ρ σ ρ1 σ1) (b : SameQ E2 ρ1 σ1 ρ2 σ2) : SameQ (E1 ++ E2) ρ σ ρ2 σ2 :=
  ⟨fun j hj => (b.off j fun z => hj (mr z)).trans (a.off j fun z => hj (ml z)), fun j d e => by
    obtain ⟨d1, e1, q1⟩ := a.byr j d e
    obtain ⟨d2, e2, q2⟩ := b.byr j d1 e1
    exact ⟨d2, e2, q2.trans q1⟩⟩
theorem SameQ.more (a : SameQ E1 ρ σ ρ' σ') (h : ∀ j ∈ E1, j ∈ E2) : SameQ E2 ρ σ ρ' σ' := ⟨fun j hj => a.off j fun z => hj (h j z), a.byr⟩
/-- a value to be bound: fresh or frozen -/
def InF (E : List Nat) (K : Fr') (H0 : Hp) (F0 : Fa) (H : Hp) (F : Fa) (Z : Addr → Prop) (v : V) (d : D) (B : List Addr) : Stat → Prop
  | .fresh => Own K H v d B ∧ Fl E H0 F0 F Z B
  | .froz => B = [] ∧ Bor K H false (fun a => ¬ Z a) v d
  | _ => False
def tGt (K : Fr') (g : IG) : TG := fun v σ H Q => ∃ E H0 ρ0 F0 Z0 ρ F Z d st ρ' B, Step E H0 ρ0 F0 Z0 H ρ F Z ∧ W K H ρ σ F Z ∧ (∀ j ∈ g.slots, j ∈ E) ∧ bindV g d st ρ = some ρ' ∧ InF E K H0 F0 H F Z v d B st ∧
  ∀ σ' F', Step E H0 ρ0 F0 Z0 H ρ' F' Z → W K H ρ' σ' F' Z → SameQ g.slots ρ σ ρ' σ' → (∀ j a, a ∈ F' j → a ∈ F j ∨ a ∈ B) → Q σ' H
theorem noByr_lt {i : Nat} (h : noByr ρ i = true) : ∃ s, ρ[i]? = some s ∧ ∀ d, s ≠ .byr d := by
  unfold noByr at h
  split at h
  · cases h
  · rename_i s n e
    exact ⟨s, e, fun d z => n d z⟩
  · cases h
theorem bind_slot {i : Nat} {sl sn : Slot} {v : V} {B : List Addr} (s : Step E H0 ρ0 F0 Z0 H ρ F Z) (w : W K H ρ σ F Z) (hi : i ∈ E) (e : ρ[i]? = some sl) (nb : ∀ d, sl ≠ .byr d) (hs : SR K H (fset F i B) Z i (some (some v)) sn) (nd : B.Nodup) (zb : ∀ b ∈ B, Z b) (off : ∀ b ∈ B, ∀ j, b ∉ F j) (new : ∀ b ∈ B, (∃ q ∈ E, b ∈ F0 q) ∨ H0 b = none) :
    Step E H0 ρ0 F0 Z0 H (ρ.set i sn) (fset F i B) Z ∧ W K H (ρ.set i sn) (σ.set i (some v)) (fset F i B) Z ∧ SameQ [i] ρ σ (ρ.set i sn) (σ.set i (some v)) ∧ ∀ j a, a ∈ fset F i B j → a ∈ F j ∨ a ∈ B := by
  have sub : ∀ j a, a ∈ fset F i B j → (a ∈ F j ∧ j ≠ i) ∨ (a ∈ B ∧ j = i) := fun j a m => by
    by_cases hj : j = i
    · subst hj
      rw [fset_same] at m
      exact .inr ⟨m, rfl⟩
    · rw [fset_ne hj] at m
      exact .inl ⟨m, hj⟩
  have hlen : i < ρ.length := (List.getElem?_eq_some_iff.mp e).1
  refine ⟨⟨s.keep, s.there, fun j hj => ?_, fun j a m => ?_, s.zed, s.zk⟩, ⟨by rw [List.length_set, List.length_set]; exact w.len, fun j hj => ?_, fun j u q => ?_, fun j => ?_, fun j l a n m q => ?_, fun j a m => (sub j a m).elim (fun q => w.zed j a q.1) fun q => zb a q.1⟩, ⟨fun j hj => ?_, fun j d q => ?_⟩, fun j a m => (sub j a m).imp (·.1) (·.1)⟩
  · have hn : j ≠ i := fun q => hj (q ▸ hi)
    rw [get_set_ne hn, fset_ne hn]
    exact s.same j hj
  · rcases sub j a m with m | m
    · exact s.own j a m.1
    · exact .inr (new a m.1)
  · have hn : j ≠ i := fun q => by
      rw [List.length_set] at hj
      omega
    rw [fset_ne hn]
    exact w.out j (by rwa [List.length_set] at hj)
  · by_cases hj : j = i
    · subst hj
      rw [get_set_self e] at q
      cases q
      have hv : (σ.set j (some v))[j]? = some (some v) := by
        rw [List.getElem?_set_self (by rw [w.len]; exact hlen)]
      rw [hv]
      exact hs
    · rw [get_set_ne hj] at q
      rw [get_set_ne hj]
      exact (w.slot j u q).keep (fset_ne hj) (fun _ _ e _ => e) fun a z _ => z
  · by_cases hj : j = i
    · rw [hj, fset_same]
      exact nd
    · rw [fset_ne hj]
      exact w.nodup j
  · rcases sub j a m with m | m
    · rcases sub l a q with q | q
      · exact w.disj j l a n m.1 q.1
      · exact off a q.1 j m.1
    · rcases sub l a q with q | q
      · exact off a m.1 l q.1
      · exact n (m.2.trans q.2.symm)
  · have hn : j ≠ i := fun q => hj (by simp [q])
    exact get_set_ne hn
  · have hn : j ≠ i := fun z => by
      subst z
      rw [e] at q
      cases q
      exact nb d rfl
    exact ⟨d, by rw [get_set_ne hn]; exact q, get_set_ne hn⟩
end
theorem _root_.L2.PG.of {X : Cx} {e : Expr} {t t' : TG} (h : PG X e t) (k : ∀ v σ H Q, t' v σ H Q → t v σ H Q) : PG X e t' := ⟨fun pins s σ H v u Q I r q => h.run pins s σ H v u Q I r (k v σ H Q q)⟩
section
variable {X : Cx} {G : Gx} {S : Sx} {C : CallF}
theorem nm_to {K : Fr'} {i : Nat} {v : V} {σ : L2.St} {H : Hp} {Q : L2.St → Hp → Prop} (h : tGt K (.nm i) v σ H Q) : Q (σ.set i (some v)) H := by
  obtain ⟨E, H0, ρ0, F0, Z0, ρ, F, Z, d, st, ρ', B, s, w, hE, hb, hin, k⟩ := h
  simp only [bindV] at hb
  obtain ⟨c, hb⟩ : _ ∧ _ := by
    split at hb
    · rename_i c
      exact ⟨c, hb⟩
    · cases hb
  obtain ⟨sl, e, nb⟩ := noByr_lt c
  have hi : i ∈ E := hE i (by simp [IG.slots])
  cases st with
  | fresh =>
    cases hb
    obtain ⟨ho, fl⟩ := hin
    obtain ⟨s1, w1, sm, sub⟩ := bind_slot (i := i) (sn := if pur d then .pur d else .own d) (B := B) s w hi e nb (by
      by_cases p : pur d = true
      · rw [if_pos p]
        have hB := ho.nil_of p
        exact ⟨by rw [fset_same]; exact hB, p, v, rfl, ho.bor fun _ _ => trivial⟩
      · rw [if_neg p]
        exact ⟨v, rfl, by rw [fset_same]; exact ho⟩) fl.nodup fl.zed fl.off fl.new
    exact k _ _ s1 w1 sm sub
  | froz =>
    cases hb
    obtain ⟨hB, hbor⟩ := hin
    subst hB
    obtain ⟨s1, w1, sm, sub⟩ := bind_slot (i := i) (sn := if pur d then .pur d else .bor d) (B := []) s w hi e nb (by
      by_cases p : pur d = true
      · rw [if_pos p]
        exact ⟨fset_same, p, v, rfl, hbor.imp fun _ _ => trivial⟩
      · rw [if_neg p]
        exact ⟨fset_same, v, rfl, hbor⟩) List.nodup_nil (fun _ m => nomatch m) (fun _ m => nomatch m) (fun _ m => nomatch m)
    exact k _ _ s1 w1 sm sub
  | scr => exact hin.elim
  | loan j => exact hin.elim
  | take j => exact hin.elim
theorem sg_nm (ok : Ok X G S C) {i : Nat} {x : Str} {p : Pos} (h : chkG S (.nm i) (.Name x p) = true) : PG X (.Name x p) (tGt X.K (.nm i)) := by
  simp only [chkG, Bool.and_eq_true, decide_eq_true_eq] at h
  obtain ⟨⟨h1, h2⟩, h3⟩ := h
  obtain ⟨hl, hf⟩ := ok.sto x h2
  refine (pg_name (i := i) (by rw [ok.hN]; exact ok.nd) (by rw [ok.hN]; exact h1) (by rw [ok.sc]; exact hl) (by rw [ok.sc]; exact hf)).of fun v σ H Q h => nm_to h
/-- parts of a tuple that is bound -/
theorem InF.parts {E : List Nat} {K : Fr'} {H0 H : Hp} {F0 F : Fa} {Z : Addr → Prop} {v : V} {ds : List D} {B : List Addr} {st : Stat} (h : InF E K H0 F0 H F Z v (.tuple ds) B st) :
    ∃ a vs, v = .ref a ∧ SqT K H a vs ∧ vs.length = ds.length ∧ ((st = .fresh ∧ OwnL K H vs ds B ∧ Fl E H0 F0 F Z B) ∨ (st = .froz ∧ B = [] ∧ BorL K H false (fun a => ¬ Z a) vs ds)) := by
  cases st with
  | fresh =>
    obtain ⟨ho, fl⟩ := h
    cases ho with
    | tup h t => exact ⟨_, _, rfl, h, t.length, .inl ⟨rfl, t, fl⟩⟩
  | froz =>
    obtain ⟨hB, hb⟩ := h
    obtain ⟨a, vs, e, h, t⟩ := hb.tuple
    exact ⟨a, vs, e, h, t.length, .inr ⟨rfl, hB, t⟩⟩
  | scr => exact h.elim
  | loan j => exact h.elim
  | take j => exact h.elim
/-- the first part, and the others -/
def InFs (E : List Nat) (K : Fr') (H0 : Hp) (F0 : Fa) (H : Hp) (F : Fa) (Z : Addr → Prop) (vs : List V) (ds : List D) (B : List Addr) (st : Stat) : Prop :=
  (st = .fresh ∧ OwnL K H vs ds B ∧ Fl E H0 F0 F Z B) ∨ (st = .froz ∧ B = [] ∧ BorL K H false (fun a => ¬ Z a) vs ds)
theorem InFs.split {E : List Nat} {K : Fr'} {H0 H : Hp} {F0 F : Fa} {Z : Addr → Prop} {vs : List V} {d : D} {ds : List D} {B : List Addr} {st : Stat} (h : InFs E K H0 F0 H F Z vs (d :: ds) B st) :
    ∃ v r B1 B2, vs = v :: r ∧ InF E K H0 F0 H F Z v d B1 st ∧ (∀ a ∈ B1, a ∈ B) ∧ (∀ a ∈ B2, a ∈ B) ∧ ∀ F', (∀ j a, a ∈ F' j → a ∈ F j ∨ a ∈ B1) → InFs E K H0 F0 H F' Z r ds B2 st := by
  rcases h with ⟨e, ho, fl⟩ | ⟨e, hB, hb⟩
  · subst e
    cases ho with
    | cons h t =>
      rename_i v vs A B'
      have nd := List.nodup_append.mp fl.nodup
      exact ⟨v, vs, A, B', rfl, ⟨h, nd.1, fun a m => fl.zed a (ml m), fun a m => fl.off a (ml m), fun a m => fl.new a (ml m)⟩, fun a m => ml m, fun a m => mr m, fun F' sub => .inl ⟨rfl, t, nd.2.1, fun a m => fl.zed a (mr m), fun a m j q => (sub j a q).elim (fl.off a (mr m) j) fun z => nd.2.2 a z a m rfl, fun a m => fl.new a (mr m)⟩⟩
  · subst e
    subst hB
    cases hb with
    | cons h t => exact ⟨_, _, [], [], rfl, ⟨rfl, h⟩, fun a (m : a ∈ []) => (nomatch m), fun a (m : a ∈ []) => (nomatch m), fun F' _ => .inr ⟨rfl, rfl, t⟩⟩
/-- targets, one after another -/
def bindVs : List IG → List D → Stat → Ro → Option Ro
  | [], [], _, ρ => some ρ
  | g :: gs, d :: ds, st, ρ => (bindV g d st ρ).bind (bindVs gs ds st)
  | _, _, _, _ => none
def gsl : List IG → List Nat
  | [] => []
  | g :: gs => g.slots ++ gsl gs
def tGss (K : Fr') (gs : List IG) : TGs := fun vs σ H Q => ∃ E H0 ρ0 F0 Z0 ρ F Z ds st ρ' B, Step E H0 ρ0 F0 Z0 H ρ F Z ∧ W K H ρ σ F Z ∧ (∀ j ∈ gsl gs, j ∈ E) ∧ bindVs gs ds st ρ = some ρ' ∧ InFs E K H0 F0 H F Z vs ds B st ∧
  ∀ σ' F', Step E H0 ρ0 F0 Z0 H ρ' F' Z → W K H ρ' σ' F' Z → SameQ (gsl gs) ρ σ ρ' σ' → (∀ j a, a ∈ F' j → a ∈ F j ∨ a ∈ B) → Q σ' H
theorem sgs_nil : PGs X [] (tGss X.K []) := ⟨fun pins s σ H vs us Q I r ⟨E, H0, ρ0, F0, Z0, ρ, F, Z, ds, st, ρ', B, st1, w, hE, hb, hin, k⟩ => by
  have e : ds = [] ∧ ρ' = ρ := by
    cases ds with
    | nil => simp only [bindVs] at hb; exact ⟨rfl, by cases hb; rfl⟩
    | cons => simp [bindVs] at hb
  obtain ⟨rfl, rfl⟩ := e
  have hv : vs = [] := by
    rcases hin with ⟨_, h, _⟩ | ⟨_, _, h⟩
    · cases h; rfl
    · cases h; rfl
  exact pgs_nil.run pins s σ H vs us Q I r ⟨hv, k σ F st1 w .refl fun _ _ m => .inl m⟩⟩
theorem sgs_cons {g : IG} {gs : List IG} {e : Expr} {es : List Expr} (h1 : PG X e (tGt X.K g)) (h2 : PGs X es (tGss X.K gs)) (hs : notStar e = true) : PGs X (e :: es) (tGss X.K (g :: gs)) := ⟨fun pins s σ H vs us Q I r ⟨E, H0, ρ0, F0, Z0, ρ, F, Z, ds, st, ρ', B, st1, w, hE, hb, hin, k⟩ => by
  refine (pgs_cons h1 h2 (by cases e <;> first | rfl | cases hs)).run pins s σ H vs us Q I r ?_
  cases ds with
  | nil => simp [bindVs] at hb
  | cons d ds =>
    simp only [bindVs] at hb
    cases hb1 : bindV g d st ρ with
    | none => rw [hb1] at hb; cases hb
    | some ρ1 =>
      rw [hb1] at hb
      obtain ⟨v, r2, B1, B2, rfl, hv, sb1, sb2, rest⟩ := hin.split
      refine ⟨v, r2, rfl, E, H0, ρ0, F0, Z0, ρ, F, Z, d, st, ρ1, B1, st1, w, fun j hj => hE j (ml hj), hb1, hv, fun σ1 F1 s1 w1 sm1 f1 => ?_⟩
      refine ⟨E, H0, ρ0, F0, Z0, ρ1, F1, Z, ds, st, ρ', B2, s1, w1, fun j hj => hE j (mr hj), hb, rest F1 f1, fun σ2 F2 s2 w2 sm2 f2 => ?_⟩
      exact k σ2 F2 s2 w2 (sm1.trans sm2) fun j a m => (f2 j a m).elim (fun z => (f1 j a z).imp id (sb1 a)) fun z => .inr (sb2 a z)⟩
theorem assignEach_plain {es : List Expr} {env : Env} (h : es.all notStar = true) : (assignEach es env).length = es.length ∧ (assignEach es env).findIdx? (·.1) = none := by
  have h1 : assignEach es env = es.map fun e => (false, assign e env) := by
    induction es with
    | nil => rfl
    | cons e es ih =>
      simp only [List.all_cons, Bool.and_eq_true] at h
      rw [List.map_cons, ← ih h.2]
      cases e <;> first | rfl | simp [notStar] at h
  rw [h1]
  refine ⟨by simp, ?_⟩
  rw [List.findIdx?_eq_none_iff]
  intro x m
  obtain ⟨e, _, rfl⟩ := List.mem_map.mp m
  rfl
theorem sg_tup (ok : Ok X G S C) {g : IG} {gs : List IG} {es : List Expr} {k : Nat} {p : Pos} (h : PGs X es (tGss X.K gs)) (hst : es.all notStar = true) (hl : gs.length = es.length) (e1 : g.slots = gsl gs) (e2 : ∀ d st ρ ρ', bindV g d st ρ = some ρ' → ∃ ds, d = .tuple ds ∧ ds.length = gs.length ∧ bindVs gs ds st ρ = some ρ') : PG X (.Tuple es k p) (tGt X.K g) := by
  refine (pg_tup (n := es.length) ok.calm h (assignEach_plain hst).1 (assignEach_plain hst).2).of fun v σ H Q ⟨E, H0, ρ0, F0, Z0, ρ, F, Z, d, st, ρ', B, s, w, hE, hb, hin, kk⟩ => ?_
  obtain ⟨ds, rfl, hd, hb⟩ := e2 _ _ _ _ hb
  obtain ⟨a, vs, ev, hq, hlen, hin⟩ := hin.parts
  rw [e1] at hE kk
  exact ⟨a, vs, ev, hq, by omega, E, H0, ρ0, F0, Z0, ρ, F, Z, ds, st, ρ', B, s, w, hE, hb, hin, kk⟩
theorem chkG_star {S : Sx} {g : IG} {e : Expr} (h : chkG S g e = true) : notStar e = true := by
  cases e with
  | Starred => cases g <;> simp [chkG] at h
  | _ => rfl
theorem bind_some {α : Type} (o : Option α) : (o.bind fun x => some x) = o := by cases o <;> rfl
theorem bindV_t1 {a : IG} {d : D} {st : Stat} {ρ ρ' : Ro} (h : bindV (.t1 a) d st ρ = some ρ') : ∃ ds, d = .tuple ds ∧ ds.length = [a].length ∧ bindVs [a] ds st ρ = some ρ' := by
  cases d with
  | tuple ds =>
    cases ds with
    | nil => simp [bindV] at h
    | cons x r =>
      cases r with
      | nil =>
        refine ⟨[x], rfl, rfl, ?_⟩
        simp only [bindV] at h
        show (bindV a x st ρ).bind (fun x => some x) = _
        rw [bind_some]
        exact h
      | cons _ _ => simp [bindV] at h
  | _ => simp [bindV] at h
theorem bindV_t2 {a b : IG} {d : D} {st : Stat} {ρ ρ' : Ro} (h : bindV (.t2 a b) d st ρ = some ρ') : ∃ ds, d = .tuple ds ∧ ds.length = [a, b].length ∧ bindVs [a, b] ds st ρ = some ρ' := by
  cases d with
  | tuple ds =>
    rcases ds with _ | ⟨x, _ | ⟨y, _ | ⟨z, r⟩⟩⟩
    · simp [bindV] at h
    · simp [bindV] at h
    · refine ⟨[x, y], rfl, rfl, ?_⟩
      simp only [bindV] at h
      show (bindV a x st ρ).bind (fun ρ1 => (bindV b y st ρ1).bind fun x => some x) = _
      simp only [bind_some]
      exact h
    · simp [bindV] at h
  | _ => simp [bindV] at h
theorem bindV_t3 {a b c : IG} {d : D} {st : Stat} {ρ ρ' : Ro} (h : bindV (.t3 a b c) d st ρ = some ρ') : ∃ ds, d = .tuple ds ∧ ds.length = [a, b, c].length ∧ bindVs [a, b, c] ds st ρ = some ρ' := by
  cases d with
  | tuple ds =>
    rcases ds with _ | ⟨x, _ | ⟨y, _ | ⟨z, _ | ⟨u, r⟩⟩⟩⟩
    · simp [bindV] at h
    · simp [bindV] at h
    · simp [bindV] at h
    · refine ⟨[x, y, z], rfl, rfl, ?_⟩
      simp only [bindV] at h
      show (bindV a x st ρ).bind (fun ρ1 => (bindV b y st ρ1).bind fun ρ2 => (bindV c z st ρ2).bind fun x => some x) = _
      simp only [bind_some]
      exact h
    · simp [bindV] at h
  | _ => simp [bindV] at h
theorem bindV_t4 {a b c e : IG} {d : D} {st : Stat} {ρ ρ' : Ro} (h : bindV (.t4 a b c e) d st ρ = some ρ') : ∃ ds, d = .tuple ds ∧ ds.length = [a, b, c, e].length ∧ bindVs [a, b, c, e] ds st ρ = some ρ' := by
  cases d with
  | tuple ds =>
    rcases ds with _ | ⟨x, _ | ⟨y, _ | ⟨z, _ | ⟨u, _ | ⟨v, r⟩⟩⟩⟩⟩
    · simp [bindV] at h
    · simp [bindV] at h
    · simp [bindV] at h
    · simp [bindV] at h
    · refine ⟨[x, y, z, u], rfl, rfl, ?_⟩
      simp only [bindV] at h
      show (bindV a x st ρ).bind (fun ρ1 => (bindV b y st ρ1).bind fun ρ2 => (bindV c z st ρ2).bind fun ρ3 => (bindV e u st ρ3).bind fun x => some x) = _
      simp only [bind_some]
      exact h
    · simp [bindV] at h
  | _ => simp [bindV] at h
theorem sg_all (ok : Ok X G S C) : ∀ (g : IG) (e : Expr), chkG S g e = true → PG X e (tGt X.K g)
  | .nm i, e, h => by
    cases e with
    | Name x p => exact sg_nm ok h
    | _ => simp [chkG] at h
  | .t1 a, e, h => by
    unfold chkG at h
    split at h <;> try (rename_i q; cases q)
    · rename_i x k p q
      cases q
      exact sg_tup ok (gs := [a]) (sgs_cons (sg_all ok a _ h) sgs_nil (chkG_star h)) (by simp [chkG_star h]) rfl (by simp [gsl, IG.slots]) fun d st ρ ρ' => bindV_t1
    · cases h
  | .t2 a b, e, h => by
    unfold chkG at h
    split at h <;> try (rename_i q; cases q)
    · rename_i x y k p q
      cases q
      simp only [Bool.and_eq_true] at h
      exact sg_tup ok (gs := [a, b]) (sgs_cons (sg_all ok a _ h.1) (sgs_cons (sg_all ok b _ h.2) sgs_nil (chkG_star h.2)) (chkG_star h.1)) (by simp [chkG_star h.1, chkG_star h.2]) rfl (by simp [gsl, IG.slots]) fun d st ρ ρ' => bindV_t2
    · cases h
  | .t3 a b c, e, h => by
    unfold chkG at h
    split at h <;> try (rename_i q; cases q)
    · rename_i x y z k p q
      cases q
      simp only [Bool.and_eq_true] at h
      exact sg_tup ok (gs := [a, b, c]) (sgs_cons (sg_all ok a _ h.1.1) (sgs_cons (sg_all ok b _ h.1.2) (sgs_cons (sg_all ok c _ h.2) sgs_nil (chkG_star h.2)) (chkG_star h.1.2)) (chkG_star h.1.1)) (by simp [chkG_star h.1.1, chkG_star h.1.2, chkG_star h.2]) rfl (by simp [gsl, IG.slots]) fun d st ρ ρ' => bindV_t3
    · cases h
  | .t4 a b c d, e, h => by
    unfold chkG at h
    split at h <;> try (rename_i q; cases q)
    · rename_i x y z u k p q
      cases q
      simp only [Bool.and_eq_true] at h
      exact sg_tup ok (gs := [a, b, c, d]) (sgs_cons (sg_all ok a _ h.1.1.1) (sgs_cons (sg_all ok b _ h.1.1.2) (sgs_cons (sg_all ok c _ h.1.2) (sgs_cons (sg_all ok d _ h.2) sgs_nil (chkG_star h.2)) (chkG_star h.1.2)) (chkG_star h.1.1.2)) (chkG_star h.1.1.1)) (by simp [chkG_star h.1.1.1, chkG_star h.1.1.2, chkG_star h.1.2, chkG_star h.2]) rfl (by simp [gsl, IG.slots]) fun d st ρ ρ' => bindV_t4
    · cases h
end
end Zr

set_option maxRecDepth 100000
set_option maxHeartbeats 8000000
/-! ZrM: what is walked. -/
namespace Zr
open PySem PySem.Spec PyProof.Rows L2
/-- enumerate(v): its two new cells -/
theorem enum_one {v : Value} {o : Obj} {U : Heap → Prop} (B : Begins v o U) :
    Meets (Builtin.«enumerate.__new__» ⟨[.type "enumerate", v], []⟩) (fun _ R s => U s.heap ∧
      R (.ok (.ret (.ref (s.heap.push o).objs.size))) { s with heap := (s.heap.push o).push { cls := .type "enumerate", data := .fields #[.none, .bool false, .ref s.heap.objs.size, rawInt 0, .none, .none] } }) :=
  .of_wp fun prog w A R s h => by
    obtain ⟨hp, g, d, tk, os⟩ := s
    obtain ⟨u1, h⟩ := h
    have hsub := sub_enumerate
    have walkIt : ∀ {A' : Around} {E : Value → Shared → Prop} {Q : Value → Shared → Prop}, Q (.ref hp.objs.size) ⟨hp.push o, g, d, tk, os⟩ → wpAny (model prog w) A' (pyIter v) Q E ⟨hp, g, d, tk, os⟩ := fun q => B.iter prog w _ _ ⟨hp, g, d, tk, os⟩ _ u1 q
    wp_walk using walkIt
    refine wpAny_stack_any fun st => wpAny_pure ?_
    split
    · rename_i c _ _ _ _ _
      cases (c == Value.type "enumerate")
      · wp_walk using walkIt
        exact ⟨_, rfl, h⟩
      · wp_walk using walkIt
        exact ⟨_, rfl, h⟩
    · wp_walk using walkIt
      exact ⟨_, rfl, h⟩
section
variable {prog : Program} {w : World} {A : Around} {E : Value → Shared → Prop} {s : Shared}
theorem enum_call {v : Value} {o : Obj} {U : Heap → Prop} {Q : Value → Shared → Prop} (B : Begins v o U) (u1 : U s.heap)
    (h : ∀ h', IsEnum h' (s.heap.objs.size + 1) s.heap.objs.size 0 .none → h'.get? s.heap.objs.size = some o → (∀ b ob, s.heap.get? b = some ob → h'.get? b = some ob) → Q (.ref (s.heap.objs.size + 1)) { s with heap := h' }) :
    wpAny (model prog w) A (call (.type "enumerate") [v]) Q E s := by
  refine callType_new F.called_enumerate (by decide) (F.typeCall_enumerate_1 _) (F.newCall_enumerate_1 _) (fun obj => F.args_object_init_2 obj _) F.entry_enumerate_new (enum_one B) ⟨u1, ?_⟩
  have size1 : (s.heap.push o).objs.size = s.heap.objs.size + 1 := Heap.size_push ..
  show _ ∧ _
  rw [size1]
  have there : IsEnum ((s.heap.push o).push { cls := .type "enumerate", data := .fields #[.none, .bool false, .ref s.heap.objs.size, rawInt 0, .none, .none] }) (s.heap.objs.size + 1) s.heap.objs.size 0 .none := by
    have := Heap.get?_push_size (s.heap.push o) (o := { cls := .type "enumerate", data := .fields #[.none, .bool false, .ref s.heap.objs.size, rawInt 0, .none, .none] }) rfl
    rw [size1] at this
    exact this
  exact ⟨⟨_, there, rfl⟩, h _ there (Heap.get?_push_of_some _ (Heap.get?_push_size _ B.free)) fun b ob x => Heap.get?_push_of_some _ (Heap.get?_push_of_some _ x)⟩
end
/-- the tuple at a, each item in a new pair -/
def IteT (K : Fr') (a : Addr) : It :=
  ⟨fun i H => ∃ (xs : List V) (x : V), SqT K H a xs ∧ xs[i]? = some x, fun i H v H' => ∃ T x, v = .ref T ∧ H T = none ∧ H' = upd H T (.tup [.int (i : Nat), x]) ∧ ∀ xs, SqT K H a xs → xs[i]? = some x, fun i H => ∃ xs : List V, SqT K H a xs ∧ xs.length = i⟩
theorem turn_enumT {P : Program} {w : World} {K : Fr'} {elts : List Expr} {kk : Nat} {tpos : Pos} (a e it : Addr) :
    Turn P w K (.Tuple elts kk tpos) (IteT K a) [e, it] e (fun i h => (∃ old, IsEnum h e it ((i : Nat) : Int) old) ∧ h.IsTupleIter it a i ∧ e ≠ it ∧ a ≠ it ∧ a ≠ e) where
  mem := by simp
  obj := fun i h st b hb => by
    obtain ⟨⟨old, he⟩, ⟨o, ho, hc, hd⟩, _⟩ := st
    have two : b = e ∨ b = it := by simpa using hb
    rcases two with rfl | rfl
    · exact ⟨_, he, fun v q => nomatch q⟩
    · exact ⟨o, ho, fun v q => by rw [hd] at q; cases q⟩
  keep := fun i h h' st k => by
    obtain ⟨⟨old, he⟩, hi, n1, n2, n3⟩ := st
    exact ⟨⟨old, k e (by simp) _ he⟩, hi.at fun o q => k it (by simp) o q, n1, n2, n3⟩
  item := by
    intro X hP hw hK hc i pins s σ H E I hf st hg
    subst hP hw hK
    obtain ⟨⟨old, he⟩, hit, hne, hai, hae⟩ := st
    obtain ⟨xs, x, hq, hx⟩ := hg
    obtain ⟨its, rv, p, hz⟩ := I.tuple hq
    obtain ⟨u, hu, ru⟩ := rv.get hx
    have pt : s.heap.IsTuple a its.toArray := p
    have hel : e < s.heap.objs.size := Heap.lt_size he
    have hil : it < s.heap.objs.size := by obtain ⟨_, q, _⟩ := hit; exact Heap.lt_size q
    have small : i < its.toArray.size := by
      have := (List.getElem?_eq_some_iff.mp hu).1
      simpa using this
    refine wpAny_pyNext_enum_itemD (Draws.tuple (A := X.A.in1) (show X.A.handled = none from I.ok.hd hc) it a hai its.toArray) he ⟨hit, pt⟩ small hne (fun z => by
      have two : e = it ∨ e = a := by simpa using z
      rcases two with z | z
      · exact hne z
      · exact hae z.symm) fun y h' tk hy ho hst hT hsz hk => ?_
    have ey : y = u := by
      have z : its.toArray[i]? = some y := hy
      have z2 : its[i]? = some y := by simpa using z
      rw [hu] at z2
      exact (Option.some.inj z2).symm
    subst ey
    refine ⟨_, rfl, wpAny_letOwnedTupleGo_enum (s := { s with heap := h', toks := tk + 1 }) ho fun h2 he2 sb => ?_⟩
    have hT2 : h2.get? s.heap.objs.size = some { cls := .type "tuple", data := .seq #[.int i tk, y] } := (sb.2 _ (Nat.ne_of_gt hel)).trans hT
    have new : ObjOk X.prog X.w (upd H s.heap.objs.size (.tup [.int (i : Nat), x])) h2 s.heap.objs.size (.tup [.int (i : Nat), x]) :=
      ⟨by show 2 ≤ sizeLine; decide, [.int i tk, y], .cons ⟨_, rfl⟩ (.cons ru .nil), ⟨_, hT2, rfl, _, rfl⟩⟩
    have I1 : Inv X pins σ (upd H s.heap.objs.size (.tup [.int (i : Nat), x])) { s with heap := h2, toks := tk + 1 } :=
      I.turnedNew (ch := [e, it]) (fun b ob hb q => (sb.2 b (fun z => hb (by simp [z]))).trans (hk b ob (fun z => hb (by simp [z])) (fun z => hb (by simp [z])) q)) hf (Nat.le_refl _) new
    refine ⟨.ref s.heap.objs.size, _, I1, rfl, ⟨_, x, rfl, I.hok.fresh (Nat.le_refl _), rfl, fun ys hy => by rw [I.tuple_inj hy hq]; exact hx⟩, ⟨⟨y, ?_⟩, hst.1.at fun o q => (sb.2 it (Ne.symm hne)).trans q, hne, hai, hae⟩, fun b hb => ?_⟩
    · have e1 : ((i + 1 : Nat) : Int) = (i : Int) + 1 := by omega
      rw [e1]
      exact he2
    · have lt : b < s.heap.objs.size := by
        have two : b = e ∨ b = it := by simpa using hb
        rcases two with z | z
        · rw [z]; exact hel
        · rw [z]; exact hil
      rw [upd_ne (Nat.ne_of_lt lt)]
      exact (hf b hb).1
  done := by
    intro X hP hw hK hc i pins s σ H E I hf st hg
    subst hP hw hK
    obtain ⟨⟨old, he⟩, hit, hne, hai, hae⟩ := st
    obtain ⟨xs, hq, hx⟩ := hg
    obtain ⟨its, rv, p, hz⟩ := I.tuple hq
    have pt : s.heap.IsTuple a its.toArray := p
    obtain ⟨f0, f1, f2, f3, f4, f5⟩ := hf it (by simp)
    have hl := rv.length
    have same : i = its.toArray.size := by
      rw [List.size_toArray]
      omega
    subst same
    exact wpAny_pyNext_enum_endD (Draws.tuple (A := X.A.in1) (show X.A.handled = none from I.ok.hd hc) it a hai its.toArray) he ⟨hit, pt⟩ fun h' eb => ⟨rfl, I.turned (t' := s.toks) (fun b o hb q => eb b o hb q) f0 f1 f3 f4 f5⟩
  self := fun A i s Q E st h => let ⟨⟨_, he⟩, _⟩ := st; wpAny_pyIter_enum he h
def iEnumT (K : Fr') (ta : TA) : TI := fun σ H R => ta σ H fun vs H1 => ∃ a xs, vs = [.ref a] ∧ SqT K H1 a xs ∧ R (IteT K a) H1
theorem pi_enumT {X : Cx} {e : Expr} {ta : TA} {p pos tpos : Pos} {elts : List Expr} {kk : Nat} (vis : Gl X "enumerate") (free : X.mg "enumerate" = none) (ha : PA X [e] ta) (hs : starEach [e] X.env = [(false, eval e X.env)]) :
    PI X (.Tuple elts kk tpos) (.Call (.Name "enumerate" p) [e] [] pos) (iEnumT X.K ta) := by
  refine ⟨fun pins s σ H R I h => Call_ (ld_blt I vis free boot_enumerate (PyProof.Rows.callWith_type1 (thn (ha.run pos pins s σ H _ I h) fun us s1 ⟨vs, H1, I1, rel, a, xs, ex, hq, q⟩ => ?_) hs rfl))⟩
  subst ex
  cases rel with
  | cons r rr =>
    cases rr
    cases r
    obtain ⟨its, rv, p', hz⟩ := I1.tuple hq
    have pt : s1.heap.IsTuple a its.toArray := p'
    obtain ⟨oa, hoa, _⟩ := id p'
    have la : a < s1.heap.objs.size := Heap.lt_size hoa
    refine enum_call (begins_tuple a its.toArray) pt fun h' he hit hk => wpAny_pyIter_enum he ?_
    have I2 : Inv X pins σ H1 { s1 with heap := h' } := I1.kept (t' := s1.toks) hk
    refine ⟨s1.heap.objs.size + 1, [s1.heap.objs.size + 1, s1.heap.objs.size], _, _, H1, rfl, I2, turn_enumT a (s1.heap.objs.size + 1) s1.heap.objs.size, ⟨⟨.none, he⟩, ⟨_, hit, rfl, rfl⟩, Nat.succ_ne_self _, Nat.ne_of_lt la, Nat.ne_of_lt (Nat.lt_succ_of_lt la)⟩, fun b hb => ?_, q⟩
    have two : b = s1.heap.objs.size + 1 ∨ b = s1.heap.objs.size := by simpa using hb
    have hle : s1.heap.objs.size ≤ b := by
      rcases two with z | z
      · rw [z]
        exact Nat.le_succ _
      · rw [z]
        exact Nat.le_refl _
    exact I1.fpOk hle (I1.hok.fresh hle)

section
variable {K : Fr'} {H H0 H' H1 H2 H3 : Hp} {ρ ρ0 ρ' ρ1 ρ2 : List Slot} {σ σ' σ1 σ2 : L2.St} {F F0 F' F1 F2 : Fa} {Z Z0 Z' Z1 Z2 : Addr → Prop} {E E1 E2 : List Nat}
/-- a value that is read from now on -/
def Rdd (K : Fr') (H : Hp) (F : Fa) (Z : Addr → Prop) (v : V) (d : D) (st : Stat) : Prop := Bor K H (!noScr st) (keeps F Z st) v d
theorem VB.rdd {v : V} {d : D} {st : Stat} {B A : List Addr} (h : VB K H ρ σ F Z v d B st) (sub : ∀ a ∈ B, a ∈ A) : Rdd K H F (fun a => Z a ∧ a ∉ A) v d st := by
  cases st with
  | fresh => exact Own.bor h fun a m z => z.2 (sub a m)
  | froz => exact h.2.imp fun a z (y : Z a ∧ a ∉ A) => z y.1
  | scr => exact h.2.imp fun a z (y : Z a ∧ a ∉ A) => z y.1
  | loan i => exact h.2.imp fun a z => z.imp id fun n (y : Z a ∧ a ∉ A) => n y.1
  | take i => exact Own.bor h.2.2.2 fun a m => .inl m
theorem VLB.rdd {A : List Addr} : ∀ {vs : List V} {ds : Ds} {B : List Addr}, VLB K H ρ σ F Z vs ds B → (∀ a ∈ B, a ∈ A) → ∀ (i : Nat) (v : V) (d : D) (st : Stat), vs[i]? = some v → ds[i]? = some (d, st) → Rdd K H F (fun a => Z a ∧ a ∉ A) v d st
  | _, _, _, .nil, _, i, v, d, st, e, _ => by simp at e
  | _, _, _, .cons h t, sub, 0, v, d, st, e1, e2 => by
    simp at e1 e2
    obtain ⟨rfl, rfl⟩ := e2
    subst e1
    exact h.rdd fun a m => sub a (ml m)
  | _, _, _, .cons h t, sub, i + 1, v, d, st, e1, e2 => VLB.rdd t (fun a m => sub a (mr m)) i v d st (by simpa using e1) (by simpa using e2)
theorem VL.read {vs : List V} {ds : Ds} (s : Step E H ρ F Z H' ρ' F' Z') (w : W K H' ρ' σ F' Z') (r : VL E K H F H' ρ' σ F' Z' vs ds) :
    ∃ Z2, Step E H ρ F Z H' ρ' F' Z2 ∧ W K H' ρ' σ F' Z2 ∧ ∀ (i : Nat) (v : V) (d : D) (st : Stat), vs[i]? = some v → ds[i]? = some (d, st) → Rdd K H' F' Z2 v d st := by
  obtain ⟨B, q, f⟩ := r
  obtain ⟨s2, w2⟩ := give_up s w f
  exact ⟨_, s2, w2, q.rdd fun a m => m⟩
theorem VLB.len : ∀ {vs : List V} {ds : Ds} {B : List Addr}, VLB K H ρ σ F Z vs ds B → vs.length = ds.length
  | _, _, _, .nil => rfl
  | _, _, _, .cons _ t => congrArg (· + 1) t.len
theorem VL.len {vs : List V} {ds : Ds} (r : VL E K H F H' ρ' σ F' Z' vs ds) : vs.length = ds.length := let ⟨_, q, _⟩ := r; q.len

/-- what is read, later: the same datum; its items may be bound -/
theorem Rdd.later {v : V} {d : D} {st : Stat} (r : Rdd K H F Z v d st) (w : W K H ρ σ F Z) (t : Step E H ρ F Z H' ρ' F' Z') (ok : okSt st E = true) : Rdd K H' F' Z' v d st := by
  obtain ⟨k1, k2⟩ := keeps_stay w t ok
  exact Bor.keep k1 k2 r
/-- a heap without some of the owned lists in flight -/
structure Sub (H : Hp) (F : Fa) (Z : Addr → Prop) (Hm : Hp) : Prop where
  sub : ∀ a o, Hm a = some o → H a = some o
  sup : ∀ a o, H a = some o → Hm a = some o ∨ (Lst o ∧ Z a ∧ ∀ j, a ∉ F j)
theorem Sub.refl : Sub H F Z H := ⟨fun _ _ e => e, fun _ _ e => .inl e⟩
theorem W.sub {Hm : Hp} (w : W K H ρ σ F Z) (s : Sub H F Z Hm) : W K Hm ρ σ F Z :=
  ⟨w.len, w.out, fun i sl e => (w.slot i sl e).keep rfl (fun a o e l => (s.sup a o e).elim id fun q => (l q.1).elim (fun z => (q.2.2 i z).elim) fun z => (z q.2.1).elim) fun _ z _ => z, w.nodup, w.disj, w.zed⟩
theorem Rdd.sub {Hm : Hp} {v : V} {d : D} {st : Stat} (r : Rdd K H F Z v d st) (s : Sub H F Z Hm) : Rdd K Hm F Z v d st := by
  refine Bor.keep (P := keeps F Z st) (fun a o e l => (s.sup a o e).elim id fun q => ?_) (fun _ p _ => p) r
  have := l q.1
  cases st with
  | loan i => exact this.elim (fun z => (q.2.2 i z).elim) fun z => (z q.2.1).elim
  | take i => exact this.elim (fun z => (q.2.2 i z).elim) fun z => (z q.2.1).elim
  | fresh => exact (this q.2.1).elim
  | froz => exact (this q.2.1).elim
  | scr => exact (this q.2.1).elim
/-- an iterator over items, while the slots E change -/
def ItR (K : Fr') (J : It) (E : List Nat) (H : Hp) (ρ : List Slot) (F : Fa) (Z : Addr → Prop) (xs : List D) : Prop :=
  ∀ Hm H' ρ' F' Z' σ', Sub H F Z Hm → Step E Hm ρ F Z H' ρ' F' Z' → W K H' ρ' σ' F' Z' →
    (∀ i, i < xs.length → J.go i H') ∧ J.stop xs.length H' ∧ ∀ i x H'', i < xs.length → J.yld i H' x H'' → (∀ a o, H' a = some o → H'' a = some o) ∧ ∃ d, xs[i]? = some d ∧ Bor K H'' false (fun a => ¬ Z' a) x d
/-- items that are read -/
def RddL (K : Fr') (H : Hp) (F : Fa) (Z : Addr → Prop) (vs : List V) (ds : List D) (st : Stat) : Prop := BorL K H (!noScr st) (keeps F Z st) vs ds
theorem Rdd.list {v : V} {ds : List D} {st : Stat} (r : Rdd K H F Z v (.list ds) st) : ∃ a vs, v = .ref a ∧ SqL K H a vs ∧ RddL K H F Z vs ds st := by
  unfold Rdd at r
  cases r with
  | lst h p t => exact ⟨_, _, rfl, .inl (.inl h), t⟩
  | lsk e h t => exact ⟨_, _, rfl, h.sq, t⟩
theorem Rdd.tuple {v : V} {ds : List D} {st : Stat} (r : Rdd K H F Z v (.tuple ds) st) : ∃ a vs, v = .ref a ∧ SqT K H a vs ∧ RddL K H F Z vs ds st := Bor.tuple r
theorem RddL.get {vs : List V} {ds : List D} {st : Stat} {i : Nat} {d : D} (r : RddL K H F Z vs ds st) (e : ds[i]? = some d) : ∃ v, vs[i]? = some v ∧ Rdd K H F Z v d st := BorL.get r e
theorem RddL.len {vs : List V} {ds : List D} {st : Stat} (r : RddL K H F Z vs ds st) : vs.length = ds.length := BorL.length r
theorem Rdd.item {st : Stat} {d : D} {v : V} (hw : walkOk st [d] E = true) (h : Rdd K H F Z v d st) : Bor K H false (fun a => ¬ Z a) v d := item_bor (i := 0) (xs := [d]) hw rfl h fun n => by
  have h2 : Bor K H (!noScr st) (keeps F Z st) v d := h
  rw [n] at h2
  exact h2
theorem walk_at {st : Stat} {xs : List D} {i : Nat} {d : D} (hw : walkOk st xs E = true) (e : xs[i]? = some d) : walkOk st [d] E = true := by
  have p : purs xs = true → purs [d] = true := fun p => purs_of fun y m => by
    rw [List.mem_singleton.mp m]
    exact purs_mem p d (List.mem_of_getElem? e)
  cases st with
  | fresh => rfl
  | froz => rfl
  | scr => exact p hw
  | loan j =>
    simp only [walkOk, Bool.and_eq_true] at hw ⊢
    exact ⟨p hw.1, hw.2⟩
  | take j =>
    simp only [walkOk, Bool.and_eq_true] at hw ⊢
    exact ⟨p hw.1, hw.2⟩
theorem itr_list {v : V} {ds : List D} {st : Stat} (w : W K H ρ σ F Z) (r : Rdd K H F Z v (.list ds) st) (hw : walkOk st ds E = true) : ∃ a xs, v = .ref a ∧ SqL K H a xs ∧ ItR K (Itl K a) E H ρ F Z ds := by
  obtain ⟨a, xs, e, h, t⟩ := r.list
  refine ⟨a, xs, e, h, fun Hm H' ρ' F' Z' σ' sb s w' => ?_⟩
  have r2 := (r.sub sb).later (w.sub sb) s (walk_okSt hw)
  obtain ⟨a2, ys, e2, h2, t2⟩ := r2.list
  rw [e] at e2
  cases e2
  refine ⟨fun i hi => ?_, ⟨ys, h2, Nat.le_of_eq t2.len⟩, fun i x H'' hi y => ?_⟩
  · obtain ⟨x, hx, _⟩ := t2.get (List.getElem?_eq_getElem hi)
    exact ⟨ys, x, h2, hx⟩
  · obtain ⟨x', hx, hr⟩ := t2.get (List.getElem?_eq_getElem hi)
    obtain ⟨eH, q⟩ := y
    subst eH
    have := q ys h2
    rw [hx] at this
    cases this
    exact ⟨fun _ _ e => e, _, List.getElem?_eq_getElem hi, hr.item (walk_at hw (List.getElem?_eq_getElem hi))⟩
theorem itr_tup {v : V} {ds : List D} {st : Stat} (w : W K H ρ σ F Z) (r : Rdd K H F Z v (.tuple ds) st) (hw : walkOk st ds E = true) : ∃ a xs, v = .ref a ∧ SqT K H a xs ∧ ItR K (Itt K a) E H ρ F Z ds := by
  obtain ⟨a, xs, e, h, t⟩ := r.tuple
  refine ⟨a, xs, e, h, fun Hm H' ρ' F' Z' σ' sb s w' => ?_⟩
  have r2 := (r.sub sb).later (w.sub sb) s (walk_okSt hw)
  obtain ⟨a2, ys, e2, h2, t2⟩ := r2.tuple
  rw [e] at e2
  cases e2
  refine ⟨fun i hi => ?_, ⟨ys, h2, Nat.le_of_eq t2.len⟩, fun i x H'' hi y => ?_⟩
  · obtain ⟨x, hx, _⟩ := t2.get (List.getElem?_eq_getElem hi)
    exact ⟨ys, x, h2, hx⟩
  · obtain ⟨x', hx, hr⟩ := t2.get (List.getElem?_eq_getElem hi)
    obtain ⟨eH, q⟩ := y
    subst eH
    have := q ys h2
    rw [hx] at this
    cases this
    exact ⟨fun _ _ e => e, _, List.getElem?_eq_getElem hi, hr.item (walk_at hw (List.getElem?_eq_getElem hi))⟩
theorem itr_str {x : Str} : ItR K (Its x) E H ρ F Z (x.cps.toList.map fun c => .str ⟨#[c]⟩) := fun Hm H' ρ' F' Z' σ' sb s w' => by
  have el : (x.cps.toList.map fun c => PyData.str ⟨#[c]⟩).length = x.cps.size := by simp
  refine ⟨fun i hi => by rw [el] at hi; exact hi, by rw [el]; exact Nat.le_refl _, fun i v H'' hi y => ?_⟩
  obtain ⟨eH, c, hc, ev⟩ := y
  subst eH
  subst ev
  refine ⟨fun _ _ e => e, .str ⟨#[c]⟩, ?_, .str _⟩
  rw [List.getElem?_map, Array.getElem?_toList, hc]
  rfl
theorem itr_rng {lo : Int} {n : Nat} : ItR K (Itr lo n) E H ρ F Z (rangeD lo n) := fun Hm H' ρ' F' Z' σ' sb s w' => by
  have el : (rangeD lo n).length = n := by simp [rangeD]
  refine ⟨fun i hi => by rw [el] at hi; exact hi, by rw [el]; exact Nat.le_refl _, fun i v H'' hi y => ?_⟩
  obtain ⟨eH, ev⟩ := y
  subst eH
  subst ev
  rw [el] at hi
  refine ⟨fun _ _ e => e, .int (lo + (i : Int)), ?_, .int _⟩
  simp [rangeD, hi]
theorem enumD_get : ∀ {xs : List D} {k i : Nat}, (enumD k xs)[i]? = xs[i]?.map fun d => .tuple [.int ((k + i : Nat) : Int), d]
  | [], k, i => by simp [enumD]
  | x :: xs, k, 0 => by simp [enumD]
  | x :: xs, k, i + 1 => by
    simp only [enumD, List.getElem?_cons_succ]
    rw [enumD_get]
    have : k + 1 + i = k + (i + 1) := by omega
    rw [this]
theorem enumD_length : ∀ {xs : List D} {k : Nat}, (enumD k xs).length = xs.length
  | [], _ => rfl
  | x :: xs, k => by simp [enumD, enumD_length]
theorem zipD_get : ∀ {xs ys : List D} {i : Nat} {x y : D}, xs[i]? = some x → ys[i]? = some y → (zipD xs ys)[i]? = some (.tuple [x, y])
  | [], _, _, _, _, e, _ => by simp at e
  | _ :: _, [], _, _, _, _, e => by simp at e
  | x :: xs, y :: ys, 0, _, _, e, e2 => by
    simp at e e2
    subst e
    subst e2
    rfl
  | x :: xs, y :: ys, i + 1, _, _, e, e2 => by
    simp only [zipD, List.getElem?_cons_succ]
    exact zipD_get (by simpa using e) (by simpa using e2)
theorem zipD_length : ∀ {xs ys : List D}, (zipD xs ys).length = min xs.length ys.length
  | [], _ => by simp [zipD]
  | _ :: _, [] => by simp [zipD]
  | x :: xs, y :: ys => by
    simp only [zipD, List.length_cons, zipD_length]
    omega
theorem enum_walk {st : Stat} {xs : List D} {k : Nat} (h : walkOk st (enumD k xs) E = true) : walkOk st xs E = true := by
  have p : ∀ (xs : List D) (k : Nat), purs (enumD k xs) = true → purs xs = true := by
    intro xs
    induction xs with
    | nil => intro _ _; rfl
    | cons x xs ih =>
      intro k h
      simp only [enumD, purs, pur, Bool.and_eq_true] at h ⊢
      exact ⟨h.1.2.1, ih _ h.2⟩
  cases st with
  | fresh => rfl
  | froz => rfl
  | scr => exact p _ _ h
  | loan j =>
    simp only [walkOk, Bool.and_eq_true] at h ⊢
    exact ⟨p _ _ h.1, h.2⟩
  | take j =>
    simp only [walkOk, Bool.and_eq_true] at h ⊢
    exact ⟨p _ _ h.1, h.2⟩
theorem bor_pair {x y : V} {d e : D} {T : Addr} {P : Addr → Prop} (hT : H T = none) (hx : Bor K H false P x d) (hy : Bor K H false P y e) : Bor K (upd H T (.tup [x, y])) false P (.ref T) (.tuple [d, e]) :=
  .tup (.inl (.inl upd_same)) (.cons (hx.keep (fun a u e _ => upd_kept hT a u e) fun _ p _ => p) (.cons (hy.keep (fun a u e _ => upd_kept hT a u e) fun _ p _ => p) .nil))
theorem itr_enum {v : V} {ds : List D} {st : Stat} (w : W K H ρ σ F Z) (r : Rdd K H F Z v (.list ds) st) (hw : walkOk st (enumD 0 ds) E = true) : ∃ a xs, v = .ref a ∧ SqL K H a xs ∧ ItR K (Ite K a) E H ρ F Z (enumD 0 ds) := by
  obtain ⟨a, xs, e, h, t⟩ := r.list
  have hw := enum_walk hw
  refine ⟨a, xs, e, h, fun Hm H' ρ' F' Z' σ' sb s w' => ?_⟩
  have r2 := (r.sub sb).later (w.sub sb) s (walk_okSt hw)
  obtain ⟨a2, ys, e2, h2, t2⟩ := r2.list
  rw [e] at e2
  cases e2
  refine ⟨fun i hi => ?_, ⟨ys, h2, by rw [enumD_length]; exact Nat.le_of_eq t2.len⟩, fun i x H'' hi y => ?_⟩
  · rw [enumD_length] at hi
    obtain ⟨x, hx, _⟩ := t2.get (List.getElem?_eq_getElem hi)
    exact ⟨ys, x, h2, hx⟩
  · rw [enumD_length] at hi
    obtain ⟨x', hx, hr⟩ := t2.get (List.getElem?_eq_getElem hi)
    obtain ⟨T, z, ez, hT, eH, q⟩ := y
    subst ez
    subst eH
    have := q ys h2
    rw [hx] at this
    cases this
    refine ⟨fun b o q => upd_kept hT b o q, .tuple [.int (i : Int), ds[i]], ?_, bor_pair hT (.int _) (hr.item (walk_at hw (List.getElem?_eq_getElem hi)))⟩
    rw [enumD_get, List.getElem?_eq_getElem hi]
    simp
theorem itr_enumT {v : V} {ds : List D} {st : Stat} (w : W K H ρ σ F Z) (r : Rdd K H F Z v (.tuple ds) st) (hw : walkOk st (enumD 0 ds) E = true) : ∃ a xs, v = .ref a ∧ SqT K H a xs ∧ ItR K (IteT K a) E H ρ F Z (enumD 0 ds) := by
  obtain ⟨a, xs, e, h, t⟩ := r.tuple
  have hw := enum_walk hw
  refine ⟨a, xs, e, h, fun Hm H' ρ' F' Z' σ' sb s w' => ?_⟩
  have r2 := (r.sub sb).later (w.sub sb) s (walk_okSt hw)
  obtain ⟨a2, ys, e2, h2, t2⟩ := r2.tuple
  rw [e] at e2
  cases e2
  refine ⟨fun i hi => ?_, ⟨ys, h2, by rw [enumD_length]; exact t2.len⟩, fun i x H'' hi y => ?_⟩
  · rw [enumD_length] at hi
    obtain ⟨x, hx, _⟩ := t2.get (List.getElem?_eq_getElem hi)
    exact ⟨ys, x, h2, hx⟩
  · rw [enumD_length] at hi
    obtain ⟨x', hx, hr⟩ := t2.get (List.getElem?_eq_getElem hi)
    obtain ⟨T, z, ez, hT, eH, q⟩ := y
    subst ez
    subst eH
    have := q ys h2
    rw [hx] at this
    cases this
    refine ⟨fun b o q => upd_kept hT b o q, .tuple [.int (i : Int), ds[i]], ?_, bor_pair hT (.int _) (hr.item (walk_at hw (List.getElem?_eq_getElem hi)))⟩
    rw [enumD_get, List.getElem?_eq_getElem hi]
    simp
theorem walk_two {st : Stat} {x y : D} (h : walkOk st [.tuple [x, y]] E = true) : walkOk st [x] E = true ∧ walkOk st [y] E = true := by
  cases st with
  | fresh => exact ⟨rfl, rfl⟩
  | froz => exact ⟨rfl, rfl⟩
  | scr =>
    simp only [walkOk, purs, pur, Bool.and_eq_true] at h ⊢
    exact ⟨⟨h.1.1, trivial⟩, h.1.2⟩
  | loan j =>
    simp only [walkOk, purs, pur, Bool.and_eq_true] at h ⊢
    exact ⟨⟨⟨h.1.1.1, trivial⟩, h.2⟩, h.1.1.2, h.2⟩
  | take j =>
    simp only [walkOk, purs, pur, Bool.and_eq_true] at h ⊢
    exact ⟨⟨⟨h.1.1.1, trivial⟩, h.2⟩, h.1.1.2, h.2⟩
theorem itr_zip {v u : V} {ds es : List D} {sx sy : Stat} (w : W K H ρ σ F Z) (r : Rdd K H F Z v (.list ds) sx) (q : Rdd K H F Z u (.list es) sy) (h1 : walkOk sx (zipD ds es) E = true) (h2 : walkOk sy (zipD ds es) E = true) :
    ∃ a b xs ys, v = .ref a ∧ u = .ref b ∧ SqL K H a xs ∧ SqL K H b ys ∧ ItR K (Itz K a b) E H ρ F Z (zipD ds es) := by
  obtain ⟨a, xs, e, ha, _⟩ := r.list
  obtain ⟨b, ys, f, hb, _⟩ := q.list
  refine ⟨a, b, xs, ys, e, f, ha, hb, fun Hm H' ρ' F' Z' σ' sb s w' => ?_⟩
  obtain ⟨a2, xs, e2, hx, tx⟩ := ((r.sub sb).later (w.sub sb) s (walk_okSt h1)).list
  obtain ⟨b2, ys, f2, hy, ty⟩ := ((q.sub sb).later (w.sub sb) s (walk_okSt h2)).list
  rw [e] at e2
  cases e2
  rw [f] at f2
  cases f2
  have le : ∀ {i}, i < (zipD ds es).length → i < ds.length ∧ i < es.length := fun h => by rw [zipD_length] at h; omega
  refine ⟨fun i hi => ?_, ⟨xs, ys, hx, hy, by rw [zipD_length, tx.len, ty.len]; omega⟩, fun i x H'' hi y => ?_⟩
  · obtain ⟨x, gx, _⟩ := tx.get (List.getElem?_eq_getElem (le hi).1)
    obtain ⟨y, gy, _⟩ := ty.get (List.getElem?_eq_getElem (le hi).2)
    exact ⟨xs, ys, x, y, hx, hy, gx, gy⟩
  · have p1 := List.getElem?_eq_getElem (le hi).1
    have p2 := List.getElem?_eq_getElem (le hi).2
    obtain ⟨x1, gx, rx⟩ := tx.get p1
    obtain ⟨y1, gy, ry⟩ := ty.get p2
    obtain ⟨T, z1, z2, ez, hT, eH, q1, q2⟩ := y
    subst ez
    subst eH
    have t1 := q1 xs hx
    rw [gx] at t1
    cases t1
    have t2 := q2 ys hy
    rw [gy] at t2
    cases t2
    have p3 := zipD_get p1 p2
    exact ⟨fun b o q => upd_kept hT b o q, _, p3, bor_pair hT (rx.item (walk_two (walk_at h1 p3)).1) (ry.item (walk_two (walk_at h2 p3)).2)⟩
theorem itr_zipT {v u : V} {ds es : List D} {sx sy : Stat} (w : W K H ρ σ F Z) (r : Rdd K H F Z v (.tuple ds) sx) (q : Rdd K H F Z u (.tuple es) sy) (h1 : walkOk sx (zipD ds es) E = true) (h2 : walkOk sy (zipD ds es) E = true) :
    ∃ a b xs ys, v = .ref a ∧ u = .ref b ∧ SqT K H a xs ∧ SqT K H b ys ∧ ItR K (RZ.ItzT K a b) E H ρ F Z (zipD ds es) := by
  obtain ⟨a, xs, e, ha, _⟩ := r.tuple
  obtain ⟨b, ys, f, hb, _⟩ := q.tuple
  refine ⟨a, b, xs, ys, e, f, ha, hb, fun Hm H' ρ' F' Z' σ' sb s w' => ?_⟩
  obtain ⟨a2, xs, e2, hx, tx⟩ := ((r.sub sb).later (w.sub sb) s (walk_okSt h1)).tuple
  obtain ⟨b2, ys, f2, hy, ty⟩ := ((q.sub sb).later (w.sub sb) s (walk_okSt h2)).tuple
  rw [e] at e2
  cases e2
  rw [f] at f2
  cases f2
  have le : ∀ {i}, i < (zipD ds es).length → i < ds.length ∧ i < es.length := fun h => by rw [zipD_length] at h; omega
  refine ⟨fun i hi => ?_, ⟨xs, ys, hx, hy, by rw [zipD_length, tx.len, ty.len]; omega⟩, fun i x H'' hi y => ?_⟩
  · obtain ⟨x, gx, _⟩ := tx.get (List.getElem?_eq_getElem (le hi).1)
    obtain ⟨y, gy, _⟩ := ty.get (List.getElem?_eq_getElem (le hi).2)
    exact ⟨xs, ys, x, y, hx, hy, gx, gy⟩
  · have p1 := List.getElem?_eq_getElem (le hi).1
    have p2 := List.getElem?_eq_getElem (le hi).2
    obtain ⟨x1, gx, rx⟩ := tx.get p1
    obtain ⟨y1, gy, ry⟩ := ty.get p2
    obtain ⟨T, z1, z2, ez, hT, eH, q1, q2⟩ := y
    subst ez
    subst eH
    have t1 := q1 xs hx
    rw [gx] at t1
    cases t1
    have t2 := q2 ys hy
    rw [gy] at t2
    cases t2
    have p3 := zipD_get p1 p2
    exact ⟨fun b o q => upd_kept hT b o q, _, p3, bor_pair hT (rx.item (walk_two (walk_at h1 p3)).1) (ry.item (walk_two (walk_at h2 p3)).2)⟩
end
/-- what a walked thing does -/
def tIt (K : Fr') (C : CallF) (it : II) : TI := fun σ H R => ∃ ρ F Z xs sts ρ', W K H ρ σ F Z ∧ evI C it ρ = some (xs, sts, ρ') ∧
  ∀ J H' F' Z', Step (effI it) H ρ F Z H' ρ' F' Z' → W K H' ρ' σ F' Z' → (∀ E, sts.all (walkOk · xs E) = true → ItR K J E H' ρ' F' Z' xs) → R J H'
section
variable {X : Cx} {G : Gx} {S : Sx} {C : CallF} {tg : Expr}
theorem VL.one {E : List Nat} {K : Fr'} {H H' : Hp} {F F' : Fa} {ρ' : List Slot} {σ : L2.St} {Z' : Addr → Prop} {v : V} {d : D} {st : Stat} (r : VR E K H F H' ρ' σ F' Z' v d st) : VL E K H F H' ρ' σ F' Z' [v] [(d, st)] := by
  obtain ⟨B, q, f⟩ := r
  exact ⟨B ++ [], .cons q .nil, by rw [List.append_nil]; exact f⟩
theorem all_one {st : Stat} {xs : List D} {E : List Nat} (h : [st].all (walkOk · xs E) = true) : walkOk st xs E = true := by simpa using h
theorem all_two {st st2 : Stat} {xs : List D} {E : List Nat} (h : [st, st2].all (walkOk · xs E) = true) : walkOk st xs E = true ∧ walkOk st2 xs E = true := by simpa using h
theorem si_seq {a : IE} {x : Expr} (ha : PE X x (tE X.K C a)) : PI X tg x (tIt X.K C (.seq a)) := by
  refine ⟨fun pins s σ H R I ⟨ρ, F, Z, xs, sts, ρ', w, he, k⟩ => ?_⟩
  simp only [evI] at he
  split at he
  · rename_i d st ρ1 ea
    split at he
    · rename_i ys ei
      cases he
      cases d with
      | list ds =>
        simp only [itemsOf] at ei
        cases ei
        refine (pi_list ha).run pins s σ H R I ⟨ρ, F, Z, _, st, _, w, ea, fun v H1 F1 Z1 s1 w1 r1 => ?_⟩
        obtain ⟨Z2, s2, w2, rd⟩ := (VL.one r1).read s1 w1
        have rd := rd 0 v _ _ rfl rfl
        obtain ⟨a, vs, e, h, _⟩ := rd.list
        refine ⟨a, e, ⟨vs, h⟩, k _ H1 F1 Z2 s2 w2 fun E hE => ?_⟩
        obtain ⟨a2, xs, e2, h2, ir⟩ := itr_list w2 rd (all_one hE)
        rw [e] at e2
        cases e2
        exact ir
      | tuple ds =>
        simp only [itemsOf] at ei
        cases ei
        refine (pi_tup ha).run pins s σ H R I ⟨ρ, F, Z, _, st, _, w, ea, fun v H1 F1 Z1 s1 w1 r1 => ?_⟩
        obtain ⟨Z2, s2, w2, rd⟩ := (VL.one r1).read s1 w1
        have rd := rd 0 v _ _ rfl rfl
        obtain ⟨a, vs, e, h, _⟩ := rd.tuple
        refine ⟨a, e, ⟨vs, h⟩, k _ H1 F1 Z2 s2 w2 fun E hE => ?_⟩
        obtain ⟨a2, xs, e2, h2, ir⟩ := itr_tup w2 rd (all_one hE)
        rw [e] at e2
        cases e2
        exact ir
      | str z =>
        simp only [itemsOf] at ei
        cases ei
        refine (pi_str ha).run pins s σ H R I ⟨ρ, F, Z, _, st, _, w, ea, fun v H1 F1 Z1 s1 w1 r1 => ?_⟩
        have hb := r1.bor
        cases hb
        exact ⟨z, rfl, k _ H1 F1 Z1 s1 w1 fun E hE => itr_str⟩
      | _ => simp [itemsOf] at ei
    · cases he
  · cases he
theorem bltB_ok (ok : Ok X G S C) {f : Str} (hb : bltB G S f = true) : Gl X f ∧ X.mg f = none := by
  unfold bltB gloB at hb
  simp only [Bool.and_eq_true] at hb
  exact ⟨glB_ok ok hb.1.1, ok.blt f (by simpa using hb.2)⟩
theorem int_of {K : Fr'} {H : Hp} {b : Bool} {P : Addr → Prop} {v : V} {i : Int} (h : Bor K H b P v (.int i)) : v = .int i := by
  cases h
  rfl
theorem lim_i : (lim : Int) = 1000000 := rfl
theorem evs_two {a b : IE} {ρ ρ1 ρ2 : Ro} {d e : D} {sx sy : Stat} (ea : ev C a ρ = some (d, sx, ρ1)) (eb : ev C b ρ1 = some (e, sy, ρ2)) (c : okSt sx (effE b) = true) : evs C (.cons a (.cons b .nil)) ρ = some ([(d, sx), (e, sy)], ρ2) := by
  have h : okSt sx (effs (.cons b .nil)) = true := by
    simp only [effs, List.append_nil]
    exact c
  have h2 : okSt sy (effs .nil) = true := by cases sy <;> rfl
  simp only [evs, ea, eb, h2, if_true]
  rw [if_pos h]
theorem two_eff {a b : IE} : ∀ j ∈ effs (.cons a (.cons b .nil)), j ∈ effE a ++ effE b := fun j m => by simpa [effs] using m
theorem si_rng1 (ok : Ok X G S C) {a : IE} {x : Expr} {f : Str} {p pos : Pos} (hf : f = ("range" : Str)) (hb : bltB G S f = true) (hx : notStar x = true) (ha : PE X x (tE X.K C a)) : PI X tg (.Call (.Name f p) [x] [] pos) (tIt X.K C (.rng1 a)) := by
  subst hf
  obtain ⟨h1, h2⟩ := bltB_ok ok hb
  refine ⟨fun pins s σ H R I ⟨ρ, F, Z, xs, sts, ρ', w, he, k⟩ => ?_⟩
  simp only [evI] at he
  split at he
  · rename_i j st ρ1 ea
    split at he
    · rename_i c
      cases he
      refine (pi_range1 h1 h2 (sa_cons hx ha sa_nil) (star_of hx)).run pins s σ H R I ⟨ρ, F, Z, [(.int j, st)], ρ', w, ?_, fun vs H1 F1 Z1 s1 w1 r1 => ?_⟩
      · have h2 : okSt st (effs .nil) = true := by cases st <;> rfl
        simp only [evs, ea, h2, if_true]
      · have hb := r1.bor
        cases hb with
        | cons h t =>
          cases t
          rw [int_of h]
          have := lim_i
          refine ⟨j, rfl, by omega, by omega, k _ H1 F1 Z1 (s1.more fun q m => by simpa [effs, effI] using m) w1 fun E hE => ?_⟩
          exact itr_rng
    · cases he
  · cases he
theorem si_rng2 (ok : Ok X G S C) {a b : IE} {x y : Expr} {f : Str} {p pos : Pos} (hf : f = ("range" : Str)) (hb : bltB G S f = true) (hx : notStar x = true) (hy : notStar y = true) (ha : PE X x (tE X.K C a)) (hbb : PE X y (tE X.K C b)) : PI X tg (.Call (.Name f p) [x, y] [] pos) (tIt X.K C (.rng2 a b)) := by
  subst hf
  obtain ⟨h1, h2⟩ := bltB_ok ok hb
  refine ⟨fun pins s σ H R I ⟨ρ, F, Z, xs, sts, ρ', w, he, k⟩ => ?_⟩
  simp only [evI] at he
  split at he
  · rename_i i st ρ1 ea
    split at he
    · rename_i j st2 ρ2 eb
      split at he
      · rename_i c
        cases he
        refine (pi_range2 h1 h2 (sa_cons hx ha (sa_cons hy hbb sa_nil)) (by rw [star_of hx, star_of hy]; rfl) (star_of hy)).run pins s σ H R I ⟨ρ, F, Z, [(.int i, st), (.int j, st2)], ρ', w, evs_two ea eb c.1, fun vs H1 F1 Z1 s1 w1 r1 => ?_⟩
        have hb := r1.bor
        cases hb with
        | cons h t =>
          cases t with
          | cons h' t =>
            cases t
            rw [int_of h, int_of h']
            have := lim_i
            exact ⟨i, j, rfl, by omega, k _ H1 F1 Z1 (s1.more two_eff) w1 fun E hE => itr_rng⟩
      · cases he
    · cases he
  · cases he
theorem si_enum (ok : Ok X G S C) {a : IE} {x : Expr} {f : Str} {p pos tp : Pos} {elts : List Expr} {kk : Nat} (hf : f = ("enumerate" : Str)) (hb : bltB G S f = true) (hx : notStar x = true) (ha : PE X x (tE X.K C a)) : PI X (.Tuple elts kk tp) (.Call (.Name f p) [x] [] pos) (tIt X.K C (.enum a)) := by
  subst hf
  obtain ⟨h1, h2⟩ := bltB_ok ok hb
  refine ⟨fun pins s σ H R I ⟨ρ, F, Z, xs, sts, ρ', w, he, k⟩ => ?_⟩
  simp only [evI] at he
  split at he
  · rename_i d st ρ1 ea
    split at he
    · rename_i ds
      cases he
      refine (pi_enum h1 h2 (sa_cons hx ha sa_nil) (star_of hx)).run pins s σ H R I ⟨ρ, F, Z, [(.list ds, st)], ρ', w, ?_, fun vs H1 F1 Z1 s1 w1 r1 => ?_⟩
      · have h2 : okSt st (effs .nil) = true := by cases st <;> rfl
        simp only [evs, ea, h2, if_true]
      · obtain ⟨Z2, s2, w2, rd⟩ := r1.read s1 w1
        obtain ⟨v, rfl⟩ : ∃ v, vs = [v] := by
          have := r1.len
          match vs, this with
          | [v], _ => exact ⟨v, rfl⟩
        have rd := rd 0 v _ _ rfl rfl
        obtain ⟨a, vs, e, h, _⟩ := rd.list
        refine ⟨a, vs, by rw [e], h, k _ H1 F1 Z2 (s2.more fun q m => by simpa [effs, effI] using m) w2 fun E hE => ?_⟩
        obtain ⟨a2, xs, e2, h2, ir⟩ := itr_enum w2 rd (all_one hE)
        rw [e] at e2
        cases e2
        exact ir
    · rename_i ds
      cases he
      refine (pi_enumT h1 h2 (sa_cons hx ha sa_nil) (star_of hx)).run pins s σ H R I ⟨ρ, F, Z, [(.tuple ds, st)], ρ', w, ?_, fun vs H1 F1 Z1 s1 w1 r1 => ?_⟩
      · have h2 : okSt st (effs .nil) = true := by cases st <;> rfl
        simp only [evs, ea, h2, if_true]
      · obtain ⟨Z2, s2, w2, rd⟩ := r1.read s1 w1
        obtain ⟨v, rfl⟩ : ∃ v, vs = [v] := by
          have := r1.len
          match vs, this with
          | [v], _ => exact ⟨v, rfl⟩
        have rd := rd 0 v _ _ rfl rfl
        obtain ⟨a, vs, e, h, _⟩ := rd.tuple
        refine ⟨a, vs, by rw [e], h, k _ H1 F1 Z2 (s2.more fun q m => by simpa [effs, effI] using m) w2 fun E hE => ?_⟩
        obtain ⟨a2, xs, e2, h2, ir⟩ := itr_enumT w2 rd (all_one hE)
        rw [e] at e2
        cases e2
        exact ir
    · cases he
  · cases he
theorem si_zip (ok : Ok X G S C) {a b : IE} {x y : Expr} {f : Str} {p pos tp : Pos} {elts : List Expr} {kk : Nat} (hf : f = ("zip" : Str)) (hb : bltB G S f = true) (hx : notStar x = true) (hy : notStar y = true) (ha : PE X x (tE X.K C a)) (hbb : PE X y (tE X.K C b)) : PI X (.Tuple elts kk tp) (.Call (.Name f p) [x, y] [] pos) (tIt X.K C (.zip a b)) := by
  subst hf
  obtain ⟨h1, h2⟩ := bltB_ok ok hb
  refine ⟨fun pins s σ H R I ⟨ρ, F, Z, xs, sts, ρ', w, he, k⟩ => ?_⟩
  simp only [evI] at he
  split at he
  · rename_i d sx ρ1 ea
    split at he
    · rename_i e sy ρ2 eb
      split at he
      · rename_i c
        refine (RZ.pi_zipA h1 h2 (sa_cons hx ha (sa_cons hy hbb sa_nil)) (star_of hx) (pl_of (by simp [hy]))).run pins s σ H R I ⟨ρ, F, Z, [(d, sx), (e, sy)], ρ2, w, evs_two ea eb c, fun vs H1 F1 Z1 s1 w1 r1 => ?_⟩
        obtain ⟨Z2, s2, w2, rd⟩ := r1.read s1 w1
        obtain ⟨v, u, rfl⟩ : ∃ v u, vs = [v, u] := by
          have := r1.len
          match vs, this with
          | [v, u], _ => exact ⟨v, u, rfl⟩
        have rd1 := rd 0 v _ _ rfl rfl
        have rd2 := rd 1 u _ _ rfl rfl
        have s3 : Step (effI (.zip a b)) H ρ F Z H1 ρ2 F1 Z2 := s2.more two_eff
        cases d with
        | list ds =>
          cases e with
          | list es =>
            cases he
            obtain ⟨p1, xs, e1, g1, _⟩ := rd1.list
            obtain ⟨p2, ys, e2, g2, _⟩ := rd2.list
            refine ⟨p1, p2, xs, ys, by rw [e1, e2], .inl ⟨g1, g2, k _ H1 F1 Z2 s3 w2 fun E hE => ?_⟩⟩
            obtain ⟨q1, q2, _, _, e3, e4, _, _, ir⟩ := itr_zip w2 rd1 rd2 (all_two hE).1 (all_two hE).2
            rw [e1] at e3
            rw [e2] at e4
            cases e3
            cases e4
            exact ir
          | _ => simp at he
        | tuple ds =>
          cases e with
          | tuple es =>
            cases he
            obtain ⟨p1, xs, e1, g1, _⟩ := rd1.tuple
            obtain ⟨p2, ys, e2, g2, _⟩ := rd2.tuple
            refine ⟨p1, p2, xs, ys, by rw [e1, e2], .inr ⟨g1, g2, k _ H1 F1 Z2 s3 w2 fun E hE => ?_⟩⟩
            obtain ⟨q1, q2, _, _, e3, e4, _, _, ir⟩ := itr_zipT w2 rd1 rd2 (all_two hE).1 (all_two hE).2
            rw [e1] at e3
            rw [e2] at e4
            cases e3
            cases e4
            exact ir
          | _ => simp at he
        | _ => cases e <;> simp at he
      · cases he
    · cases he
  · cases he
end
end Zr

set_option maxRecDepth 100000
set_option maxHeartbeats 8000000
/-! ZrN: list comprehensions. -/
namespace Zr
open PySem PySem.Spec PyProof.Rows L2

section
variable {K : Fr'} {Hs H H0 H' H1 H2 H3 : Hp} {ρs ρ ρ0 ρ' ρ1 ρ2 : List Slot} {σ σ' σ1 σ2 : L2.St} {Fs F F0 F' F1 F2 : Fa} {Zs Z Z0 Z' Z1 Z2 : Addr → Prop} {E E1 E2 : List Nat}
/-- the heaps that a growing list is told from -/
abbrev Bases := Hp → List Slot → Fa → (Addr → Prop) → Prop
/-- the new list, while it grows -/
structure Acc (E : List Nat) (K : Fr') (Bs : Bases) (q : Addr) (H : Hp) (ρ : List Slot) (σ : L2.St) (F : Fa) (Z : Addr → Prop) (ys : List D) : Prop where
  w : W K H ρ σ F Z
  hs : ∀ Hb ρb Fb Zb, Bs Hb ρb Fb Zb → Hb q = none
  step : ∀ Hb ρb Fb Zb, Bs Hb ρb Fb Zb → Step E Hb ρb Fb Zb H ρ F Z
  r : ∃ A, Own K H (.ref q) (.list ys) A ∧ Off F Z A ∧ ∀ Hb ρb Fb Zb, Bs Hb ρb Fb Zb → ∀ a ∈ A, (∃ i ∈ E, a ∈ Fb i) ∨ Hb a = none
variable {q : Addr} {ys : List D} {Bs : Bases}
theorem Off.over {B : List Addr} (f : Off F Z B) (t : Step E H ρ F Z H' ρ' F' Z') (tr : ∀ a ∈ B, H a ≠ none) : Off F' Z' B :=
  ⟨f.nodup, fun a m => (t.zk a (f.zed a m) (tr a m)).elim id fun ⟨i, _, q⟩ => (f.off a m i q).elim, fun a m j q => by
    rcases t.own j a q with q | ⟨i, _, q⟩ | n
    · exact f.off a m j q
    · exact f.off a m i q
    · exact tr a m n⟩
theorem Own.over {v : V} {d : D} {B : List Addr} (h : Own K H v d B) (f : Off F Z B) (t : Step E H ρ F Z H' ρ' F' Z') : Own K H' v d B := h.keep fun a o e l => t.keep a o e fun q j _ m => f.off a (l q) j m
theorem Acc.go (a : Acc E K Bs q H ρ σ F Z ys) (t : Step E2 H ρ F Z H' ρ' F' Z') (w' : W K H' ρ' σ' F' Z') (sub : ∀ j ∈ E2, j ∈ E) : Acc E K Bs q H' ρ' σ' F' Z' ys := by
  obtain ⟨A, h, o, n⟩ := a.r
  exact ⟨w', a.hs, fun Hb ρb Fb Zb b => (a.step Hb ρb Fb Zb b).seq t (fun _ h => h) sub, A, h.over o t, o.over t fun x m => lst_tr (h.tr x m), n⟩
/-- .. the slots' own values are others -/
theorem Acc.re (a : Acc E K Bs q H ρ σ F Z ys) (w' : W K H ρ σ' F Z) : Acc E K Bs q H ρ σ' F Z ys := ⟨w', a.hs, a.step, a.r⟩
theorem Acc.start (w : W K H ρ σ F Z) (s : Step E H ρ0 F Z H ρ F Z) (n : H q = none) : ∃ Z', Acc E K (fun Hb ρb Fb Zb => Hb = H ∧ ρb = ρ0 ∧ Fb = F ∧ Zb = Z) q (upd H q (.lst [])) ρ σ F Z' [] := by
  obtain ⟨Z', w1, s1, o1, f1⟩ := w.lst n (.nil) (⟨List.nodup_nil, fun _ m => (nomatch m), fun _ m => (nomatch m)⟩)
  refine ⟨Z', w1, fun Hb ρb Fb Zb b => ?_, fun Hb ρb Fb Zb b => ?_, [q], o1, f1, fun Hb ρb Fb Zb b a m => ?_⟩
  · rw [b.1]
    exact n
  · obtain ⟨rfl, rfl, rfl, rfl⟩ := b
    exact s.seq s1 (fun _ h => h) fun _ m => (nomatch m)
  · rw [List.mem_singleton.mp m, b.1]
    exact .inr n
/-- told from here, too: from the heap without what grows -/
theorem Acc.rebase (a : Acc E K Bs q H ρ σ F Z ys) : ∃ Hm, Sub H F Z Hm ∧ Acc E K (fun Hb ρb Fb Zb => Bs Hb ρb Fb Zb ∨ (Hb = Hm ∧ ρb = ρ ∧ Fb = F ∧ Zb = Z)) q H ρ σ F Z ys := by
  obtain ⟨A, h, o, n⟩ := a.r
  have lk : ∀ a o, (if a ∈ A then none else H a) = some o → H a = some o := fun a o e => by
    split at e
    · cases e
    · exact e
  have hq : q ∈ A := by
    cases h with
    | lst h t => exact List.mem_cons_self
  refine ⟨fun a => if a ∈ A then none else H a, ⟨lk, fun a u e => ?_⟩, a.w, fun Hb ρb Fb Zb b => ?_, fun Hb ρb Fb Zb b => ?_, A, h, o, fun Hb ρb Fb Zb b x m => ?_⟩
  · by_cases m : a ∈ A
    · obtain ⟨o', e', l⟩ := h.tr a m
      rw [e] at e'
      cases e'
      exact .inr ⟨l, o.zed a m, o.off a m⟩
    · exact .inl (by simp only [if_neg m]; exact e)
  · rcases b with b | ⟨rfl, _⟩
    · exact a.hs Hb ρb Fb Zb b
    · exact if_pos hq
  · rcases b with b | ⟨rfl, rfl, rfl, rfl⟩
    · exact a.step Hb ρb Fb Zb b
    · refine ⟨fun a o e _ => lk a o e, fun a e z => ?_, fun _ _ => ⟨rfl, rfl⟩, fun _ _ m => .inl m, fun _ z => .inl z, fun _ z _ => .inl z⟩
      simp only [z] at e
      split at e <;> exact e rfl
  · rcases b with b | ⟨rfl, _⟩
    · exact n Hb ρb Fb Zb b x m
    · exact .inr (if_pos m)
/-- .. and no more -/
theorem Acc.less {Bs' : Bases} (a : Acc E K Bs q H ρ σ F Z ys) (h : ∀ Hb ρb Fb Zb, Bs' Hb ρb Fb Zb → Bs Hb ρb Fb Zb) : Acc E K Bs' q H ρ σ F Z ys :=
  ⟨a.w, fun _ _ _ _ b => a.hs _ _ _ _ (h _ _ _ _ b), fun _ _ _ _ b => a.step _ _ _ _ (h _ _ _ _ b), let ⟨A, x, y, z⟩ := a.r; ⟨A, x, y, fun _ _ _ _ b => z _ _ _ _ (h _ _ _ _ b)⟩⟩
theorem own_list {A : List Addr} (h : Own K H (.ref q) (.list ys) A) : ∃ A0 vs, A = q :: A0 ∧ H q = some (.lst vs) ∧ OwnL K H vs ys A0 := by
  cases h with
  | lst h1 t => exact ⟨_, _, rfl, h1, t⟩
/-- an item more -/
theorem Acc.push {v : V} {y : D} {sy : Stat} {ρe : List Slot} (a : Acc E K Bs q H ρ σ F Z ys) (t : Step E2 H ρ F Z H' ρ' F' Z') (w' : W K H' ρ' σ F' Z') (r : VR E2 K H F H' ρ' σ F' Z' v y sy) (e : settle y sy ρ' = some ρe) (h1 : ∀ j ∈ E2, j ∈ E) (h2 : ∀ j ∈ tkS sy, j ∈ E) :
    ∃ vs F2, H' q = some (.lst vs) ∧ vs.length = ys.length ∧ Acc E K Bs q (upd H' q (.lst (vs ++ [v]))) ρe σ F2 Z' (ys ++ [y]) := by
  obtain ⟨A, hA, fA, nA⟩ := a.r
  have trA : ∀ x ∈ A, H x ≠ none := fun x m => lst_tr (hA.tr x m)
  have hA := hA.over fA t
  obtain ⟨B, hB, fB⟩ := r
  have ap : ∀ x ∈ A, x ∉ B := fun x m q => by
    rcases fB.new x q with ⟨i, _, z⟩ | n
    · exact fA.off x m i z
    · exact trA x m n
  have fA := fA.over t trA
  clear trA
  obtain ⟨F2, B2, w2, s2, o2, f2, n2, _, _⟩ := settle_ok w' hB.vc fB.toOff e
  have s3 : ∀ Hb ρb Fb Zb, Bs Hb ρb Fb Zb → Step E Hb ρb Fb Zb H' ρe F2 Z' := fun Hb ρb Fb Zb b => ((a.step Hb ρb Fb Zb b).seq t (fun _ h => h) h1).seq s2 (fun _ h => h) h2
  have offA : ∀ b ∈ A, ∀ j, b ∉ F2 j := fun b m j m2 => by
    rcases s2.own j b m2 with z | ⟨i, _, z⟩ | z
    · exact fA.off b m j z
    · exact fA.off b m i z
    · exact lst_tr (hA.tr b m) z
  have ap2 : ∀ b ∈ A, b ∉ B2 := fun b m m2 => by
    rcases n2 b m2 with z | ⟨i, _, z⟩
    · exact ap b m z
    · exact fA.off b m i z
  have newB : ∀ Hb ρb Fb Zb, Bs Hb ρb Fb Zb → ∀ b ∈ B2, (∃ i ∈ E, b ∈ Fb i) ∨ Hb b = none := fun Hb ρb Fb Zb bs b m => by
    have st := a.step Hb ρb Fb Zb bs
    have back : ∀ i, i ∈ E → b ∈ F i → (∃ i ∈ E, b ∈ Fb i) ∨ Hb b = none := fun i hi z => by
      rcases st.own i b z with z | z | z
      · exact .inl ⟨i, hi, z⟩
      · exact .inl z
      · exact .inr z
    rcases n2 b m with m | ⟨i, hi, m⟩
    · rcases fB.new b m with ⟨i, hi, z⟩ | z
      · exact back i (h1 i hi) z
      · exact .inr (st.gone z)
    · rcases t.own i b m with z | ⟨k, hk, z⟩ | z
      · exact back i (h2 i hi) z
      · exact back k (h1 k hk) z
      · exact .inr (st.gone z)
  obtain ⟨A0, vs, eA, hq, tA⟩ := own_list hA
  subst eA
  have nd := List.nodup_cons.mp fA.nodup
  have qA : ∀ b ∈ A0, b ∈ q :: A0 := fun b m => List.mem_cons_of_mem _ m
  have kk : ∀ b o, b ≠ q → H' b = some o → upd H' q (.lst (vs ++ [v])) b = some o := fun b o n z => by
    rw [upd_ne n]
    exact z
  have own1 : OwnL K (upd H' q (.lst (vs ++ [v]))) vs ys A0 := tA.keep fun b o z l => kk b o (fun eb => by
    subst eb
    rw [hq] at z
    cases z
    exact nd.1 (l trivial)) z
  have own2 : Own K (upd H' q (.lst (vs ++ [v]))) v y B2 := o2.keep fun b o z l => kk b o (fun eb => by
    subst eb
    rw [hq] at z
    cases z
    exact ap2 b List.mem_cons_self (l trivial)) z
  refine ⟨vs, F2, hq, tA.length, ⟨w2.len, w2.out, fun i u z => ?_, w2.nodup, w2.disj, w2.zed⟩, a.hs, fun Hb ρb Fb Zb bs => ?_, q :: (A0 ++ (B2 ++ [])), .lst upd_same (own1.append (.cons own2 .nil)), ⟨?_, fun b m => ?_, fun b m j => ?_⟩, fun Hb ρb Fb Zb bs b m => ?_⟩
  · refine (w2.slot i u z).keep rfl (fun b o z l => kk b o (fun eb => ?_) z) fun _ z _ => z
    subst eb
    rw [hq] at z
    cases z
    rcases l trivial with z | z
    · exact offA b List.mem_cons_self i z
    · exact z (fA.zed b List.mem_cons_self)
  · have s3 := s3 Hb ρb Fb Zb bs
    refine ⟨fun b o z l => ?_, fun b z => ?_, s3.same, s3.own, s3.zed, s3.zk⟩
    · exact kk b o (fun eb => by rw [eb, a.hs Hb ρb Fb Zb bs] at z; cases z) (s3.keep b o z l)
    · by_cases hb : b = q
      · rw [hb, upd_same]
        exact fun z => nomatch z
      · rw [upd_ne hb]
        exact s3.there b z
  · rw [List.append_nil]
    refine List.nodup_cons.mpr ⟨fun m => ?_, List.nodup_append.mpr ⟨nd.2, f2.nodup, fun x mx y my e => ap2 x (qA x mx) (e ▸ my)⟩⟩
    rcases List.mem_append.mp m with m | m
    · exact nd.1 m
    · exact ap2 q List.mem_cons_self m
  · rw [List.append_nil] at m
    rcases List.mem_cons.mp m with m | m
    · rw [m]
      exact fA.zed q List.mem_cons_self
    · rcases List.mem_append.mp m with m | m
      · exact fA.zed b (qA b m)
      · exact f2.zed b m
  · rw [List.append_nil] at m
    rcases List.mem_cons.mp m with m | m
    · rw [m]
      exact offA q List.mem_cons_self j
    · rcases List.mem_append.mp m with m | m
      · exact offA b (qA b m) j
      · exact f2.off b m j
  · rw [List.append_nil] at m
    rcases List.mem_cons.mp m with m | m
    · rw [m]
      exact .inr (a.hs Hb ρb Fb Zb bs)
    · rcases List.mem_append.mp m with m | m
      · exact nA Hb ρb Fb Zb bs b (qA b m)
      · exact newB Hb ρb Fb Zb bs b m

/-! ### hidden slots -/
theorem hide_len {own : List Nat} : ∀ {ρ ρ1 : List Slot}, hide ρ own = some ρ1 → ρ1.length = ρ.length := by
  induction own with
  | nil =>
    intro ρ ρ1 h
    cases h
    rfl
  | cons i r ih =>
    intro ρ ρ1 h
    unfold hide at h
    split at h
    · rename_i ρ2 e
      have l := ih e
      split at h <;> first | (cases h; exact l) | (cases h; rw [← l, List.length_set]) | cases h
    · cases h
theorem wipe_off {σ : L2.St} : ∀ {vs : List Nat} {j : Nat}, j ∉ vs → (wipe σ vs)[j]? = σ[j]?
  | [], _, _ => rfl
  | v :: vs, j, h => by
    simp only [List.mem_cons, not_or] at h
    unfold wipe
    rw [List.getElem?_set_ne (fun e => h.1 e.symm)]
    exact wipe_off h.2
theorem wipe_in {σ : L2.St} : ∀ {vs : List Nat} {j : Nat}, j ∈ vs → j < σ.length → (wipe σ vs)[j]? = some none
  | v :: vs, j, h, l => by
    unfold wipe
    by_cases e : v = j
    · subst e
      rw [List.getElem?_set_self (by rw [wipe_length]; exact l)]
    · rw [List.getElem?_set_ne e]
      rcases List.mem_cons.mp h with h | h
      · exact absurd h.symm e
      · exact wipe_in h l
theorem wipe_eq {σ σ' : L2.St} {vs : List Nat} (hl : σ'.length = σ.length) (h : ∀ j, j ∉ vs → σ'[j]? = σ[j]?) : wipe σ' vs = wipe σ vs := by
  apply List.ext_getElem?
  intro j
  by_cases m : j ∈ vs
  · by_cases l : j < σ.length
    · rw [wipe_in m l, wipe_in m (by rw [hl]; exact l)]
    · rw [List.getElem?_eq_none (by rw [wipe_length]; omega), List.getElem?_eq_none (by rw [wipe_length]; omega)]
  · rw [wipe_off m, wipe_off m, h j m]
/-- behind the hiding: the slots are empty, they owned nothing -/
theorem hide_ok {own : List Nat} : ∀ {ρ ρ1 : List Slot} {σ : L2.St}, W K H ρ σ F Z → hide ρ own = some ρ1 → W K H ρ1 σ F Z ∧ (∀ j, j ∉ own → ρ1[j]? = ρ[j]?) ∧ (∀ j ∈ own, ρ1[j]? = some .emp ∧ F j = []) := by
  induction own with
  | nil =>
    intro ρ ρ1 σ w h
    cases h
    exact ⟨w, fun _ _ => rfl, fun _ m => (nomatch m)⟩
  | cons i r ih =>
    intro ρ ρ1 σ w h
    unfold hide at h
    split at h
    · rename_i ρ2 e
      obtain ⟨w2, o2, i2⟩ := ih w e
      have one : ∀ (sl : Slot), ρ2[i]? = some sl → F i = [] → ρ1 = ρ2.set i .emp → W K H ρ1 σ F Z ∧ (∀ j, j ∉ i :: r → ρ1[j]? = ρ[j]?) ∧ (∀ j ∈ i :: r, ρ1[j]? = some .emp ∧ F j = []) := by
        intro sl es f0 e1
        subst e1
        refine ⟨⟨by rw [List.length_set]; exact w2.len, fun j hj => w2.out j (by rw [List.length_set] at hj; exact hj), fun j s q => ?_, w2.nodup, w2.disj, w2.zed⟩, fun j hj => ?_, fun j hj => ?_⟩
        · by_cases h : j = i
          · subst h
            rw [get_set_self es] at q
            cases q
            exact f0
          · rw [get_set_ne h] at q
            exact w2.slot j s q
        · simp only [List.mem_cons, not_or] at hj
          rw [get_set_ne hj.1]
          exact o2 j hj.2
        · by_cases h : j = i
          · subst h
            exact ⟨get_set_self es, f0⟩
          · rcases List.mem_cons.mp hj with z | z
            · exact absurd z h
            · rw [get_set_ne h]
              exact i2 j z
      split at h
      · rename_i es
        cases h
        exact one .emp es (w2.slot i _ es) (by
          apply List.ext_getElem?
          intro j
          by_cases hj : j = i
          · subst hj
            rw [get_set_self es, es]
          · rw [get_set_ne hj])
      · rename_i d es
        cases h
        exact one _ es (w2.slot i _ es).1 rfl
      · rename_i d es
        cases h
        exact one _ es (w2.slot i _ es).1 rfl
      · rename_i d es
        cases h
        exact one _ es (w2.slot i _ es).1 rfl
      · cases h
    · cases h
/-- slots that are empty may be forgotten -/
theorem W.forget {own : List Nat} (w : W K H ρ σ F Z) (h : ∀ j ∈ own, ρ[j]? = some .emp) : W K H ρ (wipe σ own) F Z := by
  refine ⟨by rw [wipe_length]; exact w.len, w.out, fun j s q => ?_, w.nodup, w.disj, w.zed⟩
  by_cases m : j ∈ own
  · rw [h j m] at q
    cases q
    exact w.slot j _ (h j m)
  · rw [wipe_off m]
    exact w.slot j s q
theorem hide_step {own : List Nat} (w : W K H ρ σ F Z) (h : hide ρ own = some ρ1) : Step own H ρ F Z H ρ1 F Z :=
  ⟨fun _ _ e _ => e, fun _ e => e, fun j hj => ⟨(hide_ok w h).2.1 j hj, rfl⟩, fun _ _ m => .inl m, fun _ z => .inl z, fun _ z _ => .inl z⟩
theorem unhide_get {own : List Nat} {ρ0 : List Slot} : ∀ {ρ : List Slot} {j : Nat}, j < ρ.length → (j ∈ own → (unhide ρ0 ρ own)[j]? = some (ρ0[j]?.getD .emp)) ∧ (j ∉ own → (unhide ρ0 ρ own)[j]? = ρ[j]?) ∧ (unhide ρ0 ρ own).length = ρ.length := by
  induction own with
  | nil =>
    intro ρ j h
    exact ⟨fun m => (nomatch m), fun _ => rfl, rfl⟩
  | cons i r ih =>
    intro ρ j h
    obtain ⟨h1, h2, h3⟩ := ih h
    unfold unhide
    refine ⟨fun m => ?_, fun m => ?_, by rw [List.length_set]; exact h3⟩
    · by_cases e : j = i
      · subst e
        rw [List.getElem?_set_self (by rw [h3]; exact h)]
      · rw [get_set_ne e]
        rcases List.mem_cons.mp m with z | z
        · exact absurd z e
        · exact h1 z
    · simp only [List.mem_cons, not_or] at m
      rw [get_set_ne m.1]
      exact h2 m.2
theorem unhide_len {own : List Nat} {ρ0 : List Slot} : ∀ {ρ : List Slot}, (unhide ρ0 ρ own).length = ρ.length := by
  induction own with
  | nil => intro _; rfl
  | cons i r ih =>
    intro ρ
    unfold unhide
    rw [List.length_set]
    exact ih
/-- at the end: the hidden slots again -/
theorem unhide_ok {own : List Nat} {ρ3 : List Slot} {H3 : Hp} {F3 : Fa} {Z3 : Addr → Prop} {E : List Nat} (w : W K H ρ σ F Z) (h : hide ρ own = some ρ1) (s : Step (own ++ E) H ρ F Z H3 ρ3 F3 Z3) (w3 : W K H3 ρ3 (wipe σ own) F3 Z3) (e3 : ∀ j ∈ own, ρ3[j]? = some .emp) :
    Step E H ρ F Z H3 (unhide ρ ρ3 own) F3 Z3 ∧ W K H3 (unhide ρ ρ3 own) σ F3 Z3 := by
  have f1 : ∀ j ∈ own, F j = [] := fun j m => ((hide_ok w h).2.2 j m).2
  have f3 : ∀ j ∈ own, F3 j = [] := fun j m => w3.slot j _ (e3 j m)
  have ll : ρ3.length = ρ.length := by
    have a := w3.len
    rw [wipe_length] at a
    rw [← a]
    exact w.len
  have ne : ∀ {P : Prop} {j a}, j ∈ own → a ∈ F j → P := fun m q => by rw [f1 _ m] at q; cases q
  have lt : ∀ {j}, j ∈ own → j < ρ.length := fun m => by
    have := (List.getElem?_eq_some_iff.mp (e3 _ m)).1
    omega
  refine ⟨⟨fun a o q l => s.keep a o q fun z j hj m => (List.mem_append.mp hj).elim (fun y => ne y m) fun y => l z j y m, s.there, fun j hj => ?_, fun j a m => ?_, s.zed, fun a z n => ?_⟩, ⟨by rw [unhide_len, ll]; exact w.len, fun j hj => w3.out j (by rw [unhide_len] at hj; exact hj), fun j sl q => ?_, w3.nodup, w3.disj, w3.zed⟩⟩
  · by_cases m : j ∈ own
    · rw [(unhide_get (by rw [ll]; exact lt m)).1 m, f1 j m, f3 j m]
      refine ⟨?_, rfl⟩
      rw [List.getElem?_eq_getElem (lt m)]
      rfl
    · obtain ⟨a, b⟩ := s.same j fun z => (List.mem_append.mp z).elim m hj
      refine ⟨?_, b⟩
      by_cases l : j < ρ3.length
      · rw [(unhide_get l).2.1 m, a]
      · rw [List.getElem?_eq_none (by rw [unhide_len]; omega), List.getElem?_eq_none (by omega)]
  · rcases s.own j a m with q | ⟨i, hi, q⟩ | q
    · exact .inl q
    · exact (List.mem_append.mp hi).elim (fun y => ne y q) fun y => .inr (.inl ⟨i, y, q⟩)
    · exact .inr (.inr q)
  · rcases s.zk a z n with q | ⟨i, hi, q⟩
    · exact .inl q
    · exact (List.mem_append.mp hi).elim (fun y => ne y q) fun y => .inr ⟨i, y, q⟩
  · have l : j < ρ3.length := by
      have := (List.getElem?_eq_some_iff.mp q).1
      rw [unhide_len] at this
      exact this
    by_cases m : j ∈ own
    · rw [(unhide_get l).1 m, List.getElem?_eq_getElem (lt m)] at q
      have q : ρ[j] = sl := by
        simp only [Option.getD_some] at q
        cases q
        rfl
      refine (w.slot j sl (by rw [List.getElem?_eq_getElem (lt m), q])).keep (by rw [f1 j m, f3 j m]) (fun a o e y => s.keep a o e fun z i hi m => ?_) fun a z n y => (s.zed a y).elim z n
      rcases y z with y | y
      · rw [f1 j ‹_›] at y
        cases y
      · exact y (w.zed i a m)
    · rw [(unhide_get l).2.1 m] at q
      have := w3.slot j sl q
      rw [wipe_off m] at this
      exact this
end
end Zr

set_option maxRecDepth 100000
set_option maxHeartbeats 8000000
/-! ZrO: list comprehensions. -/
namespace Zr
open PySem PySem.Spec PyProof.Rows L2

section
variable {K : Fr'} {Hs H H0 H' H1 H2 H3 : Hp} {ρs ρ ρ0 ρ' ρ1 ρ2 : List Slot} {σ σ' σ1 σ2 : L2.St} {Fs F F0 F' F1 F2 : Fa} {Zs Z Z0 Z' Z1 Z2 : Addr → Prop} {E E1 E2 : List Nat}
variable {q : Addr} {ys : List D} {Bs : Bases}
def Emp (own : List Nat) (ρ : List Slot) : Prop := ∀ j ∈ own, ρ[j]? = some .emp
theorem lc_loop {J : It} {xs : List D} {own : List Nat} {σw : L2.St} {turn : D → Ro → List D → Option (List D × Ro)} {body : V → Hp → (Hp → Prop) → Prop} {Fin : Hp → Prop} {acc acc' : List D} {ρ3 : Ro} {Hb : Hp} {ρb : List Slot} {Fb : Fa} {Zb : Addr → Prop}
    (a : Acc E K Bs q H ρ σw F Z acc.reverse) (em : Emp own ρ) (b : Bs Hb ρb Fb Zb) (sb : Sub H0 Fb Zb Hb) (it : ItR K J E H0 ρb Fb Zb xs) (e : lcGo turn xs ρ acc = some (acc', ρ3))
    (hb : ∀ (x : V) (d : D) (H : Hp) (ρ : List Slot) (F : Fa) (Z : Addr → Prop) (a a1 : List D) (ρ1 : List Slot) (Nx : Hp → Prop), Acc E K Bs q H ρ σw F Z a.reverse → Emp own ρ → Bor K H false (fun a => ¬ Z a) x d → turn d ρ a = some (a1, ρ1) →
      (∀ H' F' Z', Acc E K Bs q H' ρ1 σw F' Z' a1.reverse → Emp own ρ1 → Nx H') → body x H Nx)
    (fin : ∀ H' F' Z', Acc E K Bs q H' ρ3 σw F' Z' acc'.reverse → Emp own ρ3 → Fin H') :
    ∃ W : Nat → Nat → Hp → Prop, (∃ m, W 0 m H) ∧ ∀ i m H, W i m H → (J.stop i H ∧ Fin H) ∨ (J.go i H ∧ ∃ Nx : Hp → Prop, (∀ H', Nx H' → ∃ m', m' < m ∧ W (i + 1) m' H') ∧ ∀ x H', J.yld i H x H' → body x H' Nx) := by
  refine ⟨fun i m H => m = xs.length - i ∧ i ≤ xs.length ∧ ∃ ρ F Z acc, Acc E K Bs q H ρ σw F Z acc.reverse ∧ Emp own ρ ∧ lcGo turn (xs.drop i) ρ acc = some (acc', ρ3), ⟨xs.length, by simp, Nat.zero_le _, ρ, F, Z, acc, a, em, by simpa using e⟩, ?_⟩
  rintro i m H ⟨rfl, hi, ρ, F, Z, acc, a, em, e⟩
  obtain ⟨i1, i2, i3⟩ := it Hb H ρ F Z σw sb (a.step Hb ρb Fb Zb b) a.w
  by_cases hlt : i < xs.length
  · have ed : xs.drop i = xs[i] :: xs.drop (i + 1) := List.drop_eq_getElem_cons hlt
    rw [ed] at e
    unfold lcGo at e
    split at e
    · rename_i a1 ρ1 et
      refine .inr ⟨i1 i hlt, fun H' => ∃ F Z, Acc E K Bs q H' ρ1 σw F Z a1.reverse ∧ Emp own ρ1, fun H' ⟨F', Z', a', em'⟩ => ⟨xs.length - (i + 1), by omega, rfl, hlt, ρ1, F', Z', a1, a', em', e⟩, fun x H' y => ?_⟩
      obtain ⟨ex, d, hd, hbor⟩ := i3 i x H' hlt y
      rw [List.getElem?_eq_getElem hlt] at hd
      cases hd
      obtain ⟨w2, s2⟩ := a.w.ext ex
      exact hb x _ H' ρ F Z acc a1 ρ1 _ (a.go s2 w2 fun _ m => (nomatch m)) em hbor et fun H' F' Z' a' em' => ⟨F', Z', a', em'⟩
    · cases e
  · have ei : i = xs.length := by omega
    subst ei
    rw [List.drop_length] at e
    unfold lcGo at e
    cases e
    exact .inl ⟨i2, fin H F Z a em⟩
theorem SameQ.len {E : List Nat} (s : SameQ E ρ σ ρ' σ') (w : W K H ρ σ F Z) (w' : W K H' ρ' σ' F' Z') (h : ρ'.length = ρ.length) : σ'.length = σ.length := by rw [w'.len, w.len, h]
theorem bindV_len : ∀ {g : IG} {d : D} {st : Stat} {ρ ρ' : Ro}, bindV g d st ρ = some ρ' → ρ'.length = ρ.length
  | .nm i, d, st, ρ, ρ', h => by
    simp only [bindV] at h
    split at h
    · cases st <;> first | (cases h; exact List.length_set) | cases h
    · cases h
  | .t1 a, d, st, ρ, ρ', h => by
    obtain ⟨ds, rfl, _, h⟩ := bindV_t1 h
    rcases ds with _ | ⟨x, _ | ⟨y, r⟩⟩ <;> simp only [bindVs] at h <;> try (cases h; done)
    all_goals (obtain ⟨ρ1, h1, h⟩ := Option.bind_eq_some_iff.mp h)
    · cases h
      exact bindV_len h1
    · cases h
  | .t2 a b, d, st, ρ, ρ', h => by
    obtain ⟨ds, rfl, hl, h⟩ := bindV_t2 h
    rcases ds with _ | ⟨x, _ | ⟨y, _ | ⟨z, r⟩⟩⟩ <;> simp at hl
    simp only [bindVs] at h
    obtain ⟨ρ1, h1, h⟩ := Option.bind_eq_some_iff.mp h
    obtain ⟨ρ2, h2, h⟩ := Option.bind_eq_some_iff.mp h
    cases h
    rw [bindV_len h2, bindV_len h1]
  | .t3 a b c, d, st, ρ, ρ', h => by
    obtain ⟨ds, rfl, hl, h⟩ := bindV_t3 h
    rcases ds with _ | ⟨x, _ | ⟨y, _ | ⟨z, _ | ⟨u, r⟩⟩⟩⟩ <;> simp at hl
    simp only [bindVs] at h
    obtain ⟨ρ1, h1, h⟩ := Option.bind_eq_some_iff.mp h
    obtain ⟨ρ2, h2, h⟩ := Option.bind_eq_some_iff.mp h
    obtain ⟨ρ3, h3, h⟩ := Option.bind_eq_some_iff.mp h
    cases h
    rw [bindV_len h3, bindV_len h2, bindV_len h1]
  | .t4 a b c e, d, st, ρ, ρ', h => by
    obtain ⟨ds, rfl, hl, h⟩ := bindV_t4 h
    rcases ds with _ | ⟨x, _ | ⟨y, _ | ⟨z, _ | ⟨u, _ | ⟨v, r⟩⟩⟩⟩⟩ <;> simp at hl
    simp only [bindVs] at h
    obtain ⟨ρ1, h1, h⟩ := Option.bind_eq_some_iff.mp h
    obtain ⟨ρ2, h2, h⟩ := Option.bind_eq_some_iff.mp h
    obtain ⟨ρ3, h3, h⟩ := Option.bind_eq_some_iff.mp h
    obtain ⟨ρ4, h4, h⟩ := Option.bind_eq_some_iff.mp h
    cases h
    rw [bindV_len h4, bindV_len h3, bindV_len h2, bindV_len h1]
/-- hidden again -/
theorem Acc.hid {own : List Nat} {σw : L2.St} {ρd : List Slot} (a : Acc E K Bs q H ρ σ F Z ys) (h : hide ρ own = some ρd) (hs : ∀ j ∈ own, j ∈ E) (hw : wipe σ own = σw) : Acc E K Bs q H ρd σw F Z ys ∧ Emp own ρd := by
  obtain ⟨w1, _, e1⟩ := hide_ok a.w h
  subst hw
  exact ⟨(a.go (hide_step a.w h) w1 hs).re (w1.forget fun j m => (e1 j m).1), fun j m => (e1 j m).1⟩
/-- a turn's target -/
theorem Acc.tgt {own : List Nat} {σ : L2.St} {g : IG} {d : D} {v : V} {ρa : Ro} {R : L2.St → Hp → Prop} (a : Acc E K Bs q H ρ (wipe σ own) F Z ys) (hb : Bor K H false (fun a => ¬ Z a) v d) (e : bindV g d .froz ρ = some ρa) (hs : ∀ j ∈ g.slots, j ∈ own) (ho : ∀ j ∈ own, j ∈ E)
    (k : ∀ σ2 F2, Acc E K Bs q H ρa σ2 F2 Z ys → wipe σ2 own = wipe σ own → R σ2 H) : tGt K g v (wipe σ own) H R := by
  refine ⟨own, H, ρ, F, Z, ρ, F, Z, d, .froz, ρa, [], .refl, a.w, hs, e, ⟨rfl, hb⟩, fun σ2 F2 s2 w2 sm f2 => ?_⟩
  refine k σ2 F2 (a.go s2 w2 ho) ?_
  have l1 : σ2.length = (wipe σ own).length := sm.len a.w w2 (bindV_len e)
  rw [wipe_eq (σ := wipe σ own) l1 fun j hj => sm.off j fun z => hj (hs j z)]
  exact wipe_eq (wipe_length _ _) fun j hj => wipe_off hj
end
/-- a comprehension's tests -/
def tCt (K : Fr') (C : CallF) (t : IC) : TT := fun σ H Q => ∃ ρ F Z k ρ', W K H ρ σ F Z ∧ evC C t ρ = some (k, ρ') ∧
  ∀ H' F' Z', Step (effC t) H ρ F Z H' ρ' F' Z' → W K H' ρ' σ F' Z' → Q k H'
section
variable {X : Cx} {G : Gx} {S : Sx} {C : CallF}
theorem sc_yes : PTs X [] (tCt X.K C .yes) := ⟨fun pins s σ H Q I ⟨ρ, F, Z, k, ρ', w, he, kk⟩ => by
  simp only [evC] at he
  cases he
  exact pts_nil.run pins s σ H Q I (kk H F Z .refl w)⟩
theorem sc_one {t : IT} {x : Expr} (h : PT X x (tTt X.K C t)) : PTs X [x] (tCt X.K C (.one t)) := pts_one (h.of fun σ H Q ⟨ρ, F, Z, k, ρ', w, he, kk⟩ => ⟨ρ, F, Z, k, ρ', w, by simpa only [evC] using he, kk⟩)
theorem ownOf_map {own : List Nat} : (ownOf S own).map (·.2) = own := by
  unfold ownOf
  rw [List.map_map]
  exact List.map_id' own
theorem fold_of {ie : Expr} {env : Env} (h : notSet ie = true) : ∀ x, foldedSetIterable ie env x = pure x := by
  cases ie <;> first | (intro _; rfl) | cases h
theorem lc_to {own : List Nat} {elt : IE} {g : IG} {it : II} {t : IC} {σ : L2.St} {H : Hp} {Q : VK} (h : tE X.K C (.lc own elt g it t) σ H Q) : tLc (tIt X.K C it) (tGt X.K g) (tCt X.K C t) (tE X.K C elt) own σ H Q := by
  obtain ⟨ρ, F, Z, d, st, ρ', w, hev, k⟩ := h
  simp only [ev] at hev
  split at hev
  · rename_i xs sts ρ1 ei
    split at hev
    · rename_i ρ2 eh
      split at hev
      · rename_i cond
        simp only [Bool.and_eq_true] at cond
        obtain ⟨c1, c2⟩ := cond
        have c2 : ∀ j ∈ g.slots, j ∈ own := fun j m => by
          have := List.all_eq_true.mp c2 j m
          simpa using this
        split at hev
        · rename_i acc ρ3 eg
          cases hev
          refine ⟨ρ, F, Z, xs, sts, ρ1, w, ei, fun J H1 F1 Z1 s1 w1 itr => fun q n => ?_⟩
          obtain ⟨w2, _, e2⟩ := hide_ok w1 eh
          have s2 : Step (own ++ (effC t ++ (effE elt ++ tkE elt))) H1 ρ1 F1 Z1 H1 ρ2 F1 Z1 := (hide_step w1 eh).more fun _ => ml
          obtain ⟨Z2, a2⟩ := Acc.start (w2.forget fun j m => (e2 j m).1) s2 n
          refine lc_loop (own := own) (acc := []) a2 (fun j m => (e2 j m).1) ⟨rfl, rfl, rfl, rfl⟩ .refl (itr _ c1) eg (fun x d H ρ F Z a a1 ρd Nx ac em hb et nx => ?_) fun H' F' Z' ac em => ?_
          · -- a turn
            split at et
            · rename_i ρa eb
              refine ac.tgt hb eb c2 (fun _ => ml) fun σ2 F2 ac2 hw => ⟨hw, ?_⟩
              split at et
              · rename_i ρb ec
                refine ⟨ρa, F2, Z, true, ρb, ac2.w, ec, fun H3 F3 Z3 s3 w3 => ?_⟩
                have ac3 := ac2.go s3 w3 fun _ m => mr (ml m)
                refine iteT ?_
                split at et
                · rename_i y sy ρc ee
                  split at et
                  · rename_i ρe es
                    split at et
                    · rename_i ρd' eh2
                      obtain ⟨hlen, et⟩ := Zr.ifs et
                      cases et
                      refine ⟨ρb, F3, Z3, y, sy, ρc, w3, ee, fun v H4 F4 Z4 s4 w4 r4 => ?_⟩
                      obtain ⟨vs, F5, hq, hl, ac5⟩ := ac3.push s4 w4 r4 es (fun _ m => mr (mr (ml m))) fun j m => mr (mr (mr (tk_of C elt ee j m)))
                      refine ⟨vs, hq, Nat.lt_of_lt_of_le (by rw [hl, List.length_reverse]; exact hlen) (lim_line (Nat.le_refl _)), ?_⟩
                      obtain ⟨ac6, em6⟩ := ac5.hid eh2 (fun _ => ml) hw
                      exact nx _ F5 Z4 (by rw [List.reverse_cons]; exact ac6) em6
                    · cases et
                  · cases et
                · cases et
              · rename_i ρb ec
                refine ⟨ρa, F2, Z, false, ρb, ac2.w, ec, fun H3 F3 Z3 s3 w3 => ?_⟩
                have ac3 := ac2.go s3 w3 fun _ m => mr (ml m)
                refine iteF ?_
                split at et
                · rename_i ρd' eh2
                  cases et
                  obtain ⟨ac6, em6⟩ := ac3.hid eh2 (fun _ => ml) hw
                  exact nx _ F3 Z3 ac6 em6
                · cases et
              · cases et
            · cases et
          · -- the end
            obtain ⟨sE, wE⟩ := unhide_ok w1 eh (ac.step _ _ _ _ ⟨rfl, rfl, rfl, rfl⟩) ac.w em
            obtain ⟨A, hA, oA, nA⟩ := ac.r
            refine k _ _ F' Z' (s1.seq sE (fun _ => ml) fun _ => mr) wE (VR.back s1 ⟨A, hA, oA.fl fun x m => ?_⟩)
            rcases nA _ _ _ _ ⟨rfl, rfl, rfl, rfl⟩ x m with ⟨i, hi, z⟩ | z
            · rcases List.mem_append.mp hi with hi | hi
              · rw [(e2 i hi).2] at z
                cases z
              · exact .inl ⟨i, hi, z⟩
            · exact .inr z
        · cases hev
      · cases hev
    · cases hev
  · cases hev
theorem se_lc (ok : Ok X G S C) {own : List Nat} {elt : IE} {g : IG} {it : II} {t : IC} {ex tg ie : Expr} {ifs : List Expr} {scope : Scope} {p : Pos} (hblk : blkC S.N S.sc scope (ownOf S own) = true) (hset : notSet ie = true) (hgc : chkG (inner S scope) g tg = true)
    (hi : PI X tg ie (tIt X.K C it)) (ht : ∀ Y, Ok Y G (inner S scope) C → Y.K = X.K → PTs Y ifs (tCt X.K C t)) (he : ∀ Y, Ok Y G (inner S scope) C → Y.K = X.K → PE Y ex (tE X.K C elt)) :
    PE X (.ListComp ex [⟨tg, ie, ifs, 0⟩] scope p) (tE X.K C (.lc own elt g it t)) := by
  have bok : BlkOk X.N X.env.scope scope (ownOf S own) := by
    rw [ok.hN, ok.sc]
    exact blkOk_by hblk
  have okB := fun s H c cl fp => ok.blk (scope := scope) bok.kind s H c cl fp
  refine (pe_lc (wi := tIt X.K C it) (g := tGt X.K g) (tt := tCt X.K C t) (te := tE X.K C elt) ok.calm (by rw [ok.hN]; exact ok.nd) hi bok (fun s H c cl fp => sg_all (okB s H c cl fp) g tg hgc) (fun s H c cl fp => ht _ (okB s H c cl fp) rfl) (fun s H c cl fp => he _ (okB s H c cl fp) rfl) (fold_of hset)).of fun σ H Q h => by
    rw [ownOf_map]
    exact lc_to h
theorem lc2_to {own : List Nat} {elt : IE} {g g1 : IG} {it it1 : II} {t t1 : IC} (hown : ∀ j ∈ g1.slots, j ∈ own) {σ : L2.St} {H : Hp} {Q : VK} (h : tE X.K C (.lc2 own elt g it t g1 it1 t1) σ H Q) : tLc2 (tIt X.K C it) (tGt X.K g) (tCt X.K C t) (tIt X.K C it1) (tGt X.K g1) (tCt X.K C t1) (tE X.K C elt) own g1.slots σ H Q := by
  obtain ⟨ρ, F, Z, d, st, ρ', w, hev, k⟩ := h
  simp only [ev] at hev
  split at hev
  · rename_i xs sts ρ1 ei
    split at hev
    · rename_i ρ2 eh
      split at hev
      · rename_i cond
        simp only [Bool.and_eq_true] at cond
        obtain ⟨⟨c1, c2⟩, c3⟩ := cond
        have c2 : ∀ j ∈ g.slots, j ∈ own := fun j m => by
          have := List.all_eq_true.mp c2 j m
          simpa using this
        split at hev
        · rename_i acc ρ3 eg
          cases hev
          refine ⟨ρ, F, Z, xs, sts, ρ1, w, ei, fun J H1 F1 Z1 s1 w1 itr => fun q n => ?_⟩
          obtain ⟨w2, _, e2⟩ := hide_ok w1 eh
          have s2 : Step (own ++ (effC t ++ (effI it1 ++ (effC t1 ++ (effE elt ++ tkE elt))))) H1 ρ1 F1 Z1 H1 ρ2 F1 Z1 := (hide_step w1 eh).more fun _ => ml
          obtain ⟨Z2, a2⟩ := Acc.start (w2.forget fun j m => (e2 j m).1) s2 n
          refine lc_loop (own := own) (acc := []) a2 (fun j m => (e2 j m).1) ⟨rfl, rfl, rfl, rfl⟩ .refl (itr _ c1) eg (fun x d H ρ F Z a a1 ρd Nx ac em hb et nx => ?_) fun H' F' Z' ac em => ?_
          · -- a turn
            split at et
            · rename_i ρa eb
              refine ac.tgt hb eb c2 (fun _ => ml) fun σ2 F2 ac2 hw => ⟨hw, ?_⟩
              split at et
              · rename_i ρb ec
                refine ⟨ρa, F2, Z, true, ρb, ac2.w, ec, fun H3 F3 Z3 s3 w3 => ?_⟩
                have ac3 := ac2.go s3 w3 fun _ m => mr (ml m)
                refine iteT ?_
                split at et
                · rename_i xs1 sts1 ρb1 ei1
                  split at et
                  · rename_i ρb2 eh1
                    obtain ⟨cw, et⟩ : _ ∧ _ := by
                      split at et
                      · rename_i c
                        exact ⟨c, et⟩
                      · cases et
                    split at et
                    · rename_i acc1 ρ3' eg1
                      split at et
                      · rename_i ρd' eh3
                        cases et
                        refine ⟨ρb, F3, Z3, xs1, sts1, ρb1, w3, ei1, fun J1 H4 F4 Z4 s4 w4 itr1 => ?_⟩
                        have ac4 := ac3.go s4 w4 fun _ m => mr (mr (ml m))
                        obtain ⟨Hm, sub, ac5⟩ := ac4.rebase
                        obtain ⟨ac6, em6⟩ := ac5.hid (σw := wipe σ2 g1.slots) eh1 (fun j m => ml (hown j m)) rfl
                        refine lc_loop (own := g1.slots) (acc := a) ac6 em6 (.inr ⟨rfl, rfl, rfl, rfl⟩) sub (itr1 _ cw) eg1 (fun x1 d1 H ρ F Z b b1 ρd1 Nx1 ac em hb et nx1 => ?_) fun H' F' Z' ac7 em7 => ?_
                        · -- an inner turn
                          split at et
                          · rename_i ρa1 eb1
                            refine ac.tgt hb eb1 (fun _ m => m) (fun j m => ml (hown j m)) fun σ3 F5 ac8 hw1 => ⟨hw1, ?_⟩
                            split at et
                            · rename_i ρb3 ec1
                              refine ⟨ρa1, F5, Z, true, ρb3, ac8.w, ec1, fun H6 F6 Z6 s6 w6 => ?_⟩
                              have ac9 := ac8.go s6 w6 fun _ m => mr (mr (mr (ml m)))
                              refine iteT ?_
                              split at et
                              · rename_i y sy ρc ee
                                split at et
                                · rename_i ρe es
                                  split at et
                                  · rename_i ρd2 eh2
                                    obtain ⟨hlen, et⟩ := Zr.ifs et
                                    cases et
                                    refine ⟨ρb3, F6, Z6, y, sy, ρc, w6, ee, fun v H7 F7 Z7 s7 w7 r7 => ?_⟩
                                    obtain ⟨vs, F8, hq, hl, acA⟩ := ac9.push s7 w7 r7 es (fun _ m => mr (mr (mr (mr (ml m))))) fun j m => mr (mr (mr (mr (mr (tk_of C elt ee j m)))))
                                    refine ⟨vs, hq, Nat.lt_of_lt_of_le (by rw [hl, List.length_reverse]; exact hlen) (lim_line (Nat.le_refl _)), ?_⟩
                                    obtain ⟨acB, emB⟩ := acA.hid eh2 (fun j m => ml (hown j m)) hw1
                                    exact nx1 _ F8 Z7 (by rw [List.reverse_cons]; exact acB) emB
                                  · cases et
                                · cases et
                              · cases et
                            · rename_i ρb3 ec1
                              refine ⟨ρa1, F5, Z, false, ρb3, ac8.w, ec1, fun H6 F6 Z6 s6 w6 => ?_⟩
                              have ac9 := ac8.go s6 w6 fun _ m => mr (mr (mr (ml m)))
                              refine iteF ?_
                              split at et
                              · rename_i ρd2 eh2
                                cases et
                                obtain ⟨acB, emB⟩ := ac9.hid eh2 (fun j m => ml (hown j m)) hw1
                                exact nx1 _ F6 Z6 acB emB
                              · cases et
                            · cases et
                          · cases et
                        · have ac8 := ac7.less (Bs' := _) fun _ _ _ _ b => .inl b
                          obtain ⟨ac9, em9⟩ := ac8.hid eh3 (fun _ => ml) ((wipe_eq (wipe_length _ _) fun j hj => wipe_off fun z => hj (hown j z)).trans hw)
                          exact nx _ F' Z' ac9 em9
                      · cases et
                    · cases et
                  · cases et
                · cases et
              · rename_i ρb ec
                refine ⟨ρa, F2, Z, false, ρb, ac2.w, ec, fun H3 F3 Z3 s3 w3 => ?_⟩
                have ac3 := ac2.go s3 w3 fun _ m => mr (ml m)
                refine iteF ?_
                split at et
                · rename_i ρd' eh2
                  cases et
                  obtain ⟨ac6, em6⟩ := ac3.hid eh2 (fun _ => ml) hw
                  exact nx _ F3 Z3 ac6 em6
                · cases et
              · cases et
            · cases et
          · -- the end
            obtain ⟨sE, wE⟩ := unhide_ok w1 eh (ac.step _ _ _ _ ⟨rfl, rfl, rfl, rfl⟩) ac.w em
            obtain ⟨A, hA, oA, nA⟩ := ac.r
            refine k _ _ F' Z' (s1.seq sE (fun _ => ml) fun _ => mr) wE (VR.back s1 ⟨A, hA, oA.fl fun x m => ?_⟩)
            rcases nA _ _ _ _ ⟨rfl, rfl, rfl, rfl⟩ x m with ⟨i, hi, z⟩ | z
            · rcases List.mem_append.mp hi with hi | hi
              · rw [(e2 i hi).2] at z
                cases z
              · exact .inl ⟨i, hi, z⟩
            · exact .inr z
        · cases hev
      · cases hev
    · cases hev
  · cases hev
theorem se_lc2 (ok : Ok X G S C) {own : List Nat} {elt : IE} {g g1 : IG} {it it1 : II} {t t1 : IC} {ex tg ie tg1 ie1 : Expr} {ifs ifs1 : List Expr} {scope : Scope} {p : Pos} (hblk : blkC S.N S.sc scope (ownOf S own) = true) (hset : notSet ie = true) (hset1 : notSet ie1 = true) (hgc : chkG (inner S scope) g tg = true) (hgc1 : chkG (inner S scope) g1 tg1 = true)
    (hown : ∀ j ∈ g1.slots, j ∈ own)
    (hi : PI X tg ie (tIt X.K C it)) (ht : ∀ Y, Ok Y G (inner S scope) C → Y.K = X.K → PTs Y ifs (tCt X.K C t)) (hi1 : ∀ Y, Ok Y G (inner S scope) C → Y.K = X.K → PI Y tg1 ie1 (tIt X.K C it1)) (ht1 : ∀ Y, Ok Y G (inner S scope) C → Y.K = X.K → PTs Y ifs1 (tCt X.K C t1)) (he : ∀ Y, Ok Y G (inner S scope) C → Y.K = X.K → PE Y ex (tE X.K C elt)) :
    PE X (.ListComp ex [⟨tg, ie, ifs, 0⟩, ⟨tg1, ie1, ifs1, 0⟩] scope p) (tE X.K C (.lc2 own elt g it t g1 it1 t1)) := by
  have bok : BlkOk X.N X.env.scope scope (ownOf S own) := by
    rw [ok.hN, ok.sc]
    exact blkOk_by hblk
  have okB := fun s H c cl fp => ok.blk (scope := scope) bok.kind s H c cl fp
  refine (pe_lc2 (wi := tIt X.K C it) (g := tGt X.K g) (tt := tCt X.K C t) (te := tE X.K C elt) (wi1 := tIt X.K C it1) (g1 := tGt X.K g1) (tt1 := tCt X.K C t1) (vs1 := g1.slots) ok.calm (by rw [ok.hN]; exact ok.nd) hi bok (fun j m => by rw [ownOf_map]; exact hown j m) (fun s H c cl fp => sg_all (okB s H c cl fp) g tg hgc) (fun s H c cl fp => ht _ (okB s H c cl fp) rfl)
    (fun s H c cl fp => hi1 _ (okB s H c cl fp) rfl) (fun s H c cl fp => sg_all (okB s H c cl fp) g1 tg1 hgc1) (fun s H c cl fp => ht1 _ (okB s H c cl fp) rfl) (fun s H c cl fp => he _ (okB s H c cl fp) rfl) (fold_of hset) fun env => fold_of hset1).of fun σ H Q h => by
    rw [ownOf_map]
    exact lc2_to hown h

end
end Zr

set_option maxRecDepth 100000
set_option maxHeartbeats 16000000
/-! ZrP: what the checker accepts does what the evaluator says (expressions); printed by mkP.py. -/
namespace Zr
open PySem PySem.Spec PyProof.Rows L2
section
variable {G : Gx} {C : CallF}
theorem beq_pos {a b : Nat} (h : (a == b) = true) : (a == b) = true := h
theorem ix_plain {r : Expr} (h : notSlice r = true) : PlainIx r := by
  cases r <;> first | (intro _ _; rfl) | cases h
theorem chks_nil {S : Sx} {es : IEs} (h : chks G S es [] = true) : es = .nil := by
  cases es with
  | nil => rfl
  | cons e es => simp [chks] at h
theorem chks_ne {S : Sx} {x : Expr} {xs : List Expr} {es : IEs} (h : chks G S es (x :: xs) = true) : es ≠ .nil := fun e => by
  subst e
  simp [chks] at h
def isBool : Expr → Bool
  | .BoolOp _ _ _ => true
  | _ => false
theorem notBool {x : Expr} (h : plainTest x = true) : isBool x = false := by
  cases x <;> first | rfl | cases h
mutual
theorem sndE : ∀ (e : IE) {X : Cx} {S : Sx} (ok : Ok X G S C) (ex : Expr), chkE G S e ex = true → PE X ex (tE X.K C e)
  | .var i, X, S, ok, ex, h => by
    unfold chkE at h
    split at h
    all_goals first | (rename_i q; cases q; done) | (cases h; done) | skip
    · rename_i q
      cases q
      exact se_var ok h
  | .mov i, X, S, ok, ex, h => by
    unfold chkE at h
    split at h
    all_goals first | (rename_i q; cases q; done) | (cases h; done) | skip
    · rename_i q
      cases q
      exact se_mov ok h
  | .int i, X, S, ok, ex, h => by
    unfold chkE at h
    split at h
    all_goals first | (rename_i q; cases q; done) | (cases h; done) | skip
    · rename_i q
      cases q
      have e := of_decide_eq_true h
      subst e
      exact se_const pe_int (fun _ => rfl) rfl fun _ => .int _
  | .str x, X, S, ok, ex, h => by
    unfold chkE at h
    split at h
    all_goals first | (rename_i q; cases q; done) | (cases h; done) | skip
    · rename_i q
      cases q
      have e := of_decide_eq_true h
      subst e
      exact se_const pe_str (fun _ => rfl) rfl fun _ => .str _
  | .bl b, X, S, ok, ex, h => by
    unfold chkE at h
    split at h
    all_goals first | (rename_i q; cases q; done) | (cases h; done) | skip
    · rename_i q
      cases q
      have e := of_decide_eq_true h
      subst e
      exact se_const pe_bl (fun _ => rfl) rfl fun _ => .bl _
  | .non, X, S, ok, ex, h => by
    unfold chkE at h
    split at h
    all_goals first | (rename_i q; cases q; done) | (cases h; done) | skip
    · rename_i q
      cases q
      exact se_const pe_non (fun _ => rfl) rfl fun _ => .non
  | .glob x d, X, S, ok, ex, h => by
    unfold chkE at h
    split at h
    all_goals first | (rename_i q; cases q; done) | (cases h; done) | skip
    · rename_i q
      cases q
      rw [Bool.and_eq_true, Bool.and_eq_true] at h
      exact se_glob ok (of_decide_eq_true h.1.1) h.1.2 h.2
  | .bin op a b, X, S, ok, ex, h => by
    unfold chkE at h
    split at h
    all_goals first | (rename_i q; cases q; done) | (cases h; done) | skip
    · rename_i q
      cases q
      simp only [Bool.and_eq_true, decide_eq_true_eq, Bool.not_eq_true'] at h
      obtain ⟨⟨e, h1⟩, h2⟩ := h
      subst e
      exact se_bin (sndE a ok _ h1) (sndE b ok _ h2)
  | .neg a, X, S, ok, ex, h => by
    unfold chkE at h
    split at h
    all_goals first | (rename_i q; cases q; done) | (cases h; done) | skip
    · rename_i q
      cases q
      exact se_neg (sndE a ok _ h)
  | .cmp op a b, X, S, ok, ex, h => by
    unfold chkE at h
    split at h
    all_goals first | (rename_i q; cases q; done) | (cases h; done) | skip
    · rename_i q
      cases q
      simp only [Bool.and_eq_true, decide_eq_true_eq, Bool.not_eq_true'] at h
      obtain ⟨⟨⟨e, hm⟩, h1⟩, h2⟩ := h
      subst e
      exact se_cmp ok hm (sndE a ok _ h1) (sndE b ok _ h2)
  | .chain op op' a b c, X, S, ok, ex, h => by
    unfold chkE at h
    split at h
    all_goals first | (rename_i q; cases q; done) | (cases h; done) | skip
    · rename_i q
      cases q
      simp only [Bool.and_eq_true, decide_eq_true_eq, Bool.not_eq_true'] at h
      obtain ⟨⟨⟨⟨⟨e, e2⟩, hm⟩, h1⟩, h2⟩, h3⟩ := h
      subst e
      subst e2
      exact se_chain ok hm (sndE a ok _ h1) (sndE b ok _ h2) (sndE c ok _ h3)
  | .andV a b, X, S, ok, ex, h => by
    unfold chkE at h
    split at h
    all_goals first | (rename_i q; cases q; done) | (cases h; done) | skip
    · rename_i q
      cases q
      simp only [Bool.and_eq_true, decide_eq_true_eq, Bool.not_eq_true'] at h
      exact se_andV (sndE a ok _ h.1) (sndE b ok _ h.2)
  | .orV a b, X, S, ok, ex, h => by
    unfold chkE at h
    split at h
    all_goals first | (rename_i q; cases q; done) | (cases h; done) | skip
    · rename_i q
      cases q
      simp only [Bool.and_eq_true, decide_eq_true_eq, Bool.not_eq_true'] at h
      exact se_orV (sndE a ok _ h.1) (sndE b ok _ h.2)
  | .oneV a, X, S, ok, ex, h => by
    unfold chkE at h
    split at h
    all_goals first | (rename_i q; cases q; done) | (cases h; done) | skip
    · rename_i q
      cases q
      exact se_oneV (sndE a ok _ h)
  | .notV a, X, S, ok, ex, h => by
    unfold chkE at h
    split at h
    all_goals first | (rename_i q; cases q; done) | (cases h; done) | skip
    · rename_i q
      cases q
      exact se_notV (sndE a ok _ h)
  | .ite t a b, X, S, ok, ex, h => by
    unfold chkE at h
    split at h
    all_goals first | (rename_i q; cases q; done) | (cases h; done) | skip
    · rename_i q
      cases q
      simp only [Bool.and_eq_true, decide_eq_true_eq, Bool.not_eq_true'] at h
      exact se_ite (sndT t ok _ h.1.1).1 (sndE a ok _ h.1.2) (sndE b ok _ h.2)
  | .tup es, X, S, ok, ex, h => by
    unfold chkE at h
    split at h
    all_goals first | (rename_i q; cases q; done) | (cases h; done) | skip
    · rename_i q
      cases q
      exact se_tup (snds es ok _ h)
  | .lst es, X, S, ok, ex, h => by
    unfold chkE at h
    split at h
    all_goals first | (rename_i q; cases q; done) | (cases h; done) | skip
    · rename_i q
      cases q
      exact se_lst (snds es ok _ h)
  | .ix a b, X, S, ok, ex, h => by
    unfold chkE at h
    split at h
    all_goals first | (rename_i q; cases q; done) | (cases h; done) | skip
    · rename_i q
      cases q
      simp only [Bool.and_eq_true, decide_eq_true_eq, Bool.not_eq_true'] at h
      exact se_ix (ix_plain h.1.1) (sndE a ok _ h.1.2) (sndE b ok _ h.2)
  | .sl a lo hi, X, S, ok, ex, h => by
    unfold chkE at h
    split at h
    all_goals first | (rename_i q; cases q; done) | (cases h; done) | skip
    · rename_i q
      cases q
      simp only [Bool.and_eq_true, decide_eq_true_eq, Bool.not_eq_true'] at h
      exact se_sl (sndE a ok _ h.1.1) (sndO lo ok _ h.1.2) (sndO hi ok _ h.2)
  | .isi a ts, X, S, ok, ex, h => by
    unfold chkE at h
    split at h
    all_goals first | (rename_i q; cases q; done) | (cases h; done) | skip
    · rename_i q
      cases q
      rw [Bool.and_eq_true, Bool.and_eq_true, Bool.and_eq_true, Bool.and_eq_true] at h
      obtain ⟨⟨⟨⟨h1, h2⟩, h3⟩, h4⟩, h5⟩ := h
      exact se_isi ok (of_decide_eq_true h1) h2 h3 (sndE a ok _ h4) h5
  | .bcall b es, X, S, ok, ex, h => by
    unfold chkE at h
    split at h
    all_goals first | (rename_i q; cases q; done) | (cases h; done) | skip
    · rename_i q
      cases q
      simp only [Bool.and_eq_true, decide_eq_true_eq, Bool.not_eq_true'] at h
      exact se_bi ok h.1.1 h.1.2 (chks_star h.2) (snds es ok _ h.2)
  | .fcall f es, X, S, ok, ex, h => by
    unfold chkE at h
    split at h
    all_goals first | (rename_i q; cases q; done) | (cases h; done) | skip
    · rename_i q
      cases q
      simp only [Bool.and_eq_true, decide_eq_true_eq, Bool.not_eq_true'] at h
      exact se_fcall ok h.1.1 h.1.2 (chks_star h.2) (fun z => nomatch z) (snds es ok _ h.2)
  | .fscr f es, X, S, ok, ex, h => by
    unfold chkE at h
    split at h
    all_goals first | (rename_i q; cases q; done) | (cases h; done) | skip
    · rename_i q
      cases q
      simp only [Bool.and_eq_true, decide_eq_true_eq, Bool.not_eq_true'] at h
      exact se_fscr ok h.1.1 h.1.2 (chks_star h.2) (fun z => nomatch z) (chks_ne h.2) (snds es ok _ h.2)
  | .fref f s es, X, S, ok, ex, h => by
    unfold chkE at h
    split at h
    all_goals first | (rename_i q; cases q; done) | (cases h; done) | skip
    · rename_i q
      cases q
      simp only [Bool.and_eq_true, decide_eq_true_eq, Bool.not_eq_true'] at h
      exact se_fref ok h.1.1.1 h.1.1.2 h.1.2 (chks_star h.2) (snds es ok _ h.2)
  | .mut m i es, X, S, ok, ex, h => by
    unfold chkE at h
    split at h
    all_goals first | (rename_i q; cases q; done) | (cases h; done) | skip
    · rename_i q
      cases q
      rw [Bool.and_eq_true, Bool.and_eq_true, Bool.and_eq_true, Bool.and_eq_true] at h
      obtain ⟨⟨⟨⟨h1, h2⟩, h3⟩, h4⟩, h5⟩ := h
      exact se_mut ok (of_decide_eq_true h1) h2 h3 (of_decide_eq_true h4) (chks_star h5) (fun z => by subst z; exact chks_nil h5) (snds es ok _ h5)
  | .lc own elt g it t, X, S, ok, ex, h => by
    unfold chkE at h
    split at h
    all_goals first | (rename_i q; cases q; done) | (cases h; done) | skip
    · rename_i q
      cases q
      rw [Bool.and_eq_true, Bool.and_eq_true, Bool.and_eq_true, Bool.and_eq_true, Bool.and_eq_true, Bool.and_eq_true] at h
      obtain ⟨⟨⟨⟨⟨⟨h1, h2⟩, h3⟩, h4⟩, h5⟩, h6⟩, h7⟩ := h
      exact se_lc ok h1 h4 h5 (sndI it ok _ _ h2 h3) (fun Y oY e => e ▸ sndC t oY _ h6) fun Y oY e => e ▸ sndE elt oY _ h7
  | .lc2 own elt g it t g1 it1 t1, X, S, ok, ex, h => by
    unfold chkE at h
    split at h
    all_goals first | (rename_i q; cases q; done) | (cases h; done) | skip
    · rename_i q
      cases q
      rw [Bool.and_eq_true, Bool.and_eq_true, Bool.and_eq_true, Bool.and_eq_true, Bool.and_eq_true, Bool.and_eq_true, Bool.and_eq_true, Bool.and_eq_true, Bool.and_eq_true, Bool.and_eq_true, Bool.and_eq_true, Bool.and_eq_true] at h
      obtain ⟨⟨⟨⟨⟨⟨⟨⟨⟨⟨⟨⟨h1, h2⟩, h3⟩, h4⟩, h5⟩, h6⟩, i2⟩, i3⟩, i4⟩, io⟩, i5⟩, i6⟩, h7⟩ := h
      exact se_lc2 ok h1 h4 i4 h5 i5 (fun j m => by simpa using List.all_eq_true.mp io j m) (sndI it ok _ _ h2 h3) (fun Y oY e => e ▸ sndC t oY _ h6) (fun Y oY e => e ▸ sndI it1 oY _ _ i2 i3) (fun Y oY e => e ▸ sndC t1 oY _ i6) fun Y oY e => e ▸ sndE elt oY _ h7
  | .meth m o es, X, S, ok, ex, h => by
    unfold chkE at h
    cases h
  | .fz i e, X, S, ok, ex, h => by
    unfold chkE at h
    exact se_fz (sndE e ok _ h)
theorem snds : ∀ (es : IEs) {X : Cx} {S : Sx} (ok : Ok X G S C) (xs : List Expr), chks G S es xs = true → PA X xs (tAs X.K C es)
  | .nil, X, S, ok, xs, h => by
    cases xs with
    | nil => exact sa_nil
    | cons x xs => simp [chks] at h
  | .cons e es, X, S, ok, xs, h => by
    cases xs with
    | nil => simp [chks] at h
    | cons x xs =>
      simp only [chks, Bool.and_eq_true] at h
      exact sa_cons h.1.1 (sndE e ok x h.1.2) (snds es ok xs h.2)
theorem sndO : ∀ (o : IO) {X : Cx} {S : Sx} (ok : Ok X G S C) (x : Option Expr), chkO G S o x = true → PO X x (tOs X.K C o)
  | .none, X, S, ok, x, h => by
    cases x with
    | none => exact so_none
    | some x => simp [chkO] at h
  | .some e, X, S, ok, x, h => by
    cases x with
    | none => simp [chkO] at h
    | some x =>
      simp only [chkO] at h
      exact so_some (sndE e ok x h)
theorem sndT : ∀ (t : IT) {X : Cx} {S : Sx} (ok : Ok X G S C) (ex : Expr), chkT G S t ex = true → PT X ex (tTt X.K C t) ∧ (isBool ex = true → PW X ex (tTt X.K C t))
  | .tru e, X, S, ok, ex, h => by
    unfold chkT at h
    simp only [Bool.and_eq_true] at h
    exact ⟨st_tru h.1 (sndE e ok _ h.2), fun z => by rw [notBool h.1] at z; cases z⟩
  | .cmp (.cmp op a b), X, S, ok, ex, h => by
    unfold chkT at h
    split at h
    all_goals first | (rename_i q; cases q; done) | (cases h; done) | skip
    · rename_i q
      cases q
      simp only [Bool.and_eq_true, decide_eq_true_eq, Bool.not_eq_true'] at h
      obtain ⟨⟨⟨e, hm⟩, h1⟩, h2⟩ := h
      subst e
      exact ⟨st_cmp ok hm (sndE a ok _ h1) (sndE b ok _ h2), fun z => nomatch z⟩
  | .cmp (.chain op op' a b c), X, S, ok, ex, h => by
    unfold chkT at h
    split at h
    all_goals first | (rename_i q; cases q; done) | (cases h; done) | skip
    · rename_i q
      cases q
      simp only [Bool.and_eq_true, decide_eq_true_eq, Bool.not_eq_true'] at h
      obtain ⟨⟨⟨⟨⟨e, e2⟩, hm⟩, h1⟩, h2⟩, h3⟩ := h
      subst e
      subst e2
      exact ⟨st_chain ok hm (sndE a ok _ h1) (sndE b ok _ h2) (sndE c ok _ h3), fun z => nomatch z⟩
  | .cmp (.var i), X, S, ok, ex, h => by
    unfold chkT at h
    cases h
  | .cmp (.mov i), X, S, ok, ex, h => by
    unfold chkT at h
    cases h
  | .cmp (.int i), X, S, ok, ex, h => by
    unfold chkT at h
    cases h
  | .cmp (.str x), X, S, ok, ex, h => by
    unfold chkT at h
    cases h
  | .cmp (.bl b), X, S, ok, ex, h => by
    unfold chkT at h
    cases h
  | .cmp (.non), X, S, ok, ex, h => by
    unfold chkT at h
    cases h
  | .cmp (.glob x d), X, S, ok, ex, h => by
    unfold chkT at h
    cases h
  | .cmp (.bin op a b), X, S, ok, ex, h => by
    unfold chkT at h
    cases h
  | .cmp (.neg a), X, S, ok, ex, h => by
    unfold chkT at h
    cases h
  | .cmp (.andV a b), X, S, ok, ex, h => by
    unfold chkT at h
    cases h
  | .cmp (.orV a b), X, S, ok, ex, h => by
    unfold chkT at h
    cases h
  | .cmp (.oneV a), X, S, ok, ex, h => by
    unfold chkT at h
    cases h
  | .cmp (.notV a), X, S, ok, ex, h => by
    unfold chkT at h
    cases h
  | .cmp (.ite t a b), X, S, ok, ex, h => by
    unfold chkT at h
    cases h
  | .cmp (.tup es), X, S, ok, ex, h => by
    unfold chkT at h
    cases h
  | .cmp (.lst es), X, S, ok, ex, h => by
    unfold chkT at h
    cases h
  | .cmp (.ix a b), X, S, ok, ex, h => by
    unfold chkT at h
    cases h
  | .cmp (.sl a lo hi), X, S, ok, ex, h => by
    unfold chkT at h
    cases h
  | .cmp (.isi a ts), X, S, ok, ex, h => by
    unfold chkT at h
    cases h
  | .cmp (.bcall b es), X, S, ok, ex, h => by
    unfold chkT at h
    cases h
  | .cmp (.fcall f es), X, S, ok, ex, h => by
    unfold chkT at h
    cases h
  | .cmp (.fscr f es), X, S, ok, ex, h => by
    unfold chkT at h
    cases h
  | .cmp (.fref f s es), X, S, ok, ex, h => by
    unfold chkT at h
    cases h
  | .cmp (.mut m i es), X, S, ok, ex, h => by
    unfold chkT at h
    cases h
  | .cmp (.lc own elt g it t), X, S, ok, ex, h => by
    unfold chkT at h
    cases h
  | .cmp (.lc2 own elt g it t g1 it1 t1), X, S, ok, ex, h => by
    unfold chkT at h
    cases h
  | .cmp (.meth m o es), X, S, ok, ex, h => by
    unfold chkT at h
    cases h
  | .cmp (.fz i e), X, S, ok, ex, h => by
    unfold chkT at h
    cases h
  | .and a b, X, S, ok, ex, h => by
    unfold chkT at h
    split at h
    all_goals first | (rename_i q; cases q; done) | (cases h; done) | skip
    · rename_i q
      cases q
      simp only [Bool.and_eq_true] at h
      have w := st_and (sndT a ok _ h.1).1 ((sndT b ok _ h.2).2 rfl)
      exact ⟨w.pt, fun _ => w⟩
  | .or a b, X, S, ok, ex, h => by
    unfold chkT at h
    split at h
    all_goals first | (rename_i q; cases q; done) | (cases h; done) | skip
    · rename_i q
      cases q
      simp only [Bool.and_eq_true] at h
      have w := st_or (sndT a ok _ h.1).1 ((sndT b ok _ h.2).2 rfl)
      exact ⟨w.pt, fun _ => w⟩
  | .one a, X, S, ok, ex, h => by
    unfold chkT at h
    split at h
    all_goals first | (rename_i q; cases q; done) | (cases h; done) | skip
    · rename_i q
      cases q
      exact ⟨(st_one (sndT a ok _ h).1).pt, fun _ => st_one (sndT a ok _ h).1⟩
  | .not a, X, S, ok, ex, h => by
    unfold chkT at h
    split at h
    all_goals first | (rename_i q; cases q; done) | (cases h; done) | skip
    · rename_i q
      cases q
      exact ⟨st_not (sndT a ok _ h).1, fun z => nomatch z⟩
theorem sndC : ∀ (t : IC) {X : Cx} {S : Sx} (ok : Ok X G S C) (xs : List Expr), chkC G S t xs = true → PTs X xs (tCt X.K C t)
  | .yes, X, S, ok, xs, h => by
    cases xs with
    | nil => exact sc_yes
    | cons x xs => simp [chkC] at h
  | .one t, X, S, ok, xs, h => by
    rcases xs with _ | ⟨x, _ | ⟨y, r⟩⟩
    · simp [chkC] at h
    · simp only [chkC] at h
      exact sc_one (sndT t ok x h).1
    · simp [chkC] at h
theorem sndI : ∀ (it : II) {X : Cx} {S : Sx} (ok : Ok X G S C) (ex tg : Expr), chkI G S it ex = true → tgI it tg = true → PI X tg ex (tIt X.K C it)
  | .seq e, X, S, ok, ex, tg, h, _ => by
    unfold chkI at h
    exact si_seq (sndE e ok _ h)
  | .rng1 a, X, S, ok, ex, tg, h, _ => by
    unfold chkI at h
    split at h
    all_goals first | (rename_i q; cases q; done) | (cases h; done) | skip
    · rename_i q
      cases q
      simp only [Bool.and_eq_true, decide_eq_true_eq] at h
      exact si_rng1 ok h.1.1.1 h.1.1.2 h.1.2 (sndE a ok _ h.2)
  | .rng2 a b, X, S, ok, ex, tg, h, _ => by
    unfold chkI at h
    split at h
    all_goals first | (rename_i q; cases q; done) | (cases h; done) | skip
    · rename_i q
      cases q
      simp only [Bool.and_eq_true, decide_eq_true_eq] at h
      obtain ⟨⟨⟨⟨⟨h1, h2⟩, h3⟩, h4⟩, h5⟩, h6⟩ := h
      exact si_rng2 ok h1 h2 h3 h4 (sndE a ok _ h5) (sndE b ok _ h6)
  | .enum a, X, S, ok, ex, tg, h, ht => by
    obtain ⟨es, k, p, rfl⟩ : ∃ es k p, tg = .Tuple es k p := by
      cases tg with
      | Tuple es k p => exact ⟨es, k, p, rfl⟩
      | _ => simp [tgI] at ht
    unfold chkI at h
    split at h
    all_goals first | (rename_i q; cases q; done) | (cases h; done) | skip
    · rename_i q
      cases q
      simp only [Bool.and_eq_true, decide_eq_true_eq] at h
      exact si_enum ok h.1.1.1 h.1.1.2 h.1.2 (sndE a ok _ h.2)
  | .zip a b, X, S, ok, ex, tg, h, ht => by
    obtain ⟨es, k, p, rfl⟩ : ∃ es k p, tg = .Tuple es k p := by
      cases tg with
      | Tuple es k p => exact ⟨es, k, p, rfl⟩
      | _ => simp [tgI] at ht
    unfold chkI at h
    split at h
    all_goals first | (rename_i q; cases q; done) | (cases h; done) | skip
    · rename_i q
      cases q
      simp only [Bool.and_eq_true, decide_eq_true_eq] at h
      obtain ⟨⟨⟨⟨⟨h1, h2⟩, h3⟩, h4⟩, h5⟩, h6⟩ := h
      exact si_zip ok h1 h2 h3 h4 (sndE a ok _ h5) (sndE b ok _ h6)
end
end
end Zr

set_option maxRecDepth 100000
set_option maxHeartbeats 8000000
/-! ZrQ: statements. -/
namespace Zr
open PySem PySem.Spec PyProof.Rows L2

section
variable {K : Fr'} {H H0 H' H1 H2 H3 : Hp} {ρ ρ0 ρ' ρ1 ρ2 : List Slot} {σ σ' σ0 σ1 σ2 : L2.St} {F F0 F' F1 F2 : Fa} {Z Z0 Z' Z1 Z2 : Addr → Prop} {E E1 E2 A A1 A2 : List Nat}
/-- the values of the slots outside A stay -/
def SQ (A : List Nat) (σ σ' : L2.St) : Prop := ∀ j : Nat, j ∉ A → σ'[j]? = σ[j]?
theorem SQ.refl : SQ A σ σ := fun _ _ => rfl
theorem SQ.trans (a : SQ A σ σ1) (b : SQ A σ1 σ2) : SQ A σ σ2 := fun j hj => (b j hj).trans (a j hj)
theorem SQ.more (a : SQ A1 σ σ1) (h : ∀ j ∈ A1, j ∈ A) : SQ A σ σ1 := fun j hj => a j fun z => hj (h j z)
/-- what is promised at the end of a statement -/
def Fin' (E A : List Nat) (K : Fr') (H : Hp) (ρ : List Slot) (F : Fa) (Z : Addr → Prop) (σ : L2.St) (D : Ends) : Out → Prop
  | .nx ρ' => ∀ σ' H' F' Z', Step E H ρ F Z H' ρ' F' Z' → W K H' ρ' σ' F' Z' → SQ A σ σ' → D.nx σ' H'
  | .rt d ρ' => ∀ v σ' H' F' Z', Step E H ρ F Z H' ρ' F' Z' → W K H' ρ' σ' F' Z' → SQ A σ σ' → VR E K H F H' ρ' σ' F' Z' v d .fresh → D.rt v H'
def tX (K : Fr') (f : Ro → Option Out) (E A : List Nat) : TS := fun D σ H => ∃ ρ F Z o, W K H ρ σ F Z ∧ f ρ = some o ∧ Fin' E A K H ρ F Z σ D o
/-- from a later base -/
theorem Fin'.step {D : Ends} {o : Out} (h : Fin' E A K H ρ F Z σ D o) (s : Step E1 H ρ F Z H1 ρ1 F1 Z1) (q : SQ A1 σ σ1) (h1 : ∀ j ∈ E1, j ∈ E) (h2 : ∀ j ∈ E2, j ∈ E) (h3 : ∀ j ∈ A1, j ∈ A) (h4 : ∀ j ∈ A2, j ∈ A) : Fin' E2 A2 K H1 ρ1 F1 Z1 σ1 D o := by
  cases o with
  | nx ρ' => exact fun σ' H' F' Z' t w sq => h σ' H' F' Z' (s.seq t h1 h2) w ((q.more h3).trans (sq.more h4))
  | rt d ρ' => exact fun v σ' H' F' Z' t w sq r => h v σ' H' F' Z' (s.seq t h1 h2) w ((q.more h3).trans (sq.more h4)) ((VR.back s r).more fun j m => (List.mem_append.mp m).elim (h1 j) (h2 j))
/-- another end where it goes on -/
theorem Fin'.rt {D : Ends} {d : PyData} {ρ' : Ro} {N : L2.St → Hp → Prop} {N2 N3 : L2.St → Hp → Prop} (h : Fin' E A K H ρ F Z σ D (.rt d ρ')) : Fin' E A K H ρ F Z σ ⟨N, D.rt, N2, N3⟩ (.rt d ρ') := h
end
theorem _root_.L2.PS.of {X : Cx} {s : Stmt} {t t' : TS} (h : PS X s t) (k : ∀ D σ H, t' D σ H → t D σ H) : PS X s t' := ⟨fun pins s σ H D I q => h.run pins s σ H D I (k D σ H q)⟩
theorem _root_.L2.PSs.of {X : Cx} {s : List Stmt} {t t' : TS} (h : PSs X s t) (k : ∀ D σ H, t' D σ H → t D σ H) : PSs X s t' := ⟨fun pins s σ H D I q => h.run pins s σ H D I (k D σ H q)⟩
section
variable {X : Cx} {G : Gx} {S : Sx} {C : CallF}
theorem ss_nil : PSs X [] (tX X.K (execs C .nil) (effSs .nil) (asSs .nil)) := pss_nil.of fun D σ H ⟨ρ, F, Z, o, w, he, k⟩ => by
  simp only [execs] at he
  cases he
  exact k σ H F Z .refl w .refl
theorem ss_cons {s : IS} {ss : ISs} {st : Stmt} {sts : List Stmt} (h1 : PS X st (tX X.K (exec C s) (effS s) (asS s))) (h2 : PSs X sts (tX X.K (execs C ss) (effSs ss) (asSs ss))) : PSs X (st :: sts) (tX X.K (execs C (.cons s ss)) (effSs (.cons s ss)) (asSs (.cons s ss))) := (pss_cons h1 h2).of fun D σ H ⟨ρ, F, Z, o, w, he, k⟩ => by
  simp only [execs] at he
  split at he
  · rename_i ρ1 ea
    exact ⟨ρ, F, Z, _, w, ea, fun σ' H' F' Z' s1 w1 q1 => ⟨ρ1, F', Z', o, w1, he, k.step s1 q1 (fun _ => ml) (fun _ => mr) (fun _ => ml) (fun _ => mr)⟩⟩
  · rename_i nn
    cases o with
    | nx ρ' => exact absurd he (nn ρ')
    | rt d ρ' => exact ⟨ρ, F, Z, _, w, he, k.step (E2 := effS s) (A2 := asS s) (E1 := []) (A1 := []) .refl .refl (fun _ m => (nomatch m)) (fun _ => ml) (fun _ m => (nomatch m)) (fun _ => ml)⟩
theorem ss_pass {p : Pos} : PS X (.Pass p) (tX X.K (exec C .pass) (effS .pass) (asS .pass)) := ps_pass.of fun D σ H ⟨ρ, F, Z, o, w, he, k⟩ => by
  simp only [exec] at he
  cases he
  exact k σ H F Z .refl w .refl
theorem ss_doc {x : Str} {j : Nat} {p p' : Pos} : PS X (.Expr (.Constant (.str x) j p) p') (tX X.K (exec C .pass) (effS .pass) (asS .pass)) := ps_doc.of fun D σ H ⟨ρ, F, Z, o, w, he, k⟩ => by
  simp only [exec] at he
  cases he
  exact k σ H F Z .refl w .refl
theorem ss_never {st : Stmt} : PS X st (tX X.K (exec C .never) (effS .never) (asS .never)) := ⟨fun pins s σ H D I ⟨ρ, F, Z, o, w, he, k⟩ => by
  simp only [exec] at he
  cases he⟩
theorem ss_expr {e : IE} {x : Expr} {p : Pos} (hx : notComp x = true) (ha : PE X x (tE X.K C e)) : PS X (.Expr x p) (tX X.K (exec C (.expr e)) (effS (.expr e)) (asS (.expr e))) := by
  refine (ps_expr ha (by cases x <;> first | rfl | cases hx)).of fun D σ H ⟨ρ, F, Z, o, w, he, k⟩ => ?_
  simp only [exec] at he
  split at he
  · rename_i d st ρ1 ea
    cases he
    exact ⟨ρ, F, Z, d, st, _, w, ea, fun v H1 F1 Z1 s1 w1 r1 => k σ H1 F1 Z1 s1 w1 .refl⟩
  · cases he
theorem ss_ret {e : IE} {x : Expr} {p : Pos} (ha : PE X x (tE X.K C e)) : PS X (.Return (some x) p) (tX X.K (exec C (.ret e)) (effS (.ret e)) (asS (.ret e))) := by
  refine (ps_ret ha).of fun D σ H ⟨ρ, F, Z, o, w, he, k⟩ => ?_
  simp only [exec] at he
  split at he
  · rename_i d st ρ1 ea
    split at he
    · rename_i ρ2 es
      cases he
      refine ⟨ρ, F, Z, d, st, _, w, ea, fun v H1 F1 Z1 s1 w1 r1 => ?_⟩
      obtain ⟨B, hb, fb⟩ := r1
      obtain ⟨F2, B2, w2, s2, ho, o2, n2, _, _⟩ := settle_ok w1 hb.vc fb.toOff es
      refine k v σ H1 F2 Z1 (s1.seq s2 (fun _ => ml) fun j m => mr (tk_of C e ea j m)) w2 .refl ⟨B2, ho, o2.fl fun a m => ?_⟩
      rcases n2 a m with m | ⟨i, hi, m⟩
      · exact (fb.new a m).imp (fun ⟨i, hi, q⟩ => ⟨i, ml hi, q⟩) id
      · rcases s1.own i a m with z | ⟨k, hk, z⟩ | z
        · exact .inl ⟨i, mr (tk_of C e ea i hi), z⟩
        · exact .inl ⟨k, ml hk, z⟩
        · exact .inr z
    · cases he
  · cases he
theorem ss_retN {p : Pos} : PS X (.Return none p) (tX X.K (exec C .retN) (effS .retN) (asS .retN)) := ps_retN.of fun D σ H ⟨ρ, F, Z, o, w, he, k⟩ => by
  simp only [exec] at he
  cases he
  exact k .non σ H F Z .refl w .refl (VR.pure (b := true) (P := fun _ => True) rfl .non)
theorem ss_if {t : IT} {a b : ISs} {c : Expr} {sa sb : List Stmt} {p : Pos} (hc : PT X c (tTt X.K C t)) (ha : PSs X sa (tX X.K (execs C a) (effSs a) (asSs a))) (hb : PSs X sb (tX X.K (execs C b) (effSs b) (asSs b))) :
    PS X (.If c sa sb p) (tX X.K (exec C (.ifs t a b)) (effS (.ifs t a b)) (asS (.ifs t a b))) := by
  refine (ps_if hc ha hb).of fun D σ H ⟨ρ, F, Z, o, w, he, k⟩ => ?_
  simp only [exec] at he
  split at he
  · rename_i q ρ1 ea
    refine ⟨ρ, F, Z, q, ρ1, w, ea, fun H1 F1 Z1 s1 w1 => ?_⟩
    cases q with
    | true =>
      refine iteT ⟨ρ1, F1, Z1, o, w1, by simpa using he, ?_⟩
      exact k.step (A1 := []) s1 .refl (fun _ => ml) (fun _ m => mr (ml m)) (fun _ m => (nomatch m)) fun _ => ml
    | false =>
      refine iteF ⟨ρ1, F1, Z1, o, w1, by simpa using he, ?_⟩
      exact k.step (A1 := []) s1 .refl (fun _ => ml) (fun _ m => mr (mr m)) (fun _ m => (nomatch m)) fun _ => mr
  · cases he
theorem ss_while {t : IT} {b : ISs} {c : Expr} {sb : List Stmt} {p : Pos} (hp : PassesOwn (model X.prog X.w) X.A X.env X.xe) (hc : PT X c (tTt X.K C t)) (hb : PSs X sb (tX X.K (execs C b) (effSs b) (asSs b))) :
    PS X (.While c sb [] p) (tX X.K (exec C (.whl t b)) (effS (.whl t b)) (asS (.whl t b))) := by
  refine (ps_while hp hc hb).of fun D σ H ⟨ρ, F, Z, o, w, he, k⟩ => ?_
  simp only [exec] at he
  refine ⟨fun m σ H => ∃ ρ F Z, W X.K H ρ σ F Z ∧ whGo (evT C t) (execs C b) m ρ = some o ∧ Fin' (effS (.whl t b)) (asS (.whl t b)) X.K H ρ F Z σ D o, ⟨wf, ρ, F, Z, w, he, k⟩, ?_⟩
  rintro m σ H ⟨ρ, F, Z, w, he, k⟩
  cases m with
  | zero =>
    simp only [whGo] at he
    cases he
  | succ m =>
    simp only [whGo] at he
    split at he
    · rename_i ρ1 ea
      refine ⟨ρ, F, Z, true, ρ1, w, ea, fun H1 F1 Z1 s1 w1 => ?_⟩
      refine iteT ?_
      refine ⟨fun σ' H' => ∃ ρ F Z, W X.K H' ρ σ' F Z ∧ whGo (evT C t) (execs C b) m ρ = some o ∧ Fin' (effS (.whl t b)) (asS (.whl t b)) X.K H' ρ F Z σ' D o, fun σ' H' h => ⟨m, Nat.lt_succ_self m, h⟩, ?_⟩
      have k1 : Fin' (effS (.whl t b)) (asS (.whl t b)) X.K H1 ρ1 F1 Z1 σ D o := k.step (A1 := []) s1 .refl (fun _ => ml) (fun _ m => m) (fun _ m => (nomatch m)) fun _ m => m
      split at he
      · rename_i ρ2 eb
        exact ⟨ρ1, F1, Z1, _, w1, eb, fun σ2 H2 F2 Z2 s2 w2 q2 => ⟨ρ2, F2, Z2, w2, he, k1.step s2 q2 (fun _ => mr) (fun _ m => m) (fun _ m => m) fun _ m => m⟩⟩
      · rename_i nn
        cases o with
        | nx ρ' => exact absurd he (nn ρ')
        | rt d ρ' =>
          exact ⟨ρ1, F1, Z1, _, w1, he, k1.step (E2 := effSs b) (A2 := asSs b) (E1 := []) (A1 := []) .refl .refl (fun _ m => (nomatch m)) (fun _ => mr) (fun _ m => (nomatch m)) fun _ m => m⟩
    · rename_i ρ1 ea
      cases he
      exact ⟨ρ, F, Z, false, ρ1, w, ea, fun H1 F1 Z1 s1 w1 => iteF (k σ H1 F1 Z1 (s1.more fun _ => ml) w1 .refl)⟩
    · cases he
theorem ss_for (ok : Ok X G S C) {g : IG} {it : II} {b : ISs} {tg ie : Expr} {sb : List Stmt} {p : Pos} (hp : PassesOwn (model X.prog X.w) X.A X.env X.xe) (hset : notSet ie = true) (hi : PI X tg ie (tIt X.K C it)) (hg : PG X tg (tGt X.K g)) (hb : PSs X sb (tX X.K (execs C b) (effSs b) (asSs b))) :
    PS X (.For tg ie sb [] p) (tX X.K (exec C (.for g it b)) (effS (.for g it b)) (asS (.for g it b))) := by
  refine (ps_for hp ok.calm hi hg hb (fold_of hset)).of fun D σ H ⟨ρ, F, Z, o, w, he, k⟩ => ?_
  simp only [exec] at he
  split at he
  · rename_i xs sts ρ1 ei
    split at he
    · rename_i c1
      refine ⟨ρ, F, Z, xs, sts, ρ1, w, ei, fun J H1 F1 Z1 s1 w1 itr => ?_⟩
      have itr := itr _ c1
      obtain ⟨turn, hturn, he⟩ : ∃ turn : PyData → Ro → Option Out, (∀ x ρ, turn x ρ = (bindV g x .froz ρ).bind (execs C b)) ∧ forGo turn xs ρ1 = some o := ⟨_, fun x ρ => by cases bindV g x .froz ρ <;> rfl, he⟩
      have k1 : Fin' (effS (.for g it b)) (asS (.for g it b)) X.K H1 ρ1 F1 Z1 σ D o := k.step (A1 := []) s1 .refl (fun _ => ml) (fun _ m => m) (fun _ m => (nomatch m)) fun _ m => m
      refine ⟨fun i m σ2 H2 => m = xs.length - i ∧ i ≤ xs.length ∧ ∃ ρ2 F2 Z2, Step (g.slots ++ effSs b) H1 ρ1 F1 Z1 H2 ρ2 F2 Z2 ∧ W X.K H2 ρ2 σ2 F2 Z2 ∧ SQ (g.slots ++ asSs b) σ σ2 ∧ forGo turn (xs.drop i) ρ2 = some o, ⟨xs.length, by simp, Nat.zero_le _, ρ1, F1, Z1, .refl, w1, .refl, by simpa using he⟩, ?_⟩
      rintro i m σ2 H2 ⟨rfl, hi, ρ2, F2, Z2, s2, w2, q2, he⟩
      obtain ⟨i1, i2, i3⟩ := itr H1 H2 ρ2 F2 Z2 σ2 .refl s2 w2
      by_cases hlt : i < xs.length
      · have ed : xs.drop i = xs[i] :: xs.drop (i + 1) := List.drop_eq_getElem_cons hlt
        rw [ed] at he
        unfold forGo at he
        rw [hturn] at he
        refine .inr ⟨i1 i hlt, fun σ' H' => ∃ ρ2 F2 Z2, Step (g.slots ++ effSs b) H1 ρ1 F1 Z1 H' ρ2 F2 Z2 ∧ W X.K H' ρ2 σ' F2 Z2 ∧ SQ (g.slots ++ asSs b) σ σ' ∧ forGo turn (xs.drop (i + 1)) ρ2 = some o, fun σ' H' h => ⟨xs.length - (i + 1), by omega, rfl, hlt, h⟩, fun x H3 y => ?_⟩
        obtain ⟨ex, d, hd, hbor⟩ := i3 i x H3 hlt y
        rw [List.getElem?_eq_getElem hlt] at hd
        cases hd
        obtain ⟨w3, s3⟩ := w2.ext ex
        have s3' := s2.seq s3 (fun _ m => m) fun _ m => (nomatch m)
        cases eb : bindV g xs[i] .froz ρ2 with
        | none =>
          rw [eb] at he
          cases he
        | some ρa =>
          rw [eb] at he
          simp only [Option.bind_some] at he
          refine ⟨g.slots, H3, ρ2, F2, Z2, ρ2, F2, Z2, _, .froz, ρa, [], .refl, w3, fun _ m => m, eb, ⟨rfl, hbor⟩, fun σ4 F4 s4 w4 sm f4 => ?_⟩
          have s5 := s3'.seq s4 (fun _ m => m) fun _ => ml
          have q4 : SQ (g.slots ++ asSs b) σ σ4 := q2.trans (SQ.more (A1 := g.slots) sm.off fun _ => ml)
          have k4 : Fin' (effS (.for g it b)) (asS (.for g it b)) X.K H3 ρa F4 Z2 σ4 D o := k1.step s5 q4 (fun _ => mr) (fun _ m => m) (fun _ m => m) fun _ m => m
          split at he
          · rename_i ρ5 ec
            exact ⟨ρa, F4, Z2, _, w4, ec, fun σ6 H6 F6 Z6 s6 w6 q6 => ⟨ρ5, F6, Z6, s5.seq s6 (fun _ m => m) (fun _ => mr), w6, q4.trans (q6.more fun _ => mr), he⟩⟩
          · rename_i nn
            cases o with
            | nx ρ' => exact absurd he (nn ρ')
            | rt d ρ' =>
              exact ⟨ρa, F4, Z2, _, w4, he, k4.step (E2 := effSs b) (A2 := asSs b) (E1 := []) (A1 := []) .refl .refl (fun _ m => (nomatch m)) (fun _ m => mr (mr m)) (fun _ m => (nomatch m)) fun _ => mr⟩
      · have ei : i = xs.length := by omega
        subst ei
        rw [List.drop_length] at he
        unfold forGo at he
        cases he
        exact .inl ⟨i2, k1 σ2 H2 F2 Z2 (s2.more fun _ => mr) w2 q2⟩
    · cases he
  · cases he
end
end Zr

set_option maxRecDepth 100000
set_option maxHeartbeats 8000000
/-! ZrR: assignments. -/
namespace Zr
open PySem PySem.Spec PyProof.Rows L2

section
variable {K : Fr'} {C : CallF} {H H0 H' H1 H2 H3 : Hp} {ρ ρ0 ρ' ρ1 ρ2 : List Slot} {σ σ' σ0 σ1 σ2 : L2.St} {F F0 F' F1 F2 : Fa} {Z Z0 Z' Z1 Z2 : Addr → Prop} {E E1 E2 A A1 A2 : List Nat}
/-- one value is taken behind the step that made it -/
theorem take_one {e : IE} {d : D} {st : Stat} {v : V} (ea : ev C e ρ = some (d, st, ρ1)) (s1 : Step (effE e) H ρ F Z H1 ρ1 F1 Z1) (w1 : W K H1 ρ1 σ F1 Z1) (r1 : VR (effE e) K H F H1 ρ1 σ F1 Z1 v d st) (es : settle d st ρ1 = some ρ2) (h1 : ∀ j ∈ effE e, j ∈ E) (h2 : ∀ j ∈ tkE e, j ∈ E) :
    ∃ F2 B, W K H1 ρ2 σ F2 Z1 ∧ Step E H ρ F Z H1 ρ2 F2 Z1 ∧ Own K H1 v d B ∧ Fl E H F F2 Z1 B := by
  obtain ⟨B, hb, fb⟩ := r1
  obtain ⟨F2, B2, w2, s2, ho, o2, n2, _, _⟩ := settle_ok w1 hb.vc fb.toOff es
  refine ⟨F2, B2, w2, s1.seq s2 h1 (fun j m => h2 j (tk_of C e ea j m)), ho, o2.fl fun a m => ?_⟩
  rcases n2 a m with m | ⟨i, hi, m⟩
  · exact (fb.new a m).imp (fun ⟨i, hi, q⟩ => ⟨i, h1 i hi, q⟩) id
  · rcases s1.own i a m with z | ⟨k, hk, z⟩ | z
    · exact .inl ⟨i, h2 i (tk_of C e ea i hi), z⟩
    · exact .inl ⟨k, h1 k hk, z⟩
    · exact .inr z
theorem settleA_cases {d : D} {st s' : Stat} (h : settleA d st ρ = some (s', ρ2)) : (st = .froz ∧ s' = .froz ∧ ρ2 = ρ) ∨ (s' = .fresh ∧ settle d st ρ = some ρ2) := by
  cases st with
  | froz =>
    simp only [settleA] at h
    cases h
    exact .inl ⟨rfl, rfl, rfl⟩
  | _ =>
    simp only [settleA, Option.map_eq_some_iff] at h
    obtain ⟨r, h1, h2⟩ := h
    cases h2
    exact .inr ⟨rfl, h1⟩
theorem take_inf {e : IE} {d : D} {st s' : Stat} {v : V} (ea : ev C e ρ = some (d, st, ρ1)) (s1 : Step (effE e) H ρ F Z H1 ρ1 F1 Z1) (w1 : W K H1 ρ1 σ F1 Z1) (r1 : VR (effE e) K H F H1 ρ1 σ F1 Z1 v d st) (es : settleA d st ρ1 = some (s', ρ2)) (h1 : ∀ j ∈ effE e, j ∈ E) (h2 : ∀ j ∈ tkE e, j ∈ E) :
    ∃ F2 B, W K H1 ρ2 σ F2 Z1 ∧ Step E H ρ F Z H1 ρ2 F2 Z1 ∧ InF E K H F H1 F2 Z1 v d B s' := by
  rcases settleA_cases es with ⟨rfl, rfl, rfl⟩ | ⟨rfl, es2⟩
  · obtain ⟨B, hb, fb⟩ := r1
    exact ⟨F1, [], w1, s1.more h1, rfl, hb.2⟩
  · obtain ⟨F2, B, w2, s2, ho, fl⟩ := take_one ea s1 w1 r1 es2 h1 h2
    exact ⟨F2, B, w2, s2, ho, fl⟩
end
section
variable {X : Cx} {G : Gx} {S : Sx} {C : CallF}
/-- a store: the reading from what the target asks -/
theorem asg_to {e : IE} {g : IG} {D : Ends} {σ : L2.St} {H : Hp} (h : tX X.K (exec C (.asg g e)) (effS (.asg g e)) (asS (.asg g e)) D σ H) : tE X.K C e σ H fun x H1 => tGt X.K g x σ H1 D.nx := by
  obtain ⟨ρ, F, Z, o, w, he, k⟩ := h
  simp only [exec] at he
  split at he
  · rename_i d st ρ1 ea
    split at he
    · rename_i s' ρ2 es
      split at he
      · rename_i ρ3 eb
        cases he
        refine ⟨ρ, F, Z, d, st, ρ1, w, ea, fun v H1 F1 Z1 s1 w1 r1 => ?_⟩
        obtain ⟨F2, B, w2, s2, hin⟩ := take_inf (E := effS (.asg g e)) ea s1 w1 r1 es (fun _ => ml) (fun _ m => mr (ml m))
        exact ⟨effS (.asg g e), H, ρ, F, Z, ρ2, F2, Z1, d, s', ρ3, B, s2, w2, fun j m => mr (mr m), eb, hin, fun σ' F' s3 w3 sm f3 => k σ' H1 F' Z1 s3 w3 sm.off⟩
      · cases he
    · cases he
  · cases he
def swNames (sc : Scope) (ts : List Expr) : List Str := ts.filterMap fun
  | .Name id pos => if sc.names.lookup id == some .local && pos.line == (ts.head?.map (·.pos.line)).getD 0 then some id else none
  | _ => none
def isStar : Expr → Bool
  | .Starred _ _ => true
  | _ => false
def swNone (sc : Scope) (tg ex : Expr) : Bool := match tg, ex with
  | .Tuple ts _ _, .Tuple vs _ _ => !(ts.length == 2 || ts.length == 3) || vs.length != ts.length || (swNames sc ts).length != ts.length || vs.all (foldedForSure 8)
  | .List _ _, .Tuple _ _ _ => false
  | _, _ => true
theorem sw_none (ok : Ok X G S C) {tg ex : Expr} (h : swNone S.sc tg ex = true) : swappedStores [tg] ex X.env = pure none := by
  cases ex with
  | Tuple vs k2 p2 =>
    cases tg with
    | Tuple ts k p =>
      simp only [swNone, Bool.or_eq_true] at h
      unfold swappedStores
      simp only
      split
      · rfl
      · rename_i c1
        split
        · rfl
        · have en : (ts.filterMap fun
            | .Name id pos => if X.env.kindOf id == some .local && pos.line == (ts.head?.map (·.pos.line)).getD 0 then some id else none
            | _ => none) = swNames S.sc ts := by
            unfold swNames Env.kindOf
            rw [ok.sc]
          rcases h with (h | h) | h
          · exact absurd (by rw [Bool.or_eq_true]; exact .inl (by rw [Bool.or_eq_true]; exact h)) c1
          · rw [if_pos (by
              rw [Bool.or_eq_true]
              refine .inl ?_
              rw [← en] at h
              exact h)]
          · split
            · rfl
            · first
              | rfl
              | rw [if_pos h]
              | (split <;> first | rfl | (rename_i z; exact absurd h z))
    | List ts p => cases h
    | _ => rfl
  | _ => cases tg <;> rfl
theorem sole_pure {tg ex : Expr} {l : Nat} {env : Env} (h : notComp ex = true) : swapsWithSole [tg] ex l env = pure false := by
  cases ex <;> first | rfl | cases h
theorem ss_asg (ok : Ok X G S C) {e : IE} {g : IG} {tg ex : Expr} {p : Pos} (ha : PE X ex (tE X.K C e)) (hg : chkG S g tg = true) (hs : swapsWithSole [tg] ex p.line X.env = pure false) (hw : swNone S.sc tg ex = true) :
    PS X (.Assign [tg] ex p) (tX X.K (exec C (.asg g e)) (effS (.asg g e)) (asS (.asg g e))) :=
  (ps_asg ha (sg_all ok g tg hg) hs (sw_none ok hw) (by
    have := chkG_star hg
    cases tg <;> first | rfl | cases this)).of fun D σ H h => asg_to h
def swLc (sc scope : Scope) (y : Str) (py p : Pos) : Bool := (sc.names.lookup y == some .local) && (py.line == p.line) && !(scope.names.any fun (n, k) => n == y && (k == .local || k == .cell))
theorem kind_fn (ok : Ok X G S C) : X.env.blockKind = .function := by
  unfold Env.blockKind
  rw [ok.sc, ok.kind]
  rfl
theorem sw_lc (ok : Ok X G S C) {elt : Expr} {gs : List Comprehension} {scope : Scope} {p py : Pos} {y : Str} {l : Nat} : swapsWith (.ListComp elt gs scope p) (some (.Name y py)) l X.env = pure (swLc S.sc scope y py p) := by
  unfold swLc
  show (pure (X.env.blockKind == .function && X.env.kindOf y == some .local && py.line == p.line && !(scope.names.any fun (n, k) => n == y && (k == .local || k == .cell))) : Sem Bool) = _
  rw [kind_fn ok]
  unfold Env.kindOf
  rw [ok.sc]
  rfl
/-! ### two, three names at once -/
theorem binds_to {K : Fr'} {E : List Nat} {H0 H : Hp} {ρ0 : List Slot} {F0 : Fa} {Z0 Z : Addr → Prop} : ∀ {is : List Nat} {vs : List V} {ds : List D} {ρ ρ' : List Slot} {σ : L2.St} {F : Fa} {B : List Addr} {R : L2.St → Prop}, Step E H0 ρ0 F0 Z0 H ρ F Z → W K H ρ σ F Z → (∀ j ∈ is, j ∈ E) → bindNs is ds ρ = some ρ' → InFs E K H0 F0 H F Z vs ds B .fresh →
    (∀ σ' F', σ' = (is.zip vs).foldl (fun s p => s.set p.1 (some p.2)) σ → Step E H0 ρ0 F0 Z0 H ρ' F' Z → W K H ρ' σ' F' Z → SQ is σ σ' → R σ') → R ((is.zip vs).foldl (fun s p => s.set p.1 (some p.2)) σ)
  | [], vs, [], ρ, ρ', σ, F, B, R, s, w, hE, hb, hin, k => by
    simp only [bindNs] at hb
    cases hb
    exact k σ F rfl s w .refl
  | i :: is, vs, d :: ds, ρ, ρ', σ, F, B, R, s, w, hE, hb, hin, k => by
    simp only [bindNs] at hb
    split at hb
    · rename_i ρ1 eb
      obtain ⟨v, r2, B1, B2, rfl, hv, sb1, sb2, rest⟩ := hin.split
      have h : tGt K (.nm i) v σ H fun σ1 _ => (∀ σ' F', σ' = (is.zip r2).foldl (fun s p => s.set p.1 (some p.2)) σ1 → Step E H0 ρ0 F0 Z0 H ρ' F' Z → W K H ρ' σ' F' Z → SQ is σ1 σ' → SQ (i :: is) σ σ1 → R σ') → R ((is.zip r2).foldl (fun s p => s.set p.1 (some p.2)) σ1) :=
        ⟨E, H0, ρ0, F0, Z0, ρ, F, Z, d, .fresh, ρ1, B1, s, w, fun j m => hE j (by simp [IG.slots] at m; simp [m]), eb, hv, fun σ1 F1 s1 w1 sm1 f1 k1 => binds_to s1 w1 (fun j m => hE j (List.mem_cons_of_mem _ m)) hb (rest F1 f1) fun σ' F' es' s' w' q' => k1 σ' F' es' s' w' q' (SQ.more (A1 := IG.slots (.nm i)) sm1.off fun j m => by simp [IG.slots] at m; simp [m])⟩
      exact nm_to h fun σ' F' es' s' w' q' q1 => k σ' F' es' s' w' (q1.trans (q'.more fun j m => List.mem_cons_of_mem _ m))
    · cases hb
  | [], vs, d :: ds, ρ, ρ', σ, F, B, R, s, w, hE, hb, hin, k => by simp [bindNs] at hb
  | i :: is, vs, [], ρ, ρ', σ, F, B, R, s, w, hE, hb, hin, k => by simp [bindNs] at hb
theorem par_to {is : List Nat} {es : IEs} {D : Ends} {σ : L2.St} {H : Hp} (h : tX X.K (exec C (.par is es)) (effS (.par is es)) (asS (.par is es)) D σ H) : tAs X.K C es σ H fun vs H1 => vs.length = is.length ∧ D.nx ((is.zip vs).foldl (fun s p => s.set p.1 (some p.2)) σ) H1 := by
  obtain ⟨ρ, F, Z, o, w, he, k⟩ := h
  simp only [exec] at he
  split at he
  · rename_i ds ρ1 ea
    split at he
    · rename_i xs ρ2 es'
      split at he
      · rename_i ρ3 eb
        cases he
        refine ⟨ρ, F, Z, ds, ρ1, w, ea, fun vs H1 F1 Z1 s1 w1 r1 => ?_⟩
        obtain ⟨F2, B, w2, s2, ho, fl, ex⟩ := take_all (E := effS (.par is es)) ea s1 w1 r1 es' (fun _ => ml) (fun _ m => mr (ml m))
        have hl : ∀ {is : List Nat} {xs : List PyData} {ρ ρ' : Ro}, bindNs is xs ρ = some ρ' → xs.length = is.length := by
          intro is
          induction is with
          | nil =>
            intro xs ρ ρ' h
            cases xs with
            | nil => rfl
            | cons x xs => simp [bindNs] at h
          | cons i is ih =>
            intro xs ρ ρ' h
            cases xs with
            | nil => simp [bindNs] at h
            | cons x xs =>
              simp only [bindNs] at h
              split at h
              · simp only [List.length_cons]
                rw [ih h]
              · cases h
        refine ⟨by rw [ho.length, hl eb], binds_to (R := fun σ' => D.nx σ' H1) s2 w2 (fun j m => mr (mr m)) eb (.inl ⟨rfl, ho, fl⟩) fun σ' F' _ s' w' q' => k σ' H1 F' Z1 s' w' q'⟩
      · cases he
    · cases he
  · cases he
def swSome (sc : Scope) (ts vs : List Expr) : Bool := (ts.length == 2 || ts.length == 3) && vs.length == ts.length && !(vs.any isStar) && (swNames sc ts).length == ts.length && (swNames sc ts).eraseDups.length == (swNames sc ts).length && !(vs.all (foldedForSure 8)) && !(vs.all (constantsAlone 8))
theorem sw_some (ok : Ok X G S C) {ts vs : List Expr} {k k2 : Nat} {p p2 : Pos} (h : swSome S.sc ts vs = true) : swappedStores [.Tuple ts k p] (.Tuple vs k2 p2) X.env = pure (some (swNames S.sc ts)) := by
  simp only [swSome, Bool.and_eq_true, Bool.not_eq_true'] at h
  obtain ⟨⟨⟨⟨⟨⟨h1, h2⟩, h3⟩, h4⟩, h5⟩, h6⟩, h7⟩ := h
  have en : (ts.filterMap fun
    | .Name id pos => if X.env.kindOf id == some .local && pos.line == (ts.head?.map (·.pos.line)).getD 0 then some id else none
    | _ => none) = swNames S.sc ts := by
    unfold swNames Env.kindOf
    rw [ok.sc]
  unfold swappedStores
  simp only
  rw [if_neg (by
    rw [h1, kind_fn ok]
    simp only [bne, h2]
    decide)]
  rw [if_neg (by
    intro z
    have z2 : vs.any isStar = true := z
    rw [h3] at z2
    cases z2)]
  rw [if_neg (by
    intro z
    have z2 : ((swNames S.sc ts).length != ts.length || (swNames S.sc ts).eraseDups.length != (swNames S.sc ts).length) = true := by
      rw [← en]
      exact z
    simp only [bne, h4, h5] at z2
    exact absurd z2 (by decide))]
  rw [h6, if_neg (by decide), h7, if_neg (by decide)]
  exact congrArg (fun z => pure (some z)) en
end
end Zr

set_option maxRecDepth 100000
set_option maxHeartbeats 8000000
/-! ZrS: assignments to names at once, to items; the checker of statements. -/
namespace Zr
open PySem PySem.Spec PyProof.Rows L2

section
variable {K : Fr'} {H H' : Hp}
/-- a list within a list, its own items others -/
theorem OwnL.inner : ∀ {vs : List V} {ds : List D} {A : List Addr} {j : Nat} {zs : List D}, OwnL K H vs ds A → A.Nodup → ds[j]? = some (.list zs) →
    ∃ p us B, vs[j]? = some (.ref p) ∧ H p = some (.lst us) ∧ OwnL K H us zs B ∧ p ∉ B ∧ p ∈ A ∧ ∀ H' us' ws, (∀ a o, a ≠ p → H a = some o → H' a = some o) → H' p = some (.lst us') → OwnL K H' us' ws B → OwnL K H' vs (ds.set j (.list ws)) A
  | _, _, _, _, _, .nil, _, e => by simp at e
  | _, _, _, 0, zs, .cons (B := B2) h t, nd, e => by
    simp at e
    subst e
    cases h with
    | lst h u =>
      rename_i p us B
      have nd1 := List.nodup_append.mp nd
      refine ⟨_, us, B, rfl, h, u, (List.nodup_cons.mp nd1.1).1, ml List.mem_cons_self, fun H' us' ws k hp ho => ?_⟩
      refine .cons (.lst hp ho) (t.keep fun a o e l => k a o (fun z => ?_) e)
      subst z
      rw [h] at e
      cases e
      exact nd1.2.2 _ List.mem_cons_self _ (l trivial) rfl
  | _, _, _, j + 1, zs, .cons h t, nd, e => by
    have nd1 := List.nodup_append.mp nd
    obtain ⟨p, us, B, h1, h2, h3, h4, h5, h6⟩ := OwnL.inner t nd1.2.1 (j := j) (by simpa using e)
    refine ⟨p, us, B, by simpa using h1, h2, h3, h4, mr h5, fun H' us' ws k hp ho => ?_⟩
    refine .cons (h.keep fun a o e l => k a o (fun z => ?_) e) (h6 H' us' ws k hp ho)
    subst z
    rw [h2] at e
    cases e
    exact nd1.2.2 _ (l trivial) _ h5 rfl
end
section
variable {X : Cx} {G : Gx} {S : Sx} {C : CallF}
theorem setL_parts {xs ys : List D} {n : Int} {y : D} (h : setL xs n y = some ys) : ∃ j x, pixN xs.length n = some j ∧ xs[j]? = some x ∧ pur x = true ∧ ys = xs.set j y := by
  unfold setL at h
  split at h
  · rename_i j e
    split at h
    · rename_i x e2
      obtain ⟨p, h⟩ := ifs h
      exact ⟨j, x, e, e2, p, h.symm⟩
    · cases h
  · cases h
theorem pair_if {c : Bool} {α : Type} {a : Option α} {x : α} (h : (if c = true then a else none) = some x) : c = true ∧ a = some x := by
  cases c with
  | true => exact ⟨rfl, by simpa using h⟩
  | false => simp at h
theorem os_own {K : Fr'} {H : Hp} {ρ : Ro} {σ : L2.St} {F : Fa} {Z : Addr → Prop} {i : Nat} {sl sl' : Slot} {d d' : PyData} (os : OwnSlot sl d sl' d') (w : W K H ρ σ F Z) (e : ρ[i]? = some sl) : ∃ v, σ[i]? = some (some v) ∧ Own K H v d (F i) := by
  have := w.slot i sl e
  cases os with
  | own => exact this
  | byr => exact this
theorem bor_int {E : List Nat} {K : Fr'} {H H' : Hp} {F F' : Fa} {ρ' : List Slot} {σ : L2.St} {Z' : Addr → Prop} {v : V} {i : Int} {st : Stat} (r : VR E K H F H' ρ' σ F' Z' v (.int i) st) : v = .int i := int_of r.bor
/-- an item of the slot's own list is another one -/
theorem put_item {K : Fr'} {H0 H : Hp} {ρ0 ρ : List Slot} {F0 F : Fa} {Z0 Z : Addr → Prop} {E : List Nat} {σ : L2.St} {i : Nat} {sl sl' : Slot} {xs ys : List PyData} {n : Int} {y : PyData} {v : V} {B : List Addr} (s : Step E H0 ρ0 F0 Z0 H ρ F Z) (w : W K H ρ σ F Z) (hi : i ∈ E) (e : ρ[i]? = some sl) (os : OwnSlot sl (.list xs) sl' (.list ys)) (ey : setL xs n y = some ys) (ho : Own K H v y B) (fl : Fl E H0 F0 F Z B) :
    ∃ p vs j F', σ[i]? = some (some (.ref p)) ∧ H p = some (.lst vs) ∧ ixN vs.length n = some j ∧ Step E H0 ρ0 F0 Z0 (upd H p (.lst (vs.set j v))) (ρ.set i sl') F' Z ∧ W K (upd H p (.lst (vs.set j v))) (ρ.set i sl') σ F' Z := by
  obtain ⟨v0, hσ, h0⟩ := os_own os w e
  obtain ⟨j, x, e1, e2, px, rfl⟩ := setL_parts ey
  generalize hF : F i = A0 at h0
  cases h0 with
  | lst h1 t =>
    rename_i p vs A
    obtain ⟨A1, A2, eA, t2⟩ := t.set_at e2 px ho
    have nA : (p :: A).Nodup := hF ▸ w.nodup i
    have nd := List.nodup_cons.mp nA
    have inF : ∀ b ∈ A, b ∈ F i := fun b m => by rw [hF]; exact List.mem_cons_of_mem _ m
    have pF : p ∈ F i := by rw [hF]; exact List.mem_cons_self
    have sub : ∀ b ∈ A1 ++ (B ++ A2), b ∈ A ∨ b ∈ B := fun b m => by
      rw [eA]
      rcases List.mem_append.mp m with m | m
      · exact .inl (ml m)
      · rcases List.mem_append.mp m with m | m
        · exact .inr m
        · exact .inl (mr m)
    have np : p ∉ A1 ++ (B ++ A2) := fun m => (sub p m).elim nd.1 fun m => fl.off p m i pF
    have kk : ∀ b o, H b = some o → (Lst o → b ∉ F i) → upd H p (.lst (vs.set j v)) b = some o := fun b o q l => by
      rw [upd_ne]
      · exact q
      · intro z
        subst z
        rw [h1] at q
        cases q
        exact l trivial pF
    have tt : ∀ b, H b ≠ none → upd H p (.lst (vs.set j v)) b ≠ none := fun b q => by
      by_cases hb : b = p
      · rw [hb, upd_same]
        exact fun z => nomatch z
      · rw [upd_ne hb]
        exact q
    have t3 : OwnL K (upd H p (.lst (vs.set j v))) (vs.set j v) (xs.set j y) (A1 ++ (B ++ A2)) := t2.keep fun b o q l => by
      rw [upd_ne]
      · exact q
      · intro z
        subst z
        rw [h1] at q
        cases q
        exact np (l trivial)
    have ndA : (A1 ++ A2).Nodup := eA ▸ nd.2
    have nB : (A1 ++ (B ++ A2)).Nodup := by
      have n1 := List.nodup_append.mp ndA
      refine List.nodup_append.mpr ⟨n1.1, List.nodup_append.mpr ⟨fl.nodup, n1.2.1, fun a m b q z => ?_⟩, fun a m b q z => ?_⟩
      · subst z
        exact fl.off a m i (inF a (by rw [eA]; exact mr q))
      · subst z
        rcases List.mem_append.mp q with q | q
        · exact fl.off a q i (inF a (by rw [eA]; exact ml m))
        · exact n1.2.2 a m a q rfl
    obtain ⟨s3, w3⟩ := put_slot (i := i) (B := p :: (A1 ++ (B ++ A2))) s w hi e os hσ kk tt (.lst upd_same t3) (List.nodup_cons.mpr ⟨np, nB⟩) (fun b m => by
        rcases List.mem_cons.mp m with m | m
        · exact w.zed i b (m ▸ pF)
        · exact (sub b m).elim (fun m => w.zed i b (inF b m)) (fl.zed b)) (fun b m j hj q => by
        rcases List.mem_cons.mp m with m | m
        · exact w.disj j i b hj q (m ▸ pF)
        · exact (sub b m).elim (fun m => w.disj j i b hj q (inF b m)) fun m => fl.off b m j q) (fun b m => by
        rcases List.mem_cons.mp m with m | m
        · exact .inl (m ▸ pF)
        · exact (sub b m).elim (fun m => .inl (inF b m)) fun m => .inr (fl.new b m))
    exact ⟨p, vs, j, _, hσ, h1, by rw [← pixN_eq, t.length]; exact e1, s3, w3⟩
theorem setL2_parts {xs ys : List PyData} {m n : Int} {y : PyData} (h : setL2 xs m n y = some ys) : ∃ j zs ws, pixN xs.length m = some j ∧ xs[j]? = some (.list zs) ∧ pur y = true ∧ setL zs n y = some ws ∧ ys = xs.set j (.list ws) := by
  unfold setL2 at h
  split at h
  · rename_i j e
    split at h
    · rename_i zs e2
      obtain ⟨p, h⟩ := pair_if h
      split at h
      · rename_i ws e3
        cases h
        exact ⟨j, zs, ws, e, e2, p, e3, rfl⟩
      · cases h
    · cases h
  · cases h
/-- an item of a list within it -/
theorem put_item2 {K : Fr'} {H0 H : Hp} {ρ0 ρ : List Slot} {F0 F : Fa} {Z0 Z : Addr → Prop} {E : List Nat} {σ : L2.St} {i : Nat} {sl sl' : Slot} {xs ys : List PyData} {m n : Int} {y : PyData} {v : V} (s : Step E H0 ρ0 F0 Z0 H ρ F Z) (w : W K H ρ σ F Z) (hi : i ∈ E) (e : ρ[i]? = some sl) (os : OwnSlot sl (.list xs) sl' (.list ys)) (ey : setL2 xs m n y = some ys) (ho : Own K H v y []) :
    ∃ p vs q us j F', σ[i]? = some (some (.ref p)) ∧ H p = some (.lst vs) ∧ atI vs m = some (.ref q) ∧ H q = some (.lst us) ∧ ixN us.length n = some j ∧ Step E H0 ρ0 F0 Z0 (upd H q (.lst (us.set j v))) (ρ.set i sl') F' Z ∧ W K (upd H q (.lst (us.set j v))) (ρ.set i sl') σ F' Z := by
  obtain ⟨v0, hσ, h0⟩ := os_own os w e
  obtain ⟨j1, zs, ws, e1, e2, py, ew, rfl⟩ := setL2_parts ey
  obtain ⟨j, x, e3, e4, px, rfl⟩ := setL_parts ew
  generalize hF : F i = A0 at h0
  cases h0 with
  | lst h1 t =>
    rename_i p vs A
    have nA : (p :: A).Nodup := hF ▸ w.nodup i
    have nd := List.nodup_cons.mp nA
    obtain ⟨q, us, B, g1, g2, g3, g4, g5, g6⟩ := t.inner nd.2 e2
    have pF : p ∈ F i := by rw [hF]; exact List.mem_cons_self
    have qF : q ∈ F i := by rw [hF]; exact List.mem_cons_of_mem _ g5
    have pq : p ≠ q := fun z => nd.1 (z ▸ g5)
    have kk0 : ∀ b o, b ≠ q → H b = some o → upd H q (.lst (us.set j v)) b = some o := fun b o n z => by
      rw [upd_ne n]
      exact z
    have kk : ∀ b o, H b = some o → (Lst o → b ∉ F i) → upd H q (.lst (us.set j v)) b = some o := fun b o z l => kk0 b o (fun eb => by
      subst eb
      rw [g2] at z
      cases z
      exact l trivial qF) z
    have tt : ∀ b, H b ≠ none → upd H q (.lst (us.set j v)) b ≠ none := fun b z => by
      by_cases hb : b = q
      · rw [hb, upd_same]
        exact fun z => nomatch z
      · rw [upd_ne hb]
        exact z
    obtain ⟨B1, B2, eB, t2⟩ := g3.set_at e4 px ho
    have t3 : OwnL K (upd H q (.lst (us.set j v))) (us.set j v) (zs.set j y) B := by
      have : B1 ++ ([] ++ B2) = B := by rw [List.nil_append]; exact eB.symm
      rw [this] at t2
      exact t2.keep fun b o z l => kk0 b o (fun eb => by
        subst eb
        rw [g2] at z
        cases z
        exact g4 (l trivial)) z
    have t4 := g6 (upd H q (.lst (us.set j v))) _ _ (fun a o n z => kk0 a o n z) upd_same t3
    obtain ⟨s3, w3⟩ := put_slot (i := i) (B := F i) s w hi e os hσ kk tt (by
        rw [hF]
        exact .lst (kk0 p _ pq h1) t4) (w.nodup i) (fun b m => w.zed i b m) (fun b m j hj z => w.disj j i b hj z m) (fun b m => .inl m)
    exact ⟨p, vs, q, us, j, _, hσ, h1, pix_atI (by rw [t.length]; exact e1) g1, g2, by rw [← pixN_eq, g3.length]; exact e3, s3, w3⟩
theorem set_to {i : Nat} {k e : IE} {D : Ends} {σ : L2.St} {H : Hp} (h : tX X.K (exec C (.set i k e)) (effS (.set i k e)) (asS (.set i k e)) D σ H) : tE X.K C e σ H fun v H1 => gSub (tVar i) (tE X.K C k) rSetL v σ H1 D.nx := by
  obtain ⟨ρ, F, Z, o, w, he, kk⟩ := h
  simp only [exec] at he
  split at he
  · rename_i y sy ρ0 ea
    split at he
    · rename_i ρ1 es
      obtain ⟨c, he⟩ := pair_if he
      simp only [Bool.and_eq_true, Bool.not_eq_true', List.contains_eq_mem, decide_eq_false_iff_not] at c
      split at he
      · rename_i n sk ρ3 ek
        have main : ∀ (sl sl' : Slot) (xs ys : List PyData), ρ3[i]? = some sl → OwnSlot sl (.list xs) sl' (.list ys) → setL xs n y = some ys → o = .nx (ρ3.set i sl') → tE X.K C e σ H fun v H1 => gSub (tVar i) (tE X.K C k) rSetL v σ H1 D.nx := by
          intro sl sl' xs ys e3 os ey eo
          subst eo
          refine ⟨ρ, F, Z, y, sy, ρ0, w, ea, fun v H1 F1 Z1 s1 w1 r1 => ?_⟩
          obtain ⟨F2, B, w2, s2, ho, fl⟩ := take_one (E := effS (.set i k e)) ea s1 w1 r1 es (fun _ => ml) (fun _ m => mr (ml m))
          obtain ⟨v0, hσ⟩ := isOwn_ok w2 c.1
          refine ⟨v0, hσ, ρ1, F2, Z1, _, sk, ρ3, w2, ek, fun u H3 F3 Z3 s3 w3 r3 => ?_⟩
          have hu := bor_int r3
          subst hu
          have trB : ∀ a ∈ B, H1 a ≠ none := fun a m => lst_tr (ho.tr a m)
          have fl3 := fl.over s3 trB
          have ho3 := Own.over ho fl.toOff s3
          have s4 := s2.seq s3 (fun _ m => m) fun _ m => mr (mr (ml m))
          obtain ⟨p, vs, j, F', h1, h2, h3, s5, w5⟩ := put_item s4 w3 (mr (mr (mr List.mem_cons_self))) e3 os ey ho3 fl3
          rw [hσ] at h1
          cases h1
          exact ⟨p, vs, n, j, rfl, rfl, h2, h3, kk σ _ F' Z3 s5 w5 .refl⟩
        split at he
        · rename_i xs e3
          split at he
          · rename_i ys ey
            cases he
            exact main _ _ xs ys e3 (.own _ _) ey rfl
          · cases he
        · rename_i xs e3
          split at he
          · rename_i ys ey
            cases he
            exact main _ _ xs ys e3 (.byr _ _) ey rfl
          · cases he
        · cases he
      · cases he
    · cases he
  · cases he
def rAug (op : Operator) : TIp := fun x y H Q => (∃ i j k, x = .int i ∧ y = .int j ∧ augop op i j = some k ∧ Q (.int k) H) ∨ (∃ z u, op = .Add ∧ x = .str z ∧ y = .str u ∧ z.length + u.length ≤ lim ∧ Q (.str (z ++ u)) H)
theorem ip_aug (op : Operator) : PIp X op (rAug op) := by
  intro pins s σ H x y v u Q I rx ry h
  rcases h with ⟨i, j, k, rfl, rfl, e, q⟩ | ⟨z, u2, rfl, rfl, rfl, c, q⟩
  · cases op with
    | Add =>
      simp only [augop] at e
      cases e
      exact iop_add pins s σ H _ _ v u Q I rx ry ⟨i, j, rfl, rfl, q⟩
    | Sub =>
      simp only [augop] at e
      cases e
      exact iop_sub pins s σ H _ _ v u Q I rx ry ⟨i, j, rfl, rfl, q⟩
    | Mult =>
      simp only [augop] at e
      obtain ⟨c, e⟩ := pair_if e
      cases e
      simp only [mulSm, Bool.or_eq_true, decide_eq_true_eq] at c
      exact iop_mul pins s σ H _ _ v u Q I rx ry ⟨i, j, rfl, rfl, by unfold CMul; omega, q⟩
    | _ => simp [augop] at e
  · obtain ⟨t, rfl⟩ := rx
    obtain ⟨t2, rfl⟩ := ry
    exact PyProof.Rows.iadd_str (fun t' tk => ⟨.str (z ++ u2), H, I.kept (t' := tk) fun _ _ e => e, ⟨_, rfl⟩, q⟩) (lim_line c)
theorem aug_to {op : Operator} {i : Nat} {e : IE} {D : Ends} {σ : L2.St} {H : Hp} (h : tX X.K (exec C (.aug op i e)) (effS (.aug op i e)) (asS (.aug op i e)) D σ H) : tAug i (tE X.K C e) (rAug op) D σ H := by
  obtain ⟨ρ, F, Z, o, w, he, kk⟩ := h
  simp only [exec] at he
  split at he
  · rename_i y sy ρ1 ea
    split at he
    · rename_i x x' e1 e2
      split at he
      · rename_i ex
        have ex := deq_eq ex
        subst ex
        split at he
        · rename_i d eo
          cases he
          obtain ⟨_, px, v, hv, hb⟩ := w.slot i _ e1
          have nb : noByr ρ1 i = true := by
            unfold noByr
            rw [e2]
          have fin : ∀ (H1 : Hp) (F1 : Fa) (Z1 : Addr → Prop) (z : V), Step (effE e) H ρ F Z H1 ρ1 F1 Z1 → W X.K H1 ρ1 σ F1 Z1 → pur d = true → Own X.K H1 z d [] → D.nx (σ.set i (some z)) H1 := fun H1 F1 Z1 z s1 w1 pd ho => by
            have hg : tGt X.K (.nm i) z σ H1 D.nx := ⟨effS (.aug op i e), H, ρ, F, Z, ρ1, F1, Z1, d, .fresh, ρ1.set i (.pur d), [], s1.more fun _ => ml, w1, fun j m => mr (by simpa [IG.slots] using m), by
              simp only [bindV]
              rw [if_pos nb, if_pos pd], ⟨ho, Fl.nil⟩, fun σ' F' s3 w3 sm f3 => kk σ' H1 F' Z1 s3 w3 sm.off⟩
            exact nm_to hg
          refine ⟨_, hv, ρ, F, Z, _, sy, ρ1, w, ea, fun u H1 F1 Z1 s1 w1 r1 => ?_⟩
          cases x with
          | int x =>
            cases y with
            | int y =>
              simp only [augD, Option.map_eq_some_iff] at eo
              obtain ⟨k, eo, rfl⟩ := eo
              obtain rfl := int_of hb
              obtain rfl := bor_int r1
              exact .inl ⟨x, y, k, rfl, rfl, eo, fin H1 F1 Z1 _ s1 w1 rfl (.int _)⟩
            | _ => cases op <;> simp [augD] at eo
          | str x =>
            cases y with
            | str y =>
              cases op with
              | Add =>
                simp only [augD] at eo
                obtain ⟨c, eo⟩ := ifs eo
                subst eo
                have h1 := hb
                cases h1
                have h2 := r1.bor
                cases h2
                exact .inr ⟨x, y, rfl, rfl, rfl, c, fin H1 F1 Z1 _ s1 w1 rfl (.str _)⟩
              | _ => simp [augD] at eo
            | _ => cases op <;> simp [augD] at eo
          | _ => cases op <;> simp [augD] at eo
        · cases he
      · cases he
    · cases he
  · cases he
/-! ### the checker of statements -/
def parN (S : Sx) : List Nat → List Expr → List Str → Bool
  | [], [], [] => true
  | i :: is, .Name x _ :: ts, y :: ys => decide (x = y) && decide (S.N[i]? = some x) && loc1B S.sc x && !is.contains i && parN S is ts ys
  | _, _, _ => false
def asgC (S : Sx) (tg ex : Expr) (p : Pos) : Bool := match tg, ex with
  | .Name y py, .ListComp _ _ scope p' => !swLc S.sc scope y py p'
  | .Tuple _ _ _, .ListComp _ _ _ _ => true
  | _, ex => notComp ex
mutual
def chkS (G : Gx) (S : Sx) : IS → Stmt → Bool
  | .asg g e, .Assign [tg] ex p => chkE G S e ex && chkG S g tg && swNone S.sc tg ex && (asgC S tg ex p || setC S g e tg ex)
  | .par is es, .Assign [.Tuple ts _ _] (.Tuple vs _ _) _ => swSome S.sc ts vs && parN S is ts (swNames S.sc ts) && chks G S es vs
  | .set i k e, .Assign [.Subscript (.Name x _) kx _] ex _ => nameB S i x && notSlice kx && chkE G S k kx && chkE G S e ex
  | .aug op i e, .AugAssign (.Name x _) op' ex _ => decide (op = op') && decide (S.N[i]? = some x) && locB S.rw x && chkE G S e ex
  | .expr e, .Expr x _ => notComp x && chkE G S e x
  | .pass, .Pass _ => true
  | .pass, .Expr (.Constant (.str _) _ _) _ => true
  | .ifs t a b, .If c sa sb _ => chkT G S t c && chkSs G S a sa && chkSs G S b sb
  | .whl t b, .While c sb [] _ => chkT G S t c && chkSs G S b sb
  | .for g it b, .For tg ie sb [] _ => chkI G S it ie && tgI it tg && notSet ie && chkG S g tg && chkSs G S b sb
  | .ret e, .Return (some x) _ => chkE G S e x
  | .retN, .Return none _ => true
  | .never, _ => true
  | _, _ => false
def chkSs (G : Gx) (S : Sx) : ISs → List Stmt → Bool
  | .nil, [] => true
  | .cons s ss, st :: sts => chkS G S s st && chkSs G S ss sts
  | _, _ => false
/-- name = [..] on one line, the name a local -/
def setC (S : Sx) : IG → IE → Expr → Expr → Bool
  | .nm _, .lc _ _ _ _ _, .Name y py, .ListComp _ _ scope p' => swLc S.sc scope y py p'
  | .nm _, .lc2 _ _ _ _ _ _ _ _, .Name y py, .ListComp _ _ scope p' => swLc S.sc scope y py p'
  | _, _, _, _ => false
end
theorem swLc_loc {sc scope : Scope} {y : Str} {py p : Pos} (h : swLc sc scope y py p = true) : sc.names.lookup y = some .local := by
  simp only [swLc, Bool.and_eq_true, beq_iff_eq] at h
  exact h.1.1
theorem asgC_ok (ok : Ok X G S C) {tg ex : Expr} {p : Pos} (h : asgC S tg ex p = true) : swapsWithSole [tg] ex p.line X.env = pure false := by
  cases ex with
  | ListComp elt gs scope p' =>
    cases tg with
    | Name y py =>
      simp only [asgC, Bool.not_eq_true'] at h
      show swapsWith (.ListComp elt gs scope p') (some (.Name y py)) p.line X.env = pure false
      rw [sw_lc ok, h]
    | Tuple => rfl
    | _ => simp [asgC, notComp] at h
  | SetComp => cases tg <;> simp [asgC, notComp] at h
  | DictComp => cases tg <;> simp [asgC, notComp] at h
  | _ => exact sole_pure rfl
theorem ss_set (ok : Ok X G S C) {i : Nat} {k e : IE} {x : Str} {kx ex : Expr} {px pt p : Pos} (hx : nameB S i x = true) (hk : notSlice kx = true) (hkx : PE X kx (tE X.K C k)) (he : PE X ex (tE X.K C e)) :
    PS X (.Assign [.Subscript (.Name x px) kx pt] ex p) (tX X.K (exec C (.set i k e)) (effS (.set i k e)) (asS (.set i k e))) := by
  unfold nameB at hx
  simp only [Bool.and_eq_true, decide_eq_true_eq] at hx
  obtain ⟨h1, h2, _⟩ := nodun_ok hx.2
  have hv : PE X (.Name x px) (tVar i) := pe_var (by rw [ok.hN]; exact hx.1.1) (by rw [ok.sc]; exact visB_ok hx.1.2) h1 h2
  exact (ps_asg he (pg_sub hv hkx set_list (by cases kx <;> first | (intro _; rfl) | cases hk)) (by cases ex <;> rfl) (by cases ex <;> rfl)).of fun D σ H h => set_to h
theorem ss_aug (ok : Ok X G S C) {op : Operator} {i : Nat} {e : IE} {x : Str} {ex : Expr} {px p : Pos} (h1 : S.N[i]? = some x) (h2 : locB S.rw x = true) (he : PE X ex (tE X.K C e)) :
    PS X (.AugAssign (.Name x px) op ex p) (tX X.K (exec C (.aug op i e)) (effS (.aug op i e)) (asS (.aug op i e))) := by
  obtain ⟨hl, hf⟩ := ok.sto x h2
  exact (ps_aug (by rw [ok.hN]; exact ok.nd) (by rw [ok.hN]; exact h1) (by rw [ok.sc]; exact hl) he (ip_aug op) (by rw [ok.sc]; exact hf)).of fun D σ H h => aug_to h
theorem loc1_ok {sc : Scope} {x : Str} (h : loc1B sc x = true) : sc.names.lookup x = some .local := by
  unfold loc1B at h
  split at h
  · assumption
  · cases h
theorem swNames_len {sc : Scope} {ts vs : List Expr} (h : swSome sc ts vs = true) : (ts.length = 2 ∨ ts.length = 3) ∧ vs.length = ts.length := by
  simp only [swSome, Bool.and_eq_true, Bool.or_eq_true, beq_iff_eq] at h
  exact ⟨h.1.1.1.1.1.1, h.1.1.1.1.1.2⟩
theorem ss_par (ok : Ok X G S C) {is : List Nat} {es : IEs} {ts vs : List Expr} {k k2 : Nat} {pt p2 p : Pos} (h1 : swSome S.sc ts vs = true) (h2 : parN S is ts (swNames S.sc ts) = true) (ha : PA X vs (tAs X.K C es)) :
    PS X (.Assign [.Tuple ts k pt] (.Tuple vs k2 p2) p) (tX X.K (exec C (.par is es)) (effS (.par is es)) (asS (.par is es))) := by
  have hw := sw_some ok (k := k) (k2 := k2) (p := pt) (p2 := p2) h1
  obtain ⟨hl, hv⟩ := swNames_len h1
  generalize swNames S.sc ts = ys at h2 hw
  have nd : X.N.Nodup := by rw [ok.hN]; exact ok.nd
  rcases hl with hl | hl
  · obtain ⟨t1, t2, rfl⟩ : ∃ a b, ts = [a, b] := by
      match ts, hl with
      | [a, b], _ => exact ⟨a, b, rfl⟩
    obtain ⟨v1, v2, rfl⟩ : ∃ a b, vs = [a, b] := by
      match vs, hv with
      | [a, b], _ => exact ⟨a, b, rfl⟩
    unfold parN at h2
    split at h2
    · rename_i q
      cases q
    · rename_i i is x px ts1 y ys q
      cases q
      simp only [Bool.and_eq_true, decide_eq_true_eq, Bool.not_eq_true', List.contains_eq_mem, decide_eq_false_iff_not] at h2
      obtain ⟨⟨⟨⟨rfl, a1⟩, a2⟩, a3⟩, h2⟩ := h2
      unfold parN at h2
      split at h2
      · rename_i q
        cases q
      · rename_i j is x2 px2 ts1 y2 ys q
        cases q
        simp only [Bool.and_eq_true, decide_eq_true_eq, Bool.not_eq_true', List.contains_eq_mem, decide_eq_false_iff_not] at h2
        obtain ⟨⟨⟨⟨rfl, b1⟩, b2⟩, b3⟩, h2⟩ := h2
        unfold parN at h2
        split at h2
        · refine (ps_par (i := i) (j := j) ok.calm nd (by rw [ok.hN]; exact a1) (by rw [ok.hN]; exact b1) (fun z => a3 (by simp [z])) (by rw [ok.sc]; exact loc1_ok a2) (by rw [ok.sc]; exact loc1_ok b2) ha hw).of fun D σ H h => ?_
          obtain ⟨ρ, F, Z, ds, ρ', w, he, kk⟩ := par_to h
          refine ⟨ρ, F, Z, ds, ρ', w, he, fun us H1 F1 Z1 s1 w1 r1 => ?_⟩
          obtain ⟨l, q⟩ := kk us H1 F1 Z1 s1 w1 r1
          match us, l with
          | [u1, u2], _ => exact ⟨u1, u2, rfl, q⟩
        · rename_i q
          cases q
        · cases h2
      · cases h2
    · cases h2
  · obtain ⟨t1, t2, t3, rfl⟩ : ∃ a b c, ts = [a, b, c] := by
      match ts, hl with
      | [a, b, c], _ => exact ⟨a, b, c, rfl⟩
    obtain ⟨v1, v2, v3, rfl⟩ : ∃ a b c, vs = [a, b, c] := by
      match vs, hv with
      | [a, b, c], _ => exact ⟨a, b, c, rfl⟩
    unfold parN at h2
    split at h2
    · rename_i q
      cases q
    · rename_i i is x px ts1 y ys q
      cases q
      simp only [Bool.and_eq_true, decide_eq_true_eq, Bool.not_eq_true', List.contains_eq_mem, decide_eq_false_iff_not] at h2
      obtain ⟨⟨⟨⟨rfl, a1⟩, a2⟩, a3⟩, h2⟩ := h2
      unfold parN at h2
      split at h2
      · rename_i q
        cases q
      · rename_i j is x2 px2 ts1 y2 ys q
        cases q
        simp only [Bool.and_eq_true, decide_eq_true_eq, Bool.not_eq_true', List.contains_eq_mem, decide_eq_false_iff_not] at h2
        obtain ⟨⟨⟨⟨rfl, b1⟩, b2⟩, b3⟩, h2⟩ := h2
        unfold parN at h2
        split at h2
        · rename_i q
          cases q
        · rename_i l is x3 px3 ts1 y3 ys q
          cases q
          simp only [Bool.and_eq_true, decide_eq_true_eq, Bool.not_eq_true', List.contains_eq_mem, decide_eq_false_iff_not] at h2
          obtain ⟨⟨⟨⟨rfl, c1⟩, c2⟩, c3⟩, h2⟩ := h2
          unfold parN at h2
          split at h2
          · refine (ps_par3 (i := i) (j := j) (l := l) ok.calm nd (by rw [ok.hN]; exact a1) (by rw [ok.hN]; exact b1) (by rw [ok.hN]; exact c1) (fun z => a3 (by simp [z])) (fun z => a3 (by simp [z])) (fun z => b3 (by simp [z])) (by rw [ok.sc]; exact loc1_ok a2) (by rw [ok.sc]; exact loc1_ok b2) (by rw [ok.sc]; exact loc1_ok c2) ha hw).of fun D σ H h => ?_
            obtain ⟨ρ, F, Z, ds, ρ', w, he, kk⟩ := par_to h
            refine ⟨ρ, F, Z, ds, ρ', w, he, fun us H1 F1 Z1 s1 w1 r1 => ?_⟩
            obtain ⟨l, q⟩ := kk us H1 F1 Z1 s1 w1 r1
            match us, l with
            | [u1, u2, u3], _ => exact ⟨u1, u2, u3, rfl, q⟩
          · rename_i q
            cases q
          · cases h2
        · cases h2
      · cases h2
    · cases h2
end
end Zr

set_option maxRecDepth 100000
set_option maxHeartbeats 16000000
/-! ZrT: what the checker accepts does what the evaluator says (statements). -/
namespace Zr
open PySem PySem.Spec PyProof.Rows L2
section
variable {X : Cx} {G : Gx} {S : Sx} {C : CallF}
theorem inv_lc {own : List Nat} {elt : IE} {g : IG} {it : II} {t : IC} {x : Expr} (h : chkE G S (.lc own elt g it t) x = true) : ∃ ex tg ie ifs scope p, x = .ListComp ex [⟨tg, ie, ifs, 0⟩] scope p ∧ blkC S.N S.sc scope (ownOf S own) = true ∧ chkI G S it ie = true ∧ tgI it tg = true ∧ notSet ie = true ∧ chkG (inner S scope) g tg = true ∧ chkC G (inner S scope) t ifs = true ∧ chkE G (inner S scope) elt ex = true := by
  unfold chkE at h
  split at h
  all_goals first | (rename_i q; cases q; done) | (cases h; done) | skip
  · rename_i q
    cases q
    rw [Bool.and_eq_true, Bool.and_eq_true, Bool.and_eq_true, Bool.and_eq_true, Bool.and_eq_true, Bool.and_eq_true] at h
    obtain ⟨⟨⟨⟨⟨⟨h1, h2⟩, h3⟩, h4⟩, h5⟩, h6⟩, h7⟩ := h
    exact ⟨_, _, _, _, _, _, rfl, h1, h2, h3, h4, h5, h6, h7⟩
theorem inv_lc2 {own : List Nat} {elt : IE} {g g1 : IG} {it it1 : II} {t t1 : IC} {x : Expr} (h : chkE G S (.lc2 own elt g it t g1 it1 t1) x = true) : ∃ ex tg ie ifs tg1 ie1 ifs1 scope p, x = .ListComp ex [⟨tg, ie, ifs, 0⟩, ⟨tg1, ie1, ifs1, 0⟩] scope p ∧ blkC S.N S.sc scope (ownOf S own) = true ∧ chkI G S it ie = true ∧ tgI it tg = true ∧ notSet ie = true ∧ chkG (inner S scope) g tg = true ∧ chkC G (inner S scope) t ifs = true ∧
    chkI G (inner S scope) it1 ie1 = true ∧ tgI it1 tg1 = true ∧ notSet ie1 = true ∧ (∀ j ∈ g1.slots, j ∈ own) ∧ chkG (inner S scope) g1 tg1 = true ∧ chkC G (inner S scope) t1 ifs1 = true ∧ chkE G (inner S scope) elt ex = true := by
  unfold chkE at h
  split at h
  all_goals first | (rename_i q; cases q; done) | (cases h; done) | skip
  · rename_i q
    cases q
    rw [Bool.and_eq_true, Bool.and_eq_true, Bool.and_eq_true, Bool.and_eq_true, Bool.and_eq_true, Bool.and_eq_true, Bool.and_eq_true, Bool.and_eq_true, Bool.and_eq_true, Bool.and_eq_true, Bool.and_eq_true, Bool.and_eq_true] at h
    obtain ⟨⟨⟨⟨⟨⟨⟨⟨⟨⟨⟨⟨h1, h2⟩, h3⟩, h4⟩, h5⟩, h6⟩, i2⟩, i3⟩, i4⟩, io⟩, i5⟩, i6⟩, h7⟩ := h
    exact ⟨_, _, _, _, _, _, _, _, _, rfl, h1, h2, h3, h4, h5, h6, i2, i3, i4, fun j m => by simpa using List.all_eq_true.mp io j m, i5, i6, h7⟩
theorem tE_mono {K : Fr'} {e : IE} {σ : L2.St} {H : Hp} {Q Q' : VK} (h : tE K C e σ H Q) (k : ∀ v H', Q v H' → Q' v H') : tE K C e σ H Q' := by
  obtain ⟨ρ, F, Z, d, st, ρ', w, he, q⟩ := h
  exact ⟨ρ, F, Z, d, st, ρ', w, he, fun v H' F' Z' s w r => k v H' (q v H' F' Z' s w r)⟩
theorem setC_ok (ok : Ok X G S C) {e : IE} {g : IG} {tg ex : Expr} {p : Pos} (he : chkE G S e ex = true) (hg : chkG S g tg = true) (h : setC S g e tg ex = true) :
    PS X (.Assign [tg] ex p) (tX X.K (exec C (.asg g e)) (effS (.asg g e)) (asS (.asg g e))) := by
  unfold setC at h
  split at h
  · rename_i i own elt g0 it t y py elt' gs scope p'
    simp only [chkG, Bool.and_eq_true, decide_eq_true_eq] at hg
    obtain ⟨_, tg0, ie0, ifs0, _, _, ee, h1, h2, h3, h4, h5, h6, h7⟩ := inv_lc he
    cases ee
    · have bok : BlkOk X.N X.env.scope scope (ownOf S own) := by
        rw [ok.hN, ok.sc]
        exact blkOk_by h1
      have okB := fun s H c cl fp => ok.blk (scope := scope) bok.kind s H c cl fp
      refine (ps_setLc (wi := tIt X.K C it) (g := tGt X.K g0) (tt := tCt X.K C t) (te := tE X.K C elt) ok.calm (by rw [ok.hN]; exact ok.nd) (by rw [ok.hN]; exact hg.1.1) (by rw [ok.sc]; exact swLc_loc h) (by rw [sw_lc ok, h]) (sndI it ok _ _ h2 h3) bok
        (fun s H c cl fp => sg_all (okB s H c cl fp) g0 _ h5) (fun s H c cl fp => sndC t (okB s H c cl fp) _ h6) (fun s H c cl fp => sndE elt (okB s H c cl fp) _ h7) (fold_of h4)).of fun D σ H hh => ?_
      rw [ownOf_map]
      have a := asg_to hh
      exact lc_to (tE_mono a fun x H1 q => nm_to q)
  · rename_i i own elt g0 it t g1 it1 t1 y py elt' gs scope p'
    simp only [chkG, Bool.and_eq_true, decide_eq_true_eq] at hg
    obtain ⟨_, tg0, ie0, ifs0, tg2, ie2, ifs2, _, _, ee, h1, h2, h3, h4, h5, h6, i2, i3, i4, hown, i5, i6, h7⟩ := inv_lc2 he
    cases ee
    · have bok : BlkOk X.N X.env.scope scope (ownOf S own) := by
        rw [ok.hN, ok.sc]
        exact blkOk_by h1
      have okB := fun s H c cl fp => ok.blk (scope := scope) bok.kind s H c cl fp
      refine (ps_setLc2 (wi := tIt X.K C it) (g := tGt X.K g0) (tt := tCt X.K C t) (te := tE X.K C elt) (wi1 := tIt X.K C it1) (g1 := tGt X.K g1) (tt1 := tCt X.K C t1) (vs1 := g1.slots) ok.calm (by rw [ok.hN]; exact ok.nd) (by rw [ok.hN]; exact hg.1.1) (by rw [ok.sc]; exact swLc_loc h) (by rw [sw_lc ok, h]) (sndI it ok _ _ h2 h3) bok (fun j m => by rw [ownOf_map]; exact hown j m)
        (fun s H c cl fp => sg_all (okB s H c cl fp) g0 _ h5) (fun s H c cl fp => sndC t (okB s H c cl fp) _ h6) (fun s H c cl fp => sndI it1 (okB s H c cl fp) _ _ i2 i3) (fun s H c cl fp => sg_all (okB s H c cl fp) g1 _ i5) (fun s H c cl fp => sndC t1 (okB s H c cl fp) _ i6) (fun s H c cl fp => sndE elt (okB s H c cl fp) _ h7) (fold_of h4) fun env => fold_of i4).of fun D σ H hh => ?_
      rw [ownOf_map]
      have a := asg_to hh
      exact lc2_to hown (tE_mono a fun x H1 q => nm_to q)
  · cases h
end
section
variable {G : Gx} {C : CallF}
mutual
theorem sndS : ∀ (s : IS) {X : Cx} {S : Sx} (ok : Ok X G S C) (hp : PassesOwn (model X.prog X.w) X.A X.env X.xe) (st : Stmt), chkS G S s st = true → PS X st (tX X.K (exec C s) (effS s) (asS s))
  | .asg g e, X, S, ok, hp, st, h => by
    unfold chkS at h
    split at h
    all_goals first | (rename_i q; cases q; done) | (cases h; done) | skip
    · rename_i q
      cases q
      simp only [Bool.and_eq_true, Bool.or_eq_true] at h
      obtain ⟨⟨⟨h1, h2⟩, h3⟩, h4⟩ := h
      rcases h4 with h4 | h4
      · exact ss_asg ok (sndE e ok _ h1) h2 (asgC_ok ok h4) h3
      · exact setC_ok ok h1 h2 h4
  | .par is es, X, S, ok, hp, st, h => by
    unfold chkS at h
    split at h
    all_goals first | (rename_i q; cases q; done) | (cases h; done) | skip
    · rename_i q
      cases q
      simp only [Bool.and_eq_true] at h
      exact ss_par ok h.1.1 h.1.2 (snds es ok _ h.2)
  | .set i k e, X, S, ok, hp, st, h => by
    unfold chkS at h
    split at h
    all_goals first | (rename_i q; cases q; done) | (cases h; done) | skip
    · rename_i q
      cases q
      simp only [Bool.and_eq_true] at h
      exact ss_set ok h.1.1.1 h.1.1.2 (sndE k ok _ h.1.2) (sndE e ok _ h.2)
  | .set2 i k1 k e, X, S, ok, hp, st, h => by
    unfold chkS at h
    cases h
  | .aug op i e, X, S, ok, hp, st, h => by
    unfold chkS at h
    split at h
    all_goals first | (rename_i q; cases q; done) | (cases h; done) | skip
    · rename_i q
      cases q
      simp only [Bool.and_eq_true, decide_eq_true_eq] at h
      obtain ⟨⟨⟨rfl, h1⟩, h2⟩, h3⟩ := h
      exact ss_aug ok h1 h2 (sndE e ok _ h3)
  | .augx op i k e, X, S, ok, hp, st, h => by
    unfold chkS at h
    cases h
  | .expr e, X, S, ok, hp, st, h => by
    unfold chkS at h
    split at h
    all_goals first | (rename_i q; cases q; done) | (cases h; done) | skip
    · rename_i q
      cases q
      simp only [Bool.and_eq_true] at h
      exact ss_expr h.1 (sndE e ok _ h.2)
  | .pass, X, S, ok, hp, st, h => by
    unfold chkS at h
    split at h
    all_goals first | (rename_i q; cases q; done) | (cases h; done) | skip
    · exact ss_pass
    · exact ss_doc
  | .ifs t a b, X, S, ok, hp, st, h => by
    unfold chkS at h
    split at h
    all_goals first | (rename_i q; cases q; done) | (cases h; done) | skip
    · rename_i q
      cases q
      simp only [Bool.and_eq_true] at h
      exact ss_if (sndT t ok _ h.1.1).1 (sndSs a ok hp _ h.1.2) (sndSs b ok hp _ h.2)
  | .whl t b, X, S, ok, hp, st, h => by
    unfold chkS at h
    split at h
    all_goals first | (rename_i q; cases q; done) | (cases h; done) | skip
    · rename_i q
      cases q
      simp only [Bool.and_eq_true] at h
      exact ss_while hp (sndT t ok _ h.1).1 (sndSs b ok hp _ h.2)
  | .for g it b, X, S, ok, hp, st, h => by
    unfold chkS at h
    split at h
    all_goals first | (rename_i q; cases q; done) | (cases h; done) | skip
    · rename_i q
      cases q
      simp only [Bool.and_eq_true] at h
      obtain ⟨⟨⟨⟨h1, h2⟩, h3⟩, h4⟩, h5⟩ := h
      exact ss_for ok hp h3 (sndI it ok _ _ h1 h2) (sg_all ok g _ h4) (sndSs b ok hp _ h5)
  | .ret e, X, S, ok, hp, st, h => by
    unfold chkS at h
    split at h
    all_goals first | (rename_i q; cases q; done) | (cases h; done) | skip
    · rename_i q
      cases q
      exact ss_ret (sndE e ok _ h)
  | .retN, X, S, ok, hp, st, h => by
    unfold chkS at h
    split at h
    all_goals first | (rename_i q; cases q; done) | (cases h; done) | skip
    · exact ss_retN
  | .never, X, S, ok, hp, st, h => ss_never
theorem sndSs : ∀ (ss : ISs) {X : Cx} {S : Sx} (ok : Ok X G S C) (hp : PassesOwn (model X.prog X.w) X.A X.env X.xe) (sts : List Stmt), chkSs G S ss sts = true → PSs X sts (tX X.K (execs C ss) (effSs ss) (asSs ss))
  | .nil, X, S, ok, hp, sts, h => by
    cases sts with
    | nil => exact ss_nil
    | cons => simp [chkSs] at h
  | .cons s ss, X, S, ok, hp, sts, h => by
    cases sts with
    | nil => simp [chkSs] at h
    | cons st sts =>
      simp only [chkSs, Bool.and_eq_true] at h
      exact ss_cons (sndS s ok hp st h.1) (sndSs ss ok hp sts h.2)
end
end
end Zr

set_option maxRecDepth 100000
set_option maxHeartbeats 8000000
/-! ZrU: defs: what each promises; the head. -/
namespace Zr
open PySem PySem.Spec PyProof.Rows L2

/-- a def that keeps its promise where no repr is under way -/
structure FnG (P : Program) (w : World) (K : Fr') (mg : Str → Option Value) (base : Heap) (n : Nat) (fa : Addr) (fdt : FuncData) (params : List Str) (say : List V → Hp → VK → Prop) : Prop where
  len : ∀ vals Hx Qx, say vals Hx Qx → vals.length = params.length
  run : ∀ (Ar : Around) (below : List Env) (st : Shared) (Hx : Hp) (given : Args) (raw : List Value) (vals : List V) (Qx : VK), Room n Ar → Ar.guards = some [] → Env0 P w K mg base Ar below st Hx → BindsTo st fdt given (params.zip raw) → Vals vals raw → say vals Hx Qx →
    codeAny (model P w) Ar (.call (.ref fa) given) (CR CX0 below P w Hx st Qx E0) st
section
variable {P : Program} {w : World} {K : Fr'} {mg : Str → Option Value} {base : Heap}
/-- from a body's reading -/
theorem fnG_of {x qual : Str} {stm : Stmt} {fa : Addr} {fdt : FuncData} {N params : List Str} {n : Nat} {say : List V → Hp → VK → Prop} (Fx : Fun K x qual stm fa fdt) (Sx : FnScope N params (defScope stm)) (hlen : ∀ vals Hx Qx, say vals Hx Qx → vals.length = params.length)
    (body : ∀ (code : Value) (Ar : Around) (below : List Env) (st : Shared) (Hx : Hp) (vals : List V) (Qx : VK), Room n (Ar.deeper (envOfC qual (defScope stm) st.heap.objs.size fa code)) → Ar.guards = some [] → say vals Hx Qx →
      ∃ t, PSs (cxOf CX0 P w K mg base N qual (defScope stm) fa code Ar below st Hx E0).nox (defBody stm) t ∧ t { nx := fun _ H' => Qx .non H', rt := Qx } (start N vals) Hx) : FnG P w K mg base (n + 1) fa fdt params say := by
  obtain ⟨ocl, odi, kwd, dc, pmo, ann, code, cty, slots, rfl, found, inK⟩ := Fx.ex
  refine ⟨hlen, fun Ar below st Hx given raw vals Qx room gd e0 bound rel hsay => ?_⟩
  have hl := hlen _ _ _ hsay
  have stands : K.In st.heap := e0.mod.kin.keeps fun b o e => (e0.bs b o e).1
  have nolim : st.heap.NoLimit := e0.mod.nolimit.keeps fun b o e => (e0.bs b o e).1
  have kinds : ∀ y ∈ params.zip raw, (defScope stm).names.lookup y.1 = some .local ∨ ((defScope stm).names.lookup y.1 = some .cell ∧ ((cellsFrom (st.heap.objs.size + 1) (defScope stm).names []).lookup y.1).isSome = true) := by
    rintro ⟨name, val⟩ m
    exact (Sx.par name (List.of_mem_zip m).1).imp id fun c => ⟨c, PySem.W.cellsFrom_some _ _ _ (.inl c)⟩
  refine codeAny_call_function room.depth (stands _ _ found) rfl Sx.co Sx.gen rfl (PySem.W.codeRec_of stands inK) (bound _ _ _ _ (wpAny_newFunctionEnv_cells Sx.kind kinds fun env eenv st1 fresh => ?_))
  subst eenv
  refine ⟨nolim.keeps fresh.toInCall.keep, codeAny_func ?_⟩
  obtain ⟨t, ht, hq⟩ := body code Ar below st Hx vals Qx (room.deeper _) gd hsay
  have inv := inv_start (CX := CX0) (E := E0) Sx room.hd e0 hl rel fresh
  refine wpAny_mono (ht.nox.run [] st1 (start N vals) Hx _ inv hq) (fun fl st2 hs => ?_) fun e st2 hs => hs
  cases fl with
  | ret u =>
    obtain ⟨val, σ', H', J, rv, q⟩ := hs
    exact ⟨val, H', J.os, J.bare, J.base, J.hok, rv, q⟩
  | next =>
    obtain ⟨σ', H', J, q⟩ := hs
    exact ⟨V.non, H', J.os, J.bare, J.base, J.hok, rfl, q⟩
  | brk =>
    obtain ⟨_, _, _, q⟩ := hs
    exact q.elim
  | cont =>
    obtain ⟨_, _, _, q⟩ := hs
    exact q.elim
section
variable {X : Cx} {n : Nat} {fa : Addr} {fdt : FuncData} {params : List Str} {say : List V → Hp → VK → Prop} {x : Str} {p pos : Pos}
/-- its call, wherever it stands -/
theorem call_G (Fx : FnG X.prog X.w X.K X.mg X.base n fa fdt params say) (room : Room n X.A) (gd : X.A.guards = some []) (vis : Gl X x) (there : X.mg x = some (.ref fa)) (kept : PySem.W.keepIn X.K (.ref fa) = true) (binds : Binds X.K fdt params []) {es : List Expr} {t : TA} (ne : es ≠ []) (pl : es.all notStar = true) (ha : PA X es t) (nd : nodun x = true) :
    PE X (.Call (.Name x p) es [] pos) (fun σ H Q => t σ H fun vals H1 => say vals H1 Q) := by
  cases es with
  | nil => exact absurd rfl ne
  | cons e es =>
    simp only [List.all_cons, Bool.and_eq_true] at pl
    refine ⟨fun pins s σ H Q I hq => wpAny_Call_Name_kw (ld_glob I vis there ?_ (nodun_ok nd).1)⟩
    refine PySem.W.callWith_K (h₀ := X.base) I.ok.mod.kin kept (thn (ha.run pos pins s σ H _ I hq) fun raw s1 ⟨vals, H1, I1, rel, q⟩ => ⟨I1.kIn, ?_⟩) (star_of pl.1) (pl_of pl.2)
    have hl : raw.length = params.length := by rw [← rel.length]; exact Fx.len _ _ _ q
    have bd := binds s1 raw I1.kIn (by rw [List.append_nil]; exact hl)
    rw [List.append_nil] at bd
    refine wpAny_call (codeAny_mono (Fx.run X.A X.stack s1 H1 ⟨raw, []⟩ raw vals Q room gd I1.env0 bd rel q) fun r s' hr => ?_)
    cases r with
    | error e => exact hr.elim
    | ok fl =>
      cases fl with
      | ret u => exact I1.after hr
      | next => exact hr.elim
      | brk => exact hr.elim
      | cont => exact hr.elim
end
end
end Zr

set_option maxRecDepth 100000
set_option maxHeartbeats 8000000
/-! ZrV: every def of the table keeps its promise. -/
namespace Zr
open PySem PySem.Spec PyProof.Rows L2

def kindB : ScopeKind → Bool
  | .function => true
  | _ => false
def freeB : NameKind → Bool
  | .free => true
  | _ => false
/-- what is looked up of a def: its term, its row of the text, its names, its parameters -/
def fnC (G : Gx) (d : Fd) (stm : Stmt) (N ps : List Str) : Bool :=
  kindB (defScope stm).kind && !(defScope stm).isCoroutine && !(defScope stm).isGenerator && decide N.Nodup && decide (N.take ps.length = ps) && ps.all (locB (defScope stm)) && (defScope stm).names.all (fun y => !freeB y.2) &&
    decide (ps.length = d.nparams) && decide (N.length = d.nslots) && chkSs G ⟨N, defScope stm, defScope stm⟩ d.body (defBody stm) && (match d.mode with
      | .plain => true
      | .byr => decide (1 ≤ d.nparams) && !(asSs d.body).contains 0
      | .scr => decide (1 ≤ d.nparams))
theorem fnC_scope {G : Gx} {d : Fd} {stm : Stmt} {N ps : List Str} (h : fnC G d stm N ps = true) : FnScope N ps (defScope stm) ∧ ps.length = d.nparams ∧ N.length = d.nslots ∧ chkSs G ⟨N, defScope stm, defScope stm⟩ d.body (defBody stm) = true ∧ (d.mode = .byr → 0 ∉ asSs d.body) := by
  simp only [fnC, Bool.and_eq_true, decide_eq_true_eq, Bool.not_eq_true'] at h
  obtain ⟨⟨⟨⟨⟨⟨⟨⟨⟨⟨h1, h2⟩, h3⟩, h4⟩, h5⟩, h6⟩, h7⟩, h8⟩, h9⟩, h10⟩, h11⟩ := h
  refine ⟨⟨?_, h2, h3, h4, h5, fun x m => lookup_loc (List.all_eq_true.mp h6 x m), fun y m z => ?_⟩, h8, h9, h10, fun e => ?_⟩
  · revert h1
    cases (defScope stm).kind <;> first | (intro _; rfl) | (intro z; cases z)
  · have q := List.all_eq_true.mp h7 y m
    rw [z] at q
    cases q
  · rw [e] at h11
    simp only [Bool.and_eq_true, Bool.not_eq_true', List.contains_eq_mem, decide_eq_false_iff_not] at h11
    exact h11.2
section
variable {K : Fr'} {H : Hp} {F : Fa} {Z : Addr → Prop}
theorem start_w {vs : List V} {sl : List Slot} {m : Nat} (hl : vs.length = sl.length) (hs : ∀ (i : Nat) (s : Slot) (v : V), sl[i]? = some s → vs[i]? = some v → SR K H F Z i (some (some v)) s) (hF : ∀ i, sl.length ≤ i → F i = []) (nd : ∀ i, (F i).Nodup) (dj : ∀ i j a, i ≠ j → a ∈ F i → a ∉ F j) (zd : ∀ i a, a ∈ F i → Z a) :
    W K H (sl ++ List.replicate m .emp) (vs.map some ++ List.replicate m none) F Z := by
  refine ⟨by simp [hl], fun i hi => hF i (by simp at hi; omega), fun i s e => ?_, nd, dj, zd⟩
  by_cases h : i < sl.length
  · rw [List.getElem?_append_left h] at e
    have hv : i < vs.length := by omega
    have ev : vs[i]? = some vs[i] := List.getElem?_eq_getElem hv
    rw [List.getElem?_append_left (by simpa using hv), List.getElem?_map, ev]
    exact hs i s _ e ev
  · rw [List.getElem?_append_right (by omega), List.getElem?_replicate] at e
    split at e
    · cases e
      exact hF i (by omega)
    · cases e
theorem bind1_sr {i : Nat} {v : V} {d : PyData} (h : Bor K H false (fun a => ¬ Z a) v d) (hF : F i = []) : SR K H F Z i (some (some v)) (bind1 d) := by
  unfold bind1
  by_cases p : pur d = true
  · rw [if_pos p]
    exact ⟨hF, p, v, rfl, h.imp fun _ _ => trivial⟩
  · rw [if_neg p]
    exact ⟨hF, v, rfl, h⟩
theorem bindS_sr {vs : List V} {ds : List PyData} (h : BorL K H false (fun a => ¬ Z a) vs ds) {i : Nat} {s : Slot} {v : V} (e : (ds.map bind1)[i]? = some s) (ev : vs[i]? = some v) {j : Nat} (hF : F j = []) : SR K H F Z j (some (some v)) s := by
  rw [List.getElem?_map] at e
  cases ed : ds[i]? with
  | none =>
    rw [ed] at e
    cases e
  | some d =>
    rw [ed] at e
    cases e
    obtain ⟨u, eu, hb⟩ := h.get ed
    rw [ev] at eu
    cases eu
    exact bind1_sr hb hF
/-- the end of a call: nothing of the caller's was touched -/
theorem post_fin {E A : List Nat} {ρ : List Slot} {σ : L2.St} {o : Out} {d : PyData} {r : Option PyData} {Q : VK} (hf : finish none (some o) = some (d, r)) (hF : ∀ i, F i = []) (hp : Post K H [] d Q) : Fin' E A K H ρ F Z σ { nx := fun _ H' => Q .non H', rt := Q } o := by
  have key : ∀ {v : V} {σ' : L2.St} {H' : Hp} {ρ' : List Slot} {F' : Fa} {Z' : Addr → Prop}, Step E H ρ F Z H' ρ' F' Z' → VR E K H F H' ρ' σ' F' Z' v d .fresh → Q v H' := fun {v σ' H' ρ' F' Z'} s ⟨B, hb, fb⟩ =>
    hp v H' B (fun a u e l => s.keep a u e fun _ j _ m => by rw [hF] at m; cases m) s.there hb fb.nodup fun a m => (fb.new a m).elim (fun ⟨i, _, z⟩ => by rw [hF] at z; cases z) .inr
  cases o with
  | nx ρ' =>
    simp only [finish] at hf
    cases hf
    exact fun σ' H' F' Z' s w q => key s (VR.pure (σ := σ') (b := true) (P := fun _ => True) rfl .non)
  | rt d' ρ' =>
    simp only [finish] at hf
    cases hf
    exact fun v σ' H' F' Z' s w q r => key s r
theorem post_finR {E A : List Nat} {ρ : List Slot} {σ : L2.St} {o : Out} {c d c' : PyData} {v0 : V} {B0 : List Addr} {Q : VK} (hf : finish (some c) (some o) = some (d, some c')) (hF : ∀ i, F i = if i = 0 then B0 else []) (hA : 0 ∉ A) (hσ : σ[0]? = some (some v0)) (hp : PostR K H B0 v0 c' d Q) : Fin' E A K H ρ F Z σ { nx := fun _ H' => Q .non H', rt := Q } o := by
  have inF : ∀ {i : Nat} {a : Addr}, a ∈ F i → a ∈ B0 := fun {i a} m => by
    rw [hF] at m
    split at m
    · exact m
    · cases m
  have key : ∀ {v : V} {σ' : L2.St} {H' : Hp} {ρ' : List Slot} {F' : Fa} {Z' : Addr → Prop}, ρ'[0]? = some (.byr c') → Step E H ρ F Z H' ρ' F' Z' → W K H' ρ' σ' F' Z' → SQ A σ σ' → VR E K H F H' ρ' σ' F' Z' v d .fresh → Q v H' := fun {v σ' H' ρ' F' Z'} e s w q ⟨B, hb, fb⟩ => by
    obtain ⟨u, eu, ho⟩ := w.slot 0 _ e
    rw [q 0 hA, hσ] at eu
    cases eu
    exact hp v H' B (F' 0) (fun a u e l => s.keep a u e fun y j _ m => l y (inF m)) s.there hb fb.nodup (fun a m => (fb.new a m).imp (fun ⟨i, _, z⟩ => inF z) id) ho (w.nodup 0)
      (fun a m => (s.own 0 a m).elim (fun z => .inl (inF z)) fun z => z.imp (fun ⟨i, _, z⟩ => inF z) id) fun a m => fb.off a m 0
  cases o with
  | nx ρ' =>
    simp only [finish] at hf
    split at hf
    · rename_i c2 e
      cases hf
      exact fun σ' H' F' Z' s w q => key e s w q (VR.pure (σ := σ') (b := true) (P := fun _ => True) rfl .non)
    · cases hf
  | rt d' ρ' =>
    simp only [finish] at hf
    split at hf
    · rename_i c2 e
      cases hf
      exact fun v σ' H' F' Z' s w q r => key e s w q r
    · cases hf
end
/-- the first slot's own lists -/
def F0 (A : List Addr) : Fa := fun i => if i = 0 then A else []
theorem F0_z {A : List Addr} : F0 A 0 = A := rfl
theorem F0_n {A : List Addr} {i : Nat} (h : i ≠ 0) : F0 A i = [] := if_neg h
section
variable {P : Program} {w : World} {K : Fr'} {mg : Str → Option Value} {base : Heap} {G : Gx} {T : List Fd} {tab : List (Stmt × List Str × List Str)}
/-- what stands behind the top of one def -/
def Stands (K : Fr') (mg : Str → Option Value) (d : Fd) (e : Stmt × List Str × List Str) (fa : Addr) (fdt : FuncData) : Prop := Fun K d.name d.name e.1 fa fdt ∧ mg d.name = some (.ref fa) ∧ Binds K fdt e.2.2 []
structure Tab (P : Program) (w : World) (K : Fr') (mg : Str → Option Value) (G : Gx) (T : List Fd) (tab : List (Stmt × List Str × List Str)) : Prop where
  fns : G.fns = T.map fun d => (d.name, d.nparams, d.mode)
  len : T.length = tab.length
  chk : ∀ (i : Nat) (d : Fd) (e : Stmt × List Str × List Str), T[i]? = some d → tab[i]? = some e → fnC G d e.1 e.2.1 e.2.2 = true
  std : ∀ (i : Nat) (d : Fd) (e : Stmt × List Str × List Str), T[i]? = some d → tab[i]? = some e → ∃ fa fdt, Stands K mg d e fa fdt
  blt : ∀ x ∈ G.blts, mg x = none
  con : ∀ p ∈ G.cons, ∃ u v, mg p.1 = some u ∧ RelV v u ∧ ∀ H, Bor K H false (fun _ => True) v p.2
theorem run_some {n : Nat} {i : Nat} {r : Option PyData} {ds : List PyData} {y : PyData × Option PyData} (h : run T (n + 1) i r ds = some y) : ∃ d, T[i]? = some d ∧ (if r.isSome then 1 else 0) + ds.length = d.nparams ∧ modeOk d.mode r = true ∧ d.nparams ≤ d.nslots ∧ finish r (execs (run T n) d.body (startRo d r ds)) = some y := by
  simp only [run] at h
  split at h
  · rename_i d e
    by_cases c : (if r.isSome then 1 else 0) + ds.length = d.nparams ∧ modeOk d.mode r = true ∧ d.nparams ≤ d.nslots
    · rw [if_pos c] at h
      exact ⟨d, e, c.1, c.2.1, c.2.2, h⟩
    · rw [if_neg c] at h
      cases h
  · cases h
theorem finish_some {r : Option PyData} {o : Option Out} {y : PyData × Option PyData} (h : finish r o = some y) : ∃ o', o = some o' := by
  cases o with
  | none => simp [finish] at h
  | some o' => exact ⟨o', rfl⟩
theorem fnG_all (tb : Tab P w K mg G T tab) : ∀ (n i : Nat) (d : Fd) (e : Stmt × List Str × List Str) (fa : Addr) (fdt : FuncData), T[i]? = some d → tab[i]? = some e → Stands K mg d e fa fdt → FnG P w K mg base n fa fdt e.2.2 (spC K (run T n) i d.mode)
  | 0, i, d, e, fa, fdt, hd, he, st => by
    have no : ∀ vals Hx Qx, spC K (run T 0) i d.mode vals Hx Qx → False := fun vals Hx Qx h => by
      cases hm : d.mode with
      | plain =>
        rw [hm] at h
        obtain ⟨_, _, _, _, h, _⟩ := h
        cases h
      | scr =>
        rw [hm] at h
        obtain ⟨_, _, _, _, _, _, _, _, _, h, _⟩ := h
        cases h
      | byr =>
        rw [hm] at h
        obtain ⟨_, _, _, _, _, _, _, _, _, _, _, h, _⟩ := h
        cases h
    exact ⟨fun vals Hx Qx h => (no vals Hx Qx h).elim, fun Ar below stt Hx given raw vals Qx _ _ _ _ _ h => (no vals Hx Qx h).elim⟩
  | n + 1, i, d, e, fa, fdt, hd, he, st => by
    have chk := tb.chk i d e hd he
    obtain ⟨S, hps, hN, hb, h0⟩ := fnC_scope chk
    have lens : ∀ vals Hx Qx, spC K (run T (n + 1)) i d.mode vals Hx Qx → vals.length = e.2.2.length := fun vals Hx Qx h => by
      rw [hps]
      cases hm : d.mode with
      | plain =>
        rw [hm] at h
        obtain ⟨ds, y, o, hbor, hr, _⟩ := h
        obtain ⟨d2, e2, l, _⟩ := run_some hr
        rw [hd] at e2
        cases e2
        rw [hbor.length, ← l]
        simp
      | scr =>
        rw [hm] at h
        obtain ⟨v0, ws, d0, ds, y, o, rfl, hb0, hbor, hr, _⟩ := h
        obtain ⟨d2, e2, l, _⟩ := run_some hr
        rw [hd] at e2
        cases e2
        rw [← l]
        simp [hbor.length]
      | byr =>
        rw [hm] at h
        obtain ⟨v0, ws, c, A, ds, y, c', rfl, ho, nd, hbor, hr, _⟩ := h
        obtain ⟨d2, e2, l, _⟩ := run_some hr
        rw [hd] at e2
        cases e2
        rw [← l]
        simp [hbor.length]
        omega
    refine fnG_of (N := e.2.1) st.1 S lens fun code Ar below stt Hx vals Qx room gd hsay => ?_
    have hl := lens _ _ _ hsay
    have ok : Ok (cxOf CX0 P w K mg base e.2.1 d.name (defScope e.1) fa code Ar below stt Hx E0).nox G ⟨e.2.1, defScope e.1, defScope e.1⟩ (run T n) :=
      ⟨rfl, S.nd, rfl, rfl, S.kind, fun x h => ⟨lookup_loc h, .inl rfl⟩, room.units, gd, tb.blt, tb.con, fun f nm m mo hf X e1 e2 e3 e4 e5 e6 es t p pos hlen hne hpl hgl hnd ha => by
        rw [tb.fns, List.getElem?_map] at hf
        cases hd2 : T[f]? with
        | none =>
          rw [hd2] at hf
          cases hf
        | some d2 =>
          rw [hd2] at hf
          cases hf
          have lt : f < tab.length := by
            rw [← tb.len]
            exact (List.getElem?_eq_some_iff.mp hd2).1
          have ht2 := List.getElem?_eq_getElem lt
          obtain ⟨fa2, fdt2, st2⟩ := tb.std f d2 _ hd2 ht2
          have F2 := fnG_all tb n f d2 _ fa2 fdt2 hd2 ht2 st2
          have q1 : X.prog = P := e1
          have q2 : X.w = w := e2
          have q3 : X.K = K := e3
          have q4 : X.mg = mg := e4
          have q5 : X.base = base := e5
          rw [← q1, ← q2, ← q3, ← q4, ← q5] at F2
          show PE X _ (fun σ H Q => t σ H fun vs H1 => spC K (run T n) f d2.mode vs H1 Q)
          rw [← q3]
          exact call_G F2 (by rw [e6]; exact room) (by rw [e6]; exact gd) hgl (by rw [e4]; exact st2.2.1) (by rw [e3]; exact st2.1.kp) (by rw [e3]; exact st2.2.2) hne hpl ha hnd⟩
    refine ⟨_, sndSs d.body ok PassesOwn.never _ hb, ?_⟩
    have st0 : L2.start e.2.1 vals = vals.map some ++ List.replicate (d.nslots - d.nparams) none := by
      unfold L2.start
      rw [hN, hl, hps]
    cases hm : d.mode with
    | plain =>
      rw [hm] at hsay
      obtain ⟨ds, y, o, hbor, hr, hpost⟩ := hsay
      obtain ⟨d2, e2, l, _, _, hfin⟩ := run_some hr
      rw [hd] at e2
      cases e2
      obtain ⟨o', ho'⟩ := finish_some hfin
      rw [ho'] at hfin
      have ew : startRo d none ds = ds.map bind1 ++ List.replicate (d.nslots - d.nparams) .emp := by
        simp only [startRo, hm, List.nil_append]
        rfl
      have wst : W K Hx (startRo d none ds) (L2.start e.2.1 vals) (fun _ => []) (fun _ => False) := by
        rw [ew, st0]
        exact start_w (by simp [hbor.length]) (fun i s v es ev => bindS_sr (hbor.imp fun _ _ z => z) es ev rfl) (fun _ _ => rfl) (fun _ => List.nodup_nil) (fun _ _ _ _ m => (nomatch m)) fun _ _ m => (nomatch m)
      exact ⟨_, _, _, o', wst, ho', post_fin hfin (fun _ => rfl) hpost⟩
    | scr =>
      rw [hm] at hsay
      obtain ⟨v0, ws, d0, ds, y, o, rfl, hb0, hbor, hr, hpost⟩ := hsay
      obtain ⟨d2, e2, l, _, _, hfin⟩ := run_some hr
      rw [hd] at e2
      cases e2
      obtain ⟨o', ho'⟩ := finish_some hfin
      rw [ho'] at hfin
      have ew : startRo d none (d0 :: ds) = ((if pur d0 then Slot.pur d0 else .scr d0) :: ds.map bind1) ++ List.replicate (d.nslots - d.nparams) .emp := by
        simp only [startRo, hm, List.nil_append]
        rfl
      have wst : W K Hx (startRo d none (d0 :: ds)) (L2.start e.2.1 (v0 :: ws)) (fun _ => []) (fun _ => False) := by
        rw [ew, st0]
        refine start_w (by simp [hbor.length]) (fun i s v es ev => ?_) (fun _ _ => rfl) (fun _ => List.nodup_nil) (fun _ _ _ _ m => (nomatch m)) fun _ _ m => (nomatch m)
        cases i with
        | zero =>
          simp at es ev
          subst ev
          subst es
          by_cases p : pur d0 = true
          · rw [if_pos p]
            exact ⟨rfl, p, _, rfl, Own.bor (hb0.own p) fun _ m => (nomatch m)⟩
          · rw [if_neg p]
            exact ⟨rfl, _, rfl, hb0.imp fun _ _ z => z⟩
        | succ i => exact bindS_sr (hbor.imp fun _ _ z => z) (by simpa using es) (by simpa using ev) rfl
      exact ⟨_, _, _, o', wst, ho', post_fin hfin (fun _ => rfl) hpost⟩
    | byr =>
      rw [hm] at hsay
      obtain ⟨v0, ws, c, A, ds, y, c', rfl, ho, nd, hbor, hr, hpost⟩ := hsay
      obtain ⟨d2, e2, l, _, _, hfin⟩ := run_some hr
      rw [hd] at e2
      cases e2
      obtain ⟨o', ho'⟩ := finish_some hfin
      rw [ho'] at hfin
      have ew : startRo d (some c) ds = (Slot.byr c :: ds.map bind1) ++ List.replicate (d.nslots - d.nparams) .emp := by
        simp only [startRo, hm]
        rfl
      have wst : W K Hx (startRo d (some c) ds) (L2.start e.2.1 (v0 :: ws)) (F0 A) (fun a => a ∈ A) := by
        rw [ew, st0]
        refine start_w (by simp [hbor.length]) (fun i s v es ev => ?_) (fun i hi => F0_n (by simp at hi; omega)) (fun i => ?_) (fun i j a n m q => ?_) fun i a m => ?_
        · cases i with
          | zero =>
            simp at es ev
            subst ev
            subst es
            exact ⟨_, rfl, ho⟩
          | succ i => exact bindS_sr hbor (by simpa using es) (by simpa using ev) (F0_n (by omega))
        · by_cases h : i = 0
          · rw [h]
            exact nd
          · rw [F0_n h]
            exact List.nodup_nil
        · by_cases h : i = 0
          · have : j ≠ 0 := fun z => n (h.trans z.symm)
            rw [F0_n this] at q
            cases q
          · rw [F0_n h] at m
            cases m
        · by_cases h : i = 0
          · rw [h] at m
            exact m
          · rw [F0_n h] at m
            cases m
      exact ⟨_, _, _, o', wst, ho', post_finR hfin (fun _ => rfl) (h0 hm) (by rw [st0]; rfl) hpost⟩
end
end Zr

set_option maxRecDepth 100000
set_option maxHeartbeats 8000000
/-! ZrX: the head: a row holds when the evaluator answers True. -/
namespace Zr
open PySem PySem.Spec PyProof.Rows L2

/-- the script is all that is tracked -/
def scriptH (a : Addr) (o : Obj) (xs : List V) : Hp := fun b => if b = a then some (.frz o (.lst xs)) else none
section
variable {P : Program} {w : World} {K : Fr'} {mg mb : Str → Option Value} {n : Nat} {fa a : Addr} {fdt : FuncData} {x : Str} {say : List V → Hp → VK → Prop} {st : Shared} {raw : List Value} {ns : List Int}
/-- one call of the law, told by an abstract heap Hx in which nothing is tracked but (perhaps) the script -/
theorem head_at {Hx : Hp} (inK : K.In st.heap) (glob : st.heap.Ns mainGlobals mg) (bts : st.heap.Ns builtinsNs mb) (boot : ∀ y : Str, y ≠ "__name__" → mb y = bootBuiltins y) (nolim : st.heap.NoLimit) (quiet : st.gens = #[])
    (script : st.heap.get? a = some { cls := .type "list", data := .seq raw.toArray }) (room : Room n callerA) (Fl : ∀ base : Heap, K.In base → base.Ns mainGlobals mg → FnG P w K mg base n fa fdt [x] say) (bind : BindsTo st fdt ⟨[.ref a], []⟩ [(x, .ref a)])
    (sy : say [.ref a] Hx fun v _ => v = .bl true) (only : Only Hx) (hok : HOk P w Hx st.heap) (just : ∀ b u, Hx b = some u → b = a ∧ K.lookup a = none) :
    codeAny (model P w) callerA (.call (.ref fa) ⟨[.ref a], []⟩) (fun r s' => r = .ok (.ret (.bool true)) ∧ OldK st.heap s'.heap ∧ s'.os = st.os ∧ AllBare s'.gens) st := by
  have cases_of : ∀ b, (∃ u, Hx b = some u) ∨ Hx b = none := fun b => by
    cases Hx b with
    | none => exact .inr rfl
    | some u => exact .inl ⟨u, rfl⟩
  have nsB : ∀ {L : Addr} {m : Str → Option Value}, st.heap.Ns L m → (hidT st.heap Hx).Ns L m := by
    rintro L m ⟨o, es, ep, h1, h2, h3⟩
    refine ⟨o, es, ep, hidT_get h1 ?_, h2, h3⟩
    rcases cases_of L with ⟨u, eu⟩ | eu
    · have := (just L u eu).1
      subst this
      rw [script] at h1
      cases h1
      cases h2
    · exact eu
  have kB : K.In (hidT st.heap Hx) := fun b o e => hidT_get (inK b o e) (by
    rcases cases_of b with ⟨u, eu⟩ | eu
    · obtain ⟨rfl, e2⟩ := just b u eu
      rw [e2] at e
      cases e
    · exact eu)
  obtain ⟨mc, l1, l2⟩ := nolim
  have e0 : Env0 P w K mg (hidT st.heap Hx) callerA [] st Hx := {
    frames := rfl
    mod := ⟨kB, nsB glob, ⟨mb, nsB bts, boot⟩, ⟨mc, nsB l1, l2⟩⟩
    bs := fun b o e => of_hidT e
    bsz := Nat.le_of_eq (hidT_size _ _)
    funs := trivial
    frf := fun b (m : b ∈ ([] : List Addr)) => (nomatch m)
    hok := hok
    bare := .of_eq quiet }
  have r1 : Vals [V.ref a] [Value.ref a] := .cons rfl .nil
  refine codeAny_mono ((Fl _ kB (nsB glob)).run callerA [] st Hx ⟨[.ref a], []⟩ [.ref a] [.ref a] _ room rfl e0 bind r1 sy) fun res fin h => ?_
  cases res with
  | error ex => exact h.elim
  | ok fl =>
    cases fl with
    | ret val =>
      obtain ⟨v, Hz, same, bare, un, hok2, rel, (q : v = .bl true)⟩ := h
      subst q
      cases (show val = Value.bool true from rel)
      refine ⟨rfl, OldK.of_keep fun b o e => ?_, same, bare⟩
      rcases cases_of b with ⟨u, eu⟩ | eu
      · rcases only b with z | ⟨ob, xs, z⟩
        · rw [eu] at z
          cases z
        · have t1 := (hok b _ z).1
          have t2 := (hok2 b _ (un.frzs b ob _ z)).1
          rw [e] at t1
          cases t1
          exact t2
      · exact un.keep b o e eu (fun (m : b ∈ ([] : List Addr)) => (nomatch m)) (fun (m : b ∈ ([] : List Addr)) => (nomatch m))
    | next => exact h.elim
    | brk => exact h.elim
    | cont => exact h.elim
theorem head_of (inK : K.In st.heap) (glob : st.heap.Ns mainGlobals mg) (bts : st.heap.Ns builtinsNs mb) (boot : ∀ y : Str, y ≠ "__name__" → mb y = bootBuiltins y) (nolim : st.heap.NoLimit) (quiet : st.gens = #[])
    (script : st.heap.get? a = some { cls := .type "list", data := .seq raw.toArray }) (whole : IntsAre raw ns) (few : ns.length ≤ sizeLine) (room : Room n callerA) (Fl : ∀ base : Heap, K.In base → base.Ns mainGlobals mg → FnG P w K mg base n fa fdt [x] say) (bind : BindsTo st fdt ⟨[.ref a], []⟩ [(x, .ref a)])
    (sy : ∀ Hx : Hp, Only Hx → Scr K Hx a (ns.map V.int) → say [.ref a] Hx fun v _ => v = .bl true) :
    codeAny (model P w) callerA (.call (.ref fa) ⟨[.ref a], []⟩) (fun r s' => r = .ok (.ret (.bool true)) ∧ OldK st.heap s'.heap ∧ s'.os = st.os ∧ AllBare s'.gens) st := by
  have vi := vals_ints whole
  have li := whole.length
  cases found : K.lookup a with
  | some o =>
    have e := inK a o found
    rw [script] at e
    cases e
    have none0 : Only (fun _ => none) := fun _ => .inl rfl
    have sz : raw.toArray.size ≤ sizeLine := by
      rw [List.size_toArray, li]
      exact few
    have vv : Vals (ns.map V.int) raw.toArray.toList := by
      simpa using vi
    have kl : KL K a (ns.map V.int) := ⟨_, raw.toArray, _, found, rfl, rfl, rfl, sz, vv⟩
    have sy0 := sy (fun _ => none) none0 (.inr kl)
    have hk : HOk P w (fun _ => none) st.heap := fun b u z => (nomatch z)
    exact head_at (Hx := fun _ => none) inK glob bts boot nolim quiet script room Fl bind sy0 none0 hk fun b u z => (nomatch z)
  | none =>
    have at_a : scriptH a { cls := .type "list", data := .seq raw.toArray } (ns.map V.int) a = some (.frz { cls := .type "list", data := .seq raw.toArray } (.lst (ns.map V.int))) := if_pos rfl
    have not_a : ∀ {b : Addr} {u : HO}, scriptH a { cls := .type "list", data := .seq raw.toArray } (ns.map V.int) b = some u → b = a := fun {b u} z => by
      by_cases hb : b = a
      · exact hb
      · rw [show scriptH a { cls := .type "list", data := .seq raw.toArray } (ns.map V.int) b = none from if_neg hb] at z
        cases z
    have one : Only (scriptH a { cls := .type "list", data := .seq raw.toArray } (ns.map V.int)) := fun b => by
      by_cases hb : b = a
      · exact .inr ⟨_, _, if_pos hb⟩
      · exact .inl (if_neg hb)
    refine head_at inK glob bts boot nolim quiet script room Fl bind (sy _ one (.inl ⟨_, at_a⟩)) one (fun b u z => ?_) fun b u z => ⟨not_a z, found⟩
    obtain rfl := not_a z
    rw [at_a] at z
    cases z
    exact ⟨script, by rw [List.length_map]; exact few, raw, _, vi, script⟩
end
/-- the table, def by def -/
inductive StdAll (K : Fr') (mg : Str → Option Value) : List Fd → List (Stmt × List Str × List Str) → Prop
  | nil : StdAll K mg [] []
  | cons {d : Fd} {stm : Stmt} {N ps : List Str} {T : List Fd} {tab : List (Stmt × List Str × List Str)} : (∃ (fa : Addr) (fdt : FuncData), Fun K d.name d.name stm fa fdt ∧ mg d.name = some (.ref fa) ∧ Binds K fdt ps []) → StdAll K mg T tab → StdAll K mg (d :: T) ((stm, N, ps) :: tab)
theorem StdAll.get {K : Fr'} {mg : Str → Option Value} : ∀ {T : List Fd} {tab : List (Stmt × List Str × List Str)}, StdAll K mg T tab → ∀ (i : Nat) (d : Fd) (e : Stmt × List Str × List Str), T[i]? = some d → tab[i]? = some e → ∃ fa fdt, Stands K mg d e fa fdt
  | _, _, .nil, i, d, e, h, _ => by simp at h
  | _, _, .cons h t, 0, d, e, h1, h2 => by
    simp at h1 h2
    subst h1
    subst h2
    exact h
  | _, _, .cons h t, i + 1, d, e, h1, h2 => StdAll.get t i d e (by simpa using h1) (by simpa using h2)
theorem tab_mk {P : Program} {w : World} {K : Fr'} {mg : Str → Option Value} {G : Gx} {T : List Fd} {tab : List (Stmt × List Str × List Str)} (h1 : G.fns = T.map fun d => (d.name, d.nparams, d.mode)) (h2 : T.length = tab.length) (h3 : (T.zip tab).all (fun p => fnC G p.1 p.2.1 p.2.2.1 p.2.2.2) = true)
    (h4 : StdAll K mg T tab) (h5 : ∀ x ∈ G.blts, mg x = none) (h6 : ∀ p ∈ G.cons, ∃ u v, mg p.1 = some u ∧ RelV v u ∧ ∀ H, Bor K H false (fun _ => True) v p.2) : Tab P w K mg G T tab :=
  ⟨h1, h2, fun i d e hd he => by
    have m : (d, e) ∈ T.zip tab := List.mem_iff_getElem?.mpr ⟨i, by rw [List.getElem?_zip_eq_some]; exact ⟨hd, he⟩⟩
    have t := List.all_eq_true.mp h3 (d, e) m
    exact t, h4.get, h5, h6⟩
/-- the goal behind the top, from the evaluator's answer -/
theorem walkZ {l : PySem.W.OpenLaw} {most lv : Nat} {q : Program} {loose : List Str} {XP : (Str → Option Value) → Heap → Prop} {YP : World → Heap → Prop} {d : DefRec} {K : Params → Fr'} {x : Str} {T : List Fd} {tab : List (Stmt × List Str × List Str)} {G : Gx} {iL : Nat}
    (hn : l.most = some most) (hm : most ≤ sizeLine) (hdf : d.params.defaults = []) (room : Room lv callerA) (hY : ∀ (w : World) (h : Heap), YP w h → (K w.params).In h)
    (tb : ∀ (w : World) (mg : Str → Option Value) (h : Heap), (K w.params).In h → h.Ns mainGlobals mg → Tab l.prog w (K w.params) mg G T tab)
    (ld : ∃ df e, T[iL]? = some df ∧ tab[iL]? = some e ∧ df.name = d.name ∧ df.mode = .scr ∧ e.2.2 = [x])
    (ans : ∀ ns : List Int, ns.length ≤ most → ∃ o, run T lv iL none [.list (ns.map .int)] = some (.bool true, o)) :
    PySem.W.WalkO q loose XP YP l.row.toRowW d [] (fun f vs => PySem.call f vs) := by
  refine Att.attach_call hn hdf fun w s₀ st mg mb fa o pm cd doc a raw ns ground Y _ _ _ hmg script whole few quiet => ?_
  have inK := hY w _ Y
  obtain ⟨df, e, h1, h2, h3, h4, h5⟩ := ld
  have tb1 := tb w mg _ inK ground.T.g
  obtain ⟨fa2, fdt, std⟩ := tb1.std iL df e h1 h2
  have efa := std.2.1
  rw [h3, hmg] at efa
  cases efa
  have bind : BindsTo st fdt ⟨[.ref a], []⟩ [(x, .ref a)] := by
    have b := std.2.2 st [.ref a] inK (by rw [h5]; rfl)
    rw [h5] at b
    exact b
  refine head_of (n := lv) (fdt := fdt) (x := x) (say := spC (K w.params) (run T lv) iL .scr) inK ground.T.g ground.T.b ground.T.builtins ground.T.nolimit quiet script whole (Nat.le_trans few hm) room (fun base kb nb => ?_) bind fun Hx only scr => ?_
  · have F := fnG_all (base := base) tb1 lv iL df e fa fdt h1 h2 std
    rw [h4, h5] at F
    exact F
  · obtain ⟨o2, ho⟩ := ans ns few
    refine ⟨.ref a, [], .list (ns.map .int), [], .bool true, o2, rfl, .lsk rfl scr ?_, .nil, ho, fun v H' B _ _ hown _ _ => ?_⟩
    · clear few whole scr ho script
      induction ns with
      | nil => exact .nil
      | cons i r ih => exact .cons (.int i) ih
    · cases hown
      rfl
end Zr

set_option maxRecDepth 100000
set_option maxHeartbeats 4000000
/-! ZrY: reckoning with the evaluator (plain laws): steps, loops, comprehensions. -/
namespace Zr
open PySem
theorem run_at {T : List Fd} {k f : Nat} {r : Option D} {ds : List D} {d : Fd} (h : T[f]? = some d) (c : (if r.isSome then 1 else 0) + ds.length = d.nparams ∧ modeOk d.mode r = true ∧ d.nparams ≤ d.nslots) : run T (k + 1) f r ds = finish r (execs (run T k) d.body (startRo d r ds)) := by
  simp only [run, h]
  rw [if_pos c]
theorem ints_purs (ns : List Int) : purs (ns.map .int) = true := by
  induction ns with
  | nil => rfl
  | cons i r ih => simp [purs, pur, ih]
theorem bi_tuple {rs : List D} (h : purs rs = true) : bi .tuple [.list rs] = some (.tuple rs) := by
  simp only [bi, h, if_true]
def isOutN (r : Option (D × Option D)) (d : D) : Bool := match r with
  | some (e, none) => deq e d
  | _ => false
theorem isOutN_eq {r : Option (D × Option D)} {d : D} (h : isOutN r d = true) : r = some (d, none) := by
  unfold isOutN at h
  split at h
  · rw [deq_eq h]
  · cases h
theorem fm_b (x m : Int) (h : 0 < m) : 0 ≤ x.fmod m ∧ x.fmod m < m := ⟨Int.fmod_nonneg_of_pos x h, Int.fmod_lt_of_pos x h⟩
theorem fm_1 (x : Int) : (x.fmod 2147483647).natAbs < 18446744073709551616 := by have := fm_b x 2147483647 (by decide); omega
theorem fm_2 (x : Int) : (x.fmod 2147483629).natAbs < 18446744073709551616 := by have := fm_b x 2147483629 (by decide); omega
theorem fm_3 (x : Int) : (x.fmod 2147483399).natAbs < 18446744073709551616 := by have := fm_b x 2147483399 (by decide); omega
/-- a comprehension that keeps every item -/
theorem lcGo_map {turn : D → Ro → List D → Option (List D × Ro)} {ρ : Ro} (f : D → D) : ∀ (xs acc : List D), (∀ x ∈ xs, ∀ acc : List D, acc.length < lim → turn x ρ acc = some (f x :: acc, ρ)) → acc.length + xs.length ≤ lim → lcGo turn xs ρ acc = some ((xs.map f).reverse ++ acc, ρ)
  | [], acc, _, _ => rfl
  | x :: xs, acc, h, hl => by
    simp only [lcGo, h x List.mem_cons_self acc (by simp at hl; omega)]
    rw [lcGo_map f xs (f x :: acc) (fun y m => h y (List.mem_cons_of_mem _ m)) (by simp at hl ⊢; omega)]
    simp
/-- .. one that keeps some -/
theorem lcGo_some {turn : D → Ro → List D → Option (List D × Ro)} {ρ : Ro} (f : D → Option D) : ∀ (xs acc : List D), (∀ x ∈ xs, ∀ acc : List D, acc.length < lim → turn x ρ acc = some ((match f x with | some y => y :: acc | none => acc), ρ)) → acc.length + xs.length ≤ lim → lcGo turn xs ρ acc = some ((xs.filterMap f).reverse ++ acc, ρ)
  | [], acc, _, _ => rfl
  | x :: xs, acc, h, hl => by
    simp only [lcGo, h x List.mem_cons_self acc (by simp at hl; omega)]
    cases e : f x with
    | none =>
      simp only
      rw [lcGo_some f xs acc (fun y m => h y (List.mem_cons_of_mem _ m)) (by simp at hl ⊢; omega)]
      simp [e]
    | some y =>
      simp only
      rw [lcGo_some f xs (y :: acc) (fun y m => h y (List.mem_cons_of_mem _ m)) (by simp at hl ⊢; omega)]
      simp [e]
/-- a loop, state by state -/
theorem forGo_st {turn : D → Ro → Option Out} (xs : List D) (st : Nat → Ro) (h : ∀ (i : Nat) (x : D), xs[i]? = some x → turn x (st i) = some (.nx (st (i + 1)))) : forGo turn xs (st 0) = some (.nx (st xs.length)) := by
  have go : ∀ j, j ≤ xs.length → forGo turn (xs.drop (xs.length - j)) (st (xs.length - j)) = some (.nx (st xs.length)) := by
    intro j
    induction j with
    | zero =>
      intro _
      simp [forGo]
    | succ j ih =>
      intro hj
      have lt : xs.length - (j + 1) < xs.length := by omega
      rw [List.drop_eq_getElem_cons lt]
      simp only [forGo]
      rw [h _ _ (List.getElem?_eq_getElem lt)]
      have e : xs.length - (j + 1) + 1 = xs.length - j := by omega
      simp only [e]
      exact ih (by omega)
  have := go xs.length (Nat.le_refl _)
  simpa using this
/-- a loop, by a fold over states that keep something -/
theorem forGo_fold {α : Type} {turn : D → Ro → Option Out} (st : α → Ro) (f : α → D → α) (ok : α → List D → Prop) (h : ∀ s x r, ok s (x :: r) → turn x (st s) = some (.nx (st (f s x))) ∧ ok (f s x) r) : ∀ (xs : List D) (s : α), ok s xs → forGo turn xs (st s) = some (.nx (st (xs.foldl f s)))
  | [], s, _ => rfl
  | x :: r, s, o => by
    obtain ⟨h1, h2⟩ := h s x r o
    simp only [forGo, h1, List.foldl_cons]
    exact forGo_fold st f ok h r (f s x) h2
section
variable {C : CallF}
theorem x_cons {s : IS} {ss : ISs} {ρ ρ1 : Ro} (h : exec C s ρ = some (.nx ρ1)) : execs C (.cons s ss) ρ = execs C ss ρ1 := by
  simp only [execs, h]
theorem x_last {s : IS} {ss : ISs} {ρ ρ1 : Ro} {d : D} (h : exec C s ρ = some (.rt d ρ1)) : execs C (.cons s ss) ρ = some (.rt d ρ1) := by
  simp only [execs, h]
theorem x_asg {g : IG} {e : IE} {ρ ρ1 ρ2 ρ3 : Ro} {d : D} {st s' : Stat} (h : ev C e ρ = some (d, st, ρ1)) (h2 : settleA d st ρ1 = some (s', ρ2)) (h3 : bindV g d s' ρ2 = some ρ3) : exec C (.asg g e) ρ = some (.nx ρ3) := by
  simp only [exec, h, h2, h3]
/-- a built-in of one argument -/
theorem ev_bi1 {b : Bi} {e : IE} {ρ ρ1 : Ro} {d r : D} {st : Stat} (h : ev C e ρ = some (d, st, ρ1)) (h2 : bi b [d] = some r) : ev C (.bcall b (.cons e .nil)) ρ = some (r, .fresh, ρ1) := by
  have o : okSt st (effs .nil) = true := by cases st <;> rfl
  simp only [ev, evs, h, o, if_true, List.map_cons, List.map_nil, h2]
theorem evT_tru {e : IE} {ρ ρ1 : Ro} {d : D} {st : Stat} {k : Bool} (h : ev C e ρ = some (d, st, ρ1)) (h2 : truD d = some k) : evT C (.tru e) ρ = some (k, ρ1) := by
  simp only [evT, h, h2]
theorem evT_not {t : IT} {ρ ρ1 : Ro} {k : Bool} (h : evT C t ρ = some (k, ρ1)) : evT C (.not t) ρ = some (!k, ρ1) := by
  simp only [evT, h]
theorem x_ifs {t : IT} {a b : ISs} {ρ ρ1 : Ro} {k : Bool} (h : evT C t ρ = some (k, ρ1)) : exec C (.ifs t a b) ρ = if k then execs C a ρ1 else execs C b ρ1 := by
  simp only [exec, h]
theorem x_ret {e : IE} {ρ ρ1 ρ2 : Ro} {d : D} {st : Stat} (h : ev C e ρ = some (d, st, ρ1)) (h2 : settle d st ρ1 = some ρ2) : exec C (.ret e) ρ = some (.rt d ρ2) := by
  simp only [exec, h, h2]
theorem x_for {g : IG} {it : II} {b : ISs} {ρ ρ1 : Ro} {xs : List D} {st : List Stat} {turn : D → Ro → Option Out} (h1 : evI C it ρ = some (xs, st, ρ1)) (h2 : (st.all (walkOk · xs (g.slots ++ effSs b))) = true) (h3 : ∀ x ρ, turn x ρ = (bindV g x .froz ρ).bind (execs C b)) : exec C (.for g it b) ρ = forGo turn xs ρ1 := by
  simp only [exec, h1]
  rw [if_pos h2]
  congr 1
  funext x ρ
  rw [h3]
  cases bindV g x .froz ρ <;> rfl
theorem ev_lc_map {own : List Nat} {elt : IE} {g : IG} {it : II} {t : IC} {ρ ρ1 ρ2 : Ro} {xs : List D} {sts : List Stat} (f : D → D) (h1 : evI C it ρ = some (xs, sts, ρ1)) (h2 : hide ρ1 own = some ρ2) (h3 : (sts.all (walkOk · xs (own ++ (effC t ++ (effE elt ++ tkE elt)))) && g.slots.all own.contains) = true)
    (h4 : ∀ x ∈ xs, ∃ ρa ρb sy ρc ρe, bindV g x .froz ρ2 = some ρa ∧ evC C t ρa = some (true, ρb) ∧ ev C elt ρb = some (f x, sy, ρc) ∧ settle (f x) sy ρc = some ρe ∧ hide ρe own = some ρ2) (hl : xs.length ≤ lim) :
    ev C (.lc own elt g it t) ρ = some (.list (xs.map f), .fresh, unhide ρ1 ρ2 own) := by
  simp only [ev, h1, h2]
  rw [if_pos h3, lcGo_map f xs [] (fun x m acc ha => by
    obtain ⟨ρa, ρb, sy, ρc, ρe, e1, e2, e3, e4, e5⟩ := h4 x m
    simp only [e1, e2, e3, e4, e5]
    rw [if_pos ha]) (by simpa using hl)]
  simp
end
end Zr

set_option maxRecDepth 100000
set_option maxHeartbeats 4000000
/-! ZyA: what many laws ask alike: loops by a relation, _law_is of a thing and itself. -/
namespace Zr
open PySem
theorem forGo_rel {turn : D → Ro → Option Out} (I : Nat → Ro → Prop) (xs : List D) (h : ∀ (i : Nat) (x : D) (ρ : Ro), xs[i]? = some x → I i ρ → ∃ ρ', turn x ρ = some (.nx ρ') ∧ I (i + 1) ρ') (ρ : Ro) (h0 : I 0 ρ) : ∃ ρ', forGo turn xs ρ = some (.nx ρ') ∧ I xs.length ρ' := by
  have go : ∀ j, j ≤ xs.length → ∀ ρ, I (xs.length - j) ρ → ∃ ρ', forGo turn (xs.drop (xs.length - j)) ρ = some (.nx ρ') ∧ I xs.length ρ' := by
    intro j
    induction j with
    | zero =>
      intro _ ρ i
      exact ⟨ρ, by simp [forGo], by simpa using i⟩
    | succ j ih =>
      intro hj ρ i
      have lt : xs.length - (j + 1) < xs.length := by omega
      obtain ⟨ρ1, e1, i1⟩ := h _ _ ρ (List.getElem?_eq_getElem lt) i
      have e : xs.length - (j + 1) + 1 = xs.length - j := by omega
      rw [e] at i1
      obtain ⟨ρ2, e2, i2⟩ := ih (by omega) ρ1 i1
      refine ⟨ρ2, ?_, i2⟩
      rw [List.drop_eq_getElem_cons lt]
      simp only [forGo, e1, e]
      exact e2
  have := go xs.length (Nat.le_refl _) ρ (by simpa using h0)
  simpa using this
theorem lcGo_rel {turn : D → Ro → List D → Option (List D × Ro)} (I : Nat → List D → Ro → Prop) (xs : List D) (h : ∀ (i : Nat) (x : D) (ρ : Ro) (acc : List D), xs[i]? = some x → I i acc ρ → ∃ acc' ρ', turn x ρ acc = some (acc', ρ') ∧ I (i + 1) acc' ρ') (ρ : Ro) (acc : List D) (h0 : I 0 acc ρ) : ∃ acc' ρ', lcGo turn xs ρ acc = some (acc', ρ') ∧ I xs.length acc' ρ' := by
  have go : ∀ j, j ≤ xs.length → ∀ ρ acc, I (xs.length - j) acc ρ → ∃ acc' ρ', lcGo turn (xs.drop (xs.length - j)) ρ acc = some (acc', ρ') ∧ I xs.length acc' ρ' := by
    intro j
    induction j with
    | zero =>
      intro _ ρ acc i
      exact ⟨acc, ρ, by simp [lcGo], by simpa using i⟩
    | succ j ih =>
      intro hj ρ acc i
      have lt : xs.length - (j + 1) < xs.length := by omega
      obtain ⟨acc1, ρ1, e1, i1⟩ := h _ _ ρ acc (List.getElem?_eq_getElem lt) i
      have e : xs.length - (j + 1) + 1 = xs.length - j := by omega
      rw [e] at i1
      obtain ⟨acc2, ρ2, e2, i2⟩ := ih (by omega) ρ1 acc1 i1
      refine ⟨acc2, ρ2, ?_, i2⟩
      rw [List.drop_eq_getElem_cons lt]
      simp only [lcGo, e1, e]
      exact e2
  have := go xs.length (Nat.le_refl _) ρ acc (by simpa using h0)
  simpa using this
/-! ### _law_is -/
mutual
def okd : D → Bool
  | .none => true
  | .bool _ => true
  | .int i => decide (i.natAbs.log2 < 1920)
  | .str x => decide (x.length ≤ 90000) && x.cps.toList.all fun c => decide (c < 16 ^ 8)
  | .list xs => okds xs && decide (xs.length ≤ lim)
  | .tuple xs => okds xs && decide (xs.length ≤ lim)
  | .dict _ => false
def okds : List D → Bool
  | [] => true
  | x :: xs => okd x && okds xs
end
mutual
def dep : D → Nat
  | .list xs => deps xs + 1
  | .tuple xs => deps xs + 1
  | _ => 0
def deps : List D → Nat
  | [] => 0
  | x :: xs => max (dep x) (deps xs)
end
theorem okds_mem : ∀ {xs : List D}, okds xs = true → ∀ x ∈ xs, okd x = true
  | x :: xs, h, y, m => by
    simp only [okds, Bool.and_eq_true] at h
    rcases List.mem_cons.mp m with e | m
    · rw [e]; exact h.1
    · exact okds_mem h.2 y m
theorem deps_mem : ∀ {xs : List D}, ∀ x ∈ xs, dep x ≤ deps xs
  | x :: xs, y, m => by
    simp only [deps]
    rcases List.mem_cons.mp m with e | m
    · rw [e]; omega
    · have := deps_mem (xs := xs) y m
      omega
theorem repr_int {i : Int} (h : i.natAbs.log2 < 1920) : ∃ z, bi .repr [.int i] = some (.str z) ∧ z.length ≤ lim := by
  have l := PyProof.Rows.int_text_len_1921 h
  refine ⟨(PyData.int i).shown, ?_, Nat.le_trans l (by decide)⟩
  have c1 : (PyData.int i).shown.length ≤ lim := Nat.le_trans l (by decide)
  simp [bi, PyData.showable, h, PyData.hasDict, PyData.depth, c1]
theorem repr_str {x : Str} (h : x.length ≤ 90000) (h2 : (x.cps.toList.all fun c => decide (c < 16 ^ 8)) = true) : ∃ z, bi .repr [.str x] = some (.str z) ∧ z.length ≤ lim := by
  have l := PyData.shown_le 8 (by decide) (.str x) h2
  have w : (PyData.str x).weight = x.length := rfl
  rw [w] at l
  have c1 : (PyData.str x).shown.length ≤ lim := by simp [lim]; omega
  refine ⟨(PyData.str x).shown, ?_, c1⟩
  simp [bi, PyData.showable, PyData.hasDict, PyData.depth, c1]
theorem repr_bool (b : Bool) : ∃ z, bi .repr [.bool b] = some (.str z) ∧ z.length ≤ lim := by
  cases b
  · exact ⟨_, rfl, by decide +kernel⟩
  · exact ⟨_, rfl, by decide +kernel⟩
theorem eq_str (z : Str) : cmpop .Eq (.str z) (.str z) = some true := by
  simp [cmpop, eqD, PyData.plain, PyData.depth, PyData.eqv]
def isBody (i : Nat) : ISs :=
    (.cons (.ifs (.tru (.isi (.var 1) [.tuple, .list])) (.cons (.ifs (.or (.cmp (.cmp .NotEq (.isi (.var 0) [.tuple]) (.isi (.var 1) [.tuple]))) (.one (.not (.tru (.isi (.var 0) [.tuple, .list]))))) (.cons (.ret (.bl false))
    .nil) .nil)
    (.cons (.ret (.andV (.cmp .Eq (.bcall .len (.cons (.var 0) .nil)) (.bcall .len (.cons (.var 1) .nil))) (.oneV (.bcall .all (.cons (.lc [2, 3] (.fcall i (.cons (.var 2) (.cons (.var 3) .nil))) (.t2 (.nm 2) (.nm 3)) (.zip (.var 0) (.var 1)) .yes) .nil)))))
    .nil)) .nil)
    (.cons (.ifs (.or (.cmp (.cmp .Is (.var 1) .non)) (.one (.tru (.isi (.var 1) [.bool])))) (.cons (.ret (.ite (.cmp (.cmp .Is (.var 1) .non)) (.cmp .Is (.var 0) .non) (.andV (.isi (.var 0) [.bool]) (.oneV (.cmp .Eq (.bcall .repr (.cons (.var 0) .nil)) (.bcall .repr (.cons (.var 1) .nil)))))))
    .nil) .nil)
    (.cons (.ifs (.tru (.isi (.var 1) [.str])) (.cons (.ret (.andV (.isi (.var 0) [.str]) (.oneV (.cmp .Eq (.bcall .repr (.cons (.var 0) .nil)) (.bcall .repr (.cons (.var 1) .nil))))))
    .nil) .nil)
    (.cons (.ret (.andV (.isi (.var 0) [.int]) (.andV (.notV (.isi (.var 0) [.bool])) (.oneV (.cmp .Eq (.bcall .repr (.cons (.var 0) .nil)) (.bcall .repr (.cons (.var 1) .nil)))))))
    .nil))))
theorem zip_self : ∀ {xs : List D} {x : D}, x ∈ zipD xs xs → ∃ y ∈ xs, x = .tuple [y, y]
  | [], x, m => by simp [zipD] at m
  | y :: r, x, m => by
    simp only [zipD, List.mem_cons] at m
    rcases m with e | m
    · exact ⟨y, List.mem_cons_self, e⟩
    · obtain ⟨z, h1, h2⟩ := zip_self m
      exact ⟨z, List.mem_cons_of_mem _ h1, h2⟩
theorem zip_len : ∀ (xs : List D), (zipD xs xs).length = xs.length
  | [] => rfl
  | x :: r => by simp [zipD, zip_len r]
theorem all_truef {α : Type} (xs : List α) : bi .all [.list (xs.map fun _ => PyData.bool true)] = some (.bool true) := by
  have e : ∀ xs : List α, toBls (xs.map fun _ => PyData.bool true) = some (xs.map fun _ => true) := by
    intro xs
    induction xs with
    | nil => rfl
    | cons x r ih => simp [toBls, ih]
  simp [bi, e]
theorem gv_bind1 (d : D) : gv [bind1 d] 0 = some (d, if pur d then .fresh else .froz) := by
  unfold bind1
  cases h : pur d <;> simp [gv]
theorem walk_bind (d : D) (xs : List D) (E : List Nat) : walkOk (if pur d then .fresh else .froz) xs E = true := by
  cases h : pur d <;> simp [walkOk]
def isRo (a b : D) : Ro := [bind1 a, bind1 b, .emp, .emp]
theorem gv_is0 (a b : D) : gv (isRo a b) 0 = some (a, if pur a then .fresh else .froz) := by
  unfold isRo bind1
  cases h : pur a <;> simp [gv]
theorem gv_is1 (a b : D) : gv (isRo a b) 1 = some (b, if pur b then .fresh else .froz) := by
  unfold isRo bind1
  cases h : pur b <;> simp [gv]
theorem okSt_nil (d : D) : okSt (if pur d then .fresh else .froz) [] = true := by
  cases pur d <;> rfl
theorem noScr_if (d : D) : noScr (if pur d then .fresh else .froz) = true := by
  cases pur d <;> rfl
def seqOf : D → Option (List D)
  | .list xs => some xs
  | .tuple xs => some xs
  | _ => none
theorem is_all {C : CallF} {i : Nat} {a b : D} {xs ys : List D} (ha : seqOf a = some xs) (hb : seqOf b = some ys) (hk : (∃ zs ws, a = .list zs ∧ b = .list ws) ∨ ∃ zs ws, a = .tuple zs ∧ b = .tuple ws) (hl : (zipD xs ys).length ≤ lim) (f : D → D)
    (h : ∀ x ∈ zipD xs ys, ∃ u v, x = .tuple [u, v] ∧ C i none [u, v] = some (f x, none) ∧ pur (f x) = true) :
    ev C (.lc [2, 3] (.fcall i (.cons (.var 2) (.cons (.var 3) .nil))) (.t2 (.nm 2) (.nm 3)) (.zip (.var 0) (.var 1)) .yes) (isRo a b) = some (.list ((zipD xs ys).map f), .fresh, isRo a b) := by
  have e1 : evI C (.zip (.var 0) (.var 1)) (isRo a b) = some (zipD xs ys, [if pur a then .fresh else .froz, if pur b then .fresh else .froz], isRo a b) := by
    simp only [evI, ev, gv_is0, gv_is1, effE, okSt_nil, if_true]
    rcases hk with ⟨zs, ws, rfl, rfl⟩ | ⟨zs, ws, rfl, rfl⟩
    · cases ha
      cases hb
      rfl
    · cases ha
      cases hb
      rfl
  have e2 := ev_lc_map (C := C) (own := [2, 3]) (elt := .fcall i (.cons (.var 2) (.cons (.var 3) .nil))) (g := .t2 (.nm 2) (.nm 3)) (t := .yes) (ρ2 := isRo a b) f e1 rfl (by
    simp only [List.all_cons, walk_bind, List.all_nil]
    rfl) (fun x m => by
      obtain ⟨u, v, rfl, hc, hp⟩ := h x m
      refine ⟨[bind1 a, bind1 b, bind1 u, bind1 v], [bind1 a, bind1 b, bind1 u, bind1 v], .fresh, [bind1 a, bind1 b, bind1 u, bind1 v], [bind1 a, bind1 b, bind1 u, bind1 v], ?_, rfl, ?_, rfl, ?_⟩
      · unfold isRo
        simp only [bindV, noByr]
        rfl
      · have g2 : gv [bind1 a, bind1 b, bind1 u, bind1 v] 2 = some (u, if pur u then .fresh else .froz) := by
          unfold bind1
          cases pur u <;> simp [gv]
        have g3 : gv [bind1 a, bind1 b, bind1 u, bind1 v] 3 = some (v, if pur v then .fresh else .froz) := by
          unfold bind1
          cases pur v <;> simp [gv]
        simp only [ev, evs, g2, g3, effs, effE, List.append_nil, okSt_nil, if_true, List.all_cons, noScr_if, List.all_nil, Bool.and_true, List.map_cons, List.map_nil, hc]
      · unfold isRo bind1
        cases pur u <;> cases pur v <;> simp [hide]) hl
  rw [e2]
  rfl
theorem ev_andT {C : CallF} {a b : IE} {ρ ρ1 : Ro} {x : D} {s : Stat} (h : ev C a ρ = some (x, s, ρ1)) (h2 : truD x = some true) : ev C (.andV a b) ρ = ev C b ρ1 := by simp only [ev, h, h2]
theorem ev_andF {C : CallF} {a b : IE} {ρ ρ1 : Ro} {x : D} {s : Stat} (h : ev C a ρ = some (x, s, ρ1)) (h2 : truD x = some false) : ev C (.andV a b) ρ = some (x, s, ρ1) := by simp only [ev, h, h2]
theorem ev_one {C : CallF} {a : IE} {ρ : Ro} : ev C (.oneV a) ρ = ev C a ρ := by simp only [ev]
theorem is_seq {C : CallF} {i : Nat} {a b : D} {xs ys : List D} (ha : seqOf a = some xs) (hb : seqOf b = some ys) (hk : (∃ zs ws, a = .list zs ∧ b = .list ws) ∨ ∃ zs ws, a = .tuple zs ∧ b = .tuple ws) (hl : xs.length = ys.length) (hm : (zipD xs ys).length ≤ lim) (f : D → D) (k : Bool)
    (h : ∀ x ∈ zipD xs ys, ∃ u v, x = .tuple [u, v] ∧ C i none [u, v] = some (f x, none) ∧ pur (f x) = true) (hr : bi .all [.list ((zipD xs ys).map f)] = some (.bool k)) :
    ∃ ρ', execs C (isBody i) (isRo a b) = some (.rt (.bool k) ρ') := by
  have e := is_all (C := C) ha hb hk hm f h
  have c1 : ev C (.cmp .Eq (.bcall .len (.cons (.var 0) .nil)) (.bcall .len (.cons (.var 1) .nil))) (isRo a b) = some (.bool true, .fresh, isRo a b) := by
    have i2 : ∀ n : Int, cmpop .Eq (.int n) (.int n) = some true := fun n => by simp [cmpop, eqD]
    rcases hk with ⟨zs, ws, rfl, rfl⟩ | ⟨zs, ws, rfl, rfl⟩
    · cases ha
      cases hb
      simp only [ev, evs, gv_is0, gv_is1, effs, okSt_nil, if_true, List.map_cons, List.map_nil, bi, hl, i2]
      simp [okSt, effE, effs]
    · cases ha
      cases hb
      simp only [ev, evs, gv_is0, gv_is1, effs, okSt_nil, if_true, List.map_cons, List.map_nil, bi, hl, i2]
      simp [okSt, effE, effs]
  have c2 : evT C (.tru (.isi (.var 1) [.tuple, .list])) (isRo a b) = some (true, isRo a b) := by
    rcases hk with ⟨zs, ws, rfl, rfl⟩ | ⟨zs, ws, rfl, rfl⟩
    · simp [evT, ev, gv_is1, tyD, truD]
    · simp [evT, ev, gv_is1, tyD, truD]
  have c3 : evT C (.or (.cmp (.cmp .NotEq (.isi (.var 0) [.tuple]) (.isi (.var 1) [.tuple]))) (.one (.not (.tru (.isi (.var 0) [.tuple, .list]))))) (isRo a b) = some (false, isRo a b) := by
    have b1 : ∀ b : Bool, cmpop .NotEq (.bool b) (.bool b) = some false := fun b => by cases b <;> rfl
    rcases hk with ⟨zs, ws, rfl, rfl⟩ | ⟨zs, ws, rfl, rfl⟩
    · simp only [evT, ev, gv_is0, gv_is1, List.any_cons, List.any_nil, tyD, Bool.or_false, Bool.false_or, Bool.true_or, b1, effE, truD, Bool.not_true]
      simp [okSt, b1, gv_is0, gv_is1]
    · simp only [evT, ev, gv_is0, gv_is1, List.any_cons, List.any_nil, tyD, Bool.or_false, Bool.false_or, Bool.true_or, b1, effE, truD, Bool.not_true]
      simp [okSt, b1, gv_is0, gv_is1]
  refine ⟨isRo a b, ?_⟩
  refine x_last ((x_ifs c2).trans ?_)
  rw [if_pos rfl, x_cons (ρ1 := isRo a b) ((x_ifs c3).trans (by simp [execs]))]
  refine x_last (x_ret (d := .bool k) (st := .fresh) ?_ rfl)
  rw [ev_andT c1 rfl, ev_one]
  exact ev_bi1 e hr
theorem law_is_same {T : List Fd} {i : Nat} {fd : Fd} (h : T[i]? = some fd) (hb : fd.body = isBody i) (hn : fd.nparams = 2) (hm : fd.mode = .plain) (hs : fd.nslots = 4) : ∀ (k : Nat) (d : D), dep d ≤ k → okd d = true → run T (k + 1) i none [d, d] = some (.bool true, none) := by
  intro k
  induction k with
  | zero =>
    intro d hd ho
    rw [run_at (d := fd) h ⟨by simp [hn], by simp [hm, modeOk], by omega⟩]
    have s0 : startRo fd none [d, d] = isRo d d := by simp [startRo, hm, bindS, hs, hn, isRo, List.replicate]
    rw [s0, hb]
    generalize run T 0 = C
    cases d with
    | list xs => simp [dep] at hd
    | tuple xs => simp [dep] at hd
    | dict kvs => simp [okd] at ho
    | none =>
      simp [isBody, execs, exec, evT, ev, gv_is0, gv_is1, okSt, pur, effE, tyD, truD, cmpop, isNone, settle, finish]
    | bool b =>
      obtain ⟨z, e1, e2⟩ := repr_bool b
      simp [isBody, execs, exec, evT, ev, evs, gv_is0, gv_is1, okSt, pur, effE, effs, tyD, truD, cmpop, isNone, settle, finish, e1]
      simp [eqD, PyData.plain, PyData.depth, PyData.eqv]
    | int n =>
      simp only [okd, decide_eq_true_eq] at ho
      obtain ⟨z, e1, e2⟩ := repr_int ho
      simp [isBody, execs, exec, evT, ev, evs, gv_is0, gv_is1, okSt, pur, effE, effs, tyD, truD, cmpop, isNone, settle, finish, e1]
      simp [eqD, PyData.plain, PyData.depth, PyData.eqv]
    | str x =>
      simp only [okd, Bool.and_eq_true, decide_eq_true_eq] at ho
      obtain ⟨z, e1, e2⟩ := repr_str ho.1 ho.2
      simp [isBody, execs, exec, evT, ev, evs, gv_is0, gv_is1, okSt, pur, effE, effs, tyD, truD, cmpop, isNone, settle, finish, e1]
      simp [eqD, PyData.plain, PyData.depth, PyData.eqv]
  | succ k ih =>
    intro d hd ho
    rw [run_at (d := fd) h ⟨by simp [hn], by simp [hm, modeOk], by omega⟩]
    have s0 : startRo fd none [d, d] = isRo d d := by simp [startRo, hm, bindS, hs, hn, isRo, List.replicate]
    rw [s0, hb]
    generalize run T (k + 1) = C at ih
    cases d with
    | list xs =>
      simp only [okd, Bool.and_eq_true, decide_eq_true_eq] at ho
      simp only [dep] at hd
      obtain ⟨ρ', e⟩ := is_seq (C := C) (i := i) (a := .list xs) (b := .list xs) rfl rfl (.inl ⟨xs, xs, rfl, rfl⟩) rfl (by rw [zip_len]; exact ho.2) (fun _ => .bool true) true (fun x m => by
        obtain ⟨y, h1, h2⟩ := zip_self m
        have := deps_mem y h1
        exact ⟨y, y, h2, ih y (by omega) (okds_mem ho.1 y h1), rfl⟩) (all_truef _)
      rw [e]
      rfl
    | tuple xs =>
      simp only [okd, Bool.and_eq_true, decide_eq_true_eq] at ho
      simp only [dep] at hd
      obtain ⟨ρ', e⟩ := is_seq (C := C) (i := i) (a := .tuple xs) (b := .tuple xs) rfl rfl (.inr ⟨xs, xs, rfl, rfl⟩) rfl (by rw [zip_len]; exact ho.2) (fun _ => .bool true) true (fun x m => by
        obtain ⟨y, h1, h2⟩ := zip_self m
        have := deps_mem y h1
        exact ⟨y, y, h2, ih y (by omega) (okds_mem ho.1 y h1), rfl⟩) (all_truef _)
      rw [e]
      rfl
    | dict kvs => simp [okd] at ho
    | none => simp [isBody, execs, exec, evT, ev, gv_is0, gv_is1, okSt, pur, effE, tyD, truD, cmpop, isNone, settle, finish]
    | bool b =>
      obtain ⟨z, e1, e2⟩ := repr_bool b
      simp [isBody, execs, exec, evT, ev, evs, gv_is0, gv_is1, okSt, pur, effE, effs, tyD, truD, cmpop, isNone, settle, finish, e1]
      simp [eqD, PyData.plain, PyData.depth, PyData.eqv]
    | int n =>
      simp only [okd, decide_eq_true_eq] at ho
      obtain ⟨z, e1, e2⟩ := repr_int ho
      simp [isBody, execs, exec, evT, ev, evs, gv_is0, gv_is1, okSt, pur, effE, effs, tyD, truD, cmpop, isNone, settle, finish, e1]
      simp [eqD, PyData.plain, PyData.depth, PyData.eqv]
    | str x =>
      simp only [okd, Bool.and_eq_true, decide_eq_true_eq] at ho
      obtain ⟨z, e1, e2⟩ := repr_str ho.1 ho.2
      simp [isBody, execs, exec, evT, ev, evs, gv_is0, gv_is1, okSt, pur, effE, effs, tyD, truD, cmpop, isNone, settle, finish, e1]
      simp [eqD, PyData.plain, PyData.depth, PyData.eqv]
end Zr

set_option maxRecDepth 100000
set_option maxHeartbeats 0
namespace Zr
open PySem
namespace Ir
def f_is_integer : Fd := { name := (Str.ofString "is_integer"), nparams := 1, mode := .plain, nslots := 1, body :=
    (.cons (.ret (.andV (.isi (.var 0) [.int]) (.oneV (.notV (.isi (.var 0) [.bool])))))
    .nil) }
def f_is_within : Fd := { name := (Str.ofString "is_within"), nparams := 3, mode := .plain, nslots := 3, body :=
    (.cons (.ret (.andV (.fcall 0 (.cons (.var 0) .nil)) (.oneV (.chain .LtE .LtE (.var 1) (.var 0) (.var 2)))))
    .nil) }
def f_is_reach : Fd := { name := (Str.ofString "is_reach"), nparams := 2, mode := .plain, nslots := 4, body :=
    (.cons (.ifs (.or (.not (.tru (.isi (.var 0) [.tuple]))) (.one (.not (.cmp (.chain .LtE .LtE (.int 1) (.bcall .len (.cons (.var 0) .nil)) (.var 1)))))) (.cons (.ret (.bl false))
    .nil) .nil)
    (.cons (.ifs (.not (.tru (.bcall .all (.cons (.lc [2, 3] (.fcall 1 (.cons (.var 3) (.cons (.var 2) (.cons (.bin .Sub (.bcall .len (.cons (.var 0) .nil)) (.int 1)) .nil)))) (.t2 (.nm 2) (.nm 3)) (.enum (.var 0)) .yes) .nil)))) (.cons (.ret (.bl false))
    .nil) .nil)
    (.cons (.ret (.bcall .all (.cons (.lc [2] (.cmp .LtE (.ix (.var 0) (.var 2)) (.ix (.var 0) (.bin .Add (.var 2) (.int 1)))) (.nm 2) (.rng1 (.bin .Sub (.bcall .len (.cons (.var 0) .nil)) (.int 1))) .yes) .nil)))
    .nil))) }
def f_brackets_of : Fd := { name := (Str.ofString "brackets_of"), nparams := 1, mode := .plain, nslots := 4, body :=
    (.cons (.ifs (.not (.tru (.fcall 2 (.cons (.var 0) (.cons (.glob (Str.ofString "MOST_REACH") (.int 30)) .nil))))) (.cons .never
    .nil) .nil)
    (.cons (.asg (.t2 (.nm 2) (.nm 3)) (.tup (.cons (.str (Str.ofString "")) (.cons (.neg (.int 1)) .nil))))
    (.cons (.for (.nm 1) (.seq (.var 0)) (.cons (.aug .Add 2 (.bin .Add (.bin .Mult (.glob (Str.ofString "OPEN") (.str (Str.ofString "("))) (.bin .Sub (.var 1) (.var 3))) (.glob (Str.ofString "CLOSE") (.str (Str.ofString ")")))))
    (.cons (.asg (.nm 3) (.mov 1))
    .nil)))
    (.cons (.ret (.mov 2))
    .nil)))) }
def f_are_brackets : Fd := { name := (Str.ofString "are_brackets"), nparams := 1, mode := .plain, nslots := 3, body :=
    (.cons (.ifs (.or (.not (.tru (.isi (.var 0) [.str]))) (.one (.not (.cmp (.chain .LtE .LtE (.int 2) (.bcall .len (.cons (.var 0) .nil)) (.bin .Mult (.int 2) (.glob (Str.ofString "MOST_REACH") (.int 30)))))))) (.cons (.ret (.bl false))
    .nil) .nil)
    (.cons (.asg (.nm 1) (.int 0))
    (.cons (.for (.nm 2) (.seq (.var 0)) (.cons (.ifs (.cmp (.cmp .NotIn (.var 2) (.tup (.cons (.glob (Str.ofString "OPEN") (.str (Str.ofString "("))) (.cons (.glob (Str.ofString "CLOSE") (.str (Str.ofString ")"))) .nil))))) (.cons (.ret (.bl false))
    .nil) .nil)
    (.cons (.aug .Add 1 (.ite (.cmp (.cmp .Eq (.var 2) (.glob (Str.ofString "OPEN") (.str (Str.ofString "("))))) (.int 1) (.neg (.int 1))))
    (.cons (.ifs (.cmp (.cmp .Lt (.var 1) (.int 0))) (.cons (.ret (.bl false))
    .nil) .nil)
    .nil))))
    (.cons (.ret (.cmp .Eq (.var 1) (.int 0)))
    .nil)))) }
def f_reach_of : Fd := { name := (Str.ofString "reach_of"), nparams := 1, mode := .plain, nslots := 4, body :=
    (.cons (.ifs (.not (.tru (.fcall 4 (.cons (.var 0) .nil)))) (.cons .never
    .nil) .nil)
    (.cons (.par [2, 3] (.cons (.lst .nil) (.cons (.neg (.int 1)) .nil)))
    (.cons (.for (.nm 1) (.seq (.var 0)) (.cons (.ifs (.cmp (.cmp .Eq (.var 1) (.glob (Str.ofString "OPEN") (.str (Str.ofString "("))))) (.cons (.aug .Add 3 (.int 1))
    .nil) (.cons (.expr (.mut .append 2 (.cons (.mov 3) .nil)))
    .nil))
    .nil))
    (.cons (.ret (.bcall .tuple (.cons (.var 2) .nil)))
    .nil)))) }
def f__law_hand : Fd := { name := (Str.ofString "_law_hand"), nparams := 1, mode := .scr, nslots := 3, body :=
    (.cons (.asg (.nm 1) (.lc [2] (.bcall .abs (.cons (.bcall .int (.cons (.var 2) .nil)) .nil)) (.nm 2) (.seq (.sl (.var 0) .none (.some (.int 63)))) .yes))
    (.cons (.ret (.lst (.cons (.mov 1) (.cons (.int 0) (.cons (.int 0) (.cons (.bin .Add (.int 389) (.bin .Mult (.int 317) (.bcall .len (.cons (.var 1) .nil)))) (.cons (.int 0) .nil)))))))
    .nil)) }
def f__law_draw : Fd := { name := (Str.ofString "_law_draw"), nparams := 2, mode := .byr, nslots := 5, body :=
    (.cons (.ifs (.and (.cmp (.cmp .Eq (.ix (.var 0) (.int 2)) (.int 0))) (.one (.cmp (.cmp .Lt (.ix (.var 0) (.int 1)) (.bcall .len (.cons (.ix (.var 0) (.int 0)) .nil)))))) (.cons (.asg (.nm 3) (.ix (.ix (.var 0) (.int 0)) (.ix (.var 0) (.int 1))))
    (.cons (.set 0 (.int 1) (.bin .Add (.ix (.var 0) (.int 1)) (.int 1)))
    (.cons (.set 0 (.int 3) (.bin .Mod (.bcall .int (.cons (.bin .Add (.bin .Add (.bin .Mult (.ix (.var 0) (.int 3)) (.int 69621)) (.var 3)) (.int 353)) .nil)) (.int 2147483629)))
    (.cons (.ifs (.cmp (.cmp .GtE (.var 3) (.bin .Pow (.int 10) (.int 18)))) (.cons (.set 0 (.int 2) (.mov 3))
    .nil) .nil)
    .nil)))) .nil)
    (.cons (.ifs (.cmp (.cmp .Gt (.ix (.var 0) (.int 2)) (.int 0))) (.cons (.asg (.nm 4) (.bin .Mod (.bcall .int (.cons (.ix (.var 0) (.int 2)) .nil)) (.var 1)))
    (.cons (.set 0 (.int 2) (.bin .FloorDiv (.ix (.var 0) (.int 2)) (.var 1)))
    (.cons (.ret (.mov 4))
    .nil))) .nil)
    (.cons (.set 0 (.int 4) (.bin .Add (.ix (.var 0) (.int 4)) (.int 1)))
    (.cons (.asg (.nm 2) (.bin .Mod (.bcall .int (.cons (.bin .Mult (.bcall .int (.cons (.bin .Add (.ix (.var 0) (.int 3)) (.bin .Mult (.int 7919) (.ix (.var 0) (.int 4)))) .nil)) (.int 48271)) .nil)) (.int 2147483647)))
    (.cons (.asg (.nm 2) (.bin .Mod (.bcall .int (.cons (.bin .Mult (.var 2) (.bin .Add (.bin .FloorDiv (.var 2) (.int 1009)) (.int 69621))) .nil)) (.int 2147483647)))
    (.cons (.asg (.nm 2) (.bin .Mod (.bcall .int (.cons (.bin .Mult (.var 2) (.bin .Add (.bin .FloorDiv (.var 2) (.int 2003)) (.int 40692))) .nil)) (.int 2147483399)))
    (.cons (.ret (.bin .Mod (.bcall .int (.cons (.bin .FloorDiv (.var 2) (.int 16)) .nil)) (.var 1)))
    .nil))))))) }
def f__law_any : Fd := { name := (Str.ofString "_law_any"), nparams := 2, mode := .byr, nslots := 2, body :=
    (.cons (.ret (.ix (.var 1) (.fref 7 0 (.cons (.bcall .len (.cons (.var 1) .nil)) .nil))))
    .nil) }
def f__law_is : Fd := { name := (Str.ofString "_law_is"), nparams := 2, mode := .plain, nslots := 4, body :=
    (.cons (.ifs (.tru (.isi (.var 1) [.tuple, .list])) (.cons (.ifs (.or (.cmp (.cmp .NotEq (.isi (.var 0) [.tuple]) (.isi (.var 1) [.tuple]))) (.one (.not (.tru (.isi (.var 0) [.tuple, .list]))))) (.cons (.ret (.bl false))
    .nil) .nil)
    (.cons (.ret (.andV (.cmp .Eq (.bcall .len (.cons (.var 0) .nil)) (.bcall .len (.cons (.var 1) .nil))) (.oneV (.bcall .all (.cons (.lc [2, 3] (.fcall 9 (.cons (.var 2) (.cons (.var 3) .nil))) (.t2 (.nm 2) (.nm 3)) (.zip (.var 0) (.var 1)) .yes) .nil)))))
    .nil)) .nil)
    (.cons (.ifs (.or (.cmp (.cmp .Is (.var 1) .non)) (.one (.tru (.isi (.var 1) [.bool])))) (.cons (.ret (.ite (.cmp (.cmp .Is (.var 1) .non)) (.cmp .Is (.var 0) .non) (.andV (.isi (.var 0) [.bool]) (.oneV (.cmp .Eq (.bcall .repr (.cons (.var 0) .nil)) (.bcall .repr (.cons (.var 1) .nil)))))))
    .nil) .nil)
    (.cons (.ifs (.tru (.isi (.var 1) [.str])) (.cons (.ret (.andV (.isi (.var 0) [.str]) (.oneV (.cmp .Eq (.bcall .repr (.cons (.var 0) .nil)) (.bcall .repr (.cons (.var 1) .nil))))))
    .nil) .nil)
    (.cons (.ret (.andV (.isi (.var 0) [.int]) (.andV (.notV (.isi (.var 0) [.bool])) (.oneV (.cmp .Eq (.bcall .repr (.cons (.var 0) .nil)) (.bcall .repr (.cons (.var 1) .nil)))))))
    .nil)))) }
def f__law_brackets : Fd := { name := (Str.ofString "_law_brackets"), nparams := 1, mode := .plain, nslots := 4, body :=
    (.cons (.asg (.t2 (.nm 2) (.nm 3)) (.tup (.cons (.str (Str.ofString "")) (.cons (.neg (.int 1)) .nil))))
    (.cons (.for (.nm 1) (.seq (.var 0)) (.cons (.asg (.nm 2) (.bin .Add (.bin .Add (.var 2) (.bin .Mult (.str (Str.ofString "(")) (.bin .Sub (.var 1) (.var 3)))) (.str (Str.ofString ")"))))
    (.cons (.asg (.nm 3) (.mov 1))
    .nil)))
    (.cons (.ret (.mov 2))
    .nil))) }
def f__law_long_reach : Fd := { name := (Str.ofString "_law_long_reach"), nparams := 2, mode := .byr, nslots := 6, body :=
    (.cons (.par [3, 4] (.cons (.bin .Add (.int 1) (.fref 7 0 (.cons (.var 1) .nil))) (.cons (.lst .nil) .nil)))
    (.cons (.for (.nm 2) (.rng1 (.var 3)) (.cons (.asg (.nm 5) (.bcall .max (.cons (.bin .Add (.lst (.cons (.mov 2) .nil)) (.var 4)) .nil)))
    (.cons (.expr (.mut .append 4 (.cons (.bcall .min (.cons (.bin .Sub (.var 3) (.int 1)) (.cons (.bin .Add (.var 5) (.fref 8 0 (.cons (.lst (.cons (.int 0) (.cons (.int 0) (.cons (.int 1) (.cons (.fref 7 0 (.cons (.var 3) .nil)) .nil))))) .nil))) .nil))) .nil)))
    .nil)))
    (.cons (.ret (.bcall .tuple (.cons (.var 4) .nil)))
    .nil))) }
def f__law_is_right : Fd := { name := (Str.ofString "_law_is_right"), nparams := 1, mode := .byr, nslots := 12, body :=
    (.cons (.asg (.nm 1) (.fref 11 0 (.cons (.int 30) .nil)))
    (.cons (.asg (.nm 2) (.fcall 3 (.cons (.var 1) .nil)))
    (.cons (.ifs (.or (.not (.tru (.fcall 9 (.cons (.var 2) (.cons (.fcall 10 (.cons (.var 1) .nil)) .nil))))) (.one (.not (.tru (.fcall 9 (.cons (.fcall 5 (.cons (.var 2) .nil)) (.cons (.var 1) .nil))))))) (.cons (.ret (.bl false))
    .nil) .nil)
    (.cons (.asg (.t4 (.nm 5) (.nm 6) (.nm 7) (.nm 8)) (.tup (.cons (.bin .Add (.int 1) (.fref 7 0 (.cons (.int 12) .nil))) (.cons (.str (Str.ofString "")) (.cons (.int 0) (.cons (.int 0) .nil))))))
    (.cons (.for (.nm 3) (.rng1 (.bin .Mult (.int 2) (.var 5))) (.cons (.asg (.nm 9) (.orV (.cmp .Eq (.var 7) (.var 8)) (.oneV (.andV (.cmp .Lt (.var 7) (.var 5)) (.oneV (.cmp .Eq (.fref 7 0 (.cons (.int 2) .nil)) (.int 0)))))))
    (.cons (.asg (.nm 6) (.bin .Add (.var 6) (.ite (.tru (.var 9)) (.str (Str.ofString "(")) (.str (Str.ofString ")")))))
    (.cons (.par [7, 8] (.cons (.bin .Add (.var 7) (.bcall .int (.cons (.var 9) .nil))) (.cons (.bin .Add (.var 8) (.bcall .int (.cons (.notV (.var 9)) .nil))) .nil)))
    .nil))))
    (.cons (.asg (.nm 4) (.fcall 5 (.cons (.var 6) .nil)))
    (.cons (.ifs (.or (.cmp (.cmp .NotEq (.bcall .len (.cons (.var 4) .nil)) (.var 5))) (.one (.cmp (.cmp .NotEq (.bcall .list (.cons (.var 4) .nil)) (.bcall .sorted (.cons (.var 4) .nil)))))) (.cons (.ret (.bl false))
    .nil) .nil)
    (.cons (.ifs (.not (.tru (.bcall .all (.cons (.lc [10, 11] (.chain .LtE .Lt (.var 10) (.var 11) (.var 5)) (.t2 (.nm 10) (.nm 11)) (.enum (.var 4)) .yes) .nil)))) (.cons (.ret (.bl false))
    .nil) .nil)
    (.cons (.ret (.cmp .Eq (.fcall 3 (.cons (.var 4) .nil)) (.var 6)))
    .nil))))))))) }
def f_law : Fd := { name := (Str.ofString "law"), nparams := 1, mode := .scr, nslots := 3, body :=
    (.cons (.asg (.nm 1) (.fscr 6 (.cons (.var 0) .nil)))
    (.cons (.ifs (.or (.cmp (.cmp .NotEq (.fcall 3 (.cons (.tup (.cons (.int 0) (.cons (.int 1) .nil))) .nil)) (.str (Str.ofString "()()")))) (.or (.cmp (.cmp .NotEq (.fcall 3 (.cons (.tup (.cons (.int 1) (.cons (.int 1) .nil))) .nil)) (.str (Str.ofString "(())")))) (.one (.cmp (.cmp .NotEq (.fcall 5 (.cons (.str (Str.ofString "(()())")) .nil)) (.tup (.cons (.int 1) (.cons (.int 2) (.cons (.int 2) .nil))))))))) (.cons (.ret (.bl false))
    .nil) .nil)
    (.cons (.ret (.bcall .all (.cons (.lc [2] (.fref 12 1 .nil) (.nm 2) (.rng1 (.int 10)) .yes) .nil)))
    .nil))) }
def T : List Fd := [f_is_integer, f_is_within, f_is_reach, f_brackets_of, f_are_brackets, f_reach_of, f__law_hand, f__law_draw, f__law_any, f__law_is, f__law_brackets, f__law_long_reach, f__law_is_right, f_law]
end Ir
def handD (cs : List Int) (p c s n : Int) : D := .list [.list (cs.map .int), .int p, .int c, .int s, .int n]
def mixA (s n : Int) : Int := ((s + 7919 * (n + 1)) * 48271).fmod 2147483647
def mixB (a : Int) : Int := (a * (a.fdiv 1009 + 69621)).fmod 2147483647
def mixC (b : Int) : Int := (b * (b.fdiv 2003 + 40692)).fmod 2147483399
def mixD (s n : Int) : Int := (mixC (mixB (mixA s n))).fdiv 16
theorem draw_a (k : Nat) (cs : List Int) (p c s n many : Int) (hc : 0 < c) (hm : 0 < many) (hm2 : many < 1073741824) :
   ∃ r c', run Ir.T (k + 1) 7 (some (handD cs p c s n)) [.int many] = some (.int r, some (handD cs p c' s n)) ∧ 0 ≤ r ∧ r < many := by
  have h0 : ¬ c = 0 := by omega
  have h1 : ¬ many = 0 := by omega
  have h2 : many.natAbs < 1073741824 := by omega
  refine ⟨c.fmod many, c.fdiv many, ?_, fm_b c many hm⟩
  simp [run, Ir.T, Ir.f__law_draw, handD, modeOk, startRo, bindS, bind1, pur, purs, finish, execs, exec, evT, evC, evI, ev, evs, evO, gv, ixD, pixN, cmpop, eqD, ltD, okSt, noScr, effE, effs, effO, effT, effC, effI, tkE, tks, binop, settle, settles, settleA, setL, isOwn, mulOk, mulSm, divOk, powOk, bindV, noByr, bi, truD, hc, h0, h1, h2]
theorem draw_b (k : Nat) (cs : List Int) (p c s n many : Int) (hc : ¬ 0 < c) (hp : c = 0 → ¬ p < cs.length) (hm : 0 < many) (hm2 : many < 1073741824) :
   ∃ r, run Ir.T (k + 1) 7 (some (handD cs p c s n)) [.int many] = some (.int r, some (handD cs p c s (n + 1))) ∧ 0 ≤ r ∧ r < many := by
  have h1 : ¬ many = 0 := by omega
  refine ⟨(mixD s n).fmod many, ?_, fm_b _ many hm⟩
  by_cases h0 : c = 0
  · have hp := hp h0
    subst h0
    simp [run, Ir.T, Ir.f__law_draw, handD, modeOk, startRo, bindS, bind1, pur, purs, finish, execs, exec, evT, evC, evI, ev, evs, evO, gv, ixD, pixN, cmpop, eqD, ltD, okSt, noScr, effE, effs, effO, effT, effC, effI, tkE, tks, binop, settle, settles, settleA, setL, isOwn, mulOk, mulSm, divOk, powOk, bindV, noByr, bi, truD, hp, h1, fm_1, fm_2, fm_3, mixA, mixB, mixC, mixD]
  · simp [run, Ir.T, Ir.f__law_draw, handD, modeOk, startRo, bindS, bind1, pur, purs, finish, execs, exec, evT, evC, evI, ev, evs, evO, gv, ixD, pixN, cmpop, eqD, ltD, okSt, noScr, effE, effs, effO, effT, effC, effI, tkE, tks, binop, settle, settles, settleA, setL, isOwn, mulOk, mulSm, divOk, powOk, bindV, noByr, bi, truD, hc, h0, h1, fm_1, fm_2, fm_3, mixA, mixB, mixC, mixD]
theorem draw_c (k : Nat) (cs : List Int) (p s n many : Int) (h0 : 0 ≤ p) (hp : p < cs.length) (hm : 0 < many) (hm2 : many < 1073741824) :
   ∃ r c' s' n', run Ir.T (k + 1) 7 (some (handD cs p 0 s n)) [.int many] = some (.int r, some (handD cs (p + 1) c' s' n')) ∧ 0 ≤ r ∧ r < many := by
  have h1 : ¬ many = 0 := by omega
  have h2 : many.natAbs < 1073741824 := by omega
  have hl : p.toNat < cs.length := by omega
  obtain ⟨x, hx⟩ : ∃ x, cs[p.toNat] = x := ⟨_, rfl⟩
  by_cases hb : ¬ 1000000000000000000 ≤ x
  · refine ⟨(mixD ((((s * 69621) + x) + 353).fmod 2147483629) n).fmod many, 0, (((s * 69621) + x) + 353).fmod 2147483629, n + 1, ?_, fm_b _ many hm⟩
    simp [run, Ir.T, Ir.f__law_draw, handD, modeOk, startRo, bindS, bind1, pur, purs, finish, execs, exec, evT, evC, evI, ev, evs, evO, gv, ixD, pixN, cmpop, eqD, ltD, okSt, noScr, effE, effs, effO, effT, effC, effI, tkE, tks, binop, settle, settles, settleA, setL, isOwn, mulOk, mulSm, divOk, powOk, bindV, noByr, bi, truD, hx, hb, h0, hp, h1, h2, fm_1, fm_2, fm_3, mixA, mixB, mixC, mixD]
  · have hb : 1000000000000000000 ≤ x := by omega
    have hx0 : 0 < x := by omega
    refine ⟨x.fmod many, x.fdiv many, (((s * 69621) + x) + 353).fmod 2147483629, n, ?_, fm_b _ many hm⟩
    simp [run, Ir.T, Ir.f__law_draw, handD, modeOk, startRo, bindS, bind1, pur, purs, finish, execs, exec, evT, evC, evI, ev, evs, evO, gv, ixD, pixN, cmpop, eqD, ltD, okSt, noScr, effE, effs, effO, effT, effC, effI, tkE, tks, binop, settle, settles, settleA, setL, isOwn, mulOk, mulSm, divOk, powOk, bindV, noByr, bi, truD, hx, hb, hx0, h0, hp, h1, h2, fm_1, fm_2, fm_3, mixA, mixB, mixC, mixD]
def isHand (h : D) : Prop := ∃ cs p c s n, h = handD cs p c s n ∧ 0 ≤ p
theorem hand_pur {h : D} (hh : isHand h) : pur h = false := by
  obtain ⟨cs, p, c, s, n, rfl, _⟩ := hh
  rfl
theorem draw (k : Nat) {h : D} (many : Int) (hh : isHand h) (hm : 0 < many) (hm2 : many < 1073741824) : ∃ r h', run Ir.T (k + 1) 7 (some h) [.int many] = some (.int r, some h') ∧ 0 ≤ r ∧ r < many ∧ isHand h' := by
  obtain ⟨cs, p, c, s, n, rfl, hp⟩ := hh
  by_cases hc : 0 < c
  · obtain ⟨r, c', h1, h2, h3⟩ := draw_a k cs p c s n many hc hm hm2
    exact ⟨r, _, h1, h2, h3, cs, p, c', s, n, rfl, hp⟩
  · by_cases h0 : c = 0 ∧ p < cs.length
    · obtain ⟨rfl, hl⟩ := h0
      obtain ⟨r, c', s', n', h1, h2, h3⟩ := draw_c k cs p s n many hp hl hm hm2
      exact ⟨r, _, h1, h2, h3, cs, p + 1, c', s', n', rfl, by omega⟩
    · obtain ⟨r, h1, h2, h3⟩ := draw_b k cs p c s n many hc (fun e z => h0 ⟨e, z⟩) hm hm2
      exact ⟨r, _, h1, h2, h3, cs, p, c, s, n + 1, rfl, hp⟩
theorem lawHand (k : Nat) (ns : List Int) (hl : ns.length ≤ 63) : ∃ h, run Ir.T (k + 1) 6 none [.list (ns.map .int)] = some (h, none) ∧ isHand h := by
  have hm : (HT.sIx (ns.map PyData.int).length (ns.map PyData.int).length (some 63) - HT.sIx (ns.map PyData.int).length 0 none) = ns.length := by
    simp [HT.sIx]
    omega
  have hz : HT.sIx (ns.map PyData.int).length 0 none = 0 := by simp [HT.sIx]
  refine ⟨handD (ns.map fun i => if i < 0 then -i else i) 0 0 (389 + 317 * ns.length) 0, ?_, _, _, _, _, _, rfl, by decide⟩
  have e1 : evI (run Ir.T k) (.seq (.sl (.var 0) .none (.some (.int 63)))) [.scr (.list (ns.map .int)), .emp, .emp] = some (ns.map .int, [.fresh], [.scr (.list (ns.map .int)), .emp, .emp]) := by
    simp only [evI, ev, evO, gv, slD]
    simp only [List.getElem?_cons_zero, ints_purs, if_true, hm, hz, itemsOf, okSt, effO, effE]
    simp
    rw [List.take_of_length_le]
    have : HT.sIx ns.length ns.length (some 63) = ns.length := by
      simp [HT.sIx]
      omega
    rw [this]
    simp
  have e2 := ev_lc_map (C := run Ir.T k) (own := [2]) (elt := .bcall .abs (.cons (.bcall .int (.cons (.var 2) .nil)) .nil)) (g := .nm 2) (t := .yes) (fun d => match d with
    | .int i => .int (if i < 0 then -i else i)
    | d => d) e1 rfl rfl (fun x m => by
      obtain ⟨i, _, rfl⟩ := List.mem_map.mp m
      exact ⟨_, _, _, _, _, rfl, rfl, rfl, rfl, rfl⟩) (by simp [lim]; omega)
  have e3 : run Ir.T (k + 1) 6 none [.list (ns.map .int)] = finish none (execs (run Ir.T k) Ir.f__law_hand.body [.scr (.list (ns.map .int)), .emp, .emp]) := by
    simp [run, Ir.T, Ir.f__law_hand, modeOk, startRo, bindS, pur]
  rw [e3]
  unfold Ir.f__law_hand
  rw [x_cons (x_asg e2 rfl rfl)]
  simp [modeOk, startRo, bindS, bind1, pur, purs, finish, execs, exec, evT, evC, evI, ev, evs, evO, gv, ixD, pixN, cmpop, eqD, ltD, okSt, noScr, effE, effs, effO, effT, effC, effI, tkE, tks, binop, settle, settles, settleA, setL, isOwn, mulOk, mulSm, divOk, powOk, bindV, noByr, bi, truD, handD, unhide, lim]
end Zr

set_option maxRecDepth 100000
set_option maxHeartbeats 0
namespace Zr
open PySem
/-- a bracket text, as it grows: the text, the last number, the slot of the loop's name -/
structure Br where
  acc : Str
  here : Int
  one : Slot
def sOpen : Str := Str.ofString "("
def sShut : Str := Str.ofString ")"
def brStep (s : Br) : D → Br
  | .int o => ⟨s.acc ++ (repS (o - s.here).toNat sOpen ++ sShut), o, .pur (.int o)⟩
  | _ => s
def brOk (s : Br) (xs : List D) : Prop := ∃ os : List Int, xs = os.map .int ∧ (∀ o ∈ os, 0 ≤ o ∧ o ≤ 30) ∧ -1 ≤ s.here ∧ s.here ≤ 30 ∧ s.acc.length + 40 * os.length ≤ 2000
def brSt (w : D) (s : Br) : Ro := [.pur w, s.one, .pur (.str s.acc), .pur (.int s.here)]
theorem str_len (x y : Str) : (x ++ y).length = x.length + y.length := by
  show (x.cps ++ y.cps).size = _
  exact Array.size_append
theorem rep_len (n : Nat) (z : Str) : (repS n z).length = n * z.length := by
  have big : ∀ (n : Nat) (w : Array Nat), ((List.replicate n z.cps).foldl (· ++ ·) w).size = w.size + n * z.cps.size := by
    intro n
    induction n with
    | zero => intro w; simp
    | succ n ih =>
      intro w
      rw [List.replicate_succ, List.foldl_cons, ih, Array.size_append, Nat.succ_mul]
      omega
  show ((List.replicate n z.cps).foldl (· ++ ·) #[]).size = _
  rw [big]
  simp
  rfl
theorem len_open : sOpen.length = 1 := rfl
theorem len_shut : sShut.length = 1 := rfl
def brBody : ISs := (.cons (.aug .Add 2 (.bin .Add (.bin .Mult (.glob (Str.ofString "OPEN") (.str (Str.ofString "("))) (.bin .Sub (.var 1) (.var 3))) (.glob (Str.ofString "CLOSE") (.str (Str.ofString ")")))))
    (.cons (.asg (.nm 3) (.mov 1))
    .nil))
theorem br_turn (C : CallF) (w : D) (s : Br) (nb : ∀ d, s.one ≠ .byr d) (x : D) (r : List D) (ok : brOk s (x :: r)) : (bindV (.nm 1) x .froz (brSt w s)).bind (execs C brBody) = some (.nx (brSt w (brStep s x))) ∧ brOk (brStep s x) r := by
  obtain ⟨os, e, h1, h2, h3, h4⟩ := ok
  cases os with
  | nil => cases e
  | cons o os =>
    cases e
    obtain ⟨a1, a2⟩ := h1 o List.mem_cons_self
    simp at h4
    have hz : (repS (o - s.here).toNat sOpen ++ sShut).length ≤ 40 := by
      rw [str_len, rep_len, len_open, len_shut]
      omega
    refine ⟨?_, os, rfl, fun y m => h1 y (List.mem_cons_of_mem _ m), by simp only [brStep]; omega, by simp only [brStep]; omega, ?_⟩
    · have c1 : (Str.ofString "(").length = 1 := rfl
      have c2 : (Str.ofString ")").length = 1 := rfl
      have d1 : (o - s.here).toNat ≤ lim := by simp [lim]; omega
      have d2 : -(lim : Int) < o - s.here := by simp [lim]; omega
      have d3 : o - s.here < (lim : Int) := by simp [lim]; omega
      have d4 : (repS (o - s.here).toNat (Str.ofString "(")).length + 1 ≤ lim := by
        rw [rep_len, c1]
        simp [lim]
        omega
      have d5 : s.acc.length + (repS (o - s.here).toNat (Str.ofString "(") ++ Str.ofString ")").length ≤ lim := by
        have : (repS (o - s.here).toNat (Str.ofString "(") ++ Str.ofString ")").length ≤ 40 := hz
        simp [lim]
        omega
      have nb' : noByr (brSt w s) 1 = true := by
        unfold noByr brSt
        cases hh : s.one with
        | byr d => exact absurd hh (nb d)
        | _ => rfl
      have e0 : bindV (.nm 1) (.int o) .froz (brSt w s) = some [.pur w, .pur (.int o), .pur (.str s.acc), .pur (.int s.here)] := by
        simp only [bindV]
        rw [if_pos nb']
        rfl
      rw [e0]
      simp [brBody, execs, exec, ev, gv, okSt, effE, noScr, binop, c1, c2, d1, d2, d3, d4, d5, augD, deq, brSt, brStep, sOpen, sShut, settleA, settle, bindV, noByr, pur]
    · simp only [brStep]
      rw [str_len]
      omega
def brAll (rs : List Int) : Br := (rs.map PyData.int).foldl brStep ⟨Str.ofString "", -1, .emp⟩
def brText (rs : List Int) : Str := (brAll rs).acc
def small (rs : List Int) : Prop := rs.length ≤ 30 ∧ ∀ o ∈ rs, 0 ≤ o ∧ o ≤ 30
theorem br_loop (C : CallF) (w : D) (rs : List Int) (h : small rs) {turn : D → Ro → Option Out} (ht : ∀ x ρ, turn x ρ = (bindV (.nm 1) x .froz ρ).bind (execs C brBody)) : forGo turn (rs.map .int) (brSt w ⟨Str.ofString "", -1, .emp⟩) = some (.nx (brSt w (brAll rs))) := by
  refine forGo_fold (brSt w) brStep (fun s xs => brOk s xs ∧ ∀ d, s.one ≠ .byr d) (fun s x r ok => ?_) (rs.map .int) ⟨Str.ofString "", -1, .emp⟩ ⟨⟨rs, rfl, h.2, by decide, by decide, ?_⟩, fun d z => nomatch z⟩
  · obtain ⟨h1, h2⟩ := br_turn C w s ok.2 x r ok.1
    rw [ht]
    refine ⟨h1, h2, fun d => ?_⟩
    cases x with
    | int o => exact fun z => nomatch z
    | _ => exact ok.2 d
  · have := h.1
    show (Str.ofString "").length + 40 * rs.length ≤ 2000
    have e : (Str.ofString "").length = 0 := rfl
    omega
theorem brackets_of_ok (k : Nat) (rs : List Int) (h : small rs) (ok : run Ir.T k 2 none [.tuple (rs.map .int), .int 30] = some (.bool true, none)) : run Ir.T (k + 1) 3 none [.tuple (rs.map .int)] = some (.str (brText rs), none) := by
  rw [run_at (T := Ir.T) (k := k) (d := Ir.f_brackets_of) rfl ⟨rfl, rfl, by decide⟩]
  have pt : pur (.tuple (rs.map .int)) = true := by simp only [pur]; exact ints_purs rs
  have e0 : startRo Ir.f_brackets_of none [.tuple (rs.map .int)] = [.pur (.tuple (rs.map .int)), .emp, .emp, .emp] := by
    simp [startRo, Ir.f_brackets_of, bindS, bind1, pt]
  rw [e0]
  generalize run Ir.T k = C at ok
  have e1 : evI C (.seq (.var 0)) (brSt (.tuple (rs.map .int)) ⟨Str.ofString "", -1, .emp⟩) = some (rs.map .int, [.fresh], brSt (.tuple (rs.map .int)) ⟨Str.ofString "", -1, .emp⟩) := by
    simp [evI, ev, gv, brSt, itemsOf]
  have e2 := (x_for (C := C) (g := .nm 1) (b := brBody) (turn := fun x ρ => (bindV (.nm 1) x .froz ρ).bind (execs C brBody)) e1 rfl fun _ _ => rfl).trans (br_loop C _ rs h fun _ _ => rfl)
  have e3 : execs C Ir.f_brackets_of.body [.pur (.tuple (rs.map .int)), .emp, .emp, .emp] = execs C (.cons (.for (.nm 1) (.seq (.var 0)) brBody) (.cons (.ret (.mov 2)) .nil)) (brSt (.tuple (rs.map .int)) ⟨Str.ofString "", -1, .emp⟩) := by
    unfold Ir.f_brackets_of
    rw [x_cons (ρ1 := [.pur (.tuple (rs.map .int)), .emp, .emp, .emp]) (by simp [exec, evT, ev, evs, gv, okSt, effs, noScr, pur, ok, truD, execs]), x_cons (ρ1 := brSt (.tuple (rs.map .int)) ⟨Str.ofString "", -1, .emp⟩) (by simp [exec, ev, evs, okSt, effs, settles, settle, lim, settleA, bindV, noByr, pur, brSt])]
    rfl
  rw [e3, x_cons e2]
  simp [execs, exec, ev, gv, brSt, settle, finish, brText]
end Zr

set_option maxRecDepth 100000
set_option maxHeartbeats 0
namespace Zr
open PySem
theorem is_integer_ok (k : Nat) (i : Int) : run Ir.T (k + 1) 0 none [.int i] = some (.bool true, none) := by
  rw [run_at (T := Ir.T) (k := k) (d := Ir.f_is_integer) rfl ⟨rfl, rfl, by decide⟩]
  generalize run Ir.T k = C
  simp [Ir.f_is_integer, startRo, bindS, bind1, pur, execs, exec, ev, gv, tyD, truD, settle, finish]
theorem is_within_ok (k : Nat) (i a b : Int) : run Ir.T (k + 2) 1 none [.int i, .int a, .int b] = some (.bool (decide (a ≤ i) && decide (i ≤ b)), none) := by
  rw [run_at (T := Ir.T) (k := k + 1) (d := Ir.f_is_within) rfl ⟨rfl, rfl, by decide⟩]
  have h := is_integer_ok k i
  generalize run Ir.T (k + 1) = C at h
  by_cases c1 : i < a
  · have c3 : ¬ a ≤ i := by omega
    simp [Ir.f_is_within, startRo, bindS, bind1, pur, execs, exec, ev, evs, okSt, effE, effs, noScr, gv, h, truD, cmpop, ltD, settle, finish, c1, c3]
  · have c3 : a ≤ i := by omega
    by_cases c2 : b < i
    · have c4 : ¬ i ≤ b := by omega
      simp [Ir.f_is_within, startRo, bindS, bind1, pur, execs, exec, ev, evs, okSt, effE, effs, noScr, gv, h, truD, cmpop, ltD, settle, finish, c1, c2, c3, c4]
    · have c4 : i ≤ b := by omega
      simp [Ir.f_is_within, startRo, bindS, bind1, pur, execs, exec, ev, evs, okSt, effE, effs, noScr, gv, h, truD, cmpop, ltD, settle, finish, c1, c2, c3, c4]
end Zr

set_option maxRecDepth 100000
set_option maxHeartbeats 0
namespace Zr
open PySem
structure Reach (rs : List Int) : Prop where
  one : 1 ≤ rs.length
  few : rs.length ≤ 30
  at_ : ∀ (i : Nat) (o : Int), rs[i]? = some o → (i : Int) ≤ o ∧ o ≤ rs.length - 1
  up : ∀ (i : Nat) (o o' : Int), rs[i]? = some o → rs[i + 1]? = some o' → o ≤ o'
theorem Reach.small {rs : List Int} (h : Reach rs) : small rs := ⟨h.few, fun o m => by
  obtain ⟨i, hi⟩ := List.mem_iff_getElem?.mp m
  have := h.at_ i o hi
  have := h.few
  omega⟩
theorem all_true (xs : List D) : bi .all [.list (xs.map fun _ => PyData.bool true)] = some (.bool true) := by
  have e : ∀ xs : List D, toBls (xs.map fun _ => PyData.bool true) = some (xs.map fun _ => true) := by
    intro xs
    induction xs with
    | nil => rfl
    | cons x xs ih => simp [toBls, ih]
  simp only [bi, e, Option.map_some]
  congr 2
  simp
theorem enum_mem {x : D} : ∀ {rs : List Int} {k : Nat}, x ∈ enumD k (rs.map .int) → ∃ (i : Nat) (o : Int), x = .tuple [.int ((k + i : Nat) : Int), .int o] ∧ rs[i]? = some o
  | [], k, m => by simp [enumD] at m
  | r :: rs, k, m => by
    simp only [List.map_cons, enumD, List.mem_cons] at m
    rcases m with m | m
    · exact ⟨0, r, by rw [m]; rfl, rfl⟩
    · obtain ⟨i, o, e, h⟩ := enum_mem m
      exact ⟨i + 1, o, by rw [e]; congr 4; omega, by simpa using h⟩
theorem enum_len : ∀ {rs : List Int} {k : Nat}, (enumD k (rs.map .int)).length = rs.length
  | [], _ => rfl
  | r :: rs, k => by simp [enumD, enum_len]
theorem ix_ints {rs : List Int} {i : Nat} {o : Int} {j : Int} (h : rs[i]? = some o) (e : j = (i : Int)) : ixD (.tuple (rs.map .int)) (.int j) = some (.int o) := by
  subst e
  have lt : i < rs.length := (List.getElem?_eq_some_iff.mp h).1
  have a1 : (0 : Int) ≤ (i : Int) := by omega
  have a2 : (i : Int) < ((rs.map PyData.int).length : Int) := by simp; omega
  simp only [ixD, pixN, if_pos a1, if_pos a2, Int.toNat_natCast, List.getElem?_map, h]
  rfl
theorem is_reach_ok (k : Nat) (rs : List Int) (h : Reach rs) : run Ir.T (k + 3) 2 none [.tuple (rs.map .int), .int 30] = some (.bool true, none) := by
  rw [run_at (T := Ir.T) (k := k + 2) (d := Ir.f_is_reach) rfl ⟨rfl, rfl, by decide⟩]
  have hw := fun i a b => is_within_ok k i a b
  generalize run Ir.T (k + 2) = C at hw
  have pt : pur (.tuple (rs.map .int)) = true := by simp only [pur]; exact ints_purs rs
  have l1 := h.one
  have l2 := h.few
  have e0 : startRo Ir.f_is_reach none [.tuple (rs.map .int), .int 30] = [.pur (.tuple (rs.map .int)), .pur (.int 30), .emp, .emp] := by
    simp [startRo, Ir.f_is_reach, bindS, bind1, pt]
    rfl
  rw [e0]
  generalize hρ : ([.pur (.tuple (rs.map .int)), .pur (.int 30), .emp, .emp] : Ro) = ρ
  have ei : evI C (.enum (.var 0)) ρ = some (enumD 0 (rs.map .int), [.fresh], ρ) := by
    subst hρ
    simp [evI, ev, gv]
  have m1 := ev_lc_map (C := C) (own := [2, 3]) (elt := .fcall 1 (.cons (.var 3) (.cons (.var 2) (.cons (.bin .Sub (.bcall .len (.cons (.var 0) .nil)) (.int 1)) .nil)))) (g := .t2 (.nm 2) (.nm 3)) (t := .yes) (ρ2 := ρ) (fun _ => PyData.bool true) ei (by subst hρ; rfl) rfl (fun x m => by
    obtain ⟨i, o, rfl, ho⟩ := enum_mem m
    obtain ⟨b1, b2⟩ := h.at_ i o ho
    refine ⟨[.pur (.tuple (rs.map .int)), .pur (.int 30), .pur (.int ((0 + i : Nat) : Int)), .pur (.int o)], [.pur (.tuple (rs.map .int)), .pur (.int 30), .pur (.int ((0 + i : Nat) : Int)), .pur (.int o)], .fresh, [.pur (.tuple (rs.map .int)), .pur (.int 30), .pur (.int ((0 + i : Nat) : Int)), .pur (.int o)], [.pur (.tuple (rs.map .int)), .pur (.int 30), .pur (.int ((0 + i : Nat) : Int)), .pur (.int o)], ?_, rfl, ?_, rfl, ?_⟩
    · subst hρ
      simp [bindV, noByr, pur]
    · have c1 : (i : Int) ≤ o := b1
      have c2 : o ≤ (rs.length : Int) - 1 := b2
      simp [ev, evs, gv, okSt, effE, effs, noScr, bi, binop, hw, c1, c2]
    · subst hρ
      simp [hide]) (by rw [enum_len]; simp [lim]; omega)
  have er : evI C (.rng1 (.bin .Sub (.bcall .len (.cons (.var 0) .nil)) (.int 1))) ρ = some (rangeD 0 ((rs.length : Int) - 1).toNat, [], ρ) := by
    subst hρ
    have c1 : (rs.length : Int) - 1 < (lim : Int) := by simp [lim]; omega
    have c2 : -(lim : Int) < (rs.length : Int) - 1 := by simp [lim]; omega
    simp [evI, ev, evs, gv, okSt, effE, effs, noScr, bi, binop, c1, c2]
  have m2 := ev_lc_map (C := C) (own := [2]) (elt := .cmp .LtE (.ix (.var 0) (.var 2)) (.ix (.var 0) (.bin .Add (.var 2) (.int 1)))) (g := .nm 2) (t := .yes) (ρ2 := ρ) (fun _ => PyData.bool true) er (by subst hρ; rfl) rfl (fun x m => by
    simp only [rangeD, List.mem_map, List.mem_range] at m
    obtain ⟨i, hi, rfl⟩ := m
    have h1 : i < rs.length := by omega
    have h2 : i + 1 < rs.length := by omega
    have g1 := List.getElem?_eq_getElem h1
    have g2 := List.getElem?_eq_getElem h2
    have up := h.up i _ _ g1 g2
    have x1 := ix_ints (j := 0 + (i : Int)) g1 (by omega)
    have x2 := ix_ints (j := 0 + (i : Int) + 1) g2 (by omega)
    have nl : ¬ rs[i + 1] < rs[i] := by omega
    refine ⟨[.pur (.tuple (rs.map .int)), .pur (.int 30), .pur (.int (0 + (i : Int))), .emp], [.pur (.tuple (rs.map .int)), .pur (.int 30), .pur (.int (0 + (i : Int))), .emp], .fresh, [.pur (.tuple (rs.map .int)), .pur (.int 30), .pur (.int (0 + (i : Int))), .emp], [.pur (.tuple (rs.map .int)), .pur (.int 30), .pur (.int (0 + (i : Int))), .emp], ?_, rfl, ?_, rfl, ?_⟩
    · subst hρ
      simp [bindV, noByr, pur]
    · have y1 := ix_ints (j := (i : Int)) g1 rfl
      have y2 := ix_ints (j := (i : Int) + 1) g2 (by omega)
      simp [ev, gv, okSt, effE, noScr, pur, binop, cmpop, ltD, y1, y2, nl]
    · subst hρ
      simp [hide]) (by simp [rangeD, lim]; omega)
  have u1 : unhide ρ ρ [2, 3] = ρ := by subst hρ; rfl
  have u2 : unhide ρ ρ [2] = ρ := by subst hρ; rfl
  rw [u1] at m1
  rw [u2] at m2
  have s1 : exec C (.ifs (.or (.not (.tru (.isi (.var 0) [.tuple]))) (.one (.not (.cmp (.chain .LtE .LtE (.int 1) (.bcall .len (.cons (.var 0) .nil)) (.var 1)))))) (.cons (.ret (.bl false)) .nil) .nil) ρ = some (.nx ρ) := by
    subst hρ
    have c1 : ¬ (rs.length : Int) < 1 := by omega
    have c2 : ¬ (30 : Int) < rs.length := by omega
    simp [exec, evT, ev, evs, gv, okSt, effE, effs, noScr, bi, tyD, truD, cmpop, ltD, execs, pur, c1, c2]
  have s2 : exec C (.ifs (.not (.tru (.bcall .all (.cons (.lc [2, 3] (.fcall 1 (.cons (.var 3) (.cons (.var 2) (.cons (.bin .Sub (.bcall .len (.cons (.var 0) .nil)) (.int 1)) .nil)))) (.t2 (.nm 2) (.nm 3)) (.enum (.var 0)) .yes) .nil)))) (.cons (.ret (.bl false)) .nil) .nil) ρ = some (.nx ρ) := by
    rw [x_ifs (evT_not (evT_tru (ev_bi1 m1 (all_true _)) rfl))]
    rfl
  have s3 : exec C (.ret (.bcall .all (.cons (.lc [2] (.cmp .LtE (.ix (.var 0) (.var 2)) (.ix (.var 0) (.bin .Add (.var 2) (.int 1)))) (.nm 2) (.rng1 (.bin .Sub (.bcall .len (.cons (.var 0) .nil)) (.int 1))) .yes) .nil))) ρ = some (.rt (.bool true) ρ) := x_ret (ev_bi1 m2 (all_true _)) rfl
  unfold Ir.f_is_reach
  rw [x_cons s1, x_cons s2, x_last s3]
  rfl
end Zr

set_option maxRecDepth 100000
set_option maxHeartbeats 0
namespace Zr
open PySem
def abBody : ISs := (.cons (.ifs (.cmp (.cmp .NotIn (.var 2) (.tup (.cons (.glob (Str.ofString "OPEN") (.str (Str.ofString "("))) (.cons (.glob (Str.ofString "CLOSE") (.str (Str.ofString ")"))) .nil))))) (.cons (.ret (.bl false)) .nil) .nil)
    (.cons (.aug .Add 1 (.ite (.cmp (.cmp .Eq (.var 2) (.glob (Str.ofString "OPEN") (.str (Str.ofString "("))))) (.int 1) (.neg (.int 1))))
    (.cons (.ifs (.cmp (.cmp .Lt (.var 1) (.int 0))) (.cons (.ret (.bl false)) .nil) .nil)
    .nil)))
theorem in1 : cmpop .NotIn (.str sOpen) (.tuple [.str sOpen, .str sShut]) = some false := by decide +kernel
theorem in2 : cmpop .NotIn (.str sShut) (.tuple [.str sOpen, .str sShut]) = some false := by decide +kernel
theorem eq1 : cmpop .Eq (.str sOpen) (.str sOpen) = some true := by decide +kernel
theorem eq2 : cmpop .Eq (.str sShut) (.str sOpen) = some false := by decide +kernel
def sg (b : Bool) : D := .str (if b then sOpen else sShut)
theorem ab_turn (C : CallF) (w : D) (lv : Int) (one : Slot) (nb : ∀ d, one ≠ .byr d) (b : Bool) (h : 0 ≤ lv + (if b then 1 else -1)) : (bindV (.nm 2) (sg b) .froz [.pur w, .pur (.int lv), one]).bind (execs C abBody) = some (.nx [.pur w, .pur (.int (lv + (if b then 1 else -1))), .pur (sg b)]) := by
  have nb' : noByr [.pur w, .pur (.int lv), one] 2 = true := by
    unfold noByr
    cases one with
    | byr d => exact absurd rfl (nb d)
    | _ => rfl
  have e0 : bindV (.nm 2) (sg b) .froz [.pur w, .pur (.int lv), one] = some [.pur w, .pur (.int lv), .pur (sg b)] := by
    simp only [bindV]
    rw [if_pos nb']
    rfl
  rw [e0]
  have so : Str.ofString "(" = sOpen := rfl
  have ss : Str.ofString ")" = sShut := rfl
  cases b with
  | true =>
    have h2 : ¬ lv + 1 < 0 := by simpa using h
    have lt : cmpop .Lt (.int (lv + 1)) (.int 0) = some false := by simp [cmpop, ltD, h2]
    simp [abBody, execs, exec, evT, ev, evs, gv, okSt, effE, effs, noScr, settles, settle, lim, sg, so, ss, in1, eq1, augD, augop, deq, pur, lt]
  | false =>
    have h2 : ¬ lv + -1 < 0 := by simpa using h
    have lt : cmpop .Lt (.int (lv + -1)) (.int 0) = some false := by simp [cmpop, ltD, h2]
    simp [abBody, execs, exec, evT, ev, evs, gv, okSt, effE, effs, noScr, settles, settle, lim, sg, so, ss, in2, eq2, augD, augop, deq, pur, lt]
def bal : Int → List Bool → Prop
  | lv, [] => lv = 0
  | lv, b :: r => 0 ≤ lv + (if b then 1 else -1) ∧ bal (lv + (if b then 1 else -1)) r
theorem ab_loop (C : CallF) (w : D) {turn : D → Ro → Option Out} (ht : ∀ x ρ, turn x ρ = (bindV (.nm 2) x .froz ρ).bind (execs C abBody)) : ∀ (bs : List Bool) (lv : Int) (one : Slot), (∀ d, one ≠ .byr d) → bal lv bs → ∃ one', forGo turn (bs.map sg) [.pur w, .pur (.int lv), one] = some (.nx [.pur w, .pur (.int 0), one'])
  | [], lv, one, _, h => by
    have h : lv = 0 := h
    subst h
    exact ⟨one, rfl⟩
  | b :: r, lv, one, nb, h => by
    obtain ⟨one', e⟩ := ab_loop C w ht r _ (.pur (sg b)) (fun d z => nomatch z) h.2
    refine ⟨one', ?_⟩
    simp only [List.map_cons, forGo, ht, ab_turn C w lv one nb b h.1]
    exact e
def txt (bs : List Bool) : Str := ⟨(bs.map fun b => if b then 40 else 41).toArray⟩
theorem txt_items (bs : List Bool) : itemsOf (.str (txt bs)) = some (bs.map sg) := by
  simp only [itemsOf, txt, List.map_map]
  congr 1
  apply List.map_congr_left
  intro b _
  cases b <;> rfl
theorem txt_len (bs : List Bool) : (txt bs).length = bs.length := by
  show (bs.map fun b => if b then 40 else 41).toArray.size = _
  simp
theorem are_brackets_ok (k : Nat) (bs : List Bool) (h1 : 2 ≤ bs.length) (h2 : bs.length ≤ 60) (hb : bal 0 bs) : run Ir.T (k + 1) 4 none [.str (txt bs)] = some (.bool true, none) := by
  rw [run_at (T := Ir.T) (k := k) (d := Ir.f_are_brackets) rfl ⟨rfl, rfl, by decide⟩]
  generalize run Ir.T k = C
  have e0 : startRo Ir.f_are_brackets none [.str (txt bs)] = [.pur (.str (txt bs)), .emp, .emp] := by
    simp [startRo, Ir.f_are_brackets, bindS, bind1, pur]
  rw [e0]
  obtain ⟨one', e1⟩ := ab_loop C (.str (txt bs)) (turn := fun x ρ => (bindV (.nm 2) x .froz ρ).bind (execs C abBody)) (fun _ _ => rfl) bs 0 .emp (fun d z => nomatch z) hb
  have e2 : evI C (.seq (.var 0)) [.pur (.str (txt bs)), .pur (.int 0), .emp] = some (bs.map sg, [.fresh], [.pur (.str (txt bs)), .pur (.int 0), .emp]) := by
    simp [evI, ev, gv, txt_items]
  have e3 := (x_for (C := C) (g := .nm 2) (b := abBody) (turn := fun x ρ => (bindV (.nm 2) x .froz ρ).bind (execs C abBody)) e2 rfl fun _ _ => rfl).trans e1
  have l0 : bs.length ≤ lim := by simp [lim]; omega
  have c1 : ¬ (bs.length : Int) < 2 := by omega
  have c2 : ¬ (60 : Int) < bs.length := by omega
  have e4 : execs C Ir.f_are_brackets.body [.pur (.str (txt bs)), .emp, .emp] = execs C (.cons (.for (.nm 2) (.seq (.var 0)) abBody) (.cons (.ret (.cmp .Eq (.var 1) (.int 0))) .nil)) [.pur (.str (txt bs)), .pur (.int 0), .emp] := by
    unfold Ir.f_are_brackets
    rw [x_cons (ρ1 := [.pur (.str (txt bs)), .emp, .emp]) (by simp [exec, evT, ev, evs, gv, okSt, effE, effs, noScr, bi, binop, mulOk, mulSm, tyD, truD, cmpop, ltD, execs, pur, l0, txt_len, c1, c2]), x_cons (ρ1 := [.pur (.str (txt bs)), .pur (.int 0), .emp]) (by simp [exec, ev, settleA, settle, bindV, noByr, pur])]
    rfl
  rw [e4, x_cons e3]
  simp [execs, exec, ev, gv, okSt, effE, noScr, cmpop, eqD, settle, finish]
end Zr

set_option maxRecDepth 100000
set_option maxHeartbeats 0
namespace Zr
open PySem
def rcBody : ISs := (.cons (.ifs (.cmp (.cmp .Eq (.var 1) (.glob (Str.ofString "OPEN") (.str (Str.ofString "("))))) (.cons (.aug .Add 3 (.int 1)) .nil) (.cons (.expr (.mut .append 2 (.cons (.mov 3) .nil))) .nil)) .nil)
def rcSt (w : D) (one : Slot) (fs : List Int) (here : Int) : Ro := [.pur w, one, .own (.list (fs.map .int)), .pur (.int here)]
theorem rc_turn (C : CallF) (w : D) (one : Slot) (fs : List Int) (here : Int) (nb : ∀ d, one ≠ .byr d) (hl : fs.length < 1000) (b : Bool) :
    (bindV (.nm 1) (sg b) .froz (rcSt w one fs here)).bind (execs C rcBody) = some (.nx (if b then rcSt w (.pur (sg b)) fs (here + 1) else rcSt w (.pur (sg b)) (fs ++ [here]) here)) := by
  have nb' : noByr (rcSt w one fs here) 1 = true := by
    unfold noByr rcSt
    cases one with
    | byr d => exact absurd rfl (nb d)
    | _ => rfl
  have e0 : bindV (.nm 1) (sg b) .froz (rcSt w one fs here) = some (rcSt w (.pur (sg b)) fs here) := by
    simp only [bindV]
    rw [if_pos nb']
    rfl
  rw [e0]
  have so : Str.ofString "(" = sOpen := rfl
  have l : fs.length < lim := by simp [lim]; omega
  cases b with
  | true => simp [rcBody, rcSt, execs, exec, evT, ev, evs, gv, okSt, effE, effs, noScr, sg, so, eq1, augD, augop, deq, pur]
  | false => simp [rcBody, rcSt, execs, exec, evT, ev, evs, gv, okSt, effE, effs, tks, tkE, noScr, isLst, settles, settle, mu, l, sg, so, eq2, pur]
/-- what reach_of reads of signs -/
def reads : List Bool → Int → List Int
  | [], _ => []
  | true :: r, h => reads r (h + 1)
  | false :: r, h => h :: reads r h
theorem rc_loop (C : CallF) (w : D) {turn : D → Ro → Option Out} (ht : ∀ x ρ, turn x ρ = (bindV (.nm 1) x .froz ρ).bind (execs C rcBody)) : ∀ (bs : List Bool) (one : Slot) (fs : List Int) (here : Int), (∀ d, one ≠ .byr d) → fs.length + bs.length < 1000 → ∃ one' h', forGo turn (bs.map sg) (rcSt w one fs here) = some (.nx (rcSt w one' (fs ++ reads bs here) h'))
  | [], one, fs, here, _, _ => ⟨one, here, by simp [reads, forGo]⟩
  | b :: r, one, fs, here, nb, hl => by
    simp at hl
    cases b with
    | true =>
      obtain ⟨one', h', e⟩ := rc_loop C w ht r (.pur (sg true)) fs (here + 1) (fun d z => nomatch z) (by omega)
      refine ⟨one', h', ?_⟩
      simp only [List.map_cons, forGo, ht, rc_turn C w one fs here nb (by omega) true, if_true, reads]
      exact e
    | false =>
      obtain ⟨one', h', e⟩ := rc_loop C w ht r (.pur (sg false)) (fs ++ [here]) here (fun d z => nomatch z) (by simp; omega)
      refine ⟨one', h', ?_⟩
      have e2 := rc_turn C w one fs here nb (by omega) false
      rw [if_neg (by decide)] at e2
      simp only [List.map_cons, forGo, ht, e2, reads]
      rw [List.append_assoc] at e
      exact e
end Zr

set_option maxRecDepth 100000
set_option maxHeartbeats 0
namespace Zr
open PySem
theorem reach_of_ok (k : Nat) (bs : List Bool) (h1 : 2 ≤ bs.length) (h2 : bs.length ≤ 60) (hb : bal 0 bs) : run Ir.T (k + 2) 5 none [.str (txt bs)] = some (.tuple ((reads bs (-1)).map .int), none) := by
  rw [run_at (T := Ir.T) (k := k + 1) (d := Ir.f_reach_of) rfl ⟨rfl, rfl, by decide⟩]
  have ab := are_brackets_ok k bs h1 h2 hb
  generalize run Ir.T (k + 1) = C at ab
  have e0 : startRo Ir.f_reach_of none [.str (txt bs)] = [.pur (.str (txt bs)), .emp, .emp, .emp] := by
    simp [startRo, Ir.f_reach_of, bindS, bind1, pur]
  rw [e0]
  obtain ⟨one', h', e1⟩ := rc_loop C (.str (txt bs)) (turn := fun x ρ => (bindV (.nm 1) x .froz ρ).bind (execs C rcBody)) (fun _ _ => rfl) bs .emp [] (-1) (fun d z => nomatch z) (by simp; omega)
  have e2 : evI C (.seq (.var 0)) (rcSt (.str (txt bs)) .emp [] (-1)) = some (bs.map sg, [.fresh], rcSt (.str (txt bs)) .emp [] (-1)) := by
    simp [evI, ev, gv, txt_items, rcSt]
  have e3 := (x_for (C := C) (g := .nm 1) (b := rcBody) (turn := fun x ρ => (bindV (.nm 1) x .froz ρ).bind (execs C rcBody)) e2 rfl fun _ _ => rfl).trans e1
  have e4 : execs C Ir.f_reach_of.body [.pur (.str (txt bs)), .emp, .emp, .emp] = execs C (.cons (.for (.nm 1) (.seq (.var 0)) rcBody) (.cons (.ret (.bcall .tuple (.cons (.var 2) .nil))) .nil)) (rcSt (.str (txt bs)) .emp [] (-1)) := by
    unfold Ir.f_reach_of
    rw [x_cons (ρ1 := [.pur (.str (txt bs)), .emp, .emp, .emp]) (by simp [exec, evT, ev, evs, gv, okSt, effE, effs, noScr, pur, ab, truD, execs]), x_cons (ρ1 := rcSt (.str (txt bs)) .emp [] (-1)) (by simp [exec, ev, evs, okSt, effE, effs, settles, settle, lim, bindNs, bindV, noByr, pur, rcSt])]
    rfl
  have pu := ints_purs (reads bs (-1))
  rw [e4, x_cons e3]
  simp [execs, exec, ev, evs, gv, okSt, effs, rcSt, bi, pu, settle, finish]
end Zr

set_option maxRecDepth 100000
set_option maxHeartbeats 0
namespace Zr
open PySem
theorem str_ext {a b : Str} (h : a.cps = b.cps) : a = b := by
  cases a
  cases b
  simp at h
  rw [h]
theorem cps_app (x y : Str) : (x ++ y).cps = x.cps ++ y.cps := rfl
theorem txt_app (a b : List Bool) : txt (a ++ b) = txt a ++ txt b := by
  apply str_ext
  rw [cps_app]
  simp [txt]
theorem str_assoc (x y z : Str) : x ++ y ++ z = x ++ (y ++ z) := by
  apply str_ext
  simp [cps_app, Array.append_assoc]
theorem str_nil (x : Str) : x ++ txt [] = x := by
  apply str_ext
  rw [cps_app]
  simp [txt]
theorem rep_txt (n : Nat) : repS n sOpen = txt (List.replicate n true) := by
  have go : ∀ (n : Nat) (w : Array Nat), (List.replicate n sOpen.cps).foldl (· ++ ·) w = w ++ ((List.replicate n true).map fun b => if b then 40 else 41).toArray := by
    intro n
    induction n with
    | zero => intro w; simp
    | succ n ih =>
      intro w
      rw [List.replicate_succ, List.foldl_cons, ih]
      have e : sOpen.cps = #[40] := rfl
      rw [e, Array.append_assoc]
      congr 1
      simp [List.replicate_succ]
  apply str_ext
  show (List.replicate n sOpen.cps).foldl (· ++ ·) #[] = _
  rw [go]
  simp [txt]
def word : List Int → Int → List Bool
  | [], _ => []
  | o :: r, h => List.replicate (o - h).toNat true ++ (false :: word r o)
theorem br_word : ∀ (rs : List Int) (s : Br), ((rs.map PyData.int).foldl brStep s).acc = s.acc ++ txt (word rs s.here)
  | [], s => (str_nil s.acc).symm
  | o :: r, s => by
    rw [List.map_cons, List.foldl_cons, br_word r]
    simp only [brStep, word]
    rw [rep_txt, txt_app]
    have e : sShut = txt [false] := rfl
    have e2 : txt (false :: word r o) = txt [false] ++ txt (word r o) := txt_app [false] (word r o)
    rw [e, e2]
    simp only [str_assoc]
theorem reads_rep (n : Nat) (r : List Bool) (h : Int) : reads (List.replicate n true ++ r) h = reads r (h + n) := by
  induction n generalizing h with
  | zero => simp
  | succ n ih =>
    rw [List.replicate_succ, List.cons_append]
    simp only [reads]
    rw [ih]
    congr 1
    omega
/-- ascending from h on -/
def asc : Int → List Int → Prop
  | _, [] => True
  | h, o :: r => h ≤ o ∧ asc o r
theorem reads_word : ∀ (rs : List Int) (h : Int), asc h rs → reads (word rs h) h = rs
  | [], _, _ => rfl
  | o :: r, h, a => by
    simp only [word]
    rw [reads_rep]
    simp only [reads]
    have e : h + ((o - h).toNat : Int) = o := by
      have := a.1
      omega
    rw [e, reads_word r o a.2]
end Zr

set_option maxRecDepth 100000
set_option maxHeartbeats 0
namespace Zr
open PySem
theorem bal_rep (n : Nat) (r : List Bool) (lv : Int) (h : 0 ≤ lv) (b : bal (lv + n) r) : bal lv (List.replicate n true ++ r) := by
  induction n generalizing lv with
  | zero => simpa using b
  | succ n ih =>
    rw [List.replicate_succ, List.cons_append]
    refine ⟨by simp; omega, ih (lv + 1) (by omega) ?_⟩
    have e : lv + 1 + (n : Int) = lv + ((n + 1 : Nat) : Int) := by omega
    rw [e]
    exact b
/-- from the i-th place on, the last number h: each at least its place, ascending, the last one n - 1 -/
def Ok38 (n : Int) : Nat → Int → List Int → Prop
  | i, h, [] => h = n - 1 ∧ (i : Int) = n
  | i, h, o :: r => h ≤ o ∧ (i : Int) ≤ o ∧ Ok38 n (i + 1) o r
theorem bal_word (n : Int) : ∀ (rs : List Int) (i : Nat) (h : Int), Ok38 n i h rs → 0 ≤ h + 1 - i → bal (h + 1 - i) (word rs h)
  | [], i, h, ok, _ => by
    obtain ⟨h1, h2⟩ := ok
    show h + 1 - (i : Int) = 0
    omega
  | o :: r, i, h, ok, lv => by
    obtain ⟨h1, h2, h3⟩ := ok
    refine bal_rep _ _ _ lv ⟨by simp; omega, ?_⟩
    have e : h + 1 - (i : Int) + ((o - h).toNat : Int) + (if false = true then 1 else -1) = o + 1 - ((i + 1 : Nat) : Int) := by
      simp
      omega
    rw [e]
    exact bal_word n r (i + 1) o h3 (by omega)
end Zr

set_option maxRecDepth 100000
set_option maxHeartbeats 0
namespace Zr
open PySem
theorem reads_ge : ∀ (bs : List Bool) (h o : Int), o ∈ reads bs h → h ≤ o
  | [], h, o, m => by simp [reads] at m
  | true :: r, h, o, m => by
    have := reads_ge r (h + 1) o m
    omega
  | false :: r, h, o, m => by
    rcases List.mem_cons.mp m with e | m
    · omega
    · exact reads_ge r h o m
theorem word_reads : ∀ (bs : List Bool) (lv h : Int), 0 ≤ lv → bal lv bs → word (reads bs h) h = bs
  | [], lv, h, _, _ => rfl
  | false :: r, lv, h, l, b => by
    have l2 : 0 ≤ lv + -1 := by simpa using b.1
    have ih := word_reads r (lv + -1) h l2 (by simpa using b.2)
    simp only [reads, word, Int.sub_self]
    rw [ih]
    rfl
  | true :: r, lv, h, l, b => by
    have ih := word_reads r (lv + 1) (h + 1) (by omega) (by simpa using b.2)
    simp only [reads]
    cases e : reads r (h + 1) with
    | nil =>
      rw [e] at ih
      have : r = [] := ih.symm
      subst this
      have z : lv + 1 = 0 := by simpa [bal] using b.2
      omega
    | cons o t =>
      have ge := reads_ge r (h + 1) o (by rw [e]; exact List.mem_cons_self)
      rw [e] at ih
      simp only [word] at ih ⊢
      have e2 : (o - h).toNat = (o - (h + 1)).toNat + 1 := by omega
      rw [e2, List.replicate_succ, List.cons_append, ih]
end Zr

set_option maxRecDepth 100000
set_option maxHeartbeats 0
namespace Zr
open PySem
def lbBody : ISs := (.cons (.asg (.nm 2) (.bin .Add (.bin .Add (.var 2) (.bin .Mult (.str (Str.ofString "(")) (.bin .Sub (.var 1) (.var 3)))) (.str (Str.ofString ")"))))
    (.cons (.asg (.nm 3) (.mov 1))
    .nil))
theorem lb_turn (C : CallF) (w : D) (s : Br) (nb : ∀ d, s.one ≠ .byr d) (x : D) (r : List D) (ok : brOk s (x :: r)) : (bindV (.nm 1) x .froz (brSt w s)).bind (execs C lbBody) = some (.nx (brSt w (brStep s x))) := by
  obtain ⟨os, e, h1, h2, h3, h4⟩ := ok
  cases os with
  | nil => cases e
  | cons o os =>
    cases e
    obtain ⟨a1, a2⟩ := h1 o List.mem_cons_self
    simp at h4
    have c1 : (Str.ofString "(").length = 1 := rfl
    have c2 : (Str.ofString ")").length = 1 := rfl
    have d1 : (o - s.here).toNat ≤ lim := by simp [lim]; omega
    have d2 : -(lim : Int) < o - s.here := by simp [lim]; omega
    have d3 : o - s.here < (lim : Int) := by simp [lim]; omega
    have d4 : s.acc.length + (repS (o - s.here).toNat (Str.ofString "(")).length ≤ lim := by
      rw [rep_len, c1]
      simp [lim]
      omega
    have d5 : (s.acc ++ repS (o - s.here).toNat (Str.ofString "(")).length + 1 ≤ lim := by
      rw [str_len, rep_len, c1]
      simp [lim]
      omega
    have nb' : noByr (brSt w s) 1 = true := by
      unfold noByr brSt
      cases hh : s.one with
      | byr d => exact absurd hh (nb d)
      | _ => rfl
    have e0 : bindV (.nm 1) (.int o) .froz (brSt w s) = some [.pur w, .pur (.int o), .pur (.str s.acc), .pur (.int s.here)] := by
      simp only [bindV]
      rw [if_pos nb']
      rfl
    rw [e0]
    simp [lbBody, execs, exec, ev, gv, okSt, effE, noScr, binop, c1, c2, d1, d2, d3, d4, d5, brSt, brStep, sOpen, sShut, settleA, settle, bindV, noByr, pur, str_assoc]
theorem lb_ok (k : Nat) (rs : List Int) (h : small rs) : run Ir.T (k + 1) 10 none [.tuple (rs.map .int)] = some (.str (brText rs), none) := by
  rw [run_at (T := Ir.T) (k := k) (d := Ir.f__law_brackets) rfl ⟨rfl, rfl, by decide⟩]
  have pt : pur (.tuple (rs.map .int)) = true := by simp only [pur]; exact ints_purs rs
  have e0 : startRo Ir.f__law_brackets none [.tuple (rs.map .int)] = [.pur (.tuple (rs.map .int)), .emp, .emp, .emp] := by
    simp [startRo, Ir.f__law_brackets, bindS, bind1, pt]
  rw [e0]
  generalize run Ir.T k = C
  have e1 : evI C (.seq (.var 0)) (brSt (.tuple (rs.map .int)) ⟨Str.ofString "", -1, .emp⟩) = some (rs.map .int, [.fresh], brSt (.tuple (rs.map .int)) ⟨Str.ofString "", -1, .emp⟩) := by
    simp [evI, ev, gv, brSt, itemsOf]
  have lp : forGo (fun x ρ => (bindV (.nm 1) x .froz ρ).bind (execs C lbBody)) (rs.map .int) (brSt (.tuple (rs.map .int)) ⟨Str.ofString "", -1, .emp⟩) = some (.nx (brSt (.tuple (rs.map .int)) (brAll rs))) := by
    refine forGo_fold (brSt (.tuple (rs.map .int))) brStep (fun s xs => brOk s xs ∧ ∀ d, s.one ≠ .byr d) (fun s x r ok => ?_) (rs.map .int) ⟨Str.ofString "", -1, .emp⟩ ⟨⟨rs, rfl, h.2, by decide, by decide, ?_⟩, fun d z => nomatch z⟩
    · refine ⟨lb_turn C _ s ok.2 x r ok.1, (br_turn C (.tuple (rs.map .int)) s ok.2 x r ok.1).2, fun d => ?_⟩
      cases x with
      | int o => exact fun z => nomatch z
      | _ => exact ok.2 d
    · have := h.1
      show (Str.ofString "").length + 40 * rs.length ≤ 2000
      have e : (Str.ofString "").length = 0 := rfl
      omega
  have e2 := (x_for (C := C) (g := .nm 1) (b := lbBody) (turn := fun x ρ => (bindV (.nm 1) x .froz ρ).bind (execs C lbBody)) e1 rfl fun _ _ => rfl).trans lp
  have e3 : execs C Ir.f__law_brackets.body [.pur (.tuple (rs.map .int)), .emp, .emp, .emp] = execs C (.cons (.for (.nm 1) (.seq (.var 0)) lbBody) (.cons (.ret (.mov 2)) .nil)) (brSt (.tuple (rs.map .int)) ⟨Str.ofString "", -1, .emp⟩) := by
    unfold Ir.f__law_brackets
    rw [x_cons (ρ1 := brSt (.tuple (rs.map .int)) ⟨Str.ofString "", -1, .emp⟩) (by simp [exec, ev, evs, okSt, effs, settles, settle, lim, settleA, bindV, noByr, pur, brSt])]
    rfl
  rw [e3, x_cons e2]
  simp [execs, exec, ev, gv, brSt, settle, finish, brText]
end Zr

set_option maxRecDepth 100000
set_option maxHeartbeats 0
namespace Zr
open PySem
theorem any_ok (k : Nat) {h : D} (hh : isHand h) (xs : List D) (hp : purs xs = true) (h0 : 0 < xs.length) (h1 : xs.length < 1000000) : ∃ x h', x ∈ xs ∧ run Ir.T (k + 2) 8 (some h) [.list xs] = some (x, some h') ∧ isHand h' := by
  obtain ⟨r, h', e, a, b, hh'⟩ := draw k (xs.length : Int) hh (by omega) (by omega)
  have lt : r.toNat < xs.length := by omega
  refine ⟨xs[r.toNat], h', List.getElem_mem lt, ?_, hh'⟩
  have pp : pur xs[r.toNat] = true := purs_mem hp _ (List.getElem_mem lt)
  have ix : ixD (.list xs) (.int r) = some xs[r.toNat] := by
    simp [ixD, pixN, a, b, lt]
  have ph := hand_pur hh
  rw [run_at (T := Ir.T) (k := k + 1) (d := Ir.f__law_any) rfl ⟨rfl, rfl, by decide⟩]
  generalize run Ir.T (k + 1) = C at e
  have pl : pur (.list xs) = false := rfl
  simp [Ir.f__law_any, startRo, bindS, bind1, pl, execs, exec, ev, evs, gv, bi, okSt, effE, effs, noScr, isOwn, e, ix, pp, settle, finish]
/-- what the numbers found so far are -/
structure RInv (m : Int) (i : Nat) (fs : List Int) : Prop where
  len : fs.length = i
  at_ : ∀ (j : Nat) (o : Int), fs[j]? = some o → (j : Int) ≤ o ∧ o ≤ m - 1
  up : ∀ (j : Nat) (o o' : Int), fs[j]? = some o → fs[j + 1]? = some o' → o ≤ o'
theorem maxI_ge : ∀ (r : List Int) (m : Int), m ≤ maxI m r ∧ ∀ x ∈ r, x ≤ maxI m r
  | [], m => ⟨Int.le_refl _, fun x z => nomatch z⟩
  | y :: r, m => by
    obtain ⟨h1, h2⟩ := maxI_ge r (if y > m then y else m)
    simp only [maxI]
    have hy : y ≤ (if y > m then y else m) ∧ m ≤ (if y > m then y else m) := by split <;> omega
    refine ⟨by omega, fun x z => ?_⟩
    rcases List.mem_cons.mp z with e | z
    · rw [e]
      omega
    · exact h2 x z
theorem maxI_le : ∀ (r : List Int) (m b : Int), m ≤ b → (∀ x ∈ r, x ≤ b) → maxI m r ≤ b
  | [], m, b, h, _ => h
  | y :: r, m, b, h, k => by
    simp only [maxI]
    refine maxI_le r _ b ?_ fun x z => k x (List.mem_cons_of_mem _ z)
    have := k y List.mem_cons_self
    split <;> omega
theorem toInts_map (ns : List Int) : toInts (ns.map .int) = some ns := by
  induction ns with
  | nil => rfl
  | cons n r ih => simp [toInts, ih]
theorem RInv.step {m : Int} {i : Nat} {fs : List Int} (h : RInv m i fs) (hi : (i : Int) < m) (r : Int) (hr : 0 ≤ r) : RInv m (i + 1) (fs ++ [if maxI i fs + r < m - 1 then maxI i fs + r else m - 1]) := by
  obtain ⟨g1, g2⟩ := maxI_ge fs i
  have low : ∀ x ∈ fs, x ≤ m - 1 := fun x z => by
    obtain ⟨j, hj⟩ := List.mem_iff_getElem?.mp z
    exact (h.at_ j x hj).2
  have mm := maxI_le fs i (m - 1) (by omega) low
  have hl := h.len
  refine ⟨by simp [hl], fun j o e => ?_, fun j o o' e e' => ?_⟩
  · by_cases c : j < fs.length
    · rw [List.getElem?_append_left c] at e
      exact h.at_ j o e
    · have : j = fs.length := by
        have := (List.getElem?_eq_some_iff.mp e).1
        simp at this
        omega
      subst this
      simp at e
      subst e
      split <;> omega
  · by_cases c : j + 1 < fs.length
    · rw [List.getElem?_append_left (by omega)] at e
      rw [List.getElem?_append_left c] at e'
      exact h.up j o o' e e'
    · have : j + 1 = fs.length := by
        have := (List.getElem?_eq_some_iff.mp e').1
        simp at this
        omega
      rw [List.getElem?_append_left (by omega)] at e
      rw [this] at e'
      simp at e'
      subst e'
      have m1 : o ∈ fs := List.mem_iff_getElem?.mpr ⟨j, e⟩
      have := g2 o m1
      have := (h.at_ j o e).2
      split <;> omega
def lrBody : ISs := (.cons (.asg (.nm 5) (.bcall .max (.cons (.bin .Add (.lst (.cons (.mov 2) .nil)) (.var 4)) .nil)))
    (.cons (.expr (.mut .append 4 (.cons (.bcall .min (.cons (.bin .Sub (.var 3) (.int 1)) (.cons (.bin .Add (.var 5) (.fref 8 0 (.cons (.lst (.cons (.int 0) (.cons (.int 0) (.cons (.int 1) (.cons (.fref 7 0 (.cons (.var 3) .nil)) .nil))))) .nil))) .nil))) .nil)))
    .nil))
theorem lr_turn (k : Nat) (m : Int) (hm : m ≤ 30) {h : D} (hh : isHand h) (i : Nat) (hi : (i : Int) < m) (fs : List Int) (iv : RInv m i fs) (a b : Slot) (na : ∀ d, a ≠ .byr d) (nb : ∀ d, b ≠ .byr d) :
    ∃ h' fs' a' b', (bindV (.nm 2) (.int i) .froz [.byr h, .pur (.int 30), a, .pur (.int m), .own (.list (fs.map .int)), b]).bind (execs (run Ir.T (k + 2)) lrBody) = some (.nx [.byr h', .pur (.int 30), a', .pur (.int m), .own (.list (fs'.map .int)), b']) ∧ isHand h' ∧ RInv m (i + 1) fs' ∧ (∀ d, a' ≠ .byr d) ∧ ∀ d, b' ≠ .byr d := by
  obtain ⟨r, h1, e1, r0, r1, hh1⟩ := draw (k + 1) m hh (by omega) (by omega)
  obtain ⟨x, h2, mx, e2, hh2⟩ := any_ok k hh1 [.int 0, .int 0, .int 1, .int r] rfl (by simp) (by simp)
  obtain ⟨s, rfl, s0⟩ : ∃ s : Int, x = .int s ∧ 0 ≤ s := by
    simp at mx
    rcases mx with rfl | rfl | rfl
    · exact ⟨0, rfl, by decide⟩
    · exact ⟨1, rfl, by decide⟩
    · exact ⟨r, rfl, r0⟩
  have st := iv.step hi s s0
  refine ⟨h2, _, .pur (.int i), .pur (.int (maxI i fs)), ?_, hh2, st, (fun d z => nomatch z), (fun d z => nomatch z)⟩
  have mi := toInts_map fs
  have pi := ints_purs fs
  have l1 : (fs.map PyData.int).length + 1 ≤ lim := by
    have := iv.len
    simp [lim]
    omega
  have l2 : 1 + fs.length ≤ 1000000 := by simpa [lim, Nat.add_comm] using l1
  have l3 : fs.length < 1000000 := by omega
  have nba : bindV (.nm 2) (.int i) .froz [.byr h, .pur (.int 30), a, .pur (.int m), .own (.list (fs.map .int)), b] = some [.byr h, .pur (.int 30), .pur (.int i), .pur (.int m), .own (.list (fs.map .int)), b] := by
    cases a with
    | byr d => exact absurd rfl (na d)
    | _ => rfl
  rw [nba]
  have mxe : toInts (PyData.int i :: fs.map .int) = some ((i : Int) :: fs) := by simp [toInts, mi]
  generalize run Ir.T (k + 2) = C at e1 e2
  have w : exec C (.asg (.nm 5) (.bcall .max (.cons (.bin .Add (.lst (.cons (.mov 2) .nil)) (.var 4)) .nil))) [.byr h, .pur (.int 30), .pur (.int i), .pur (.int m), .own (.list (fs.map .int)), b] = some (.nx [.byr h, .pur (.int 30), .pur (.int i), .pur (.int m), .own (.list (fs.map .int)), .pur (.int (maxI i fs))]) := by
    have nb' : bindV (.nm 5) (.int (maxI i fs)) .fresh [.byr h, .pur (.int 30), .pur (.int i), .pur (.int m), .own (.list (fs.map .int)), b] = some [.byr h, .pur (.int 30), .pur (.int i), .pur (.int m), .own (.list (fs.map .int)), .pur (.int (maxI i fs))] := by
      cases b with
      | byr d => exact absurd rfl (nb d)
      | _ => rfl
    refine x_asg (d := .int (maxI i fs)) (st := .fresh) (s' := .fresh) (ρ1 := [.byr h, .pur (.int 30), .pur (.int i), .pur (.int m), .own (.list (fs.map .int)), b]) ?_ rfl nb'
    simp [ev, evs, gv, okSt, effE, effs, noScr, settles, settle, binop, purs, pur, pi, l2, bi, mxe, lim]
  rw [Option.bind_some]
  unfold lrBody
  rw [x_cons w]
  have mn : bi .min [.int (m - 1), .int (maxI i fs + s)] = some (.int (if maxI i fs + s < m - 1 then maxI i fs + s else m - 1)) := rfl
  simp [execs, exec, ev, evs, gv, okSt, effE, effs, tks, tkE, noScr, isLst, isOwn, settles, settle, binop, lim, e1, e2, mn, mu, l3]
theorem long_ok (k : Nat) {h : D} (hh : isHand h) : ∃ rs h', run Ir.T (k + 3) 11 (some h) [.int 30] = some (.tuple (rs.map .int), some h') ∧ isHand h' ∧ Reach rs := by
  obtain ⟨r, h1, e1, r0, r1, hh1⟩ := draw (k + 1) 30 hh (by omega) (by omega)
  obtain ⟨n, hn⟩ : ∃ n : Nat, (n : Int) = 1 + r := ⟨(1 + r).toNat, by omega⟩
  let C := run Ir.T (k + 2)
  have lp := forGo_rel (turn := fun x ρ => (bindV (.nm 2) x .froz ρ).bind (execs C lrBody)) (fun i ρ => ∃ h fs a b, ρ = [.byr h, .pur (.int 30), a, .pur (.int (1 + r)), .own (.list (fs.map .int)), b] ∧ isHand h ∧ RInv (1 + r) i fs ∧ (∀ d, a ≠ .byr d) ∧ ∀ d, b ≠ .byr d) (rangeD 0 n) (fun i x ρ hx iv => by
    obtain ⟨h, fs, a, b, rfl, q1, q2, q3, q4⟩ := iv
    have hi : i < n := by
      have := (List.getElem?_eq_some_iff.mp hx).1
      simpa [rangeD] using this
    have : x = .int i := by
      simp [rangeD, List.getElem?_range hi] at hx
      exact hx.symm
    subst this
    obtain ⟨h', fs', a', b', e, t1, t2, t3, t4⟩ := lr_turn k (1 + r) (by omega) q1 i (by omega) fs q2 a b q3 q4
    exact ⟨_, e, h', fs', a', b', rfl, t1, t2, t3, t4⟩) [.byr h1, .pur (.int 30), .emp, .pur (.int (1 + r)), .own (.list []), .emp] ⟨h1, [], .emp, .emp, rfl, hh1, ⟨rfl, fun j o e => by simp at e, fun j o o' e => by simp at e⟩, fun d z => (nomatch z), fun d z => (nomatch z)⟩
  obtain ⟨ρ', e2, h2, fs, a, b, rfl, q1, q2, q3, q4⟩ := lp
  have ln : (rangeD 0 n).length = n := by simp [rangeD]
  rw [ln] at q2
  refine ⟨fs, h2, ?_, q1, ⟨by have := q2.len; omega, by have := q2.len; omega, fun i o e => ?_, q2.up⟩⟩
  · rw [run_at (T := Ir.T) (k := k + 2) (d := Ir.f__law_long_reach) rfl ⟨rfl, rfl, by decide⟩]
    have e0 : startRo Ir.f__law_long_reach (some h) [.int 30] = [.byr h, .pur (.int 30), .emp, .emp, .emp, .emp] := by
      simp [startRo, Ir.f__law_long_reach, bindS, bind1, pur]
    rw [e0]
    show finish _ (execs C _ _) = _
    have e3 : execs C Ir.f__law_long_reach.body [.byr h, .pur (.int 30), .emp, .emp, .emp, .emp] = execs C (.cons (.for (.nm 2) (.rng1 (.var 3)) lrBody) (.cons (.ret (.bcall .tuple (.cons (.var 4) .nil))) .nil)) [.byr h1, .pur (.int 30), .emp, .pur (.int (1 + r)), .own (.list []), .emp] := by
      unfold Ir.f__law_long_reach
      rw [x_cons (ρ1 := [.byr h1, .pur (.int 30), .emp, .pur (.int (1 + r)), .own (.list []), .emp]) (by
        have e1' : C 7 (some h) [.int 30] = some (.int r, some h1) := e1
        simp [exec, ev, evs, gv, okSt, effE, effs, tks, tkE, noScr, isOwn, settles, settle, binop, e1', bindNs, bindV, noByr, pur, lim])]
      rfl
    have e4 : evI C (.rng1 (.var 3)) [.byr h1, .pur (.int 30), .emp, .pur (.int (1 + r)), .own (.list []), .emp] = some (rangeD 0 n, [], [.byr h1, .pur (.int 30), .emp, .pur (.int (1 + r)), .own (.list []), .emp]) := by
      have c : 1 + r < (lim : Int) ∧ -(lim : Int) < 1 + r := by simp [lim]; omega
      simp only [evI, ev, gv, List.getElem?_cons_succ, List.getElem?_cons_zero]
      rw [if_pos c]
      have : (1 + r).toNat = n := by omega
      rw [this]
    rw [e3, x_cons ((x_for (C := C) (b := lrBody) (turn := fun x ρ => (bindV (.nm 2) x .froz ρ).bind (execs C lrBody)) e4 rfl fun _ _ => rfl).trans e2)]
    have pi := ints_purs fs
    simp [execs, exec, ev, evs, gv, okSt, effs, bi, pi, settle, finish]
  · have := q2.at_ i o e
    have := q2.len
    omega
end Zr

set_option maxRecDepth 100000
set_option maxHeartbeats 0
namespace Zr
open PySem
theorem ok_reads : ∀ (bs : List Bool) (i : Nat) (h lv : Int), lv = h + 1 - i → 0 ≤ lv → bal lv bs → Ok38 (h + 1 + (bs.count true : Nat)) i h (reads bs h)
  | [], i, h, lv, e, _, b => by
    have b : lv = 0 := b
    simp [reads, Ok38]
    omega
  | false :: r, i, h, lv, e, l, b => by
    have b1 : 0 ≤ lv + -1 := by simpa using b.1
    have ih := ok_reads r (i + 1) h (lv + -1) (by omega) b1 (by simpa using b.2)
    simp only [reads, Ok38]
    refine ⟨Int.le_refl _, by omega, ?_⟩
    simpa using ih
  | true :: r, i, h, lv, e, l, b => by
    have b2 : bal (lv + 1) r := by simpa using b.2
    have ih := ok_reads r i (h + 1) (lv + 1) (by omega) (by omega) b2
    have n : h + 1 + ((true :: r).count true : Nat) = h + 1 + 1 + (r.count true : Nat) := by
      simp
      omega
    rw [n]
    simp only [reads]
    cases q : reads r (h + 1) with
    | nil =>
      have w := word_reads r (lv + 1) (h + 1) (by omega) b2
      rw [q] at w
      have : r = [] := w.symm
      subst this
      have z : lv + 1 = 0 := b2
      omega
    | cons o t =>
      rw [q] at ih
      obtain ⟨h1, h2, h3⟩ := ih
      exact ⟨by omega, h2, h3⟩
theorem ok_len : ∀ (n : Int) (rs : List Int) (i : Nat) (h : Int), Ok38 n i h rs → (rs.length : Int) + i = n
  | n, [], i, h, ok => by
    have := ok.2
    simp
    omega
  | n, o :: r, i, h, ok => by
    have := ok_len n r (i + 1) o ok.2.2
    simp
    omega
theorem ok_top : ∀ (n : Int) (rs : List Int) (i : Nat) (h : Int), Ok38 n i h rs → h ≤ n - 1
  | n, [], i, h, ok => by have := ok.1; omega
  | n, o :: r, i, h, ok => by
    have := ok_top n r (i + 1) o ok.2.2
    have := ok.1
    omega
theorem ok_at : ∀ (n : Int) (rs : List Int) (i : Nat) (h : Int), Ok38 n i h rs → ∀ (j : Nat) (o : Int), rs[j]? = some o → (i : Int) + j ≤ o ∧ o ≤ n - 1 ∧ h ≤ o
  | n, [], i, h, ok, j, o, e => by simp at e
  | n, p :: r, i, h, ok, 0, o, e => by
    simp at e
    subst e
    have := ok_top n r (i + 1) p ok.2.2
    have := ok.1
    have := ok.2.1
    omega
  | n, p :: r, i, h, ok, j + 1, o, e => by
    have := ok_at n r (i + 1) p ok.2.2 j o (by simpa using e)
    have := ok.1
    omega
theorem ok_up : ∀ (n : Int) (rs : List Int) (i : Nat) (h : Int), Ok38 n i h rs → ∀ (j : Nat) (o o' : Int), rs[j]? = some o → rs[j + 1]? = some o' → o ≤ o'
  | n, [], i, h, ok, j, o, o', e, e' => by simp at e
  | n, p :: r, i, h, ok, 0, o, o', e, e' => by
    simp at e e'
    subst e
    exact (ok_at n r (i + 1) p ok.2.2 0 o' (by simpa using e')).2.2
  | n, p :: r, i, h, ok, j + 1, o, o', e, e' => ok_up n r (i + 1) p ok.2.2 j o o' (by simpa using e) (by simpa using e')
theorem reach_of_Ok {m : Int} {rs : List Int} (ok : Ok38 m 0 (-1) rs) (h1 : 1 ≤ m) (h2 : m ≤ 30) : Reach rs ∧ (rs.length : Int) = m := by
  have l := ok_len m rs 0 (-1) ok
  refine ⟨⟨by omega, by omega, fun i o e => ?_, ok_up m rs 0 (-1) ok⟩, by omega⟩
  have := ok_at m rs 0 (-1) ok i o e
  omega
theorem Ok_of_reach : ∀ (n : Int) (rs : List Int) (i : Nat) (h : Int), (rs.length : Int) + i = n → (rs = [] → h = n - 1) → (∀ (j : Nat) (o : Int), rs[j]? = some o → (i : Int) + j ≤ o ∧ o ≤ n - 1) → (∀ (j : Nat) (o o' : Int), rs[j]? = some o → rs[j + 1]? = some o' → o ≤ o') → (∀ o, rs[0]? = some o → h ≤ o) → Ok38 n i h rs
  | n, [], i, h, l, e, _, _, _ => ⟨e rfl, by simp at l; omega⟩
  | n, p :: r, i, h, l, _, a, u, z => by
    have a0 := a 0 p rfl
    refine ⟨z p rfl, by omega, Ok_of_reach n r (i + 1) p (by simp at l; omega) (fun e => ?_) (fun j o e => ?_) (fun j o o' e e' => u (j + 1) o o' (by simpa using e) (by simpa using e')) fun o e => u 0 p o rfl (by simpa using e)⟩
    · subst e
      simp at l
      omega
    · have := a (j + 1) o (by simpa using e)
      omega
theorem Reach.ok {rs : List Int} (h : Reach rs) : Ok38 rs.length 0 (-1) rs := by
  have l1 := h.one
  refine Ok_of_reach _ rs 0 (-1) (by omega) (fun e => by subst e; simp at l1) (fun j o e => ?_) h.up fun o e => ?_
  · have := h.at_ j o e
    omega
  · have := h.at_ 0 o e
    omega
theorem asc_of : ∀ (n : Int) (rs : List Int) (i : Nat) (h : Int), Ok38 n i h rs → asc h rs
  | n, [], i, h, _ => trivial
  | n, o :: r, i, h, ok => ⟨ok.1, asc_of n r (i + 1) o ok.2.2⟩
theorem word_len : ∀ (n : Int) (rs : List Int) (i : Nat) (h : Int), Ok38 n i h rs → ((word rs h).length : Int) = (n - 1 - h) + rs.length
  | n, [], i, h, ok => by
    have := ok.1
    simp [word]
    omega
  | n, o :: r, i, h, ok => by
    have := word_len n r (i + 1) o ok.2.2
    have := ok.1
    simp [word]
    omega
theorem brText_txt (rs : List Int) : brText rs = txt (word rs (-1)) := by
  unfold brText brAll
  rw [br_word]
  show Str.ofString "" ++ txt (word rs (-1)) = _
  apply str_ext
  rw [cps_app]
  exact Array.empty_append
/-- the two parts lead to one another -/
theorem there_ok (k : Nat) (rs : List Int) (h : Reach rs) : run Ir.T (k + 2) 5 none [.str (brText rs)] = some (.tuple (rs.map .int), none) := by
  have ok := h.ok
  have l := word_len _ rs 0 (-1) ok
  have b := bal_word _ rs 0 (-1) ok (by omega)
  have h1 := h.one
  have h2 := h.few
  rw [brText_txt]
  have e := reach_of_ok k (word rs (-1)) (by omega) (by omega) (by simpa using b)
  rw [e, reads_word rs (-1) (asc_of _ rs 0 (-1) ok)]
theorem okd_txt (bs : List Bool) (h : bs.length ≤ 60) : okd (.str (txt bs)) = true := by
  simp only [okd, Bool.and_eq_true, decide_eq_true_eq]
  refine ⟨by rw [txt_len]; omega, ?_⟩
  rw [List.all_eq_true]
  intro c m
  have m : c ∈ bs.map fun b => if b then 40 else 41 := by simpa only [txt] using m
  obtain ⟨b, _, rfl⟩ := List.mem_map.mp m
  cases b <;> decide
theorem okd_ints (rs : List Int) (h : ∀ o ∈ rs, 0 ≤ o ∧ o < 1920) (hl : rs.length ≤ lim) : okd (.tuple (rs.map .int)) = true := by
  simp only [okd, Bool.and_eq_true, decide_eq_true_eq]
  refine ⟨?_, by simpa using hl⟩
  clear hl
  induction rs with
  | nil => rfl
  | cons o r ih =>
    have q := h o List.mem_cons_self
    simp only [List.map_cons, okds, Bool.and_eq_true, okd, decide_eq_true_eq]
    refine ⟨?_, ih fun x m => h x (List.mem_cons_of_mem _ m)⟩
    have := Nat.log2_le_self o.natAbs
    omega
theorem deps_ints (rs : List Int) : deps (rs.map .int) = 0 := by
  induction rs with
  | nil => rfl
  | cons o r ih => simp [deps, dep, ih]
theorem sort_asc : ∀ (n : Int) (rs : List Int) (i : Nat) (h : Int), Ok38 n i h rs → sortI rs = rs
  | n, [], i, h, _ => rfl
  | n, o :: r, i, h, ok => by
    simp only [sortI]
    rw [sort_asc n r (i + 1) o ok.2.2]
    cases r with
    | nil => rfl
    | cons p t =>
      have := ok.2.2.1
      simp only [insI]
      rw [if_pos this]
end Zr

set_option maxRecDepth 100000
set_option maxHeartbeats 0
namespace Zr
open PySem
def pre : Int → List Bool → Int → Prop
  | a, [], b => a = b
  | a, x :: r, b => 0 ≤ a + (if x then 1 else -1) ∧ pre (a + (if x then 1 else -1)) r b
theorem pre_bal : ∀ (bs : List Bool) (a : Int), pre a bs 0 → bal a bs
  | [], a, h => h
  | x :: r, a, h => ⟨h.1, pre_bal r _ h.2⟩
theorem pre_snoc : ∀ (bs : List Bool) (a b : Int) (x : Bool), pre a bs b → 0 ≤ b + (if x then 1 else -1) → pre a (bs ++ [x]) (b + (if x then 1 else -1))
  | [], a, b, x, h, k => by
    have h : a = b := h
    subst h
    exact ⟨k, rfl⟩
  | y :: r, a, b, x, h, k => ⟨h.1, pre_snoc r _ b x h.2 k⟩
theorem txt_one (b : Bool) : (if b then Str.ofString "(" else Str.ofString ")") = txt [b] := by
  cases b <;> rfl
def gnBody : ISs := (.cons (.asg (.nm 9) (.orV (.cmp .Eq (.var 7) (.var 8)) (.oneV (.andV (.cmp .Lt (.var 7) (.var 5)) (.oneV (.cmp .Eq (.fref 7 0 (.cons (.int 2) .nil)) (.int 0)))))))
    (.cons (.asg (.nm 6) (.bin .Add (.var 6) (.ite (.tru (.var 9)) (.str (Str.ofString "(")) (.str (Str.ofString ")")))))
    (.cons (.par [7, 8] (.cons (.bin .Add (.var 7) (.bcall .int (.cons (.var 9) .nil))) (.cons (.bin .Add (.var 8) (.bcall .int (.cons (.notV (.var 9)) .nil))) .nil)))
    .nil)))
def gnRo (h r t : D) (s3 : Slot) (m : Int) (bs : List Bool) (o s : Int) (s9 : Slot) : Ro := [.byr h, .pur r, .pur t, s3, .emp, .pur (.int m), .pur (.str (txt bs)), .pur (.int o), .pur (.int s), s9, .emp, .emp]
theorem gn_flag (k : Nat) {h : D} (hh : isHand h) (r t : D) (i m o s : Int) (bs : List Bool) (s9 : Slot) (hs : s ≤ o) (ho : o ≤ m) (hi : o + s < 2 * m) (n9 : ∀ d, s9 ≠ .byr d) :
    ∃ h' b, exec (run Ir.T (k + 1)) (.asg (.nm 9) (.orV (.cmp .Eq (.var 7) (.var 8)) (.oneV (.andV (.cmp .Lt (.var 7) (.var 5)) (.oneV (.cmp .Eq (.fref 7 0 (.cons (.int 2) .nil)) (.int 0))))))) (gnRo h r t (.pur (.int i)) m bs o s s9) = some (.nx (gnRo h' r t (.pur (.int i)) m bs o s (.pur (.bool b)))) ∧ isHand h' ∧ (b = true → o < m) ∧ (b = false → s < o) := by
  have nb : ∀ (h : D) (b : Bool), bindV (.nm 9) (.bool b) .fresh (gnRo h r t (.pur (.int i)) m bs o s s9) = some (gnRo h r t (.pur (.int i)) m bs o s (.pur (.bool b))) := fun h b => by
    cases s9 with
    | byr d => exact absurd rfl (n9 d)
    | _ => rfl
  by_cases c : o = s
  · subst c
    refine ⟨h, true, x_asg (d := .bool true) (st := .fresh) (s' := .fresh) (ρ1 := gnRo h r t (.pur (.int i)) m bs o o s9) ?_ rfl (nb h true), hh, fun _ => by omega, fun z => nomatch z⟩
    simp [ev, gv, gnRo, okSt, effE, cmpop, eqD, truD]
  · by_cases c2 : o < m
    · obtain ⟨d, h', e, d0, d1, hh'⟩ := draw k 2 hh (by omega) (by omega)
      refine ⟨h', decide (d = 0), x_asg (d := .bool (decide (d = 0))) (st := .fresh) (s' := .fresh) (ρ1 := gnRo h' r t (.pur (.int i)) m bs o s s9) ?_ rfl (nb h' _), hh', fun _ => c2, fun _ => by omega⟩
      generalize run Ir.T (k + 1) = C at e
      have z : (o == s) = false := by simpa using c
      simp [ev, evs, gv, gnRo, okSt, effE, effs, noScr, isOwn, cmpop, eqD, ltD, truD, z, c2, e]
      by_cases q : d = 0 <;> simp [q]
    · refine ⟨h, false, x_asg (d := .bool false) (st := .fresh) (s' := .fresh) (ρ1 := gnRo h r t (.pur (.int i)) m bs o s s9) ?_ rfl (nb h false), hh, fun z => (nomatch z), fun _ => by omega⟩
      have z : (o == s) = false := by simpa using c
      simp [ev, gv, gnRo, okSt, effE, cmpop, eqD, ltD, truD, z, c2]
theorem gn_turn (k : Nat) {h : D} (hh : isHand h) (r t : D) (i m o s : Int) (bs : List Bool) (s3 s9 : Slot) (hl : bs.length ≤ 60) (hs : s ≤ o) (ho : o ≤ m) (hi : o + s < 2 * m) (n3 : ∀ d, s3 ≠ .byr d) (n9 : ∀ d, s9 ≠ .byr d) :
    ∃ h' b, (bindV (.nm 3) (.int i) .froz (gnRo h r t s3 m bs o s s9)).bind (execs (run Ir.T (k + 1)) gnBody) = some (.nx (gnRo h' r t (.pur (.int i)) m (bs ++ [b]) (if b then o + 1 else o) (if b then s else s + 1) (.pur (.bool b)))) ∧ isHand h' ∧ (b = true → o < m) ∧ (b = false → s < o) := by
  obtain ⟨h', b, e, q1, q2, q3⟩ := gn_flag k hh r t i m o s bs s9 hs ho hi n9
  refine ⟨h', b, ?_, q1, q2, q3⟩
  have n : bindV (.nm 3) (.int i) .froz (gnRo h r t s3 m bs o s s9) = some (gnRo h r t (.pur (.int i)) m bs o s s9) := by
    cases s3 with
    | byr d => exact absurd rfl (n3 d)
    | _ => rfl
  rw [n, Option.bind_some]
  unfold gnBody
  rw [x_cons e]
  have l1 : (txt bs).length + 1 ≤ 1000000 := by rw [txt_len]; omega
  have ta := txt_app bs [b]
  cases b with
  | true =>
    have t1 : txt [true] = Str.ofString "(" := rfl
    rw [t1] at ta
    have c1 : (Str.ofString "(").length = 1 := rfl
    simp [execs, exec, ev, evs, evT, gv, gnRo, okSt, effE, effs, effT, noScr, truD, binop, lim, c1, l1, settleA, settle, settles, bindV, bindNs, noByr, pur, bi, ta]
  | false =>
    have t1 : txt [false] = Str.ofString ")" := rfl
    rw [t1] at ta
    have c1 : (Str.ofString ")").length = 1 := rfl
    simp [execs, exec, ev, evs, evT, gv, gnRo, okSt, effE, effs, effT, noScr, truD, binop, lim, c1, l1, settleA, settle, settles, bindV, bindNs, noByr, pur, bi, ta]
theorem gn_loop (k : Nat) {h : D} (hh : isHand h) (r t : D) (m : Int) (h1 : 1 ≤ m) (h2 : m ≤ 12) :
    ∃ h' bs s3 s9, forGo (fun x ρ => (bindV (.nm 3) x .froz ρ).bind (execs (run Ir.T (k + 1)) gnBody)) (rangeD 0 (2 * m).toNat) (gnRo h r t .emp m [] 0 0 .emp) = some (.nx (gnRo h' r t s3 m bs m m s9)) ∧ isHand h' ∧ bal 0 bs ∧ (bs.length : Int) = 2 * m ∧ (bs.count true : Int) = m ∧ ∀ d, s3 ≠ .byr d := by
  have lp := forGo_rel (turn := fun x ρ => (bindV (.nm 3) x .froz ρ).bind (execs (run Ir.T (k + 1)) gnBody)) (fun i ρ => ∃ h bs o s s3 s9, ρ = gnRo h r t s3 m bs o s s9 ∧ isHand h ∧ pre 0 bs (o - s) ∧ bs.length = i ∧ o + s = i ∧ s ≤ o ∧ o ≤ m ∧ (bs.count true : Int) = o ∧ (∀ d, s3 ≠ .byr d) ∧ ∀ d, s9 ≠ .byr d) (rangeD 0 (2 * m).toNat) (fun i x ρ hx iv => by
    obtain ⟨h, bs, o, s, s3, s9, rfl, q1, q2, q3, q4, q5, q6, q7, q8, q9⟩ := iv
    have hi : i < (2 * m).toNat := by
      have := (List.getElem?_eq_some_iff.mp hx).1
      simpa [rangeD] using this
    have : x = .int i := by
      simp [rangeD, List.getElem?_range hi] at hx
      exact hx.symm
    subst this
    obtain ⟨h', b, e, t1, t2, t3⟩ := gn_turn k q1 r t i m o s bs s3 s9 (by omega) q5 q6 (by omega) q8 q9
    refine ⟨_, e, h', bs ++ [b], _, _, _, _, rfl, t1, ?_, by simp [q3], ?_, ?_, ?_, ?_, (fun d z => nomatch z), fun d z => nomatch z⟩
    · cases b with
      | true =>
        have := pre_snoc bs 0 (o - s) true q2 (by simp; omega)
        have e : o + 1 - s = o - s + 1 := by omega
        simpa [e] using this
      | false =>
        have := t3 rfl
        have := pre_snoc bs 0 (o - s) false q2 (by simp; omega)
        have e : o - (s + 1) = o - s + -1 := by omega
        simpa [e] using this
    · cases b <;> simp <;> omega
    · cases b with
      | true => simp; omega
      | false =>
        have := t3 rfl
        simp
        omega
    · cases b with
      | true =>
        have := t2 rfl
        simp
        omega
      | false => simpa using q6
    · cases b <;> simp <;> omega) (gnRo h r t .emp m [] 0 0 .emp) ⟨h, [], 0, 0, .emp, .emp, rfl, hh, rfl, rfl, rfl, Int.le_refl _, by omega, rfl, (fun d z => nomatch z), fun d z => nomatch z⟩
  obtain ⟨ρ', e, h', bs, o, s, s3, s9, rfl, q1, q2, q3, q4, q5, q6, q7, q8, q9⟩ := lp
  have ln : (rangeD 0 (2 * m).toNat).length = (2 * m).toNat := by simp [rangeD]
  rw [ln] at q3 q4
  have eo : o = m := by omega
  have es : s = m := by omega
  subst eo
  subst es
  rw [Int.sub_self] at q2
  exact ⟨h', bs, s3, s9, e, q1, pre_bal bs 0 q2, by omega, q7, q8⟩
end Zr

set_option maxRecDepth 100000
set_option maxHeartbeats 0
namespace Zr
open PySem
theorem pur_tints (rs : List Int) : pur (.tuple (rs.map .int)) = true := by
  simp only [pur]
  exact ints_purs rs
theorem plain_ints (ts : List Int) : PyData.plainAll (ts.map .int) = true := by
  induction ts with
  | nil => rfl
  | cons t r ih => simp [PyData.plainAll, PyData.plain, ih]
theorem depth_ints (ts : List Int) : PyData.depthAll (ts.map .int) = 0 := by
  induction ts with
  | nil => rfl
  | cons t r ih => simp [PyData.depthAll, PyData.depth, ih]
theorem eqv_ints (ts : List Int) : PyData.eqvAll (ts.map .int) (ts.map .int) = true := by
  induction ts with
  | nil => rfl
  | cons t r ih => simp [PyData.eqvAll, PyData.eqv, ih]
theorem ne_ints (ts : List Int) : cmpop .NotEq (.list (ts.map .int)) (.list (ts.map .int)) = some false := by
  simp [cmpop, eqD, PyData.plain, plain_ints, PyData.depth, depth_ints, PyData.eqv, eqv_ints]
theorem right38 {h : D} (hh : isHand h) : ∃ h', run Ir.T 39 12 (some h) [] = some (.bool true, some h') ∧ isHand h' := by
  obtain ⟨rs, h1, e1, hh1, rc⟩ := long_ok 35 hh
  have sm := rc.small
  have e2 := brackets_of_ok 37 rs sm (is_reach_ok 34 rs rc)
  have e3 := lb_ok 37 rs sm
  have e4 := there_ok 36 rs rc
  have tb : okd (.str (brText rs)) = true := by
    rw [brText_txt]
    apply okd_txt
    have := word_len _ rs 0 (-1) rc.ok
    have := rc.few
    omega
  have e5 := law_is_same (T := Ir.T) (i := 9) (fd := Ir.f__law_is) rfl rfl rfl rfl rfl 37 (.str (brText rs)) (by simp [dep]) tb
  have e6 := law_is_same (T := Ir.T) (i := 9) (fd := Ir.f__law_is) rfl rfl rfl rfl rfl 37 (.tuple (rs.map .int)) (by simp [dep, deps_ints]) (okd_ints rs (fun o m => by have := sm.2 o m; omega) (by have := rc.few; simp [lim]; omega))
  obtain ⟨q, h2, e7, q0, q1, hh2⟩ := draw 37 12 hh1 (by decide) (by decide)
  obtain ⟨h3, bs, s3, s9, e8, hh3, b8, l8, c8, n8⟩ := gn_loop 37 hh2 (.tuple (rs.map .int)) (.str (brText rs)) (1 + q) (by omega) (by omega)
  have e9 := reach_of_ok 36 bs (by omega) (by omega) b8
  have ok := ok_reads bs 0 (-1) 0 (by omega) (by omega) b8
  have cn : (-1 : Int) + 1 + (bs.count true : Nat) = 1 + q := by omega
  rw [cn] at ok
  obtain ⟨rc2, l2⟩ := reach_of_Ok ok (by omega) (by omega)
  have e10 := brackets_of_ok 37 (reads bs (-1)) rc2.small (is_reach_ok 34 _ rc2)
  have e11 : brText (reads bs (-1)) = txt bs := by
    rw [brText_txt, word_reads bs 0 (-1) (by omega) b8]
  rw [e11] at e10
  have so := sort_asc _ _ 0 (-1) ok
  generalize hts : reads bs (-1) = ts at *
  have p1 := pur_tints rs
  have p2 := pur_tints ts
  have p3 := ints_purs ts
  have mt := toInts_map ts
  refine ⟨h3, ?_, hh3⟩
  rw [run_at (T := Ir.T) (k := 38) (d := Ir.f__law_is_right) rfl ⟨rfl, rfl, by decide⟩]
  have s0 : startRo Ir.f__law_is_right (some h) [] = [.byr h, .emp, .emp, .emp, .emp, .emp, .emp, .emp, .emp, .emp, .emp, .emp] := rfl
  rw [s0]
  generalize run Ir.T 38 = C at *
  let ρ0 : Ro := [.byr h1, .pur (.tuple (rs.map .int)), .pur (.str (brText rs)), .emp, .emp, .emp, .emp, .emp, .emp, .emp, .emp, .emp]
  have f1 : execs C Ir.f__law_is_right.body [.byr h, .emp, .emp, .emp, .emp, .emp, .emp, .emp, .emp, .emp, .emp, .emp] = execs C (match Ir.f__law_is_right.body with | .cons _ (.cons _ (.cons _ r)) => r | r => r) ρ0 := by
    unfold Ir.f__law_is_right
    rw [x_cons (ρ1 := [.byr h1, .pur (.tuple (rs.map .int)), .emp, .emp, .emp, .emp, .emp, .emp, .emp, .emp, .emp, .emp]) (by
      simp [exec, ev, evs, gv, okSt, effE, effs, noScr, isOwn, e1, settleA, settle, bindV, noByr, p1]),
      x_cons (ρ1 := ρ0) (by
      simp [exec, ev, evs, gv, okSt, effE, effs, noScr, isOwn, e2, settleA, settle, bindV, noByr, pur, ρ0]),
      x_cons (ρ1 := ρ0) (by
      simp [exec, evT, ev, evs, gv, okSt, effE, effs, noScr, e2, e3, e4, e5, e6, truD, execs, pur, ρ0])]
  rw [f1]
  let ρ1 : Ro := gnRo h2 (.tuple (rs.map .int)) (.str (brText rs)) .emp (1 + q) [] 0 0 .emp
  let ρ2 : Ro := gnRo h3 (.tuple (rs.map .int)) (.str (brText rs)) s3 (1 + q) bs (1 + q) (1 + q) s9
  let ρ3 : Ro := [.byr h3, .pur (.tuple (rs.map .int)), .pur (.str (brText rs)), s3, .pur (.tuple (ts.map .int)), .pur (.int (1 + q)), .pur (.str (txt bs)), .pur (.int (1 + q)), .pur (.int (1 + q)), s9, .emp, .emp]
  have t0 : Str.ofString "" = txt [] := rfl
  have g1 : exec C (.asg (.t4 (.nm 5) (.nm 6) (.nm 7) (.nm 8)) (.tup (.cons (.bin .Add (.int 1) (.fref 7 0 (.cons (.int 12) .nil))) (.cons (.str (Str.ofString "")) (.cons (.int 0) (.cons (.int 0) .nil)))))) ρ0 = some (.nx ρ1) := by
    simp [exec, ev, evs, gv, okSt, effE, effs, noScr, isOwn, e7, binop, settles, settleA, settle, lim, bindV, noByr, pur, ρ0, ρ1, gnRo, t0]
  have g2 : evI C (.rng1 (.bin .Mult (.int 2) (.var 5))) ρ1 = some (rangeD 0 (2 * (1 + q)).toNat, [], ρ1) := by
    have c1 : 2 * (1 + q) < (lim : Int) ∧ -(lim : Int) < 2 * (1 + q) := by simp [lim]; omega
    have c2 : mulOk 2 (1 + q) = true := by simp [mulOk, mulSm]
    simp only [evI, ev, gv, ρ1, gnRo, List.getElem?_cons_succ, List.getElem?_cons_zero, okSt, noScr, binop, c2, if_true, Bool.and_true]
    rw [if_pos c1]
  have g3 := (x_for (C := C) (g := .nm 3) (b := gnBody) (turn := fun x ρ => (bindV (.nm 3) x .froz ρ).bind (execs C gnBody)) g2 rfl fun _ _ => rfl).trans e8
  have g4 : exec C (.asg (.nm 4) (.fcall 5 (.cons (.var 6) .nil))) ρ2 = some (.nx ρ3) := by
    simp [exec, ev, evs, gv, okSt, effE, effs, noScr, e9, settleA, settle, bindV, noByr, p2, ρ2, ρ3, gnRo]
  have g5 : exec C (.ifs (.or (.cmp (.cmp .NotEq (.bcall .len (.cons (.var 4) .nil)) (.var 5))) (.one (.cmp (.cmp .NotEq (.bcall .list (.cons (.var 4) .nil)) (.bcall .sorted (.cons (.var 4) .nil)))))) (.cons (.ret (.bl false)) .nil) .nil) ρ3 = some (.nx ρ3) := by
    have n1 : cmpop .NotEq (.int (ts.length : Int)) (.int (1 + q)) = some false := by simp [cmpop, eqD, l2]
    have n2 := ne_ints ts
    simp [exec, evT, ev, evs, gv, okSt, effE, effs, noScr, bi, n1, n2, p3, mt, so, execs, ρ3]
  have ei : evI C (.enum (.var 4)) ρ3 = some (enumD 0 (ts.map .int), [.fresh], ρ3) := by
    simp [evI, ev, gv, ρ3]
  have m1 := ev_lc_map (C := C) (own := [10, 11]) (elt := .chain .LtE .Lt (.var 10) (.var 11) (.var 5)) (g := .t2 (.nm 10) (.nm 11)) (t := .yes) (ρ2 := ρ3) (fun _ => PyData.bool true) ei rfl rfl (fun x m => by
    obtain ⟨i, o, rfl, ho⟩ := enum_mem m
    obtain ⟨b1, b2⟩ := rc2.at_ i o ho
    refine ⟨[.byr h3, .pur (.tuple (rs.map .int)), .pur (.str (brText rs)), s3, .pur (.tuple (ts.map .int)), .pur (.int (1 + q)), .pur (.str (txt bs)), .pur (.int (1 + q)), .pur (.int (1 + q)), s9, .pur (.int ((0 + i : Nat) : Int)), .pur (.int o)], [.byr h3, .pur (.tuple (rs.map .int)), .pur (.str (brText rs)), s3, .pur (.tuple (ts.map .int)), .pur (.int (1 + q)), .pur (.str (txt bs)), .pur (.int (1 + q)), .pur (.int (1 + q)), s9, .pur (.int ((0 + i : Nat) : Int)), .pur (.int o)], .fresh, [.byr h3, .pur (.tuple (rs.map .int)), .pur (.str (brText rs)), s3, .pur (.tuple (ts.map .int)), .pur (.int (1 + q)), .pur (.str (txt bs)), .pur (.int (1 + q)), .pur (.int (1 + q)), s9, .pur (.int ((0 + i : Nat) : Int)), .pur (.int o)], [.byr h3, .pur (.tuple (rs.map .int)), .pur (.str (brText rs)), s3, .pur (.tuple (ts.map .int)), .pur (.int (1 + q)), .pur (.str (txt bs)), .pur (.int (1 + q)), .pur (.int (1 + q)), s9, .pur (.int ((0 + i : Nat) : Int)), .pur (.int o)], ?_, rfl, ?_, rfl, ?_⟩
    · simp [bindV, noByr, pur, ρ3]
    · have c1 : (i : Int) ≤ o := b1
      have c2 : ¬ o < (i : Int) := by omega
      have c3 : o < 1 + q := by omega
      simp [ev, evs, gv, okSt, effE, effs, noScr, cmpop, ltD, c2, c3]
    · simp [hide, ρ3]) (by rw [enum_len]; simp [lim]; omega)
  have g6 : exec C (.ifs (.not (.tru (.bcall .all (.cons (.lc [10, 11] (.chain .LtE .Lt (.var 10) (.var 11) (.var 5)) (.t2 (.nm 10) (.nm 11)) (.enum (.var 4)) .yes) .nil)))) (.cons (.ret (.bl false)) .nil) .nil) ρ3 = some (.nx ρ3) := by
    have u : unhide ρ3 ρ3 [10, 11] = ρ3 := rfl
    rw [u] at m1
    rw [x_ifs (evT_not (evT_tru (ev_bi1 m1 (all_true _)) rfl))]
    rfl
  have g7 : exec C (.ret (.cmp .Eq (.fcall 3 (.cons (.var 4) .nil)) (.var 6))) ρ3 = some (.rt (.bool true) ρ3) := by
    have n1 := eq_str (txt bs)
    simp [exec, ev, evs, gv, okSt, effE, effs, noScr, e10, n1, settle, ρ3]
  have f2 : execs C (match Ir.f__law_is_right.body with | .cons _ (.cons _ (.cons _ r)) => r | r => r) ρ0 = some (.rt (.bool true) ρ3) := by
    unfold Ir.f__law_is_right
    exact (x_cons g1).trans ((x_cons g3).trans ((x_cons g4).trans ((x_cons g5).trans ((x_cons g6).trans (x_last g7)))))
  rw [f2]
  rfl
theorem law38 (C : CallF) {s h0 h1 h2 h3 h4 h5 h6 h7 h8 h9 ha : D} (ps : pur s = false) (p0 : pur h0 = false) (p1 : pur h1 = false) (p2 : pur h2 = false) (p3 : pur h3 = false) (p4 : pur h4 = false) (p5 : pur h5 = false) (p6 : pur h6 = false) (p7 : pur h7 = false) (p8 : pur h8 = false) (p9 : pur h9 = false)
  (e0 : C 6 none [s] = some (h0, none)) (g1 : C 3 none [.tuple [.int 0, .int 1]] = some (.str (Str.ofString "()()"), none)) (g2 : C 3 none [.tuple [.int 1, .int 1]] = some (.str (Str.ofString "(())"), none)) (g3 : C 5 none [.str (Str.ofString "(()())")] = some (.tuple [.int 1, .int 2, .int 2], none))
  (e1 : C 12 (some h0) [] = some (.bool true, some h1)) (e2 : C 12 (some h1) [] = some (.bool true, some h2)) (e3 : C 12 (some h2) [] = some (.bool true, some h3)) (e4 : C 12 (some h3) [] = some (.bool true, some h4)) (e5 : C 12 (some h4) [] = some (.bool true, some h5))
  (e6 : C 12 (some h5) [] = some (.bool true, some h6)) (e7 : C 12 (some h6) [] = some (.bool true, some h7)) (e8 : C 12 (some h7) [] = some (.bool true, some h8)) (e9 : C 12 (some h8) [] = some (.bool true, some h9)) (ea : C 12 (some h9) [] = some (.bool true, some ha)) :
  finish none (execs C Ir.f_law.body (startRo Ir.f_law none [s])) = some (.bool true, none) := by
  have r4 : rangeD 0 10 = [.int 0, .int 1, .int 2, .int 3, .int 4, .int 5, .int 6, .int 7, .int 8, .int 9] := rfl
  have q1 : cmpop .NotEq (.str (Str.ofString "()()")) (.str (Str.ofString "()()")) = some false := by decide +kernel
  have q2 : cmpop .NotEq (.str (Str.ofString "(())")) (.str (Str.ofString "(())")) = some false := by decide +kernel
  have q3 : cmpop .NotEq (.tuple [.int 1, .int 2, .int 2]) (.tuple [.int 1, .int 2, .int 2]) = some false := by decide +kernel
  simp [Ir.f_law, startRo, bindS, finish, execs, exec, evT, evC, evI, ev, evs, evO, gv, isOwn, okSt, noScr, effE, effs, effO, effT, effC, effI, tkE, tks, settle, settles, settleA, bindV, noByr, pur, purs, hide, unhide, lcGo, r4, walkOk, IG.slots, itemsOf, lim, ps, p0, p1, p2, p3, p4, p5, p6, p7, p8, p9, e0, g1, g2, g3, e1, e2, e3, e4, e5, e6, e7, e8, e9, ea, q1, q2, q3, truD, bi, toBls]
theorem Ir.answers (ns : List Int) (hl : ns.length ≤ 63) : ∃ o, run Ir.T 40 13 none [.list (ns.map .int)] = some (.bool true, o) := by
  obtain ⟨h0, e0, q0⟩ := lawHand 38 ns hl
  obtain ⟨h1, e1, q1⟩ := right38 q0
  obtain ⟨h2, e2, q2⟩ := right38 q1
  obtain ⟨h3, e3, q3⟩ := right38 q2
  obtain ⟨h4, e4, q4⟩ := right38 q3
  obtain ⟨h5, e5, q5⟩ := right38 q4
  obtain ⟨h6, e6, q6⟩ := right38 q5
  obtain ⟨h7, e7, q7⟩ := right38 q6
  obtain ⟨h8, e8, q8⟩ := right38 q7
  obtain ⟨h9, e9, q9⟩ := right38 q8
  obtain ⟨ha, ea, qa⟩ := right38 q9
  refine ⟨none, ?_⟩
  rw [run_at (T := Ir.T) (k := 39) (d := Ir.f_law) rfl ⟨rfl, rfl, by decide⟩]
  exact law38 _ rfl (hand_pur q0) (hand_pur q1) (hand_pur q2) (hand_pur q3) (hand_pur q4) (hand_pur q5) (hand_pur q6) (hand_pur q7) (hand_pur q8) (hand_pur q9) e0 (isOutN_eq (by decide +kernel)) (isOutN_eq (by decide +kernel)) (isOutN_eq (by decide +kernel)) e1 e2 e3 e4 e5 e6 e7 e8 e9 ea
end Zr

set_option maxRecDepth 100000
set_option maxHeartbeats 0
namespace Zr
open PySem PySem.Spec PyProof.Rows L2
namespace Ir
def row (i : Nat) : Stmt := PySem.Challenge.rw_cutrooms_k38_whole_reaches_and_brackets.prog.main.body.getD i (.Pass ⟨0, 0, 0, 0⟩)
def tab : List (Stmt × List Str × List Str) := [(row 5, [(Str.ofString "thing")], [(Str.ofString "thing")]),
  (row 6, [(Str.ofString "thing"), (Str.ofString "low"), (Str.ofString "high")], [(Str.ofString "thing"), (Str.ofString "low"), (Str.ofString "high")]),
  (row 11, [(Str.ofString "thing"), (Str.ofString "most"), (Str.ofString "at"), (Str.ofString "one")], [(Str.ofString "thing"), (Str.ofString "most")]),
  (row 12, [(Str.ofString "reach"), (Str.ofString "one"), (Str.ofString "found"), (Str.ofString "here")], [(Str.ofString "reach")]),
  (row 13, [(Str.ofString "thing"), (Str.ofString "level"), (Str.ofString "sign")], [(Str.ofString "thing")]),
  (row 14, [(Str.ofString "brackets"), (Str.ofString "sign"), (Str.ofString "found"), (Str.ofString "here")], [(Str.ofString "brackets")]),
  (row 16, [(Str.ofString "script"), (Str.ofString "cells_here"), (Str.ofString "cell")], [(Str.ofString "script")]),
  (row 17, [(Str.ofString "hand"), (Str.ofString "many"), (Str.ofString "number"), (Str.ofString "cell"), (Str.ofString "digit")], [(Str.ofString "hand"), (Str.ofString "many")]),
  (row 18, [(Str.ofString "hand"), (Str.ofString "things")], [(Str.ofString "hand"), (Str.ofString "things")]),
  (row 19, [(Str.ofString "came"), (Str.ofString "due"), (Str.ofString "one"), (Str.ofString "other")], [(Str.ofString "came"), (Str.ofString "due")]),
  (row 20, [(Str.ofString "reach"), (Str.ofString "one"), (Str.ofString "found"), (Str.ofString "last")], [(Str.ofString "reach")]),
  (row 21, [(Str.ofString "hand"), (Str.ofString "most"), (Str.ofString "at"), (Str.ofString "many"), (Str.ofString "found"), (Str.ofString "low")], [(Str.ofString "hand"), (Str.ofString "most")]),
  (row 22, [(Str.ofString "hand"), (Str.ofString "reach"), (Str.ofString "text"), (Str.ofString "lap"), (Str.ofString "told"), (Str.ofString "many"), (Str.ofString "found"), (Str.ofString "opened"), (Str.ofString "shut"), (Str.ofString "is_open"), (Str.ofString "at"), (Str.ofString "one")], [(Str.ofString "hand")]),
  (row 23, [(Str.ofString "script"), (Str.ofString "hand"), (Str.ofString "lap_no")], [(Str.ofString "script")])]
def G : Gx := ⟨T.map fun d => (d.name, d.nparams, d.mode), [((Str.ofString "MOST_REACH"), (.int 30)), ((Str.ofString "OPEN"), (.str (Str.ofString "("))), ((Str.ofString "CLOSE"), (.str (Str.ofString ")")))], [(Str.ofString "bool"), (Str.ofString "len"), (Str.ofString "abs"), (Str.ofString "int"), (Str.ofString "max"), (Str.ofString "min"), (Str.ofString "all"), (Str.ofString "sorted"), (Str.ofString "tuple"), (Str.ofString "list"), (Str.ofString "repr"), (Str.ofString "str"), (Str.ofString "isinstance"), (Str.ofString "range"), (Str.ofString "enumerate"), (Str.ofString "zip")]⟩
theorem chk : (T.zip tab).all (fun p => fnC G p.1 p.2.1 p.2.2.1 p.2.2.2) = true := by decide +kernel
end Ir
namespace Ir
theorem stand {K : PySem.W.Frag} {h : Heap} {mg : Str → Option Value} {P : Program} {w : World} (X : K.In h) (B : h.Ns mainGlobals mg)
    {f0 : Addr} {od0 an0 : Option Addr} {sl0 : Array (Option Value)} {oc0 kV0 dc0 pm0 cd0 ct0 : Value} {f1 : Addr} {od1 an1 : Option Addr} {sl1 : Array (Option Value)} {oc1 kV1 dc1 pm1 cd1 ct1 : Value} {f2 : Addr} {od2 an2 : Option Addr} {sl2 : Array (Option Value)} {oc2 kV2 dc2 pm2 cd2 ct2 : Value} {f3 : Addr} {od3 an3 : Option Addr} {sl3 : Array (Option Value)} {oc3 kV3 dc3 pm3 cd3 ct3 : Value} {f4 : Addr} {od4 an4 : Option Addr} {sl4 : Array (Option Value)} {oc4 kV4 dc4 pm4 cd4 ct4 : Value} {f5 : Addr} {od5 an5 : Option Addr} {sl5 : Array (Option Value)} {oc5 kV5 dc5 pm5 cd5 ct5 : Value} {f6 : Addr} {od6 an6 : Option Addr} {sl6 : Array (Option Value)} {oc6 kV6 dc6 pm6 cd6 ct6 : Value} {f7 : Addr} {od7 an7 : Option Addr} {sl7 : Array (Option Value)} {oc7 kV7 dc7 pm7 cd7 ct7 : Value} {f8 : Addr} {od8 an8 : Option Addr} {sl8 : Array (Option Value)} {oc8 kV8 dc8 pm8 cd8 ct8 : Value} {f9 : Addr} {od9 an9 : Option Addr} {sl9 : Array (Option Value)} {oc9 kV9 dc9 pm9 cd9 ct9 : Value} {f10 : Addr} {od10 an10 : Option Addr} {sl10 : Array (Option Value)} {oc10 kV10 dc10 pm10 cd10 ct10 : Value} {f11 : Addr} {od11 an11 : Option Addr} {sl11 : Array (Option Value)} {oc11 kV11 dc11 pm11 cd11 ct11 : Value} {f12 : Addr} {od12 an12 : Option Addr} {sl12 : Array (Option Value)} {oc12 kV12 dc12 pm12 cd12 ct12 : Value} {f13 : Addr} {od13 an13 : Option Addr} {sl13 : Array (Option Value)} {oc13 kV13 dc13 pm13 cd13 ct13 : Value} {g0t : Tok} {g1t : Tok} {g2t : Tok}
    (a0 : PySem.W.nsIn K mainGlobals (Str.ofString "is_integer") = some (some (.ref f0))) (l0 : K.lookup f0 = some ⟨oc0, od0, .func (PySem.W.fnOf (Str.ofString "is_integer") (Str.ofString "is_integer") (defArgs (row 5)) (defBody (row 5)) (defScope (row 5)) .none kV0 dc0 pm0 an0 cd0 ct0), sl0⟩) (c0 : PySem.W.codeIn K cd0 (Str.ofString "is_integer") = true) (k0 : PySem.W.keepIn K (.ref f0) = true)
    (a1 : PySem.W.nsIn K mainGlobals (Str.ofString "is_within") = some (some (.ref f1))) (l1 : K.lookup f1 = some ⟨oc1, od1, .func (PySem.W.fnOf (Str.ofString "is_within") (Str.ofString "is_within") (defArgs (row 6)) (defBody (row 6)) (defScope (row 6)) .none kV1 dc1 pm1 an1 cd1 ct1), sl1⟩) (c1 : PySem.W.codeIn K cd1 (Str.ofString "is_within") = true) (k1 : PySem.W.keepIn K (.ref f1) = true)
    (a2 : PySem.W.nsIn K mainGlobals (Str.ofString "is_reach") = some (some (.ref f2))) (l2 : K.lookup f2 = some ⟨oc2, od2, .func (PySem.W.fnOf (Str.ofString "is_reach") (Str.ofString "is_reach") (defArgs (row 11)) (defBody (row 11)) (defScope (row 11)) .none kV2 dc2 pm2 an2 cd2 ct2), sl2⟩) (c2 : PySem.W.codeIn K cd2 (Str.ofString "is_reach") = true) (k2 : PySem.W.keepIn K (.ref f2) = true)
    (a3 : PySem.W.nsIn K mainGlobals (Str.ofString "brackets_of") = some (some (.ref f3))) (l3 : K.lookup f3 = some ⟨oc3, od3, .func (PySem.W.fnOf (Str.ofString "brackets_of") (Str.ofString "brackets_of") (defArgs (row 12)) (defBody (row 12)) (defScope (row 12)) .none kV3 dc3 pm3 an3 cd3 ct3), sl3⟩) (c3 : PySem.W.codeIn K cd3 (Str.ofString "brackets_of") = true) (k3 : PySem.W.keepIn K (.ref f3) = true)
    (a4 : PySem.W.nsIn K mainGlobals (Str.ofString "are_brackets") = some (some (.ref f4))) (l4 : K.lookup f4 = some ⟨oc4, od4, .func (PySem.W.fnOf (Str.ofString "are_brackets") (Str.ofString "are_brackets") (defArgs (row 13)) (defBody (row 13)) (defScope (row 13)) .none kV4 dc4 pm4 an4 cd4 ct4), sl4⟩) (c4 : PySem.W.codeIn K cd4 (Str.ofString "are_brackets") = true) (k4 : PySem.W.keepIn K (.ref f4) = true)
    (a5 : PySem.W.nsIn K mainGlobals (Str.ofString "reach_of") = some (some (.ref f5))) (l5 : K.lookup f5 = some ⟨oc5, od5, .func (PySem.W.fnOf (Str.ofString "reach_of") (Str.ofString "reach_of") (defArgs (row 14)) (defBody (row 14)) (defScope (row 14)) .none kV5 dc5 pm5 an5 cd5 ct5), sl5⟩) (c5 : PySem.W.codeIn K cd5 (Str.ofString "reach_of") = true) (k5 : PySem.W.keepIn K (.ref f5) = true)
    (a6 : PySem.W.nsIn K mainGlobals (Str.ofString "_law_hand") = some (some (.ref f6))) (l6 : K.lookup f6 = some ⟨oc6, od6, .func (PySem.W.fnOf (Str.ofString "_law_hand") (Str.ofString "_law_hand") (defArgs (row 16)) (defBody (row 16)) (defScope (row 16)) .none kV6 dc6 pm6 an6 cd6 ct6), sl6⟩) (c6 : PySem.W.codeIn K cd6 (Str.ofString "_law_hand") = true) (k6 : PySem.W.keepIn K (.ref f6) = true)
    (a7 : PySem.W.nsIn K mainGlobals (Str.ofString "_law_draw") = some (some (.ref f7))) (l7 : K.lookup f7 = some ⟨oc7, od7, .func (PySem.W.fnOf (Str.ofString "_law_draw") (Str.ofString "_law_draw") (defArgs (row 17)) (defBody (row 17)) (defScope (row 17)) .none kV7 dc7 pm7 an7 cd7 ct7), sl7⟩) (c7 : PySem.W.codeIn K cd7 (Str.ofString "_law_draw") = true) (k7 : PySem.W.keepIn K (.ref f7) = true)
    (a8 : PySem.W.nsIn K mainGlobals (Str.ofString "_law_any") = some (some (.ref f8))) (l8 : K.lookup f8 = some ⟨oc8, od8, .func (PySem.W.fnOf (Str.ofString "_law_any") (Str.ofString "_law_any") (defArgs (row 18)) (defBody (row 18)) (defScope (row 18)) .none kV8 dc8 pm8 an8 cd8 ct8), sl8⟩) (c8 : PySem.W.codeIn K cd8 (Str.ofString "_law_any") = true) (k8 : PySem.W.keepIn K (.ref f8) = true)
    (a9 : PySem.W.nsIn K mainGlobals (Str.ofString "_law_is") = some (some (.ref f9))) (l9 : K.lookup f9 = some ⟨oc9, od9, .func (PySem.W.fnOf (Str.ofString "_law_is") (Str.ofString "_law_is") (defArgs (row 19)) (defBody (row 19)) (defScope (row 19)) .none kV9 dc9 pm9 an9 cd9 ct9), sl9⟩) (c9 : PySem.W.codeIn K cd9 (Str.ofString "_law_is") = true) (k9 : PySem.W.keepIn K (.ref f9) = true)
    (a10 : PySem.W.nsIn K mainGlobals (Str.ofString "_law_brackets") = some (some (.ref f10))) (l10 : K.lookup f10 = some ⟨oc10, od10, .func (PySem.W.fnOf (Str.ofString "_law_brackets") (Str.ofString "_law_brackets") (defArgs (row 20)) (defBody (row 20)) (defScope (row 20)) .none kV10 dc10 pm10 an10 cd10 ct10), sl10⟩) (c10 : PySem.W.codeIn K cd10 (Str.ofString "_law_brackets") = true) (k10 : PySem.W.keepIn K (.ref f10) = true)
    (a11 : PySem.W.nsIn K mainGlobals (Str.ofString "_law_long_reach") = some (some (.ref f11))) (l11 : K.lookup f11 = some ⟨oc11, od11, .func (PySem.W.fnOf (Str.ofString "_law_long_reach") (Str.ofString "_law_long_reach") (defArgs (row 21)) (defBody (row 21)) (defScope (row 21)) .none kV11 dc11 pm11 an11 cd11 ct11), sl11⟩) (c11 : PySem.W.codeIn K cd11 (Str.ofString "_law_long_reach") = true) (k11 : PySem.W.keepIn K (.ref f11) = true)
    (a12 : PySem.W.nsIn K mainGlobals (Str.ofString "_law_is_right") = some (some (.ref f12))) (l12 : K.lookup f12 = some ⟨oc12, od12, .func (PySem.W.fnOf (Str.ofString "_law_is_right") (Str.ofString "_law_is_right") (defArgs (row 22)) (defBody (row 22)) (defScope (row 22)) .none kV12 dc12 pm12 an12 cd12 ct12), sl12⟩) (c12 : PySem.W.codeIn K cd12 (Str.ofString "_law_is_right") = true) (k12 : PySem.W.keepIn K (.ref f12) = true)
    (a13 : PySem.W.nsIn K mainGlobals (Str.ofString "law") = some (some (.ref f13))) (l13 : K.lookup f13 = some ⟨oc13, od13, .func (PySem.W.fnOf (Str.ofString "law") (Str.ofString "law") (defArgs (row 23)) (defBody (row 23)) (defScope (row 23)) .none kV13 dc13 pm13 an13 cd13 ct13), sl13⟩) (c13 : PySem.W.codeIn K cd13 (Str.ofString "law") = true) (k13 : PySem.W.keepIn K (.ref f13) = true)
    (b0 : PySem.W.nsIn K mainGlobals (Str.ofString "bool") = some none)
    (b1 : PySem.W.nsIn K mainGlobals (Str.ofString "len") = some none)
    (b2 : PySem.W.nsIn K mainGlobals (Str.ofString "abs") = some none)
    (b3 : PySem.W.nsIn K mainGlobals (Str.ofString "int") = some none)
    (b4 : PySem.W.nsIn K mainGlobals (Str.ofString "max") = some none)
    (b5 : PySem.W.nsIn K mainGlobals (Str.ofString "min") = some none)
    (b6 : PySem.W.nsIn K mainGlobals (Str.ofString "all") = some none)
    (b7 : PySem.W.nsIn K mainGlobals (Str.ofString "sorted") = some none)
    (b8 : PySem.W.nsIn K mainGlobals (Str.ofString "tuple") = some none)
    (b9 : PySem.W.nsIn K mainGlobals (Str.ofString "list") = some none)
    (b10 : PySem.W.nsIn K mainGlobals (Str.ofString "repr") = some none)
    (b11 : PySem.W.nsIn K mainGlobals (Str.ofString "str") = some none)
    (b12 : PySem.W.nsIn K mainGlobals (Str.ofString "isinstance") = some none)
    (b13 : PySem.W.nsIn K mainGlobals (Str.ofString "range") = some none)
    (b14 : PySem.W.nsIn K mainGlobals (Str.ofString "enumerate") = some none)
    (b15 : PySem.W.nsIn K mainGlobals (Str.ofString "zip") = some none)
    (con0 : PySem.W.nsIn K mainGlobals (Str.ofString "MOST_REACH") = some (some (.int 30 g0t)))
    (con1 : PySem.W.nsIn K mainGlobals (Str.ofString "OPEN") = some (some (.str (Str.ofString "(") g1t)))
    (con2 : PySem.W.nsIn K mainGlobals (Str.ofString "CLOSE") = some (some (.str (Str.ofString ")") g2t)))
    : Tab P w K mg G T tab := by
  refine tab_mk rfl rfl chk ?_ ?_ ?_
  · exact .cons ⟨f0, _, fun_mk l0 c0 k0, PySem.W.mg_of X B a0, (fun_mk (st := row 5) l0 c0 k0).binds fun _ _ _ _ _ _ us hl => match us, hl with | [_], _ => rfl⟩ (.cons ⟨f1, _, fun_mk l1 c1 k1, PySem.W.mg_of X B a1, (fun_mk (st := row 6) l1 c1 k1).binds fun _ _ _ _ _ _ us hl => match us, hl with | [_, _, _], _ => rfl⟩ (.cons ⟨f2, _, fun_mk l2 c2 k2, PySem.W.mg_of X B a2, (fun_mk (st := row 11) l2 c2 k2).binds fun _ _ _ _ _ _ us hl => match us, hl with | [_, _], _ => rfl⟩ (.cons ⟨f3, _, fun_mk l3 c3 k3, PySem.W.mg_of X B a3, (fun_mk (st := row 12) l3 c3 k3).binds fun _ _ _ _ _ _ us hl => match us, hl with | [_], _ => rfl⟩ (.cons ⟨f4, _, fun_mk l4 c4 k4, PySem.W.mg_of X B a4, (fun_mk (st := row 13) l4 c4 k4).binds fun _ _ _ _ _ _ us hl => match us, hl with | [_], _ => rfl⟩ (.cons ⟨f5, _, fun_mk l5 c5 k5, PySem.W.mg_of X B a5, (fun_mk (st := row 14) l5 c5 k5).binds fun _ _ _ _ _ _ us hl => match us, hl with | [_], _ => rfl⟩ (.cons ⟨f6, _, fun_mk l6 c6 k6, PySem.W.mg_of X B a6, (fun_mk (st := row 16) l6 c6 k6).binds fun _ _ _ _ _ _ us hl => match us, hl with | [_], _ => rfl⟩ (.cons ⟨f7, _, fun_mk l7 c7 k7, PySem.W.mg_of X B a7, (fun_mk (st := row 17) l7 c7 k7).binds fun _ _ _ _ _ _ us hl => match us, hl with | [_, _], _ => rfl⟩ (.cons ⟨f8, _, fun_mk l8 c8 k8, PySem.W.mg_of X B a8, (fun_mk (st := row 18) l8 c8 k8).binds fun _ _ _ _ _ _ us hl => match us, hl with | [_, _], _ => rfl⟩ (.cons ⟨f9, _, fun_mk l9 c9 k9, PySem.W.mg_of X B a9, (fun_mk (st := row 19) l9 c9 k9).binds fun _ _ _ _ _ _ us hl => match us, hl with | [_, _], _ => rfl⟩ (.cons ⟨f10, _, fun_mk l10 c10 k10, PySem.W.mg_of X B a10, (fun_mk (st := row 20) l10 c10 k10).binds fun _ _ _ _ _ _ us hl => match us, hl with | [_], _ => rfl⟩ (.cons ⟨f11, _, fun_mk l11 c11 k11, PySem.W.mg_of X B a11, (fun_mk (st := row 21) l11 c11 k11).binds fun _ _ _ _ _ _ us hl => match us, hl with | [_, _], _ => rfl⟩ (.cons ⟨f12, _, fun_mk l12 c12 k12, PySem.W.mg_of X B a12, (fun_mk (st := row 22) l12 c12 k12).binds fun _ _ _ _ _ _ us hl => match us, hl with | [_], _ => rfl⟩ (.cons ⟨f13, _, fun_mk l13 c13 k13, PySem.W.mg_of X B a13, (fun_mk (st := row 23) l13 c13 k13).binds fun _ _ _ _ _ _ us hl => match us, hl with | [_], _ => rfl⟩ (.nil))))))))))))))
  · intro x m
    simp only [G, List.mem_cons, List.not_mem_nil, or_false] at m
    rcases m with rfl | rfl | rfl | rfl | rfl | rfl | rfl | rfl | rfl | rfl | rfl | rfl | rfl | rfl | rfl | rfl
    · exact PySem.W.mg_none_of X B b0
    · exact PySem.W.mg_none_of X B b1
    · exact PySem.W.mg_none_of X B b2
    · exact PySem.W.mg_none_of X B b3
    · exact PySem.W.mg_none_of X B b4
    · exact PySem.W.mg_none_of X B b5
    · exact PySem.W.mg_none_of X B b6
    · exact PySem.W.mg_none_of X B b7
    · exact PySem.W.mg_none_of X B b8
    · exact PySem.W.mg_none_of X B b9
    · exact PySem.W.mg_none_of X B b10
    · exact PySem.W.mg_none_of X B b11
    · exact PySem.W.mg_none_of X B b12
    · exact PySem.W.mg_none_of X B b13
    · exact PySem.W.mg_none_of X B b14
    · exact PySem.W.mg_none_of X B b15
  · intro p m
    simp only [G, List.mem_cons, List.not_mem_nil, or_false] at m
    rcases m with rfl | rfl | rfl
    · exact ⟨_, .int 30, PySem.W.mg_of X B con0, ⟨_, rfl⟩, fun _ => .int _⟩
    · exact ⟨_, .str (Str.ofString "("), PySem.W.mg_of X B con1, ⟨_, rfl⟩, fun _ => .str _⟩
    · exact ⟨_, .str (Str.ofString ")"), PySem.W.mg_of X B con2, ⟨_, rfl⟩, fun _ => .str _⟩
end Ir
end Zr
open Zr
open PySem PySem.W PyProof.Rows in
set_option maxRecDepth 100000 in
set_option maxHeartbeats 0 in
theorem PySem.Challenge.cw_cutrooms_k38_whole_reaches_and_brackets_holds : PySem.Challenge.rw_cutrooms_k38_whole_reaches_and_brackets.Holds := by
  w_on; o_law; k_head; (case hw => w_witness2)
  k_fill
  refine Zr.walkZ (l := PySem.Challenge.rw_cutrooms_k38_whole_reaches_and_brackets) (most := 63) (lv := 40) (T := Ir.T) (tab := Ir.tab) (G := Ir.G) (iL := 13) (x := "script") rfl (by decide) rfl ⟨rfl, by decide, by decide⟩ (fun w h Y => PySem.W.kIn_of Y) ?F ⟨_, _, rfl, rfl, rfl, rfl, rfl⟩ Ir.answers
  case F =>
    intro w mg h KX G
    refine' Ir.stand KX G ?a0 ?l0 ?c0 ?k0 ?a1 ?l1 ?c1 ?k1 ?a2 ?l2 ?c2 ?k2 ?a3 ?l3 ?c3 ?k3 ?a4 ?l4 ?c4 ?k4 ?a5 ?l5 ?c5 ?k5 ?a6 ?l6 ?c6 ?k6 ?a7 ?l7 ?c7 ?k7 ?a8 ?l8 ?c8 ?k8 ?a9 ?l9 ?c9 ?k9 ?a10 ?l10 ?c10 ?k10 ?a11 ?l11 ?c11 ?k11 ?a12 ?l12 ?c12 ?k12 ?a13 ?l13 ?c13 ?k13 ?b0 ?b1 ?b2 ?b3 ?b4 ?b5 ?b6 ?b7 ?b8 ?b9 ?b10 ?b11 ?b12 ?b13 ?b14 ?b15 ?con0 ?con1 ?con2
    (case a0 => k_is)
    (case l0 => k_is)
    (case c0 => k_is)
    (case k0 => k_is)
    (case a1 => k_is)
    (case l1 => k_is)
    (case c1 => k_is)
    (case k1 => k_is)
    (case a2 => k_is)
    (case l2 => k_is)
    (case c2 => k_is)
    (case k2 => k_is)
    (case a3 => k_is)
    (case l3 => k_is)
    (case c3 => k_is)
    (case k3 => k_is)
    (case a4 => k_is)
    (case l4 => k_is)
    (case c4 => k_is)
    (case k4 => k_is)
    (case a5 => k_is)
    (case l5 => k_is)
    (case c5 => k_is)
    (case k5 => k_is)
    (case a6 => k_is)
    (case l6 => k_is)
    (case c6 => k_is)
    (case k6 => k_is)
    (case a7 => k_is)
    (case l7 => k_is)
    (case c7 => k_is)
    (case k7 => k_is)
    (case a8 => k_is)
    (case l8 => k_is)
    (case c8 => k_is)
    (case k8 => k_is)
    (case a9 => k_is)
    (case l9 => k_is)
    (case c9 => k_is)
    (case k9 => k_is)
    (case a10 => k_is)
    (case l10 => k_is)
    (case c10 => k_is)
    (case k10 => k_is)
    (case a11 => k_is)
    (case l11 => k_is)
    (case c11 => k_is)
    (case k11 => k_is)
    (case a12 => k_is)
    (case l12 => k_is)
    (case c12 => k_is)
    (case k12 => k_is)
    (case a13 => k_is)
    (case l13 => k_is)
    (case c13 => k_is)
    (case k13 => k_is)
    (case b0 => k_is)
    (case b1 => k_is)
    (case b2 => k_is)
    (case b3 => k_is)
    (case b4 => k_is)
    (case b5 => k_is)
    (case b6 => k_is)
    (case b7 => k_is)
    (case b8 => k_is)
    (case b9 => k_is)
    (case b10 => k_is)
    (case b11 => k_is)
    (case b12 => k_is)
    (case b13 => k_is)
    (case b14 => k_is)
    (case b15 => k_is)
    (case con0 => k_is)
    (case con1 => k_is)
    (case con2 => k_is)
