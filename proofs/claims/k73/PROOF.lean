import PyProof.Rows.All
import Wide.All
import OpenK.AllK
import Wide.FinOn
import HandS.ForMost
import HandS.Exc
import HandS.WordsExc
import HandS.Walk
import HandS.Flow
import HandS.IsInst
import HandS.Wide
import KE.DataCmp
import KE.DataEq
import PyProof.SliceList
import KE.DataIsa
import PyProof.ReprReads
import HandS.TupAny
import KE.SortData
import HandS.SortInts
import PyProof.ReprRoads
import PyProof.CallFns
import PyProof.TupleOfSeq
import HandS.Conv
import HandS.Style
import HandS.Deep
import HandS.Text
import HandS.SetFor
import KE.GoesMore
import PyProof.WalkInts
import PyProof.SumWalkG
import HandS.Zip
import KE.GoesEnum
import KE.KDictZip
import HandS.Words
import HandS.Ends
import HandS.HeadHook3
import PyProof.ReprLen
import PyProof.Rows.RegStrFacts
import PySem.Challenge.RW_cutrooms_k73_whole_polynomials_turned_ab
set_option Elab.async false
set_option linter.all false
set_option maxRecDepth 100000
set_option maxHeartbeats 4000000
/-! ZrA: data (PyData) as it lies in the abstract heap: borrowed, owned; slots; worlds; steps. -/
namespace Zr
open PySem PySem.Spec PyProof.Rows L2

abbrev D := PyData
abbrev Fr' := PySem.W.Frag

mutual
def pur : D → Bool
  | .none => true
  | .bool _ => true
  | .int _ => true
  | .str _ => true
  | .tuple xs => purs xs
  | .list _ => false
  | .dict _ => false
def purs : List D → Bool
  | [] => true
  | x :: xs => pur x && purs xs
end

/-- objects that may change -/
def Lst : HO → Prop
  | .lst _ => True
  | .dK _ => True
  | .dT _ => True
  | _ => False

/-- a list of the written part -/
def KL (K : Fr') (a : Addr) (xs : List V) : Prop :=
  ∃ (o : Obj) (its : Array Value) (n : Nat), K.lookup a = some o ∧ o.cls = .type "list" ∧
    o.dict = none ∧ o.data = .seq its n ∧ its.size ≤ sizeLine ∧ Vals xs its.toList
/-- a list that is only read: locked, or of the written part -/
def Scr (K : Fr') (H : Hp) (a : Addr) (xs : List V) : Prop := (∃ o, H a = some (.frz o (.lst xs))) ∨ KL K a xs
theorem Scr.sq {K : Fr'} {H : Hp} {a : Addr} {xs : List V} (h : Scr K H a xs) : SqL K H a xs := h.elim (fun z => .inl (.inr z)) .inr

section
variable (K : Fr') (H : Hp)
mutual
inductive Bor (k : Bool) (P : Addr → Prop) : V → D → Prop
  | non : Bor k P .non .none
  | bl (b : Bool) : Bor k P (.bl b) (.bool b)
  | int (i : Int) : Bor k P (.int i) (.int i)
  | str (x : Str) : Bor k P (.str x) (.str x)
  | tup {a : Addr} {xs : List V} {ds : List D} : SqT K H a xs → BorL k P xs ds → Bor k P (.ref a) (.tuple ds)
  | lst {a : Addr} {xs : List V} {ds : List D} : H a = some (.lst xs) → P a → BorL k P xs ds → Bor k P (.ref a) (.list ds)
  | lsk {a : Addr} {xs : List V} {ds : List D} : k = true → Scr K H a xs → BorL k P xs ds → Bor k P (.ref a) (.list ds)
inductive BorL (k : Bool) (P : Addr → Prop) : List V → List D → Prop
  | nil : BorL k P [] []
  | cons {v : V} {vs : List V} {d : D} {ds : List D} : Bor k P v d → BorL k P vs ds → BorL k P (v :: vs) (d :: ds)
end
mutual
inductive Own : V → D → List Addr → Prop
  | non : Own .non .none []
  | bl (b : Bool) : Own (.bl b) (.bool b) []
  | int (i : Int) : Own (.int i) (.int i) []
  | str (x : Str) : Own (.str x) (.str x) []
  | tup {a : Addr} {xs : List V} {ds : List D} {A : List Addr} : SqT K H a xs → OwnL xs ds A → Own (.ref a) (.tuple ds) A
  | lst {a : Addr} {xs : List V} {ds : List D} {A : List Addr} : H a = some (.lst xs) → OwnL xs ds A → Own (.ref a) (.list ds) (a :: A)
inductive OwnL : List V → List D → List Addr → Prop
  | nil : OwnL [] [] []
  | cons {v : V} {vs : List V} {d : D} {ds : List D} {A B : List Addr} : Own v d A → OwnL vs ds B → OwnL (v :: vs) (d :: ds) (A ++ B)
end
end

section
variable {K : Fr'} {H H' : Hp} {P P' : Addr → Prop} {b : Bool}
theorem rd_keepT {a : Addr} {xs : List V} (k : ∀ a o, H a = some o → (Lst o → P a) → H' a = some o) (h : Rd H a (.tup xs)) : Rd H' a (.tup xs) := by
  rcases h with h | ⟨o, h⟩
  · exact .inl (k _ _ h fun z => z.elim)
  · exact .inr ⟨o, k _ _ h fun z => z.elim⟩
theorem scr_keep {a : Addr} {xs : List V} (k : ∀ a o, H a = some o → (Lst o → P a) → H' a = some o) (h : Scr K H a xs) : Scr K H' a xs := h.imp (fun ⟨o, e⟩ => ⟨o, k _ _ e fun z => z.elim⟩) id
theorem sqT_keep {a : Addr} {xs : List V} (k : ∀ a o, H a = some o → (Lst o → P a) → H' a = some o) (h : SqT K H a xs) : SqT K H' a xs := by
  rcases h with h | h
  · exact .inl (rd_keepT k h)
  · exact .inr h
mutual
theorem Bor.keep (k : ∀ a o, H a = some o → (Lst o → P a) → H' a = some o) (p : ∀ a, P a → H a ≠ none → P' a) : ∀ {v : V} {d : D}, Bor K H b P v d → Bor K H' b P' v d
  | _, _, .non => .non
  | _, _, .bl b => .bl b
  | _, _, .int i => .int i
  | _, _, .str x => .str x
  | _, _, .tup h t => .tup (sqT_keep k h) (BorL.keep k p t)
  | _, _, .lst h q t => .lst (k _ _ h fun _ => q) (p _ q (by rw [h]; exact fun z => nomatch z)) (BorL.keep k p t)
  | _, _, .lsk e h t => .lsk e (scr_keep k h) (BorL.keep k p t)
theorem BorL.keep (k : ∀ a o, H a = some o → (Lst o → P a) → H' a = some o) (p : ∀ a, P a → H a ≠ none → P' a) : ∀ {vs : List V} {ds : List D}, BorL K H b P vs ds → BorL K H' b P' vs ds
  | _, _, .nil => .nil
  | _, _, .cons h t => .cons (Bor.keep k p h) (BorL.keep k p t)
end
mutual
theorem Bor.wide : ∀ {v : V} {d : D}, Bor K H b P v d → Bor K H true P v d
  | _, _, .non => .non
  | _, _, .bl b => .bl b
  | _, _, .int i => .int i
  | _, _, .str x => .str x
  | _, _, .tup h t => .tup h (BorL.wide t)
  | _, _, .lst h q t => .lst h q (BorL.wide t)
  | _, _, .lsk e h t => .lsk rfl h (BorL.wide t)
theorem BorL.wide : ∀ {vs : List V} {ds : List D}, BorL K H b P vs ds → BorL K H true P vs ds
  | _, _, .nil => .nil
  | _, _, .cons h t => .cons (Bor.wide h) (BorL.wide t)
end
theorem Bor.imp {v : V} {d : D} (h : Bor K H b P v d) (p : ∀ a, P a → P' a) : Bor K H b P' v d := h.keep (fun _ _ e _ => e) fun a q _ => p a q
theorem BorL.imp {v : List V} {d : List D} (h : BorL K H b P v d) (p : ∀ a, P a → P' a) : BorL K H b P' v d := h.keep (fun _ _ e _ => e) fun a q _ => p a q
mutual
theorem Own.bor : ∀ {v : V} {d : D} {A : List Addr}, Own K H v d A → (∀ a ∈ A, P a) → Bor K H b P v d
  | _, _, _, .non, _ => .non
  | _, _, _, .bl b, _ => .bl b
  | _, _, _, .int i, _ => .int i
  | _, _, _, .str x, _ => .str x
  | _, _, _, .tup h t, p => .tup h (OwnL.bor t p)
  | _, _, _, .lst h t, p => .lst h (p _ List.mem_cons_self) (OwnL.bor t fun a m => p a (List.mem_cons_of_mem _ m))
theorem OwnL.bor : ∀ {vs : List V} {ds : List D} {A : List Addr}, OwnL K H vs ds A → (∀ a ∈ A, P a) → BorL K H b P vs ds
  | _, _, _, .nil, _ => .nil
  | _, _, _, .cons h t, p => .cons (Own.bor h fun a m => p a (List.mem_append_left _ m)) (OwnL.bor t fun a m => p a (List.mem_append_right _ m))
end
mutual
theorem Bor.own : ∀ {v : V} {d : D}, Bor K H b P v d → pur d = true → Own K H v d []
  | _, _, .non, _ => .non
  | _, _, .bl b, _ => .bl b
  | _, _, .int i, _ => .int i
  | _, _, .str x, _ => .str x
  | _, _, .tup h t, p => .tup h (BorL.own t (by simpa [pur] using p))
  | _, _, .lst _ _ _, p => by simp [pur] at p
  | _, _, .lsk _ _ _, p => by simp [pur] at p
theorem BorL.own : ∀ {vs : List V} {ds : List D}, BorL K H b P vs ds → purs ds = true → OwnL K H vs ds []
  | _, _, .nil, _ => .nil
  | _, _, .cons h t, p => by
    simp only [purs, Bool.and_eq_true] at p
    exact OwnL.cons (A := []) (B := []) (Bor.own h p.1) (BorL.own t p.2)
end
mutual
theorem Own.nil_of : ∀ {v : V} {d : D} {A : List Addr}, Own K H v d A → pur d = true → A = []
  | _, _, _, .non, _ => rfl
  | _, _, _, .bl b, _ => rfl
  | _, _, _, .int i, _ => rfl
  | _, _, _, .str x, _ => rfl
  | _, _, _, .tup h t, p => OwnL.nil_of t (by simpa [pur] using p)
  | _, _, _, .lst _ _, p => by simp [pur] at p
theorem OwnL.nil_of : ∀ {vs : List V} {ds : List D} {A : List Addr}, OwnL K H vs ds A → purs ds = true → A = []
  | _, _, _, .nil, _ => rfl
  | _, _, _, .cons h t, p => by
    simp only [purs, Bool.and_eq_true] at p
    rw [Own.nil_of h p.1, OwnL.nil_of t p.2]
    rfl
end
mutual
theorem Own.tr : ∀ {v : V} {d : D} {A : List Addr}, Own K H v d A → ∀ a ∈ A, ∃ o, H a = some o ∧ Lst o
  | _, _, _, .non, _, m => nomatch m
  | _, _, _, .bl b, _, m => nomatch m
  | _, _, _, .int i, _, m => nomatch m
  | _, _, _, .str x, _, m => nomatch m
  | _, _, _, .tup h t, a, m => OwnL.tr t a m
  | _, _, _, .lst h t, a, m => by
    rcases List.mem_cons.mp m with e | m
    · subst e
      exact ⟨_, h, trivial⟩
    · exact OwnL.tr t a m
theorem OwnL.tr : ∀ {vs : List V} {ds : List D} {A : List Addr}, OwnL K H vs ds A → ∀ a ∈ A, ∃ o, H a = some o ∧ Lst o
  | _, _, _, .nil, _, m => nomatch m
  | _, _, _, .cons h t, a, m => (List.mem_append.mp m).elim (Own.tr h a) (OwnL.tr t a)
end
mutual
theorem Own.keep : ∀ {v : V} {d : D} {A : List Addr}, Own K H v d A → (∀ a o, H a = some o → (Lst o → a ∈ A) → H' a = some o) → Own K H' v d A
  | _, _, _, .non, _ => .non
  | _, _, _, .bl b, _ => .bl b
  | _, _, _, .int i, _ => .int i
  | _, _, _, .str x, _ => .str x
  | _, _, _, .tup h t, k => .tup (sqT_keep k h) (OwnL.keep t k)
  | _, _, _, .lst h t, k => .lst (k _ _ h fun _ => List.mem_cons_self) (OwnL.keep t fun a o e f => k a o e fun l => List.mem_cons_of_mem _ (f l))
theorem OwnL.keep : ∀ {vs : List V} {ds : List D} {A : List Addr}, OwnL K H vs ds A → (∀ a o, H a = some o → (Lst o → a ∈ A) → H' a = some o) → OwnL K H' vs ds A
  | _, _, _, .nil, _ => .nil
  | _, _, _, .cons h t, k => .cons (Own.keep h fun a o e f => k a o e fun l => List.mem_append_left _ (f l)) (OwnL.keep t fun a o e f => k a o e fun l => List.mem_append_right _ (f l))
end
theorem BorL.length : ∀ {vs : List V} {ds : List D}, BorL K H b P vs ds → vs.length = ds.length
  | _, _, .nil => rfl
  | _, _, .cons _ t => congrArg (· + 1) t.length
theorem OwnL.length : ∀ {vs : List V} {ds : List D} {A : List Addr}, OwnL K H vs ds A → vs.length = ds.length
  | _, _, _, .nil => rfl
  | _, _, _, .cons _ t => congrArg (· + 1) t.length
theorem BorL.get : ∀ {vs : List V} {ds : List D} {i : Nat} {d : D}, BorL K H b P vs ds → ds[i]? = some d → ∃ v, vs[i]? = some v ∧ Bor K H b P v d
  | _, _, _, _, .nil, e => by simp at e
  | _, _, 0, _, .cons h _, e => by
    simp at e
    subst e
    exact ⟨_, rfl, h⟩
  | _, _, i + 1, _, .cons _ t, e => by
    obtain ⟨v, h1, h2⟩ := BorL.get (i := i) t (by simpa using e)
    exact ⟨v, by simpa using h1, h2⟩
theorem BorL.get' {vs : List V} {ds : List D} {i : Nat} {v : V} (h : BorL K H b P vs ds) (e : vs[i]? = some v) : ∃ d, ds[i]? = some d ∧ Bor K H b P v d := by
  have hi : i < ds.length := by
    rw [← h.length]
    exact (List.getElem?_eq_some_iff.mp e).1
  obtain ⟨w, h1, h2⟩ := h.get (List.getElem?_eq_getElem hi)
  rw [e] at h1
  cases h1
  exact ⟨_, List.getElem?_eq_getElem hi, h2⟩
theorem BorL.append : ∀ {vs ws : List V} {ds es : List D}, BorL K H b P vs ds → BorL K H b P ws es → BorL K H b P (vs ++ ws) (ds ++ es)
  | _, _, _, _, .nil, k => k
  | _, _, _, _, .cons h t, k => .cons h (t.append k)
theorem BorL.take : ∀ {vs : List V} {ds : List D} (n : Nat), BorL K H b P vs ds → BorL K H b P (vs.take n) (ds.take n)
  | _, _, 0, _ => .nil
  | _, _, _ + 1, .nil => .nil
  | _, _, n + 1, .cons h t => .cons h (t.take n)
theorem BorL.drop : ∀ {vs : List V} {ds : List D} (n : Nat), BorL K H b P vs ds → BorL K H b P (vs.drop n) (ds.drop n)
  | _, _, 0, h => h
  | _, _, _ + 1, .nil => .nil
  | _, _, n + 1, .cons _ t => t.drop n
theorem BorL.reverse : ∀ {vs : List V} {ds : List D}, BorL K H b P vs ds → BorL K H b P vs.reverse ds.reverse
  | _, _, .nil => .nil
  | _, _, .cons h t => by
    rw [List.reverse_cons, List.reverse_cons]
    exact t.reverse.append (.cons h .nil)
theorem OwnL.append : ∀ {vs ws : List V} {ds es : List D} {A B : List Addr}, OwnL K H vs ds A → OwnL K H ws es B → OwnL K H (vs ++ ws) (ds ++ es) (A ++ B)
  | _, _, _, _, _, _, .nil, k => k
  | _, _, _, _, _, _, .cons h t, k => by
    rw [List.append_assoc]
    exact .cons h (t.append k)
theorem purs_mem : ∀ {ds : List D}, purs ds = true → ∀ d ∈ ds, pur d = true
  | [], _, _, m => nomatch m
  | x :: xs, h, d, m => by
    simp only [purs, Bool.and_eq_true] at h
    rcases List.mem_cons.mp m with e | m
    · rw [e]
      exact h.1
    · exact purs_mem h.2 d m
theorem purs_of : ∀ {ds : List D}, (∀ d ∈ ds, pur d = true) → purs ds = true
  | [], _ => rfl
  | x :: xs, h => by
    simp only [purs, Bool.and_eq_true]
    exact ⟨h x List.mem_cons_self, purs_of fun d m => h d (List.mem_cons_of_mem _ m)⟩
end

/-! ### slots and worlds -/
inductive Slot where
  | emp
  | pur (d : D)
  | own (d : D)
  | byr (d : D)
  | bor (d : D)
  | scr (d : D)
inductive Stat where
  | fresh
  | froz
  | scr
  | loan (i : Nat)
  | take (i : Nat)
  deriving DecidableEq

abbrev Fa := Nat → List Addr
def fset (F : Fa) (i : Nat) (B : List Addr) : Fa := fun j => if j = i then B else F j
theorem fset_same {F : Fa} {i : Nat} {B : List Addr} : fset F i B i = B := if_pos rfl
theorem fset_ne {F : Fa} {i j : Nat} {B : List Addr} (h : j ≠ i) : fset F i B j = F j := if_neg h

def SR (K : Fr') (H : Hp) (F : Fa) (Z : Addr → Prop) (i : Nat) (ov : Option (Option V)) : Slot → Prop
  | .emp => F i = []
  | .pur d => F i = [] ∧ Zr.pur d = true ∧ ∃ v, ov = some (some v) ∧ Bor K H false (fun _ => True) v d
  | .own d => ∃ v, ov = some (some v) ∧ Own K H v d (F i)
  | .byr d => ∃ v, ov = some (some v) ∧ Own K H v d (F i)
  | .bor d => F i = [] ∧ ∃ v, ov = some (some v) ∧ Bor K H false (fun a => ¬ Z a) v d
  | .scr d => F i = [] ∧ ∃ v, ov = some (some v) ∧ Bor K H true (fun a => ¬ Z a) v d

structure W (K : Fr') (H : Hp) (ρ : List Slot) (σ : L2.St) (F : Fa) (Z : Addr → Prop) : Prop where
  len : σ.length = ρ.length
  out : ∀ i, ρ.length ≤ i → F i = []
  slot : ∀ i s, ρ[i]? = some s → SR K H F Z i σ[i]? s
  nodup : ∀ i, (F i).Nodup
  disj : ∀ i j a, i ≠ j → a ∈ F i → a ∉ F j
  zed : ∀ i a, a ∈ F i → Z a

structure Step (E : List Nat) (H : Hp) (ρ : List Slot) (F : Fa) (Z : Addr → Prop) (H' : Hp) (ρ' : List Slot) (F' : Fa) (Z' : Addr → Prop) : Prop where
  keep : ∀ a o, H a = some o → (Lst o → ∀ j ∈ E, a ∉ F j) → H' a = some o
  there : ∀ a, H a ≠ none → H' a ≠ none
  same : ∀ j, j ∉ E → ρ'[j]? = ρ[j]? ∧ F' j = F j
  own : ∀ j a, a ∈ F' j → a ∈ F j ∨ (∃ i ∈ E, a ∈ F i) ∨ H a = none
  zed : ∀ a, Z' a → Z a ∨ H a = none
  zk : ∀ a, Z a → H a ≠ none → Z' a ∨ ∃ i ∈ E, a ∈ F i

section
variable {K : Fr'} {H H' H1 H2 : Hp} {ρ ρ' ρ1 ρ2 : List Slot} {σ σ' : L2.St} {F F' F1 F2 : Fa} {Z Z' Z1 Z2 : Addr → Prop} {E E1 E2 : List Nat}

theorem Step.refl : Step E H ρ F Z H ρ F Z := ⟨fun _ _ e _ => e, fun _ e => e, fun _ _ => ⟨rfl, rfl⟩, fun _ _ m => .inl m, fun _ z => .inl z, fun _ z _ => .inl z⟩
theorem Step.gone (s : Step E H ρ F Z H' ρ' F' Z') {a : Addr} (h : H' a = none) : H a = none := by
  cases e : H a with
  | none => rfl
  | some o => exact absurd h (s.there a (by rw [e]; exact fun z => nomatch z))
theorem Step.trans (s : Step E1 H ρ F Z H1 ρ1 F1 Z1) (t : Step E2 H1 ρ1 F1 Z1 H2 ρ2 F2 Z2) : Step (E1 ++ E2) H ρ F Z H2 ρ2 F2 Z2 := by
  refine ⟨fun a o e l => ?_, fun a h => t.there a (s.there a h), fun j hj => ?_, fun j a m => ?_, fun a z => ?_, fun a z n => ?_⟩
  · have e1 : H1 a = some o := s.keep a o e fun q j hj => l q j (List.mem_append_left _ hj)
    refine t.keep a o e1 fun q j hj m => ?_
    rcases s.own j a m with m | ⟨i, hi, m⟩ | n
    · exact l q j (List.mem_append_right _ hj) m
    · exact l q i (List.mem_append_left _ hi) m
    · rw [n] at e
      cases e
  · have h1 : j ∉ E1 := fun z => hj (List.mem_append_left _ z)
    have h2 : j ∉ E2 := fun z => hj (List.mem_append_right _ z)
    exact ⟨(t.same j h2).1.trans (s.same j h1).1, (t.same j h2).2.trans (s.same j h1).2⟩
  · have back : ∀ i, a ∈ F1 i → a ∈ F i ∨ (∃ k ∈ E1 ++ E2, a ∈ F k) ∨ H a = none := fun i m => by
      rcases s.own i a m with m | ⟨k, hk, m⟩ | n
      · exact .inl m
      · exact .inr (.inl ⟨k, List.mem_append_left _ hk, m⟩)
      · exact .inr (.inr n)
    rcases t.own j a m with m | ⟨i, hi, m⟩ | n
    · exact back j m
    · rcases back i m with m | z
      · exact .inr (.inl ⟨i, List.mem_append_right _ hi, m⟩)
      · exact .inr z
    · exact .inr (.inr (s.gone n))
  · rcases t.zed a z with z | n
    · exact s.zed a z
    · exact .inr (s.gone n)
  · rcases s.zk a z n with z | ⟨i, hi, m⟩
    · rcases t.zk a z (s.there a n) with z | ⟨i, hi, m⟩
      · exact .inl z
      · rcases s.own i a m with m | ⟨k, hk, m⟩ | q
        · exact .inr ⟨i, List.mem_append_right _ hi, m⟩
        · exact .inr ⟨k, List.mem_append_left _ hk, m⟩
        · exact absurd q n
    · exact .inr ⟨i, List.mem_append_left _ hi, m⟩
theorem Step.more (s : Step E1 H ρ F Z H' ρ' F' Z') (h : ∀ j ∈ E1, j ∈ E2) : Step E2 H ρ F Z H' ρ' F' Z' :=
  ⟨fun a o e l => s.keep a o e fun q j hj => l q j (h j hj), s.there, fun j hj => s.same j fun z => hj (h j z), fun j a m => by
    rcases s.own j a m with m | ⟨i, hi, m⟩ | n
    · exact .inl m
    · exact .inr (.inl ⟨i, h i hi, m⟩)
    · exact .inr (.inr n), s.zed, fun a z n => (s.zk a z n).imp id fun ⟨i, hi, m⟩ => ⟨i, h i hi, m⟩⟩
theorem Step.seq (s : Step E1 H ρ F Z H1 ρ1 F1 Z1) (t : Step E2 H1 ρ1 F1 Z1 H2 ρ2 F2 Z2) (h1 : ∀ j ∈ E1, j ∈ E) (h2 : ∀ j ∈ E2, j ∈ E) : Step E H ρ F Z H2 ρ2 F2 Z2 :=
  (s.trans t).more fun j hj => (List.mem_append.mp hj).elim (h1 j) (h2 j)

/-- a value at the end of a step, its owned addresses B -/
def VB (K : Fr') (H : Hp) (ρ : List Slot) (σ : L2.St) (F : Fa) (Z : Addr → Prop) (v : V) (d : D) (B : List Addr) : Stat → Prop
  | .fresh => Own K H v d B
  | .froz => B = [] ∧ Bor K H false (fun a => ¬ Z a) v d
  | .scr => B = [] ∧ Bor K H true (fun a => ¬ Z a) v d
  | .loan i => B = [] ∧ Bor K H false (fun a => a ∈ F i ∨ ¬ Z a) v d
  | .take i => B = [] ∧ ρ[i]? = some (.own d) ∧ σ[i]? = some (some v) ∧ Own K H v d (F i)
/-- owned addresses in flight -/
structure Fl (E : List Nat) (H : Hp) (F : Fa) (F' : Fa) (Z' : Addr → Prop) (B : List Addr) : Prop where
  nodup : B.Nodup
  zed : ∀ a ∈ B, Z' a
  off : ∀ a ∈ B, ∀ j, a ∉ F' j
  new : ∀ a ∈ B, (∃ i ∈ E, a ∈ F i) ∨ H a = none
def VR (E : List Nat) (K : Fr') (H : Hp) (F : Fa) (H' : Hp) (ρ' : List Slot) (σ : L2.St) (F' : Fa) (Z' : Addr → Prop) (v : V) (d : D) (st : Stat) : Prop :=
  ∃ B, VB K H' ρ' σ F' Z' v d B st ∧ Fl E H F F' Z' B

theorem Fl.nil : Fl E H F F' Z' [] := ⟨List.nodup_nil, fun _ m => (nomatch m), fun _ m => (nomatch m), fun _ m => (nomatch m)⟩
theorem Fl.more {B : List Addr} (f : Fl E1 H F F' Z' B) (h : ∀ j ∈ E1, j ∈ E2) : Fl E2 H F F' Z' B :=
  ⟨f.nodup, f.zed, f.off, fun a m => (f.new a m).imp (fun ⟨i, hi, q⟩ => ⟨i, h i hi, q⟩) id⟩
theorem VR.more {v : V} {d : D} {st : Stat} (h : VR E1 K H F H' ρ' σ F' Z' v d st) (k : ∀ j ∈ E1, j ∈ E2) : VR E2 K H F H' ρ' σ F' Z' v d st :=
  let ⟨B, q, f⟩ := h
  ⟨B, q, f.more k⟩
/-- what was in flight ahead of a step stays in flight -/
theorem Fl.over {B : List Addr} (f : Fl E1 H F F1 Z1 B) (t : Step E2 H1 ρ1 F1 Z1 H2 ρ2 F2 Z2) (tr : ∀ a ∈ B, H1 a ≠ none) : Fl E1 H F F2 Z2 B :=
  ⟨f.nodup, fun a m => (t.zk a (f.zed a m) (tr a m)).elim id fun ⟨i, _, q⟩ => (f.off a m i q).elim, fun a m j q => by
    rcases t.own j a q with q | ⟨i, _, q⟩ | n
    · exact f.off a m j q
    · exact f.off a m i q
    · exact tr a m n, f.new⟩
theorem lst_tr {a : Addr} (h : ∃ o, H a = some o ∧ Lst o) : H a ≠ none := by
  obtain ⟨o, e, _⟩ := h
  rw [e]
  exact fun z => nomatch z
/-- whether a value of this status outlives a step on the slots E -/
def okSt (st : Stat) (E : List Nat) : Bool := match st with
  | .loan i => !E.contains i
  | .take i => !E.contains i
  | _ => true
theorem VB.over {v : V} {d : D} {st : Stat} {B : List Addr} (h : VB K H1 ρ1 σ F1 Z1 v d B st) (w : W K H1 ρ1 σ F1 Z1) (f : Fl E1 H F F1 Z1 B) (t : Step E2 H1 ρ1 F1 Z1 H2 ρ2 F2 Z2) (ok : okSt st E2 = true) : VB K H2 ρ2 σ F2 Z2 v d B st := by
  cases st with
  | fresh => exact Own.keep h fun a o e l => t.keep a o e fun q j _ m => f.off a (l q) j m
  | froz =>
    refine ⟨h.1, Bor.keep (P := fun a => ¬ Z1 a) (fun a o e l => t.keep a o e fun q j hj m => l q (w.zed j a m)) (fun a p n z => ?_) h.2⟩
    rcases t.zed a z with z | z
    · exact p z
    · exact n z
  | scr =>
    refine ⟨h.1, Bor.keep (P := fun a => ¬ Z1 a) (fun a o e l => t.keep a o e fun q j hj m => l q (w.zed j a m)) (fun a p n z => ?_) h.2⟩
    rcases t.zed a z with z | z
    · exact p z
    · exact n z
  | loan i =>
    have hi : i ∉ E2 := by simpa [okSt] using ok
    refine ⟨h.1, Bor.keep (P := fun a => a ∈ F1 i ∨ ¬ Z1 a) (fun a o e l => t.keep a o e fun q j hj m => ?_) (fun a p n => ?_) h.2⟩
    · rcases l q with z | z
      · exact w.disj i j a (fun e => hi (e ▸ hj)) z m
      · exact z (w.zed j a m)
    · rcases p with z | z
      · exact .inl ((t.same i hi).2 ▸ z)
      · exact .inr fun y => (t.zed a y).elim z n
  | take i =>
    have hi : i ∉ E2 := by simpa [okSt] using ok
    obtain ⟨e0, e1, e2, e3⟩ := h
    refine ⟨e0, (t.same i hi).1.trans e1, e2, ?_⟩
    rw [(t.same i hi).2]
    exact e3.keep fun a o e l => t.keep a o e fun q j hj m => w.disj i j a (fun e => hi (e ▸ hj)) (l q) m
theorem VB.tr {v : V} {d : D} {st : Stat} {B : List Addr} (h : VB K H ρ σ F Z v d B st) : ∀ a ∈ B, H a ≠ none := fun a m => by
  cases st with
  | fresh => exact lst_tr (Own.tr h a m)
  | froz =>
    rw [h.1] at m
    cases m
  | scr =>
    rw [h.1] at m
    cases m
  | loan i =>
    rw [h.1] at m
    cases m
  | take i =>
    rw [h.1] at m
    cases m
theorem VB.bor {v : V} {d : D} {st : Stat} {B : List Addr} (h : VB K H ρ σ F Z v d B st) : Bor K H true (fun _ => True) v d := by
  cases st with
  | fresh => exact Own.bor h fun _ _ => trivial
  | froz => exact (h.2.imp fun _ _ => trivial).wide
  | scr => exact h.2.imp fun _ _ => trivial
  | loan i => exact (h.2.imp fun _ _ => trivial).wide
  | take i => exact Own.bor h.2.2.2 fun _ _ => trivial
/-- a value that may be handed to what wants lists that may change -/
def noScr : Stat → Bool
  | .scr => false
  | _ => true
theorem VB.borX {v : V} {d : D} {st : Stat} {B : List Addr} (h : VB K H ρ σ F Z v d B st) (n : noScr st = true) : Bor K H false (fun _ => True) v d := by
  cases st with
  | fresh => exact Own.bor h fun _ _ => trivial
  | froz => exact h.2.imp fun _ _ => trivial
  | scr => cases n
  | loan i => exact h.2.imp fun _ _ => trivial
  | take i => exact Own.bor h.2.2.2 fun _ _ => trivial
theorem VR.bor {v : V} {d : D} {st : Stat} (h : VR E K H F H' ρ' σ F' Z' v d st) : Bor K H' true (fun _ => True) v d :=
  let ⟨_, q, _⟩ := h
  q.bor
theorem VR.borX {v : V} {d : D} {st : Stat} (h : VR E K H F H' ρ' σ F' Z' v d st) (n : noScr st = true) : Bor K H' false (fun _ => True) v d :=
  let ⟨_, q, _⟩ := h
  q.borX n
theorem VR.pure {v : V} {d : D} (p : Zr.pur d = true) {b : Bool} {P : Addr → Prop} (h : Bor K H' b P v d) : VR E K H F H' ρ' σ F' Z' v d .fresh := ⟨[], Bor.own h p, Fl.nil⟩
/-- a value ahead of a step, behind it -/
theorem VR.over {v : V} {d : D} {st : Stat} (h : VR E1 K H F H1 ρ1 σ F1 Z1 v d st) (w : W K H1 ρ1 σ F1 Z1) (t : Step E2 H1 ρ1 F1 Z1 H2 ρ2 F2 Z2) (ok : okSt st E2 = true) : VR E1 K H F H2 ρ2 σ F2 Z2 v d st :=
  let ⟨B, q, f⟩ := h
  ⟨B, q.over w f t ok, f.over t q.tr⟩
/-- told from the start of the step ahead -/
theorem Fl.back {B : List Addr} (s : Step E1 H ρ F Z H1 ρ1 F1 Z1) (f : Fl E2 H1 F1 F' Z' B) : Fl (E1 ++ E2) H F F' Z' B :=
  ⟨f.nodup, f.zed, f.off, fun a m => by
    rcases f.new a m with ⟨i, hi, q⟩ | n
    · rcases s.own i a q with q | ⟨k, hk, q⟩ | n
      · exact .inl ⟨i, List.mem_append_right _ hi, q⟩
      · exact .inl ⟨k, List.mem_append_left _ hk, q⟩
      · exact .inr n
    · exact .inr (s.gone n)⟩
theorem VR.back {v : V} {d : D} {st : Stat} (s : Step E1 H ρ F Z H1 ρ1 F1 Z1) (h : VR E2 K H1 F1 H' ρ' σ F' Z' v d st) : VR (E1 ++ E2) K H F H' ρ' σ F' Z' v d st :=
  let ⟨B, q, f⟩ := h
  ⟨B, q, f.back s⟩
/-- two in flight stand apart -/
theorem Fl.apart {A B : List Addr} (f : Fl E1 H F F1 Z1 A) (g : Fl E2 H1 F1 F2 Z2 B) (tr : ∀ a ∈ A, H1 a ≠ none) : ∀ a ∈ A, a ∉ B := fun a m q => by
  rcases g.new a q with ⟨i, _, z⟩ | n
  · exact f.off a m i z
  · exact tr a m n
end
end Zr

set_option maxRecDepth 100000
set_option maxHeartbeats 4000000
/-! ZrA2: operations on data that the evaluator uses: sameness, order, slices by a step, texts joined, places. -/
namespace Zr
open PySem PySem.Spec PyProof.Rows L2
def lim : Nat := 1000000
mutual
/-- data are the same -/
def deq : D → D → Bool
  | .none, .none => true
  | .bool a, .bool b => a == b
  | .int a, .int b => decide (a = b)
  | .str a, .str b => decide (a = b)
  | .list xs, .list ys => deqs xs ys
  | .tuple xs, .tuple ys => deqs xs ys
  | _, _ => false
def deqs : List D → List D → Bool
  | [], [] => true
  | x :: xs, y :: ys => deq x y && deqs xs ys
  | _, _ => false
end
mutual
theorem deq_eq : ∀ {a b : D}, deq a b = true → a = b
  | .none, .none, _ => rfl
  | .bool a, .bool b, h => by simp [deq] at h; rw [h]
  | .int a, .int b, h => by simp [deq] at h; rw [h]
  | .str a, .str b, h => by simp [deq] at h; rw [h]
  | .list xs, .list ys, h => by rw [deqs_eq (show deqs xs ys = true from h)]
  | .tuple xs, .tuple ys, h => by rw [deqs_eq (show deqs xs ys = true from h)]
theorem deqs_eq : ∀ {a b : List D}, deqs a b = true → a = b
  | [], [], _ => rfl
  | x :: xs, y :: ys, h => by
    simp only [deqs, Bool.and_eq_true] at h
    rw [deq_eq h.1, deqs_eq h.2]
end
/-! ### order -/
def ltN : List Nat → List Nat → Bool
  | [], [] => false
  | [], _ :: _ => true
  | _ :: _, [] => false
  | x :: xs, y :: ys => if x == y then ltN xs ys else Nat.blt x y
mutual
def ltF : D → D → Bool
  | .int i, .int j => decide (i < j)
  | .str x, .str y => ltN x.cps.toList y.cps.toList
  | .tuple xs, .tuple ys => ltFs xs ys
  | .list xs, .list ys => ltFs xs ys
  | x, y => PySem.W.dataLt x y
def ltFs : List D → List D → Bool
  | [], [] => false
  | [], _ :: _ => true
  | _ :: _, [] => false
  | x :: xs, y :: ys => if PyData.eqv x y then ltFs xs ys else ltF x y
end
/-! ### forms of what is sorted -/
inductive Tm where
  | int
  | str
  | all (t : Tm)
  | row2 (a b : Tm)
  | row3 (a b c : Tm)
def fits : Tm → D → Bool
  | .int, .int _ => true
  | .str, .str _ => true
  | .all t, .tuple xs => xs.all (fits t)
  | .row2 a b, .tuple [x, y] => fits a x && fits b y
  | .row3 a b c, .tuple [x, y, z] => fits a x && (fits b y && fits c z)
  | _, _ => false
/-! ### sorting -/
def insD (x : D) : List D → List D
  | [] => [x]
  | y :: r => if ltF y x then y :: insD x r else x :: y :: r
def sortDs : List D → List D
  | [] => []
  | x :: r => insD x (sortDs r)
def chainOk : List D → Bool
  | [] => true
  | [_] => true
  | x :: y :: r => (ltF x y || deq x y) && chainOk (y :: r)
def nonemT : D → Bool
  | .tuple (_ :: _) => true
  | _ => false
def otherT : D → Bool
  | .tuple _ => false
  | .none => false
  | _ => true
def tms : List Tm := [.str, .all .int, .row2 .int (.all .int), .all (.all .int), .row2 (.all .int) .int, .row2 (.all .int) (.all .int), .row2 .str .int, .row2 .int .str, .all .str, .row3 .int .int .str, .row3 (.all .int) .int .int]
def sortOk (xs : List D) : Bool := purs xs && (tms.any fun t => xs.all (fits t)) && (xs.all nonemT || xs.all otherT) && (xs.all fun d => decide (d.depth ≤ 40)) && decide (xs.length ≤ lim) && chainOk (sortDs xs)
/-- what a step picks -/
def pickT {α : Type} (lo hi : Option Int) (st : Int) (xs : List α) : List α :=
  (List.range (Builtin.Slice.slicePlaces (Builtin.Slice.sliceAdjust lo hi st (xs.length : Int)).1 (Builtin.Slice.sliceAdjust lo hi st (xs.length : Int)).2 st)).filterMap fun (k : Nat) => xs[((Builtin.Slice.sliceAdjust lo hi st (xs.length : Int)).1 + (k : Int) * st).toNat]?
def pickL {α : Type} (lo hi : Option Int) (st : Int) (xs : List α) : List α :=
  (sliceRange (sliceBounds lo hi (some st) xs.length).1 (sliceBounds lo hi (some st) xs.length).2.1 (sliceBounds lo hi (some st) xs.length).2.2).filterMap fun (k : Nat) => xs[k]?
/-- a slice by a step, of data -/
def slsD (d : D) (lo hi : Option Int) (st : Int) : Option D := match d with
  | .tuple xs => if purs xs = true ∧ st ≠ 0 ∧ st ≠ 1 ∧ (pickT lo hi st xs).length ≤ lim then some (.tuple (pickT lo hi st xs)) else none
  | .list xs => if purs xs = true ∧ lo = none ∧ hi = none ∧ st = -1 then some (.list xs.reverse) else if purs xs = true ∧ st ≠ 0 ∧ (pickL lo hi st xs).length ≤ lim then some (.list (pickL lo hi st xs)) else none
  | _ => none
/-! ### texts, places -/
def toStrs : List D → Option (List Str)
  | [] => some []
  | .str x :: r => (toStrs r).map (x :: ·)
  | _ :: _ => none
def joinS (s : Str) : List Str → Str
  | [] => Str.empty
  | [x] => x
  | x :: y :: r => x ++ s ++ joinS s (y :: r)
def idxD (y : D) : List D → Nat → Option Nat
  | [], _ => none
  | z :: r, k => if PyData.eqv z y then some k else idxD y r (k + 1)
def cntD (y : D) : List D → Nat
  | [] => 0
  | z :: r => if PyData.eqv z y then cntD y r + 1 else cntD y r
def lensS : List Str → Nat
  | [] => 0
  | x :: r => x.length + lensS r
end Zr

set_option maxRecDepth 100000
set_option maxHeartbeats 4000000
/-! ZrB: a small language for the bodies of defs, and what it computes over data. -/
namespace Zr
open PySem PySem.Spec PyProof.Rows L2

inductive Bi where
  | len | abs | int | max | min | sum | all | any | sorted | tuple | list | repr | str
  deriving DecidableEq
inductive Me where
  | join | count | index
  deriving DecidableEq
inductive Mu where
  | append | extend | pop | insert | remove
  deriving DecidableEq
inductive Ty where
  | int | bool | str | list | tuple | dict
  deriving DecidableEq

/-- a target -/
inductive IG where
  | nm (i : Nat)
  | t1 (a : IG)
  | t2 (a b : IG)
  | t3 (a b c : IG)
  | t4 (a b c d : IG)
  | t5 (a b c d e : IG)

mutual
inductive IE where
  | var (i : Nat)
  | mov (i : Nat)
  | fz (i : Nat) (e : IE)
  | int (i : Int)
  | str (x : Str)
  | bl (b : Bool)
  | non
  | glob (x : Str) (d : D)
  | bin (op : Operator) (a b : IE)
  | neg (a : IE)
  | cmp (op : CmpOp) (a b : IE)
  | chain (op op' : CmpOp) (a b c : IE)
  | chain3 (o1 o2 o3 : CmpOp) (a b c d : IE)
  | rng1V (tp : Bool) (a : IE)
  | rng2V (tp : Bool) (a b : IE)
  | sls (a : IE) (lo hi : IO) (st : Int)
  | cin (neg : Bool) (a : IE) (x : Str) (kvs : List (Str × D))
  | cix (x : Str) (kvs : List (Str × D)) (a : IE)
  | dic (ks vs : IEs)
  | dc (own : List Nat) (k v : IE) (g : IG) (it : II) (t : IC)
  | sset (b : Bi) (e : IE)
  | meth0 (m : Str) (o : IE)
  | andV (a b : IE)
  | orV (a b : IE)
  | oneV (a : IE)
  | notV (a : IE)
  | ite (t : IT) (a b : IE)
  | tup (es : IEs)
  | lst (es : IEs)
  | ix (a b : IE)
  | sl (a : IE) (lo hi : IO)
  | isi (a : IE) (ts : List Ty)
  | bcall (b : Bi) (es : IEs)
  | fcall (f : Nat) (es : IEs)
  | fscr (f : Nat) (es : IEs)
  | fref (f : Nat) (s : Nat) (es : IEs)
  | meth (m : Me) (o : IE) (es : IEs)
  | mut (m : Mu) (i : Nat) (es : IEs)
  | lc (own : List Nat) (elt : IE) (g : IG) (it : II) (t : IC)
  | lc2 (own : List Nat) (elt : IE) (g : IG) (it : II) (t : IC) (g1 : IG) (it1 : II) (t1 : IC)
inductive IEs where
  | nil
  | cons (e : IE) (es : IEs)
inductive IO where
  | none
  | some (e : IE)
/-- a test -/
inductive IT where
  | tru (e : IE)
  | cmp (e : IE)
  | and (a b : IT)
  | or (a b : IT)
  | one (a : IT)
  | not (a : IT)
/-- a comprehension's tests -/
inductive IC where
  | yes
  | one (t : IT)
/-- what is walked -/
inductive II where
  | seq (e : IE)
  | rng1 (a : IE)
  | rng2 (a b : IE)
  | enum (e : IE)
  | zip (a b : IE)
  | ezip (a b : IE)
  | zip3 (a b c : IE)
end
/-- targets of one assignment: names and items -/
inductive IPs where
  | nil
  | nm (i : Nat) (r : IPs)
  | at (i : Nat) (k : IE) (r : IPs)
mutual
inductive IS where
  | asg (g : IG) (e : IE)
  | par (is : List Nat) (es : IEs)
  | puts (ps : IPs) (e : IE)
  | set (i : Nat) (k e : IE)
  | set2 (i : Nat) (k1 k e : IE)
  | aug (op : Operator) (i : Nat) (e : IE)
  | augx (op : Operator) (i : Nat) (k e : IE)
  | expr (e : IE)
  | ifs (t : IT) (a b : ISs)
  | whl (t : IT) (b : ISs)
  | for (g : IG) (it : II) (b : ISs)
  | ret (e : IE)
  | retN
  | pass
  | never
inductive ISs where
  | nil
  | cons (s : IS) (ss : ISs)
end

/-! ### the slots that may be changed -/
def IG.slots : IG → List Nat
  | .nm i => [i]
  | .t1 a => a.slots
  | .t2 a b => a.slots ++ b.slots
  | .t3 a b c => a.slots ++ (b.slots ++ c.slots)
  | .t4 a b c d => a.slots ++ (b.slots ++ (c.slots ++ d.slots))
  | .t5 a b c d e => a.slots ++ (b.slots ++ (c.slots ++ (d.slots ++ e.slots)))
/-- the slots that may be taken -/
def tkE : IE → List Nat
  | .mov i => [i]
  | .andV a b => tkE a ++ tkE b
  | .orV a b => tkE a ++ tkE b
  | .oneV a => tkE a
  | .fz _ a => tkE a
  | .ite _ a b => tkE a ++ tkE b
  | _ => []
def tks : IEs → List Nat
  | .nil => []
  | .cons e es => tkE e ++ tks es
mutual
def effE : IE → List Nat
  | .fz i e => i :: effE e
  | .bin _ a b => effE a ++ effE b
  | .neg a => effE a
  | .cmp _ a b => effE a ++ effE b
  | .chain _ _ a b c => effE a ++ (effE b ++ effE c)
  | .chain3 _ _ _ a b c d => effE a ++ (effE b ++ (effE c ++ effE d))
  | .rng1V _ a => effE a
  | .rng2V _ a b => effE a ++ effE b
  | .sls a lo hi _ => effE a ++ (effO lo ++ effO hi)
  | .cin _ a _ _ => effE a
  | .cix _ _ a => effE a
  | .dic ks vs => effs ks ++ (effs vs ++ (tks ks ++ tks vs))
  | .dc own k v g it t => effI it ++ (effC t ++ (effE k ++ (effE v ++ tkE v)))
  | .sset _ e => effE e
  | .meth0 _ o => effE o
  | .andV a b => effE a ++ effE b
  | .orV a b => effE a ++ effE b
  | .oneV a => effE a
  | .notV a => effE a
  | .ite t a b => effT t ++ (effE a ++ effE b)
  | .tup es => effs es ++ tks es
  | .lst es => effs es ++ tks es
  | .ix a b => effE a ++ effE b
  | .sl a lo hi => effE a ++ (effO lo ++ effO hi)
  | .isi a _ => effE a
  | .bcall _ es => effs es
  | .fcall _ es => effs es
  | .fscr _ es => effs es
  | .fref _ s es => s :: effs es
  | .meth _ o es => effE o ++ effs es
  | .mut _ i es => i :: (effs es ++ tks es)
  | .lc own elt g it t => effI it ++ (effC t ++ (effE elt ++ tkE elt))
  | .lc2 own elt g it t g1 it1 t1 => effI it ++ (effC t ++ (effI it1 ++ (effC t1 ++ (effE elt ++ tkE elt))))
  | _ => []
def effs : IEs → List Nat
  | .nil => []
  | .cons e es => effE e ++ effs es
def effO : IO → List Nat
  | .none => []
  | .some e => effE e
def effT : IT → List Nat
  | .tru e => effE e
  | .cmp e => effE e
  | .and a b => effT a ++ effT b
  | .or a b => effT a ++ effT b
  | .one a => effT a
  | .not a => effT a
def effC : IC → List Nat
  | .yes => []
  | .one t => effT t
def effI : II → List Nat
  | .seq e => effE e
  | .rng1 a => effE a
  | .rng2 a b => effE a ++ effE b
  | .enum e => effE e
  | .zip a b => effE a ++ effE b
  | .ezip a b => effE a ++ effE b
  | .zip3 a b c => effE a ++ (effE b ++ effE c)
end
def IPs.eff : IPs → List Nat
  | .nil => []
  | .nm i r => i :: r.eff
  | .at i k r => i :: (effE k ++ r.eff)
def IPs.as : IPs → List Nat
  | .nil => []
  | .nm i r => i :: r.as
  | .at _ _ r => r.as
mutual
def effS : IS → List Nat
  | .asg g e => effE e ++ (tkE e ++ g.slots)
  | .puts ps e => effE e ++ (tkE e ++ ps.eff)
  | .par is es => effs es ++ (tks es ++ is)
  | .set i k e => effE e ++ (tkE e ++ (effE k ++ [i]))
  | .set2 i k1 k e => effE e ++ (tkE e ++ (effE k1 ++ (effE k ++ [i])))
  | .aug _ i e => effE e ++ [i]
  | .augx _ i k e => effE k ++ (effE e ++ [i])
  | .expr e => effE e
  | .ifs t a b => effT t ++ (effSs a ++ effSs b)
  | .whl t b => effT t ++ effSs b
  | .for g it b => effI it ++ (g.slots ++ effSs b)
  | .ret e => effE e ++ tkE e
  | _ => []
def effSs : ISs → List Nat
  | .nil => []
  | .cons s ss => effS s ++ effSs ss
end

mutual
/-- the slots that a statement stores into -/
def asS : IS → List Nat
  | .asg g _ => g.slots
  | .par is _ => is
  | .puts ps _ => ps.as
  | .aug _ i _ => [i]
  | .ifs _ a b => asSs a ++ asSs b
  | .whl _ b => asSs b
  | .for g _ b => g.slots ++ asSs b
  | _ => []
def asSs : ISs → List Nat
  | .nil => []
  | .cons s ss => asS s ++ asSs ss
end

/-! ### operations on data -/
def truD : D → Option Bool
  | .none => some false
  | .bool b => some b
  | .int i => some (i != 0)
  | .str x => if x.length ≤ lim then some ((x.length : Int) != 0) else none
  | .list xs => some !xs.isEmpty
  | .tuple xs => some !xs.isEmpty
  | .dict _ => none
def mulSm (i j : Int) : Bool := decide (i.natAbs < 2 ^ 64) || decide (j.natAbs < 2 ^ 64)
def mulOk (i j : Int) : Bool := mulSm i j || decide (i.natAbs.log2 + j.natAbs.log2 < 1000000)
def divOk (j : Int) : Bool := decide (j ≠ 0) && decide (j.natAbs < 1073741824)
def powOk (i j : Int) : Bool := decide (0 ≤ j) && decide (j ≤ 1000000) && decide (i.natAbs < 2 ^ 64)
def repS (n : Nat) (x : Str) : Str := ⟨(List.replicate n x.cps).foldl (· ++ ·) #[]⟩
def binop : Operator → D → D → Option D
  | .Add, .int i, .int j => some (.int (i + j))
  | .Sub, .int i, .int j => some (.int (i - j))
  | .Mult, .int i, .int j => if mulOk i j then some (.int (i * j)) else none
  | .FloorDiv, .int i, .int j => if divOk j then some (.int (i.fdiv j)) else none
  | .Mod, .int i, .int j => if j ≠ 0 then some (.int (i.fmod j)) else none
  | .Pow, .int i, .int j => if powOk i j then some (.int (i ^ j.toNat)) else none
  | .Add, .str x, .str y => if x.length + y.length ≤ lim then some (.str (x ++ y)) else none
  | .Add, .tuple xs, .tuple ys => if xs.length + ys.length ≤ lim ∧ purs xs = true ∧ purs ys = true then some (.tuple (xs ++ ys)) else none
  | .Add, .list xs, .list ys => if xs.length + ys.length ≤ lim ∧ purs xs = true ∧ purs ys = true then some (.list (xs ++ ys)) else none
  | .Mult, .list xs, .int k => if xs.length * k.toNat ≤ lim ∧ -lim < k ∧ k < lim ∧ purs xs = true then some (.list (List.replicate k.toNat xs).flatten) else none
  | .Mult, .str x, .int k => if x.length * k.toNat ≤ lim ∧ -lim < k ∧ k < lim then some (.str (repS k.toNat x)) else none
  | _, _, _ => none
def augop : Operator → Int → Int → Option Int
  | .Add, i, j => some (i + j)
  | .Sub, i, j => some (i - j)
  | .Mult, i, j => if mulSm i j then some (i * j) else none
  | _, _, _ => none
def augD : Operator → D → D → Option D
  | op, .int i, .int j => (augop op i j).map .int
  | .Add, .str x, .str y => if x.length + y.length ≤ lim then some (.str (x ++ y)) else none
  | _, _, _ => none
def isNone : D → Bool
  | .none => true
  | _ => false
def isB (a : D) (c : Bool) : Bool := match a with
  | .bool b => b == c
  | _ => false
def eqD (a b : D) : Option Bool := match a, b with
  | .int i, .int j => some (i == j)
  | _, _ => if a.plain && b.plain && decide (a.depth ≤ 40) then some (PyData.eqv a b) else none
def ltD (a b : D) : Option Bool := match a, b with
  | .int i, .int j => some (decide (i < j))
  | _, _ => if PySem.W.alike a b && decide (a.depth ≤ 40) && !isNone a then some (PySem.W.dataLt a b) else none
def memD (x : D) (ys : List D) : Option Bool :=
  if x.plain && PyData.plainAll ys && decide (x.depth ≤ 40) then some (ys.any fun y => PyData.eqv y x) else none
def cmpop : CmpOp → D → D → Option Bool
  | .Eq, a, b => eqD a b
  | .NotEq, a, b => (eqD a b).map (!·)
  | .Lt, a, b => ltD a b
  | .Gt, a, b => ltD b a
  | .LtE, a, b => (ltD b a).map (!·)
  | .GtE, a, b => (ltD a b).map (!·)
  | .Is, a, .none => some (isNone a)
  | .IsNot, a, .none => some (!isNone a)
  | .Is, a, .bool c => some (isB a c)
  | .IsNot, a, .bool c => some (!isB a c)
  | .In, x, .tuple ys => memD x ys
  | .In, x, .list ys => memD x ys
  | .In, .str x, .str y => some (!(Builtin.Str.occurrences y x 0 y.length 1).isEmpty)
  | .NotIn, .str x, .str y => some (!(!(Builtin.Str.occurrences y x 0 y.length 1).isEmpty))
  | .NotIn, x, .tuple ys => (memD x ys).map (!·)
  | .NotIn, x, .list ys => (memD x ys).map (!·)
  | _, _, _ => none
def toInts : List D → Option (List Int)
  | [] => some []
  | .int i :: r => (toInts r).map (i :: ·)
  | _ :: _ => none
def toBls : List D → Option (List Bool)
  | [] => some []
  | .bool b :: r => (toBls r).map (b :: ·)
  | _ :: _ => none
def insI (x : Int) : List Int → List Int
  | [] => [x]
  | y :: r => if x ≤ y then x :: y :: r else y :: insI x r
def sortI : List Int → List Int
  | [] => []
  | x :: r => insI x (sortI r)
def maxI : Int → List Int → Int
  | m, [] => m
  | m, x :: r => maxI (if x > m then x else m) r
def minI : Int → List Int → Int
  | m, [] => m
  | m, x :: r => minI (if x < m then x else m) r
def bi : Bi → List D → Option D
  | .len, [.list xs] => some (.int xs.length)
  | .len, [.tuple xs] => some (.int xs.length)
  | .len, [.str x] => if x.length ≤ lim then some (.int x.length) else none
  | .abs, [.int i] => some (.int (if i < 0 then -i else i))
  | .int, [.int i] => some (.int i)
  | .int, [.bool b] => some (.int (if b then 1 else 0))
  | .max, [.int i, .int j] => some (.int (if j > i then j else i))
  | .min, [.int i, .int j] => some (.int (if j < i then j else i))
  | .max, [.list xs] => match toInts xs with | some (m :: r) => some (.int (maxI m r)) | _ => none
  | .min, [.list xs] => match toInts xs with | some (m :: r) => some (.int (minI m r)) | _ => none
  | .sum, [.list xs] => (toInts xs).map fun ns => .int ns.sum
  | .sum, [.tuple xs] => (toInts xs).map fun ns => .int ns.sum
  | .max, [.tuple xs] => match toInts xs with | some (m :: r) => some (.int (maxI m r)) | _ => none
  | .min, [.tuple xs] => match toInts xs with | some (m :: r) => some (.int (minI m r)) | _ => none
  | .all, [.list xs] => (toBls xs).map fun bs => .bool (bs.all id)
  | .any, [.list xs] => (toBls xs).map fun bs => .bool (bs.any id)
  | .sorted, [.list xs] => match toInts xs with
    | some ns => some (.list ((sortI ns).map .int))
    | none => if sortOk xs then some (.list (sortDs xs)) else none
  | .sorted, [.tuple xs] => (toInts xs).map fun ns => .list ((sortI ns).map .int)
  | .tuple, [.list xs] => if purs xs then some (.tuple xs) else none
  | .tuple, [.tuple xs] => if purs xs then some (.tuple xs) else none
  | .list, [.list xs] => if purs xs then some (.list xs) else none
  | .list, [.tuple xs] => if purs xs then some (.list xs) else none
  | .repr, [d] => if d.showable && !d.hasDict && decide (d.depth ≤ 40) && decide (d.shown.length ≤ lim) then some (.str d.shown) else none
  | .str, [.int i] => if i.natAbs.log2 < 1920 then some (.str (toString i : String)) else none
  | _, _ => none
def meD : Me → D → List D → Option D
  | .join, .str s, [.list xs] => match toStrs xs with
    | some ys => if lensS ys + ys.length * s.length ≤ lim then some (.str (joinS s ys)) else none
    | none => none
  | .index, .list xs, [y] => if PyData.plainAll xs && y.plain && decide (y.depth ≤ 40) then (idxD y xs 0).map fun j => .int (j : Nat) else none
  | .count, .list xs, [y] => if PyData.plainAll xs && y.plain && decide (y.depth ≤ 40) then some (.int (cntD y xs : Nat)) else none
  | _, _, _ => none
def tyD : Ty → D → Bool
  | .int, .int _ => true
  | .int, .bool _ => true
  | .bool, .bool _ => true
  | .str, .str _ => true
  | .list, .list _ => true
  | .tuple, .tuple _ => true
  | .dict, .dict _ => true
  | _, _ => false
/-- an index: the place -/
def pixN (n : Nat) (i : Int) : Option Nat := if 0 ≤ i then (if i < n then some i.toNat else none) else if -(n : Int) ≤ i then some (i + n).toNat else none
def ixD : D → D → Option D
  | .list xs, .int i => match pixN xs.length i with | some j => xs[j]? | none => none
  | .tuple xs, .int i => match pixN xs.length i with | some j => xs[j]? | none => none
  | .str x, .int i => if x.length ≤ lim then match pixN x.length i with
    | some j => match x.cps.toList[j]? with
      | some c => some (.str ⟨#[c]⟩)
      | none => none
    | none => none else none
  | _, _ => none
def slD (d : D) (lo hi : Option Int) : Option D := match d with
  | .list xs => if purs xs then some (.list ((xs.drop (HT.sIx xs.length 0 lo)).take (HT.sIx xs.length xs.length hi - HT.sIx xs.length 0 lo))) else none
  | .tuple xs => if purs xs then some (.tuple ((xs.drop (HT.sIx xs.length 0 lo)).take (HT.sIx xs.length xs.length hi - HT.sIx xs.length 0 lo))) else none
  | .str x => if x.length ≤ lim then some (.str (cutS x lo hi)) else none
  | _ => none

/-! ### running -/
abbrev Ro := List Slot
abbrev R := Option (D × Stat × Ro)
/-- calls: the def, the argument by reference, the others -/
abbrev CallF := Nat → Option D → List D → Option (D × Option D)
def bind1 (d : D) : Slot := if pur d then .pur d else .bor d
def stOf (d : D) (s : Stat) : Stat := if pur d then .fresh else s
def gv (ρ : Ro) (i : Nat) : Option (D × Stat) := match ρ[i]? with
  | some (.pur d) => some (d, .fresh)
  | some (.own d) => some (d, .loan i)
  | some (.byr d) => some (d, .loan i)
  | some (.bor d) => some (d, .froz)
  | some (.scr d) => some (d, .scr)
  | _ => none
def noByr (ρ : Ro) (i : Nat) : Bool := match ρ[i]? with
  | some (.byr _) => false
  | some _ => true
  | none => false
/-- a fresh or frozen value stored into a target -/
def bindV : IG → D → Stat → Ro → Option Ro
  | .nm i, d, st, ρ => if noByr ρ i then (match st with
    | .fresh => some (ρ.set i (if pur d then .pur d else .own d))
    | .froz => some (ρ.set i (if pur d then .pur d else .bor d))
    | _ => none) else none
  | .t1 a, .tuple [x], st, ρ => bindV a x st ρ
  | .t2 a b, .tuple [x, y], st, ρ => (bindV a x st ρ).bind (bindV b y st)
  | .t3 a b c, .tuple [x, y, z], st, ρ => (bindV a x st ρ).bind fun ρ1 => (bindV b y st ρ1).bind (bindV c z st)
  | .t4 a b c e, .tuple [x, y, z, u], st, ρ => (bindV a x st ρ).bind fun ρ1 => (bindV b y st ρ1).bind fun ρ2 => (bindV c z st ρ2).bind (bindV e u st)
  | .t5 a b c e f, .tuple [x, y, z, u, v], st, ρ => (bindV a x st ρ).bind fun ρ1 => (bindV b y st ρ1).bind fun ρ2 => (bindV c z st ρ2).bind fun ρ3 => (bindV e u st ρ3).bind (bindV f v st)
  | _, _, _, _ => none
def bindNs : List Nat → List D → Ro → Option Ro
  | [], [], ρ => some ρ
  | i :: is, d :: ds, ρ => match bindV (.nm i) d .fresh ρ with
    | some ρ1 => bindNs is ds ρ1
    | none => none
  | _, _, _ => none
/-- a value taken out of where it lies -/
def settle (d : D) (s : Stat) (ρ : Ro) : Option Ro := match s with
  | .fresh => some ρ
  | .take i => match ρ[i]? with
    | some (.own _) => some (ρ.set i .emp)
    | _ => none
  | _ => if pur d then some ρ else none
def settleA (d : D) (s : Stat) (ρ : Ro) : Option (Stat × Ro) := match s with
  | .froz => some (.froz, ρ)
  | s => (settle d s ρ).map fun ρ1 => (.fresh, ρ1)
/-- hidden slots: only such as own nothing -/
def hide (ρ : Ro) : List Nat → Option Ro
  | [] => some ρ
  | i :: r => match hide ρ r with
    | some ρ1 => match ρ1[i]? with
      | some .emp => some ρ1
      | some (.pur _) => some (ρ1.set i .emp)
      | some (.bor _) => some (ρ1.set i .emp)
      | some (.scr _) => some (ρ1.set i .emp)
      | _ => none
    | none => none
def unhide (ρ0 : Ro) (ρ : Ro) : List Nat → Ro
  | [] => ρ
  | i :: r => (unhide ρ0 ρ r).set i (ρ0[i]?.getD .emp)
/-- items of what is walked -/
def itemsOf : D → Option (List D)
  | .list xs => some xs
  | .tuple xs => some xs
  | .str x => some (x.cps.toList.map fun c => .str ⟨#[c]⟩)
  | _ => none
def rangeD (lo : Int) (n : Nat) : List D := (List.range n).map fun (i : Nat) => PyData.int (lo + (i : Int))
def enumD : Nat → List D → List D
  | _, [] => []
  | i, x :: r => .tuple [.int i, x] :: enumD (i + 1) r
def zipD : List D → List D → List D
  | x :: xs, y :: ys => .tuple [x, y] :: zipD xs ys
  | _, _ => []
def zipD3 : List D → List D → List D → List D
  | x :: xs, y :: ys, z :: zs => .tuple [x, y, z] :: zipD3 xs ys zs
  | _, _, _ => []
/-- whether what is walked may be walked while E changes: it is on loan from a slot that stays, its items are plain -/
def walkOk (st : Stat) (xs : List D) (E : List Nat) : Bool := match st with
  | .loan i => purs xs && !E.contains i
  | .take i => purs xs && !E.contains i
  | .scr => purs xs
  | _ => true
def lcGo (turn : D → Ro → List D → Option (List D × Ro)) : List D → Ro → List D → Option (List D × Ro)
  | [], ρ, acc => some (acc, ρ)
  | x :: r, ρ, acc => match turn x ρ acc with
    | some (acc1, ρ1) => lcGo turn r ρ1 acc1
    | none => none
/-- a method that changes a list: the list behind it, the answer -/
def mu : Mu → List D → List D → Option (List D × D)
  | .append, xs, [y] => if xs.length < lim then some (xs ++ [y], .none) else none
  | .extend, xs, [.list ys] => if xs.length + ys.length ≤ lim ∧ purs ys = true then some (xs ++ ys, .none) else none
  | .pop, xs, [] => match xs.getLast? with
    | some y => if pur y then some (xs.dropLast, y) else none
    | none => none
  | .pop, xs, [.int i] => if -lim < i ∧ i < lim then match pixN xs.length i with
    | some j => match xs[j]? with
      | some y => if pur y then some (xs.eraseIdx j, y) else none
      | none => none
    | none => none else none
  | _, _, _ => none
/-- a slot that owns what it holds -/
def isOwn (ρ : Ro) (i : Nat) : Bool := match ρ[i]? with
  | some (.own _) => true
  | some (.byr _) => true
  | _ => false
/-- a slot that owns a list -/
def isLst (ρ : Ro) (i : Nat) : Bool := match ρ[i]? with
  | some (.own (.list _)) => true
  | some (.byr (.list _)) => true
  | _ => false
/-- an item stored -/
def setL (xs : List D) (n : Int) (y : D) : Option (List D) := match pixN xs.length n with
  | some j => match xs[j]? with
    | some x => if pur x then some (xs.set j y) else none
    | none => none
  | none => none
def setL2 (xs : List D) (m n : Int) (y : D) : Option (List D) := match pixN xs.length m with
  | some j => match xs[j]? with
    | some (.list zs) => if pur y then (match setL zs n y with
      | some ws => some (xs.set j (.list ws))
      | none => none) else none
    | _ => none
  | none => none
/-- the statuses of evaluated arguments -/
abbrev Ds := List (D × Stat)
def settles : Ds → Ro → Option (List D × Ro)
  | [], ρ => some ([], ρ)
  | (d, s) :: r, ρ => match settle d s ρ with
    | some ρ1 => match settles r ρ1 with
      | some (ds, ρ2) => some (d :: ds, ρ2)
      | none => none
    | none => none
inductive Out where
  | nx (ρ : Ro)
  | rt (d : D) (ρ : Ro)

mutual
def ev (C : CallF) : IE → Ro → R
  | .var i, ρ => match gv ρ i with
    | some (d, s) => some (d, s, ρ)
    | none => none
  | .mov i, ρ => match ρ[i]? with
    | some (.pur d) => some (d, .fresh, ρ)
    | some (.own d) => some (d, .take i, ρ)
    | some (.bor d) => some (d, .froz, ρ)
    | some (.scr d) => some (d, .scr, ρ)
    | _ => none
  | .fz i e, ρ => match ev C e ρ with
    | some (d, .loan j, ρ1) => if j = i then (match ρ1[i]? with
      | some (.own c) => some (d, .froz, ρ1.set i (.bor c))
      | _ => none) else none
    | r => r
  | .int i, ρ => some (.int i, .fresh, ρ)
  | .str x, ρ => some (.str x, .fresh, ρ)
  | .bl b, ρ => some (.bool b, .fresh, ρ)
  | .non, ρ => some (.none, .fresh, ρ)
  | .glob x d, ρ => if pur d then some (d, .fresh, ρ) else none
  | .bin op a b, ρ => match ev C a ρ with
    | some (x, sx, ρ1) => match ev C b ρ1 with
      | some (y, sy, ρ2) => if okSt sx (effE b) && noScr sx && noScr sy then (match binop op x y with
        | some d => some (d, .fresh, ρ2)
        | none => none) else none
      | none => none
    | none => none
  | .neg a, ρ => match ev C a ρ with
    | some (.int i, _, ρ1) => some (.int (-i), .fresh, ρ1)
    | _ => none
  | .cmp op a b, ρ => match ev C a ρ with
    | some (x, sx, ρ1) => match ev C b ρ1 with
      | some (y, _, ρ2) => if okSt sx (effE b) then (match cmpop op x y with
        | some k => some (.bool k, .fresh, ρ2)
        | none => none) else none
      | none => none
    | none => none
  | .chain op op' a b c, ρ => match ev C a ρ with
    | some (x, sx, ρ1) => match ev C b ρ1 with
      | some (y, sy, ρ2) => if okSt sx (effE b) then (match cmpop op x y with
        | some true => match ev C c ρ2 with
          | some (z, _, ρ3) => if okSt sy (effE c) then (match cmpop op' y z with
            | some k => some (.bool k, .fresh, ρ3)
            | none => none) else none
          | none => none
        | some false => some (.bool false, .fresh, ρ2)
        | none => none) else none
      | none => none
    | none => none
  | .chain3 o1 o2 o3 a b c d, ρ => match ev C a ρ with
    | some (x, sx, ρ1) => match ev C b ρ1 with
      | some (y, sy, ρ2) => if okSt sx (effE b) then (match cmpop o1 x y with
        | some true => match ev C c ρ2 with
          | some (z, sz, ρ3) => if okSt sy (effE c) then (match cmpop o2 y z with
            | some true => match ev C d ρ3 with
              | some (u, _, ρ4) => if okSt sz (effE d) then (match cmpop o3 z u with
                | some k => some (.bool k, .fresh, ρ4)
                | none => none) else none
              | none => none
            | some false => some (.bool false, .fresh, ρ3)
            | none => none) else none
          | none => none
        | some false => some (.bool false, .fresh, ρ2)
        | none => none) else none
      | none => none
    | none => none
  | .rng1V tp a, ρ => match ev C a ρ with
    | some (.int j, _, ρ1) => if j < lim ∧ -lim < j then some (if tp then .tuple (rangeD 0 j.toNat) else .list (rangeD 0 j.toNat), .fresh, ρ1) else none
    | _ => none
  | .rng2V tp a b, ρ => match ev C a ρ with
    | some (.int i, sx, ρ1) => match ev C b ρ1 with
      | some (.int j, _, ρ2) => if okSt sx (effE b) = true ∧ j < lim ∧ -lim < j ∧ i < lim ∧ -lim < i ∧ (j - i).toNat ≤ lim then some (if tp then .tuple (rangeD i (j - i).toNat) else .list (rangeD i (j - i).toNat), .fresh, ρ2) else none
      | _ => none
    | _ => none
  | .sls a lo hi st, ρ => match ev C a ρ with
    | some (x, sx, ρ1) => match evO C lo ρ1 with
      | some (l, ρ2) => match evO C hi ρ2 with
        | some (h, ρ3) => if okSt sx (effO lo ++ effO hi) then (match slsD x l h st with
          | some d => some (d, .fresh, ρ3)
          | none => none) else none
        | none => none
      | none => none
    | none => none
  | .cin neg a x kvs, ρ => match ev C a ρ with
    | some (.str y, _, ρ1) => some (.bool (if neg then !(kvs.lookup y).isSome else (kvs.lookup y).isSome), .fresh, ρ1)
    | _ => none
  | .cix x kvs a, ρ => match ev C a ρ with
    | some (.str y, _, ρ1) => match kvs.lookup y with
      | some d => if pur d then some (d, .fresh, ρ1) else none
      | none => none
    | _ => none
  | .dic _ _, _ => none
  | .dc _ _ _ _ _ _, _ => none
  | .sset _ _, _ => none
  | .meth0 _ _, _ => none
  | .andV a b, ρ => match ev C a ρ with
    | some (x, s, ρ1) => match truD x with
      | some true => ev C b ρ1
      | some false => some (x, s, ρ1)
      | none => none
    | none => none
  | .orV a b, ρ => match ev C a ρ with
    | some (x, s, ρ1) => match truD x with
      | some true => some (x, s, ρ1)
      | some false => ev C b ρ1
      | none => none
    | none => none
  | .oneV a, ρ => ev C a ρ
  | .notV a, ρ => match ev C a ρ with
    | some (x, _, ρ1) => match truD x with
      | some k => some (.bool !k, .fresh, ρ1)
      | none => none
    | none => none
  | .ite t a b, ρ => match evT C t ρ with
    | some (k, ρ1) => if k then ev C a ρ1 else ev C b ρ1
    | none => none
  | .tup es, ρ => match evs C es ρ with
    | some (ds, ρ1) => match settles ds ρ1 with
      | some (xs, ρ2) => if xs.length ≤ lim then some (.tuple xs, .fresh, ρ2) else none
      | none => none
    | none => none
  | .lst es, ρ => match evs C es ρ with
    | some (ds, ρ1) => match settles ds ρ1 with
      | some (xs, ρ2) => if xs.length ≤ lim then some (.list xs, .fresh, ρ2) else none
      | none => none
    | none => none
  | .ix a b, ρ => match ev C a ρ with
    | some (x, sx, ρ1) => match ev C b ρ1 with
      | some (y, _, ρ2) => if okSt sx (effE b) then (match ixD x y with
        | some d => if pur d then some (d, .fresh, ρ2) else (match sx with
          | .fresh => some (d, .fresh, ρ2)
          | .take _ => none
          | s => some (d, s, ρ2))
        | none => none) else none
      | none => none
    | none => none
  | .sl a lo hi, ρ => match ev C a ρ with
    | some (x, sx, ρ1) => match evO C lo ρ1 with
      | some (l, ρ2) => match evO C hi ρ2 with
        | some (h, ρ3) => if okSt sx (effO lo ++ effO hi) then (match slD x l h with
          | some d => some (d, .fresh, ρ3)
          | none => none) else none
        | none => none
      | none => none
    | none => none
  | .isi a ts, ρ => match ev C a ρ with
    | some (x, _, ρ1) => some (.bool (ts.any fun t => tyD t x), .fresh, ρ1)
    | none => none
  | .bcall b es, ρ => match evs C es ρ with
    | some (ds, ρ1) => match bi b (ds.map (·.1)) with
      | some d => some (d, .fresh, ρ1)
      | none => none
    | none => none
  | .fcall f es, ρ => match evs C es ρ with
    | some (ds, ρ1) => if ds.all (fun p => noScr p.2) then (match C f none (ds.map (·.1)) with
      | some (d, _) => some (d, .fresh, ρ1)
      | none => none) else none
    | none => none
  | .fscr f es, ρ => match evs C es ρ with
    | some (ds, ρ1) => if ds.tail.all (fun p => noScr p.2) then (match C f none (ds.map (·.1)) with
      | some (d, _) => some (d, .fresh, ρ1)
      | none => none) else none
    | none => none
  | .fref f s es, ρ => match evs C es ρ with
    | some (ds, ρ1) => if ds.all (fun p => okSt p.2 [s] && noScr p.2) && isOwn ρ s then (match ρ1[s]? with
      | some (.own c) => match C f (some c) (ds.map (·.1)) with
        | some (d, some c') => some (d, .fresh, ρ1.set s (.own c'))
        | _ => none
      | some (.byr c) => match C f (some c) (ds.map (·.1)) with
        | some (d, some c') => some (d, .fresh, ρ1.set s (.byr c'))
        | _ => none
      | _ => none) else none
    | none => none
  | .meth m o es, ρ => match ev C o ρ with
    | some (x, sx, ρ1) => match evs C es ρ1 with
      | some (ds, ρ2) => if okSt sx (effs es) then (match meD m x (ds.map (·.1)) with
        | some d => some (d, .fresh, ρ2)
        | none => none) else none
      | none => none
    | none => none
  | .mut m i es, ρ => if isLst ρ i && !(effs es).contains i && !(tks es).contains i then (match evs C es ρ with
    | some (ds, ρ1) => match settles ds ρ1 with
      | some (args, ρ2) => match ρ2[i]? with
        | some (.own (.list xs)) => match mu m xs args with
          | some (ys, d) => some (d, .fresh, ρ2.set i (.own (.list ys)))
          | none => none
        | some (.byr (.list xs)) => match mu m xs args with
          | some (ys, d) => some (d, .fresh, ρ2.set i (.byr (.list ys)))
          | none => none
        | _ => none
      | none => none
    | none => none) else none
  | .lc own elt g it t, ρ => match evI C it ρ with
    | some (xs, st, ρ1) => match hide ρ1 own with
      | some ρ2 => if st.all (walkOk · xs (own ++ (effC t ++ (effE elt ++ tkE elt)))) && g.slots.all own.contains then
          (match lcGo (fun x ρ acc => match bindV g x .froz ρ with
            | some ρa => match evC C t ρa with
              | some (true, ρb) => match ev C elt ρb with
                | some (y, sy, ρc) => match settle y sy ρc with
                  | some ρe => match hide ρe own with
                    | some ρd => if acc.length < lim then some (y :: acc, ρd) else none
                    | none => none
                  | none => none
                | none => none
              | some (false, ρb) => match hide ρb own with
                | some ρd => some (acc, ρd)
                | none => none
              | none => none
            | none => none) xs ρ2 [] with
          | some (acc, ρ3) => some (.list acc.reverse, .fresh, unhide ρ1 ρ3 own)
          | none => none) else none
      | none => none
    | none => none
  | .lc2 own elt g it t g1 it1 t1, ρ => match evI C it ρ with
    | some (xs, st, ρ1) => match hide ρ1 own with
      | some ρ2 => if st.all (walkOk · xs (own ++ (effC t ++ (effI it1 ++ (effC t1 ++ (effE elt ++ tkE elt)))))) && g.slots.all own.contains && g1.slots.all own.contains then
          (match lcGo (fun x ρ acc => match bindV g x .froz ρ with
            | some ρa => match evC C t ρa with
              | some (true, ρb) => match evI C it1 ρb with
                | some (xs1, st1, ρb1) => match hide ρb1 g1.slots with
                  | some ρb2 => if st1.all (walkOk · xs1 (own ++ (effC t ++ (effI it1 ++ (effC t1 ++ (effE elt ++ tkE elt)))))) then
                    (match lcGo (fun x ρ acc => match bindV g1 x .froz ρ with
                    | some ρa => match evC C t1 ρa with
                      | some (true, ρb) => match ev C elt ρb with
                        | some (y, sy, ρc) => match settle y sy ρc with
                          | some ρe => match hide ρe g1.slots with
                            | some ρd => if acc.length < lim then some (y :: acc, ρd) else none
                            | none => none
                          | none => none
                        | none => none
                      | some (false, ρb) => match hide ρb g1.slots with
                        | some ρd => some (acc, ρd)
                        | none => none
                      | none => none
                    | none => none) xs1 ρb2 acc with
                    | some (acc1, ρ3) => match hide ρ3 own with
                      | some ρd => some (acc1, ρd)
                      | none => none
                    | none => none) else none
                  | none => none
                | none => none
              | some (false, ρb) => match hide ρb own with
                | some ρd => some (acc, ρd)
                | none => none
              | none => none
            | none => none) xs ρ2 [] with
          | some (acc, ρ3) => some (.list acc.reverse, .fresh, unhide ρ1 ρ3 own)
          | none => none) else none
      | none => none
    | none => none
def evs (C : CallF) : IEs → Ro → Option (Ds × Ro)
  | .nil, ρ => some ([], ρ)
  | .cons e es, ρ => match ev C e ρ with
    | some (d, s, ρ1) => match evs C es ρ1 with
      | some (ds, ρ2) => if okSt s (effs es) then some ((d, s) :: ds, ρ2) else none
      | none => none
    | none => none
def evO (C : CallF) : IO → Ro → Option (Option Int × Ro)
  | .none, ρ => some (none, ρ)
  | .some e, ρ => match ev C e ρ with
    | some (.int i, _, ρ1) => some (some i, ρ1)
    | _ => none
def evT (C : CallF) : IT → Ro → Option (Bool × Ro)
  | .tru e, ρ => match ev C e ρ with
    | some (x, _, ρ1) => match truD x with
      | some k => some (k, ρ1)
      | none => none
    | none => none
  | .cmp e, ρ => match ev C e ρ with
    | some (.bool k, _, ρ1) => some (k, ρ1)
    | _ => none
  | .and a b, ρ => match evT C a ρ with
    | some (true, ρ1) => evT C b ρ1
    | r => r
  | .or a b, ρ => match evT C a ρ with
    | some (false, ρ1) => evT C b ρ1
    | r => r
  | .one a, ρ => evT C a ρ
  | .not a, ρ => match evT C a ρ with
    | some (k, ρ1) => some (!k, ρ1)
    | none => none
def evC (C : CallF) : IC → Ro → Option (Bool × Ro)
  | .yes, ρ => some (true, ρ)
  | .one t, ρ => evT C t ρ
def evI (C : CallF) : II → Ro → Option (List D × List Stat × Ro)
  | .seq e, ρ => match ev C e ρ with
    | some (d, s, ρ1) => match itemsOf d with
      | some xs => some (xs, [s], ρ1)
      | none => none
    | none => none
  | .rng1 a, ρ => match ev C a ρ with
    | some (.int j, _, ρ1) => if j < lim ∧ -lim < j then some (rangeD 0 j.toNat, [], ρ1) else none
    | _ => none
  | .rng2 a b, ρ => match ev C a ρ with
    | some (.int i, sx, ρ1) => match ev C b ρ1 with
      | some (.int j, _, ρ2) => if okSt sx (effE b) = true ∧ j < lim ∧ -lim < j ∧ i < lim ∧ -lim < i then some (rangeD i (j - i).toNat, [], ρ2) else none
      | _ => none
    | _ => none
  | .enum e, ρ => match ev C e ρ with
    | some (d, s, ρ1) => match itemsOf d with
      | some xs => some (enumD 0 xs, [s], ρ1)
      | none => none
    | none => none
  | .zip a b, ρ => match ev C a ρ with
    | some (x, sx, ρ1) => match ev C b ρ1 with
      | some (y, sy, ρ2) => if okSt sx (effE b) then (match itemsOf x with
        | some xs => match itemsOf y with
          | some ys => some (zipD xs ys, [sx, sy], ρ2)
          | none => none
        | none => none) else none
      | none => none
    | none => none
  | .ezip a b, ρ => match ev C a ρ with
    | some (x, sx, ρ1) => match ev C b ρ1 with
      | some (y, sy, ρ2) => if okSt sx (effE b) then (match itemsOf x with
        | some xs => match itemsOf y with
          | some ys => some (enumD 0 (zipD xs ys), [sx, sy], ρ2)
          | none => none
        | none => none) else none
      | none => none
    | none => none
  | .zip3 a b c, ρ => match ev C a ρ with
    | some (x, sx, ρ1) => match ev C b ρ1 with
      | some (y, sy, ρ2) => match ev C c ρ2 with
        | some (z, sz, ρ3) => if okSt sx (effE b ++ effE c) && okSt sy (effE c) then (match itemsOf x with
          | some xs => match itemsOf y with
            | some ys => match itemsOf z with
              | some zs => some (zipD3 xs ys zs, [sx, sy, sz], ρ3)
              | none => none
            | none => none
          | none => none) else none
        | none => none
      | none => none
    | none => none
end

def wf : Nat := 100000
def whGo (t : Ro → Option (Bool × Ro)) (b : Ro → Option Out) : Nat → Ro → Option Out
  | 0, _ => none
  | n + 1, ρ => match t ρ with
    | some (true, ρ1) => match b ρ1 with
      | some (.nx ρ2) => whGo t b n ρ2
      | r => r
    | some (false, ρ1) => some (.nx ρ1)
    | none => none
def forGo (turn : D → Ro → Option Out) : List D → Ro → Option Out
  | [], ρ => some (.nx ρ)
  | x :: r, ρ => match turn x ρ with
    | some (.nx ρ1) => forGo turn r ρ1
    | q => q
def putAll (C : CallF) : IPs → List D → Ro → Option Ro
  | .nil, [], ρ => some ρ
  | .nm i r, d :: ds, ρ => match bindV (.nm i) d .fresh ρ with
    | some ρ1 => putAll C r ds ρ1
    | none => none
  | .at i k r, d :: ds, ρ => if isOwn ρ i && !(effE k).contains i then (match ev C k ρ with
    | some (.int n, _, ρ1) => match ρ1[i]? with
      | some (.own (.list xs)) => match setL xs n d with
        | some ys => putAll C r ds (ρ1.set i (.own (.list ys)))
        | none => none
      | some (.byr (.list xs)) => match setL xs n d with
        | some ys => putAll C r ds (ρ1.set i (.byr (.list ys)))
        | none => none
      | _ => none
    | _ => none) else none
  | _, _, _ => none
/-- whether an item of a slot's own list is a list -/
def rowL (ρ : Ro) (i : Nat) (n : Int) : Bool := match ρ[i]? with
  | some (.own (.list xs)) => match pixN xs.length n with
    | some j => match xs[j]? with
      | some (.list _) => true
      | _ => false
    | none => false
  | some (.byr (.list xs)) => match pixN xs.length n with
    | some j => match xs[j]? with
      | some (.list _) => true
      | _ => false
    | none => false
  | _ => false
/-- a list's item, its owner still the same -/
def itemL (ρ : Ro) (i : Nat) (n : Int) : Option Int := match ρ[i]? with
  | some (.own (.list xs)) => match pixN xs.length n with
    | some j => match xs[j]? with
      | some (.int x) => some x
      | _ => none
    | none => none
  | some (.byr (.list xs)) => match pixN xs.length n with
    | some j => match xs[j]? with
      | some (.int x) => some x
      | _ => none
    | none => none
  | _ => none
mutual
def exec (C : CallF) : IS → Ro → Option Out
  | .puts ps e, ρ => match ev C e ρ with
    | some (.tuple ds, sy, ρ0) => match settle (.tuple ds) sy ρ0 with
      | some ρ1 => match putAll C ps ds ρ1 with
        | some ρ2 => some (.nx ρ2)
        | none => none
      | none => none
    | _ => none
  | .asg g e, ρ => match ev C e ρ with
    | some (d, s, ρ1) => match settleA d s ρ1 with
      | some (s', ρ2) => match bindV g d s' ρ2 with
        | some ρ3 => some (.nx ρ3)
        | none => none
      | none => none
    | none => none
  | .par is es, ρ => match evs C es ρ with
    | some (ds, ρ1) => match settles ds ρ1 with
      | some (xs, ρ2) => match bindNs is xs ρ2 with
        | some ρ3 => some (.nx ρ3)
        | none => none
      | none => none
    | none => none
  | .set i k e, ρ => match ev C e ρ with
    | some (y, sy, ρ0) => match settle y sy ρ0 with
      | some ρ1 => if isOwn ρ1 i && !(effE k).contains i then (match ev C k ρ1 with
        | some (.int n, _, ρ3) => match ρ3[i]? with
          | some (.own (.list xs)) => match setL xs n y with
            | some ys => some (.nx (ρ3.set i (.own (.list ys))))
            | none => none
          | some (.byr (.list xs)) => match setL xs n y with
            | some ys => some (.nx (ρ3.set i (.byr (.list ys))))
            | none => none
          | _ => none
        | _ => none) else none
      | none => none
    | none => none
  | .set2 i k1 k e, ρ => match ev C e ρ with
    | some (y, sy, ρ0) => match settle y sy ρ0 with
      | some ρ1 => if isOwn ρ1 i && !(effE k1).contains i && !(effE k).contains i then (match ev C k1 ρ1 with
        | some (.int m, _, ρ2) => if rowL ρ2 i m then (match ev C k ρ2 with
          | some (.int n, _, ρ3) => match ρ3[i]? with
            | some (.own (.list xs)) => match setL2 xs m n y with
              | some ys => some (.nx (ρ3.set i (.own (.list ys))))
              | none => none
            | some (.byr (.list xs)) => match setL2 xs m n y with
              | some ys => some (.nx (ρ3.set i (.byr (.list ys))))
              | none => none
            | _ => none
          | _ => none) else none
        | _ => none) else none
      | none => none
    | none => none
  | .aug op i e, ρ => match ev C e ρ with
    | some (y, _, ρ1) => match ρ[i]?, ρ1[i]? with
      | some (.pur x), some (.pur x') => if deq x x' then (match augD op x y with
        | some d => some (.nx (ρ1.set i (.pur d)))
        | none => none) else none
      | _, _ => none
    | _ => none
  | .augx op i k e, ρ => if isOwn ρ i && !(effE k).contains i && !(effE e).contains i then (match ev C k ρ with
    | some (.int n, _, ρ1) => match itemL ρ1 i n with
      | some x => match ev C e ρ1 with
        | some (.int y, _, ρ2) => match augop op x y with
          | some z => match ρ2[i]? with
            | some (.own (.list xs)) => match setL xs n (.int z) with
              | some ys => some (.nx (ρ2.set i (.own (.list ys))))
              | none => none
            | some (.byr (.list xs)) => match setL xs n (.int z) with
              | some ys => some (.nx (ρ2.set i (.byr (.list ys))))
              | none => none
            | _ => none
          | none => none
        | _ => none
      | none => none
    | _ => none) else none
  | .expr e, ρ => match ev C e ρ with
    | some (_, _, ρ1) => some (.nx ρ1)
    | none => none
  | .ifs t a b, ρ => match evT C t ρ with
    | some (k, ρ1) => if k then execs C a ρ1 else execs C b ρ1
    | none => none
  | .whl t b, ρ => whGo (evT C t) (execs C b) wf ρ
  | .for g it b, ρ => match evI C it ρ with
    | some (xs, st, ρ1) => if st.all (walkOk · xs (g.slots ++ effSs b)) then
        forGo (fun x ρ => match bindV g x .froz ρ with
          | some ρa => execs C b ρa
          | none => none) xs ρ1 else none
    | none => none
  | .ret e, ρ => match ev C e ρ with
    | some (d, s, ρ1) => match settle d s ρ1 with
      | some ρ2 => some (.rt d ρ2)
      | none => none
    | none => none
  | .retN, ρ => some (.rt .none ρ)
  | .pass, ρ => some (.nx ρ)
  | .never, _ => none
def execs (C : CallF) : ISs → Ro → Option Out
  | .nil, ρ => some (.nx ρ)
  | .cons s ss, ρ => match exec C s ρ with
    | some (.nx ρ1) => execs C ss ρ1
    | r => r
end

/-- how a def's parameters come: all to be read; the first by reference; the first a list that may be locked -/
inductive Mode where
  | plain
  | byr
  | scr
  deriving DecidableEq
/-- a def: its name, how many parameters, its mode, its names, its body -/
structure Fd where
  name : Str
  nparams : Nat
  mode : Mode
  nslots : Nat
  body : ISs
def bindS : Mode → List D → List Slot
  | .scr, d :: r => (if pur d then .pur d else .scr d) :: r.map bind1
  | _, ds => ds.map bind1
def startRo (f : Fd) (r : Option D) (ds : List D) : Ro :=
  (match r with | some c => [Slot.byr c] | none => []) ++ bindS f.mode ds ++ List.replicate (f.nslots - f.nparams) .emp
def modeOk (m : Mode) (r : Option D) : Bool := match m, r with
  | .byr, some _ => true
  | .byr, none => false
  | _, none => true
  | _, some _ => false
def finish (r : Option D) : Option Out → Option (D × Option D)
  | some (.rt d ρ) => match r with
    | some _ => match (ρ : List Slot)[0]? with
      | some (Slot.byr c) => some (d, some c)
      | _ => none
    | none => some (d, none)
  | some (.nx ρ) => match r with
    | some _ => match (ρ : List Slot)[0]? with
      | some (Slot.byr c) => some (.none, some c)
      | _ => none
    | none => some (.none, none)
  | none => none
def run (T : List Fd) : Nat → CallF
  | 0, _, _, _ => none
  | k + 1, f, r, ds => match T[f]? with
    | some fd => if (if r.isSome then 1 else 0) + ds.length = fd.nparams ∧ modeOk fd.mode r = true ∧ fd.nparams ≤ fd.nslots then finish r (execs (run T k) fd.body (startRo fd r ds)) else none
    | none => none
def isOut (r : Option (D × Option D)) (d : D) : Bool := match r with
  | some (e, _) => deq e d
  | none => false
end Zr

set_option maxRecDepth 100000
set_option maxHeartbeats 4000000
/-! ZrC: the operations of ZrB are what the model does, by values. -/
namespace Zr
open PySem PySem.Spec PyProof.Rows L2

section
variable {K : Fr'} {H H' : Hp} {P : Addr → Prop} {b : Bool}
mutual
theorem Bor.dp : ∀ {v : V} {d : D}, Bor K H b P v d → Dp K H v d
  | _, _, .non => .non
  | _, _, .bl b => .bl b
  | _, _, .int i => .int i
  | _, _, .str x => .str x
  | _, _, .tup h t => .tup h (BorL.dp t)
  | _, _, .lst h _ t => .lst (.inl (.inl h)) (BorL.dp t)
  | _, _, .lsk _ h t => .lst h.sq (BorL.dp t)
theorem BorL.dp : ∀ {vs : List V} {ds : List D}, BorL K H b P vs ds → DpAll K H vs ds
  | _, _, .nil => .nil
  | _, _, .cons h t => .cons (Bor.dp h) (BorL.dp t)
end
theorem Bor.reads {X : Cx} {pins : List (Addr × Obj)} {σ : L2.St} {s : Shared} {v : V} {d : D} {u : Value} (h : Bor X.K H b P v d) (I : Inv X pins σ H s) (r : RelV v u) : ∃ as, Reads s.heap u d as :=
  Dp.reads I d v u h.dp r

/-- a new value: nothing that stood has changed -/
def NewD (K : Fr') (H H' : Hp) (v : V) (d : D) : Prop :=
  (∀ a o, H a = some o → H' a = some o) ∧ ∃ B, Own K H' v d B ∧ B.Nodup ∧ ∀ a ∈ B, H a = none
theorem NewD.pure {v : V} {d : D} (p : pur d = true) (h : Bor K H b P v d) : NewD K H H v d := ⟨fun _ _ e => e, [], Bor.own h p, List.nodup_nil, fun _ m => (nomatch m)⟩
theorem upd_kept {p : Addr} {o : HO} (n : H p = none) : ∀ a u, H a = some u → upd H p o a = some u := fun a u e => by
  rw [upd_ne (ne_of_none e n)]
  exact e
theorem BorL.up {p : Addr} {o : HO} (n : H p = none) {vs : List V} {ds : List D} (h : BorL K H b P vs ds) : BorL K (upd H p o) b P vs ds := h.keep (fun a u e _ => upd_kept n a u e) fun _ q _ => q
theorem NewD.lst {p : Addr} {vs : List V} {ds : List D} (n : H p = none) (p' : purs ds = true) (h : BorL K H b P vs ds) : NewD K H (upd H p (.lst vs)) (.ref p) (.list ds) :=
  ⟨upd_kept n, [p], .lst upd_same (BorL.own (h.up n) p'), List.nodup_cons.mpr ⟨fun z => (nomatch z), List.nodup_nil⟩, fun a m => by
    rw [List.mem_singleton.mp m]
    exact n⟩
theorem NewD.tup {p : Addr} {vs : List V} {ds : List D} (n : H p = none) (p' : purs ds = true) (h : BorL K H b P vs ds) : NewD K H (upd H p (.tup vs)) (.ref p) (.tuple ds) :=
  ⟨upd_kept n, [], .tup (.inl (.inl upd_same)) (BorL.own (h.up n) p'), List.nodup_nil, fun a m => (nomatch m)⟩
theorem purs_append {xs ys : List D} (h : purs xs = true) (k : purs ys = true) : purs (xs ++ ys) = true := purs_of fun d m => (List.mem_append.mp m).elim (purs_mem h d) (purs_mem k d)
theorem purs_sub {xs ys : List D} (h : purs xs = true) (k : ∀ d ∈ ys, d ∈ xs) : purs ys = true := purs_of fun d m => purs_mem h d (k d m)
end

/-! ### comparisons -/
def natB {X : Cx} (hu : X.A.units + 64 < cLine) (n : Nat) (h : n ≤ 40) : X.A.units + n < cLine := by omega
theorem minle {a b n : Nat} (h : a ≤ n) : min a b ≤ n := Nat.le_trans (Nat.min_le_left _ _) h
theorem eqD_spec {a b : D} {k : Bool} (h : eqD a b = some k) : k = PyData.eqv a b ∧ a.plain = true ∧ b.plain = true ∧ a.depth ≤ 40 := by
  have gen : (if (a.plain && b.plain && decide (a.depth ≤ 40)) = true then some (PyData.eqv a b) else none) = some k → k = PyData.eqv a b ∧ a.plain = true ∧ b.plain = true ∧ a.depth ≤ 40 := by
    intro h
    by_cases q : (a.plain && b.plain && decide (a.depth ≤ 40)) = true
    · rw [if_pos q] at h
      simp only [Bool.and_eq_true, decide_eq_true_eq] at q
      cases h
      exact ⟨rfl, q.1.1, q.1.2, q.2⟩
    · rw [if_neg q] at h
      cases h
  cases a <;> cases b <;> first
    | exact gen h
    | (cases h
       exact ⟨by simp [PyData.eqv], rfl, rfl, Nat.zero_le _⟩)
theorem dataLt_int (i j : Int) : PySem.W.dataLt (.int i) (.int j) = decide (i < j) := by
  have h := congrFun (congrFun (PySem.W.dataLe_int (β := Int) id) j) i
  have e : PySem.W.dataLe false (fun b : Int => PyData.int (id b)) j i = !PySem.W.dataLt (.int i) (.int j) := rfl
  rw [e] at h
  have h2 : PySem.W.dataLt (.int i) (.int j) = !decide (id j ≤ id i) := by rw [← h]; simp
  rw [h2]
  by_cases q : i < j
  · simp [q]
  · simp [q]
    omega
theorem ltD_spec {a b : D} {k : Bool} (h : ltD a b = some k) : k = PySem.W.dataLt a b ∧ PySem.W.alike a b = true ∧ a ≠ .none ∧ a.depth ≤ 40 := by
  have gen : (if (PySem.W.alike a b && decide (a.depth ≤ 40) && !isNone a) = true then some (PySem.W.dataLt a b) else none) = some k → k = PySem.W.dataLt a b ∧ PySem.W.alike a b = true ∧ a ≠ .none ∧ a.depth ≤ 40 := by
    intro h
    by_cases q : (PySem.W.alike a b && decide (a.depth ≤ 40) && !isNone a) = true
    · rw [if_pos q] at h
      simp only [Bool.and_eq_true, decide_eq_true_eq] at q
      cases h
      refine ⟨rfl, q.1.1, ?_, q.1.2⟩
      rintro rfl
      exact absurd q.2 (by simp [isNone])
    · rw [if_neg q] at h
      cases h
  cases a <;> cases b <;> first
    | exact gen h
    | (cases h
       exact ⟨(dataLt_int _ _).symm, rfl, (fun z => nomatch z), Nat.zero_le _⟩)
theorem memD_spec {x : D} {ys : List D} {k : Bool} (h : memD x ys = some k) : k = (ys.any fun y => PyData.eqv y x) ∧ x.plain = true ∧ PyData.plainAll ys = true ∧ x.depth ≤ 40 := by
  unfold memD at h
  split at h
  · rename_i q
    simp only [Bool.and_eq_true, decide_eq_true_eq] at q
    cases h
    exact ⟨rfl, q.1.1, q.1.2, q.2⟩
  · cases h
section
variable {X : Cx}
/-- a comparison of data -/
def rCmp (K : Fr') (op : CmpOp) : R2 := fun x y H Q => ∃ dx dy k, Bor K H true (fun _ => True) x dx ∧ Bor K H true (fun _ => True) y dy ∧ cmpop op dx dy = some k ∧ Q (.bl k) H
theorem notD {o : Option Bool} {k : Bool} (h : o.map (!·) = some k) : ∃ k', o = some k' ∧ k = !k' := by
  cases o with
  | none => cases h
  | some k' => exact ⟨k', rfl, (Option.some.inj h).symm⟩
theorem is_bool_gen {M : Model} {A : Around} {E : Value → Shared → Prop} {s : Shared} {Q : Value → Shared → Prop} {v : Value} {c : Bool} (hv : ∀ n, v ≠ .builtin n) (h : Q (.bool (v == .bool c)) s) : wpAny M A (compareOp .Is v (.bool c)) Q E s := by
  cases v <;> first
    | exact wpAny_pure h
    | exact absurd rfl (hv _)
theorem isnot_bool_gen {M : Model} {A : Around} {E : Value → Shared → Prop} {s : Shared} {Q : Value → Shared → Prop} {v : Value} {c : Bool} (hv : ∀ n, v ≠ .builtin n) (h : Q (.bool (!(v == .bool c))) s) : wpAny M A (compareOp .IsNot v (.bool c)) Q E s := by
  cases v <;> first
    | exact wpAny_pure h
    | exact absurd rfl (hv _)
theorem op_isB : OpR X (compareOp .Is) (fun x y H Q => ∃ c d, y = .bl c ∧ Bor X.K H true (fun _ => True) x d ∧ Q (.bl (isB d c)) H) := by
  intro pins s σ H x y v u Q I rx ry h
  obtain ⟨c, d, rfl, hx, q⟩ := h
  cases ry
  cases hx with
  | int i =>
    obtain ⟨t, rfl⟩ := rx
    exact is_bool_gen (fun n z => nomatch z) (fin_bl I q (by cases c <;> rfl))
  | str x =>
    obtain ⟨t, rfl⟩ := rx
    exact is_bool_gen (fun n z => nomatch z) (fin_bl I q (by cases c <;> rfl))
  | non =>
    cases rx
    exact is_bool_gen (fun n z => nomatch z) (fin_bl I q (by cases c <;> rfl))
  | bl b =>
    cases rx
    exact is_bool_gen (fun n z => nomatch z) (fin_bl I q (by cases b <;> cases c <;> rfl))
  | tup h1 h2 =>
    cases rx
    exact is_bool_gen (fun n z => nomatch z) (fin_bl I q (by cases c <;> rfl))
  | lst h1 h2 h3 =>
    cases rx
    exact is_bool_gen (fun n z => nomatch z) (fin_bl I q (by cases c <;> rfl))
  | lsk h1 h2 h3 =>
    cases rx
    exact is_bool_gen (fun n z => nomatch z) (fin_bl I q (by cases c <;> rfl))
theorem op_notB : OpR X (compareOp .IsNot) (fun x y H Q => ∃ c d, y = .bl c ∧ Bor X.K H true (fun _ => True) x d ∧ Q (.bl (!isB d c)) H) := by
  intro pins s σ H x y v u Q I rx ry h
  obtain ⟨c, d, rfl, hx, q⟩ := h
  cases ry
  cases hx with
  | int i =>
    obtain ⟨t, rfl⟩ := rx
    exact isnot_bool_gen (fun n z => nomatch z) (fin_bl I q (by cases c <;> rfl))
  | str x =>
    obtain ⟨t, rfl⟩ := rx
    exact isnot_bool_gen (fun n z => nomatch z) (fin_bl I q (by cases c <;> rfl))
  | non =>
    cases rx
    exact isnot_bool_gen (fun n z => nomatch z) (fin_bl I q (by cases c <;> rfl))
  | bl b =>
    cases rx
    exact isnot_bool_gen (fun n z => nomatch z) (fin_bl I q (by cases b <;> cases c <;> rfl))
  | tup h1 h2 =>
    cases rx
    exact isnot_bool_gen (fun n z => nomatch z) (fin_bl I q (by cases c <;> rfl))
  | lst h1 h2 h3 =>
    cases rx
    exact isnot_bool_gen (fun n z => nomatch z) (fin_bl I q (by cases c <;> rfl))
  | lsk h1 h2 h3 =>
    cases rx
    exact isnot_bool_gen (fun n z => nomatch z) (fin_bl I q (by cases c <;> rfl))
theorem op_cmp (hu : X.A.units + 64 < cLine) (op : CmpOp) : OpR X (compareOp op) (rCmp X.K op) := by
  intro pins s σ H x y v u Q I rx ry h
  obtain ⟨dx, dy, k, hx, hy, hk, q⟩ := h
  obtain ⟨as, r1⟩ := hx.reads I rx
  obtain ⟨bs, r2⟩ := hy.reads I ry
  have fin : ∀ k', k' = k → EP X pins σ Q (.bool k') s := fun k' e => ⟨.bl k, H, I, by rw [e]; rfl, q⟩
  cases op with
  | Eq =>
    obtain ⟨e, p1, p2, p3⟩ := eqD_spec hk
    exact PySem.SeqAt.eq_plain r1 r2 p1 p2 (by have := minle (b := dy.depth) p3; omega) (fin _ e.symm)
  | NotEq =>
    obtain ⟨k', hk', e'⟩ := notD hk
    obtain ⟨e, p1, p2, p3⟩ := eqD_spec hk'
    exact PySem.SeqAt.ne_plain r1 r2 p1 p2 (by have := minle (b := dy.depth) p3; omega) (fin _ (by rw [e', e]))
  | Lt =>
    obtain ⟨e, p1, p2, p3⟩ := ltD_spec hk
    exact PySem.W.lt_data r1 r2 p1 p2 (by have := minle (b := dy.depth) p3; omega) (fin _ e.symm)
  | Gt =>
    obtain ⟨e, p1, p2, p3⟩ := ltD_spec hk
    have p1' : PySem.W.alike dx dy = true := by rw [PySem.W.alike_comm]; exact p1
    exact PySem.W.gt_data r1 r2 p1' (PySem.W.ne_none_both p1 p2) (by have := minle (b := dx.depth) p3; rw [Nat.min_comm]; omega) (fin _ e.symm)
  | LtE =>
    obtain ⟨k', hk', e'⟩ := notD hk
    obtain ⟨e, p1, p2, p3⟩ := ltD_spec hk'
    have p1' : PySem.W.alike dx dy = true := by rw [PySem.W.alike_comm]; exact p1
    exact PySem.W.le_data r1 r2 p1' (PySem.W.ne_none_both p1 p2) (by have := minle (b := dx.depth) p3; rw [Nat.min_comm]; omega) (fin _ (by rw [e', e]))
  | GtE =>
    obtain ⟨k', hk', e'⟩ := notD hk
    obtain ⟨e, p1, p2, p3⟩ := ltD_spec hk'
    exact PySem.W.ge_data r1 r2 p1 p2 (by have := minle (b := dy.depth) p3; omega) (fin _ (by rw [e', e]))
  | Is =>
    cases hy <;> simp only [cmpop] at hk <;> try (cases hk; done)
    · exact op_isN pins s σ H x .non v u Q I rx ry ⟨rfl, by
        cases hk
        cases hx <;> simpa [isNone] using q⟩
    · exact op_isB pins s σ H x _ v u Q I rx ry ⟨_, dx, rfl, hx, by
        cases hk
        exact q⟩
  | IsNot =>
    cases hy <;> simp only [cmpop] at hk <;> try (cases hk; done)
    · exact op_notN pins s σ H x .non v u Q I rx ry ⟨rfl, by
        cases hk
        cases hx <;> simpa [isNone] using q⟩
    · exact op_notB pins s σ H x _ v u Q I rx ry ⟨_, dx, rfl, hx, by
        cases hk
        exact q⟩
  | In =>
    cases dy <;> simp only [cmpop] at hk <;> try (cases hk; done)
    · cases hy
      cases hx <;> simp only [cmpop] at hk <;> try (cases hk; done)
      cases hk
      exact op_in_str pins s σ H _ _ v u Q I rx ry ⟨_, _, rfl, rfl, q⟩
    · obtain ⟨e, p1, p2, p3⟩ := memD_spec hk
      exact PySem.SeqAt.in_list_data r2 r1 p2 p1 (by have := Nat.min_le_right (PyData.depthAll (by assumption)) dx.depth; omega) (fin _ e.symm)
    · obtain ⟨e, p1, p2, p3⟩ := memD_spec hk
      exact PySem.SeqAt.in_tuple_data r2 r1 p2 p1 (by have := Nat.min_le_right (PyData.depthAll (by assumption)) dx.depth; omega) (fin _ e.symm)
  | NotIn =>
    cases dy <;> simp only [cmpop] at hk <;> try (cases hk; done)
    · cases hy
      cases hx <;> simp only [cmpop] at hk <;> try (cases hk; done)
      cases hk
      exact op_notin_str pins s σ H _ _ v u Q I rx ry ⟨_, _, rfl, rfl, q⟩
    · obtain ⟨k', hk', e'⟩ := notD hk
      obtain ⟨e, p1, p2, p3⟩ := memD_spec hk'
      exact PySem.SeqAt.notIn_list_data r2 r1 p2 p1 (by have := Nat.min_le_right (PyData.depthAll (by assumption)) dx.depth; omega) (fin _ (by rw [e', e]))
    · obtain ⟨k', hk', e'⟩ := notD hk
      obtain ⟨e, p1, p2, p3⟩ := memD_spec hk'
      exact PySem.SeqAt.notIn_tuple_data r2 r1 p2 p1 (by have := Nat.min_le_right (PyData.depthAll (by assumption)) dx.depth; omega) (fin _ (by rw [e', e]))
/-! ### operators -/
theorem lim_line {n : Nat} (h : n ≤ lim) : n ≤ sizeLine := by
  rw [sizeLine_eq]
  exact Nat.le_trans h (by decide)
theorem BorL.ints {K : Fr'} {H : Hp} {b : Bool} {P : Addr → Prop} : ∀ {ns : List Int} {vs : List V}, BorL K H b P vs (ns.map .int) → vs = ns.map V.int
  | [], _, .nil => rfl
  | n :: ns, _, .cons h t => by
    cases h
    rw [t.ints]
    rfl
theorem BorL.of_ints {K : Fr'} {H : Hp} {b : Bool} {P : Addr → Prop} : ∀ (ns : List Int), BorL K H b P (ns.map V.int) (ns.map .int)
  | [] => .nil
  | n :: ns => .cons (.int n) (BorL.of_ints ns)
theorem BorL.rep {K : Fr'} {H : Hp} {b : Bool} {P : Addr → Prop} {vs : List V} {ds : List D} (h : BorL K H b P vs ds) : ∀ k : Nat, BorL K H b P (List.replicate k vs).flatten (List.replicate k ds).flatten
  | 0 => .nil
  | k + 1 => by
    rw [List.replicate_succ, List.replicate_succ, List.flatten_cons, List.flatten_cons]
    exact h.append (h.rep k)
theorem purs_rep {ds : List D} (h : purs ds = true) (k : Nat) : purs (List.replicate k ds).flatten = true := purs_of fun d m => by
  obtain ⟨l, h1, h2⟩ := List.mem_flatten.mp m
  rw [(List.mem_replicate.mp h1).2] at h2
  exact purs_mem h d h2
theorem fold_nil (c : Array Nat) (h : c = #[]) : ∀ n : Nat, (List.replicate n c).foldl (· ++ ·) #[] = (#[] : Array Nat)
  | 0 => rfl
  | n + 1 => by
    rw [List.replicate_succ, List.foldl_cons, h]
    have := fold_nil c h n
    rw [h] at this
    simpa using this
theorem repS_nil {x : Str} {n : Nat} (h : x.length = 0) : repS n x = x := by
  have e : x.cps = #[] := by
    have : x.cps.size = 0 := h
    exact Array.eq_empty_of_size_eq_zero this
  unfold repS
  rw [fold_nil _ e]
  cases x
  simp at e
  rw [e]
theorem op_rep_str : OpR X (binaryOp .Mult) (fun x y H Q => ∃ z k, x = .str z ∧ y = .int k ∧ z.length * k.toNat ≤ lim ∧ -(lim : Int) < k ∧ k < lim ∧ Q (.str (repS k.toNat z)) H) := by
  intro pins s σ H x y v u Q I rx ry h
  obtain ⟨z, k, rfl, rfl, hz, h1, h2, q⟩ := h
  obtain ⟨t, rfl⟩ := rx
  obtain ⟨t2, rfl⟩ := ry
  have hl : (lim : Int) = 1000000 := rfl
  have ln : lim = 1000000 := rfl
  refine PySem.P.mul_str ?_ (fun a c => ?_) (fun a c => ?_) ?_
  · rw [decide_eq_false (by omega : ¬ k < -(2 ^ 63 : Int)), decide_eq_false (by omega : ¬ k ≥ 2 ^ 63)]
    rfl
  · have hk : (z.length : Int) * k ≤ 1000000 := by
      have e : ((z.length * k.toNat : Nat) : Int) = (z.length : Int) * k := by
        rw [Int.natCast_mul, Int.toNat_of_nonneg (by omega)]
      rw [← e, ← hl]
      exact Int.ofNat_le.mpr hz
    refine Int.not_lt.mpr ?_
    refine Int.le_ediv_of_mul_le (by omega) (Int.le_trans hk (by decide))
  · unfold Builtin.Str.tooLong
    have := lim_line hz
    simp
    omega
  · by_cases a : k < 1
    · rw [if_pos a]
      refine ⟨by decide, ⟨.str _, H, I.tok _, ⟨_, rfl⟩, ?_⟩⟩
      have e : k.toNat = 0 := by omega
      rw [e] at q
      exact q
    · rw [if_neg a]
      by_cases c : (k == 1 || z.length == 0) = true
      · rw [if_pos c]
        refine ⟨.str z, H, I, ⟨_, rfl⟩, ?_⟩
        simp only [Bool.or_eq_true, beq_iff_eq] at c
        rcases c with c | c
        · subst c
          have e : repS (1 : Int).toNat z = z := by
            unfold repS
            cases z
            simp
          rw [e] at q
          exact q
        · rw [repS_nil c] at q
          exact q
      · rw [if_neg c]
        refine ⟨?_, ⟨.str _, H, I.tok _, ⟨_, rfl⟩, q⟩⟩
        have big : ∀ (n : Nat) (w : Array Nat), ((List.replicate n z.cps).foldl (· ++ ·) w).size = w.size + n * z.cps.size := by
          intro n
          induction n with
          | zero => intro w; simp
          | succ n ih =>
            intro w
            rw [List.replicate_succ, List.foldl_cons, ih, Array.size_append, Nat.succ_mul]
            omega
        show ((List.replicate k.toNat z.cps).foldl (· ++ ·) #[]).size ≤ sizeLine
        rw [big]
        have := lim_line hz
        have e : z.length = z.cps.size := rfl
        rw [e, Nat.mul_comm] at this
        simpa using this
def rBin (K : Fr') (op : Operator) : R2 := fun x y H Q => ∃ dx dy d, Bor K H false (fun _ => True) x dx ∧ Bor K H false (fun _ => True) y dy ∧ binop op dx dy = some d ∧ ∀ v H', NewD K H H' v d → Q v H'
theorem ifs {α : Type} {c : Prop} [Decidable c] {a : α} {d : α} (h : (if c then some a else none) = some d) : c ∧ a = d := by
  by_cases q : c
  · rw [if_pos q] at h
    exact ⟨q, Option.some.inj h⟩
  · rw [if_neg q] at h
    cases h
theorem op_bin (op : Operator) : OpR X (binaryOp op) (rBin X.K op) := by
  intro pins s σ H x y v u Q I rx ry h
  obtain ⟨dx, dy, d, hx, hy, hd, q⟩ := h
  have qi : ∀ i, d = .int i → Q (.int i) H := fun i e => q _ _ (by rw [e]; exact NewD.pure (b := false) (P := fun _ => True) rfl (.int i))
  have qs : ∀ z, d = .str z → Q (.str z) H := fun z e => q _ _ (by rw [e]; exact NewD.pure (b := false) (P := fun _ => True) rfl (.str z))
  cases op <;> cases hx <;> cases hy <;> simp only [binop] at hd <;> first
    | (cases hd; done)
    | exact absurd (by assumption : false = true) Bool.false_ne_true
    | skip
  · cases hd
    exact op_add pins s σ H _ _ v u Q I rx ry ⟨_, _, rfl, rfl, qi _ rfl⟩
  · obtain ⟨c, e⟩ := ifs hd
    exact op_add_str pins s σ H _ _ v u Q I rx ry ⟨_, _, rfl, rfl, lim_line c, qs _ e.symm⟩
  · rename_i a xs ds ha la b ys es hb lb
    obtain ⟨⟨c, p1, p2⟩, e⟩ := ifs hd
    subst e
    refine op_catA pins s σ H _ _ v u Q I rx ry ⟨a, b, xs, ys, rfl, rfl, ha, hb, lim_line (by rw [la.length, lb.length]; exact c), fun e => ?_, fun _ e => ?_, fun _ _ p n => ?_⟩
    · subst e
      cases la
      exact q _ _ (NewD.pure (b := false) (P := fun _ => True) p2 (.tup hb lb))
    · subst e
      cases lb
      rw [List.append_nil] at q
      exact q _ _ (NewD.pure (b := false) (P := fun _ => True) p1 (.tup ha la))
    · exact q _ _ (NewD.tup n (purs_append p1 p2) (la.append lb))
  · rename_i a xs ds ha pa la b ys es hb pb lb
    obtain ⟨⟨c, p1, p2⟩, e⟩ := ifs hd
    subst e
    exact op_cat pins s σ H _ _ v u Q I rx ry ⟨a, b, xs, ys, rfl, rfl, ha, hb, lim_line (by rw [la.length, lb.length]; exact c), fun p n => q _ _ (NewD.lst n (purs_append p1 p2) (la.append lb))⟩
  · cases hd
    exact op_sub pins s σ H _ _ v u Q I rx ry ⟨_, _, rfl, rfl, qi _ rfl⟩
  · obtain ⟨c, e⟩ := ifs hd
    simp only [mulOk, mulSm, Bool.or_eq_true, decide_eq_true_eq] at c
    rcases c with c | c
    · refine op_mul pins s σ H _ _ v u Q I rx ry ⟨_, _, rfl, rfl, c.imp (fun z => ?_) (fun z => ?_), qi _ e.symm⟩ <;> omega
    · exact op_mulW pins s σ H _ _ v u Q I rx ry ⟨_, _, rfl, rfl, c, qi _ e.symm⟩
  · obtain ⟨⟨c, c1, c2⟩, e⟩ := ifs hd
    exact op_rep_str pins s σ H _ _ v u Q I rx ry ⟨_, _, rfl, rfl, c, c1, c2, qs _ e.symm⟩
  · rename_i a xs ds ha pa la k
    obtain ⟨⟨c, c1, c2, p⟩, e⟩ := ifs hd
    subst e
    have ln : (lim : Int) = 1000000 := rfl
    exact op_rep pins s σ H _ _ v u Q I rx ry ⟨a, k, xs, rfl, rfl, ha, by omega, by omega, lim_line (by rw [la.length]; exact c), fun p' n => q _ _ (NewD.lst n (purs_rep p _) (la.rep _))⟩
  · obtain ⟨c, e⟩ := ifs hd
    exact op_modN pins s σ H _ _ v u Q I rx ry ⟨_, _, rfl, rfl, c, qi _ e.symm⟩
  · obtain ⟨c, e⟩ := ifs hd
    simp only [powOk, Bool.and_eq_true, decide_eq_true_eq] at c
    exact op_pow pins s σ H _ _ v u Q I rx ry ⟨_, _, rfl, rfl, ⟨c.1.1, c.1.2, c.2⟩, qi _ e.symm⟩
  · obtain ⟨c, e⟩ := ifs hd
    simp only [divOk, Bool.and_eq_true, decide_eq_true_eq] at c
    exact op_fdivN pins s σ H _ _ v u Q I rx ry ⟨_, _, rfl, rfl, c, qi _ e.symm⟩
end
end Zr

set_option maxRecDepth 100000
set_option maxHeartbeats 4000000
/-! ZrD: built-ins, indices, slices, truth, by values. -/
namespace Zr
open PySem PySem.Spec PyProof.Rows L2

theorem toInts_eq : ∀ {xs : List D} {ns : List Int}, toInts xs = some ns → xs = ns.map .int
  | [], ns, h => by
    cases h
    rfl
  | d :: r, ns, h => by
    cases d <;> simp only [toInts] at h <;> try (cases h; done)
    cases e : toInts r with
    | none =>
      rw [e] at h
      cases h
    | some ms =>
      rw [e] at h
      cases h
      rw [toInts_eq e]
      rfl
theorem toBls_eq : ∀ {xs : List D} {ns : List Bool}, toBls xs = some ns → xs = ns.map .bool
  | [], ns, h => by
    cases h
    rfl
  | d :: r, ns, h => by
    cases d <;> simp only [toBls] at h <;> try (cases h; done)
    cases e : toBls r with
    | none =>
      rw [e] at h
      cases h
    | some ms =>
      rw [e] at h
      cases h
      rw [toBls_eq e]
      rfl
theorem BorL.bls {K : Fr'} {H : Hp} {b : Bool} {P : Addr → Prop} : ∀ {ns : List Bool} {vs : List V}, BorL K H b P vs (ns.map .bool) → vs = ns.map V.bl
  | [], _, .nil => rfl
  | n :: ns, _, .cons h t => by
    cases h
    rw [t.bls]
    rfl
/-! ### greatest, least, sorted -/
theorem maxI_spec : ∀ (r : List Int) (m : Int), (maxI m r = m ∨ maxI m r ∈ r) ∧ m ≤ maxI m r ∧ ∀ y ∈ r, y ≤ maxI m r
  | [], m => ⟨.inl rfl, Int.le_refl _, fun _ z => nomatch z⟩
  | x :: r, m => by
    unfold maxI
    by_cases h : x > m
    · rw [if_pos h]
      obtain ⟨h1, h2, h3⟩ := maxI_spec r x
      refine ⟨.inr ?_, by omega, fun y hy => ?_⟩
      · rcases h1 with e | e
        · rw [e]
          exact List.mem_cons_self
        · exact List.mem_cons_of_mem _ e
      · rcases List.mem_cons.mp hy with e | e
        · rw [e]
          exact h2
        · exact h3 y e
    · rw [if_neg h]
      obtain ⟨h1, h2, h3⟩ := maxI_spec r m
      refine ⟨h1.imp id (List.mem_cons_of_mem _), h2, fun y hy => ?_⟩
      rcases List.mem_cons.mp hy with e | e
      · rw [e]
        omega
      · exact h3 y e
theorem minI_spec : ∀ (r : List Int) (m : Int), (minI m r = m ∨ minI m r ∈ r) ∧ minI m r ≤ m ∧ ∀ y ∈ r, minI m r ≤ y
  | [], m => ⟨.inl rfl, Int.le_refl _, fun _ z => nomatch z⟩
  | x :: r, m => by
    unfold minI
    by_cases h : x < m
    · rw [if_pos h]
      obtain ⟨h1, h2, h3⟩ := minI_spec r x
      refine ⟨.inr ?_, by omega, fun y hy => ?_⟩
      · rcases h1 with e | e
        · rw [e]
          exact List.mem_cons_self
        · exact List.mem_cons_of_mem _ e
      · rcases List.mem_cons.mp hy with e | e
        · rw [e]
          exact h2
        · exact h3 y e
    · rw [if_neg h]
      obtain ⟨h1, h2, h3⟩ := minI_spec r m
      refine ⟨h1.imp id (List.mem_cons_of_mem _), h2, fun y hy => ?_⟩
      rcases List.mem_cons.mp hy with e | e
      · rw [e]
        omega
      · exact h3 y e
theorem insI_perm (x : Int) : ∀ l : List Int, (insI x l).Perm (x :: l)
  | [] => .refl _
  | y :: r => by
    unfold insI
    split
    · exact .refl _
    · exact ((insI_perm x r).cons y).trans (.swap x y r)
theorem sortI_perm : ∀ l : List Int, (sortI l).Perm l
  | [] => .refl _
  | x :: r => (insI_perm x _).trans ((sortI_perm r).cons x)
theorem insI_up (x : Int) : ∀ l : List Int, l.Pairwise (· ≤ ·) → (insI x l).Pairwise (· ≤ ·)
  | [], _ => List.pairwise_cons.mpr ⟨fun _ m => (nomatch m), .nil⟩
  | y :: r, h => by
    obtain ⟨h1, h2⟩ := List.pairwise_cons.mp h
    unfold insI
    split
    · rename_i q
      refine List.pairwise_cons.mpr ⟨fun z m => ?_, h⟩
      rcases List.mem_cons.mp m with e | e
      · rw [e]
        exact q
      · exact Int.le_trans q (h1 z e)
    · rename_i q
      refine List.pairwise_cons.mpr ⟨fun z m => ?_, insI_up x r h2⟩
      rcases List.mem_cons.mp ((insI_perm x r).mem_iff.mp m) with e | e
      · rw [e]
        omega
      · exact h1 z e
theorem sortI_up : ∀ l : List Int, (sortI l).Pairwise (· ≤ ·)
  | [] => .nil
  | x :: r => insI_up x _ (sortI_up r)
theorem up_one : ∀ {l m : List Int}, l.Perm m → l.Pairwise (· ≤ ·) → m.Pairwise (· ≤ ·) → l = m
  | [], m, p, _, _ => p.nil_eq
  | x :: r, [], p, _, _ => absurd p.length_eq (by simp)
  | x :: r, y :: t, p, h, k => by
    obtain ⟨h1, h2⟩ := List.pairwise_cons.mp h
    obtain ⟨k1, k2⟩ := List.pairwise_cons.mp k
    have e : x = y := by
      have a : y ≤ x := by
        rcases List.mem_cons.mp (p.mem_iff.mp List.mem_cons_self) with e | e
        · rw [e]
          exact Int.le_refl _
        · exact k1 x e
      have b : x ≤ y := by
        rcases List.mem_cons.mp (p.mem_iff.mpr (List.mem_cons_self (a := y) (l := t))) with e | e
        · rw [e]
          exact Int.le_refl _
        · exact h1 y e
      omega
    subst e
    rw [up_one (List.Perm.cons_inv p) h2 k2]

/-! ### built-ins by name -/
def bn : Bi → Str
  | .len => "len"
  | .abs => "abs"
  | .int => "int"
  | .max => "max"
  | .min => "min"
  | .sum => "sum"
  | .all => "all"
  | .any => "any"
  | .sorted => "sorted"
  | .tuple => "tuple"
  | .list => "list"
  | .repr => "repr"
  | .str => "str"
def bv : Bi → Value
  | .len => .builtin "len"
  | .abs => .builtin "abs"
  | .int => .type "int"
  | .max => .builtin "max"
  | .min => .builtin "min"
  | .sum => .builtin "sum"
  | .all => .builtin "all"
  | .any => .builtin "any"
  | .sorted => .builtin "sorted"
  | .tuple => .type "tuple"
  | .list => .type "list"
  | .repr => .builtin "repr"
  | .str => .type "str"
theorem bn_boot (b : Bi) : bootBuiltins (bn b) = some (bv b) := by cases b <;> decide +kernel
theorem purs_ints (ns : List Int) : purs (ns.map PyData.int) = true := purs_of fun d m => by
  obtain ⟨n, _, e⟩ := List.mem_map.mp m
  rw [← e]
  rfl
theorem cr_sortedTup {X : Cx} : CallR X (.builtin "sorted") (fun vs H Q => ∃ (a : Addr) (ns : List Int), vs = [V.ref a] ∧ SqT X.K H a (ns.map V.int) ∧ ∀ (ns' : List Int) (p : Addr), ns'.Perm ns → ns'.Pairwise (· ≤ ·) → H p = none → Q (.ref p) (upd H p (.lst (ns'.map V.int)))) := by
  intro pins s σ H vs us Q I r h
  obtain ⟨a, ns, rfl, hs, q⟩ := h
  obtain ⟨its, rv, ht, hz⟩ := I.tuple hs
  rw [Vals.ref1 r]
  have hi := rv.ints
  obtain ⟨o, ho, hc, n0, hd⟩ := ht
  have hz2 : its.length ≤ sizeLine := by rw [← rv.length]; exact hz
  refine Calls.call_function_entry kind_sorted plain_sorted entry_sorted (args_sorted1 _) ?_
  unfold Builtin.«sorted»
  refine wpAny_bind (m := checkCount "sorted" 1 1 _) (wpAny_pure ?_)
  refine wpAny_bind (wpAny_collect_seq a (.inr rfl) ho hc hd (fun h1 keep1 => ?_) (by rw [List.size_toArray]; exact hz2))
  have el : its.toArray.toList = its := by simp
  rw [el]
  refine wpAny_bind (wpAny_newList ?_ hz2)
  generalize hb : h1.objs.size = b
  have hoL : (h1.push (seqObj "list" its.toArray 0)).get? b = some (seqObj "list" its.toArray 0) := by
    rw [← hb]
    exact Heap.get?_push_size _ rfl
  have I1 : Inv X pins σ H { s with heap := h1 } := I.kept (t' := s.toks) keep1
  have old : ∀ c u, h1.get? c = some u → c ≠ b ∧ (h1.push (seqObj "list" its.toArray 0)).get? c = some u := fun c u e => by
    refine ⟨?_, Heap.get?_push_of_some _ e⟩
    rw [← hb]
    exact Nat.ne_of_lt (Heap.lt_size e)
  have fresh : h1.objs.size ≤ b := Nat.le_of_eq hb
  refine wpAny_bind (wpAny_holding (wpAny_call_entry slot_list_sort ⟨_, hoL, rfl⟩ entry_list_sort (SrtO.list_sort_ord SrtO.swo_int hoL hz2 (fun h2 => SrtO.ints_sortable hi h2) fun out hs' hb' => ⟨_, rfl, ?_⟩) (args_list_sort _)))
  obtain ⟨k1, k2, k3⟩ := SrtO.ints_out hi hs' hb'
  obtain ⟨ep, he'⟩ := PyProof.Rows.sortedHeap_at (vs := its) (out := out.toArray) hoL
  have hlen : ((out.map SrtO.iv).map V.int).length ≤ sizeLine := by
    rw [List.length_map, k2.length_eq]
    rw [List.length_map] at hz
    exact hz
  refine wpAny_pure ⟨_, rfl, .ref b, upd H b (.lst ((out.map SrtO.iv).map V.int)), I1.laid (t' := s.toks) (fun c u e => ?_) fresh ⟨hlen, out, ep, vals_of_ints k1, he'⟩, rfl, q _ _ k2 k3 (I1.hok.fresh fresh)⟩
  obtain ⟨n1, e1⟩ := old c u e
  rw [PyProof.Rows.sortedHeap_old n1 (Heap.lt_size e1)]
  exact e1

section
variable {X : Cx}
def rBi (K : Fr') (b : Bi) : List V → Hp → VK → Prop := fun vs H Q => ∃ ds d, BorL K H true (fun _ => True) vs ds ∧ bi b ds = some d ∧ ∀ v H', NewD K H H' v d → Q v H'
theorem call_repr_data (hg : X.A.guards = some []) (hu : X.A.units + 64 < cLine) : CallR X (.builtin "repr") (fun vs H Q => ∃ x d, vs = [x] ∧ Bor X.K H true (fun _ => True) x d ∧ d.showable = true ∧ d.hasDict = false ∧ d.depth ≤ 40 ∧ d.shown.length ≤ sizeLine ∧ Q (.str d.shown) H) := by
  intro pins s σ H xs us Q I r h
  obtain ⟨x, d, rfl, hx, h1, h2, h3, h4, q⟩ := h
  obtain ⟨u, rfl, rx⟩ := vals1 r
  obtain ⟨as, rd⟩ := hx.reads I rx
  have fin : ∀ tk, EP X pins σ Q (.str d.shown tk) { s with toks := s.toks + 1 } := fun tk => ⟨.str d.shown, H, I.tok _, ⟨_, rfl⟩, q⟩
  cases rd with
  | none => exact PySem.P.repr_of_none (fin _)
  | bool b => exact PySem.P.repr_of_bool (by
      have := fin s.toks
      simpa only [PyData.shown] using this)
  | int n t => exact PySem.P.repr_of_int (by simpa [PyData.showable] using h1) (by
      have := fin s.toks
      simpa only [PyData.shown] using this)
  | str z t => exact PySem.P.repr_of_str (by
      have := fin s.toks
      simpa only [PyData.shown] using this) (by simpa only [PyData.shown] using h4)
  | list a b c e => exact repr_of_reads' (.list a b c e) h1 (fun z => by rw [h2] at z; cases z) hg (by omega) (fun _ _ e => e) (fun h' u tk k => ⟨.str _, H, I.kept (t' := tk) k, ⟨_, rfl⟩, q⟩) h4
  | tuple a b c e => exact repr_of_reads' (.tuple a b c e) h1 (fun z => by rw [h2] at z; cases z) hg (by omega) (fun _ _ e => e) (fun h' u tk k => ⟨.str _, H, I.kept (t' := tk) k, ⟨_, rfl⟩, q⟩) h4
  | dict a b c e f => cases h2
theorem BorL.one {K : Fr'} {H : Hp} {b : Bool} {P : Addr → Prop} {vs : List V} {d : D} (h : BorL K H b P vs [d]) : ∃ v, vs = [v] ∧ Bor K H b P v d := by
  cases h with
  | cons h t =>
    cases t
    exact ⟨_, rfl, h⟩
theorem BorL.two {K : Fr'} {H : Hp} {b : Bool} {P : Addr → Prop} {vs : List V} {d e : D} (h : BorL K H b P vs [d, e]) : ∃ v w, vs = [v, w] ∧ Bor K H b P v d ∧ Bor K H b P w e := by
  cases h with
  | cons h t =>
    cases t with
    | cons k t =>
      cases t
      exact ⟨_, _, rfl, h, k⟩
theorem Bor.list {K : Fr'} {H : Hp} {b : Bool} {P : Addr → Prop} {v : V} {ds : List D} (h : Bor K H b P v (.list ds)) : ∃ a xs, v = .ref a ∧ SqL K H a xs ∧ BorL K H b P xs ds := by
  cases h with
  | lst h _ t => exact ⟨_, _, rfl, .inl (.inl h), t⟩
  | lsk _ h t => exact ⟨_, _, rfl, h.sq, t⟩
theorem Bor.tuple {K : Fr'} {H : Hp} {b : Bool} {P : Addr → Prop} {v : V} {ds : List D} (h : Bor K H b P v (.tuple ds)) : ∃ a xs, v = .ref a ∧ SqT K H a xs ∧ BorL K H b P xs ds := by
  cases h with
  | tup h t => exact ⟨_, _, rfl, h, t⟩
theorem Bor.int' {K : Fr'} {H : Hp} {b : Bool} {P : Addr → Prop} {v : V} {i : Int} (h : Bor K H b P v (.int i)) : v = .int i := by
  cases h
  rfl
theorem Bor.bool' {K : Fr'} {H : Hp} {b : Bool} {P : Addr → Prop} {v : V} {i : Bool} (h : Bor K H b P v (.bool i)) : v = .bl i := by
  cases h
  rfl
theorem Bor.str' {K : Fr'} {H : Hp} {b : Bool} {P : Addr → Prop} {v : V} {i : Str} (h : Bor K H b P v (.str i)) : v = .str i := by
  cases h
  rfl
end
/-! ### truth, indices, slices -/
section
variable {X : Cx}
theorem truD_V {K : Fr'} {H : Hp} {b : Bool} {P : Addr → Prop} {v : V} {d : D} {k : Bool} (h : Bor K H b P v d) (e : truD d = some k) : TruV K v H k := by
  cases h with
  | non =>
    cases e
    rfl
  | bl b =>
    cases e
    rfl
  | int i =>
    cases e
    rfl
  | str x =>
    obtain ⟨c, e⟩ := ifs e
    exact ⟨lim_line c, e.symm⟩
  | tup h t =>
    cases e
    refine .inr (.inl ⟨_, h, ?_⟩)
    cases t <;> rfl
  | lst h _ t =>
    cases e
    refine .inl ⟨_, .inl (.inl h), ?_⟩
    cases t <;> rfl
  | lsk _ h t =>
    cases e
    refine .inl ⟨_, h.sq, ?_⟩
    cases t <;> rfl
theorem pixN_eq (n : Nat) (i : Int) : pixN n i = ixN n i := rfl
theorem pix_atI {α : Type} {xs : List α} {i : Int} {j : Nat} {x : α} (h : pixN xs.length i = some j) (e : xs[j]? = some x) : atI xs i = some x := by
  unfold atI
  rw [← pixN_eq, h]
  exact e
theorem sqL_inj {pins : List (Addr × Obj)} {s : Shared} {σ : L2.St} {H : Hp} {a : Addr} {xs ys : List V} (I : Inv X pins σ H s) (h : SqL X.K H a xs) (k : SqL X.K H a ys) : xs = ys := by
  obtain ⟨i1, r1, ⟨o1, n1, e1, _, _, d1⟩, _⟩ := I.list h
  obtain ⟨i2, r2, ⟨o2, n2, e2, _, _, d2⟩, _⟩ := I.list k
  rw [e1] at e2
  cases e2
  rw [d1] at d2
  injection d2 with d3 _
  have : i1 = i2 := by simpa using d3
  subst this
  exact r1.inj r2
theorem sqT_inj {pins : List (Addr × Obj)} {s : Shared} {σ : L2.St} {H : Hp} {a : Addr} {xs ys : List V} (I : Inv X pins σ H s) (h : SqT X.K H a xs) (k : SqT X.K H a ys) : xs = ys := by
  obtain ⟨i1, r1, ⟨o1, e1, _, n1, d1⟩, _⟩ := I.tuple h
  obtain ⟨i2, r2, ⟨o2, e2, _, n2, d2⟩, _⟩ := I.tuple k
  rw [e1] at e2
  cases e2
  rw [d1] at d2
  injection d2 with d3 _
  have : i1 = i2 := by simpa using d3
  subst this
  exact r1.inj r2
/-- an item of what is owned is owned -/
theorem OwnL.item {K : Fr'} {H : Hp} : ∀ {vs : List V} {ds : List D} {A : List Addr} {j : Nat} {v : V} {d : D}, OwnL K H vs ds A → vs[j]? = some v → ds[j]? = some d → ∃ B, B.Sublist A ∧ Own K H v d B
  | _, _, _, j, _, _, .nil, e, _ => by simp at e
  | _, _, _, 0, _, _, .cons h t, e, f => by
    simp at e f
    subst e
    subst f
    exact ⟨_, List.sublist_append_left _ _, h⟩
  | _, _, _, j + 1, _, _, .cons h t, e, f => by
    obtain ⟨B, s, o⟩ := OwnL.item t (by simpa using e) (by simpa using f)
    exact ⟨B, s.trans (List.sublist_append_right _ _), o⟩
/-- an item of data -/
def rIxD (K : Fr') : R2 := fun x y H Q => ∃ dx dy d, Bor K H true (fun _ => True) x dx ∧ Bor K H true (fun _ => True) y dy ∧ ixD dx dy = some d ∧ ∀ v, (∀ b P, Bor K H b P x dx → Bor K H b P v d) → (∀ A, Own K H x dx A → ∃ B, B.Sublist A ∧ Own K H v d B) → Q v H
theorem ix_data : IxR X (rIxD X.K) := by
  intro value slice pins s σ H x y v u Q I rx ry h hs
  obtain ⟨dx, dy, d, hx, hy, hd, q⟩ := h
  unfold ixD at hd
  split at hd
  · obtain rfl := hy.int'
    obtain ⟨a, vs, rfl, h2, h3⟩ := hx.list
    split at hd
    · rename_i ds i j e
      obtain ⟨w, e1, e2⟩ := h3.get hd
      refine ix_list value slice pins s σ H _ _ v u Q I rx ry ⟨a, vs, _, w, rfl, rfl, h2, pix_atI (by rw [h3.length]; exact e) e1, q w (fun b P hb => ?_) fun A ho => ?_⟩ hs
      · obtain ⟨a', vs', e3, h4, h5⟩ := hb.list
        cases e3
        have := sqL_inj I h2 h4
        subst this
        obtain ⟨w', e4, e5⟩ := h5.get hd
        rw [e1] at e4
        cases e4
        exact e5
      · cases ho with
        | lst h4 t =>
          have := sqL_inj I h2 (.inl (.inl h4))
          subst this
          obtain ⟨B, sb, o⟩ := t.item e1 hd
          exact ⟨B, sb.trans (List.sublist_cons_self _ _), o⟩
    · cases hd
  · obtain rfl := hy.int'
    obtain ⟨a, vs, rfl, h2, h3⟩ := hx.tuple
    split at hd
    · rename_i ds i j e
      obtain ⟨w, e1, e2⟩ := h3.get hd
      refine ix_tup value slice pins s σ H _ _ v u Q I rx ry ⟨a, vs, _, w, rfl, rfl, h2, pix_atI (by rw [h3.length]; exact e) e1, q w (fun b P hb => ?_) fun A ho => ?_⟩ hs
      · obtain ⟨a', vs', e3, h4, h5⟩ := hb.tuple
        cases e3
        have := sqT_inj I h2 h4
        subst this
        obtain ⟨w', e4, e5⟩ := h5.get hd
        rw [e1] at e4
        cases e4
        exact e5
      · cases ho with
        | tup h4 t =>
          have := sqT_inj I h2 h4
          subst this
          exact t.item e1 hd
    · cases hd
  · obtain rfl := hy.int'
    obtain rfl := hx.str'
    obtain ⟨c, hd⟩ : (_ ≤ lim) ∧ _ := by
      split at hd
      · rename_i c
        exact ⟨c, hd⟩
      · cases hd
    split at hd
    · rename_i j e
      split at hd
      · rename_i z e2
        cases hd
        exact ix_str value slice pins s σ H _ _ v u Q I rx ry ⟨_, _, z, rfl, rfl, lim_line c, pix_atI (by rw [Array.length_toList]; exact e) e2, q _ (fun b P _ => .str _) fun A _ => ⟨[], List.nil_sublist _, .str _⟩⟩ hs
      · cases hd
    · cases hd
  · cases hd
/-- a slice of data -/
def rSlD (K : Fr') : V → Option Int → Option Int → Hp → VK → Prop := fun x lo hi H Q => ∃ dx d, Bor K H true (fun _ => True) x dx ∧ slD dx lo hi = some d ∧ ∀ v H', NewD K H H' v d → Q v H'
theorem cutV_eq (xs : List V) (ds : List D) (h : xs.length = ds.length) (lo hi : Option Int) : cutV xs lo hi = (xs.drop (HT.sIx ds.length 0 lo)).take (HT.sIx ds.length ds.length hi - HT.sIx ds.length 0 lo) := by
  unfold cutV
  rw [h]
theorem purs_cut {ds : List D} (h : purs ds = true) (i j : Nat) : purs ((ds.drop i).take j) = true := purs_sub h fun d m => List.mem_of_mem_drop (List.mem_of_mem_take m)
theorem sl_data : SlR X (rSlD X.K) := by
  intro pins s σ H x v vl vu lo hi sl Q I rx hs pl pu h
  obtain ⟨dx, d, hx, hd, q⟩ := h
  unfold slD at hd
  split at hd
  · obtain ⟨a, vs, rfl, h2, h3⟩ := hx.list
    obtain ⟨c, rfl⟩ := ifs hd
    refine sl_list pins s σ H _ v vl vu lo hi sl Q I rx hs pl pu ⟨a, vs, rfl, h2, fun p n => q _ _ ?_⟩
    rw [cutV_eq vs _ h3.length]
    exact NewD.lst n (purs_cut c _ _) ((h3.drop _).take _)
  · obtain ⟨a, vs, rfl, h2, h3⟩ := hx.tuple
    obtain ⟨c, rfl⟩ := ifs hd
    refine sl_tupA pins s σ H _ v vl vu lo hi sl Q I rx hs pl pu ⟨a, vs, rfl, h2, fun e => q _ _ ?_, fun _ p n => q _ _ ?_⟩
    · rw [h3.length] at e
      rw [e.1, e.2, List.drop_zero, Nat.sub_zero, List.take_length]
      exact NewD.pure (b := true) (P := fun _ => True) c (.tup h2 h3)
    · rw [cutV_eq vs _ h3.length]
      exact NewD.tup n (purs_cut c _ _) ((h3.drop _).take _)
  · obtain rfl := hx.str'
    obtain ⟨c, rfl⟩ := ifs hd
    exact sl_str pins s σ H _ v vl vu lo hi sl Q I rx hs pl pu ⟨_, rfl, lim_line c, q _ _ (NewD.pure (b := false) (P := fun _ => True) rfl (.str _))⟩
  · cases hd
end
end Zr

set_option maxRecDepth 100000
set_option maxHeartbeats 4000000
/-! ZrD2: slices by a step, sorted of data, join, index, count: by values. -/
namespace Zr
open PySem PySem.Spec PyProof.Rows L2

/-! ### slices by a step -/
section
variable {prog : Program} {w : World} {A : Around} {E : Value → Shared → Prop} {s : Shared}
theorem sliceApplied_step {sl : Addr} {vl vu vs : Value} {lo hi : Option Int} {st : Int} {n : Nat} {Q : Int × Int × Nat → Shared → Prop} (hs : s.heap.IsSliceOf sl vl vu vs) (pl : IsPart vl lo) (pu : IsPart vu hi) (ps : IsPart vs (some st)) (h0 : st ≠ 0)
    (h : Q ((Builtin.Slice.sliceAdjust lo hi st (n : Int)).1, st, Builtin.Slice.slicePlaces (Builtin.Slice.sliceAdjust lo hi st (n : Int)).1 (Builtin.Slice.sliceAdjust lo hi st (n : Int)).2 st) s) : wpAny (model prog w) A (Builtin.Slice.sliceApplied (.ref sl) (pure (n : Int))) Q E s := by
  obtain ⟨os, hos, hcs, hds⟩ := id hs
  unfold Builtin.Slice.sliceApplied Builtin.Slice.sliceFields
  refine wpAny_bind (wpAny_bind (wpAny_field hos hds (x := vl) rfl (wpAny_bind (wpAny_field hos hds (x := vu) rfl (wpAny_bind (wpAny_field hos hds (x := vs) rfl (wpAny_pure ?_)))))))
  refine wpAny_bind (HT.slicePart_ ps ?_)
  have hz : ¬ ((((some st : Option Int).getD 1) == 0) = true) := by
    show ¬ ((st == 0) = true)
    simpa using h0
  show wpAny _ _ (if ((((some st : Option Int).getD 1) == 0) = true) then _ else _) _ _ s
  rw [if_neg hz]
  refine wpAny_bind (HT.slicePart_ pl (wpAny_bind (HT.slicePart_ pu (wpAny_bind (wpAny_pure ?_)))))
  exact wpAny_pure h
end
section
variable {prog : Program} {w : World} {A : Around} {E : Value → Shared → Prop} {s : Shared}
theorem getItem_tuple_step {t sl : Addr} {items : Array Value} {vl vu vs : Value} {lo hi : Option Int} {st : Int} {Q : Value → Shared → Prop} (ht : IsTup s.heap t items) (hs : s.heap.IsSliceOf sl vl vu vs) (pl : IsPart vl lo) (pu : IsPart vu hi) (ps : IsPart vs (some st)) (h0 : st ≠ 0) (h1 : st ≠ 1)
    (h : Q (.ref s.heap.objs.size) { s with heap := s.heap.push { cls := .type "tuple", data := .seq (pickT lo hi st items.toList).toArray } }) (hsz : (pickT lo hi st items.toList).length ≤ sizeLine) : wpAny (model prog w) A (getItem (.ref t) (.ref sl)) Q E s := by
  have room : sizeOk (.seq (pickT lo hi st items.toList).toArray) := by
    show (pickT lo hi st items.toList).toArray.size ≤ sizeLine
    rw [List.size_toArray]
    exact hsz
  obtain ⟨os, hos, hcs, hds⟩ := id hs
  have kind : s.TypeIs (.ref sl) "slice" := ⟨os, hos, hcs⟩
  unfold getItem
  try with_reducible refine wpAny_holding ?_
  first | refine wpAny_bind (wpAny_pure ?_) | skip
  refine wpAny_bind (wpAny_sequenceKey ht.typeIs (by decide) ?_)
  refine wpAny_bind (wpAny_callSpecial?_slot (name := Str.ofString "__getitem__") ht.typeIs PyProof.Rows.slot_tuple_getitem
    (wpAny_call_entry PyProof.Rows.slot_tuple_getitem ht.typeIs PyProof.Rows.entry_tuple_getitem ?_ (PyProof.Rows.args_tuple_getitem _ _)))
  show wpAny _ _ (Builtin.Tuple.tupleItemsOf (.ref t) >>= _) _ _ s
  refine wpAny_bind (tupleItemsOf_ ht ?_)
  refine wpAny_bind (wpAny_typeOf kind ?_)
  rw [if_pos (by decide)]
  refine wpAny_bind (sliceApplied_step hs pl pu ps h0 ?_)
  have notone : (st == 1) = false := by simpa using h1
  show wpAny _ _ (if ((Builtin.Slice.sliceAdjust lo hi st (items.size : Int)).1 == 0 && st == 1 && _ == items.size) = true then _ else _) _ _ s
  rw [notone, Bool.and_false, Bool.false_and, if_neg Bool.false_ne_true]
  have same : ((List.range (Builtin.Slice.slicePlaces (Builtin.Slice.sliceAdjust lo hi st (items.size : Int)).1 (Builtin.Slice.sliceAdjust lo hi st (items.size : Int)).2 st)).filterMap fun (k : Nat) => items[((Builtin.Slice.sliceAdjust lo hi st (items.size : Int)).1 + (k : Int) * st).toNat]?) = pickT lo hi st items.toList := by
    unfold pickT
    simp
  show wpAny _ _ ((Builtin.Tuple.tupleExact ((List.range (Builtin.Slice.slicePlaces (Builtin.Slice.sliceAdjust lo hi st (items.size : Int)).1 (Builtin.Slice.sliceAdjust lo hi st (items.size : Int)).2 st)).filterMap fun (k : Nat) => items[((Builtin.Slice.sliceAdjust lo hi st (items.size : Int)).1 + (k : Int) * st).toNat]?).toArray) >>= _) _ _ s
  rw [same]
  first
    | exact wpAny_bind (m := Builtin.Tuple.tupleExact _) (wpAny_newObj_type (wpAny_pure ⟨_, rfl, wpAny_pure h⟩) room)
    | exact wpAny_bind (m := Builtin.Tuple.tupleExact _) (wpAny_newObj_type (wpAny_bind (wpAny_pure (wpAny_pure ⟨_, rfl, wpAny_pure h⟩))) room)
    | exact wpAny_bind (wpAny_bind (m := Builtin.Tuple.tupleExact _) (wpAny_newObj_type (wpAny_pure (wpAny_pure ⟨_, rfl, wpAny_pure h⟩)) room))
    | exact wpAny_bind (wpAny_bind (m := Builtin.Tuple.tupleExact _) (wpAny_newObj_type (wpAny_pure ⟨_, rfl, wpAny_pure h⟩) room))
end
theorem Vals.pick {α : Type} {f : Nat → Nat} : ∀ (ks : List Nat) {xs : List V} {us : List Value}, Vals xs us → Vals (ks.filterMap fun k => xs[f k]?) (ks.filterMap fun k => us[f k]?)
  | [], _, _, _ => .nil
  | k :: ks, xs, us, r => by
    have ih := Vals.pick (α := α) (f := f) ks r
    cases e : xs[f k]? with
    | none =>
      have e1 : us[f k]? = none := r.none_of e
      simpa [List.filterMap_cons, e, e1] using ih
    | some x =>
      obtain ⟨u, e2, ru⟩ := r.get e
      simpa [List.filterMap_cons, e, e2] using Paired.cons ru ih
theorem BorL.pick {K : Fr'} {H : Hp} {b : Bool} {P : Addr → Prop} {f : Nat → Nat} : ∀ (ks : List Nat) {xs : List V} {ds : List D}, BorL K H b P xs ds → BorL K H b P (ks.filterMap fun k => xs[f k]?) (ks.filterMap fun k => ds[f k]?)
  | [], _, _, _ => .nil
  | k :: ks, xs, ds, r => by
    have ih := BorL.pick (f := f) ks r
    cases e : ds[f k]? with
    | none =>
      have e1 : xs[f k]? = none := by
        rw [List.getElem?_eq_none_iff, r.length]
        exact List.getElem?_eq_none_iff.mp e
      simpa [List.filterMap_cons, e, e1] using ih
    | some d =>
      obtain ⟨v, e1, hv⟩ := r.get e
      simpa [List.filterMap_cons, e, e1] using BorL.cons hv ih
section
variable {X : Cx}
theorem purs_pick {f : Nat → Nat} (ks : List Nat) {ds : List D} (h : purs ds = true) : purs (ks.filterMap fun k => ds[f k]?) = true := purs_sub h fun d m => by
  obtain ⟨k, _, e⟩ := List.mem_filterMap.mp m
  exact List.mem_of_getElem? e
def tSls (K : Fr') (st : Int) (ta : TE) (tl th : TO) : TE := fun σ H Q => ta σ H fun x H1 => tl σ H1 fun l H2 => th σ H2 fun u H3 => ∃ dx d, Bor K H3 true (fun _ => True) x dx ∧ slsD dx l u st = some d ∧ ∀ v H', NewD K H3 H' v d → Q v H'
theorem sls_list {value slice : Expr} {pins : List (Addr × Obj)} {σ : L2.St} {H : Hp} {s : Shared} {a : Addr} {xs : List V} {ds : List D} {d : D} {v vl vu vs : Value} {l u : Option Int} {st : Int} {Q : VK} (I5 : Inv X pins σ H { s with heap := s.heap.push { cls := .type "slice", data := .fields #[vl, vu, vs] } }) (r1 : RelV (V.ref a) v) (h2 : SqL X.K H a xs) (h3 : BorL X.K H true (fun _ => True) xs ds) (pl : IsPart vl l) (pu : IsPart vu u) (ps : IsPart vs (some st))
    (hd : (if purs ds = true ∧ st ≠ 0 ∧ (pickL l u st ds).length ≤ lim then some (PyData.list (pickL l u st ds)) else none) = some d) (q : ∀ v H', NewD X.K H H' v d → Q v H') (hs : subscripted slice false v (.ref s.heap.objs.size) = operate [v, .ref s.heap.objs.size] (getItem v (.ref s.heap.objs.size)) := by with_unfolding_all rfl) :
    wpAny (model X.prog X.w) X.A (subscriptTail value slice v (.ref s.heap.objs.size)) (EP X pins σ Q) X.xe { s with heap := s.heap.push { cls := .type "slice", data := .fields #[vl, vu, vs] } } := by
  obtain ⟨⟨c, c0, c1⟩, rfl⟩ := ifs hd
  cases r1
  obtain ⟨its, r, ht, hz⟩ := I5.list h2
  have len : xs.length = its.length := r.length
  have e1 : (slicePick its.toArray l u (some st)) = (pickL l u st its).toArray := by
    unfold slicePick pickL
    rw [List.size_toArray]
    simp
  have eqv : Vals (pickL l u st xs) (pickL l u st its) := by
    unfold pickL
    rw [len]
    exact Vals.pick (α := Nat) (f := fun k => k) _ r
  have eqd : BorL X.K H true (fun _ => True) (pickL l u st xs) (pickL l u st ds) := by
    unfold pickL
    rw [h3.length]
    exact BorL.pick (f := fun k => k) _ h3
  have small : (pickL l u st xs).length ≤ sizeLine := by
    rw [eqd.length]
    exact lim_line c1
  refine tail_any (ops := [.ref a, .ref s.heap.objs.size]) ht.isList.typeIs (PySem.slot_list_getitem.lookup) ?_ hs
  refine wpAny_getItem_list_slice ht.isList (Heap.IsSliceOf.new _ vl vu vs) pl pu ps (fun z => c0 (Option.some.inj z)) ?_ (by rw [List.size_toArray]; omega)
  rw [e1]
  refine ⟨.ref _, _, I5.laid (t' := s.toks) (o := .lst (pickL l u st xs)) (fun b ob q => Heap.get?_push_of_some _ q) (Nat.le_refl _) ?_, rfl, q _ _ (NewD.lst (I5.hok.fresh (Nat.le_refl _)) (by unfold pickL; exact purs_pick (f := fun k => k) _ c) eqd)⟩
  exact ⟨small, _, 0, eqv, Heap.get?_push_size _ rfl⟩
theorem pe_sls {e : Expr} {lo hi : Option Expr} {te : TE} {tl th : TO} {i : Int} {k : Nat} {p1 p2 p3 pos : Pos} (he : PE X e te) (hl : PO X lo tl) (hu : PO X hi th) : PE X (.Subscript e (.Slice lo hi (some (.UnaryOp .USub (.Constant (.int i) k p1) p2)) p3) pos) (tSls X.K (-i) te tl th) := by
  refine ⟨fun pins s σ H Q I h => ?_⟩
  refine Subscript_ (thn (he.run pins s σ H _ I h) fun v s1 ⟨x, H1, I1, r1, q1⟩ => ?_)
  have hst : PO X (some (.UnaryOp .USub (.Constant (.int i) k p1) p2)) (tPart (tUn (rU fun i => .int (-i)) (tC (.int i)))) := po_some (pe_un un_neg pe_int)
  refine wpAny_Slice (thn (hl.run pins s1 σ H1 _ I1 q1) fun vl s2 ⟨l, H2, I2, pl, q2⟩ => thn (hu.run pins s2 σ H2 _ I2 q2) fun vu s3 ⟨u, H3, I3, pu, q3⟩ => ?_)
  refine thn (hst.run pins s3 σ H3 (fun o H4 => o = some (-i) ∧ H4 = H3) I3 ⟨i, rfl, -i, rfl, rfl, rfl⟩) fun vs s4 ⟨o, H4, I4, ps, eo, e4⟩ => ?_
  subst eo e4
  obtain ⟨dx, d, hx, hd, q⟩ := q3
  have I5 : Inv X pins σ H4 { s4 with heap := s4.heap.push { cls := .type "slice", data := .fields #[vl, vu, vs] } } := I4.kept (t' := s4.toks) fun b ob q => Heap.get?_push_of_some _ q
  show wpAny (model X.prog X.w) X.A (subscriptTail e (.Slice lo hi (some (.UnaryOp .USub (.Constant (.int i) k p1) p2)) p3) v (.ref s4.heap.objs.size)) (EP X pins σ Q) X.xe { s4 with heap := s4.heap.push { cls := .type "slice", data := .fields #[vl, vu, vs] } }
  have rx0 := r1
  unfold slsD at hd
  split at hd
  · rename_i ds
    obtain ⟨a, xs, rfl, h2, h3⟩ := hx.tuple
    obtain ⟨⟨c, c0, c1, c2⟩, rfl⟩ := ifs hd
    cases r1
    obtain ⟨its, r, ht, hz⟩ := I5.tuple h2
    have len : xs.length = its.length := r.length
    have eqv : Vals (pickT l u (-i) xs) (pickT l u (-i) its) := by
      unfold pickT
      rw [len]
      exact Vals.pick (α := Nat) (f := fun k => ((Builtin.Slice.sliceAdjust l u (-i) (its.length : Int)).1 + (k : Int) * (-i)).toNat) _ r
    have eqd : BorL X.K H4 true (fun _ => True) (pickT l u (-i) xs) (pickT l u (-i) ds) := by
      have := BorL.pick (f := fun k => ((Builtin.Slice.sliceAdjust l u (-i) (xs.length : Int)).1 + (k : Int) * (-i)).toNat) (List.range (Builtin.Slice.slicePlaces (Builtin.Slice.sliceAdjust l u (-i) (xs.length : Int)).1 (Builtin.Slice.sliceAdjust l u (-i) (xs.length : Int)).2 (-i))) h3
      rw [h3.length] at this
      unfold pickT
      rw [h3.length]
      exact this
    have small : (pickT l u (-i) xs).length ≤ sizeLine := by
      rw [eqd.length]
      exact lim_line c2
    refine tail_any (ops := [.ref a, .ref s4.heap.objs.size]) ht.typeIs PyProof.Rows.slot_tuple_getitem.lookup ?_ (by with_unfolding_all rfl)
    refine getItem_tuple_step ht (Heap.IsSliceOf.new _ vl vu vs) pl pu ps c0 c1 ?_ (by rw [← eqv.length]; exact small)
    refine ⟨.ref _, _, I5.laid (t' := s4.toks) (o := .tup (pickT l u (-i) xs)) (fun b ob q => Heap.get?_push_of_some _ q) (Nat.le_refl _) ?_, rfl, q _ _ (NewD.tup (I5.hok.fresh (Nat.le_refl _)) (purs_pick _ c) eqd)⟩
    exact ⟨small, _, eqv, IsTup.new _ _⟩
  · obtain ⟨a, xs, rfl, h2, h3⟩ := hx.list
    split at hd
    rotate_left
    · exact sls_list I5 rx0 h2 h3 pl pu ps hd q
    rename_i cc
    obtain ⟨c, c0, c1, c2⟩ := cc
    cases hd
    subst c0 c1
    cases rx0
    obtain ⟨its, r, ht, hz⟩ := I5.list h2
    have len := r.length
    refine tail_any (ops := [.ref a, .ref s4.heap.objs.size]) ht.isList.typeIs (PySem.slot_list_getitem.lookup) ?_ (by with_unfolding_all rfl)
    refine wpAny_getItem_list_slice ht.isList (Heap.IsSliceOf.new _ vl vu vs) pl pu ps (by rw [c2]; decide) ?_ (by rw [List.size_toArray]; omega)
    rw [c2, PySem.W.krv_pick]
    refine ⟨.ref _, _, I5.laid (t' := s4.toks) (o := .lst xs.reverse) (fun b ob q => Heap.get?_push_of_some _ q) (Nat.le_refl _) ?_, rfl, q _ _ (NewD.lst (I5.hok.fresh (Nat.le_refl _)) (purs_sub c fun d m => List.mem_reverse.mp m) h3.reverse)⟩
    exact ⟨by rw [List.length_reverse]; exact hz, _, 0, r.reverse, Heap.get?_push_size _ rfl⟩
  · cases hd
end
end Zr

set_option maxRecDepth 100000
set_option maxHeartbeats 4000000
/-! ZrD3: sorted of data. -/
namespace Zr
open PySem PySem.Spec PyProof.Rows L2

/-! ### the order of data, quickly -/
theorem ltN_eq : ∀ xs ys : List Nat, ltN xs ys = decide (xs < ys)
  | [], [] => by simp [ltN]
  | [], y :: ys => by simp [ltN]
  | x :: xs, [] => by simp [ltN]
  | x :: xs, y :: ys => by
    simp only [ltN]
    rw [ltN_eq xs ys]
    by_cases h : x = y
    · subst h
      simp
    · have h2 : (x == y) = false := by simpa using h
      rw [h2]
      simp [h, List.cons_lt_cons_iff]
      rw [Bool.eq_iff_iff]
      simp [Nat.blt_eq]
theorem toks_nil : PyProof.Rows.lexLt PyProof.Rows.itemOrd (PySem.W.keyToksAll []) (PySem.W.keyToksAll []) = false := PyProof.Rows.lex_irrefl _
mutual
theorem ltF_eq : ∀ x y : D, PySem.W.alike x y = true → ltF x y = PySem.W.dataLt x y
  | .none, y, h => by cases y <;> first | rfl | simp [PySem.W.alike] at h
  | .bool a, y, h => by cases y <;> first | rfl | simp [PySem.W.alike] at h
  | .int i, y, h => by
    cases y with
    | int j => simp only [ltF]; rw [PySem.W.dataLt_int]
    | _ => simp [PySem.W.alike] at h
  | .str a, y, h => by
    cases y with
    | str b => simp only [ltF]; rw [PySem.W.dataLt_str, ltN_eq]
    | _ => simp [PySem.W.alike] at h
  | .list xs, y, h => by
    cases y with
    | list ys => simp only [ltF]; rw [PySem.W.dataLt_list]; exact ltFs_eq xs ys (by simpa [PySem.W.alike] using h)
    | _ => simp [PySem.W.alike] at h
  | .tuple xs, y, h => by
    cases y with
    | tuple ys => simp only [ltF]; rw [PySem.W.dataLt_tuple]; exact ltFs_eq xs ys (by simpa [PySem.W.alike] using h)
    | _ => simp [PySem.W.alike] at h
  | .dict kvs, y, h => by simp [PySem.W.alike] at h
theorem ltFs_eq : ∀ xs ys : List D, PySem.W.alikeAll xs ys = true → ltFs xs ys = PyProof.Rows.lexLt PyProof.Rows.itemOrd (PySem.W.keyToksAll xs) (PySem.W.keyToksAll ys)
  | [], [], _ => by simp only [ltFs]; rw [toks_nil]
  | [], y :: ys, _ => by
    simp only [ltFs]
    rw [PySem.W.toks_all_cons]
    simp only [PySem.W.keyToksAll]
    rw [PyProof.Rows.lex_diff (O := PyProof.Rows.itemOrd) (by simp)]
    rfl
  | x :: xs, [], _ => by
    simp only [ltFs]
    rw [PySem.W.toks_all_cons]
    simp only [PySem.W.keyToksAll]
    rw [PyProof.Rows.lex_diff (O := PyProof.Rows.itemOrd) (by simp)]
    rfl
  | x :: xs, y :: ys, h => by
    obtain ⟨h1, h2⟩ := PySem.W.alike_all_cons h
    simp only [ltFs]
    rw [PySem.W.dataLt_cons h1, ltFs_eq xs ys h2, ltF_eq x y h1]
end
/-! ### forms of what is sorted -/
theorem alikeAll_of : ∀ {xs ys : List D}, (∀ x ∈ xs, ∀ y ∈ ys, PySem.W.alike x y = true) → PySem.W.alikeAll xs ys = true
  | [], _, _ => by simp [PySem.W.alikeAll]
  | _ :: _, [], _ => by simp [PySem.W.alikeAll]
  | x :: xs, y :: ys, h => by
    rw [PySem.W.alikeAll, Bool.and_eq_true]
    exact ⟨h x List.mem_cons_self y List.mem_cons_self, alikeAll_of fun a m b n => h a (List.mem_cons_of_mem _ m) b (List.mem_cons_of_mem _ n)⟩
theorem row2_of {a b : Tm} {x : D} (h : fits (.row2 a b) x = true) : ∃ u v, x = .tuple [u, v] ∧ fits a u = true ∧ fits b v = true := by
  match x, h with
  | .tuple [u, v], h =>
    simp only [fits, Bool.and_eq_true] at h
    exact ⟨u, v, rfl, h.1, h.2⟩
theorem row3_of {a b c : Tm} {x : D} (h : fits (.row3 a b c) x = true) : ∃ u v w, x = .tuple [u, v, w] ∧ fits a u = true ∧ fits b v = true ∧ fits c w = true := by
  match x, h with
  | .tuple [u, v, w], h =>
    simp only [fits, Bool.and_eq_true] at h
    exact ⟨u, v, w, rfl, h.1, h.2.1, h.2.2⟩
theorem fits_alike : ∀ (t : Tm) (x y : D), fits t x = true → fits t y = true → PySem.W.alike x y = true
  | .int, x, y, h, k => by
    cases x <;> simp [fits] at h
    cases y <;> simp [fits] at k
    rfl
  | .str, x, y, h, k => by
    cases x <;> simp [fits] at h
    cases y <;> simp [fits] at k
    rfl
  | .all t, x, y, h, k => by
    cases x <;> simp [fits] at h
    cases y <;> simp [fits] at k
    rw [PySem.W.alike]
    exact alikeAll_of fun a m b n => fits_alike t a b (h a m) (k b n)
  | .row2 a b, x, y, h, k => by
    obtain ⟨u, v, rfl, h1, h2⟩ := row2_of h
    obtain ⟨u', v', rfl, k1, k2⟩ := row2_of k
    simp [PySem.W.alike, PySem.W.alikeAll, fits_alike a _ _ h1 k1, fits_alike b _ _ h2 k2]
  | .row3 a b c, x, y, h, k => by
    obtain ⟨u, v, w, rfl, h1, h2, h3⟩ := row3_of h
    obtain ⟨u', v', w', rfl, k1, k2, k3⟩ := row3_of k
    simp [PySem.W.alike, PySem.W.alikeAll, fits_alike a _ _ h1 k1, fits_alike b _ _ h2 k2, fits_alike c _ _ h3 k3]
/-! ### sorting -/
theorem insD_perm (x : D) : ∀ l : List D, (insD x l).Perm (x :: l)
  | [] => .refl _
  | y :: r => by
    unfold insD
    split
    · exact ((insD_perm x r).cons y).trans (.swap x y r)
    · exact .refl _
theorem sortDs_perm : ∀ l : List D, (sortDs l).Perm l
  | [] => .refl _
  | x :: r => (insD_perm x _).trans ((sortDs_perm r).cons x)
abbrev le0 : D → D → Bool := PySem.W.dataLe false (fun d : D => d)
theorem le0_tot : PySem.W.TotalLe le0 := PySem.W.sortLe_total _ _ _
theorem le0_lt (a b : D) : le0 a b = !PySem.W.dataLt b a := rfl
theorem lt_trans0 {a b c : D} (h : PySem.W.dataLt a b = true) (k : PySem.W.dataLt b c = true) : PySem.W.dataLt a c = true := by
  have n1 : le0 b a = false := by rw [le0_lt, h]; rfl
  have n2 : le0 c b = false := by rw [le0_lt, k]; rfl
  cases q : PySem.W.dataLt a c with
  | true => rfl
  | false =>
    have m : le0 c a = true := by rw [le0_lt, q]; rfl
    have t : le0 a b = true := (le0_tot.total a b).elim id fun z => by rw [n1] at z; cases z
    have := le0_tot.trans c a b m t
    rw [n2] at this
    cases this
theorem chain_pair : ∀ (l : List D), chainOk l = true → (∀ x ∈ l, ∀ y ∈ l, PySem.W.alike x y = true) → l.Pairwise fun a b => PySem.W.dataLt a b = true ∨ a = b
  | [], _, _ => .nil
  | [x], _, _ => .cons (fun _ m => nomatch m) .nil
  | x :: y :: r, h, al => by
    simp only [chainOk, Bool.and_eq_true, Bool.or_eq_true] at h
    have ih := chain_pair (y :: r) h.2 fun a m b n => al a (List.mem_cons_of_mem _ m) b (List.mem_cons_of_mem _ n)
    have xy : PySem.W.dataLt x y = true ∨ x = y := by
      rcases h.1 with q | q
      · exact .inl (by rw [← ltF_eq x y (al x List.mem_cons_self y (List.mem_cons_of_mem _ List.mem_cons_self))]; exact q)
      · exact .inr (deq_eq q)
    refine .cons (fun z m => ?_) ih
    rcases List.mem_cons.mp m with e | m
    · rw [e]
      exact xy
    · have yz := (List.pairwise_cons.mp ih).1 z m
      rcases xy with q | q
      · rcases yz with p | p
        · exact .inl (lt_trans0 q p)
        · rw [← p]
          exact .inl q
      · rw [q]
        exact yz
theorem sorted_one : ∀ {ys zs : List D}, zs.Perm ys → ys.Pairwise (fun a b => PySem.W.dataLt a b = true ∨ a = b) → zs.Pairwise (fun a b => le0 a b = true) → zs = ys
  | [], zs, p, _, _ => p.eq_nil
  | y :: ys, [], p, _, _ => by
    have := p.length_eq
    simp at this
  | y :: ys, z :: zs, p, h, k => by
    obtain ⟨h1, h2⟩ := List.pairwise_cons.mp h
    obtain ⟨k1, k2⟩ := List.pairwise_cons.mp k
    have e : z = y := by
      have a : z ∈ y :: ys := p.mem_iff.mp List.mem_cons_self
      have b : y ∈ z :: zs := p.mem_iff.mpr List.mem_cons_self
      rcases List.mem_cons.mp a with e | a
      · exact e
      · rcases List.mem_cons.mp b with e | b
        · exact e.symm
        · rcases h1 z a with q | q
          · have := k1 y b
            rw [le0_lt, q] at this
            cases this
          · exact q.symm
    subst e
    rw [sorted_one (List.Perm.cons_inv p) h2 k2]
theorem sort_is {xs : List D} (h : sortOk xs = true) : xs.mergeSort le0 = sortDs xs := by
  simp only [sortOk, Bool.and_eq_true] at h
  obtain ⟨t, _, ht⟩ := List.any_eq_true.mp h.1.1.1.1.2
  have al : ∀ x ∈ sortDs xs, ∀ y ∈ sortDs xs, PySem.W.alike x y = true := fun x m y n =>
    fits_alike t x y (List.all_eq_true.mp ht x ((sortDs_perm xs).mem_iff.mp m)) (List.all_eq_true.mp ht y ((sortDs_perm xs).mem_iff.mp n))
  refine sorted_one ((List.mergeSort_perm xs le0).trans (sortDs_perm xs).symm) (chain_pair _ h.2 al) ?_
  exact List.pairwise_mergeSort (le := le0) (fun a b c => le0_tot.trans a b c) (fun a b => by
    rcases le0_tot.total a b with q | q <;> simp [q]) xs
section
variable {X : Cx}
theorem each_of : ∀ {vs : List Value} {ps : List (V × D)}, Vals (ps.map (·.1)) vs → PySem.W.EachIs (fun v (p : V × D) => RelV p.1 v) vs ps
  | vs, [], r => by
    cases r
    exact .nil
  | vs, p :: ps, r => by
    rw [List.map_cons] at r
    cases r with
    | cons a b => exact .cons a (each_of b)
theorem vals_each : ∀ {vs : List Value} {ps : List (V × D)}, PySem.W.EachIs (fun v (p : V × D) => RelV p.1 v) vs ps → Vals (ps.map (·.1)) vs
  | _, _, .nil => .nil
  | _, _, .cons a b => .cons a (vals_each b)
theorem bors_of {K : Fr'} {H : Hp} {b : Bool} {P : Addr → Prop} : ∀ {vs : List V} {ds : List D}, BorL K H b P vs ds → ∃ ps : List (V × D), ps.map (·.1) = vs ∧ ps.map (·.2) = ds ∧ ∀ p ∈ ps, Bor K H b P p.1 p.2
  | _, _, .nil => ⟨[], rfl, rfl, fun p m => nomatch m⟩
  | _, _, .cons (v := v) (d := d) h t => by
    obtain ⟨ps, e1, e2, hp⟩ := bors_of t
    refine ⟨(v, d) :: ps, by rw [List.map_cons, e1], by rw [List.map_cons, e2], fun p m => ?_⟩
    rcases List.mem_cons.mp m with e | m
    · rw [e]
      exact h
    · exact hp p m
theorem bors_to {K : Fr'} {H : Hp} {b : Bool} {P : Addr → Prop} : ∀ {ps : List (V × D)}, (∀ p ∈ ps, Bor K H b P p.1 p.2) → BorL K H b P (ps.map (·.1)) (ps.map (·.2))
  | [], _ => .nil
  | p :: ps, h => .cons (h p List.mem_cons_self) (bors_to fun q m => h q (List.mem_cons_of_mem _ m))
theorem each_rd {pins : List (Addr × Obj)} {σ : L2.St} {H : Hp} {s : Shared} {b : Bool} {P : Addr → Prop} (I : Inv X pins σ H s) : ∀ {vs : List Value} {ps : List (V × D)}, PySem.W.EachIs (fun v (p : V × D) => RelV p.1 v) vs ps → (∀ p ∈ ps, Bor X.K H b P p.1 p.2) → PySem.W.EachIs (fun v (p : V × D) => ∃ as, Reads s.heap v p.2 as) vs ps
  | _, _, .nil, _ => .nil
  | _, _, .cons h t, hp => .cons ((hp _ List.mem_cons_self).reads I h) (each_rd I t fun p m => hp p (List.mem_cons_of_mem _ m))
theorem merge_map {α β : Type} (f : α → β) (le : β → β → Bool) (ht : ∀ a b c, le a b = true → le b c = true → le a c = true) (hk : ∀ a b, (le a b || le b a) = true) (xs : List α) : ((xs.mergeSort fun a b => le (f a) (f b)).map f) = (xs.map f).mergeSort le := by
  exact (List.map_mergeSort (r := fun a b => le (f a) (f b)) (s := le) (f := f) (fun a _ b _ => rfl)).symm ▸ rfl
theorem call_sortedD (hu : X.A.units + 64 < cLine) : CallR X (.builtin "sorted") (fun vs H Q => ∃ (a : Addr) (xs : List V) (ds : List D), vs = [V.ref a] ∧ SqL X.K H a xs ∧ BorL X.K H true (fun _ => True) xs ds ∧ sortOk ds = true ∧ ∀ v H', NewD X.K H H' v (.list (sortDs ds)) → Q v H') := by
  intro pins s σ H vs us Q I r h
  obtain ⟨a, xs, ds, rfl, h2, h3, ok, q⟩ := h
  rw [Vals.ref1 r]
  obtain ⟨its, rv, ht, hz⟩ := I.list h2
  have si := sort_is ok
  have ok' := ok
  simp only [sortOk, Bool.and_eq_true] at ok'
  obtain ⟨⟨⟨⟨⟨o1, o2⟩, o3⟩, o4⟩, o5⟩, o6⟩ := ok'
  obtain ⟨t, _, hfit⟩ := List.any_eq_true.mp o2
  obtain ⟨ps, e1, e2, hp⟩ := bors_of h3
  have e : PySem.W.EachIs (fun v (p : V × D) => RelV p.1 v) its ps := each_of (by rw [e1]; exact rv)
  have pin : ∀ p ∈ ps, p.2 ∈ ds := fun p m => by
    rw [← e2]
    exact List.mem_map_of_mem m
  have er : PySem.W.EachIs (fun v (p : V × D) => ∃ as, Reads s.heap v p.2 as) its ps := by
    exact each_rd I e hp
  have al : PySem.W.AllAlike (ps.map (·.2)) := by
    rw [e2]
    exact fun d m d' m' => fits_alike t d d' (List.all_eq_true.mp hfit d m) (List.all_eq_true.mp hfit d' m')
  have sk : PySem.W.Sortable (ps.map (·.2)) := by
    rw [e2]
    simp only [Bool.or_eq_true] at o3
    rcases o3 with o3 | o3
    · refine .inl fun d m => ?_
      have := List.all_eq_true.mp o3 d m
      cases d with
      | tuple zs =>
        cases zs with
        | nil => simp [nonemT] at this
        | cons z zs => exact ⟨z, zs, rfl⟩
      | _ => simp [nonemT] at this
    · refine .inr fun d m => ?_
      have := List.all_eq_true.mp o3 d m
      cases d <;> simp [otherT] at this <;> exact ⟨(fun z => nomatch z), fun _ z => nomatch z⟩
  have lens : ps.length = ds.length := by rw [← e2, List.length_map]
  refine PySem.W.sorted_data (vs := its) (bs := ps) (enc := fun p : V × D => p.2) (R := fun v (p : V × D) => RelV p.1 v) ht.isList e er al sk (by rw [lens]; exact lim_line (of_decide_eq_true o5)) (fun p m => ?_) fun out ol oe => ?_
  · have := of_decide_eq_true (List.all_eq_true.mp o4 p.2 (pin p m))
    omega
  · have vo := vals_each oe
    have perm : (ps.mergeSort (PySem.W.dataLe false fun p : V × D => p.2)).Perm ps := List.mergeSort_perm _ _
    have bo : BorL X.K H true (fun _ => True) ((ps.mergeSort (PySem.W.dataLe false fun p : V × D => p.2)).map (·.1)) (sortDs ds) := by
      have := bors_to (ps := ps.mergeSort (PySem.W.dataLe false fun p : V × D => p.2)) fun p m => hp p (perm.mem_iff.mp m)
      have e3 : (ps.mergeSort (PySem.W.dataLe false fun p : V × D => p.2)).map (·.2) = sortDs ds := by
        rw [← si, ← e2]
        exact merge_map (·.2) le0 (fun a b c => le0_tot.trans a b c) (fun a b => by rcases le0_tot.total a b with q | q <;> simp [q]) ps
      rw [e3] at this
      exact this
    obtain ⟨ep, ge⟩ := PyProof.Rows.sortedAll_at s.heap its out.toArray
    have fresh : s.heap.objs.size ≤ s.heap.objs.size + 1 := Nat.le_succ _
    have pd : purs (sortDs ds) = true := purs_sub o1 fun d m => (sortDs_perm ds).mem_iff.mp m
    refine ⟨.ref (s.heap.objs.size + 1), _, I.laid (t' := s.toks) (o := .lst ((ps.mergeSort (PySem.W.dataLe false fun p : V × D => p.2)).map (·.1))) (fun b ob z => PyProof.Rows.sortedAll_old z) fresh ?_, rfl, q _ _ (NewD.lst (I.hok.fresh fresh) pd bo)⟩
    refine ⟨?_, out, ep, vo, ?_⟩
    · rw [bo.length, (sortDs_perm ds).length_eq]
      exact lim_line (of_decide_eq_true o5)
    · exact ge
end
end Zr

set_option maxRecDepth 100000
set_option maxHeartbeats 4000000
/-! ZrD4: methods of lists and texts: index, count, join. -/
namespace Zr
open PySem PySem.Spec PyProof.Rows L2

theorem toStrs_eq : ∀ {xs : List D} {ns : List Str}, toStrs xs = some ns → xs = ns.map .str
  | [], ns, h => by
    cases h
    rfl
  | d :: r, ns, h => by
    cases d <;> simp only [toStrs] at h <;> try (cases h; done)
    cases e : toStrs r with
    | none =>
      rw [e] at h
      cases h
    | some ms =>
      rw [e] at h
      cases h
      rw [toStrs_eq e]
      rfl
theorem BorL.strs {K : Fr'} {H : Hp} {b : Bool} {P : Addr → Prop} : ∀ {ns : List Str} {vs : List V}, BorL K H b P vs (ns.map .str) → vs = ns.map V.str
  | [], _, .nil => rfl
  | n :: ns, _, .cons h t => by
    cases h
    rw [t.strs]
    rfl
theorem lensS_eq (ys : List Str) : lensS ys = (ys.map (·.length)).sum := by
  induction ys with
  | nil => rfl
  | cons y r ih => simp [lensS, ih]
theorem joinS_eq (s : Str) : ∀ ys : List Str, joinS s ys = Str.join s ys
  | [] => rfl
  | [x] => rfl
  | x :: y :: r => by
    simp only [joinS, Str.join]
    rw [joinS_eq s (y :: r)]
theorem idxD_spec (y : D) : ∀ (xs : List D) (k j : Nat), idxD y xs k = some j → k ≤ j ∧ ∃ z, xs[j - k]? = some z ∧ PyData.eqv z y = true ∧ ∀ (m : Nat) (z' : D), m < j - k → xs[m]? = some z' → PyData.eqv z' y = false
  | [], k, j, h => by simp [idxD] at h
  | z :: r, k, j, h => by
    simp only [idxD] at h
    by_cases e : PyData.eqv z y = true
    · rw [if_pos e] at h
      cases h
      refine ⟨Nat.le_refl _, z, by simp, e, fun m z' hm _ => ?_⟩
      omega
    · rw [if_neg e] at h
      obtain ⟨h1, w, h2, h3, h4⟩ := idxD_spec y r (k + 1) j h
      have ej : j - k = (j - (k + 1)) + 1 := by omega
      refine ⟨by omega, w, by rw [ej]; simpa using h2, h3, fun m z' hm hz => ?_⟩
      cases m with
      | zero =>
        simp at hz
        subst hz
        simpa using e
      | succ m => exact h4 m z' (by omega) (by simpa using hz)
theorem cntD_eq (y : D) : ∀ xs : List D, cntD y xs = xs.countP fun z => PyData.eqv z y
  | [] => rfl
  | z :: r => by
    simp only [cntD]
    rw [cntD_eq y r, List.countP_cons]
    by_cases e : PyData.eqv z y = true
    · simp [e]
    · simp [e]
section
variable {X : Cx}
/-- what a list's method reads -/
theorem list_read {pins : List (Addr × Obj)} {s : Shared} {σ : L2.St} {H : Hp} {a : Addr} {xs : List V} {ds : List D} {y : V} {d : D} {u : Value} (I : Inv X pins σ H s) (h2 : SqL X.K H a xs) (h3 : BorL X.K H true (fun _ => True) xs ds) (hy : Bor X.K H true (fun _ => True) y d) (ry : RelV y u)
    (p1 : PyData.plainAll ds = true) (p2 : d.plain = true) (p3 : d.depth ≤ 40) (hu : X.A.units + 64 < cLine) :
    ∃ (its : List Value) (n : Nat) (sl : Array (Option Value)), s.heap.get? a = some { cls := .type "list", dict := none, data := .seq its.toArray n, slots := sl } ∧ its.map (SeqAt.readOf s.heap) = ds ∧ its.length ≤ sizeLine ∧ (∀ z, z ∈ its.toArray → SeqAt.EqAt X.A.in1 s z u (PyData.eqv (SeqAt.readOf s.heap z) d)) := by
  obtain ⟨its, rv, ⟨⟨cls, dd, dt, sls⟩, n, ho, hc, hdn, hdt⟩, hz⟩ := I.list h2
  simp only at hc hdn hdt
  subst hc hdn hdt
  obtain ⟨bs, r1⟩ := hy.reads I ry
  obtain ⟨as, h4⟩ := Dp.readsAll I ds _ its h3.dp rv
  refine ⟨its, n, sls, ho, SeqAt.readsAll_map_plain ds its as p1 h4, by rw [← rv.length]; exact hz, SeqAt.items_plain (vs := its.toArray) (show ReadsAll s.heap its.toArray.toList ds as from h4) r1 p1 p2 ?_⟩
  have := Nat.min_le_right (PyData.depthAll ds) d.depth
  omega
def rIdx (K : Fr') : V → List V → Hp → VK → Prop := fun x xs H Q => ∃ (a : Addr) (vs : List V) (ds : List D) (y : V) (d : D) (j : Nat), x = .ref a ∧ xs = [y] ∧ SqL K H a vs ∧ BorL K H true (fun _ => True) vs ds ∧ Bor K H true (fun _ => True) y d ∧ PyData.plainAll ds = true ∧ d.plain = true ∧ d.depth ≤ 40 ∧ idxD d ds 0 = some j ∧ Q (.int (j : Nat)) H
theorem mt_idx (hu : X.A.units + 64 < cLine) : MtR X "list.index" (rIdx X.K) := by
  intro pins s σ H x xs v us Q I rx rxs h
  obtain ⟨a, vs, ds, y, d, j, rfl, rfl, h2, h3, hy, p1, p2, p3, hj, q⟩ := h
  cases rx
  obtain ⟨u, rfl, ry⟩ := vals1 rxs
  obtain ⟨its, n, sl, ho, hmap, hlen, heq⟩ := list_read I h2 h3 hy ry p1 p2 p3 hu
  obtain ⟨_, z, e1, e2, e3⟩ := idxD_spec d ds 0 j hj
  simp only [Nat.sub_zero] at e1 e3
  have hn : its.length = ds.length := by rw [← hmap, List.length_map]
  have jl : j < its.length := by
    have := (List.getElem?_eq_some_iff.mp e1).1
    omega
  have spot : ∀ (m : Nat) (hm : m < its.toArray.size) (z' : D), ds[m]? = some z' → SeqAt.readOf s.heap its.toArray[m] = z' := by
    intro m hm z' hz'
    have hml : m < its.length := by simpa using hm
    rw [← hmap, List.getElem?_map, List.getElem?_eq_getElem hml] at hz'
    simpa using Option.some.inj hz'
  have sz := sizeLine_eq
  refine call_meets PySem.F.slot_list_index ⟨_, ho, rfl⟩ PySem.F.entry_list_index (PySem.F.args_list_index_2 _ _)
    (SeqAt.list_indexAt a its.toArray n none sl u (fun w => PyData.eqv (SeqAt.readOf s.heap w) d) j (by simpa using jl) (by omega) ?_ ?_) ⟨ho, heq, ⟨.int (j : Nat), H, I.tok _, ⟨_, rfl⟩, q⟩⟩
  · show PyData.eqv (SeqAt.readOf s.heap its.toArray[j]) d = true
    rw [spot j (by simpa using jl) z e1]
    exact e2
  · intro m hm hmj
    have hmd : m < ds.length := by omega
    show PyData.eqv (SeqAt.readOf s.heap its.toArray[m]) d = false
    rw [spot m hm _ (List.getElem?_eq_getElem hmd)]
    exact e3 m _ hmj (List.getElem?_eq_getElem hmd)
def rCnt (K : Fr') : V → List V → Hp → VK → Prop := fun x xs H Q => ∃ (a : Addr) (vs : List V) (ds : List D) (y : V) (d : D), x = .ref a ∧ xs = [y] ∧ SqL K H a vs ∧ BorL K H true (fun _ => True) vs ds ∧ Bor K H true (fun _ => True) y d ∧ PyData.plainAll ds = true ∧ d.plain = true ∧ d.depth ≤ 40 ∧ Q (.int (cntD d ds : Nat)) H
theorem mt_cnt (hu : X.A.units + 64 < cLine) : MtR X "list.count" (rCnt X.K) := by
  intro pins s σ H x xs v us Q I rx rxs h
  obtain ⟨a, vs, ds, y, d, rfl, rfl, h2, h3, hy, p1, p2, p3, q⟩ := h
  cases rx
  obtain ⟨u, rfl, ry⟩ := vals1 rxs
  obtain ⟨its, n, sl, ho, hmap, hlen, heq⟩ := list_read I h2 h3 hy ry p1 p2 p3 hu
  refine call_meets PySem.F.slot_list_count ⟨_, ho, rfl⟩ PySem.F.entry_list_count (PySem.F.args_list_count_2 _ _)
    (SeqAt.list_countAt a its.toArray n none sl u (fun w => PyData.eqv (SeqAt.readOf s.heap w) d)) ⟨ho, heq, ?_⟩
  have e : its.toArray.toList.countP (fun w => PyData.eqv (SeqAt.readOf s.heap w) d) = cntD d ds := by
    rw [cntD_eq, ← hmap, List.countP_map]
    rfl
  rw [e]
  exact ⟨.int (cntD d ds : Nat), H, I.tok _, ⟨_, rfl⟩, q⟩
end
/-! ### sum, max, min of a tuple -/
theorem pre_take (ns : List Int) : ∀ k, k ≤ ns.length → preSum (fun i => ns.getD i 0) k = (ns.take k).sum
  | 0, _ => rfl
  | k + 1, h => by
    have hk : k < ns.length := h
    rw [List.take_add_one, List.sum_append, ← pre_take ns k (Nat.le_of_lt hk), List.getElem?_eq_getElem hk]
    show preSum _ k + ns.getD k 0 = _
    rw [List.getD_eq_getElem?_getD, List.getElem?_eq_getElem hk]
    simp
theorem ints_at {ns : List Int} {its : List Value} (rv : Vals (ns.map V.int) its) (i : Nat) (v : Value) (h : its.toArray[i]? = some v) : i < ns.length ∧ ∃ t, v = .int (ns.getD i 0) t := by
  have h' : its[i]? = some v := by simpa using h
  have hl := rv.length
  rw [List.length_map] at hl
  have hi : i < ns.length := by
    rw [hl]
    exact (List.getElem?_eq_some_iff.mp h').1
  obtain ⟨u, eu, ru⟩ := rv.get (i := i) (x := V.int ns[i]) (by rw [List.getElem?_map, List.getElem?_eq_getElem hi]; rfl)
  rw [h'] at eu
  cases eu
  obtain ⟨t, rfl⟩ := ru
  exact ⟨hi, t, by rw [List.getD_eq_getElem?_getD, List.getElem?_eq_getElem hi]; rfl⟩
section
variable {X : Cx}
def rSumT (K : Fr') : List V → Hp → VK → Prop := fun vs H Q => ∃ (a : Addr) (ns : List Int), vs = [V.ref a] ∧ SqT K H a (ns.map V.int) ∧ Q (.int ns.sum) H
def rBestT (K : Fr') (le : Int → Int → Prop) : List V → Hp → VK → Prop := fun vs H Q => ∃ (a : Addr) (ns : List Int), vs = [V.ref a] ∧ SqT K H a (ns.map V.int) ∧ 0 < ns.length ∧ ∀ m, m ∈ ns → (∀ y, y ∈ ns → le y m) → Q (.int m) H
theorem tup_kept {s : Shared} {h' : Heap} {o : Obj} (hk : ∀ b ob, b ∉ [s.heap.objs.size] → (s.heap.push o).get? b = some ob → h'.get? b = some ob) : ∀ b ob, s.heap.get? b = some ob → h'.get? b = some ob := fun b ob e =>
  hk b ob (fun m => by
    have : b = s.heap.objs.size := by simpa using m
    exact absurd (Heap.lt_size e) (by rw [this]; exact Nat.lt_irrefl _)) (Heap.get?_push_of_some _ e)
theorem tup_cells {s : Shared} {a : Addr} {o : Obj} (lt : a < s.heap.objs.size) : ∀ b ∈ [s.heap.objs.size, a], b < (s.heap.push o).objs.size := fun b m => by
  rw [Heap.size_push]
  have two : b = s.heap.objs.size ∨ b = a := by simpa using m
  rcases two with z | z
  · rw [z]
    exact Nat.lt_succ_self _
  · rw [z]
    exact Nat.lt_succ_of_lt lt
theorem cr_sumT (hc : X.calm = true) : CallR X (.builtin "sum") (rSumT X.K) := by
  intro pins s σ H vs us Q I r h
  obtain ⟨a, ns, rfl, hs, q⟩ := h
  obtain ⟨its, rv, p, _⟩ := I.tuple hs
  rw [Vals.ref1 r]
  obtain ⟨oa, ea, _⟩ := id p
  have lt := Heap.lt_size ea
  refine call_sum_walkG ((begins_tuple a its.toArray).iter _ _ _ _ _ _ p ?_)
  refine ⟨_, _, _, _, _, _, fun i => ns.getD i 0, rfl, Walks.tuple (A := X.A.in1) (show X.A.handled = none from I.ok.hd hc) s.heap.objs.size a (Nat.ne_of_lt lt) its.toArray, ⟨⟨_, Heap.get?_push_size _ rfl, rfl, rfl⟩, Heap.IsTuple.at p fun o e => Heap.get?_push_of_some _ e⟩, tup_cells lt, fun i v hv => (ints_at rv i v hv).2, fun h' tk t' hk => ?_⟩
  have len : its.toArray.size = ns.length := by rw [List.size_toArray, ← rv.length, List.length_map]
  rw [len, pre_take ns ns.length (Nat.le_refl _), List.take_length]
  exact ⟨.int _, H, I.kept (tup_kept hk), ⟨_, rfl⟩, q⟩
theorem cr_maxT (hc : X.calm = true) : CallR X (.builtin "max") (rBestT X.K fun y m => y ≤ m) := by
  intro pins s σ H vs us Q I r h
  obtain ⟨a, ns, rfl, hs, hne, q⟩ := h
  obtain ⟨its, rv, p, _⟩ := I.tuple hs
  rw [Vals.ref1 r]
  obtain ⟨oa, ea, _⟩ := id p
  have lt := Heap.lt_size ea
  have len : its.toArray.size = ns.length := by rw [List.size_toArray, ← rv.length, List.length_map]
  refine call_max_walk ((begins_tuple a its.toArray).iter _ _ _ _ _ _ p ?_)
  refine ⟨_, _, _, _, _, _, _, rfl, Walks.tuple (A := X.A.in1) (show X.A.handled = none from I.ok.hd hc) s.heap.objs.size a (Nat.ne_of_lt lt) its.toArray, ⟨⟨_, Heap.get?_push_size _ rfl, rfl, rfl⟩, Heap.IsTuple.at p fun o e => Heap.get?_push_of_some _ e⟩, tup_cells lt, by rw [len]; exact hne, CmpOf.ints_gt (fun i => ns.getD i 0) fun i v hv => (ints_at rv i v hv).2, fun v h' tk hv hk => ?_⟩
  obtain ⟨hi, t, rfl⟩ := ints_at rv _ v hv
  rw [len] at hi hv ⊢
  obtain ⟨h1, h2⟩ := argBest_gt (fun i => ns.getD i 0) (ns.length - 1)
  refine ⟨.int _, H, I.kept (tup_kept hk), ⟨_, rfl⟩, q _ ?_ fun y hy => ?_⟩
  · rw [List.getD_eq_getElem?_getD, List.getElem?_eq_getElem hi]
    exact List.getElem_mem hi
  · obtain ⟨j, hj⟩ := List.mem_iff_getElem?.mp hy
    have lj := (List.getElem?_eq_some_iff.mp hj).1
    have := h2 j (by omega)
    have ej : ns.getD j 0 = y := by
      rw [List.getD_eq_getElem?_getD, hj]
      rfl
    rw [ej] at this
    exact this
theorem cr_minT (hc : X.calm = true) : CallR X (.builtin "min") (rBestT X.K fun y m => m ≤ y) := by
  intro pins s σ H vs us Q I r h
  obtain ⟨a, ns, rfl, hs, hne, q⟩ := h
  obtain ⟨its, rv, p, _⟩ := I.tuple hs
  rw [Vals.ref1 r]
  obtain ⟨oa, ea, _⟩ := id p
  have lt := Heap.lt_size ea
  have len : its.toArray.size = ns.length := by rw [List.size_toArray, ← rv.length, List.length_map]
  refine call_min_walk ((begins_tuple a its.toArray).iter _ _ _ _ _ _ p ?_)
  refine ⟨_, _, _, _, _, _, _, rfl, Walks.tuple (A := X.A.in1) (show X.A.handled = none from I.ok.hd hc) s.heap.objs.size a (Nat.ne_of_lt lt) its.toArray, ⟨⟨_, Heap.get?_push_size _ rfl, rfl, rfl⟩, Heap.IsTuple.at p fun o e => Heap.get?_push_of_some _ e⟩, tup_cells lt, by rw [len]; exact hne, CmpOf.ints_lt (fun i => ns.getD i 0) fun i v hv => (ints_at rv i v hv).2, fun v h' tk hv hk => ?_⟩
  obtain ⟨hi, t, rfl⟩ := ints_at rv _ v hv
  rw [len] at hi hv ⊢
  obtain ⟨h1, h2⟩ := argBest_lt (fun i => ns.getD i 0) (ns.length - 1)
  refine ⟨.int _, H, I.kept (tup_kept hk), ⟨_, rfl⟩, q _ ?_ fun y hy => ?_⟩
  · rw [List.getD_eq_getElem?_getD, List.getElem?_eq_getElem hi]
    exact List.getElem_mem hi
  · obtain ⟨j, hj⟩ := List.mem_iff_getElem?.mp hy
    have lj := (List.getElem?_eq_some_iff.mp hj).1
    have := h2 j (by omega)
    have ej : ns.getD j 0 = y := by
      rw [List.getD_eq_getElem?_getD, hj]
      rfl
    rw [ej] at this
    exact this
end
end Zr

set_option maxRecDepth 100000
set_option maxHeartbeats 4000000
/-! ZrD5: the calls of built-ins. -/
namespace Zr
open PySem PySem.Spec PyProof.Rows L2
section
variable {X : Cx}
theorem call_bi (hc : X.calm = true) (hg : X.A.guards = some []) (hu : X.A.units + 64 < cLine) (b : Bi) : CallR X (bv b) (rBi X.K b) := by
  intro pins s σ H vs us Q I r h
  obtain ⟨ds, d, hb, hd, q⟩ := h
  have qi : ∀ i, d = .int i → Q (.int i) H := fun i e => q _ _ (by rw [e]; exact NewD.pure (b := false) (P := fun _ => True) rfl (.int i))
  have qb : ∀ i, d = .bool i → Q (.bl i) H := fun i e => q _ _ (by rw [e]; exact NewD.pure (b := false) (P := fun _ => True) rfl (.bl i))
  have qs : ∀ z, d = .str z → Q (.str z) H := fun z e => q _ _ (by rw [e]; exact NewD.pure (b := false) (P := fun _ => True) rfl (.str z))
  unfold bi at hd
  split at hd
  all_goals first | (cases hd; done) | skip
  -- len
  · obtain ⟨v, rfl, h1⟩ := hb.one
    obtain ⟨a, xs, rfl, h2, h3⟩ := h1.list
    cases hd
    exact call_len pins s σ H _ us Q I r ⟨_, xs.length, rfl, .inl ⟨xs, h2, rfl⟩, by rw [h3.length]; exact qi _ rfl⟩
  · obtain ⟨v, rfl, h1⟩ := hb.one
    obtain ⟨a, xs, rfl, h2, h3⟩ := h1.tuple
    cases hd
    exact call_len pins s σ H _ us Q I r ⟨_, xs.length, rfl, .inr ⟨xs, h2, rfl⟩, by rw [h3.length]; exact qi _ rfl⟩
  · obtain ⟨v, rfl, h1⟩ := hb.one
    obtain rfl := h1.str'
    obtain ⟨c, e⟩ := ifs hd
    exact call_len pins s σ H _ us Q I r ⟨_, _, rfl, ⟨lim_line c, rfl⟩, qi _ e.symm⟩
  · obtain ⟨v, rfl, h1⟩ := hb.one
    obtain rfl := h1.int'
    cases hd
    exact call_abs pins s σ H _ us Q I r ⟨_, rfl, qi _ rfl⟩
  · obtain ⟨v, rfl, h1⟩ := hb.one
    obtain rfl := h1.int'
    cases hd
    exact call_int1 pins s σ H _ us Q I r (.inl ⟨_, rfl, qi _ rfl⟩)
  · obtain ⟨v, rfl, h1⟩ := hb.one
    obtain rfl := h1.bool'
    cases hd
    exact call_int1 pins s σ H _ us Q I r (.inr ⟨_, rfl, qi _ rfl⟩)
  · obtain ⟨v, w, rfl, h1, h2⟩ := hb.two
    obtain rfl := h1.int'
    obtain rfl := h2.int'
    cases hd
    exact call_max2 hc pins s σ H _ us Q I r ⟨_, _, rfl, qi _ rfl⟩
  · obtain ⟨v, w, rfl, h1, h2⟩ := hb.two
    obtain rfl := h1.int'
    obtain rfl := h2.int'
    cases hd
    exact call_min2 hc pins s σ H _ us Q I r ⟨_, _, rfl, qi _ rfl⟩
  · obtain ⟨v, rfl, h1⟩ := hb.one
    obtain ⟨a, xs, rfl, h2, h3⟩ := h1.list
    split at hd
    · rename_i m r' e
      cases hd
      have e2 := toInts_eq e
      subst e2
      obtain rfl := h3.ints
      refine cr_max hc pins s σ H _ us Q I r ⟨a, m :: r', rfl, h2, Nat.succ_pos _, fun z hz hl => ?_⟩
      obtain ⟨g1, g2, g3⟩ := maxI_spec r' m
      have e3 : z = maxI m r' := by
        have a1 : maxI m r' ≤ z := hl _ (g1.elim (fun e => by rw [e]; exact List.mem_cons_self) fun e => List.mem_cons_of_mem _ e)
        have a2 : z ≤ maxI m r' := (List.mem_cons.mp hz).elim (fun e => e ▸ g2) fun e => g3 z e
        omega
      rw [e3]
      exact qi _ rfl
    · cases hd
  · obtain ⟨v, rfl, h1⟩ := hb.one
    obtain ⟨a, xs, rfl, h2, h3⟩ := h1.list
    split at hd
    · rename_i m r' e
      cases hd
      have e2 := toInts_eq e
      subst e2
      obtain rfl := h3.ints
      refine cr_min hc pins s σ H _ us Q I r ⟨a, m :: r', rfl, h2, Nat.succ_pos _, fun z hz hl => ?_⟩
      obtain ⟨g1, g2, g3⟩ := minI_spec r' m
      have e3 : z = minI m r' := by
        have a1 : z ≤ minI m r' := hl _ (g1.elim (fun e => by rw [e]; exact List.mem_cons_self) fun e => List.mem_cons_of_mem _ e)
        have a2 : minI m r' ≤ z := (List.mem_cons.mp hz).elim (fun e => e ▸ g2) fun e => g3 z e
        omega
      rw [e3]
      exact qi _ rfl
    · cases hd
  · obtain ⟨v, rfl, h1⟩ := hb.one
    obtain ⟨a, xs, rfl, h2, h3⟩ := h1.list
    obtain ⟨ns, e, rfl⟩ := Option.map_eq_some_iff.mp hd
    have e2 := toInts_eq e
    subst e2
    obtain rfl := h3.ints
    exact cr_sum hc pins s σ H _ us Q I r ⟨a, ns, rfl, h2, qi _ rfl⟩
  · obtain ⟨v, rfl, h1⟩ := hb.one
    obtain ⟨a, xs, rfl, h2, h3⟩ := h1.tuple
    obtain ⟨ns, e, rfl⟩ := Option.map_eq_some_iff.mp hd
    have e2 := toInts_eq e
    subst e2
    obtain rfl := h3.ints
    exact cr_sumT hc pins s σ H _ us Q I r ⟨a, ns, rfl, h2, qi _ rfl⟩
  · obtain ⟨v, rfl, h1⟩ := hb.one
    obtain ⟨a, xs, rfl, h2, h3⟩ := h1.tuple
    split at hd
    · rename_i m r' e
      cases hd
      have e2 := toInts_eq e
      subst e2
      obtain rfl := h3.ints
      refine cr_maxT hc pins s σ H _ us Q I r ⟨a, m :: r', rfl, h2, Nat.succ_pos _, fun z hz hl => ?_⟩
      obtain ⟨g1, g2, g3⟩ := maxI_spec r' m
      have e3 : z = maxI m r' := by
        have a1 : maxI m r' ≤ z := hl _ (g1.elim (fun e => by rw [e]; exact List.mem_cons_self) fun e => List.mem_cons_of_mem _ e)
        have a2 : z ≤ maxI m r' := (List.mem_cons.mp hz).elim (fun e => e ▸ g2) fun e => g3 z e
        omega
      rw [e3]
      exact qi _ rfl
    · cases hd
  · obtain ⟨v, rfl, h1⟩ := hb.one
    obtain ⟨a, xs, rfl, h2, h3⟩ := h1.tuple
    split at hd
    · rename_i m r' e
      cases hd
      have e2 := toInts_eq e
      subst e2
      obtain rfl := h3.ints
      refine cr_minT hc pins s σ H _ us Q I r ⟨a, m :: r', rfl, h2, Nat.succ_pos _, fun z hz hl => ?_⟩
      obtain ⟨g1, g2, g3⟩ := minI_spec r' m
      have e3 : z = minI m r' := by
        have a1 : z ≤ minI m r' := hl _ (g1.elim (fun e => by rw [e]; exact List.mem_cons_self) fun e => List.mem_cons_of_mem _ e)
        have a2 : minI m r' ≤ z := (List.mem_cons.mp hz).elim (fun e => e ▸ g2) fun e => g3 z e
        omega
      rw [e3]
      exact qi _ rfl
    · cases hd
  · obtain ⟨v, rfl, h1⟩ := hb.one
    obtain ⟨a, xs, rfl, h2, h3⟩ := h1.list
    obtain ⟨ns, e, rfl⟩ := Option.map_eq_some_iff.mp hd
    have e2 := toBls_eq e
    subst e2
    obtain rfl := h3.bls
    exact cr_all hc pins s σ H _ us Q I r ⟨a, ns, rfl, h2, qb _ rfl⟩
  · obtain ⟨v, rfl, h1⟩ := hb.one
    obtain ⟨a, xs, rfl, h2, h3⟩ := h1.list
    obtain ⟨ns, e, rfl⟩ := Option.map_eq_some_iff.mp hd
    have e2 := toBls_eq e
    subst e2
    obtain rfl := h3.bls
    exact cr_any hc pins s σ H _ us Q I r ⟨a, ns, rfl, h2, qb _ rfl⟩
  · obtain ⟨v, rfl, h1⟩ := hb.one
    obtain ⟨a, xs, rfl, h2, h3⟩ := h1.list
    split at hd
    · rename_i ns e
      cases hd
      have e2 := toInts_eq e
      subst e2
      obtain rfl := h3.ints
      refine cr_sortedI pins s σ H _ us Q I r ⟨a, ns, rfl, h2, fun ns' p pm up n => ?_⟩
      have e3 : ns' = sortI ns := up_one (pm.trans (sortI_perm ns).symm) up (sortI_up ns)
      rw [e3]
      exact q _ _ (NewD.lst n (purs_ints _) (BorL.of_ints (b := true) (P := fun _ => True) _))
    · obtain ⟨c, rfl⟩ := ifs hd
      exact call_sortedD hu pins s σ H _ us Q I r ⟨a, xs, _, rfl, h2, h3, c, q⟩
  · obtain ⟨v, rfl, h1⟩ := hb.one
    obtain ⟨a, xs, rfl, h2, h3⟩ := h1.tuple
    obtain ⟨ns, e, rfl⟩ := Option.map_eq_some_iff.mp hd
    have e2 := toInts_eq e
    subst e2
    obtain rfl := h3.ints
    refine cr_sortedTup pins s σ H _ us Q I r ⟨a, ns, rfl, h2, fun ns' p pm up n => ?_⟩
    have e3 : ns' = sortI ns := up_one (pm.trans (sortI_perm ns).symm) up (sortI_up ns)
    rw [e3]
    exact q _ _ (NewD.lst n (purs_ints _) (BorL.of_ints (b := true) (P := fun _ => True) _))
  · obtain ⟨v, rfl, h1⟩ := hb.one
    obtain ⟨a, xs, rfl, h2, h3⟩ := h1.list
    obtain ⟨c, rfl⟩ := ifs hd
    exact call_tuple_of pins s σ H _ us Q I r ⟨a, xs, rfl, .inl ⟨h2, fun l n => q _ _ (NewD.tup n c h3)⟩⟩
  · obtain ⟨v, rfl, h1⟩ := hb.one
    obtain ⟨a, xs, rfl, h2, h3⟩ := h1.tuple
    obtain ⟨c, rfl⟩ := ifs hd
    exact call_tuple_of pins s σ H _ us Q I r ⟨a, xs, rfl, .inr ⟨h2, q _ _ (NewD.pure (b := true) (P := fun _ => True) c (.tup h2 h3))⟩⟩
  · obtain ⟨v, rfl, h1⟩ := hb.one
    obtain ⟨a, xs, rfl, h2, h3⟩ := h1.list
    obtain ⟨c, rfl⟩ := ifs hd
    exact call_list_of pins s σ H _ us Q I r ⟨a, xs, rfl, .inl h2, fun l n => q _ _ (NewD.lst n c h3)⟩
  · obtain ⟨v, rfl, h1⟩ := hb.one
    obtain ⟨a, xs, rfl, h2, h3⟩ := h1.tuple
    obtain ⟨c, rfl⟩ := ifs hd
    exact call_list_of pins s σ H _ us Q I r ⟨a, xs, rfl, .inr h2, fun l n => q _ _ (NewD.lst n c h3)⟩
  · obtain ⟨v, rfl, h1⟩ := hb.one
    obtain ⟨c, e⟩ := ifs hd
    simp only [Bool.and_eq_true, Bool.not_eq_true', decide_eq_true_eq] at c
    exact call_repr_data hg hu pins s σ H _ us Q I r ⟨_, _, rfl, h1, c.1.1.1, c.1.1.2, c.1.2, lim_line c.2, qs _ e.symm⟩
  · obtain ⟨v, rfl, h1⟩ := hb.one
    obtain rfl := h1.int'
    obtain ⟨c, e⟩ := ifs hd
    exact call_str_int pins s σ H _ us Q I r ⟨_, rfl, c, qs _ e.symm⟩
end
end Zr

set_option maxRecDepth 100000
set_option maxHeartbeats 4000000
/-! ZrE: a text's def is told by a term of ZrB (chk); expressions do what ev says. -/
namespace Zr
open PySem PySem.Spec PyProof.Rows L2

structure Gx where
  fns : List (Str × Nat × Mode)
  cons : List (Str × D)
  blts : List Str
  tabs : List (Str × List (Str × D))
structure Sx where
  N : List Str
  sc : Scope
  rw : Scope
def visB (sc : Scope) (x : Str) : Bool := match sc.names.lookup x with
  | some .local => true
  | some .cell => true
  | some .free => true
  | _ => false
def glB (sc : Scope) (x : Str) : Bool := match sc.names.lookup x with
  | some .globalImplicit => true
  | _ => false
def locB (sc : Scope) (x : Str) : Bool := match sc.names.lookup x with
  | some .local => true
  | some .cell => true
  | _ => false
def loc1B (sc : Scope) (x : Str) : Bool := match sc.names.lookup x with
  | some .local => true
  | _ => false
def nodun (x : Str) : Bool := !(x == ("__debug__" : Str)) && !(x == ("__classdict__" : Str)) && !decide (x = ("__name__" : Str))
def nameB (S : Sx) (i : Nat) (x : Str) : Bool := decide (S.N[i]? = some x) && visB S.sc x && nodun x
def gloB (S : Sx) (x : Str) : Bool := glB S.sc x && nodun x
def bltB (G : Gx) (S : Sx) (x : Str) : Bool := gloB S x && G.blts.contains x
def tyn : Ty → String
  | .int => "int"
  | .bool => "bool"
  | .str => "str"
  | .list => "list"
  | .tuple => "tuple"
  | .dict => "dict"
def notStar : Expr → Bool
  | .Starred _ _ => false
  | _ => true
def notSlice : Expr → Bool
  | .Slice _ _ _ _ => false
  | _ => true
def notSet : Expr → Bool
  | .Set _ _ _ => false
  | _ => true
def plainTest : Expr → Bool
  | .UnaryOp .Not _ _ => false
  | .BoolOp _ _ _ => false
  | .IfExp _ _ _ _ => false
  | .Compare _ _ _ _ => false
  | _ => true
def notComp : Expr → Bool
  | .ListComp _ _ _ _ => false
  | .SetComp _ _ _ _ => false
  | .DictComp _ _ _ _ _ => false
  | _ => true
def chkTys (G : Gx) (S : Sx) : List Ty → List Expr → Bool
  | [], [] => true
  | t :: ts, .Name n _ :: es => decide (n = Str.ofString (tyn t)) && bltB G S n && chkTys G S ts es
  | _, _ => false
def chkG (S : Sx) : IG → Expr → Bool
  | .nm i, .Name x _ => decide (S.N[i]? = some x) && locB S.rw x && nodun x
  | .t1 a, .Tuple [x] _ _ => chkG S a x
  | .t2 a b, .Tuple [x, y] _ _ => chkG S a x && chkG S b y
  | .t3 a b c, .Tuple [x, y, z] _ _ => chkG S a x && chkG S b y && chkG S c z
  | .t4 a b c d, .Tuple [x, y, z, u] _ _ => chkG S a x && chkG S b y && chkG S c z && chkG S d u
  | .t5 a b c d e, .Tuple [x, y, z, u, v] _ _ => chkG S a x && chkG S b y && chkG S c z && chkG S d u && chkG S e v
  | _, _ => false
def inner (S : Sx) (scope : Scope) : Sx := ⟨S.N, relS scope S.sc, scope⟩
def ownOf (S : Sx) (own : List Nat) : List (Str × Nat) := own.map fun i => (S.N.getD i ("" : Str), i)
/-- enumerate and zip are walked into a tuple -/
def tgI : II → Expr → Bool
  | .enum _, .Tuple _ _ _ => true
  | .zip _ _, .Tuple _ _ _ => true
  | .ezip _ _, .Tuple _ _ _ => true
  | .zip3 _ _ _, .Tuple _ _ _ => true
  | .enum _, _ => false
  | .zip _ _, _ => false
  | .ezip _ _, _ => false
  | .zip3 _ _ _, _ => false
  | _, _ => true
def mun : Mu → Str
  | .append => "append"
  | .extend => "extend"
  | .pop => "pop"
  | .insert => "insert"
  | .remove => "remove"
def kvsEq : List (Str × D) → List (Str × D) → Bool
  | [], [] => true
  | (x, d) :: r, (y, e) :: s => decide (x = y) && deq d e && kvsEq r s
  | _, _ => false
theorem kvsEq_eq : ∀ {a b : List (Str × D)}, kvsEq a b = true → a = b
  | [], [], _ => rfl
  | (x, d) :: r, (y, e) :: s, h => by
    simp only [kvsEq, Bool.and_eq_true, decide_eq_true_eq] at h
    rw [h.1.1, deq_eq h.1.2, kvsEq_eq h.2]
def tabB (G : Gx) (S : Sx) (x y : Str) (kvs : List (Str × D)) : Bool := decide (x = y) && gloB S y && G.tabs.any fun p => decide (p.1 = x) && kvsEq p.2 kvs
def men : Me → Str
  | .join => "join"
  | .index => "index"
  | .count => "count"
def plainBase : Expr → Bool
  | .Call (.Name _ _) [] [] _ => false
  | _ => true
mutual
def chkE (G : Gx) (S : Sx) : IE → Expr → Bool
  | .var i, .Name x _ => nameB S i x
  | .mov i, .Name x _ => nameB S i x
  | .fz _ e, ex => chkE G S e ex
  | .int i, .Constant (.int j) _ _ => decide (i = j)
  | .str x, .Constant (.str y) _ _ => decide (x = y)
  | .bl b, .Constant (.bool c) _ _ => decide (b = c)
  | .non, .Constant .none _ _ => true
  | .glob x d, .Name y _ => decide (x = y) && gloB S y && G.cons.any fun p => decide (p.1 = x) && deq p.2 d
  | .bin op a b, .BinOp l o r _ => decide (op = o) && chkE G S a l && chkE G S b r
  | .neg a, .UnaryOp .USub x _ => chkE G S a x
  | .cmp op a b, .Compare l [o] [r] _ => decide (op = o) && !behindInMarks o r && chkE G S a l && chkE G S b r
  | .chain op op' a b c, .Compare l [o, o'] [m, r] _ => decide (op = o) && decide (op' = o') && !lastMarks [o, o'] [m, r] && chkE G S a l && chkE G S b m && chkE G S c r
  | .chain3 o1 o2 o3 a b c d, .Compare l [p1, p2, p3] [m1, m2, r] _ => decide (o1 = p1) && decide (o2 = p2) && decide (o3 = p3) && !lastMarks [p1, p2, p3] [m1, m2, r] && chkE G S a l && chkE G S b m1 && chkE G S c m2 && chkE G S d r
  | .cin neg a x kvs, .Compare l [op] [.Name y _] _ => decide (op = (if neg then .NotIn else .In)) && tabB G S x y kvs && chkE G S a l
  | .cix x kvs a, .Subscript (.Name y _) s _ => tabB G S x y kvs && notSlice s && chkE G S a s
  | .rng1V tp a, .Call (.Name f _) [.Call (.Name g _) [x] [] _] [] _ => decide (f = (if tp then ("tuple" : Str) else "list")) && bltB G S f && decide (g = ("range" : Str)) && bltB G S g && notStar x && chkE G S a x
  | .rng2V tp a b, .Call (.Name f _) [.Call (.Name g _) [x, y] [] _] [] _ => decide (f = (if tp then ("tuple" : Str) else "list")) && bltB G S f && decide (g = ("range" : Str)) && bltB G S g && notStar x && notStar y && chkE G S a x && chkE G S b y
  | .sls a lo hi st, .Subscript v (.Slice l h (some (.UnaryOp .USub (.Constant (.int i) _ _) _)) _) _ => decide (st = -i) && chkE G S a v && chkO G S lo l && chkO G S hi h
  | .meth m o es, .Call (.Attribute ox a ap) (x :: xs) [] cp => decide (a = men m) && plainBase ox && (ap.endLine == cp.line) && decide ((x :: xs).length < 20) && chkE G S o ox && chks G S es (x :: xs)
  | .andV a b, .BoolOp .And (x :: y :: r) p => chkE G S a x && chkE G S b (.BoolOp .And (y :: r) p)
  | .orV a b, .BoolOp .Or (x :: y :: r) p => chkE G S a x && chkE G S b (.BoolOp .Or (y :: r) p)
  | .oneV a, .BoolOp _ [x] _ => chkE G S a x
  | .notV a, .UnaryOp .Not x _ => chkE G S a x
  | .ite t a b, .IfExp c x y _ => chkT G S t c && chkE G S a x && chkE G S b y
  | .tup es, .Tuple xs _ _ => chks G S es xs
  | .lst es, .List xs _ => chks G S es xs
  | .ix a b, .Subscript v s _ => notSlice s && chkE G S a v && chkE G S b s
  | .sl a lo hi, .Subscript v (.Slice l h none _) _ => chkE G S a v && chkO G S lo l && chkO G S hi h
  | .isi a ts, .Call (.Name f _) [x, t] [] _ => decide (f = ("isinstance" : Str)) && bltB G S f && notStar x && chkE G S a x && (match ts, t with
    | [_], .Name _ _ => chkTys G S ts [t]
    | _, .Tuple ns _ _ => decide (ts.length < 20) && chkTys G S ts ns
    | _, _ => false)
  | .bcall b es, .Call (.Name f _) (x :: xs) [] _ => decide (f = bn b) && bltB G S f && chks G S es (x :: xs)
  | .fcall f es, .Call (.Name n _) (x :: xs) [] _ => decide (G.fns[f]? = some (n, (x :: xs).length, .plain)) && gloB S n && chks G S es (x :: xs)
  | .fscr f es, .Call (.Name n _) (x :: xs) [] _ => decide (G.fns[f]? = some (n, (x :: xs).length, .scr)) && gloB S n && chks G S es (x :: xs)
  | .fref f s es, .Call (.Name n _) (.Name x _ :: xs) [] _ => decide (G.fns[f]? = some (n, xs.length + 1, .byr)) && gloB S n && nameB S s x && chks G S es xs
  | .mut m i es, .Call (.Attribute (.Name x _) a ap) xs [] cp => decide (a = mun m) && nameB S i x && (ap.endLine == cp.line) && decide (xs.length < 20) && chks G S es xs
  | .lc own elt g it t, .ListComp ex [⟨tg, ie, ifs, 0⟩] scope _ => blkC S.N S.sc scope (ownOf S own) && chkI G S it ie && tgI it tg && notSet ie && chkG (inner S scope) g tg && chkC G (inner S scope) t ifs && chkE G (inner S scope) elt ex
  | .lc2 own elt g it t g1 it1 t1, .ListComp ex [⟨tg, ie, ifs, 0⟩, ⟨tg1, ie1, ifs1, 0⟩] scope _ => blkC S.N S.sc scope (ownOf S own) && chkI G S it ie && tgI it tg && notSet ie && chkG (inner S scope) g tg && chkC G (inner S scope) t ifs && chkI G (inner S scope) it1 ie1 && tgI it1 tg1 && notSet ie1 && g1.slots.all own.contains && chkG (inner S scope) g1 tg1 && chkC G (inner S scope) t1 ifs1 && chkE G (inner S scope) elt ex
  | _, _ => false
def chks (G : Gx) (S : Sx) : IEs → List Expr → Bool
  | .nil, [] => true
  | .cons e es, x :: xs => notStar x && chkE G S e x && chks G S es xs
  | _, _ => false
def chkO (G : Gx) (S : Sx) : IO → Option Expr → Bool
  | .none, none => true
  | .some e, some x => chkE G S e x
  | _, _ => false
def chkT (G : Gx) (S : Sx) : IT → Expr → Bool
  | .tru e, x => plainTest x && chkE G S e x
  | .cmp (.cmp op a b), .Compare l [o] [r] _ => decide (op = o) && !behindInMarks o r && chkE G S a l && chkE G S b r
  | .cmp (.cin neg a x kvs), .Compare l [op] [.Name y _] _ => decide (op = (if neg then .NotIn else .In)) && tabB G S x y kvs && chkE G S a l
  | .cmp (.chain3 o1 o2 o3 a b c d), .Compare l [p1, p2, p3] [m1, m2, r] _ => decide (o1 = p1) && decide (o2 = p2) && decide (o3 = p3) && !lastMarks [p1, p2, p3] [m1, m2, r] && chkE G S a l && chkE G S b m1 && chkE G S c m2 && chkE G S d r
  | .cmp (.chain op op' a b c), .Compare l [o, o'] [m, r] _ => decide (op = o) && decide (op' = o') && !lastMarks [o, o'] [m, r] && chkE G S a l && chkE G S b m && chkE G S c r
  | .and a b, .BoolOp .And (x :: y :: r) p => chkT G S a x && chkT G S b (.BoolOp .And (y :: r) p)
  | .or a b, .BoolOp .Or (x :: y :: r) p => chkT G S a x && chkT G S b (.BoolOp .Or (y :: r) p)
  | .one a, .BoolOp _ [x] _ => chkT G S a x
  | .not a, .UnaryOp .Not x _ => chkT G S a x
  | _, _ => false
def chkC (G : Gx) (S : Sx) : IC → List Expr → Bool
  | .yes, [] => true
  | .one t, [x] => chkT G S t x
  | _, _ => false
def chkI (G : Gx) (S : Sx) : II → Expr → Bool
  | .seq e, x => chkE G S e x
  | .rng1 a, .Call (.Name f _) [x] [] _ => decide (f = ("range" : Str)) && bltB G S f && notStar x && chkE G S a x
  | .rng2 a b, .Call (.Name f _) [x, y] [] _ => decide (f = ("range" : Str)) && bltB G S f && notStar x && notStar y && chkE G S a x && chkE G S b y
  | .enum e, .Call (.Name f _) [x] [] _ => decide (f = ("enumerate" : Str)) && bltB G S f && notStar x && chkE G S e x
  | .zip a b, .Call (.Name f _) [x, y] [] _ => decide (f = ("zip" : Str)) && bltB G S f && notStar x && notStar y && chkE G S a x && chkE G S b y
  | .ezip a b, .Call (.Name g _) [.Call (.Name f _) [x, y] [] _] [] _ => decide (g = ("enumerate" : Str)) && bltB G S g && decide (f = ("zip" : Str)) && bltB G S f && notStar x && notStar y && chkE G S a x && chkE G S b y
  | .zip3 a b c, .Call (.Name f _) [x, y, z] [] _ => decide (f = ("zip" : Str)) && bltB G S f && notStar x && notStar y && notStar z && chkE G S a x && chkE G S b y && chkE G S c z
  | _, _ => false
end
end Zr

set_option maxRecDepth 100000
set_option maxHeartbeats 8000000
/-! ZrF: worlds behind a new value, a slot taken; what is asked of a context; readings. -/
namespace Zr
open PySem PySem.Spec PyProof.Rows L2

section
variable {K : Fr'} {H H' H1 H2 H3 : Hp} {ρ ρ' ρ1 ρ2 : List Slot} {σ σ' : L2.St} {F F' F1 F2 : Fa} {Z Z' Z1 Z2 : Addr → Prop} {E E1 E2 : List Nat}

/-- a slot's tie is kept where its objects are -/
theorem SR.keep {i : Nat} {ov : Option (Option V)} {s : Slot} (h : SR K H F Z i ov s) (hF : F' i = F i) (k : ∀ a o, H a = some o → (Lst o → a ∈ F i ∨ ¬ Z a) → H' a = some o) (z : ∀ a, ¬ Z a → H a ≠ none → ¬ Z' a) : SR K H' F' Z' i ov s := by
  cases s with
  | emp => exact hF.trans h
  | pur d =>
    obtain ⟨h0, hp, v, e, hb⟩ := h
    exact ⟨hF.trans h0, hp, v, e, (Own.keep (Bor.own hb hp) fun a o e l => k a o e fun q => absurd (l q) (by simp)).bor fun _ _ => trivial⟩
  | own d =>
    obtain ⟨v, e, ho⟩ := h
    refine ⟨v, e, ?_⟩
    show Own K H' v d (F' i)
    rw [hF]
    exact ho.keep fun a o e l => k a o e fun q => .inl (l q)
  | byr d =>
    obtain ⟨v, e, ho⟩ := h
    refine ⟨v, e, ?_⟩
    show Own K H' v d (F' i)
    rw [hF]
    exact ho.keep fun a o e l => k a o e fun q => .inl (l q)
  | bor d =>
    obtain ⟨h0, v, e, hb⟩ := h
    exact ⟨hF.trans h0, v, e, hb.keep (P := fun a => ¬ Z a) (fun a o e l => k a o e fun q => .inr (l q)) fun a p n => z a p n⟩
  | scr d =>
    obtain ⟨h0, v, e, hb⟩ := h
    exact ⟨hF.trans h0, v, e, hb.keep (P := fun a => ¬ Z a) (fun a o e l => k a o e fun q => .inr (l q)) fun a p n => z a p n⟩

/-- owned objects stand -/
theorem W.tr (w : W K H ρ σ F Z) {j : Nat} {a : Addr} (q : a ∈ F j) : ∃ o, H a = some o ∧ Lst o := by
  by_cases hj : j < ρ.length
  · have hs := w.slot j ρ[j] (List.getElem?_eq_getElem hj)
    cases e : ρ[j] with
    | emp =>
      rw [e] at hs
      rw [show F j = [] from hs] at q
      cases q
    | pur d =>
      rw [e] at hs
      rw [hs.1] at q
      cases q
    | own d =>
      rw [e] at hs
      obtain ⟨_, _, ho⟩ := hs
      exact ho.tr a q
    | byr d =>
      rw [e] at hs
      obtain ⟨_, _, ho⟩ := hs
      exact ho.tr a q
    | bor d =>
      rw [e] at hs
      rw [hs.1] at q
      cases q
    | scr d =>
      rw [e] at hs
      rw [hs.1] at q
      cases q
  · rw [w.out j (by omega)] at q
    cases q
/-- behind a new value -/
theorem W.new {v : V} {d : D} (w : W K H ρ σ F Z) (n : NewD K H H' v d) : ∃ Z', Step [] H ρ F Z H' ρ F Z' ∧ W K H' ρ σ F Z' ∧ VR [] K H F H' ρ σ F Z' v d .fresh := by
  obtain ⟨k, B, ho, nd, nw⟩ := n
  have z0 : ∀ a, ¬ Z a → H a ≠ none → ¬ (Z a ∨ a ∈ B) := fun a p q r => r.elim p fun m => q (nw a m)
  refine ⟨fun a => Z a ∨ a ∈ B, ⟨fun a o e _ => k a o e, fun a q => ?_, fun _ _ => ⟨rfl, rfl⟩, fun _ _ m => .inl m, fun a q => q.imp id (nw a), fun a q _ => .inl (.inl q)⟩,
    ⟨w.len, w.out, fun i s e => (w.slot i s e).keep rfl (fun a o e _ => k a o e) z0, w.nodup, w.disj, fun i a m => .inl (w.zed i a m)⟩, B, ho, nd, fun a m => .inr m, fun a m j q => ?_, fun a m => .inr (nw a m)⟩
  · cases e : H a with
    | none => exact absurd e q
    | some o =>
      rw [k a o e]
      exact fun z => nomatch z
  · obtain ⟨o, e, _⟩ := w.tr q
    rw [nw a m] at e
    cases e
theorem fin_new {v : V} {d : D} (s : Step E H ρ F Z H2 ρ2 F2 Z2) (w : W K H2 ρ2 σ F2 Z2) (n : NewD K H2 H3 v d) : ∃ Z3, Step E H ρ F Z H3 ρ2 F2 Z3 ∧ W K H3 ρ2 σ F2 Z3 ∧ VR E K H F H3 ρ2 σ F2 Z3 v d .fresh := by
  obtain ⟨Z3, s3, w3, r3⟩ := w.new n
  exact ⟨Z3, s.seq s3 (fun _ h => h) (fun _ h => nomatch h), w3, (VR.back s r3).more fun j hj => (List.mem_append.mp hj).elim id fun h => nomatch h⟩
theorem fin_pure {v : V} {d : D} {b : Bool} {P : Addr → Prop} (p : pur d = true) (h : Bor K H2 b P v d) : VR E K H F H2 ρ2 σ F2 Z2 v d .fresh := VR.pure p h

/-- arguments, at the end of a step -/
inductive VLB (K : Fr') (H : Hp) (ρ : List Slot) (σ : L2.St) (F : Fa) (Z : Addr → Prop) : List V → Ds → List Addr → Prop
  | nil : VLB K H ρ σ F Z [] [] []
  | cons {v : V} {vs : List V} {d : D} {st : Stat} {ds : Ds} {B C : List Addr} : VB K H ρ σ F Z v d B st → VLB K H ρ σ F Z vs ds C → VLB K H ρ σ F Z (v :: vs) ((d, st) :: ds) (B ++ C)
def VL (E : List Nat) (K : Fr') (H : Hp) (F : Fa) (H' : Hp) (ρ' : List Slot) (σ : L2.St) (F' : Fa) (Z' : Addr → Prop) (vs : List V) (ds : Ds) : Prop :=
  ∃ B, VLB K H' ρ' σ F' Z' vs ds B ∧ Fl E H F F' Z' B
theorem VLB.bor : ∀ {vs : List V} {ds : Ds} {B : List Addr}, VLB K H ρ σ F Z vs ds B → BorL K H true (fun _ => True) vs (ds.map (·.1))
  | _, _, _, .nil => .nil
  | _, _, _, .cons h t => .cons h.bor t.bor
theorem VL.bor {vs : List V} {ds : Ds} (h : VL E K H F H' ρ' σ F' Z' vs ds) : BorL K H' true (fun _ => True) vs (ds.map (·.1)) :=
  let ⟨_, q, _⟩ := h
  q.bor
theorem Fl.two {A B : List Addr} (f : Fl E H F F' Z' A) (g : Fl E H F F' Z' B) (ap : ∀ a ∈ A, a ∉ B) : Fl E H F F' Z' (A ++ B) :=
  ⟨List.nodup_append.mpr ⟨f.nodup, g.nodup, fun a m b q e => ap a m (e ▸ q)⟩, fun a m => (List.mem_append.mp m).elim (f.zed a) (g.zed a), fun a m => (List.mem_append.mp m).elim (f.off a) (g.off a), fun a m => (List.mem_append.mp m).elim (f.new a) (g.new a)⟩
/-- a value, then the other arguments -/
theorem VL.cons {v : V} {d : D} {st : Stat} {vs : List V} {ds : Ds} (h : VR E1 K H F H1 ρ1 σ F1 Z1 v d st) (w : W K H1 ρ1 σ F1 Z1) (s : Step E1 H ρ F Z H1 ρ1 F1 Z1) (t : Step E2 H1 ρ1 F1 Z1 H2 ρ2 F2 Z2) (ok : okSt st E2 = true)
    (k : VL E2 K H1 F1 H2 ρ2 σ F2 Z2 vs ds) : VL (E1 ++ E2) K H F H2 ρ2 σ F2 Z2 (v :: vs) ((d, st) :: ds) := by
  obtain ⟨B, hb, fb⟩ := h
  obtain ⟨C, hc, fc⟩ := k
  refine ⟨B ++ C, .cons (hb.over w fb t ok) hc, Fl.two ((fb.over t hb.tr).more fun j hj => List.mem_append_left _ hj) (fc.back s) (fb.apart fc hb.tr)⟩
end

/-! ### the promise of a def by the calls it stands for -/
def Post (K : Fr') (H : Hp) (A : List Addr) (d : D) (Q : VK) : Prop :=
  ∀ v H' B, (∀ a o, H a = some o → (Lst o → a ∉ A) → H' a = some o) → (∀ a, H a ≠ none → H' a ≠ none) → Own K H' v d B → B.Nodup → (∀ a ∈ B, a ∈ A ∨ H a = none) → Q v H'
def PostR (K : Fr') (H : Hp) (A : List Addr) (v0 : V) (c' : D) (d : D) (Q : VK) : Prop :=
  ∀ v H' B A', (∀ a o, H a = some o → (Lst o → a ∉ A) → H' a = some o) → (∀ a, H a ≠ none → H' a ≠ none) → Own K H' v d B → B.Nodup → (∀ a ∈ B, a ∈ A ∨ H a = none) →
    Own K H' v0 c' A' → A'.Nodup → (∀ a ∈ A', a ∈ A ∨ H a = none) → (∀ a ∈ B, a ∉ A') → Q v H'
def spC (K : Fr') (C : CallF) (f : Nat) : Mode → List V → Hp → VK → Prop
  | .plain, vs, H, Q => ∃ ds d o, BorL K H false (fun _ => True) vs ds ∧ C f none ds = some (d, o) ∧ Post K H [] d Q
  | .scr, vs, H, Q => ∃ v0 ws d0 ds d o, vs = v0 :: ws ∧ Bor K H true (fun _ => True) v0 d0 ∧ BorL K H false (fun _ => True) ws ds ∧ C f none (d0 :: ds) = some (d, o) ∧ Post K H [] d Q
  | .byr, vs, H, Q => ∃ v0 ws c A ds d c', vs = v0 :: ws ∧ Own K H v0 c A ∧ A.Nodup ∧ BorL K H false (fun a => a ∉ A) ws ds ∧ C f (some c) ds = some (d, some c') ∧ PostR K H A v0 c' d Q

/-! ### what is asked of a context -/
/-- the defs may be called by their names, wherever one stands -/
def CallOk (P : Program) (w : World) (K : Fr') (mg : Str → Option Value) (base : Heap) (A : Around) (G : Gx) (C : CallF) : Prop :=
  ∀ f n m mo, G.fns[f]? = some (n, m, mo) → ∀ X : Cx, X.prog = P → X.w = w → X.K = K → X.mg = mg → X.base = base → X.A = A → ∀ (es : List Expr) (t : TA) (p pos : Pos), es.length = m → es ≠ [] → es.all notStar = true → Gl X n → nodun n = true → PA X es t →
    PE X (.Call (.Name n p) es [] pos) (fun σ H Q => t σ H fun vs H1 => spC K C f mo vs H1 Q)
/-- a module's dict with text keys -/
def TabF (K : Fr') (w : World) (mg : Str → Option Value) (x : Str) (kvs : List (Str × D)) : Prop := ∃ d es n, mg x = some (.ref d) ∧ KDict K w d es n ∧ (∀ y, kvs.lookup y = none → PySem.W.nsIn K d y = some none) ∧
  ∀ y dv, kvs.lookup y = some dv → ∃ u v, PySem.W.nsIn K d y = some (some u) ∧ RelV v u ∧ ∀ H, Bor K H false (fun _ => True) v dv
structure Ok (X : Cx) (G : Gx) (S : Sx) (C : CallF) : Prop where
  hN : X.N = S.N
  nd : S.N.Nodup
  calm : X.calm = true
  sc : X.env.scope = S.sc
  kind : S.sc.kind = .function
  sto : ∀ x, locB S.rw x = true → Loc S.sc x ∧ (X.fn x = true ∨ S.sc.names.lookup x = some .local)
  units : X.A.units + 64 < cLine
  guards : X.A.guards = some []
  blt : ∀ x ∈ G.blts, X.mg x = none
  con : ∀ p ∈ G.cons, ∃ u v, X.mg p.1 = some u ∧ RelV v u ∧ ∀ H, Bor X.K H false (fun _ => True) v p.2
  tab : ∀ p ∈ G.tabs, TabF X.K X.w X.mg p.1 p.2
  call : CallOk X.prog X.w X.K X.mg X.base X.A G C
theorem lookup_loc {sc : Scope} {x : Str} (h : locB sc x = true) : sc.names.lookup x = some .local ∨ sc.names.lookup x = some .cell := by
  unfold locB at h
  split at h
  · rename_i e; exact .inl e
  · rename_i e; exact .inr e
  · cases h
/-- a comprehension's block -/
theorem Ok.blk {X : Cx} {G : Gx} {S : Sx} {C : CallF} (ok : Ok X G S C) {scope : Scope} (hk : scope.kind = .function) (s : Shared) (H : Hp) (c : Addr) (cl : List (Str × Addr)) (fp : List Addr) : Ok (X.blk s H scope (compEnvC scope cl c X.env) fp) G (inner S scope) C where
  hN := ok.hN
  nd := ok.nd
  calm := ok.calm
  sc := by
    show relS scope X.env.scope = relS scope S.sc
    rw [ok.sc]
  kind := hk
  sto := fun x h => by
    rcases lookup_loc h with e | e
    · exact ⟨.inl (lookup_relS_keep (by decide) e), .inr (lookup_relS_keep (by decide) e)⟩
    · refine ⟨.inr (lookup_relS_keep (by decide) e), .inl ?_⟩
      have e' : scope.names.lookup x = some .cell := e
      show (scope.names.lookup x == some .cell) = true
      rw [e']
      rfl
  units := ok.units
  guards := ok.guards
  blt := ok.blt
  con := ok.con
  tab := ok.tab
  call := ok.call
section
variable {X : Cx} {G : Gx} {S : Sx} {C : CallF}
theorem visB_ok {sc : Scope} {x : Str} (h : visB sc x = true) : Vis sc x := by
  unfold visB at h
  unfold Vis
  split at h
  · rename_i e; exact .inl e
  · rename_i e; exact .inr (.inl e)
  · rename_i e; exact .inr (.inr e)
  · cases h
theorem glB_ok (ok : Ok X G S C) {x : Str} (h : glB S.sc x = true) : Gl X x := by
  unfold glB at h
  split at h
  · rename_i e
    show X.env.scope.names.lookup x = _
    rw [ok.sc]
    exact e
  · cases h
theorem nodun_ok {x : Str} (h : nodun x = true) : (x == ("__debug__" : Str)) = false ∧ (x == ("__classdict__" : Str)) = false ∧ x ≠ ("__name__" : Str) := by
  unfold nodun at h
  simp only [Bool.and_eq_true, Bool.not_eq_true', decide_eq_false_iff_not] at h
  exact ⟨h.1.1, h.1.2, h.2⟩
theorem _root_.L2.PE.of {e : Expr} {t t' : TE} (h : PE X e t) (k : ∀ σ H Q, t' σ H Q → t σ H Q) : PE X e t' := ⟨fun pins s σ H Q I q => h.run pins s σ H Q I (k σ H Q q)⟩
theorem _root_.L2.PT.of {e : Expr} {t t' : TT} (h : PT X e t) (k : ∀ σ H Q, t' σ H Q → t σ H Q) : PT X e t' := ⟨fun pins s σ H Q I q => h.run pins s σ H Q I (k σ H Q q)⟩
theorem _root_.L2.PW.of {e : Expr} {t t' : TT} (h : PW X e t) (k : ∀ σ H Q, t' σ H Q → t σ H Q) : PW X e t' := ⟨fun whole pins s σ H Q I q => h.run whole pins s σ H Q I (k σ H Q q)⟩
theorem _root_.L2.PA.of {e : List Expr} {t t' : TA} (h : PA X e t) (k : ∀ σ H Q, t' σ H Q → t σ H Q) : PA X e t' := ⟨fun pos pins s σ H Q I q => h.run pos pins s σ H Q I (k σ H Q q)⟩

/-- what an expression does -/
def tE (K : Fr') (C : CallF) (e : IE) : TE := fun σ H Q => ∃ ρ F Z d st ρ', W K H ρ σ F Z ∧ ev C e ρ = some (d, st, ρ') ∧
  ∀ v H' F' Z', Step (effE e) H ρ F Z H' ρ' F' Z' → W K H' ρ' σ F' Z' → VR (effE e) K H F H' ρ' σ F' Z' v d st → Q v H'
def tTt (K : Fr') (C : CallF) (t : IT) : TT := fun σ H Q => ∃ ρ F Z k ρ', W K H ρ σ F Z ∧ evT C t ρ = some (k, ρ') ∧
  ∀ H' F' Z', Step (effT t) H ρ F Z H' ρ' F' Z' → W K H' ρ' σ F' Z' → Q k H'
def tAs (K : Fr') (C : CallF) (es : IEs) : TA := fun σ H Q => ∃ ρ F Z ds ρ', W K H ρ σ F Z ∧ evs C es ρ = some (ds, ρ') ∧
  ∀ vs H' F' Z', Step (effs es) H ρ F Z H' ρ' F' Z' → W K H' ρ' σ F' Z' → VL (effs es) K H F H' ρ' σ F' Z' vs ds → Q vs H'
def tOs (K : Fr') (C : CallF) (o : IO) : TO := fun σ H Q => ∃ ρ F Z i ρ', W K H ρ σ F Z ∧ evO C o ρ = some (i, ρ') ∧
  ∀ H' F' Z', Step (effO o) H ρ F Z H' ρ' F' Z' → W K H' ρ' σ F' Z' → Q i H'

/-! ### names and constants -/
theorem se_const {x : IE} {e : Expr} {v : V} {d : D} (h : PE X e (tC v)) (hev : ∀ ρ, ev C x ρ = some (d, .fresh, ρ)) (p : pur d = true) (hb : ∀ H, Bor X.K H false (fun _ => True) v d) : PE X e (tE X.K C x) :=
  h.of fun σ H Q ⟨ρ, F, Z, d', st, ρ', w, he, k⟩ => by
    rw [hev] at he
    cases he
    exact k v H F Z .refl w (fin_pure p (hb H))
theorem SR.val {K : Fr'} {H : Hp} {F : Fa} {Z : Addr → Prop} {i : Nat} {ov : Option (Option V)} {s : Slot} (h : SR K H F Z i ov s) (n : s ≠ .emp) : ∃ v, ov = some (some v) := by
  cases s with
  | emp => exact absurd rfl n
  | pur d => obtain ⟨_, _, v, e, _⟩ := h; exact ⟨v, e⟩
  | own d => obtain ⟨v, e, _⟩ := h; exact ⟨v, e⟩
  | byr d => obtain ⟨v, e, _⟩ := h; exact ⟨v, e⟩
  | bor d => obtain ⟨_, v, e, _⟩ := h; exact ⟨v, e⟩
  | scr d => obtain ⟨_, v, e, _⟩ := h; exact ⟨v, e⟩
theorem se_var (ok : Ok X G S C) {i : Nat} {x : Str} {p : Pos} (h : nameB S i x = true) : PE X (.Name x p) (tE X.K C (.var i)) := by
  unfold nameB at h
  simp only [Bool.and_eq_true, decide_eq_true_eq] at h
  obtain ⟨h1, h2, _⟩ := nodun_ok h.2
  refine (pe_var (i := i) (by rw [ok.hN]; exact h.1.1) (by rw [ok.sc]; exact visB_ok h.1.2) h1 h2).of fun σ H Q ⟨ρ, F, Z, d, st, ρ', w, he, k⟩ => ?_
  simp only [ev, gv] at he
  cases e : ρ[i]? with
  | none =>
    rw [e] at he
    cases he
  | some s =>
    rw [e] at he
    have hs := w.slot i s e
    cases s with
    | emp => cases he
    | pur d =>
      cases he
      obtain ⟨h0, hp, v, ev, hb⟩ := hs
      exact ⟨v, ev, k v H F Z .refl w (fin_pure hp hb)⟩
    | own d =>
      cases he
      obtain ⟨v, ev, ho⟩ := hs
      exact ⟨v, ev, k v H F Z .refl w ⟨[], ⟨rfl, ho.bor fun a m => .inl m⟩, Fl.nil⟩⟩
    | byr d =>
      cases he
      obtain ⟨v, ev, ho⟩ := hs
      exact ⟨v, ev, k v H F Z .refl w ⟨[], ⟨rfl, ho.bor fun a m => .inl m⟩, Fl.nil⟩⟩
    | bor d =>
      cases he
      obtain ⟨h0, v, ev, hb⟩ := hs
      exact ⟨v, ev, k v H F Z .refl w ⟨[], ⟨rfl, hb⟩, Fl.nil⟩⟩
    | scr d =>
      cases he
      obtain ⟨h0, v, ev, hb⟩ := hs
      exact ⟨v, ev, k v H F Z .refl w ⟨[], ⟨rfl, hb⟩, Fl.nil⟩⟩
theorem se_mov (ok : Ok X G S C) {i : Nat} {x : Str} {p : Pos} (h : nameB S i x = true) : PE X (.Name x p) (tE X.K C (.mov i)) := by
  unfold nameB at h
  simp only [Bool.and_eq_true, decide_eq_true_eq] at h
  obtain ⟨h1, h2, _⟩ := nodun_ok h.2
  refine (pe_var (i := i) (by rw [ok.hN]; exact h.1.1) (by rw [ok.sc]; exact visB_ok h.1.2) h1 h2).of fun σ H Q ⟨ρ, F, Z, d, st, ρ', w, he, k⟩ => ?_
  simp only [ev] at he
  cases e : ρ[i]? with
  | none =>
    rw [e] at he
    cases he
  | some s =>
    rw [e] at he
    have hs := w.slot i s e
    cases s with
    | emp => cases he
    | byr d => cases he
    | pur d =>
      cases he
      obtain ⟨h0, hp, v, ev, hb⟩ := hs
      exact ⟨v, ev, k v H F Z .refl w (fin_pure hp hb)⟩
    | own d =>
      cases he
      obtain ⟨v, ev, ho⟩ := hs
      exact ⟨v, ev, k v H F Z .refl w ⟨[], ⟨rfl, e, ev, ho⟩, Fl.nil⟩⟩
    | bor d =>
      cases he
      obtain ⟨h0, v, ev, hb⟩ := hs
      exact ⟨v, ev, k v H F Z .refl w ⟨[], ⟨rfl, hb⟩, Fl.nil⟩⟩
    | scr d =>
      cases he
      obtain ⟨h0, v, ev, hb⟩ := hs
      exact ⟨v, ev, k v H F Z .refl w ⟨[], ⟨rfl, hb⟩, Fl.nil⟩⟩
end
end Zr

set_option maxRecDepth 100000
set_option maxHeartbeats 8000000
/-! ZrG: the rules for expressions, one a construct. -/
namespace Zr
open PySem PySem.Spec PyProof.Rows L2
section
variable {X : Cx} {G : Gx} {S : Sx} {C : CallF}

theorem ml {α : Type} {a : α} {A B : List α} (h : a ∈ A) : a ∈ A ++ B := List.mem_append_left _ h
theorem mr {α : Type} {a : α} {A B : List α} (h : a ∈ B) : a ∈ A ++ B := List.mem_append_right _ h
theorem VR.app {K : Fr'} {H H' H1 : Hp} {ρ ρ' ρ1 : List Slot} {σ : L2.St} {F F' F1 : Fa} {Z Z' Z1 : Addr → Prop} {E1 E2 E : List Nat} {v : V} {d : D} {st : Stat} (s : Step E1 H ρ F Z H1 ρ1 F1 Z1) (h : VR E2 K H1 F1 H' ρ' σ F' Z' v d st)
    (h1 : ∀ j ∈ E1, j ∈ E) (h2 : ∀ j ∈ E2, j ∈ E) : VR E K H F H' ρ' σ F' Z' v d st := (VR.back s h).more fun j hj => (List.mem_append.mp hj).elim (h1 j) (h2 j)

theorem se_bin {op : Operator} {a b : IE} {l r : Expr} {p : Pos} (ha : PE X l (tE X.K C a)) (hb : PE X r (tE X.K C b)) : PE X (.BinOp l op r p) (tE X.K C (.bin op a b)) := by
  refine (pe_op (op_bin op) ha hb).of fun σ H Q ⟨ρ, F, Z, d, st, ρ', w, he, k⟩ => ?_
  simp only [ev] at he
  split at he
  · rename_i x sx ρ1 ea
    split at he
    · rename_i y sy ρ2 eb
      split at he
      · rename_i c
        simp only [Bool.and_eq_true] at c
        split at he
        · rename_i d' ed
          cases he
          refine ⟨ρ, F, Z, x, sx, ρ1, w, ea, fun v H1 F1 Z1 s1 w1 r1 => ⟨ρ1, F1, Z1, y, sy, _, w1, eb, fun u H2 F2 Z2 s2 w2 r2 => ⟨x, y, d, (r1.over w1 s2 c.1.1).borX c.1.2, r2.borX c.2, ed, fun z H3 nd => ?_⟩⟩⟩
          obtain ⟨Z3, s3, w3, r3⟩ := fin_new (s1.seq s2 (fun _ => ml) (fun _ => mr)) w2 nd
          exact k z H3 F2 Z3 s3 w3 r3
        · cases he
      · cases he
    · cases he
  · cases he
theorem se_neg {a : IE} {l : Expr} {p : Pos} (ha : PE X l (tE X.K C a)) : PE X (.UnaryOp .USub l p) (tE X.K C (.neg a)) := by
  refine (pe_un un_neg ha).of fun σ H Q ⟨ρ, F, Z, d, st, ρ', w, he, k⟩ => ?_
  simp only [ev] at he
  split at he
  · rename_i i sx ρ1 ea
    cases he
    refine ⟨ρ, F, Z, _, sx, _, w, ea, fun v H1 F1 Z1 s1 w1 r1 => ⟨i, r1.bor.int', ?_⟩⟩
    exact k _ H1 F1 Z1 s1 w1 (fin_pure (b := true) (P := fun _ => True) rfl (.int _))
  · cases he
theorem se_cmp (ok : Ok X G S C) {op : CmpOp} {a b : IE} {l r : Expr} {p : Pos} (hm : behindInMarks op r = false) (ha : PE X l (tE X.K C a)) (hb : PE X r (tE X.K C b)) : PE X (.Compare l [op] [r] p) (tE X.K C (.cmp op a b)) := by
  refine (pe_cmpR (op_cmp ok.units op) ha hb hm).of fun σ H Q ⟨ρ, F, Z, d, st, ρ', w, he, k⟩ => ?_
  simp only [ev] at he
  split at he
  · rename_i x sx ρ1 ea
    split at he
    · rename_i y sy ρ2 eb
      split at he
      · rename_i c
        split at he
        · rename_i q ed
          cases he
          refine ⟨ρ, F, Z, x, sx, ρ1, w, ea, fun v H1 F1 Z1 s1 w1 r1 => ⟨ρ1, F1, Z1, y, sy, _, w1, eb, fun u H2 F2 Z2 s2 w2 r2 => ⟨x, y, q, (r1.over w1 s2 c).bor, r2.bor, ed, ?_⟩⟩⟩
          exact k _ H2 F2 Z2 (s1.seq s2 (fun _ => ml) (fun _ => mr)) w2 (fin_pure (b := true) (P := fun _ => True) rfl (.bl _))
        · cases he
      · cases he
    · cases he
  · cases he
theorem st_cmp (ok : Ok X G S C) {op : CmpOp} {a b : IE} {l r : Expr} {p : Pos} (hm : behindInMarks op r = false) (ha : PE X l (tE X.K C a)) (hb : PE X r (tE X.K C b)) : PT X (.Compare l [op] [r] p) (tTt X.K C (.cmp (.cmp op a b))) := by
  refine (pt_cmpR (op_cmp ok.units op) ha hb hm).of fun σ H Q ⟨ρ, F, Z, q0, ρ', w, he, k⟩ => ?_
  simp only [evT] at he
  split at he
  · rename_i q1 s1 ρ1 he1
    cases he
    simp only [ev] at he1
    split at he1
    · rename_i x sx ρ1 ea
      split at he1
      · rename_i y sy ρ2 eb
        split at he1
        · rename_i c
          split at he1
          · rename_i q ed
            cases he1
            refine ⟨ρ, F, Z, x, sx, ρ1, w, ea, fun v H1 F1 Z1 s1 w1 r1 => ⟨ρ1, F1, Z1, y, sy, _, w1, eb, fun u H2 F2 Z2 s2 w2 r2 => ⟨x, y, _, (r1.over w1 s2 c).bor, r2.bor, ed, _, rfl, ?_⟩⟩⟩
            exact k H2 F2 Z2 (s1.seq s2 (fun _ => ml) (fun _ => mr)) w2
          · cases he1
        · cases he1
      · cases he1
    · cases he1
  · cases he
theorem se_andV {a b : IE} {x y : Expr} {r : List Expr} {p : Pos} (ha : PE X x (tE X.K C a)) (hb : PE X (.BoolOp .And (y :: r) p) (tE X.K C b)) : PE X (.BoolOp .And (x :: y :: r) p) (tE X.K C (.andV a b)) := by
  refine (pe_andT ha hb).of fun σ H Q ⟨ρ, F, Z, d, st, ρ', w, he, k⟩ => ?_
  simp only [ev] at he
  split at he
  · rename_i x' sx ρ1 ea
    split at he
    · rename_i ek
      refine ⟨ρ, F, Z, x', sx, ρ1, w, ea, fun v H1 F1 Z1 s1 w1 r1 => ⟨true, truD_V r1.bor ek, ?_⟩⟩
      rw [if_pos rfl]
      exact ⟨ρ1, F1, Z1, d, st, ρ', w1, he, fun u H2 F2 Z2 s2 w2 r2 => k u H2 F2 Z2 (s1.seq s2 (fun _ => ml) (fun _ => mr)) w2 (VR.back s1 r2)⟩
    · rename_i ek
      cases he
      refine ⟨ρ, F, Z, _, _, _, w, ea, fun v H1 F1 Z1 s1 w1 r1 => ⟨false, truD_V r1.bor ek, ?_⟩⟩
      rw [if_neg (by decide)]
      exact k v H1 F1 Z1 (s1.more fun _ => ml) w1 (r1.more fun _ => ml)
    · cases he
  · cases he
theorem se_orV {a b : IE} {x y : Expr} {r : List Expr} {p : Pos} (ha : PE X x (tE X.K C a)) (hb : PE X (.BoolOp .Or (y :: r) p) (tE X.K C b)) : PE X (.BoolOp .Or (x :: y :: r) p) (tE X.K C (.orV a b)) := by
  refine (pe_orT ha hb).of fun σ H Q ⟨ρ, F, Z, d, st, ρ', w, he, k⟩ => ?_
  simp only [ev] at he
  split at he
  · rename_i x' sx ρ1 ea
    split at he
    · rename_i ek
      cases he
      refine ⟨ρ, F, Z, _, _, _, w, ea, fun v H1 F1 Z1 s1 w1 r1 => ⟨true, truD_V r1.bor ek, ?_⟩⟩
      rw [if_pos rfl]
      exact k v H1 F1 Z1 (s1.more fun _ => ml) w1 (r1.more fun _ => ml)
    · rename_i ek
      refine ⟨ρ, F, Z, x', sx, ρ1, w, ea, fun v H1 F1 Z1 s1 w1 r1 => ⟨false, truD_V r1.bor ek, ?_⟩⟩
      rw [if_neg (by decide)]
      exact ⟨ρ1, F1, Z1, d, st, ρ', w1, he, fun u H2 F2 Z2 s2 w2 r2 => k u H2 F2 Z2 (s1.seq s2 (fun _ => ml) (fun _ => mr)) w2 (VR.back s1 r2)⟩
    · cases he
  · cases he
theorem se_oneV {op : BoolOp} {a : IE} {x : Expr} {p : Pos} (ha : PE X x (tE X.K C a)) : PE X (.BoolOp op [x] p) (tE X.K C (.oneV a)) :=
  (pe_one ha).of fun σ H Q ⟨ρ, F, Z, d, st, ρ', w, he, k⟩ => ⟨ρ, F, Z, d, st, ρ', w, by simpa only [ev] using he, k⟩
theorem se_notV {a : IE} {l : Expr} {p : Pos} (ha : PE X l (tE X.K C a)) : PE X (.UnaryOp .Not l p) (tE X.K C (.notV a)) := by
  refine (pe_notT ha).of fun σ H Q ⟨ρ, F, Z, d, st, ρ', w, he, k⟩ => ?_
  simp only [ev] at he
  split at he
  · rename_i x sx ρ1 ea
    split at he
    · rename_i q ek
      cases he
      exact ⟨ρ, F, Z, _, sx, _, w, ea, fun v H1 F1 Z1 s1 w1 r1 => ⟨q, truD_V r1.bor ek, k _ H1 F1 Z1 s1 w1 (fin_pure (b := true) (P := fun _ => True) rfl (.bl _))⟩⟩
    · cases he
  · cases he
theorem se_ite {t : IT} {a b : IE} {c x y : Expr} {p : Pos} (ht : PT X c (tTt X.K C t)) (ha : PE X x (tE X.K C a)) (hb : PE X y (tE X.K C b)) : PE X (.IfExp c x y p) (tE X.K C (.ite t a b)) := by
  refine (pe_ifExp ht ha hb).of fun σ H Q ⟨ρ, F, Z, d, st, ρ', w, he, k⟩ => ?_
  simp only [ev] at he
  split at he
  · rename_i q ρ1 et
    refine ⟨ρ, F, Z, q, ρ1, w, et, fun H1 F1 Z1 s1 w1 => ?_⟩
    cases q with
    | true =>
      rw [if_pos rfl] at he ⊢
      exact ⟨ρ1, F1, Z1, d, st, ρ', w1, he, fun u H2 F2 Z2 s2 w2 r2 => k u H2 F2 Z2 (s1.seq s2 (fun _ => ml) (fun _ h => mr (ml h))) w2 (VR.app s1 r2 (fun _ => ml) (fun _ h => mr (ml h)))⟩
    | false =>
      rw [if_neg (by decide)] at he ⊢
      exact ⟨ρ1, F1, Z1, d, st, ρ', w1, he, fun u H2 F2 Z2 s2 w2 r2 => k u H2 F2 Z2 (s1.seq s2 (fun _ => ml) (fun _ h => mr (mr h))) w2 (VR.app s1 r2 (fun _ => ml) (fun _ h => mr (mr h)))⟩
  · cases he
theorem se_ix {a b : IE} {l r : Expr} {p : Pos} (hs : PlainIx r) (ha : PE X l (tE X.K C a)) (hb : PE X r (tE X.K C b)) : PE X (.Subscript l r p) (tE X.K C (.ix a b)) := by
  refine (pe_ix ix_data ha hb hs).of fun σ H Q ⟨ρ, F, Z, d, st, ρ', w, he, k⟩ => ?_
  simp only [ev] at he
  split at he
  · rename_i x sx ρ1 ea
    split at he
    · rename_i y sy ρ2 eb
      split at he
      · rename_i c
        split at he
        · rename_i d' ed
          refine ⟨ρ, F, Z, x, sx, ρ1, w, ea, fun v H1 F1 Z1 s1 w1 r1 => ⟨ρ1, F1, Z1, y, sy, ρ2, w1, eb, fun u H2 F2 Z2 s2 w2 r2 => ?_⟩⟩
          have r1' := r1.over w1 s2 c
          refine ⟨x, y, d', r1'.bor, r2.bor, ed, fun z hz ho => ?_⟩
          have S2 := s1.seq s2 (E := effE (.ix a b)) (fun _ => ml) (fun _ => mr)
          by_cases hp : pur d' = true
          · rw [if_pos hp] at he
            cases he
            exact k z H2 F2 Z2 S2 w2 (fin_pure hp (hz _ _ r1'.bor))
          · rw [if_neg hp] at he
            obtain ⟨B, q, f⟩ := r1'
            cases sx with
            | fresh =>
              cases he
              obtain ⟨B', sb, o⟩ := ho B q
              refine k z H2 F2 Z2 S2 w2 ⟨B', o, ?_⟩
              have f' : Fl (effE (.ix a b)) H F F2 Z2 B := f.more fun j m => ml m
              exact ⟨f'.nodup.sublist sb, fun a m => f'.zed a (sb.subset m), fun a m => f'.off a (sb.subset m), fun a m => f'.new a (sb.subset m)⟩
            | froz =>
              cases he
              exact k z H2 F2 Z2 S2 w2 ⟨[], ⟨rfl, hz _ _ q.2⟩, Fl.nil⟩
            | scr =>
              cases he
              exact k z H2 F2 Z2 S2 w2 ⟨[], ⟨rfl, hz _ _ q.2⟩, Fl.nil⟩
            | loan i =>
              cases he
              exact k z H2 F2 Z2 S2 w2 ⟨[], ⟨rfl, hz _ _ q.2⟩, Fl.nil⟩
            | take i => cases he
        · cases he
      · cases he
    · cases he
  · cases he
theorem se_sl {a : IE} {lo hi : IO} {l : Expr} {lo' hi' : Option Expr} {p p2 : Pos} (ha : PE X l (tE X.K C a)) (hl : PO X lo' (tOs X.K C lo)) (hh : PO X hi' (tOs X.K C hi)) : PE X (.Subscript l (.Slice lo' hi' none p2) p) (tE X.K C (.sl a lo hi)) := by
  refine (pe_slice sl_data ha hl hh).of fun σ H Q ⟨ρ, F, Z, d, st, ρ', w, he, k⟩ => ?_
  simp only [ev] at he
  split at he
  · rename_i x sx ρ1 ea
    split at he
    · rename_i i ρ2 eb
      split at he
      · rename_i j ρ3 ec
        split at he
        · rename_i c
          split at he
          · rename_i d' ed
            cases he
            refine ⟨ρ, F, Z, x, sx, ρ1, w, ea, fun v H1 F1 Z1 s1 w1 r1 => ⟨ρ1, F1, Z1, i, ρ2, w1, eb, fun H2 F2 Z2 s2 w2 => ⟨ρ2, F2, Z2, j, _, w2, ec, fun H3 F3 Z3 s3 w3 => ⟨x, _, (r1.over w1 (s2.trans s3) c).bor, ed, fun z H4 nd => ?_⟩⟩⟩⟩
            obtain ⟨Z4, s4, w4, r4⟩ := fin_new (s1.seq (s2.trans s3) (E := effE (.sl a lo hi)) (fun _ => ml) (fun _ => mr)) w3 nd
            exact k z H4 F3 Z4 s4 w4 r4
          · cases he
        · cases he
      · cases he
    · cases he
  · cases he
/-! ### argument lists -/
theorem sa_nil : PA X [] (tAs X.K C .nil) := pa_nil.of fun σ H Q ⟨ρ, F, Z, ds, ρ', w, he, k⟩ => by
  simp only [evs] at he
  cases he
  exact k [] H F Z .refl w ⟨[], .nil, Fl.nil⟩
theorem star_of {e : Expr} {es : List Expr} {env : Env} (h : notStar e = true) : starEach (e :: es) env = (false, eval e env) :: starEach es env := by
  cases e <;> first | rfl | cases h
theorem sa_cons {e : IE} {es : IEs} {x : Expr} {xs : List Expr} (hs : notStar x = true) (ha : PE X x (tE X.K C e)) (hb : PA X xs (tAs X.K C es)) : PA X (x :: xs) (tAs X.K C (.cons e es)) := by
  refine (pa_cons ha hb (star_of hs)).of fun σ H Q ⟨ρ, F, Z, ds, ρ', w, he, k⟩ => ?_
  simp only [evs] at he
  split at he
  · rename_i d s ρ1 ea
    split at he
    · rename_i ds' ρ2 eb
      split at he
      · rename_i c
        cases he
        exact ⟨ρ, F, Z, d, s, ρ1, w, ea, fun v H1 F1 Z1 s1 w1 r1 => ⟨ρ1, F1, Z1, ds', _, w1, eb, fun vs H2 F2 Z2 s2 w2 r2 => k (v :: vs) H2 F2 Z2 (s1.seq s2 (fun _ => ml) (fun _ => mr)) w2 (VL.cons r1 w1 s1 s2 c r2)⟩⟩
      · cases he
    · cases he
  · cases he
theorem so_none : PO X none (tOs X.K C .none) := by
  refine ⟨fun pins s σ H Q I h => (po_none (X := X)).run pins s σ H Q I ?_⟩
  obtain ⟨ρ, F, Z, i, ρ', w, he, k⟩ := h
  simp only [evO] at he
  cases he
  exact k H F Z .refl w
theorem so_some {e : IE} {x : Expr} (ha : PE X x (tE X.K C e)) : PO X (some x) (tOs X.K C (.some e)) := by
  refine ⟨fun pins s σ H Q I h => (po_some ha).run pins s σ H Q I ?_⟩
  obtain ⟨ρ, F, Z, i, ρ', w, he, k⟩ := h
  simp only [evO] at he
  split at he
  · rename_i j s' ρ1 ea
    cases he
    exact ⟨ρ, F, Z, _, s', _, w, ea, fun v H1 F1 Z1 s1 w1 r1 => ⟨j, r1.bor.int', k H1 F1 Z1 s1 w1⟩⟩
  · cases he
/-! ### calls of built-ins -/
theorem pl_of : ∀ {es : List Expr} {env : Env} {pos : Pos}, es.all notStar = true → (backTo pos (starEach es env)).any (·.1) = false
  | [], _, _, _ => by
    first | rfl | simp [backTo, starEach]
  | e :: es, env, pos, h => by
    simp only [List.all_cons, Bool.and_eq_true] at h
    rw [star_of h.1]
    have ih := @pl_of es env pos h.2
    first | exact ih | simpa [backTo] using ih
theorem se_bi (ok : Ok X G S C) {b : Bi} {es : IEs} {f : Str} {x : Expr} {xs : List Expr} {p pos : Pos} (hf : f = bn b) (hb : bltB G S f = true) (ht : (x :: xs).all notStar = true) (ha : PA X (x :: xs) (tAs X.K C es)) :
    PE X (.Call (.Name f p) (x :: xs) [] pos) (tE X.K C (.bcall b es)) := by
  unfold bltB gloB at hb
  simp only [Bool.and_eq_true] at hb
  obtain ⟨⟨h1, h2⟩, h3⟩ := hb
  obtain ⟨n1, n2, n3⟩ := nodun_ok h2
  have hg : Gl X f := glB_ok ok h1
  have hm : X.mg f = none := ok.blt f (by simpa using h3)
  have hx : notStar x = true ∧ xs.all notStar = true := by simpa using ht
  have base : PE X (.Call (.Name f p) (x :: xs) [] pos) (tCB (rBi X.K b) (tAs X.K C es)) := by
    subst hf
    have hc := call_bi ok.calm ok.guards ok.units b
    have hv := bn_boot b
    cases b <;> first
      | exact pe_callB hc hg hm hv ha n3 n1 (star_of hx.1) (pl_of hx.2)
      | exact pe_callTy hc hg hm hv ha n3 n1 (star_of hx.1) (pl_of hx.2)
  refine base.of fun σ H Q ⟨ρ, F, Z, d, st, ρ', w, he, k⟩ => ?_
  simp only [ev] at he
  split at he
  · rename_i ds ρ1 ea
    split at he
    · rename_i d' ed
      cases he
      refine ⟨ρ, F, Z, ds, _, w, ea, fun vs H1 F1 Z1 s1 w1 r1 => ⟨_, _, r1.bor, ed, fun z H2 nd => ?_⟩⟩
      obtain ⟨Z2, s2, w2, r2⟩ := fin_new s1 w1 nd
      exact k z H2 F1 Z2 s2 w2 r2
    · cases he
  · cases he
end
end Zr

set_option maxRecDepth 100000
set_option maxHeartbeats 8000000
/-! ZrH: values taken; displays; calls of defs. -/
namespace Zr
open PySem PySem.Spec PyProof.Rows L2
section
variable {K : Fr'} {H H' H1 H2 H3 : Hp} {ρ ρ' ρ1 ρ2 : List Slot} {σ σ' : L2.St} {F F' F1 F2 : Fa} {Z Z' Z1 Z2 : Addr → Prop} {E E1 E2 : List Nat}

/-- owned addresses that lie in no slot -/
structure Off (F : Fa) (Z : Addr → Prop) (B : List Addr) : Prop where
  nodup : B.Nodup
  zed : ∀ a ∈ B, Z a
  off : ∀ a ∈ B, ∀ j, a ∉ F j
theorem Fl.toOff {B : List Addr} (f : Fl E H F F' Z' B) : Off F' Z' B := ⟨f.nodup, f.zed, f.off⟩
theorem Off.fl {B : List Addr} (o : Off F' Z' B) (n : ∀ a ∈ B, (∃ i ∈ E, a ∈ F i) ∨ H a = none) : Fl E H F F' Z' B := ⟨o.nodup, o.zed, o.off, n⟩
def tkS : Stat → List Nat
  | .take i => [i]
  | _ => []
def tkL : Ds → List Nat
  | [] => []
  | (_, s) :: r => tkS s ++ tkL r
theorem get_set_self {α : Type} {l : List α} {i : Nat} {x y : α} (h : l[i]? = some y) : (l.set i x)[i]? = some x := by
  rw [List.getElem?_set_self (List.getElem?_eq_some_iff.mp h).1]
theorem get_set_ne {α : Type} {l : List α} {i j : Nat} {x : α} (h : j ≠ i) : (l.set i x)[j]? = l[j]? := by
  rw [List.getElem?_set_ne (Ne.symm h)]

/-- a slot is emptied -/
theorem W.empty {i : Nat} {d : D} (w : W K H ρ σ F Z) (e : ρ[i]? = some (.own d)) : W K H (ρ.set i .emp) σ (fset F i []) Z ∧ Step [i] H ρ F Z H (ρ.set i .emp) (fset F i []) Z ∧ Off (fset F i []) Z (F i) := by
  have sub : ∀ j a, a ∈ fset F i [] j → a ∈ F j ∧ j ≠ i := fun j a m => by
    by_cases hj : j = i
    · subst hj
      rw [fset_same] at m
      cases m
    · rw [fset_ne hj] at m
      exact ⟨m, hj⟩
  refine ⟨⟨by rw [List.length_set]; exact w.len, fun j hj => ?_, fun j s q => ?_, fun j => ?_, fun j k a n m q => ?_, fun j a m => w.zed j a (sub j a m).1⟩,
    ⟨fun _ _ q _ => q, fun _ q => q, fun j hj => ?_, fun j a m => .inl (sub j a m).1, fun _ z => .inl z, fun _ z _ => .inl z⟩, w.nodup i, w.zed i, fun a m j q => ?_⟩
  · by_cases h : j = i
    · rw [h, fset_same]
    · rw [fset_ne h]
      exact w.out j (by rwa [List.length_set] at hj)
  · by_cases h : j = i
    · subst h
      rw [get_set_self e] at q
      cases q
      exact fset_same
    · rw [get_set_ne h] at q
      exact (w.slot j s q).keep (fset_ne h) (fun _ _ e _ => e) fun _ z _ => z
  · by_cases h : j = i
    · rw [h, fset_same]
      exact List.nodup_nil
    · rw [fset_ne h]
      exact w.nodup j
  · exact w.disj j k a n (sub j a m).1 (sub k a q).1
  · have h : j ≠ i := fun q => hj (by simp [q])
    exact ⟨get_set_ne h, fset_ne h⟩
  · obtain ⟨q, n⟩ := sub j a q
    exact w.disj i j a (Ne.symm n) m q

/-- a value as it stands while others are taken -/
def VC (K : Fr') (H : Hp) (ρ : List Slot) (σ : L2.St) (F : Fa) (v : V) (d : D) (B : List Addr) : Stat → Prop
  | .fresh => Own K H v d B
  | .take i => B = [] ∧ ∀ d', ρ[i]? = some (.own d') → d' = d ∧ σ[i]? = some (some v) ∧ Own K H v d (F i)
  | _ => B = [] ∧ (pur d = true → Own K H v d [])
theorem VB.vc {v : V} {d : D} {st : Stat} {B : List Addr} (h : VB K H ρ σ F Z v d B st) : VC K H ρ σ F v d B st := by
  cases st with
  | fresh => exact h
  | froz => exact ⟨h.1, fun p => h.2.own p⟩
  | scr => exact ⟨h.1, fun p => h.2.own p⟩
  | loan i => exact ⟨h.1, fun p => h.2.own p⟩
  | take i =>
    refine ⟨h.1, fun d' e => ?_⟩
    rw [h.2.1] at e
    cases e
    exact ⟨rfl, h.2.2.1, h.2.2.2⟩
inductive VCs (K : Fr') (H : Hp) (ρ : List Slot) (σ : L2.St) (F : Fa) : List V → Ds → List Addr → Prop
  | nil : VCs K H ρ σ F [] [] []
  | cons {v : V} {vs : List V} {d : D} {st : Stat} {ds : Ds} {B C : List Addr} : VC K H ρ σ F v d B st → VCs K H ρ σ F vs ds C → VCs K H ρ σ F (v :: vs) ((d, st) :: ds) (B ++ C)
theorem VLB.vc : ∀ {vs : List V} {ds : Ds} {B : List Addr}, VLB K H ρ σ F Z vs ds B → VCs K H ρ σ F vs ds B
  | _, _, _, .nil => .nil
  | _, _, _, .cons h t => .cons h.vc t.vc
theorem VC.emptied {i : Nat} {v : V} {d c : D} {st : Stat} {B : List Addr} (e : ρ[i]? = some (.own c)) (h : VC K H ρ σ F v d B st) : VC K H (ρ.set i .emp) σ (fset F i []) v d B st := by
  cases st with
  | take j =>
    refine ⟨h.1, fun d' q => ?_⟩
    by_cases hj : j = i
    · subst hj
      rw [get_set_self e] at q
      cases q
    · rw [get_set_ne hj] at q
      rw [fset_ne hj]
      exact h.2 d' q
  | fresh => exact h
  | froz => exact h
  | scr => exact h
  | loan i => exact h
theorem VCs.emptied {i : Nat} {c : D} (e : ρ[i]? = some (.own c)) : ∀ {vs : List V} {ds : Ds} {B : List Addr}, VCs K H ρ σ F vs ds B → VCs K H (ρ.set i .emp) σ (fset F i []) vs ds B
  | _, _, _, .nil => .nil
  | _, _, _, .cons h t => .cons (h.emptied e) (t.emptied e)
theorem Off.emptied {i : Nat} {B : List Addr} (o : Off F Z B) : Off (fset F i []) Z B := ⟨o.nodup, o.zed, fun a m j q => by
  by_cases hj : j = i
  · rw [hj, fset_same] at q
    cases q
  · rw [fset_ne hj] at q
    exact o.off a m j q⟩
/-- one value is taken -/
theorem settle_ok {v : V} {d : D} {st : Stat} {B : List Addr} (w : W K H ρ σ F Z) (h : VC K H ρ σ F v d B st) (o : Off F Z B) (e : settle d st ρ = some ρ1) :
    ∃ F1 B1, W K H ρ1 σ F1 Z ∧ Step (tkS st) H ρ F Z H ρ1 F1 Z ∧ Own K H v d B1 ∧ Off F1 Z B1 ∧ (∀ a ∈ B1, a ∈ B ∨ ∃ i ∈ tkS st, a ∈ F i) ∧ (∀ i ∈ tkS st, ∃ c, ρ[i]? = some (.own c) ∧ ρ1 = ρ.set i .emp ∧ F1 = fset F i []) ∧ (tkS st = [] → ρ1 = ρ ∧ F1 = F) := by
  unfold settle at e
  cases st with
  | fresh =>
    cases e
    exact ⟨F, B, w, .refl, h, o, fun a m => .inl m, fun i m => (nomatch m), fun _ => ⟨rfl, rfl⟩⟩
  | take i =>
    simp only at e
    split at e
    · rename_i c q
      cases e
      obtain ⟨w1, s1, o1⟩ := w.empty q
      obtain ⟨e1, e2, e3⟩ := h.2 c q
      exact ⟨_, F i, w1, s1, e3, o1, fun a m => .inr ⟨i, by simp [tkS], m⟩, fun j m => ⟨c, by simp [tkS] at m; rw [m]; exact ⟨q, rfl, rfl⟩⟩, fun z => by simp [tkS] at z⟩
    · cases e
  | froz =>
    obtain ⟨p, e⟩ := ifs e
    subst e
    exact ⟨F, [], w, .refl, h.2 p, ⟨List.nodup_nil, fun _ m => (nomatch m), fun _ m => (nomatch m)⟩, fun a m => (nomatch m), fun i m => (nomatch m), fun _ => ⟨rfl, rfl⟩⟩
  | scr =>
    obtain ⟨p, e⟩ := ifs e
    subst e
    exact ⟨F, [], w, .refl, h.2 p, ⟨List.nodup_nil, fun _ m => (nomatch m), fun _ m => (nomatch m)⟩, fun a m => (nomatch m), fun i m => (nomatch m), fun _ => ⟨rfl, rfl⟩⟩
  | loan i =>
    obtain ⟨p, e⟩ := ifs e
    subst e
    exact ⟨F, [], w, .refl, h.2 p, ⟨List.nodup_nil, fun _ m => (nomatch m), fun _ m => (nomatch m)⟩, fun a m => (nomatch m), fun i m => (nomatch m), fun _ => ⟨rfl, rfl⟩⟩
theorem VCs.settled {st : Stat} (hd : ∀ i ∈ tkS st, ∃ c, ρ[i]? = some (.own c) ∧ ρ1 = ρ.set i .emp ∧ F1 = fset F i []) (h0 : tkS st = [] → ρ1 = ρ ∧ F1 = F) {vs : List V} {ds : Ds} {B : List Addr} (h : VCs K H ρ σ F vs ds B) : VCs K H ρ1 σ F1 vs ds B := by
  cases st with
  | take i =>
    obtain ⟨c, q, e1, e2⟩ := hd i (by simp [tkS])
    rw [e1, e2]
    exact h.emptied q
  | fresh =>
    obtain ⟨e1, e2⟩ := h0 rfl
    rw [e1, e2]
    exact h
  | froz =>
    obtain ⟨e1, e2⟩ := h0 rfl
    rw [e1, e2]
    exact h
  | scr =>
    obtain ⟨e1, e2⟩ := h0 rfl
    rw [e1, e2]
    exact h
  | loan i =>
    obtain ⟨e1, e2⟩ := h0 rfl
    rw [e1, e2]
    exact h
theorem Off.settled {st : Stat} (hd : ∀ i ∈ tkS st, ∃ c, ρ[i]? = some (.own c) ∧ ρ1 = ρ.set i .emp ∧ F1 = fset F i []) (h0 : tkS st = [] → ρ1 = ρ ∧ F1 = F) {B : List Addr} (h : Off F Z B) : Off F1 Z B := by
  cases st with
  | take i =>
    obtain ⟨c, q, e1, e2⟩ := hd i (by simp [tkS])
    rw [e2]
    exact h.emptied
  | fresh => rw [(h0 rfl).2]; exact h
  | froz => rw [(h0 rfl).2]; exact h
  | scr => rw [(h0 rfl).2]; exact h
  | loan i => rw [(h0 rfl).2]; exact h
theorem Off.left {A B : List Addr} (o : Off F Z (A ++ B)) : Off F Z A := ⟨(List.nodup_append.mp o.nodup).1, fun a m => o.zed a (ml m), fun a m => o.off a (ml m)⟩
theorem Off.right {A B : List Addr} (o : Off F Z (A ++ B)) : Off F Z B := ⟨(List.nodup_append.mp o.nodup).2.1, fun a m => o.zed a (mr m), fun a m => o.off a (mr m)⟩
/-- all are taken -/
theorem settles_ok : ∀ {ds : Ds} {vs : List V} {B : List Addr} {ρ : List Slot} {F : Fa} {xs : List D} {ρ1 : List Slot}, W K H ρ σ F Z → VCs K H ρ σ F vs ds B → Off F Z B → settles ds ρ = some (xs, ρ1) →
    ∃ F1 B1, W K H ρ1 σ F1 Z ∧ Step (tkL ds) H ρ F Z H ρ1 F1 Z ∧ OwnL K H vs xs B1 ∧ Off F1 Z B1 ∧ (∀ a ∈ B1, a ∈ B ∨ ∃ i ∈ tkL ds, a ∈ F i) ∧ xs = ds.map (·.1)
  | [], _, _, _, F, _, _, w, .nil, o, e => by
    simp only [settles] at e
    cases e
    exact ⟨F, [], w, .refl, .nil, o, fun a m => (nomatch m), rfl⟩
  | (d, st) :: ds, _, _, ρ, F, xs, ρ1, w, .cons (B := B) (C := B') h t, o, e => by
    simp only [settles] at e
    split at e
    · rename_i ρ2 e1
      split at e
      · rename_i ys ρ3 e2
        cases e
        obtain ⟨F1, B1, w1, s1, ho, o1, n1, hd, h0⟩ := settle_ok w h o.left e1
        obtain ⟨F2, B2, w2, s2, ho2, o2, n2, ex⟩ := settles_ok w1 (t.settled hd h0) (o.right.settled hd h0) e2
        have keepB1 : ∀ a ∈ B1, ∀ j, a ∉ F2 j := fun a m j q => by
          rcases s2.own j a q with q | ⟨i, _, q⟩ | q
          · exact o1.off a m j q
          · exact o1.off a m i q
          · exact lst_tr (ho.tr a m) q
        refine ⟨F2, B1 ++ B2, w2, s1.seq s2 (fun _ => ml) (fun _ => mr), .cons ho ho2, ⟨List.nodup_append.mpr ⟨o1.nodup, o2.nodup, fun a m b q z => ?_⟩, fun a m => (List.mem_append.mp m).elim (o1.zed a) (o2.zed a), fun a m => (List.mem_append.mp m).elim (keepB1 a) (o2.off a)⟩, fun a m => ?_, by rw [ex]; rfl⟩
        · subst z
          rcases n2 a q with q | ⟨i, _, q⟩
          · rcases n1 a m with m' | ⟨i, hi, m'⟩
            · exact (List.nodup_append.mp o.nodup).2.2 a m' a q rfl
            · exact o.off a (mr q) i m'
          · exact o1.off a m i q
        · rcases List.mem_append.mp m with m | m
          · exact (n1 a m).imp ml fun ⟨i, hi, q⟩ => ⟨i, ml hi, q⟩
          · rcases n2 a m with m | ⟨i, hi, q⟩
            · exact .inl (mr m)
            · rcases s1.own i a q with q | ⟨k, hk, q⟩ | q
              · exact .inr ⟨i, mr hi, q⟩
              · exact .inr ⟨k, ml hk, q⟩
              · exact absurd q (lst_tr (w1.tr (by assumption)))
      · cases e
    · cases e

/-- a new object is laid -/
theorem W.grow {p : Addr} {o : HO} (w : W K H ρ σ F Z) (n : H p = none) : W K (upd H p o) ρ σ F Z ∧ Step [] H ρ F Z (upd H p o) ρ F Z := by
  have k := upd_kept (o := o) n
  refine ⟨⟨w.len, w.out, fun i s e => (w.slot i s e).keep rfl (fun a o e _ => k a o e) fun _ z _ => z, w.nodup, w.disj, w.zed⟩, fun a o e _ => k a o e, fun a q => ?_, fun _ _ => ⟨rfl, rfl⟩, fun _ _ m => .inl m, fun _ z => .inl z, fun _ z _ => .inl z⟩
  cases e : H a with
  | none => exact absurd e q
  | some u =>
    rw [k a u e]
    exact fun z => nomatch z
theorem W.wide {P : Addr → Prop} (w : W K H ρ σ F Z) (n : ∀ a, P a → H a = none) : W K H ρ σ F (fun a => Z a ∨ P a) ∧ Step [] H ρ F Z H ρ F (fun a => Z a ∨ P a) :=
  ⟨⟨w.len, w.out, fun i s e => (w.slot i s e).keep rfl (fun _ _ e _ => e) fun a z t q => q.elim z fun y => t (n a y), w.nodup, w.disj, fun i a m => .inl (w.zed i a m)⟩,
    fun _ _ e _ => e, fun _ q => q, fun _ _ => ⟨rfl, rfl⟩, fun _ _ m => .inl m, fun a z => z.imp id (n a), fun _ z _ => .inl (.inl z)⟩
theorem OwnL.up {p : Addr} {o : HO} {vs : List V} {ds : List D} {B : List Addr} (n : H p = none) (h : OwnL K H vs ds B) : OwnL K (upd H p o) vs ds B := h.keep fun a u e _ => upd_kept n a u e
/-- a new tuple, a new list of owned parts -/
theorem W.tup {p : Addr} {vs : List V} {xs : List D} {B : List Addr} (w : W K H ρ σ F Z) (n : H p = none) (h : OwnL K H vs xs B) (o : Off F Z B) :
    ∃ Z', W K (upd H p (.tup vs)) ρ σ F Z' ∧ Step [] H ρ F Z (upd H p (.tup vs)) ρ F Z' ∧ Own K (upd H p (.tup vs)) (.ref p) (.tuple xs) B ∧ Off F Z' B :=
  let ⟨w1, s1⟩ := w.grow (o := .tup vs) n
  ⟨Z, w1, s1, .tup (.inl (.inl upd_same)) (h.up n), o⟩
theorem W.lst {p : Addr} {vs : List V} {xs : List D} {B : List Addr} (w : W K H ρ σ F Z) (n : H p = none) (h : OwnL K H vs xs B) (o : Off F Z B) :
    ∃ Z', W K (upd H p (.lst vs)) ρ σ F Z' ∧ Step [] H ρ F Z (upd H p (.lst vs)) ρ F Z' ∧ Own K (upd H p (.lst vs)) (.ref p) (.list xs) (p :: B) ∧ Off F Z' (p :: B) := by
  obtain ⟨w0, s0⟩ := w.wide (P := fun a => a = p) fun a e => by rw [e]; exact n
  obtain ⟨w1, s1⟩ := w0.grow (o := .lst vs) n
  refine ⟨_, w1, s0.seq s1 (fun _ h => h) (fun _ h => h), .lst upd_same (h.up n), ⟨List.nodup_cons.mpr ⟨fun m => lst_tr (h.tr p m) n, o.nodup⟩, fun a m => ?_, fun a m j q => ?_⟩⟩
  · rcases List.mem_cons.mp m with e | m
    · exact .inr e
    · exact .inl (o.zed a m)
  · rcases List.mem_cons.mp m with e | m
    · subst e
      exact lst_tr (w.tr q) n
    · exact o.off a m j q
end
end Zr

set_option maxRecDepth 100000
set_option maxHeartbeats 8000000
/-! ZrI: displays, calls of defs, isinstance, module names. -/
namespace Zr
open PySem PySem.Spec PyProof.Rows L2

/-! ### which slots a value may be taken from -/
theorem gv_tk {ρ : Ro} {i : Nat} {d : D} {s : Stat} (h : gv ρ i = some (d, s)) : tkS s = [] := by
  unfold gv at h
  split at h <;> first | (cases h; rfl) | cases h
theorem ix_tk {d : D} {sx st : Stat} {ρ ρ' : Ro} {d' : D} (h : (if pur d then some (d, Stat.fresh, ρ) else (match sx with
          | .fresh => some (d, .fresh, ρ)
          | .take _ => none
          | s => some (d, s, ρ)) : R) = some (d', st, ρ')) : tkS st = [] := by
  split at h
  · cases h
    rfl
  · split at h
    · cases h
      rfl
    · cases h
    · cases h
      rename_i n1 n2
      cases sx with
      | take i => exact absurd rfl (n2 i)
      | _ => rfl
theorem tk_of (C : CallF) : ∀ (e : IE) {ρ ρ' : Ro} {d : D} {st : Stat}, ev C e ρ = some (d, st, ρ') → ∀ i ∈ tkS st, i ∈ tkE e
  | .var j, ρ, ρ', d, st, h, i, hi => by
    simp only [ev] at h
    split at h
    · rename_i q
      cases h
      rw [gv_tk q] at hi
      cases hi
    · cases h
  | .mov j, ρ, ρ', d, st, h, i, hi => by
    simp only [ev] at h
    split at h
    all_goals first
      | (cases h; cases hi; done)
      | (cases h; exact hi)
      | cases h
  | .fz j e, ρ, ρ', d, st, h, i, hi => by
    simp only [ev] at h
    split at h
    · split at h
      · split at h
        · cases h
          cases hi
        · cases h
      · cases h
    · exact tk_of C e h i hi
  | .andV a b, ρ, ρ', d, st, h, i, hi => by
    simp only [ev] at h
    split at h
    · rename_i ea
      split at h
      · exact mr (tk_of C b h i hi)
      · cases h
        exact ml (tk_of C a ea i hi)
      · cases h
    · cases h
  | .orV a b, ρ, ρ', d, st, h, i, hi => by
    simp only [ev] at h
    split at h
    · rename_i ea
      split at h
      · cases h
        exact ml (tk_of C a ea i hi)
      · exact mr (tk_of C b h i hi)
      · cases h
    · cases h
  | .oneV a, ρ, ρ', d, st, h, i, hi => by
    simp only [ev] at h
    exact tk_of C a h i hi
  | .ite t a b, ρ, ρ', d, st, h, i, hi => by
    simp only [ev] at h
    split at h
    · split at h
      · exact ml (tk_of C a h i hi)
      · exact mr (tk_of C b h i hi)
    · cases h
  | .ix a b, ρ, ρ', d, st, h, i, hi => by
    simp only [ev] at h
    split at h
    · split at h
      · split at h
        · split at h
          · rw [ix_tk h] at hi
            cases hi
          · cases h
        · cases h
      · cases h
    · cases h
  | .int _, _, _, _, _, h, i, hi | .str _, _, _, _, _, h, i, hi | .bl _, _, _, _, _, h, i, hi | .non, _, _, _, _, h, i, hi | .glob _ _, _, _, _, _, h, i, hi | .bin _ _ _, _, _, _, _, h, i, hi
  | .neg _, _, _, _, _, h, i, hi | .cmp _ _ _, _, _, _, _, h, i, hi | .chain _ _ _ _ _, _, _, _, _, h, i, hi | .notV _, _, _, _, _, h, i, hi | .tup _, _, _, _, _, h, i, hi | .lst _, _, _, _, _, h, i, hi
  | .sl _ _ _, _, _, _, _, h, i, hi | .isi _ _, _, _, _, _, h, i, hi | .bcall _ _, _, _, _, _, h, i, hi | .fcall _ _, _, _, _, _, h, i, hi | .fscr _ _, _, _, _, _, h, i, hi | .fref _ _ _, _, _, _, _, h, i, hi
  | .chain3 _ _ _ _ _ _ _, _, _, _, _, h, i, hi | .rng1V _ _, _, _, _, _, h, i, hi | .rng2V _ _ _, _, _, _, _, h, i, hi | .sls _ _ _ _, _, _, _, _, h, i, hi | .cin _ _ _ _, _, _, _, _, h, i, hi | .cix _ _ _, _, _, _, _, h, i, hi | .dic _ _, _, _, _, _, h, i, hi | .dc _ _ _ _ _ _, _, _, _, _, h, i, hi | .sset _ _, _, _, _, _, h, i, hi | .meth0 _ _, _, _, _, _, h, i, hi
  | .meth _ _ _, _, _, _, _, h, i, hi | .mut _ _ _, _, _, _, _, h, i, hi | .lc _ _ _ _ _, _, _, _, _, h, i, hi | .lc2 _ _ _ _ _ _ _ _, _, _, _, _, h, i, hi => by
    simp only [ev] at h
    (repeat' split at h) <;> first
      | (cases h; cases hi; done)
      | cases h
theorem tks_of (C : CallF) : ∀ (es : IEs) {ρ ρ' : Ro} {ds : Ds}, evs C es ρ = some (ds, ρ') → ∀ i ∈ tkL ds, i ∈ tks es
  | .nil, _, _, _, h, i, hi => by
    simp only [evs] at h
    cases h
    cases hi
  | .cons e es, ρ, ρ', ds, h, i, hi => by
    simp only [evs] at h
    split at h
    · rename_i e1
      split at h
      · rename_i e2
        split at h
        · cases h
          rcases List.mem_append.mp hi with hi | hi
          · exact ml (tk_of C e e1 i hi)
          · exact mr (tks_of C es e2 i hi)
        · cases h
      · cases h
    · cases h
section
variable {X : Cx} {G : Gx} {S : Sx} {C : CallF}
/-- taken behind the step that made them -/
theorem take_all {K : Fr'} {H H1 : Hp} {ρ ρ1 ρ2 : List Slot} {σ : L2.St} {F F1 : Fa} {Z Z1 : Addr → Prop} {es : IEs} {ds : Ds} {vs : List V} {xs : List D} {E : List Nat} (he : evs C es ρ = some (ds, ρ1)) (s : Step (effs es) H ρ F Z H1 ρ1 F1 Z1) (w : W K H1 ρ1 σ F1 Z1)
    (h : VL (effs es) K H F H1 ρ1 σ F1 Z1 vs ds) (e : settles ds ρ1 = some (xs, ρ2)) (h1 : ∀ j ∈ effs es, j ∈ E) (h2 : ∀ j ∈ tks es, j ∈ E) :
    ∃ F2 B, W K H1 ρ2 σ F2 Z1 ∧ Step E H ρ F Z H1 ρ2 F2 Z1 ∧ OwnL K H1 vs xs B ∧ Fl E H F F2 Z1 B ∧ xs = ds.map (·.1) := by
  obtain ⟨B, hb, fb⟩ := h
  obtain ⟨F2, B2, w2, s2, ho, o2, n2, ex⟩ := settles_ok w hb.vc fb.toOff e
  have S2 : Step E H ρ F Z H1 ρ2 F2 Z1 := s.seq s2 h1 fun j hj => h2 j (tks_of C es he j hj)
  refine ⟨F2, B2, w2, S2, ho, o2.fl fun a m => ?_, ex⟩
  rcases n2 a m with m | ⟨i, hi, m⟩
  · exact (fb.new a m).imp (fun ⟨i, hi, q⟩ => ⟨i, h1 i hi, q⟩) id
  · rcases s.own i a m with m | ⟨k, hk, m⟩ | n
    · exact .inl ⟨i, h2 i (tks_of C es he i hi), m⟩
    · exact .inl ⟨k, h1 k hk, m⟩
    · exact .inr n
theorem se_tup {es : IEs} {xs : List Expr} {k : Nat} {p : Pos} (ha : PA X xs (tAs X.K C es)) : PE X (.Tuple xs k p) (tE X.K C (.tup es)) := by
  refine (pe_tup ha).of fun σ H Q ⟨ρ, F, Z, d, st, ρ', w, he, k⟩ => ?_
  simp only [ev] at he
  split at he
  · rename_i ds ρ1 ea
    split at he
    · rename_i ys ρ2 es'
      obtain ⟨c, he⟩ := ifs he
      cases he
      refine ⟨ρ, F, Z, ds, ρ1, w, ea, fun vs H1 F1 Z1 s1 w1 r1 => ?_⟩
      obtain ⟨F2, B, w2, s2, ho, fl, ex⟩ := take_all (E := effE (.tup es)) ea s1 w1 r1 es' (fun _ => ml) (fun _ => mr)
      refine ⟨lim_line (by rw [ho.length]; exact c), fun q n => ?_⟩
      obtain ⟨Z3, w3, s3, o3, f3⟩ := w2.tup n ho fl.toOff
      exact k _ _ F2 Z3 (s2.seq s3 (fun _ h => h) (fun _ h => nomatch h)) w3 ⟨B, o3, f3.fl fl.new⟩
    · cases he
  · cases he
theorem se_lst {es : IEs} {xs : List Expr} {p : Pos} (ha : PA X xs (tAs X.K C es)) : PE X (.List xs p) (tE X.K C (.lst es)) := by
  refine (pe_lst ha).of fun σ H Q ⟨ρ, F, Z, d, st, ρ', w, he, k⟩ => ?_
  simp only [ev] at he
  split at he
  · rename_i ds ρ1 ea
    split at he
    · rename_i ys ρ2 es'
      obtain ⟨c, he⟩ := ifs he
      cases he
      refine ⟨ρ, F, Z, ds, ρ1, w, ea, fun vs H1 F1 Z1 s1 w1 r1 => ?_⟩
      obtain ⟨F2, B, w2, s2, ho, fl, ex⟩ := take_all (E := effE (.lst es)) ea s1 w1 r1 es' (fun _ => ml) (fun _ => mr)
      refine ⟨lim_line (by rw [ho.length]; exact c), fun q n => ?_⟩
      obtain ⟨Z3, w3, s3, o3, f3⟩ := w2.lst n ho fl.toOff
      refine k _ _ F2 Z3 (s2.seq s3 (fun _ h => h) (fun _ h => nomatch h)) w3 ⟨q :: B, o3, f3.fl fun a m => ?_⟩
      rcases List.mem_cons.mp m with e | m
      · rw [e]
        exact .inr (s2.gone n)
      · exact fl.new a m
    · cases he
  · cases he
/-! ### module names -/
theorem se_glob (ok : Ok X G S C) {x y : Str} {d : D} {p : Pos} (e : x = y) (h : gloB S y = true) (hc : (G.cons.any fun q => decide (q.1 = x) && deq q.2 d) = true) : PE X (.Name y p) (tE X.K C (.glob x d)) := by
  subst e
  unfold gloB at h
  simp only [Bool.and_eq_true] at h
  obtain ⟨n1, n2, n3⟩ := nodun_ok h.2
  rw [List.any_eq_true] at hc
  obtain ⟨⟨z, c⟩, hm, hq⟩ := hc
  simp only [Bool.and_eq_true, decide_eq_true_eq] at hq
  have e2 := deq_eq hq.2
  obtain ⟨e1, _⟩ := hq
  subst e1
  subst e2
  obtain ⟨u, v, h1, h2, h3⟩ := ok.con _ hm
  refine (pe_glob (v := v) (glB_ok ok h.1) h1 h2 n1).of fun σ H Q ⟨ρ, F, Z, d', st, ρ', w, he, k⟩ => ?_
  simp only [ev] at he
  obtain ⟨c, he⟩ := ifs he
  cases he
  exact k v H F Z .refl w (fin_pure c (h3 H))
/-! ### calls of defs -/
theorem VLB.borX : ∀ {K : Fr'} {H : Hp} {ρ : List Slot} {σ : L2.St} {F : Fa} {Z : Addr → Prop} {vs : List V} {ds : Ds} {B : List Addr}, VLB K H ρ σ F Z vs ds B → ds.all (fun p => noScr p.2) = true → BorL K H false (fun _ => True) vs (ds.map (·.1))
  | _, _, _, _, _, _, _, _, _, .nil, _ => .nil
  | _, _, _, _, _, _, _, _, _, .cons h t, n => by
    simp only [List.all_cons, Bool.and_eq_true] at n
    exact .cons (h.borX n.1) (t.borX n.2)
theorem Post.new {K : Fr'} {H : Hp} {d : D} {Q : VK} (h : ∀ v H', NewD K H H' v d → Q v H') : Post K H [] d Q := fun v H' B k t o n w => h v H' ⟨fun a u e => k a u e fun _ m => (nomatch m), B, o, n, fun a m => (w a m).elim (fun z => nomatch z) id⟩
theorem chks_star : ∀ {es : IEs} {xs : List Expr}, chks G S es xs = true → xs.all notStar = true
  | .nil, [], _ => rfl
  | .cons e es, x :: xs, h => by
    simp only [chks, Bool.and_eq_true] at h
    simp only [List.all_cons, Bool.and_eq_true]
    exact ⟨h.1.1, chks_star h.2⟩
theorem se_fcall (ok : Ok X G S C) {f : Nat} {es : IEs} {n : Str} {xs : List Expr} {p pos : Pos} (hf : G.fns[f]? = some (n, xs.length, .plain)) (hg : gloB S n = true) (hs : xs.all notStar = true) (hx : xs ≠ []) (ha : PA X xs (tAs X.K C es)) :
    PE X (.Call (.Name n p) xs [] pos) (tE X.K C (.fcall f es)) := by
  unfold gloB at hg
  simp only [Bool.and_eq_true] at hg
  refine (ok.call f n _ _ hf X rfl rfl rfl rfl rfl rfl xs _ p pos rfl hx hs (glB_ok ok hg.1) hg.2 ha).of fun σ H Q ⟨ρ, F, Z, d, st, ρ', w, he, k⟩ => ?_
  simp only [ev] at he
  split at he
  · rename_i ds ρ1 ea
    split at he
    · rename_i c
      split at he
      · rename_i d' o ec
        cases he
        refine ⟨ρ, F, Z, ds, _, w, ea, fun vs H1 F1 Z1 s1 w1 r1 => ⟨_, _, o, r1.elim fun B q => q.1.borX c, ec, Post.new fun z H2 nd => ?_⟩⟩
        obtain ⟨Z2, s2, w2, r2⟩ := fin_new s1 w1 nd
        exact k z H2 F1 Z2 s2 w2 r2
      · cases he
    · cases he
  · cases he
theorem se_fscr (ok : Ok X G S C) {f : Nat} {es : IEs} {n : Str} {xs : List Expr} {p pos : Pos} (hf : G.fns[f]? = some (n, xs.length, .scr)) (hg : gloB S n = true) (hs : xs.all notStar = true) (hx : xs ≠ []) (hl : es ≠ .nil) (ha : PA X xs (tAs X.K C es)) :
    PE X (.Call (.Name n p) xs [] pos) (tE X.K C (.fscr f es)) := by
  unfold gloB at hg
  simp only [Bool.and_eq_true] at hg
  refine (ok.call f n _ _ hf X rfl rfl rfl rfl rfl rfl xs _ p pos rfl hx hs (glB_ok ok hg.1) hg.2 ha).of fun σ H Q ⟨ρ, F, Z, d, st, ρ', w, he, k⟩ => ?_
  simp only [ev] at he
  split at he
  · rename_i ds ρ1 ea
    split at he
    · rename_i c
      split at he
      · rename_i d' o ec
        cases he
        refine ⟨ρ, F, Z, ds, _, w, ea, fun vs H1 F1 Z1 s1 w1 r1 => ?_⟩
        obtain ⟨B, hb, fb⟩ := id r1
        cases hb with
        | nil =>
          cases es with
          | nil => exact absurd rfl hl
          | cons e es =>
            simp only [evs] at ea
            (repeat' split at ea) <;> cases ea
        | cons h t =>
          refine ⟨_, _, _, _, _, o, rfl, h.bor, t.borX c, ec, Post.new fun z H2 nd => ?_⟩
          obtain ⟨Z2, s2, w2, r2⟩ := fin_new s1 w1 nd
          exact k z H2 F1 Z2 s2 w2 r2
      · cases he
    · cases he
  · cases he
end
end Zr

set_option maxRecDepth 100000
set_option maxHeartbeats 8000000
/-! ZrJ: what changes a slot's own datum; calls by reference; isinstance; tests. -/
namespace Zr
open PySem PySem.Spec PyProof.Rows L2

section
variable {K : Fr'} {H H0 H' H1 H2 H3 : Hp} {ρ ρ0 ρ' ρ1 ρ2 : List Slot} {σ σ' : L2.St} {F F0 F' F1 F2 : Fa} {Z Z0 Z' Z1 Z2 : Addr → Prop} {E E1 E2 : List Nat}
/-- a slot's own datum is another one -/
inductive OwnSlot : Slot → D → Slot → D → Prop
  | own (d d' : D) : OwnSlot (.own d) d (.own d') d'
  | byr (d d' : D) : OwnSlot (.byr d) d (.byr d') d'
theorem put_slot {i : Nat} {sl sl' : Slot} {d d' : D} {v : V} {B : List Addr} (s : Step E H0 ρ0 F0 Z0 H ρ F Z) (w : W K H ρ σ F Z) (hi : i ∈ E) (e : ρ[i]? = some sl) (os : OwnSlot sl d sl' d') (hσ : σ[i]? = some (some v))
    (k : ∀ b o, H b = some o → (Lst o → b ∉ F i) → H' b = some o) (t : ∀ b, H b ≠ none → H' b ≠ none) (ho : Own K H' v d' B) (nb : B.Nodup) (zb : ∀ b ∈ B, Z b) (off : ∀ b ∈ B, ∀ j, j ≠ i → b ∉ F j) (new : ∀ b ∈ B, b ∈ F i ∨ (∃ q ∈ E, b ∈ F0 q) ∨ H0 b = none) :
    Step E H0 ρ0 F0 Z0 H' (ρ.set i sl') (fset F i B) Z ∧ W K H' (ρ.set i sl') σ (fset F i B) Z := by
  have new' : ∀ b ∈ B, (∃ q ∈ E, b ∈ F0 q) ∨ H0 b = none := fun b m => by
    rcases new b m with m | m
    · rcases s.own i b m with m | m | m
      · exact .inl ⟨i, hi, m⟩
      · exact .inl m
      · exact .inr m
    · exact m
  refine ⟨⟨fun a o q l => ?_, fun a q => t a (s.there a q), fun j hj => ?_, fun j a m => ?_, s.zed, s.zk⟩, by rw [List.length_set]; exact w.len, fun j hj => ?_, fun j u q => ?_, fun j => ?_, fun j l a n m q => ?_, fun j a m => ?_⟩
  · refine k a o (s.keep a o q l) fun y m => ?_
    rcases s.own i a m with m | ⟨q', hq, m⟩ | m
    · exact l y i hi m
    · exact l y q' hq m
    · rw [m] at q
      cases q
  · have hn : j ≠ i := fun q => hj (q ▸ hi)
    rw [get_set_ne hn, fset_ne hn]
    exact s.same j hj
  · by_cases hj : j = i
    · subst hj
      rw [fset_same] at m
      exact .inr (new' a m)
    · rw [fset_ne hj] at m
      exact s.own j a m
  · rw [List.length_set] at hj
    have hn : j ≠ i := fun q => by
      have := (List.getElem?_eq_some_iff.mp e).1
      omega
    rw [fset_ne hn]
    exact w.out j hj
  · by_cases hj : j = i
    · subst hj
      rw [get_set_self e] at q
      cases q
      cases os with
      | own d d' => exact ⟨v, hσ, by rw [fset_same]; exact ho⟩
      | byr d d' => exact ⟨v, hσ, by rw [fset_same]; exact ho⟩
    · rw [get_set_ne hj] at q
      exact (w.slot j u q).keep (fset_ne hj) (fun a o e l => k a o e fun y m => (l y).elim (fun z => w.disj j i a hj z m) fun z => z (w.zed i a m)) fun a z _ => z
  · by_cases hj : j = i
    · rw [hj, fset_same]
      exact nb
    · rw [fset_ne hj]
      exact w.nodup j
  · by_cases hj : j = i
    · subst hj
      rw [fset_same] at m
      by_cases hl : l = j
      · exact n hl.symm
      · rw [fset_ne hl] at q
        exact off a m l hl q
    · rw [fset_ne hj] at m
      by_cases hl : l = i
      · subst hl
        rw [fset_same] at q
        exact off a q j hj m
      · rw [fset_ne hl] at q
        exact w.disj j l a n m q
  · by_cases hj : j = i
    · subst hj
      rw [fset_same] at m
      exact zb a m
    · rw [fset_ne hj] at m
      exact w.zed j a m

/-! ### methods that change a list -/
theorem OwnL.dropLast_pure : ∀ {xs : List V} {ds : List D} {A : List Addr} {y : D}, OwnL K H xs ds A → ds.getLast? = some y → pur y = true → OwnL K H xs.dropLast ds.dropLast A
  | _, _, _, _, .nil, e, _ => by simp at e
  | _, _, _, y, .cons (vs := []) (A := A) (B := B) h t, e, p => by
    cases t
    simp at e
    subst e
    have : A = [] := h.nil_of p
    subst this
    exact .nil
  | _, _, _, y, .cons (vs := v :: vs) h t, e, p => by
    cases t with
    | cons h2 t2 =>
      rw [List.getLast?_cons_cons] at e
      exact .cons h (OwnL.dropLast_pure (.cons h2 t2) e p)
theorem OwnL.erase_pure : ∀ {xs : List V} {ds : List D} {A : List Addr} {y : D} {j : Nat}, OwnL K H xs ds A → ds[j]? = some y → pur y = true → OwnL K H (xs.eraseIdx j) (ds.eraseIdx j) A
  | _, _, _, _, _, .nil, e, _ => by simp at e
  | _, _, _, y, 0, .cons (A := A) h t, e, p => by
    simp at e
    subst e
    have : A = [] := h.nil_of p
    subst this
    exact t
  | _, _, _, y, j + 1, .cons h t, e, p => .cons h (OwnL.erase_pure t (by simpa using e) p)
theorem OwnL.get_pure : ∀ {xs : List V} {ds : List D} {A : List Addr} {y : D} {j : Nat}, OwnL K H xs ds A → ds[j]? = some y → ∃ v B, xs[j]? = some v ∧ Own K H v y B ∧ ∀ a ∈ B, a ∈ A
  | _, _, _, _, _, .nil, e => by simp at e
  | _, _, _, y, 0, .cons h t, e => by
    simp at e
    subst e
    exact ⟨_, _, rfl, h, fun a m => ml m⟩
  | _, _, _, y, j + 1, .cons h t, e => by
    obtain ⟨v, B, h1, h2, h3⟩ := OwnL.get_pure t (j := j) (by simpa using e)
    exact ⟨v, B, by simpa using h1, h2, fun a m => mr (h3 a m)⟩
theorem OwnL.set_at : ∀ {xs : List V} {ds : List D} {A : List Addr} {y z : D} {u : V} {B : List Addr} {j : Nat}, OwnL K H xs ds A → ds[j]? = some y → pur y = true → Own K H u z B → ∃ A1 A2, A = A1 ++ A2 ∧ OwnL K H (xs.set j u) (ds.set j z) (A1 ++ (B ++ A2))
  | _, _, _, _, _, _, _, _, .nil, e, _, _ => by simp at e
  | _, _, _, y, z, u, B, 0, .cons (A := A) (B := A2) h t, e, p, q => by
    simp at e
    subst e
    have : A = [] := h.nil_of p
    subst this
    exact ⟨[], A2, rfl, (OwnL.cons q t : OwnL K H _ _ (B ++ A2))⟩
  | _, _, _, y, z, u, B, j + 1, .cons (A := A0) h t, e, p, q => by
    obtain ⟨A1, A2, e1, h2⟩ := OwnL.set_at t (j := j) (by simpa using e) p q
    subst e1
    refine ⟨A0 ++ A1, A2, by rw [List.append_assoc], ?_⟩
    rw [List.append_assoc]
    exact .cons h h2
def mid : Mu → String
  | .append => "list.append"
  | .extend => "list.extend"
  | .pop => "list.pop"
  | .insert => "list.insert"
  | .remove => "list.remove"
/-- the reading of such a method: the list at a, what it becomes -/
theorem mu_rule {X : Cx} {m : Mu} {ds args ds' : List D} {d : D} (e : mu m ds args = some (ds', d)) : ∃ r, MtR X (mid m) r ∧ ∀ (H : Hp) (a : Addr) (xs vs : List V) (A B : List Addr) (Q : VK), H a = some (.lst xs) → OwnL X.K H xs ds A → OwnL X.K H vs args B →
    (∀ v xs' A', OwnL X.K H xs' ds' A' → (∀ b ∈ A', b ∈ A ∨ b ∈ B) → (A.Nodup → B.Nodup → (∀ b ∈ A, b ∉ B) → A'.Nodup) → pur d = true → Bor X.K H true (fun _ => True) v d → Q v (upd H a (.lst xs'))) → r (.ref a) vs H Q := by
  unfold mu at e
  split at e
  · obtain ⟨c, e⟩ := ifs e
    cases e
    refine ⟨_, mt_append, fun H a xs vs A B Q h ho hb q => ?_⟩
    cases hb with
    | cons h1 t =>
      cases t
      refine ⟨a, xs, _, rfl, rfl, h, Nat.lt_of_lt_of_le (by rw [ho.length]; exact c) (lim_line (Nat.le_refl _)), q _ _ _ (ho.append (.cons h1 .nil)) (fun b m => List.mem_append.mp m) (fun n1 n2 n3 => List.nodup_append.mpr ⟨n1, n2, fun x m y m' z => n3 x m (z ▸ m')⟩) rfl .non⟩
  · obtain ⟨⟨c, p⟩, e⟩ := ifs e
    cases e
    refine ⟨_, mt_extend, fun H a xs vs A B Q h ho hb q => ?_⟩
    cases hb with
    | cons h1 t =>
      cases t
      cases h1 with
      | lst h2 t2 =>
        rename_i zs A2
        have z2 : A2 = [] := t2.nil_of p
        subst z2
        refine ⟨a, _, xs, _, rfl, rfl, h, h2, lim_line (by rw [ho.length, t2.length]; exact c), q _ _ _ (ho.append t2) (fun b m => ?_) (fun n1 n2 n3 => ?_) rfl .non⟩
        · rw [List.append_nil] at m
          exact .inl m
        · rw [List.append_nil]
          exact n1
  · split at e
    · rename_i y ey
      obtain ⟨p, e⟩ := ifs e
      cases e
      refine ⟨_, mt_pop, fun H a xs vs A B Q h ho hb q => ?_⟩
      cases hb
      have e2 : ds[ds.length - 1]? = some d := by rw [← List.getLast?_eq_getElem?]; exact ey
      obtain ⟨v, B', h1, h2, h3⟩ := ho.get_pure e2
      exact ⟨a, xs, v, rfl, rfl, h, by rw [ho.length]; exact h1, q _ _ _ (ho.dropLast_pure ey p) (fun b m => .inl m) (fun n _ _ => n) p (h2.bor fun _ _ => trivial)⟩
    · cases e
  · obtain ⟨⟨c1, c2⟩, e⟩ : _ ∧ _ := by
      split at e
      · rename_i c
        exact ⟨c, e⟩
      · cases e
    split at e
    · rename_i j ej
      split at e
      · rename_i y ey
        obtain ⟨p, e⟩ := ifs e
        cases e
        refine ⟨_, mt_popAt, fun H a xs vs A B Q h ho hb q => ?_⟩
        cases hb with
        | cons h1 t =>
          cases t
          cases h1
          obtain ⟨v, B', g1, g2, g3⟩ := ho.get_pure ey
          have ln : (lim : Int) = 1000000 := rfl
          exact ⟨a, xs, _, _, v, rfl, rfl, h, by omega, by omega, (ixN_seq (by rw [← pixN_eq, ho.length]; exact ej)).1, g1, q _ _ _ (ho.erase_pure ey p) (fun b m => .inl m) (fun n _ _ => n) p (g2.bor fun _ _ => trivial)⟩
      · cases e
    · cases e
  · cases e
end
section
variable {X : Cx} {G : Gx} {S : Sx} {C : CallF}
theorem few_of {es : List Expr} {env : Env} {cp : Pos} (h : es.all notStar = true) (hl : es.length < 20) : ((backTo cp (starEach es env)).all (fun x => !x.1) && (backToKw cp (keywordEach [] env)).all (fun x => x.1.isSome)
      && decide (es.length + ([] : List Keyword).length + (if ([] : List Keyword).isEmpty then 0 else 1) < 30)) = true := by
  have h1 : (backTo cp (starEach es env)).all (fun x => !x.1) = true := by
    rw [List.all_eq_true]
    intro x m
    have := pl_of (env := env) (pos := cp) h
    rw [List.any_eq_false] at this
    simpa using this x m
  rw [h1]
  have h2 : (backToKw cp (keywordEach [] env)).all (fun x => x.1.isSome) = true := rfl
  rw [h2]
  simp
  omega
theorem base_name {x : Str} {p : Pos} {a : Str} {env : Env} {t : Sem Value} : attributeBase (.Name x p) a env t = t := rfl
theorem isLst_ok {K : Fr'} {H : Hp} {ρ : Ro} {σ : L2.St} {F : Fa} {Z : Addr → Prop} {i : Nat} (w : W K H ρ σ F Z) (h : isLst ρ i = true) : ∃ a xs, σ[i]? = some (some (.ref a)) ∧ H a = some (.lst xs) := by
  unfold isLst at h
  split at h
  · rename_i d e
    obtain ⟨v, e1, ho⟩ := w.slot i _ e
    generalize F i = A at ho
    cases ho with
    | lst h1 t => exact ⟨_, _, e1, h1⟩
  · rename_i d e
    obtain ⟨v, e1, ho⟩ := w.slot i _ e
    generalize F i = A at ho
    cases ho with
    | lst h1 t => exact ⟨_, _, e1, h1⟩
  · cases h
theorem isOwn_ok {K : Fr'} {H : Hp} {ρ : Ro} {σ : L2.St} {F : Fa} {Z : Addr → Prop} {i : Nat} (w : W K H ρ σ F Z) (h : isOwn ρ i = true) : ∃ v, σ[i]? = some (some v) := by
  unfold isOwn at h
  split at h
  · rename_i d e
    obtain ⟨v, e1, ho⟩ := w.slot i _ e
    exact ⟨v, e1⟩
  · rename_i d e
    obtain ⟨v, e1, ho⟩ := w.slot i _ e
    exact ⟨v, e1⟩
  · cases h
theorem mut_core {m : Mu} {i : Nat} {es : IEs} {σ : L2.St} {H : Hp} {Q : VK} (h : tE X.K C (.mut m i es) σ H Q) : ∃ r, MtR X (mid m) r ∧ ∃ v, σ[i]? = some (some v) ∧ tyV X.K "list" v H ∧ tAs X.K C es σ H fun vs H2 => r v vs H2 Q := by
  obtain ⟨ρ, F, Z, d, st, ρ', w, he, k⟩ := h
  simp only [ev] at he
  obtain ⟨c, he⟩ : _ ∧ _ := by
    split at he
    · rename_i c
      exact ⟨c, he⟩
    · cases he
  simp only [Bool.and_eq_true, Bool.not_eq_true', List.contains_eq_mem, decide_eq_false_iff_not] at c
  obtain ⟨a, xs0, hσ, hH⟩ := isLst_ok w c.1.1
  split at he
  · rename_i ds ρ1 ea
    split at he
    · rename_i args ρ2 es'
      have main : ∀ (sl sl' : Slot) (xs ys : List D), ρ2[i]? = some sl → OwnSlot sl (.list xs) sl' (.list ys) → mu m xs args = some (ys, d) → st = .fresh → ρ' = ρ2.set i sl' → ∃ r, MtR X (mid m) r ∧ ∃ v, σ[i]? = some (some v) ∧ tyV X.K "list" v H ∧ tAs X.K C es σ H fun vs H2 => r v vs H2 Q := by
        intro sl sl' xs ys e os em e1 e2
        subst e1
        subst e2
        obtain ⟨r, hr, rule⟩ := mu_rule (X := X) em
        refine ⟨r, hr, .ref a, hσ, .inl ⟨rfl, xs0, .inl (.inl hH)⟩, ρ, F, Z, ds, ρ1, w, ea, fun vs H1 F1 Z1 s1 w1 r1 => ?_⟩
        obtain ⟨F2, B, w2, s2, ho, fl, ex⟩ := take_all (E := effE (.mut m i es)) ea s1 w1 r1 es' (fun j hj => List.mem_cons_of_mem _ (ml hj)) (fun j hj => List.mem_cons_of_mem _ (mr hj))
        have hs := w2.slot i sl e
        have hown : ∃ v, σ[i]? = some (some v) ∧ Own X.K H1 v (.list xs) (F2 i) := by
          cases os with
          | own => exact hs
          | byr => exact hs
        obtain ⟨v, e3, ho2⟩ := hown
        rw [hσ] at e3
        cases e3
        generalize hF : F2 i = A0 at ho2
        cases ho2 with
        | lst h1 t =>
          rename_i vs0 A
          refine rule H1 a vs0 vs A B Q h1 t ho fun z xs' A' ho' sub nd pd hz => ?_
          have nA : (a :: A).Nodup := hF ▸ w2.nodup i
          have inF : ∀ b ∈ A, b ∈ F2 i := fun b m => by rw [hF]; exact List.mem_cons_of_mem _ m
          have nA' : A'.Nodup := nd (List.nodup_cons.mp nA).2 fl.nodup fun b m q => fl.off b q i (inF b m)
          have na : a ∉ A' := fun m => by
            rcases sub a m with m | m
            · exact (List.nodup_cons.mp nA).1 m
            · exact fl.off a m i (by rw [hF]; exact List.mem_cons_self)
          have kk : ∀ b o, H1 b = some o → (Lst o → b ∉ F2 i) → upd H1 a (.lst xs') b = some o := fun b o q l => by
            rw [upd_ne]
            · exact q
            · intro z
              subst z
              rw [h1] at q
              cases q
              exact l trivial (by rw [hF]; exact List.mem_cons_self)
          have tt : ∀ b, H1 b ≠ none → upd H1 a (.lst xs') b ≠ none := fun b q => by
            by_cases hb : b = a
            · rw [hb, upd_same]
              exact fun z => nomatch z
            · rw [upd_ne hb]
              exact q
          have ho3 : OwnL X.K (upd H1 a (.lst xs')) xs' ys A' := ho'.keep fun b o q l => by
            rw [upd_ne]
            · exact q
            · intro z
              subst z
              rw [h1] at q
              cases q
              exact na (l trivial)
          obtain ⟨s3, w3⟩ := put_slot (i := i) (B := a :: A') s2 w2 (List.mem_cons_self) e os hσ kk tt (.lst upd_same ho3) (List.nodup_cons.mpr ⟨na, nA'⟩) (fun b m => by
              rcases List.mem_cons.mp m with m | m
              · exact w2.zed i b (by rw [hF, m]; exact List.mem_cons_self)
              · rcases sub b m with m | m
                · exact w2.zed i b (inF b m)
                · exact fl.zed b m) (fun b m j hj q => by
              rcases List.mem_cons.mp m with m | m
              · exact w2.disj j i b hj q (by rw [hF, m]; exact List.mem_cons_self)
              · rcases sub b m with m | m
                · exact w2.disj j i b hj q (inF b m)
                · exact fl.off b m j q) (fun b m => by
              rcases List.mem_cons.mp m with m | m
              · exact .inl (by rw [hF, m]; exact List.mem_cons_self)
              · rcases sub b m with m | m
                · exact .inl (inF b m)
                · exact .inr (fl.new b m))
          refine k z _ _ _ s3 w3 (fin_pure (b := true) (P := fun _ => True) pd ?_)
          exact (Own.keep (Bor.own hz pd) fun b o q l => kk b o q fun y => absurd (l y) (by simp)).bor fun _ _ => trivial
      split at he
      · rename_i xs e
        split at he
        · rename_i ys d' em
          cases he
          exact main _ _ xs ys e (.own _ _) em rfl rfl
        · cases he
      · rename_i xs e
        split at he
        · rename_i ys d' em
          cases he
          exact main _ _ xs ys e (.byr _ _) em rfl rfl
        · cases he
      · cases he
    · cases he
  · cases he
theorem se_mut (ok : Ok X G S C) {m : Mu} {i : Nat} {es : IEs} {x : Str} {p ap cp : Pos} {a : Str} {xs : List Expr} (ha' : a = mun m) (hx : nameB S i x = true) (hl : (ap.endLine == cp.line) = true) (hn : xs.length < 20) (hs : xs.all notStar = true) (h0 : xs = [] → es = .nil)
    (ha : PA X xs (tAs X.K C es)) : PE X (.Call (.Attribute (.Name x p) a ap) xs [] cp) (tE X.K C (.mut m i es)) := by
  unfold nameB at hx
  simp only [Bool.and_eq_true, decide_eq_true_eq] at hx
  obtain ⟨n1, n2, _⟩ := nodun_ok hx.2
  have ho : PE X (.Name x p) (tVar i) := pe_var (i := i) (by rw [ok.hN]; exact hx.1.1) (by rw [ok.sc]; exact visB_ok hx.1.2) n1 n2
  refine ⟨fun pins s σ H Q I h => ?_⟩
  obtain ⟨r, hr, v, hv, hty, hA⟩ := mut_core (X := X) h
  subst ha'
  cases xs with
  | nil =>
    have e0 := h0 rfl
    subst e0
    have hA' : r v [] H Q := by
      obtain ⟨ρ, F, Z, ds, ρ', w, he, k⟩ := hA
      simp only [evs] at he
      cases he
      exact k [] H F Z .refl w ⟨[], .nil, Fl.nil⟩
    have g : tBM0 X.K "list" r (tVar i) σ H Q := ⟨v, hv, hty, hA'⟩
    cases m
    · exact (pe_bm0 PySem.F.plainAttrs_list PySem.F.slot_list_append PySem.F.type_list_append hr ho base_name hl).run pins s σ H Q I g
    · exact (pe_bm0 PySem.F.plainAttrs_list PySem.F.slot_list_extend PySem.F.type_list_extend hr ho base_name hl).run pins s σ H Q I g
    · exact (pe_bm0 PySem.F.plainAttrs_list PySem.F.slot_list_pop PySem.F.type_list_pop hr ho base_name hl).run pins s σ H Q I g
    · exact (pe_bm0 PySem.F.plainAttrs_list PySem.F.slot_list_insert PySem.F.type_list_insert hr ho base_name hl).run pins s σ H Q I g
    · exact (pe_bm0 PySem.F.plainAttrs_list PySem.F.slot_list_remove PySem.F.type_list_remove hr ho base_name hl).run pins s σ H Q I g
  | cons y ys =>
    have hy : notStar y = true ∧ ys.all notStar = true := by simpa using hs
    have g : tBM X.K "list" r (tVar i) (tAs X.K C es) σ H Q := ⟨v, hv, hty, hA⟩
    cases m
    · exact (pe_bm PySem.F.plainAttrs_list PySem.F.slot_list_append PySem.F.type_list_append hr ho ha base_name (few_of hs hn) hl (star_of hy.1) (pl_of hy.2)).run pins s σ H Q I g
    · exact (pe_bm PySem.F.plainAttrs_list PySem.F.slot_list_extend PySem.F.type_list_extend hr ho ha base_name (few_of hs hn) hl (star_of hy.1) (pl_of hy.2)).run pins s σ H Q I g
    · exact (pe_bm PySem.F.plainAttrs_list PySem.F.slot_list_pop PySem.F.type_list_pop hr ho ha base_name (few_of hs hn) hl (star_of hy.1) (pl_of hy.2)).run pins s σ H Q I g
    · exact (pe_bm PySem.F.plainAttrs_list PySem.F.slot_list_insert PySem.F.type_list_insert hr ho ha base_name (few_of hs hn) hl (star_of hy.1) (pl_of hy.2)).run pins s σ H Q I g
    · exact (pe_bm PySem.F.plainAttrs_list PySem.F.slot_list_remove PySem.F.type_list_remove hr ho ha base_name (few_of hs hn) hl (star_of hy.1) (pl_of hy.2)).run pins s σ H Q I g
/-! ### calls by reference -/
theorem VLB.borR {K : Fr'} {H : Hp} {ρ : List Slot} {σ : L2.St} {F : Fa} {Z : Addr → Prop} {i : Nat} (w : W K H ρ σ F Z) : ∀ {vs : List V} {ds : Ds} {B : List Addr}, VLB K H ρ σ F Z vs ds B → (∀ a ∈ B, a ∉ F i) → ds.all (fun p => okSt p.2 [i] && noScr p.2) = true → BorL K H false (fun a => a ∉ F i) vs (ds.map (·.1))
  | _, _, _, .nil, _, _ => .nil
  | _, _, _, .cons (st := st) h t, hB, n => by
    simp only [List.all_cons, Bool.and_eq_true] at n
    refine .cons ?_ (t.borR w (fun a m => hB a (mr m)) (by simpa using n.2))
    cases st with
    | fresh => exact Own.bor h fun a m => hB a (ml m)
    | froz => exact h.2.imp fun a z q => z (w.zed i a q)
    | scr => cases n.1.2
    | loan j =>
      have hj : j ≠ i := by simpa [okSt] using n.1.1
      exact h.2.imp fun a z q => z.elim (fun y => w.disj j i a hj y q) fun y => y (w.zed i a q)
    | take j =>
      have hj : j ≠ i := by simpa [okSt] using n.1.1
      exact Own.bor h.2.2.2 fun a y q => w.disj j i a hj y q
theorem se_fref (ok : Ok X G S C) {f s : Nat} {es : IEs} {n x : Str} {xs : List Expr} {p p2 pos : Pos} (hf : G.fns[f]? = some (n, xs.length + 1, .byr)) (hg : gloB S n = true) (hx : nameB S s x = true) (hs : xs.all notStar = true) (ha : PA X xs (tAs X.K C es)) :
    PE X (.Call (.Name n p) (.Name x p2 :: xs) [] pos) (tE X.K C (.fref f s es)) := by
  unfold gloB at hg
  simp only [Bool.and_eq_true] at hg
  unfold nameB at hx
  simp only [Bool.and_eq_true, decide_eq_true_eq] at hx
  obtain ⟨n1, n2, _⟩ := nodun_ok hx.2
  have ho : PE X (.Name x p2) (tVar s) := pe_var (i := s) (by rw [ok.hN]; exact hx.1.1) (by rw [ok.sc]; exact visB_ok hx.1.2) n1 n2
  have hA : PA X (.Name x p2 :: xs) (tCons (tVar s) (tAs X.K C es)) := pa_cons ho ha (star_of rfl)
  refine (ok.call f n _ _ hf X rfl rfl rfl rfl rfl rfl (.Name x p2 :: xs) _ p pos rfl (fun z => nomatch z) (by simpa [notStar] using hs) (glB_ok ok hg.1) hg.2 hA).of fun σ H Q ⟨ρ, F, Z, d, st, ρ', w, he, k⟩ => ?_
  simp only [ev] at he
  split at he
  · rename_i ds ρ1 ea
    obtain ⟨c, he⟩ : _ ∧ _ := by
      split at he
      · rename_i c
        exact ⟨c, he⟩
      · cases he
    simp only [Bool.and_eq_true] at c
    have main : ∀ (sl sl' : Slot) (c0 c' : D), ρ1[s]? = some sl → OwnSlot sl c0 sl' c' → C f (some c0) (ds.map (·.1)) = some (d, some c') → st = .fresh → ρ' = ρ1.set s sl' →
        (∃ v, σ[s]? = some (some v)) → tCons (tVar s) (tAs X.K C es) σ H fun vs H1 => spC X.K C f .byr vs H1 Q := by
      intro sl sl' c0 c' e os ec e1 e2 ⟨v0, hσ⟩
      subst e1
      subst e2
      refine ⟨v0, hσ, ρ, F, Z, ds, ρ1, w, ea, fun vs H1 F1 Z1 s1 w1 r1 => ?_⟩
      obtain ⟨B, hb, fb⟩ := r1
      have hown : Own X.K H1 v0 c0 (F1 s) := by
        have hs := w1.slot s sl e
        cases os with
        | own =>
          obtain ⟨v, e3, q⟩ := hs
          rw [hσ] at e3
          cases e3
          exact q
        | byr =>
          obtain ⟨v, e3, q⟩ := hs
          rw [hσ] at e3
          cases e3
          exact q
      refine ⟨v0, vs, c0, F1 s, _, d, c', rfl, hown, w1.nodup s, hb.borR w1 (fun a m => fb.off a m s) c.1, ec, fun z H2 B2 A2 kk tt oz nz wz oA nA wA dis => ?_⟩
      obtain ⟨ww, sw⟩ := w1.wide (P := fun a => H1 a = none) fun a q => q
      have S1 := s1.seq sw (E := effE (.fref f s es)) (fun j hj => List.mem_cons_of_mem _ hj) (fun j hj => nomatch hj)
      obtain ⟨s3, w3⟩ := put_slot (i := s) (B := A2) S1 ww List.mem_cons_self e os hσ kk tt oA nA (fun b m => (wA b m).elim (fun q => .inl (w1.zed s b q)) .inr) (fun b m j hj q => by
          rcases wA b m with m | m
          · exact w1.disj j s b hj q m
          · exact lst_tr (w1.tr q) m) (fun b m => (wA b m).elim .inl fun q => .inr (.inr (s1.gone q)))
      refine k z H2 _ _ s3 w3 ⟨B2, oz, nz, fun a m => ?_, fun a m j q => ?_, fun a m => ?_⟩
      · exact (wz a m).elim (fun q => .inl (w1.zed s a q)) .inr
      · by_cases hj : j = s
        · subst hj
          rw [fset_same] at q
          exact dis a m q
        · rw [fset_ne hj] at q
          rcases wz a m with m | m
          · exact w1.disj j s a hj q m
          · exact lst_tr (w1.tr q) m
      · rcases wz a m with m | m
        · rcases s1.own s a m with m | ⟨i, hi, m⟩ | m
          · exact .inl ⟨s, List.mem_cons_self, m⟩
          · exact .inl ⟨i, List.mem_cons_of_mem _ hi, m⟩
          · exact .inr m
        · exact .inr (s1.gone m)
    have hv := isOwn_ok w c.2
    split at he
    · rename_i c0 e
      split at he
      · rename_i d' c' ec
        cases he
        exact main _ _ c0 c' e (.own _ _) ec rfl rfl hv
      · cases he
    · rename_i c0 e
      split at he
      · rename_i d' c' ec
        cases he
        exact main _ _ c0 c' e (.byr _ _) ec rfl rfl hv
      · cases he
    · cases he
  · cases he
end
end Zr

set_option maxRecDepth 100000
set_option maxHeartbeats 8000000
/-! ZrK: isinstance, chains, tests, freezing. -/
namespace Zr
open PySem PySem.Spec PyProof.Rows L2

section
variable {X : Cx} {G : Gx} {S : Sx} {C : CallF}
theorem se_chain (ok : Ok X G S C) {op op' : CmpOp} {a b c : IE} {l m r : Expr} {p : Pos} (hm : lastMarks [op, op'] [m, r] = false) (ha : PE X l (tE X.K C a)) (hb : PE X m (tE X.K C b)) (hc : PE X r (tE X.K C c)) : PE X (.Compare l [op, op'] [m, r] p) (tE X.K C (.chain op op' a b c)) := by
  refine (pe_chain (op_cmp ok.units op) (op_cmp ok.units op') ha hb hc hm).of fun σ H Q ⟨ρ, F, Z, d, st, ρ', w, he, k⟩ => ?_
  simp only [ev] at he
  split at he
  · rename_i x sx ρ1 ea
    split at he
    · rename_i y sy ρ2 eb
      split at he
      · rename_i cc
        split at he
        · rename_i ek
          split at he
          · rename_i z sz ρ3 ec
            split at he
            · rename_i cd
              split at he
              · rename_i q eq
                cases he
                refine ⟨ρ, F, Z, x, sx, ρ1, w, ea, fun v H1 F1 Z1 s1 w1 r1 => ⟨ρ1, F1, Z1, y, sy, ρ2, w1, eb, fun u H2 F2 Z2 s2 w2 r2 => ⟨x, y, true, (r1.over w1 s2 cc).bor, r2.bor, ek, true, rfl, ?_⟩⟩⟩
                rw [if_pos rfl]
                refine ⟨ρ2, F2, Z2, z, sz, _, w2, ec, fun t H3 F3 Z3 s3 w3 r3 => ⟨y, z, q, (r2.over w2 s3 cd).bor, r3.bor, eq, ?_⟩⟩
                exact k _ H3 F3 Z3 (s1.seq (s2.trans s3) (fun _ => ml) (fun _ => mr)) w3 (fin_pure (b := true) (P := fun _ => True) rfl (.bl _))
              · cases he
            · cases he
          · cases he
        · rename_i ek
          cases he
          refine ⟨ρ, F, Z, x, sx, ρ1, w, ea, fun v H1 F1 Z1 s1 w1 r1 => ⟨ρ1, F1, Z1, y, sy, _, w1, eb, fun u H2 F2 Z2 s2 w2 r2 => ⟨x, y, false, (r1.over w1 s2 cc).bor, r2.bor, ek, false, rfl, ?_⟩⟩⟩
          rw [if_neg (by decide)]
          exact k _ H2 F2 Z2 (s1.seq s2 (fun _ => ml) (fun _ h => mr (ml h))) w2 (fin_pure (b := true) (P := fun _ => True) rfl (.bl _))
        · cases he
      · cases he
    · cases he
  · cases he
theorem st_chain (ok : Ok X G S C) {op op' : CmpOp} {a b c : IE} {l m r : Expr} {p : Pos} (hm : lastMarks [op, op'] [m, r] = false) (ha : PE X l (tE X.K C a)) (hb : PE X m (tE X.K C b)) (hc : PE X r (tE X.K C c)) : PT X (.Compare l [op, op'] [m, r] p) (tTt X.K C (.cmp (.chain op op' a b c))) := by
  refine (pt_chain (op_cmp ok.units op) (op_cmp ok.units op') ha hb hc hm).of fun σ H Q ⟨ρ, F, Z, q0, ρ', w, he, k⟩ => ?_
  simp only [evT] at he
  split at he
  · rename_i q1 s1 ρ0 he1
    cases he
    simp only [ev] at he1
    split at he1
    · rename_i x sx ρ1 ea
      split at he1
      · rename_i y sy ρ2 eb
        split at he1
        · rename_i cc
          split at he1
          · rename_i ek
            split at he1
            · rename_i z sz ρ3 ec
              split at he1
              · rename_i cd
                split at he1
                · rename_i q eq
                  cases he1
                  refine ⟨ρ, F, Z, x, sx, ρ1, w, ea, fun v H1 F1 Z1 s1 w1 r1 => ⟨ρ1, F1, Z1, y, sy, ρ2, w1, eb, fun u H2 F2 Z2 s2 w2 r2 => ⟨x, y, true, (r1.over w1 s2 cc).bor, r2.bor, ek, true, rfl, ?_⟩⟩⟩
                  rw [if_pos rfl]
                  refine ⟨ρ2, F2, Z2, z, sz, _, w2, ec, fun t H3 F3 Z3 s3 w3 r3 => ⟨y, z, _, (r2.over w2 s3 cd).bor, r3.bor, eq, _, rfl, ?_⟩⟩
                  exact k H3 F3 Z3 (s1.seq (s2.trans s3) (fun _ => ml) (fun _ => mr)) w3
                · cases he1
              · cases he1
            · cases he1
          · rename_i ek
            cases he1
            refine ⟨ρ, F, Z, x, sx, ρ1, w, ea, fun v H1 F1 Z1 s1 w1 r1 => ⟨ρ1, F1, Z1, y, sy, _, w1, eb, fun u H2 F2 Z2 s2 w2 r2 => ⟨x, y, false, (r1.over w1 s2 cc).bor, r2.bor, ek, false, rfl, ?_⟩⟩⟩
            rw [if_neg (by decide)]
            exact ⟨false, rfl, k H2 F2 Z2 (s1.seq s2 (fun _ => ml) (fun _ h => mr (ml h))) w2⟩
          · cases he1
        · cases he1
      · cases he1
    · cases he1
  · cases he
/-! ### tests -/
theorem test_of {e : Expr} {env : Env} (h : plainTest e = true) : ∀ whole, isTrue e env whole = (do let v ← whole; standAt e.pos; holding [v] (truthy v)) := by
  cases e with
  | UnaryOp op a p => cases op <;> first | (intro _; rfl) | cases h
  | BoolOp => cases h
  | IfExp => cases h
  | Compare => cases h
  | _ => intro _; rfl
theorem st_tru {a : IE} {x : Expr} (hp : plainTest x = true) (ha : PE X x (tE X.K C a)) : PT X x (tTt X.K C (.tru a)) := by
  refine (pt_truth ha (test_of hp)).of fun σ H Q ⟨ρ, F, Z, q0, ρ', w, he, k⟩ => ?_
  simp only [evT] at he
  split at he
  · rename_i x sx ρ1 ea
    split at he
    · rename_i q ek
      cases he
      exact ⟨ρ, F, Z, x, sx, _, w, ea, fun v H1 F1 Z1 s1 w1 r1 => ⟨_, truD_V r1.bor ek, k H1 F1 Z1 s1 w1⟩⟩
    · cases he
  · cases he
theorem st_and {a b : IT} {x y : Expr} {r : List Expr} {p : Pos} (ha : PT X x (tTt X.K C a)) (hb : PW X (.BoolOp .And (y :: r) p) (tTt X.K C b)) : PW X (.BoolOp .And (x :: y :: r) p) (tTt X.K C (.and a b)) := by
  refine (pw_and ha hb).of fun σ H Q ⟨ρ, F, Z, q0, ρ', w, he, k⟩ => ?_
  simp only [evT] at he
  split at he
  · rename_i ρ1 ea
    refine ⟨ρ, F, Z, true, ρ1, w, ea, fun H1 F1 Z1 s1 w1 => ?_⟩
    exact iteT ⟨ρ1, F1, Z1, q0, ρ', w1, he, fun H2 F2 Z2 s2 w2 => k H2 F2 Z2 (s1.seq s2 (fun _ => ml) (fun _ => mr)) w2⟩
  · rename_i nt
    refine ⟨ρ, F, Z, q0, ρ', w, he, fun H1 F1 Z1 s1 w1 => ?_⟩
    cases q0 with
    | true => exact absurd he (by
        intro z
        exact nt ρ' z)
    | false =>
      exact iteF (k H1 F1 Z1 (s1.more fun _ => ml) w1)
theorem st_or {a b : IT} {x y : Expr} {r : List Expr} {p : Pos} (ha : PT X x (tTt X.K C a)) (hb : PW X (.BoolOp .Or (y :: r) p) (tTt X.K C b)) : PW X (.BoolOp .Or (x :: y :: r) p) (tTt X.K C (.or a b)) := by
  refine (pw_or ha hb).of fun σ H Q ⟨ρ, F, Z, q0, ρ', w, he, k⟩ => ?_
  simp only [evT] at he
  split at he
  · rename_i ρ1 ea
    refine ⟨ρ, F, Z, false, ρ1, w, ea, fun H1 F1 Z1 s1 w1 => ?_⟩
    exact iteF ⟨ρ1, F1, Z1, q0, ρ', w1, he, fun H2 F2 Z2 s2 w2 => k H2 F2 Z2 (s1.seq s2 (fun _ => ml) (fun _ => mr)) w2⟩
  · rename_i nt
    refine ⟨ρ, F, Z, q0, ρ', w, he, fun H1 F1 Z1 s1 w1 => ?_⟩
    cases q0 with
    | false => exact absurd he (by
        intro z
        exact nt ρ' z)
    | true =>
      exact iteT (k H1 F1 Z1 (s1.more fun _ => ml) w1)
theorem st_one {op : BoolOp} {a : IT} {x : Expr} {p : Pos} (ha : PT X x (tTt X.K C a)) : PW X (.BoolOp op [x] p) (tTt X.K C (.one a)) := by
  have h : ∀ σ H Q, tTt X.K C (.one a) σ H Q → tTt X.K C a σ H Q := fun σ H Q ⟨ρ, F, Z, q0, ρ', w, he, k⟩ => ⟨ρ, F, Z, q0, ρ', w, by simpa only [evT] using he, k⟩
  cases op with
  | And => exact (pw_and1 ha).of h
  | Or => exact (pw_or1 ha).of h
theorem st_not {a : IT} {x : Expr} {p : Pos} (ha : PT X x (tTt X.K C a)) : PT X (.UnaryOp .Not x p) (tTt X.K C (.not a)) := by
  refine (pt_not ha).of fun σ H Q ⟨ρ, F, Z, q0, ρ', w, he, k⟩ => ?_
  simp only [evT] at he
  split at he
  · rename_i q ρ1 ea
    cases he
    exact ⟨ρ, F, Z, q, _, w, ea, k⟩
  · cases he
/-! ### a slot frozen -/
theorem W.freeze {K : Fr'} {H : Hp} {ρ : List Slot} {σ : L2.St} {F : Fa} {Z : Addr → Prop} {i : Nat} {c : D} (w : W K H ρ σ F Z) (e : ρ[i]? = some (.own c)) : W K H (ρ.set i (.bor c)) σ (fset F i []) (fun a => Z a ∧ a ∉ F i) ∧ Step [i] H ρ F Z H (ρ.set i (.bor c)) (fset F i []) (fun a => Z a ∧ a ∉ F i) := by
  obtain ⟨w0, s0, o0⟩ := w.empty e
  have sub : ∀ j a, a ∈ fset F i [] j → a ∈ F j ∧ j ≠ i := fun j a m => by
    by_cases hj : j = i
    · subst hj
      rw [fset_same] at m
      cases m
    · rw [fset_ne hj] at m
      exact ⟨m, hj⟩
  obtain ⟨v, hv, ho⟩ := w.slot i _ e
  refine ⟨⟨by rw [List.length_set]; exact w.len, fun j hj => ?_, fun j s q => ?_, w0.nodup, w0.disj, fun j a m => ⟨w0.zed j a m, fun q => w.disj j i a (sub j a m).2 (sub j a m).1 q⟩⟩,
    ⟨s0.keep, s0.there, fun j hj => ?_, s0.own, fun a z => .inl z.1, fun a z n => ?_⟩⟩
  · have := w0.out j (by rw [List.length_set] at hj ⊢; exact hj)
    exact this
  · by_cases h : j = i
    · subst h
      rw [get_set_self e] at q
      cases q
      exact ⟨fset_same, v, hv, ho.bor fun a m z => z.2 m⟩
    · rw [get_set_ne h] at q
      exact (w.slot j s q).keep (fset_ne h) (fun _ _ e _ => e) fun a z _ y => z y.1
  · have hn : j ≠ i := fun q => hj (by simp [q])
    exact ⟨get_set_ne hn, fset_ne hn⟩
  · by_cases h : a ∈ F i
    · exact .inr ⟨i, by simp, h⟩
    · exact .inl ⟨z, h⟩
theorem se_fz {i : Nat} {e : IE} {x : Expr} (ha : PE X x (tE X.K C e)) : PE X x (tE X.K C (.fz i e)) := by
  refine ha.of fun σ H Q ⟨ρ, F, Z, d, st, ρ', w, he, k⟩ => ?_
  simp only [ev] at he
  split at he
  · rename_i d' j ρ1 ea
    obtain ⟨c, he⟩ : _ ∧ _ := by
      split at he
      · rename_i c
        exact ⟨c, he⟩
      · cases he
    subst c
    split at he
    · rename_i c e1
      cases he
      refine ⟨ρ, F, Z, _, _, ρ1, w, ea, fun v H1 F1 Z1 s1 w1 r1 => ?_⟩
      obtain ⟨w2, s2⟩ := w1.freeze e1
      refine k v H1 _ _ (s1.seq s2 (fun _ h => List.mem_cons_of_mem _ h) (fun q h => by
        rw [List.mem_singleton.mp h]
        exact List.mem_cons_self)) w2 ⟨[], ⟨rfl, ?_⟩, Fl.nil⟩
      obtain ⟨B, hb, _⟩ := r1
      exact hb.2.imp fun a z y => z.elim (fun q => y.2 q) fun q => q y.1
    · cases he
  · exact ⟨ρ, F, Z, d, st, ρ', w, he, fun v H1 F1 Z1 s1 w1 r1 => k v H1 F1 Z1 (s1.more fun _ h => List.mem_cons_of_mem _ h) w1 (r1.more fun _ h => List.mem_cons_of_mem _ h)⟩
/-! ### isinstance -/
def tyOfD : D → String
  | .none => "NoneType"
  | .bool _ => "bool"
  | .int _ => "int"
  | .str _ => "str"
  | .list _ => "list"
  | .tuple _ => "tuple"
  | .dict _ => "dict"
theorem tyX_of {K : Fr'} {H : Hp} {b : Bool} {P : Addr → Prop} {v : V} {d : D} (h : Bor K H b P v d) : TyX K H v (.type (tyOfD d)) := by
  cases h with
  | non => exact .base .non
  | bl b => exact .base (.bl b)
  | int i => exact .base (.int i)
  | str x => exact .base (.str x)
  | tup h t =>
    rcases h with (h | ⟨o, h⟩) | ⟨o, its, n, h, c, _⟩
    · exact .base (.tup h)
    · exact .fTuple h
    · exact .kTuple h c
  | lst h _ t => exact .base (.lst h)
  | lsk _ h t =>
    rcases h with ⟨o, h⟩ | ⟨o, its, n, h, c, _⟩
    · exact .base (.frz h)
    · exact .kList h c
theorem kit_one (K : Fr') (d : D) (t : Ty) : PySem.W.kitOne K (.type (tyOfD d)) (.type (tyn t)) = some (tyD t d) := by
  have h1 : ∀ t, kitB "NoneType" (tyn t) = some (tyD t .none) := fun t => by cases t <;> decide +kernel
  have h2 : ∀ t, kitB "bool" (tyn t) = some (tyD t (.bool true)) := fun t => by cases t <;> decide +kernel
  have h3 : ∀ t, kitB "int" (tyn t) = some (tyD t (.int 0)) := fun t => by cases t <;> decide +kernel
  have h4 : ∀ t, kitB "str" (tyn t) = some (tyD t (.str "")) := fun t => by cases t <;> decide +kernel
  have h5 : ∀ t, kitB "list" (tyn t) = some (tyD t (.list [])) := fun t => by cases t <;> decide +kernel
  have h6 : ∀ t, kitB "tuple" (tyn t) = some (tyD t (.tuple [])) := fun t => by cases t <;> decide +kernel
  have h7 : ∀ t, kitB "dict" (tyn t) = some (tyD t (.dict [])) := fun t => by cases t <;> decide +kernel
  cases d with
  | none => exact kit_ty (h1 t)
  | bool b => exact (kit_ty (h2 t)).trans (by cases t <;> rfl)
  | int b => exact (kit_ty (h3 t)).trans (by cases t <;> rfl)
  | str b => exact (kit_ty (h4 t)).trans (by cases t <;> rfl)
  | list b => exact (kit_ty (h5 t)).trans (by cases t <;> rfl)
  | tuple b => exact (kit_ty (h6 t)).trans (by cases t <;> rfl)
  | dict b => exact (kit_ty (h7 t)).trans (by cases t <;> rfl)
theorem kit_any (K : Fr') (d : D) : ∀ ts : List Ty, PySem.W.kitAny K (.type (tyOfD d)) (ts.map fun t => .type (tyn t)) = some (ts.any fun t => tyD t d)
  | [] => rfl
  | t :: ts => by
    have ih := kit_any K d ts
    unfold PySem.W.kitAny
    show (match PySem.W.kitOne K (.type (tyOfD d)) (.type (tyn t)) with
      | some true => some true
      | some false => PySem.W.kitAny K (.type (tyOfD d)) (ts.map fun t => .type (tyn t))
      | none => none) = some ((t :: ts).any fun t => tyD t d)
    rw [kit_one, List.any_cons]
    cases tyD t d with
    | true => rfl
    | false => exact ih
/-- the classes as values -/
theorem sa_tys (ok : Ok X G S C) : ∀ (ts : List Ty) (es : List Expr), chkTys G S ts es = true → PA X es (fun _ H Q => Q (ts.map fun t => V.ty (tyn t)) H)
  | [], [], _ => pa_nil
  | t :: ts, e :: es, h => by
    cases e with
    | Name n p =>
      simp only [chkTys, Bool.and_eq_true, decide_eq_true_eq] at h
      obtain ⟨⟨e1, h2⟩, h3⟩ := h
      unfold bltB gloB at h2
      simp only [Bool.and_eq_true] at h2
      obtain ⟨n1, n2, n3⟩ := nodun_ok h2.1.2
      have hv : bootBuiltins n = some (.type (tyn t)) := by
        rw [e1]
        cases t <;> decide +kernel
      have h1 : PE X (.Name n p) (tC (.ty (tyn t))) := pe_bltn (v := .ty (tyn t)) (glB_ok ok h2.1.1) (ok.blt n (by simpa using h2.2)) hv rfl n3 n1
      exact pa_cons h1 (sa_tys ok ts es h3) (star_of rfl)
    | _ => simp [chkTys] at h
  | [], _ :: _, h => by simp [chkTys] at h
  | _ :: _, [], h => by simp [chkTys] at h
theorem cls_all : ∀ ts : List Ty, Paired ClsV (ts.map fun t => V.ty (tyn t)) (ts.map fun t => Value.type (tyn t))
  | [] => .nil
  | t :: ts => .cons (.ty _) (cls_all ts)
theorem se_isi (ok : Ok X G S C) {a : IE} {ts : List Ty} {f : Str} {x t : Expr} {p pos : Pos} (hf : f = ("isinstance" : Str)) (hb : bltB G S f = true) (hx : notStar x = true) (ha : PE X x (tE X.K C a))
    (ht : (match ts, t with
      | [_], .Name _ _ => chkTys G S ts [t]
      | _, .Tuple ns _ _ => decide (ts.length < 20) && chkTys G S ts ns
      | _, _ => false) = true) : PE X (.Call (.Name f p) [x, t] [] pos) (tE X.K C (.isi a ts)) := by
  unfold bltB gloB at hb
  simp only [Bool.and_eq_true] at hb
  obtain ⟨⟨h1, h2⟩, h3⟩ := hb
  obtain ⟨n1, n2, n3⟩ := nodun_ok h2
  have hg : Gl X f := glB_ok ok h1
  have hm : X.mg f = none := ok.blt f (by simpa using h3)
  have hv : bootBuiltins f = some (.builtin "isinstance") := by
    rw [hf]
    decide +kernel
  have one : chkTys G S ts [t] = true → PE X (.Call (.Name f p) [x, t] [] pos) (tE X.K C (.isi a ts)) := fun ht => by
    have hst : notStar t = true := by
      cases t <;> first | rfl | (cases ts <;> simp [chkTys] at ht)
    obtain ⟨t0, e0⟩ : ∃ t0, ts = [t0] := by
      cases ts with
      | nil => simp [chkTys] at ht
      | cons t0 r =>
        cases r with
        | nil => exact ⟨t0, rfl⟩
        | cons _ _ => cases t <;> simp [chkTys] at ht
    subst e0
    refine (pe_callB call_isi hg hm hv (pa_cons ha (sa_tys ok [t0] [t] ht) (star_of hx)) n3 n1 (star_of hx) (pl_of (by simpa using hst))).of fun σ H Q ⟨ρ, F, Z, d, st, ρ', w, he, k⟩ => ?_
    simp only [ev] at he
    split at he
    · rename_i y sx ρ1 ea
      cases he
      refine ⟨ρ, F, Z, y, sx, _, w, ea, fun v H1 F1 Z1 s1 w1 r1 => ?_⟩
      refine ⟨v, .ty (tyn t0), .type (tyOfD y), .type (tyn t0), tyD t0 y, rfl, .ty _, tyX_of r1.bor, kit_one X.K y t0, ?_⟩
      have e : tyD t0 y = ([t0].any fun t => tyD t y) := by simp
      rw [e]
      exact k _ H1 F1 Z1 s1 w1 (fin_pure (b := true) (P := fun _ => True) rfl (.bl _))
    · cases he
  have many : ∀ ns k0 q, t = .Tuple ns k0 q → (decide (ts.length < 20) && chkTys G S ts ns) = true → PE X (.Call (.Name f p) [x, t] [] pos) (tE X.K C (.isi a ts)) := fun ns k0 q e0 ht => by
    subst e0
    simp only [Bool.and_eq_true, decide_eq_true_eq] at ht
    refine (pe_callB call_isiT hg hm hv (pa_cons ha (pa_cons (pe_tup (sa_tys ok ts ns ht.2)) pa_nil (star_of rfl)) (star_of hx)) n3 n1 (star_of hx) (pl_of rfl)).of fun σ H Q ⟨ρ, F, Z, d, st, ρ', w, he, k⟩ => ?_
    simp only [ev] at he
    split at he
    · rename_i y sx ρ1 ea
      cases he
      refine ⟨ρ, F, Z, y, sx, _, w, ea, fun v H1 F1 Z1 s1 w1 r1 => ⟨?_, fun q n => ?_⟩⟩
      · rw [List.length_map]
        exact lim_line (Nat.le_trans (Nat.le_of_lt ht.1) (by decide))
      · obtain ⟨w2, s2⟩ := w1.grow (o := .tup (ts.map fun t => V.ty (tyn t))) n
        have hb2 : Bor X.K (upd H1 q (.tup (ts.map fun t => V.ty (tyn t)))) true (fun _ => True) v y := r1.bor.keep (fun a u e _ => upd_kept n a u e) fun _ z _ => z
        exact ⟨v, q, _, .type (tyOfD y), _, _, rfl, upd_same, cls_all ts, tyX_of hb2, kit_any X.K y ts, k _ _ F1 Z1 (s1.seq s2 (fun _ h => h) (fun _ h => nomatch h)) w2 (fin_pure (b := true) (P := fun _ => True) rfl (.bl _))⟩
    · cases he
  split at ht
  · exact one ht
  · exact many _ _ _ rfl ht
  · cases ht
end
end Zr

set_option maxRecDepth 100000
set_option maxHeartbeats 8000000
/-! ZrK2: chains of three, ranges as values, slices by a step, methods that read. -/
namespace Zr
open PySem PySem.Spec PyProof.Rows L2
section
variable {X : Cx} {G : Gx} {S : Sx} {C : CallF}
/-! ### a op b op c op d -/
def tChain3 (r1 r2 r3 : R2) (ta tb tc td : TE) : TE := fun σ H Q => ta σ H fun x H1 => tb σ H1 fun y H2 => r1 x y H2 fun z H3 => ∃ k, z = .bl k ∧
  (if k = true then tc σ H3 fun u H4 => r2 y u H4 fun z2 H5 => ∃ k2, z2 = .bl k2 ∧ (if k2 = true then td σ H5 fun w H6 => r3 u w H6 Q else Q (.bl false) H5) else Q (.bl false) H3)
theorem pe_chain3 {o1 o2 o3 : CmpOp} {r1 r2 r3 : R2} {a b c d : Expr} {ta tb tc td : TE} {pos : Pos} (h1 : OpR X (compareOp o1) r1) (h2 : OpR X (compareOp o2) r2) (h3 : OpR X (compareOp o3) r3) (ha : PE X a ta) (hb : PE X b tb) (hc : PE X c tc) (hd : PE X d td)
    (hm : lastMarks [o1, o2, o3] [b, c, d] = false) : PE X (.Compare a [o1, o2, o3] [b, c, d] pos) (tChain3 r1 r2 r3 ta tb tc td) := by
  refine ⟨fun pins s σ H Q I h => ?_⟩
  refine Compare_chain (thn (ha.run pins s σ H _ I h) fun v s1 ⟨x, H1, I1, e1, q1⟩ => chain_link (thn (hb.run pins s1 σ H1 _ I1 q1) fun u s2 ⟨y, H2, I2, e2, q2⟩ =>
    thn (h1 pins s2 σ H2 x y v u _ I2 e1 e2 q2) fun t s3 ⟨z, H3, I3, e3, k, ez, q3⟩ => ?_)) hm
  subst ez
  cases e3
  refine wpAny_truthy_bool ?_
  cases k with
  | false => exact ite_ff ⟨.bl false, H3, I3, rfl, q3⟩
  | true =>
    refine ite_tt (chain_link (thn (hc.run pins s3 σ H3 _ I3 q3) fun u2 s4 ⟨y2, H4, I4, e4, q4⟩ => thn (h2 pins s4 σ H4 y y2 u u2 _ I4 e2 e4 q4) fun t2 s5 ⟨z2, H5, I5, e5, k2, ez2, q5⟩ => ?_))
    subst ez2
    cases e5
    refine wpAny_truthy_bool ?_
    cases k2 with
    | false => exact ite_ff ⟨.bl false, H5, I5, rfl, q5⟩
    | true => exact ite_tt (chain_last (thn (hd.run pins s5 σ H5 _ I5 q5) fun w s6 ⟨y3, H6, I6, e6, q6⟩ => h3 pins s6 σ H6 y2 y3 u2 w Q I6 e4 e6 q6))
theorem pt_chain3 {o1 o2 o3 : CmpOp} {r1 r2 r3 : R2} {a b c d : Expr} {ta tb tc td : TE} {pos : Pos} (h1 : OpR X (compareOp o1) r1) (h2 : OpR X (compareOp o2) r2) (h3 : OpR X (compareOp o3) r3) (ha : PE X a ta) (hb : PE X b tb) (hc : PE X c tc) (hd : PE X d td)
    (hm : lastMarks [o1, o2, o3] [b, c, d] = false) : PT X (.Compare a [o1, o2, o3] [b, c, d] pos) (tTest (tChain3 r1 r2 r3 ta tb tc td)) := by
  refine ⟨fun pins s σ H Q I h => ?_⟩
  refine isTrue_chain (thn (ha.run pins s σ H _ I h) fun v s1 ⟨x, H1, I1, e1, q1⟩ => test_link (thn (hb.run pins s1 σ H1 _ I1 q1) fun u s2 ⟨y, H2, I2, e2, q2⟩ =>
    thn (h1 pins s2 σ H2 x y v u _ I2 e1 e2 q2) fun t s3 ⟨z, H3, I3, e3, k, ez, q3⟩ => ?_)) hm
  subst ez
  cases e3
  refine wpAny_truthy_bool ?_
  cases k with
  | false =>
    obtain ⟨k', e', q'⟩ := q3
    cases e'
    exact ite_ff ⟨H3, I3, q'⟩
  | true =>
    refine ite_tt (test_link (thn (hc.run pins s3 σ H3 _ I3 q3) fun u2 s4 ⟨y2, H4, I4, e4, q4⟩ => thn (h2 pins s4 σ H4 y y2 u u2 _ I4 e2 e4 q4) fun t2 s5 ⟨z2, H5, I5, e5, k2, ez2, q5⟩ => ?_))
    subst ez2
    cases e5
    refine wpAny_truthy_bool ?_
    cases k2 with
    | false =>
      obtain ⟨k', e', q'⟩ := q5
      cases e'
      exact ite_ff ⟨H5, I5, q'⟩
    | true =>
      refine ite_tt (test_last (thn (hd.run pins s5 σ H5 _ I5 q5) fun w s6 ⟨y3, H6, I6, e6, q6⟩ => thn (h3 pins s6 σ H6 y2 y3 u2 w _ I6 e4 e6 q6) fun t3 s7 ⟨z3, H7, I7, e7, k3, ez3, q7⟩ => ?_))
      subst ez3
      cases e7
      exact wpAny_truthy_bool ⟨H7, I7, q7⟩
theorem chain3_to (ok : Ok X G S C) {o1 o2 o3 : CmpOp} {a b c d : IE} {σ : L2.St} {H : Hp} {Q : VK} (h : tE X.K C (.chain3 o1 o2 o3 a b c d) σ H Q) : tChain3 (rCmp X.K o1) (rCmp X.K o2) (rCmp X.K o3) (tE X.K C a) (tE X.K C b) (tE X.K C c) (tE X.K C d) σ H Q := by
  obtain ⟨ρ, F, Z, dd, st, ρ', w, he, k⟩ := h
  simp only [ev] at he
  split at he
  · rename_i x sx ρ1 ea
    split at he
    · rename_i y sy ρ2 eb
      split at he
      · rename_i cc
        split at he
        · rename_i ek
          split at he
          · rename_i z sz ρ3 ec
            split at he
            · rename_i cd
              split at he
              · rename_i ek2
                split at he
                · rename_i u su ρ4 ed
                  split at he
                  · rename_i ce
                    split at he
                    · rename_i q eq
                      cases he
                      refine ⟨ρ, F, Z, x, sx, ρ1, w, ea, fun v1 H1 F1 Z1 s1 w1 r1 => ⟨ρ1, F1, Z1, y, sy, ρ2, w1, eb, fun v2 H2 F2 Z2 s2 w2 r2 => ⟨x, y, true, (r1.over w1 s2 cc).bor, r2.bor, ek, true, rfl, ?_⟩⟩⟩
                      rw [if_pos rfl]
                      refine ⟨ρ2, F2, Z2, z, sz, ρ3, w2, ec, fun v3 H3 F3 Z3 s3 w3 r3 => ⟨y, z, true, (r2.over w2 s3 cd).bor, r3.bor, ek2, true, rfl, ?_⟩⟩
                      rw [if_pos rfl]
                      refine ⟨ρ3, F3, Z3, u, su, _, w3, ed, fun v4 H4 F4 Z4 s4 w4 r4 => ⟨z, u, q, (r3.over w3 s4 ce).bor, r4.bor, eq, ?_⟩⟩
                      exact k _ H4 F4 Z4 (s1.seq (s2.trans (s3.trans s4)) (fun _ => ml) (fun _ => mr)) w4 (fin_pure (b := true) (P := fun _ => True) rfl (.bl _))
                    · cases he
                  · cases he
                · cases he
              · rename_i ek2
                cases he
                refine ⟨ρ, F, Z, x, sx, ρ1, w, ea, fun v1 H1 F1 Z1 s1 w1 r1 => ⟨ρ1, F1, Z1, y, sy, ρ2, w1, eb, fun v2 H2 F2 Z2 s2 w2 r2 => ⟨x, y, true, (r1.over w1 s2 cc).bor, r2.bor, ek, true, rfl, ?_⟩⟩⟩
                rw [if_pos rfl]
                refine ⟨ρ2, F2, Z2, z, sz, _, w2, ec, fun v3 H3 F3 Z3 s3 w3 r3 => ⟨y, z, false, (r2.over w2 s3 cd).bor, r3.bor, ek2, false, rfl, ?_⟩⟩
                rw [if_neg (by decide)]
                exact k _ H3 F3 Z3 (s1.seq (s2.trans s3) (fun _ => ml) (fun j h => mr ((List.mem_append.mp h).elim ml fun g => mr (ml g)))) w3 (fin_pure (b := true) (P := fun _ => True) rfl (.bl _))
              · cases he
            · cases he
          · cases he
        · rename_i ek
          cases he
          refine ⟨ρ, F, Z, x, sx, ρ1, w, ea, fun v H1 F1 Z1 s1 w1 r1 => ⟨ρ1, F1, Z1, y, sy, _, w1, eb, fun u H2 F2 Z2 s2 w2 r2 => ⟨x, y, false, (r1.over w1 s2 cc).bor, r2.bor, ek, false, rfl, ?_⟩⟩⟩
          rw [if_neg (by decide)]
          exact k _ H2 F2 Z2 (s1.seq s2 (fun _ => ml) (fun _ h => mr (ml h))) w2 (fin_pure (b := true) (P := fun _ => True) rfl (.bl _))
        · cases he
      · cases he
    · cases he
  · cases he
theorem chain3_bool {o1 o2 o3 : CmpOp} {a b c d : IE} {ρ ρ' : Ro} {x : D} {st : Stat} (h : ev C (.chain3 o1 o2 o3 a b c d) ρ = some (x, st, ρ')) : ∃ q, x = .bool q := by
  simp only [ev] at h
  repeat' (split at h)
  all_goals first | (cases h; done) | (cases h; exact ⟨_, rfl⟩)
theorem se_chain3 (ok : Ok X G S C) {o1 o2 o3 : CmpOp} {a b c d : IE} {l m1 m2 r : Expr} {p : Pos} (hm : lastMarks [o1, o2, o3] [m1, m2, r] = false) (ha : PE X l (tE X.K C a)) (hb : PE X m1 (tE X.K C b)) (hc : PE X m2 (tE X.K C c)) (hd : PE X r (tE X.K C d)) :
    PE X (.Compare l [o1, o2, o3] [m1, m2, r] p) (tE X.K C (.chain3 o1 o2 o3 a b c d)) := (pe_chain3 (op_cmp ok.units o1) (op_cmp ok.units o2) (op_cmp ok.units o3) ha hb hc hd hm).of fun σ H Q h => chain3_to ok h
theorem st_chain3 (ok : Ok X G S C) {o1 o2 o3 : CmpOp} {a b c d : IE} {l m1 m2 r : Expr} {p : Pos} (hm : lastMarks [o1, o2, o3] [m1, m2, r] = false) (ha : PE X l (tE X.K C a)) (hb : PE X m1 (tE X.K C b)) (hc : PE X m2 (tE X.K C c)) (hd : PE X r (tE X.K C d)) :
    PT X (.Compare l [o1, o2, o3] [m1, m2, r] p) (tTt X.K C (.cmp (.chain3 o1 o2 o3 a b c d))) := by
  refine (pt_chain3 (op_cmp ok.units o1) (op_cmp ok.units o2) (op_cmp ok.units o3) ha hb hc hd hm).of fun σ H Q ⟨ρ, F, Z, q0, ρ', w, he, k⟩ => ?_
  simp only [evT] at he
  split at he
  · rename_i q1 s1 ρ0 he1
    cases he
    refine chain3_to (Q := fun x H' => ∃ k, x = .bl k ∧ Q k H') ok ⟨ρ, F, Z, _, s1, _, w, he1, fun v H' F' Z' s w' r => ⟨_, r.bor.bool', k H' F' Z' s w'⟩⟩
  · cases he
/-! ### list(range(..)), tuple(range(..)) -/
theorem bor_rg {K : Fr'} {H : Hp} {b : Bool} {P : Addr → Prop} (i j : Int) : BorL K H b P (rgV i j) (rangeD i (j - i).toNat) := by
  unfold rgV rangeD
  generalize List.range (j - i).toNat = l
  induction l with
  | nil => exact .nil
  | cons x l ih => exact .cons (.int _) ih
theorem purs_range (i : Int) (n : Nat) : purs (rangeD i n) = true := purs_of fun d m => by
  obtain ⟨k, _, e⟩ := List.mem_map.mp m
  rw [← e]
  rfl
theorem NewD.rg {K : Fr'} {H : Hp} {p : Addr} {i j : Int} (n : H p = none) : NewD K H (upd H p (.lst (rgV i j))) (.ref p) (.list (rangeD i (j - i).toNat)) := NewD.lst (b := true) (P := fun _ => True) n (purs_range _ _) (bor_rg i j)
theorem NewD.rgT {K : Fr'} {H : Hp} {p : Addr} {i j : Int} (n : H p = none) : NewD K H (upd H p (.tup (rgV i j))) (.ref p) (.tuple (rangeD i (j - i).toNat)) := NewD.tup (b := true) (P := fun _ => True) n (purs_range _ _) (bor_rg i j)
theorem blt_ok (ok : Ok X G S C) {f : Str} (hb : bltB G S f = true) : Gl X f ∧ X.mg f = none := by
  unfold bltB gloB at hb
  simp only [Bool.and_eq_true] at hb
  exact ⟨glB_ok ok hb.1.1, ok.blt f (by simpa using hb.2)⟩
theorem se_rng1V (ok : Ok X G S C) {tp : Bool} {a : IE} {f g : Str} {x : Expr} {p p2 pos pos2 : Pos} (hf : f = (if tp then ("tuple" : Str) else "list")) (hb : bltB G S f = true) (hg : g = ("range" : Str)) (hb2 : bltB G S g = true) (hx : notStar x = true) (ha : PE X x (tE X.K C a)) :
    PE X (.Call (.Name f p) [.Call (.Name g p2) [x] [] pos2] [] pos) (tE X.K C (.rng1V tp a)) := by
  obtain ⟨f1, f2⟩ := blt_ok ok hb
  obtain ⟨g1, g2⟩ := blt_ok ok hb2
  subst hf hg
  have rg := prg_1 (p := p2) (pos := pos2) g1 g2 ha (star_of hx)
  have lim' : ∀ j : Int, j < lim → -(lim : Int) < j → RgOk 0 j := fun j h1 h2 => by
    have e : (lim : Int) = 1000000 := rfl
    exact ⟨by omega, by omega, by omega, by omega, by omega⟩
  cases tp with
  | true =>
    refine (pe_tupRg ok.calm f1 f2 rg).of fun σ H Q ⟨ρ, F, Z, d, st, ρ', w, he, k⟩ => ?_
    simp only [ev] at he
    split at he
    · rename_i j sx ρ1 ea
      obtain ⟨c, e⟩ := ifs he
      cases e
      refine ⟨ρ, F, Z, _, sx, _, w, ea, fun v H1 F1 Z1 s1 w1 r1 => ⟨j, r1.bor.int', lim' j c.1 c.2, fun q n => ?_⟩⟩
      have nd := NewD.rgT (K := X.K) (i := 0) (j := j) n
      rw [Int.sub_zero] at nd
      obtain ⟨Z2, s2, w2, r2⟩ := fin_new s1 w1 nd
      exact k _ _ F1 Z2 s2 w2 r2
    · cases he
  | false =>
    refine (pe_listRg ok.calm f1 f2 rg).of fun σ H Q ⟨ρ, F, Z, d, st, ρ', w, he, k⟩ => ?_
    simp only [ev] at he
    split at he
    · rename_i j sx ρ1 ea
      obtain ⟨c, e⟩ := ifs he
      cases e
      refine ⟨ρ, F, Z, _, sx, _, w, ea, fun v H1 F1 Z1 s1 w1 r1 => ⟨j, r1.bor.int', lim' j c.1 c.2, fun q n => ?_⟩⟩
      have nd := NewD.rg (K := X.K) (i := 0) (j := j) n
      rw [Int.sub_zero] at nd
      obtain ⟨Z2, s2, w2, r2⟩ := fin_new s1 w1 nd
      exact k _ _ F1 Z2 s2 w2 r2
    · cases he
theorem se_rng2V (ok : Ok X G S C) {tp : Bool} {a b : IE} {f g : Str} {x y : Expr} {p p2 pos pos2 : Pos} (hf : f = (if tp then ("tuple" : Str) else "list")) (hb : bltB G S f = true) (hg : g = ("range" : Str)) (hb2 : bltB G S g = true) (hx : notStar x = true) (hy : notStar y = true) (ha : PE X x (tE X.K C a)) (hb' : PE X y (tE X.K C b)) :
    PE X (.Call (.Name f p) [.Call (.Name g p2) [x, y] [] pos2] [] pos) (tE X.K C (.rng2V tp a b)) := by
  obtain ⟨f1, f2⟩ := blt_ok ok hb
  obtain ⟨g1, g2⟩ := blt_ok ok hb2
  subst hf hg
  have rg := prg_2 (p := p2) (pos := pos2) g1 g2 ha hb' (star_of hx) (star_of hy) (pl_of (by simp [hy]))
  have lim' : ∀ i j : Int, j < lim → -(lim : Int) < j → i < lim → -(lim : Int) < i → (j - i).toNat ≤ lim → RgOk i j := fun i j h1 h2 h3 h4 h5 => by
    have e : (lim : Int) = 1000000 := rfl
    have e2 : lim = 1000000 := rfl
    exact ⟨by omega, by omega, by omega, by omega, by omega⟩
  cases tp with
  | true =>
    refine (pe_tupRg ok.calm f1 f2 rg).of fun σ H Q ⟨ρ, F, Z, d, st, ρ', w, he, k⟩ => ?_
    simp only [ev] at he
    split at he
    · rename_i i sx ρ1 ea
      split at he
      · rename_i j sy ρ2 eb
        obtain ⟨c, e⟩ := ifs he
        cases e
        refine ⟨ρ, F, Z, _, sx, _, w, ea, fun v H1 F1 Z1 s1 w1 r1 => ⟨ρ1, F1, Z1, _, sy, _, w1, eb, fun u H2 F2 Z2 s2 w2 r2 => ⟨i, j, (r1.over w1 s2 c.1).bor.int', r2.bor.int', lim' i j c.2.1 c.2.2.1 c.2.2.2.1 c.2.2.2.2.1 c.2.2.2.2.2, fun q n => ?_⟩⟩⟩
        obtain ⟨Z3, s3, w3, r3⟩ := fin_new (s1.seq s2 (fun _ => ml) (fun _ => mr)) w2 (NewD.rgT (K := X.K) (i := i) (j := j) n)
        exact k _ _ F2 Z3 s3 w3 r3
      · cases he
    · cases he
  | false =>
    refine (pe_listRg ok.calm f1 f2 rg).of fun σ H Q ⟨ρ, F, Z, d, st, ρ', w, he, k⟩ => ?_
    simp only [ev] at he
    split at he
    · rename_i i sx ρ1 ea
      split at he
      · rename_i j sy ρ2 eb
        obtain ⟨c, e⟩ := ifs he
        cases e
        refine ⟨ρ, F, Z, _, sx, _, w, ea, fun v H1 F1 Z1 s1 w1 r1 => ⟨ρ1, F1, Z1, _, sy, _, w1, eb, fun u H2 F2 Z2 s2 w2 r2 => ⟨i, j, (r1.over w1 s2 c.1).bor.int', r2.bor.int', lim' i j c.2.1 c.2.2.1 c.2.2.2.1 c.2.2.2.2.1 c.2.2.2.2.2, fun q n => ?_⟩⟩⟩
        obtain ⟨Z3, s3, w3, r3⟩ := fin_new (s1.seq s2 (fun _ => ml) (fun _ => mr)) w2 (NewD.rg (K := X.K) (i := i) (j := j) n)
        exact k _ _ F2 Z3 s3 w3 r3
      · cases he
    · cases he
/-! ### slices by a step -/
theorem se_sls {a : IE} {lo hi : IO} {st : Int} {l : Expr} {lo' hi' : Option Expr} {i : Int} {k : Nat} {p p1 p2 p3 : Pos} (hs : st = -i) (ha : PE X l (tE X.K C a)) (hl : PO X lo' (tOs X.K C lo)) (hh : PO X hi' (tOs X.K C hi)) :
    PE X (.Subscript l (.Slice lo' hi' (some (.UnaryOp .USub (.Constant (.int i) k p1) p2)) p3) p) (tE X.K C (.sls a lo hi st)) := by
  subst hs
  refine (pe_sls ha hl hh).of fun σ H Q ⟨ρ, F, Z, d, st, ρ', w, he, kk⟩ => ?_
  simp only [ev] at he
  split at he
  · rename_i x sx ρ1 ea
    split at he
    · rename_i u ρ2 eb
      split at he
      · rename_i j ρ3 ec
        split at he
        · rename_i c
          split at he
          · rename_i d' ed
            cases he
            refine ⟨ρ, F, Z, x, sx, ρ1, w, ea, fun v H1 F1 Z1 s1 w1 r1 => ⟨ρ1, F1, Z1, u, ρ2, w1, eb, fun H2 F2 Z2 s2 w2 => ⟨ρ2, F2, Z2, j, _, w2, ec, fun H3 F3 Z3 s3 w3 => ⟨x, _, (r1.over w1 (s2.trans s3) c).bor, ed, fun z H4 nd => ?_⟩⟩⟩⟩
            obtain ⟨Z4, s4, w4, r4⟩ := fin_new (s1.seq (s2.trans s3) (E := effE (.sls a lo hi (-i))) (fun _ => ml) (fun _ => mr)) w3 nd
            exact kk z H4 F3 Z4 s4 w4 r4
          · cases he
        · cases he
      · cases he
    · cases he
  · cases he
/-! ### methods that read -/
theorem pair_if' {c : Bool} {α : Type} {a : Option α} {x : α} (h : (if c = true then a else none) = some x) : c = true ∧ a = some x := by
  cases c with
  | true => exact ⟨rfl, by simpa using h⟩
  | false => simp at h
theorem base_plain {o : Expr} {a : Str} {env : Env} {t : Sem Value} (h : plainBase o = true) : attributeBase o a env t = t := by
  unfold attributeBase
  split
  · cases h
  · rfl
theorem meth_core {m : Me} {o : IE} {es : IEs} {σ : L2.St} {H : Hp} {Q : VK} (hu : X.A.units + 64 < cLine) (h : tE X.K C (.meth m o es) σ H Q) :
    ∃ r, MtR X (match m with | .join => "str.join" | .index => "list.index" | .count => "list.count") r ∧ tBM X.K (match m with | .join => "str" | .index => "list" | .count => "list") r (tE X.K C o) (tAs X.K C es) σ H Q := by
  obtain ⟨ρ, F, Z, d, st, ρ', w, he, k⟩ := h
  simp only [ev] at he
  split at he
  · rename_i x sx ρ1 ea
    split at he
    · rename_i ds ρ2 eb
      split at he
      · rename_i c
        split at he
        · rename_i d' ed
          cases he
          have S12 : ∀ {H1 H2 : Hp} {F1 F2 : Fa} {Z1 Z2 : Addr → Prop}, Step (effE o) H ρ F Z H1 ρ1 F1 Z1 → Step (effs es) H1 ρ1 F1 Z1 H2 ρ' F2 Z2 → Step (effE (.meth m o es)) H ρ F Z H2 ρ' F2 Z2 := fun s1 s2 => s1.seq s2 (fun _ => ml) (fun _ => mr)
          unfold meD at ed
          split at ed
          · rename_i z xs edl
            split at ed
            · rename_i ys et
              obtain ⟨cl, ed⟩ := ifs ed
              subst ed
              refine ⟨_, mt_join, ρ, F, Z, _, sx, ρ1, w, ea, fun v H1 F1 Z1 s1 w1 r1 => ?_⟩
              obtain rfl := r1.bor.str'
              refine ⟨rfl, ρ1, F1, Z1, ds, _, w1, eb, fun vs H2 F2 Z2 s2 w2 r2 => ?_⟩
              have b2 := r2.bor
              rw [edl] at b2
              obtain ⟨v2, rfl, h2⟩ := b2.one
              obtain ⟨a, us, rfl, h3, h4⟩ := h2.list
              have e2 := toStrs_eq et
              subst e2
              obtain rfl := h4.strs
              rw [lensS_eq] at cl
              refine ⟨z, a, ys, rfl, rfl, .inl h3, by have : lim = 1000000 := rfl; omega, ?_⟩
              have ej : Txt.join z ys = joinS z ys := by
                rw [joinS_eq]
                exact PySem.StrLaws.glued_eq_join z ys
              rw [ej]
              exact k _ H2 F2 Z2 (S12 s1 s2) w2 (fin_pure (b := true) (P := fun _ => True) rfl (.str _))
            · cases ed
          · rename_i xs y edl
            obtain ⟨cl, ed⟩ := pair_if' ed
            simp only [Bool.and_eq_true, decide_eq_true_eq] at cl
            obtain ⟨j, ej, rfl⟩ := Option.map_eq_some_iff.mp ed
            refine ⟨_, mt_idx hu, ρ, F, Z, _, sx, ρ1, w, ea, fun v H1 F1 Z1 s1 w1 r1 => ?_⟩
            obtain ⟨a1, us1, ev1, h1, _⟩ := r1.bor.list
            subst ev1
            refine ⟨.inl ⟨rfl, us1, h1⟩, ρ1, F1, Z1, ds, _, w1, eb, fun vs H2 F2 Z2 s2 w2 r2 => ?_⟩
            have b2 := r2.bor
            rw [edl] at b2
            obtain ⟨v2, rfl, h2⟩ := b2.one
            obtain ⟨a3, us3, e3, h3, h4⟩ := (r1.over w1 s2 c).bor.list
            cases e3
            exact ⟨a1, us3, xs, v2, y, j, rfl, rfl, h3, h4, h2, cl.1.1, cl.1.2, cl.2, ej, k _ H2 F2 Z2 (S12 s1 s2) w2 (fin_pure (b := true) (P := fun _ => True) rfl (.int _))⟩
          · rename_i xs y edl
            obtain ⟨cl, ed⟩ := ifs ed
            simp only [Bool.and_eq_true, decide_eq_true_eq] at cl
            subst ed
            refine ⟨_, mt_cnt hu, ρ, F, Z, _, sx, ρ1, w, ea, fun v H1 F1 Z1 s1 w1 r1 => ?_⟩
            obtain ⟨a1, us1, ev1, h1, _⟩ := r1.bor.list
            subst ev1
            refine ⟨.inl ⟨rfl, us1, h1⟩, ρ1, F1, Z1, ds, _, w1, eb, fun vs H2 F2 Z2 s2 w2 r2 => ?_⟩
            have b2 := r2.bor
            rw [edl] at b2
            obtain ⟨v2, rfl, h2⟩ := b2.one
            obtain ⟨a3, us3, e3, h3, h4⟩ := (r1.over w1 s2 c).bor.list
            cases e3
            exact ⟨a1, us3, xs, v2, y, rfl, rfl, h3, h4, h2, cl.1.1, cl.1.2, cl.2, k _ H2 F2 Z2 (S12 s1 s2) w2 (fin_pure (b := true) (P := fun _ => True) rfl (.int _))⟩
          · cases ed
        · cases he
      · cases he
    · cases he
  · cases he
theorem se_meth (ok : Ok X G S C) {m : Me} {o : IE} {es : IEs} {ox : Expr} {a : Str} {ap cp : Pos} {x : Expr} {xs : List Expr} (hm : a = men m) (hb : plainBase ox = true) (hl : (ap.endLine == cp.line) = true) (hn : (x :: xs).length < 20) (hs : (x :: xs).all notStar = true) (ho : PE X ox (tE X.K C o)) (ha : PA X (x :: xs) (tAs X.K C es)) :
    PE X (.Call (.Attribute ox a ap) (x :: xs) [] cp) (tE X.K C (.meth m o es)) := by
  refine ⟨fun pins s σ H Q I h => ?_⟩
  obtain ⟨r, hr, hA⟩ := meth_core ok.units h
  subst hm
  have hy : notStar x = true ∧ xs.all notStar = true := by simpa using hs
  cases m
  · exact (pe_bm PySem.F.plainAttrs_str PySem.F.slot_str_join PySem.F.type_str_join hr ho ha (base_plain hb) (few_of hs hn) hl (star_of hy.1) (pl_of hy.2)).run pins s σ H Q I hA
  · exact (pe_bm PySem.F.plainAttrs_list PySem.F.slot_list_count PySem.F.type_list_count hr ho ha (base_plain hb) (few_of hs hn) hl (star_of hy.1) (pl_of hy.2)).run pins s σ H Q I hA
  · exact (pe_bm PySem.F.plainAttrs_list PySem.F.slot_list_index PySem.F.type_list_index hr ho ha (base_plain hb) (few_of hs hn) hl (star_of hy.1) (pl_of hy.2)).run pins s σ H Q I hA
/-! ### a module's dict with text keys -/
theorem tab_ok (ok : Ok X G S C) {x y : Str} {kvs : List (Str × D)} (h : tabB G S x y kvs = true) : Gl X y ∧ (y == ("__debug__" : Str)) = false ∧ y ≠ ("__name__" : Str) ∧ TabF X.K X.w X.mg y kvs := by
  unfold tabB gloB at h
  simp only [Bool.and_eq_true, decide_eq_true_eq] at h
  obtain ⟨⟨e, h1, h2⟩, h3⟩ := h
  subst e
  obtain ⟨n1, n2, n3⟩ := nodun_ok h2
  obtain ⟨p, m, hp⟩ := List.any_eq_true.mp h3
  simp only [Bool.and_eq_true, decide_eq_true_eq] at hp
  have t := ok.tab p m
  rw [hp.1, kvsEq_eq hp.2] at t
  exact ⟨glB_ok ok h1, n1, n3, t⟩
theorem cin_core {neg : Bool} {a : IE} {x y : Str} {kvs : List (Str × D)} {d : Addr} (m2 : ∀ y, kvs.lookup y = none → PySem.W.nsIn X.K d y = some none) (m3 : ∀ y dv, kvs.lookup y = some dv → ∃ u v, PySem.W.nsIn X.K d y = some (some u) ∧ RelV v u ∧ ∀ H, Bor X.K H false (fun _ => True) v dv) {σ : L2.St} {H : Hp} {Q : VK}
    (h : tE X.K C (.cin neg a x kvs) σ H Q) : tE X.K C a σ H fun v H1 => ∃ z r, v = .str z ∧ PySem.W.nsIn X.K d z = some r ∧ Q (.bl (if neg then !r.isSome else r.isSome)) H1 := by
  obtain ⟨ρ, F, Z, dd, st, ρ', w, he, k⟩ := h
  simp only [ev] at he
  split at he
  · rename_i z sx ρ1 ea
    cases he
    refine ⟨ρ, F, Z, _, sx, _, w, ea, fun v H1 F1 Z1 s1 w1 r1 => ?_⟩
    have fin := k (.bl (if neg then !(kvs.lookup z).isSome else (kvs.lookup z).isSome)) H1 F1 Z1 s1 w1 (fin_pure (b := true) (P := fun _ => True) rfl (.bl _))
    cases e : kvs.lookup z with
    | none =>
      rw [e] at fin
      exact ⟨z, none, r1.bor.str', m2 z e, fin⟩
    | some dv =>
      obtain ⟨u, v', e1, _, _⟩ := m3 z dv e
      rw [e] at fin
      exact ⟨z, some u, r1.bor.str', e1, fin⟩
  · cases he
theorem se_cin (ok : Ok X G S C) {neg : Bool} {a : IE} {x y : Str} {kvs : List (Str × D)} {op : CmpOp} {l : Expr} {p p2 : Pos} (ho : op = (if neg then .NotIn else .In)) (h : tabB G S x y kvs = true) (ha : PE X l (tE X.K C a)) :
    PE X (.Compare l [op] [.Name y p2] p) (tE X.K C (.cin neg a x kvs)) := by
  obtain ⟨g1, g2, g3, d, es, n, m1, D, m2, m3⟩ := tab_ok ok h
  have pn : PE X (.Name y p2) (tC (.ref d)) := pe_glob g1 m1 rfl g2
  cases neg with
  | false =>
    simp only [Bool.false_eq_true, if_false] at ho
    subst ho
    refine (pe_cmpR (op_in_kd D) ha pn rfl).of fun σ H Q hq => ?_
    obtain ⟨ρ, F, Z, d', st, ρ', w, he, k⟩ := cin_core (y := y) m2 m3 hq
    exact ⟨ρ, F, Z, d', st, ρ', w, he, fun v H1 F1 Z1 s1 w1 r1 => by
      obtain ⟨z, r, ez, er, q⟩ := k v H1 F1 Z1 s1 w1 r1
      exact ⟨z, r, ez, rfl, er, q⟩⟩
  | true =>
    simp only [if_true] at ho
    subst ho
    refine (pe_cmpR (op_notIn_kd D) ha pn rfl).of fun σ H Q hq => ?_
    obtain ⟨ρ, F, Z, d', st, ρ', w, he, k⟩ := cin_core (y := y) m2 m3 hq
    exact ⟨ρ, F, Z, d', st, ρ', w, he, fun v H1 F1 Z1 s1 w1 r1 => by
      obtain ⟨z, r, ez, er, q⟩ := k v H1 F1 Z1 s1 w1 r1
      exact ⟨z, r, ez, rfl, er, q⟩⟩
theorem st_cin (ok : Ok X G S C) {neg : Bool} {a : IE} {x y : Str} {kvs : List (Str × D)} {op : CmpOp} {l : Expr} {p p2 : Pos} (ho : op = (if neg then .NotIn else .In)) (h : tabB G S x y kvs = true) (ha : PE X l (tE X.K C a)) :
    PT X (.Compare l [op] [.Name y p2] p) (tTt X.K C (.cmp (.cin neg a x kvs))) := by
  obtain ⟨g1, g2, g3, d, es, n, m1, D, m2, m3⟩ := tab_ok ok h
  have pn : PE X (.Name y p2) (tC (.ref d)) := pe_glob g1 m1 rfl g2
  have conv : ∀ {σ : L2.St} {H : Hp} {Q : Bool → Hp → Prop}, tTt X.K C (.cmp (.cin neg a x kvs)) σ H Q → tE X.K C (.cin neg a x kvs) σ H fun v H1 => ∃ k, v = .bl k ∧ Q k H1 := by
    rintro σ H Q ⟨ρ, F, Z, q0, ρ', w, he, k⟩
    simp only [evT] at he
    split at he
    · rename_i q1 s1 ρ0 he1
      cases he
      exact ⟨ρ, F, Z, _, s1, _, w, he1, fun v H' F' Z' s w' r => ⟨_, r.bor.bool', k H' F' Z' s w'⟩⟩
    · cases he
  cases neg with
  | false =>
    simp only [Bool.false_eq_true, if_false] at ho
    subst ho
    refine (pt_cmpR (op_in_kd D) ha pn rfl).of fun σ H Q hq => ?_
    obtain ⟨ρ, F, Z, d', st, ρ', w, he, k⟩ := cin_core (y := y) m2 m3 (conv hq)
    exact ⟨ρ, F, Z, d', st, ρ', w, he, fun v H1 F1 Z1 s1 w1 r1 => by
      obtain ⟨z, r, ez, er, q⟩ := k v H1 F1 Z1 s1 w1 r1
      exact ⟨z, r, ez, rfl, er, q⟩⟩
  | true =>
    simp only [if_true] at ho
    subst ho
    refine (pt_cmpR (op_notIn_kd D) ha pn rfl).of fun σ H Q hq => ?_
    obtain ⟨ρ, F, Z, d', st, ρ', w, he, k⟩ := cin_core (y := y) m2 m3 (conv hq)
    exact ⟨ρ, F, Z, d', st, ρ', w, he, fun v H1 F1 Z1 s1 w1 r1 => by
      obtain ⟨z, r, ez, er, q⟩ := k v H1 F1 Z1 s1 w1 r1
      exact ⟨z, r, ez, rfl, er, q⟩⟩
theorem se_cix (ok : Ok X G S C) {a : IE} {x y : Str} {kvs : List (Str × D)} {l : Expr} {p p2 : Pos} (h : tabB G S x y kvs = true) (hs : PlainIx l) (ha : PE X l (tE X.K C a)) : PE X (.Subscript (.Name y p2) l p) (tE X.K C (.cix x kvs a)) := by
  obtain ⟨g1, g2, g3, d, es, n, m1, D, m2, m3⟩ := tab_ok ok h
  have pn : PE X (.Name y p2) (tC (.ref d)) := pe_glob g1 m1 rfl g2
  refine (pe_ix ix_kdict pn ha hs).of fun σ H Q ⟨ρ, F, Z, dd, st, ρ', w, he, k⟩ => ?_
  simp only [ev] at he
  split at he
  · rename_i z sx ρ1 ea
    split at he
    · rename_i dv e
      obtain ⟨pd, he⟩ := ifs he
      cases he
      obtain ⟨u, v', e1, r', hb⟩ := m3 z _ e
      refine ⟨ρ, F, Z, _, sx, _, w, ea, fun v H1 F1 Z1 s1 w1 r1 => ⟨d, z, v', rfl, r1.bor.str', ?_, k v' H1 F1 Z1 s1 w1 (fin_pure pd (hb H1))⟩⟩
      exact ⟨es, n, u, D.at_, D.lit, e1, r'⟩
    · cases he
  · cases he
end
end Zr

set_option maxRecDepth 100000
set_option maxHeartbeats 8000000
/-! ZrL: targets; what is walked. -/
namespace Zr
open PySem PySem.Spec PyProof.Rows L2

section
variable {K : Fr'} {H H0 H' H1 H2 H3 : Hp} {ρ ρ0 ρ' ρ1 ρ2 : List Slot} {σ σ' σ1 σ2 : L2.St} {F F0 F' F1 F2 : Fa} {Z Z0 Z' Z1 Z2 : Addr → Prop} {E E1 E2 : List Nat}
/-- more may stand -/
theorem W.ext (w : W K H ρ σ F Z) (k : ∀ a o, H a = some o → H' a = some o) : W K H' ρ σ F Z ∧ Step [] H ρ F Z H' ρ F Z := by
  refine ⟨⟨w.len, w.out, fun i s e => (w.slot i s e).keep rfl (fun a o e _ => k a o e) fun _ z _ => z, w.nodup, w.disj, w.zed⟩, fun a o e _ => k a o e, fun a q => ?_, fun _ _ => ⟨rfl, rfl⟩, fun _ _ m => .inl m, fun _ z => .inl z, fun _ z _ => .inl z⟩
  cases e : H a with
  | none => exact absurd e q
  | some u =>
    rw [k a u e]
    exact fun z => nomatch z
/-- owned addresses in flight are given up: the value is only read from now on -/
theorem give_up {B : List Addr} (s : Step E H ρ F Z H' ρ' F' Z') (w : W K H' ρ' σ F' Z') (f : Fl E H F F' Z' B) : Step E H ρ F Z H' ρ' F' (fun a => Z' a ∧ a ∉ B) ∧ W K H' ρ' σ F' (fun a => Z' a ∧ a ∉ B) := by
  refine ⟨⟨s.keep, s.there, s.same, s.own, fun a z => s.zed a z.1, fun a z n => ?_⟩, w.len, w.out, fun i u e => (w.slot i u e).keep rfl (fun _ _ e _ => e) fun a z _ y => z y.1, w.nodup, w.disj, fun i a m => ⟨w.zed i a m, fun q => f.off a q i m⟩⟩
  rcases s.zk a z n with q | q
  · by_cases hb : a ∈ B
    · rcases f.new a hb with h | h
      · exact .inr h
      · exact absurd h n
    · exact .inl ⟨q, hb⟩
  · exact .inr q
/-- .. and how it is read: the predicate that its lists keep -/
def keeps (F : Fa) (Z : Addr → Prop) : Stat → Addr → Prop
  | .loan i, a => a ∈ F i ∨ ¬ Z a
  | .take i, a => a ∈ F i ∨ ¬ Z a
  | _, a => ¬ Z a
theorem VR.read {v : V} {d : D} {st : Stat} (s : Step E H ρ F Z H' ρ' F' Z') (w : W K H' ρ' σ F' Z') (r : VR E K H F H' ρ' σ F' Z' v d st) :
    ∃ Z2, Step E H ρ F Z H' ρ' F' Z2 ∧ W K H' ρ' σ F' Z2 ∧ (∀ a, ¬ Z' a → ¬ Z2 a) ∧ Bor K H' true (keeps F' Z2 st) v d ∧ (noScr st = true → Bor K H' false (keeps F' Z2 st) v d) := by
  obtain ⟨B, q, f⟩ := r
  cases st with
  | fresh =>
    obtain ⟨s2, w2⟩ := give_up s w f
    exact ⟨_, s2, w2, fun a z y => z y.1, Own.bor q fun a m z => z.2 m, fun _ => Own.bor q fun a m z => z.2 m⟩
  | froz => exact ⟨Z', s, w, fun _ z => z, q.2.wide, fun _ => q.2⟩
  | scr => exact ⟨Z', s, w, fun _ z => z, q.2, fun z => nomatch z⟩
  | loan i => exact ⟨Z', s, w, fun _ z => z, q.2.wide, fun _ => q.2⟩
  | take i => exact ⟨Z', s, w, fun _ z => z, Own.bor q.2.2.2 fun a m => .inl m, fun _ => Own.bor q.2.2.2 fun a m => .inl m⟩
/-- what is read stays while the slots E change -/
theorem keeps_stay {st : Stat} (w : W K H ρ σ F Z) (t : Step E H ρ F Z H' ρ' F' Z') (ok : okSt st E = true) : (∀ a o, H a = some o → (Lst o → keeps F Z st a) → H' a = some o) ∧ ∀ a, keeps F Z st a → H a ≠ none → keeps F' Z' st a := by
  cases st with
  | loan i =>
    have hi : i ∉ E := by simpa [okSt] using ok
    refine ⟨fun a o e l => t.keep a o e fun q j hj m => ?_, fun a p n => ?_⟩
    · rcases l q with z | z
      · exact w.disj i j a (fun e => hi (e ▸ hj)) z m
      · exact z (w.zed j a m)
    · rcases p with z | z
      · exact .inl ((t.same i hi).2 ▸ z)
      · exact .inr fun y => (t.zed a y).elim z n
  | take i =>
    have hi : i ∉ E := by simpa [okSt] using ok
    refine ⟨fun a o e l => t.keep a o e fun q j hj m => ?_, fun a p n => ?_⟩
    · rcases l q with z | z
      · exact w.disj i j a (fun e => hi (e ▸ hj)) z m
      · exact z (w.zed j a m)
    · rcases p with z | z
      · exact .inl ((t.same i hi).2 ▸ z)
      · exact .inr fun y => (t.zed a y).elim z n
  | fresh => exact ⟨fun a o e l => t.keep a o e fun q j hj m => l q (w.zed j a m), fun a p n y => (t.zed a y).elim p n⟩
  | froz => exact ⟨fun a o e l => t.keep a o e fun q j hj m => l q (w.zed j a m), fun a p n y => (t.zed a y).elim p n⟩
  | scr => exact ⟨fun a o e l => t.keep a o e fun q j hj m => l q (w.zed j a m), fun a p n y => (t.zed a y).elim p n⟩
/-- an item that may be bound: frozen, or plain -/
theorem item_bor {st : Stat} {xs : List D} {i : Nat} {d : D} {b : Bool} {v : V} (hw : walkOk st xs E = true) (e : xs[i]? = some d) (h : Bor K H b (keeps F Z st) v d) (hb : noScr st = true → Bor K H false (keeps F Z st) v d) : Bor K H false (fun a => ¬ Z a) v d := by
  have pure : purs xs = true → Bor K H false (fun a => ¬ Z a) v d := fun p => (h.own (purs_mem p d (List.mem_of_getElem? e))).bor fun a m => nomatch m
  cases st with
  | fresh => exact hb rfl
  | froz => exact hb rfl
  | scr => exact pure hw
  | loan j => exact pure (by simp only [walkOk, Bool.and_eq_true] at hw; exact hw.1)
  | take j => exact pure (by simp only [walkOk, Bool.and_eq_true] at hw; exact hw.1)
theorem walk_okSt {st : Stat} {xs : List D} (hw : walkOk st xs E = true) : okSt st E = true := by
  cases st with
  | fresh => rfl
  | froz => rfl
  | scr => rfl
  | loan j =>
    simp only [walkOk, Bool.and_eq_true] at hw
    exact hw.2
  | take j =>
    simp only [walkOk, Bool.and_eq_true] at hw
    exact hw.2

/-! ### targets -/
structure SameQ (E : List Nat) (ρ : List Slot) (σ : L2.St) (ρ' : List Slot) (σ' : L2.St) : Prop where
  off : ∀ j : Nat, j ∉ E → σ'[j]? = σ[j]?
  byr : ∀ (j : Nat) (d : D), ρ[j]? = some (Slot.byr d) → ∃ d', ρ'[j]? = some (Slot.byr d') ∧ σ'[j]? = σ[j]?
theorem SameQ.refl : SameQ E ρ σ ρ σ := ⟨fun _ _ => rfl, fun _ d e => ⟨d, e, rfl⟩⟩
theorem SameQ.trans (a : SameQ E1 ρ σ ρ1 σ1) (b : SameQ E2 ρ1 σ1 ρ2 σ2) : SameQ (E1 ++ E2) ρ σ ρ2 σ2 :=
  ⟨fun j hj => (b.off j fun z => hj (mr z)).trans (a.off j fun z => hj (ml z)), fun j d e => by
    obtain ⟨d1, e1, q1⟩ := a.byr j d e
    obtain ⟨d2, e2, q2⟩ := b.byr j d1 e1
    exact ⟨d2, e2, q2.trans q1⟩⟩
theorem SameQ.more (a : SameQ E1 ρ σ ρ' σ') (h : ∀ j ∈ E1, j ∈ E2) : SameQ E2 ρ σ ρ' σ' := ⟨fun j hj => a.off j fun z => hj (h j z), a.byr⟩
/-- a value to be bound: fresh or frozen -/
def InF (E : List Nat) (K : Fr') (H0 : Hp) (F0 : Fa) (H : Hp) (F : Fa) (Z : Addr → Prop) (v : V) (d : D) (B : List Addr) : Stat → Prop
  | .fresh => Own K H v d B ∧ Fl E H0 F0 F Z B
  | .froz => B = [] ∧ Bor K H false (fun a => ¬ Z a) v d
  | _ => False
def tGt (K : Fr') (g : IG) : TG := fun v σ H Q => ∃ E H0 ρ0 F0 Z0 ρ F Z d st ρ' B, Step E H0 ρ0 F0 Z0 H ρ F Z ∧ W K H ρ σ F Z ∧ (∀ j ∈ g.slots, j ∈ E) ∧ bindV g d st ρ = some ρ' ∧ InF E K H0 F0 H F Z v d B st ∧
  ∀ σ' F', Step E H0 ρ0 F0 Z0 H ρ' F' Z → W K H ρ' σ' F' Z → SameQ g.slots ρ σ ρ' σ' → (∀ j a, a ∈ F' j → a ∈ F j ∨ a ∈ B) → Q σ' H
theorem noByr_lt {i : Nat} (h : noByr ρ i = true) : ∃ s, ρ[i]? = some s ∧ ∀ d, s ≠ .byr d := by
  unfold noByr at h
  split at h
  · cases h
  · rename_i s n e
    exact ⟨s, e, fun d z => n d z⟩
  · cases h
theorem bind_slot {i : Nat} {sl sn : Slot} {v : V} {B : List Addr} (s : Step E H0 ρ0 F0 Z0 H ρ F Z) (w : W K H ρ σ F Z) (hi : i ∈ E) (e : ρ[i]? = some sl) (nb : ∀ d, sl ≠ .byr d) (hs : SR K H (fset F i B) Z i (some (some v)) sn) (nd : B.Nodup) (zb : ∀ b ∈ B, Z b) (off : ∀ b ∈ B, ∀ j, b ∉ F j) (new : ∀ b ∈ B, (∃ q ∈ E, b ∈ F0 q) ∨ H0 b = none) :
    Step E H0 ρ0 F0 Z0 H (ρ.set i sn) (fset F i B) Z ∧ W K H (ρ.set i sn) (σ.set i (some v)) (fset F i B) Z ∧ SameQ [i] ρ σ (ρ.set i sn) (σ.set i (some v)) ∧ ∀ j a, a ∈ fset F i B j → a ∈ F j ∨ a ∈ B := by
  have sub : ∀ j a, a ∈ fset F i B j → (a ∈ F j ∧ j ≠ i) ∨ (a ∈ B ∧ j = i) := fun j a m => by
    by_cases hj : j = i
    · subst hj
      rw [fset_same] at m
      exact .inr ⟨m, rfl⟩
    · rw [fset_ne hj] at m
      exact .inl ⟨m, hj⟩
  have hlen : i < ρ.length := (List.getElem?_eq_some_iff.mp e).1
  refine ⟨⟨s.keep, s.there, fun j hj => ?_, fun j a m => ?_, s.zed, s.zk⟩, ⟨by rw [List.length_set, List.length_set]; exact w.len, fun j hj => ?_, fun j u q => ?_, fun j => ?_, fun j l a n m q => ?_, fun j a m => (sub j a m).elim (fun q => w.zed j a q.1) fun q => zb a q.1⟩, ⟨fun j hj => ?_, fun j d q => ?_⟩, fun j a m => (sub j a m).imp (·.1) (·.1)⟩
  · have hn : j ≠ i := fun q => hj (q ▸ hi)
    rw [get_set_ne hn, fset_ne hn]
    exact s.same j hj
  · rcases sub j a m with m | m
    · exact s.own j a m.1
    · exact .inr (new a m.1)
  · have hn : j ≠ i := fun q => by
      rw [List.length_set] at hj
      omega
    rw [fset_ne hn]
    exact w.out j (by rwa [List.length_set] at hj)
  · by_cases hj : j = i
    · subst hj
      rw [get_set_self e] at q
      cases q
      have hv : (σ.set j (some v))[j]? = some (some v) := by
        rw [List.getElem?_set_self (by rw [w.len]; exact hlen)]
      rw [hv]
      exact hs
    · rw [get_set_ne hj] at q
      rw [get_set_ne hj]
      exact (w.slot j u q).keep (fset_ne hj) (fun _ _ e _ => e) fun a z _ => z
  · by_cases hj : j = i
    · rw [hj, fset_same]
      exact nd
    · rw [fset_ne hj]
      exact w.nodup j
  · rcases sub j a m with m | m
    · rcases sub l a q with q | q
      · exact w.disj j l a n m.1 q.1
      · exact off a q.1 j m.1
    · rcases sub l a q with q | q
      · exact off a m.1 l q.1
      · exact n (m.2.trans q.2.symm)
  · have hn : j ≠ i := fun q => hj (by simp [q])
    exact get_set_ne hn
  · have hn : j ≠ i := fun z => by
      subst z
      rw [e] at q
      cases q
      exact nb d rfl
    exact ⟨d, by rw [get_set_ne hn]; exact q, get_set_ne hn⟩
end
theorem _root_.L2.PG.of {X : Cx} {e : Expr} {t t' : TG} (h : PG X e t) (k : ∀ v σ H Q, t' v σ H Q → t v σ H Q) : PG X e t' := ⟨fun pins s σ H v u Q I r q => h.run pins s σ H v u Q I r (k v σ H Q q)⟩
section
variable {X : Cx} {G : Gx} {S : Sx} {C : CallF}
theorem nm_to {K : Fr'} {i : Nat} {v : V} {σ : L2.St} {H : Hp} {Q : L2.St → Hp → Prop} (h : tGt K (.nm i) v σ H Q) : Q (σ.set i (some v)) H := by
  obtain ⟨E, H0, ρ0, F0, Z0, ρ, F, Z, d, st, ρ', B, s, w, hE, hb, hin, k⟩ := h
  simp only [bindV] at hb
  obtain ⟨c, hb⟩ : _ ∧ _ := by
    split at hb
    · rename_i c
      exact ⟨c, hb⟩
    · cases hb
  obtain ⟨sl, e, nb⟩ := noByr_lt c
  have hi : i ∈ E := hE i (by simp [IG.slots])
  cases st with
  | fresh =>
    cases hb
    obtain ⟨ho, fl⟩ := hin
    obtain ⟨s1, w1, sm, sub⟩ := bind_slot (i := i) (sn := if pur d then .pur d else .own d) (B := B) s w hi e nb (by
      by_cases p : pur d = true
      · rw [if_pos p]
        have hB := ho.nil_of p
        exact ⟨by rw [fset_same]; exact hB, p, v, rfl, ho.bor fun _ _ => trivial⟩
      · rw [if_neg p]
        exact ⟨v, rfl, by rw [fset_same]; exact ho⟩) fl.nodup fl.zed fl.off fl.new
    exact k _ _ s1 w1 sm sub
  | froz =>
    cases hb
    obtain ⟨hB, hbor⟩ := hin
    subst hB
    obtain ⟨s1, w1, sm, sub⟩ := bind_slot (i := i) (sn := if pur d then .pur d else .bor d) (B := []) s w hi e nb (by
      by_cases p : pur d = true
      · rw [if_pos p]
        exact ⟨fset_same, p, v, rfl, hbor.imp fun _ _ => trivial⟩
      · rw [if_neg p]
        exact ⟨fset_same, v, rfl, hbor⟩) List.nodup_nil (fun _ m => nomatch m) (fun _ m => nomatch m) (fun _ m => nomatch m)
    exact k _ _ s1 w1 sm sub
  | scr => exact hin.elim
  | loan j => exact hin.elim
  | take j => exact hin.elim
theorem sg_nm (ok : Ok X G S C) {i : Nat} {x : Str} {p : Pos} (h : chkG S (.nm i) (.Name x p) = true) : PG X (.Name x p) (tGt X.K (.nm i)) := by
  simp only [chkG, Bool.and_eq_true, decide_eq_true_eq] at h
  obtain ⟨⟨h1, h2⟩, h3⟩ := h
  obtain ⟨hl, hf⟩ := ok.sto x h2
  refine (pg_name (i := i) (by rw [ok.hN]; exact ok.nd) (by rw [ok.hN]; exact h1) (by rw [ok.sc]; exact hl) (by rw [ok.sc]; exact hf)).of fun v σ H Q h => nm_to h
/-- parts of a tuple that is bound -/
theorem InF.parts {E : List Nat} {K : Fr'} {H0 H : Hp} {F0 F : Fa} {Z : Addr → Prop} {v : V} {ds : List D} {B : List Addr} {st : Stat} (h : InF E K H0 F0 H F Z v (.tuple ds) B st) :
    ∃ a vs, v = .ref a ∧ SqT K H a vs ∧ vs.length = ds.length ∧ ((st = .fresh ∧ OwnL K H vs ds B ∧ Fl E H0 F0 F Z B) ∨ (st = .froz ∧ B = [] ∧ BorL K H false (fun a => ¬ Z a) vs ds)) := by
  cases st with
  | fresh =>
    obtain ⟨ho, fl⟩ := h
    cases ho with
    | tup h t => exact ⟨_, _, rfl, h, t.length, .inl ⟨rfl, t, fl⟩⟩
  | froz =>
    obtain ⟨hB, hb⟩ := h
    obtain ⟨a, vs, e, h, t⟩ := hb.tuple
    exact ⟨a, vs, e, h, t.length, .inr ⟨rfl, hB, t⟩⟩
  | scr => exact h.elim
  | loan j => exact h.elim
  | take j => exact h.elim
/-- the first part, and the others -/
def InFs (E : List Nat) (K : Fr') (H0 : Hp) (F0 : Fa) (H : Hp) (F : Fa) (Z : Addr → Prop) (vs : List V) (ds : List D) (B : List Addr) (st : Stat) : Prop :=
  (st = .fresh ∧ OwnL K H vs ds B ∧ Fl E H0 F0 F Z B) ∨ (st = .froz ∧ B = [] ∧ BorL K H false (fun a => ¬ Z a) vs ds)
theorem InFs.split {E : List Nat} {K : Fr'} {H0 H : Hp} {F0 F : Fa} {Z : Addr → Prop} {vs : List V} {d : D} {ds : List D} {B : List Addr} {st : Stat} (h : InFs E K H0 F0 H F Z vs (d :: ds) B st) :
    ∃ v r B1 B2, vs = v :: r ∧ InF E K H0 F0 H F Z v d B1 st ∧ (∀ a ∈ B1, a ∈ B) ∧ (∀ a ∈ B2, a ∈ B) ∧ ∀ F', (∀ j a, a ∈ F' j → a ∈ F j ∨ a ∈ B1) → InFs E K H0 F0 H F' Z r ds B2 st := by
  rcases h with ⟨e, ho, fl⟩ | ⟨e, hB, hb⟩
  · subst e
    cases ho with
    | cons h t =>
      rename_i v vs A B'
      have nd := List.nodup_append.mp fl.nodup
      exact ⟨v, vs, A, B', rfl, ⟨h, nd.1, fun a m => fl.zed a (ml m), fun a m => fl.off a (ml m), fun a m => fl.new a (ml m)⟩, fun a m => ml m, fun a m => mr m, fun F' sub => .inl ⟨rfl, t, nd.2.1, fun a m => fl.zed a (mr m), fun a m j q => (sub j a q).elim (fl.off a (mr m) j) fun z => nd.2.2 a z a m rfl, fun a m => fl.new a (mr m)⟩⟩
  · subst e
    subst hB
    cases hb with
    | cons h t => exact ⟨_, _, [], [], rfl, ⟨rfl, h⟩, fun a (m : a ∈ []) => (nomatch m), fun a (m : a ∈ []) => (nomatch m), fun F' _ => .inr ⟨rfl, rfl, t⟩⟩
/-- targets, one after another -/
def bindVs : List IG → List D → Stat → Ro → Option Ro
  | [], [], _, ρ => some ρ
  | g :: gs, d :: ds, st, ρ => (bindV g d st ρ).bind (bindVs gs ds st)
  | _, _, _, _ => none
def gsl : List IG → List Nat
  | [] => []
  | g :: gs => g.slots ++ gsl gs
def tGss (K : Fr') (gs : List IG) : TGs := fun vs σ H Q => ∃ E H0 ρ0 F0 Z0 ρ F Z ds st ρ' B, Step E H0 ρ0 F0 Z0 H ρ F Z ∧ W K H ρ σ F Z ∧ (∀ j ∈ gsl gs, j ∈ E) ∧ bindVs gs ds st ρ = some ρ' ∧ InFs E K H0 F0 H F Z vs ds B st ∧
  ∀ σ' F', Step E H0 ρ0 F0 Z0 H ρ' F' Z → W K H ρ' σ' F' Z → SameQ (gsl gs) ρ σ ρ' σ' → (∀ j a, a ∈ F' j → a ∈ F j ∨ a ∈ B) → Q σ' H
theorem sgs_nil : PGs X [] (tGss X.K []) := ⟨fun pins s σ H vs us Q I r ⟨E, H0, ρ0, F0, Z0, ρ, F, Z, ds, st, ρ', B, st1, w, hE, hb, hin, k⟩ => by
  have e : ds = [] ∧ ρ' = ρ := by
    cases ds with
    | nil => simp only [bindVs] at hb; exact ⟨rfl, by cases hb; rfl⟩
    | cons => simp [bindVs] at hb
  obtain ⟨rfl, rfl⟩ := e
  have hv : vs = [] := by
    rcases hin with ⟨_, h, _⟩ | ⟨_, _, h⟩
    · cases h; rfl
    · cases h; rfl
  exact pgs_nil.run pins s σ H vs us Q I r ⟨hv, k σ F st1 w .refl fun _ _ m => .inl m⟩⟩
theorem sgs_cons {g : IG} {gs : List IG} {e : Expr} {es : List Expr} (h1 : PG X e (tGt X.K g)) (h2 : PGs X es (tGss X.K gs)) (hs : notStar e = true) : PGs X (e :: es) (tGss X.K (g :: gs)) := ⟨fun pins s σ H vs us Q I r ⟨E, H0, ρ0, F0, Z0, ρ, F, Z, ds, st, ρ', B, st1, w, hE, hb, hin, k⟩ => by
  refine (pgs_cons h1 h2 (by cases e <;> first | rfl | cases hs)).run pins s σ H vs us Q I r ?_
  cases ds with
  | nil => simp [bindVs] at hb
  | cons d ds =>
    simp only [bindVs] at hb
    cases hb1 : bindV g d st ρ with
    | none => rw [hb1] at hb; cases hb
    | some ρ1 =>
      rw [hb1] at hb
      obtain ⟨v, r2, B1, B2, rfl, hv, sb1, sb2, rest⟩ := hin.split
      refine ⟨v, r2, rfl, E, H0, ρ0, F0, Z0, ρ, F, Z, d, st, ρ1, B1, st1, w, fun j hj => hE j (ml hj), hb1, hv, fun σ1 F1 s1 w1 sm1 f1 => ?_⟩
      refine ⟨E, H0, ρ0, F0, Z0, ρ1, F1, Z, ds, st, ρ', B2, s1, w1, fun j hj => hE j (mr hj), hb, rest F1 f1, fun σ2 F2 s2 w2 sm2 f2 => ?_⟩
      exact k σ2 F2 s2 w2 (sm1.trans sm2) fun j a m => (f2 j a m).elim (fun z => (f1 j a z).imp id (sb1 a)) fun z => .inr (sb2 a z)⟩
theorem assignEach_plain {es : List Expr} {env : Env} (h : es.all notStar = true) : (assignEach es env).length = es.length ∧ (assignEach es env).findIdx? (·.1) = none := by
  have h1 : assignEach es env = es.map fun e => (false, assign e env) := by
    induction es with
    | nil => rfl
    | cons e es ih =>
      simp only [List.all_cons, Bool.and_eq_true] at h
      rw [List.map_cons, ← ih h.2]
      cases e <;> first | rfl | simp [notStar] at h
  rw [h1]
  refine ⟨by simp, ?_⟩
  rw [List.findIdx?_eq_none_iff]
  intro x m
  obtain ⟨e, _, rfl⟩ := List.mem_map.mp m
  rfl
theorem sg_tup (ok : Ok X G S C) {g : IG} {gs : List IG} {es : List Expr} {k : Nat} {p : Pos} (h : PGs X es (tGss X.K gs)) (hst : es.all notStar = true) (hl : gs.length = es.length) (e1 : g.slots = gsl gs) (e2 : ∀ d st ρ ρ', bindV g d st ρ = some ρ' → ∃ ds, d = .tuple ds ∧ ds.length = gs.length ∧ bindVs gs ds st ρ = some ρ') : PG X (.Tuple es k p) (tGt X.K g) := by
  refine (pg_tup (n := es.length) ok.calm h (assignEach_plain hst).1 (assignEach_plain hst).2).of fun v σ H Q ⟨E, H0, ρ0, F0, Z0, ρ, F, Z, d, st, ρ', B, s, w, hE, hb, hin, kk⟩ => ?_
  obtain ⟨ds, rfl, hd, hb⟩ := e2 _ _ _ _ hb
  obtain ⟨a, vs, ev, hq, hlen, hin⟩ := hin.parts
  rw [e1] at hE kk
  exact ⟨a, vs, ev, hq, by omega, E, H0, ρ0, F0, Z0, ρ, F, Z, ds, st, ρ', B, s, w, hE, hb, hin, kk⟩
theorem chkG_star {S : Sx} {g : IG} {e : Expr} (h : chkG S g e = true) : notStar e = true := by
  cases e with
  | Starred => cases g <;> simp [chkG] at h
  | _ => rfl
theorem bind_some {α : Type} (o : Option α) : (o.bind fun x => some x) = o := by cases o <;> rfl
theorem bindV_t1 {a : IG} {d : D} {st : Stat} {ρ ρ' : Ro} (h : bindV (.t1 a) d st ρ = some ρ') : ∃ ds, d = .tuple ds ∧ ds.length = [a].length ∧ bindVs [a] ds st ρ = some ρ' := by
  cases d with
  | tuple ds =>
    cases ds with
    | nil => simp [bindV] at h
    | cons x r =>
      cases r with
      | nil =>
        refine ⟨[x], rfl, rfl, ?_⟩
        simp only [bindV] at h
        show (bindV a x st ρ).bind (fun x => some x) = _
        rw [bind_some]
        exact h
      | cons _ _ => simp [bindV] at h
  | _ => simp [bindV] at h
theorem bindV_t2 {a b : IG} {d : D} {st : Stat} {ρ ρ' : Ro} (h : bindV (.t2 a b) d st ρ = some ρ') : ∃ ds, d = .tuple ds ∧ ds.length = [a, b].length ∧ bindVs [a, b] ds st ρ = some ρ' := by
  cases d with
  | tuple ds =>
    rcases ds with _ | ⟨x, _ | ⟨y, _ | ⟨z, r⟩⟩⟩
    · simp [bindV] at h
    · simp [bindV] at h
    · refine ⟨[x, y], rfl, rfl, ?_⟩
      simp only [bindV] at h
      show (bindV a x st ρ).bind (fun ρ1 => (bindV b y st ρ1).bind fun x => some x) = _
      simp only [bind_some]
      exact h
    · simp [bindV] at h
  | _ => simp [bindV] at h
theorem bindV_t3 {a b c : IG} {d : D} {st : Stat} {ρ ρ' : Ro} (h : bindV (.t3 a b c) d st ρ = some ρ') : ∃ ds, d = .tuple ds ∧ ds.length = [a, b, c].length ∧ bindVs [a, b, c] ds st ρ = some ρ' := by
  cases d with
  | tuple ds =>
    rcases ds with _ | ⟨x, _ | ⟨y, _ | ⟨z, _ | ⟨u, r⟩⟩⟩⟩
    · simp [bindV] at h
    · simp [bindV] at h
    · simp [bindV] at h
    · refine ⟨[x, y, z], rfl, rfl, ?_⟩
      simp only [bindV] at h
      show (bindV a x st ρ).bind (fun ρ1 => (bindV b y st ρ1).bind fun ρ2 => (bindV c z st ρ2).bind fun x => some x) = _
      simp only [bind_some]
      exact h
    · simp [bindV] at h
  | _ => simp [bindV] at h
theorem bindV_t4 {a b c e : IG} {d : D} {st : Stat} {ρ ρ' : Ro} (h : bindV (.t4 a b c e) d st ρ = some ρ') : ∃ ds, d = .tuple ds ∧ ds.length = [a, b, c, e].length ∧ bindVs [a, b, c, e] ds st ρ = some ρ' := by
  cases d with
  | tuple ds =>
    rcases ds with _ | ⟨x, _ | ⟨y, _ | ⟨z, _ | ⟨u, _ | ⟨v, r⟩⟩⟩⟩⟩
    · simp [bindV] at h
    · simp [bindV] at h
    · simp [bindV] at h
    · simp [bindV] at h
    · refine ⟨[x, y, z, u], rfl, rfl, ?_⟩
      simp only [bindV] at h
      show (bindV a x st ρ).bind (fun ρ1 => (bindV b y st ρ1).bind fun ρ2 => (bindV c z st ρ2).bind fun ρ3 => (bindV e u st ρ3).bind fun x => some x) = _
      simp only [bind_some]
      exact h
    · simp [bindV] at h
  | _ => simp [bindV] at h
theorem bindV_t5 {a b c e f : IG} {d : D} {st : Stat} {ρ ρ' : Ro} (h : bindV (.t5 a b c e f) d st ρ = some ρ') : ∃ ds, d = .tuple ds ∧ ds.length = [a, b, c, e, f].length ∧ bindVs [a, b, c, e, f] ds st ρ = some ρ' := by
  cases d with
  | tuple ds =>
    rcases ds with _ | ⟨x, _ | ⟨y, _ | ⟨z, _ | ⟨u, _ | ⟨v, _ | ⟨w, r⟩⟩⟩⟩⟩⟩
    · simp [bindV] at h
    · simp [bindV] at h
    · simp [bindV] at h
    · simp [bindV] at h
    · simp [bindV] at h
    · refine ⟨[x, y, z, u, v], rfl, rfl, ?_⟩
      simp only [bindV] at h
      show (bindV a x st ρ).bind (fun ρ1 => (bindV b y st ρ1).bind fun ρ2 => (bindV c z st ρ2).bind fun ρ3 => (bindV e u st ρ3).bind fun ρ4 => (bindV f v st ρ4).bind fun x => some x) = _
      simp only [bind_some]
      exact h
    · simp [bindV] at h
  | _ => simp [bindV] at h
theorem sg_all (ok : Ok X G S C) : ∀ (g : IG) (e : Expr), chkG S g e = true → PG X e (tGt X.K g)
  | .nm i, e, h => by
    cases e with
    | Name x p => exact sg_nm ok h
    | _ => simp [chkG] at h
  | .t1 a, e, h => by
    unfold chkG at h
    split at h <;> try (rename_i q; cases q)
    · rename_i x k p q
      cases q
      exact sg_tup ok (gs := [a]) (sgs_cons (sg_all ok a _ h) sgs_nil (chkG_star h)) (by simp [chkG_star h]) rfl (by simp [gsl, IG.slots]) fun d st ρ ρ' => bindV_t1
    · cases h
  | .t2 a b, e, h => by
    unfold chkG at h
    split at h <;> try (rename_i q; cases q)
    · rename_i x y k p q
      cases q
      simp only [Bool.and_eq_true] at h
      exact sg_tup ok (gs := [a, b]) (sgs_cons (sg_all ok a _ h.1) (sgs_cons (sg_all ok b _ h.2) sgs_nil (chkG_star h.2)) (chkG_star h.1)) (by simp [chkG_star h.1, chkG_star h.2]) rfl (by simp [gsl, IG.slots]) fun d st ρ ρ' => bindV_t2
    · cases h
  | .t3 a b c, e, h => by
    unfold chkG at h
    split at h <;> try (rename_i q; cases q)
    · rename_i x y z k p q
      cases q
      simp only [Bool.and_eq_true] at h
      exact sg_tup ok (gs := [a, b, c]) (sgs_cons (sg_all ok a _ h.1.1) (sgs_cons (sg_all ok b _ h.1.2) (sgs_cons (sg_all ok c _ h.2) sgs_nil (chkG_star h.2)) (chkG_star h.1.2)) (chkG_star h.1.1)) (by simp [chkG_star h.1.1, chkG_star h.1.2, chkG_star h.2]) rfl (by simp [gsl, IG.slots]) fun d st ρ ρ' => bindV_t3
    · cases h
  | .t4 a b c d, e, h => by
    unfold chkG at h
    split at h <;> try (rename_i q; cases q)
    · rename_i x y z u k p q
      cases q
      simp only [Bool.and_eq_true] at h
      exact sg_tup ok (gs := [a, b, c, d]) (sgs_cons (sg_all ok a _ h.1.1.1) (sgs_cons (sg_all ok b _ h.1.1.2) (sgs_cons (sg_all ok c _ h.1.2) (sgs_cons (sg_all ok d _ h.2) sgs_nil (chkG_star h.2)) (chkG_star h.1.2)) (chkG_star h.1.1.2)) (chkG_star h.1.1.1)) (by simp [chkG_star h.1.1.1, chkG_star h.1.1.2, chkG_star h.1.2, chkG_star h.2]) rfl (by simp [gsl, IG.slots]) fun d st ρ ρ' => bindV_t4
    · cases h
  | .t5 a b c d f, e, h => by
    unfold chkG at h
    split at h <;> try (rename_i q; cases q)
    · rename_i x y z u v k p q
      cases q
      simp only [Bool.and_eq_true] at h
      obtain ⟨⟨⟨⟨h1, h2⟩, h3⟩, h4⟩, h5⟩ := h
      exact sg_tup ok (gs := [a, b, c, d, f]) (sgs_cons (sg_all ok a _ h1) (sgs_cons (sg_all ok b _ h2) (sgs_cons (sg_all ok c _ h3) (sgs_cons (sg_all ok d _ h4) (sgs_cons (sg_all ok f _ h5) sgs_nil (chkG_star h5)) (chkG_star h4)) (chkG_star h3)) (chkG_star h2)) (chkG_star h1)) (by simp [chkG_star h1, chkG_star h2, chkG_star h3, chkG_star h4, chkG_star h5]) rfl (by simp [gsl, IG.slots]) fun d st ρ ρ' => bindV_t5
    · cases h
end
end Zr

set_option maxRecDepth 100000
set_option maxHeartbeats 8000000
/-! ZrM0: zip over sources of any kind, whether the tuple it gave out is still there or not; enumerate over it. -/
namespace Zr
open PySem PySem.Spec PyProof.Rows L2
/-- a zip's cell: what it gave out, and whether it knows it to be out -/
abbrev ZipC (h : Heap) (q ti to : Addr) (u : Value) (f : Bool) : Prop :=
  h.get? q = some { cls := .type "zip", dict := none, data := .fields #[u, .bool f, .bool false, .ref ti, .ref to], slots := #[] }
def Given (u : Value) : Prop := u = .none ∨ ∃ T : Addr, u = rawInt T
section
variable {prog : Program} {w : World} {A : Around} {E : Value → Shared → Prop} {s : Shared} {q ti to j1 j2 : Addr} {p1 p2 : List Addr} {m1 m2 k : Nat} {L1 L2 : Nat → Value → Prop} {T1 T2 : Nat → Heap → Prop} {b1 b2 u : Value} {f : Bool}
theorem free_any {Q : Bool → Shared → Prop} (hz : ZipC s.heap q ti to u f) (g : Given u) (yes : Q true s) (no : ∀ h', ZipC h' q ti to u true → Heap.SameBut q s.heap h' → Q false { s with heap := h' }) :
    wpAny (model prog w) A (Builtin.SmallTypes.ownedTupleIsFree (.ref q)) Q E s := by
  unfold Builtin.SmallTypes.ownedTupleIsFree
  rcases g with rfl | ⟨T, rfl⟩
  · exact wpAny_bind (wpAny_field hz rfl rfl (wpAny_pure yes))
  · refine wpAny_bind (wpAny_field hz rfl (x := rawInt T) rfl ?_)
    show wpAny _ _ (loadIfAlive ((T : Int).toNat) >>= _) _ _ s
    rw [Int.toNat_natCast]
    have al : ∀ {Q' : Option Obj → Shared → Prop}, Q' (s.heap.get? T) s → wpAny (model prog w) A (loadIfAlive T) Q' E s := fun x => fun _ _ _ => x
    refine wpAny_bind (al ?_)
    cases s.heap.get? T with
    | none => exact wpAny_pure yes
    | some ob =>
      simp only [Option.isNone_some, Bool.false_eq_true, if_false]
      refine wpAny_bind (wpAny_field hz rfl (x := .bool f) rfl ?_)
      cases f with
      | true => exact wpAny_pure (no s.heap hz (Heap.SameBut.refl _ _))
      | false => exact wpAny_bind (wpAny_setField_rec hz (by simp) fun g1 y1 y2 => wpAny_pure (no g1 y1 y2))
theorem zipC_item {Q : Value → Shared → Prop} (S : ZipSep2 q ti to j1 j2 p1 p2) (D1 : Draws prog w A j1 p1 m1 L1 T1) (D2 : Draws prog w A j2 p2 m2 L2 T2)
    (hz : ZipC s.heap q ti to u f) (gv : Given u) (hI : IsTupOf2 s.heap ti (.ref j1) (.ref j2)) (hO : IsTupOf2 s.heap to b1 b2) (s1 : T1 k s.heap) (s2 : T2 k s.heap) (lt1 : k < m1) (lt2 : k < m2)
    (hQ : ∀ x1 x2 h' tk u' f', L1 k x1 → L2 k x2 → ZipC h' q ti to u' f' → Given u' → (∃ c1 c2, IsTupOf2 h' to c1 c2) → T1 (k + 1) h' → T2 (k + 1) h' → IsTupOf2 h' s.heap.objs.size x1 x2 → h'.objs.size = s.heap.objs.size + 1 →
      (∀ c o, c ≠ q → c ≠ to → c ≠ j1 → c ≠ j2 → s.heap.get? c = some o → h'.get? c = some o) → Q (.ref s.heap.objs.size) { s with heap := h', toks := tk }) :
    wpAny (model prog w) A (Builtin.«zip.__next__» ⟨[.ref q], []⟩) (fun fin s' => ∃ v, fin = .done (.ret v) ∧ Q v s') E s := by
  obtain ⟨hp, gs, dr, k0, os⟩ := s
  show wpAny _ _ (field (.ref q) 2 >>= _) _ _ ⟨hp, gs, dr, k0, os⟩
  refine wpAny_bind (wpAny_field hz rfl (x := .bool false) rfl ?_)
  show wpAny _ _ (field (.ref q) 3 >>= _) _ _ ⟨hp, gs, dr, k0, os⟩
  refine wpAny_bind (wpAny_field hz rfl (x := .ref ti) rfl ?_)
  refine wpAny_bind (wpAny_seqItems hI rfl ?_)
  show wpAny _ _ (Builtin.SmallTypes.ownedTupleIsFree (.ref q) >>= _) _ _ ⟨hp, gs, dr, k0, os⟩
  refine wpAny_bind (free_any hz gv ?_ fun e0 zf sf => ?_)
  · simp only [if_true]
    refine wpAny_bind (wpAny_rule ?_)
    refine wpAny_bind (wpAny_field hz rfl (x := .ref to) rfl ?_)
    refine wpAny_bind (wpAny_setField_rec hz (by simp) fun e0 z0 y0 => ?_)
    replace z0 : ZipC e0 q ti to .ellipsis f := z0
    replace y0 : Heap.SameBut q hp e0 := y0
    refine wpAny_bind ?_
    simp only [List.zipIdx_nil, List.zipIdx_cons, List.forIn_nil, List.forIn_cons]
    refine wpAny_bind (wpAny_bind (wpAny_onRaise ?_))
    show wpAny _ _ (Builtin.SmallTypes.nextOf (.ref j1) >>= _) _ _ ⟨e0, gs, dr, k0, os⟩
    refine wpAny_bind (D1.item k _ _ _ lt1 (D1.over s1 y0 S.zf1) fun x1 w1 k1 l1 n1 y1 => wpAny_pure ?_)
    replace y1 : Heap.SameBut j1 e0 w1 := y1
    have o1 : IsTupOf2 w1 to b1 b2 := y1.extBut _ _ S.Ti1 (y0.extBut _ _ S.TOz hO)
    refine wpAny_bind (wpAny_seqItems (s := ⟨w1, gs, dr, k1, os⟩) o1 rfl ?_)
    refine wpAny_bind (updateSeq_IsTupOf2 (s := ⟨w1, gs, dr, k1, os⟩) o1 fun e1 r1 v1 => ?_)
    replace r1 : IsTupOf2 e1 to x1 b2 := r1
    replace v1 : Heap.SameBut to w1 e1 := v1
    refine wpAny_bind (wpAny_letGo (wpAny_pure ?_))
    refine wpAny_bind (wpAny_bind (wpAny_onRaise ?_))
    show wpAny _ _ (Builtin.SmallTypes.nextOf (.ref j2) >>= _) _ _ ⟨e1, gs, dr, k1, os⟩
    refine wpAny_bind (D2.item k _ _ _ lt2 (D2.over (D2.over (D2.over s2 y0 S.zf2) y1 S.sep1_2) v1 S.Tf2) fun x2 w2 k2 l2 n2 y2 => wpAny_pure ?_)
    replace y2 : Heap.SameBut j2 e1 w2 := y2
    have o2 : IsTupOf2 w2 to x1 b2 := y2.extBut _ _ S.Ti2 r1
    refine wpAny_bind (wpAny_seqItems (s := ⟨w2, gs, dr, k2, os⟩) o2 rfl ?_)
    refine wpAny_bind (updateSeq_IsTupOf2 (s := ⟨w2, gs, dr, k2, os⟩) o2 fun e2 r2 v2 => ?_)
    replace r2 : IsTupOf2 e2 to x1 x2 := r2
    replace v2 : Heap.SameBut to w2 e2 := v2
    refine wpAny_bind (wpAny_letGo (wpAny_pure (wpAny_pure ?_)))
    refine wpAny_bind (wpAny_seqItems (s := ⟨e2, gs, dr, k2, os⟩) r2 rfl ?_)
    refine wpAny_bind (wpAny_newTuple ?_)
    have sz : e2.objs.size = hp.objs.size := by rw [v2.1, y2.1, v1.1, y1.1, y0.1]
    have zz : ZipC e2 q ti to .ellipsis f := v2.extBut _ _ S.TOz.symm (y2.extBut _ _ S.zi2 (v1.extBut _ _ S.TOz.symm (y1.extBut _ _ S.zi1 z0)))
    have kp : ∀ c o, c ≠ q → c ≠ to → c ≠ j1 → c ≠ j2 → hp.get? c = some o → e2.get? c = some o := fun c o cz cT c1 c2 e =>
      v2.extBut _ _ cT (y2.extBut _ _ c2 (v1.extBut _ _ cT (y1.extBut _ _ c1 (y0.extBut _ _ cz e))))
    have d1 : T1 (k + 1) e2 := D1.over (D1.over (D1.over n1 v1 S.Tf1) y2 S.sep2_1) v2 S.Tf1
    have d2 : T2 (k + 1) e2 := D2.over n2 v2 S.Tf2
    have ql : q < e2.objs.size := Heap.lt_size zz
    show wpAny _ _ (Builtin.SmallTypes.ownedTupleHandOut (.ref q) (.ref e2.objs.size) >>= _) _ _ ⟨e2.push { cls := .type "tuple", data := .seq #[x1, x2] }, gs, dr, k2, os⟩
    refine wpAny_bind ?_
    unfold Builtin.SmallTypes.ownedTupleHandOut
    have z6 : ZipC (e2.push { cls := .type "tuple", data := .seq #[x1, x2] }) q ti to .ellipsis f := Heap.get?_push_of_some _ zz
    refine wpAny_bind (wpAny_setField_rec z6 (by simp) fun h7 z7 y7 => ?_)
    replace z7 : ZipC h7 q ti to (rawInt e2.objs.size) f := z7
    refine wpAny_setField_rec z7 (by simp) fun h8 z8 y8 => ?_
    replace z8 : ZipC h8 q ti to (rawInt e2.objs.size) false := z8
    replace y7 : Heap.SameBut q (e2.push { cls := .type "tuple", data := .seq #[x1, x2] }) h7 := y7
    replace y8 : Heap.SameBut q h7 h8 := y8
    have up : ∀ c o, c ≠ q → e2.get? c = some o → h8.get? c = some o := fun c o c1 e => y8.extBut _ _ c1 (y7.extBut _ _ c1 (Heap.get?_push_of_some _ e))
    have t8 : IsTupOf2 h8 e2.objs.size x1 x2 := y8.extBut _ _ (Nat.ne_of_gt ql) (y7.extBut _ _ (Nat.ne_of_gt ql) (Heap.get?_push_size _ rfl))
    have l8 : h8.objs.size = e2.objs.size + 1 := by rw [y8.1, y7.1, Heap.size_push]
    rw [sz] at t8 l8
    refine wpAny_pure ⟨_, rfl, ?_⟩
    show Q (.ref e2.objs.size) ⟨h8, gs, dr, k2, os⟩
    rw [sz]
    exact hQ x1 x2 h8 k2 _ _ l1 l2 z8 (.inr ⟨_, rfl⟩) ⟨_, _, up _ _ S.TOz r2⟩ (D1.frame _ _ _ d1 fun b hb o e => up b o (fun z => S.zf1 (z ▸ hb)) e) (D2.frame _ _ _ d2 fun b hb o e => up b o (fun z => S.zf2 (z ▸ hb)) e) t8 l8 fun c o cz cT c1 c2 e => up c o cz (kp c o cz cT c1 c2 e)
  · replace sf : Heap.SameBut q hp e0 := sf
    simp only [Bool.false_eq_true, if_false]
    refine wpAny_bind ?_
    rw [← Array.forIn_toList]
    simp only [List.forIn_nil, List.forIn_cons]
    refine wpAny_bind (wpAny_bind (wpAny_holding ?_))
    show wpAny _ _ (Builtin.SmallTypes.nextOf (.ref j1) >>= _) _ _ ⟨e0, gs, dr, k0, os⟩
    refine wpAny_bind (D1.item k _ _ _ lt1 (D1.over s1 sf S.zf1) fun x1 w1 k1 l1 n1 y1 => wpAny_pure ?_)
    replace y1 : Heap.SameBut j1 e0 w1 := y1
    refine wpAny_pure ?_
    refine wpAny_bind (wpAny_bind (wpAny_holding ?_))
    show wpAny _ _ (Builtin.SmallTypes.nextOf (.ref j2) >>= _) _ _ ⟨w1, gs, dr, k1, os⟩
    refine wpAny_bind (D2.item k _ _ _ lt2 (D2.over (D2.over s2 sf S.zf2) y1 S.sep1_2) fun x2 w2 k2 l2 n2 y2 => wpAny_pure ?_)
    replace y2 : Heap.SameBut j2 w1 w2 := y2
    refine wpAny_pure (wpAny_pure ?_)
    show wpAny _ _ (newTuple [x1, x2] >>= _) _ _ ⟨w2, gs, dr, k2, os⟩
    refine wpAny_bind (wpAny_newTuple ?_)
    have sz : w2.objs.size = hp.objs.size := by rw [y2.1, y1.1, sf.1]
    have zz : ZipC w2 q ti to u true := y2.extBut _ _ S.zi2 (y1.extBut _ _ S.zi1 zf)
    have kp : ∀ c o, c ≠ q → c ≠ to → c ≠ j1 → c ≠ j2 → hp.get? c = some o → (w2.push { cls := .type "tuple", data := .seq #[x1, x2] }).get? c = some o := fun c o cz cT c1 c2 e =>
      Heap.get?_push_of_some _ (y2.extBut _ _ c2 (y1.extBut _ _ c1 (sf.extBut _ _ cz e)))
    have o2 : IsTupOf2 w2 to b1 b2 := y2.extBut _ _ S.Ti2 (y1.extBut _ _ S.Ti1 (sf.extBut _ _ S.TOz hO))
    have tn : IsTupOf2 (w2.push { cls := .type "tuple", data := .seq #[x1, x2] }) w2.objs.size x1 x2 := Heap.get?_push_size _ rfl
    have ln : (w2.push { cls := .type "tuple", data := .seq #[x1, x2] }).objs.size = w2.objs.size + 1 := Heap.size_push ..
    refine wpAny_pure ⟨_, rfl, ?_⟩
    show Q (.ref w2.objs.size) ⟨w2.push { cls := .type "tuple", data := .seq #[x1, x2] }, gs, dr, k2, os⟩
    rw [sz] at tn ln ⊢
    exact hQ x1 x2 _ k2 _ _ l1 l2 (Heap.get?_push_of_some _ zz) gv ⟨_, _, Heap.get?_push_of_some _ o2⟩ (D1.frame _ _ _ (D1.over n1 y2 S.sep2_1) fun b hb o e => Heap.get?_push_of_some _ e) (D2.frame _ _ _ n2 fun b hb o e => Heap.get?_push_of_some _ e) tn ln kp
theorem zipC_end {Q : Fin → Shared → Prop} (S : ZipSep2 q ti to j1 j2 p1 p2) (D1 : Draws prog w A j1 p1 m1 L1 T1) (D2 : Draws prog w A j2 p2 m2 L2 T2)
    (hz : ZipC s.heap q ti to u f) (gv : Given u) (hI : IsTupOf2 s.heap ti (.ref j1) (.ref j2)) (hO : IsTupOf2 s.heap to b1 b2) (s1 : T1 k s.heap) (s2 : T2 k s.heap) (le1 : k ≤ m1) (le2 : k ≤ m2) (stop : k = m1 ∨ k = m2)
    (hE : ∀ h' tk e, (∀ c o, c ≠ q → c ≠ to → c ≠ j1 → c ≠ j2 → s.heap.get? c = some o → h'.get? c = some o) → (∃ o, h'.get? e = some o ∧ o.cls = .type "StopIteration") → E (.ref e) { s with heap := h', toks := tk }) :
    wpAny (model prog w) A (Builtin.«zip.__next__» ⟨[.ref q], []⟩) Q E s := by
  obtain ⟨hp, gs, dr, k0, os⟩ := s
  show wpAny _ _ (field (.ref q) 2 >>= _) _ _ ⟨hp, gs, dr, k0, os⟩
  refine wpAny_bind (wpAny_field hz rfl (x := .bool false) rfl ?_)
  show wpAny _ _ (field (.ref q) 3 >>= _) _ _ ⟨hp, gs, dr, k0, os⟩
  refine wpAny_bind (wpAny_field hz rfl (x := .ref ti) rfl ?_)
  refine wpAny_bind (wpAny_seqItems hI rfl ?_)
  show wpAny _ _ (Builtin.SmallTypes.ownedTupleIsFree (.ref q) >>= _) _ _ ⟨hp, gs, dr, k0, os⟩
  refine wpAny_bind (free_any hz gv ?_ fun e0 zf sf => ?_)
  · simp only [if_true]
    refine wpAny_bind (wpAny_rule ?_)
    refine wpAny_bind (wpAny_field hz rfl (x := .ref to) rfl ?_)
    refine wpAny_bind (wpAny_setField_rec hz (by simp) fun e0 z0 y0 => ?_)
    replace z0 : ZipC e0 q ti to .ellipsis f := z0
    replace y0 : Heap.SameBut q hp e0 := y0
    refine wpAny_bind ?_
    simp only [List.zipIdx_nil, List.zipIdx_cons, List.forIn_nil, List.forIn_cons]
    refine wpAny_bind (wpAny_bind (wpAny_onRaise ?_))
    show wpAny _ _ (Builtin.SmallTypes.nextOf (.ref j1) >>= _) _ _ ⟨e0, gs, dr, k0, os⟩
    by_cases lt1 : k < m1
    · refine wpAny_bind (D1.item k _ _ _ lt1 (D1.over s1 y0 S.zf1) fun x1 w1 k1 l1 n1 y1 => wpAny_pure ?_)
      replace y1 : Heap.SameBut j1 e0 w1 := y1
      have o1 : IsTupOf2 w1 to b1 b2 := y1.extBut _ _ S.Ti1 (y0.extBut _ _ S.TOz hO)
      refine wpAny_bind (wpAny_seqItems (s := ⟨w1, gs, dr, k1, os⟩) o1 rfl ?_)
      refine wpAny_bind (updateSeq_IsTupOf2 (s := ⟨w1, gs, dr, k1, os⟩) o1 fun e1 r1 v1 => ?_)
      replace r1 : IsTupOf2 e1 to x1 b2 := r1
      replace v1 : Heap.SameBut to w1 e1 := v1
      refine wpAny_bind (wpAny_letGo (wpAny_pure ?_))
      have i2 : k = m2 := by omega
      refine wpAny_bind (wpAny_bind (wpAny_onRaise ?_))
      show wpAny _ _ (Builtin.SmallTypes.nextOf (.ref j2) >>= _) _ _ ⟨e1, gs, dr, k1, os⟩
      refine wpAny_bind (D2.done ⟨e1, gs, dr, k1, os⟩ _ _ (by rw [← i2]; exact D2.over (D2.over (D2.over s2 y0 S.zf2) y1 S.sep1_2) v1 S.Tf2) fun r e hr he => ?_)
      replace hr : Heap.ExtBut j2 e1 r := hr
      obtain ⟨oe, ge, ce⟩ := he
      replace ge : r.get? e = some oe := ge
      have zr : ZipC r q ti to .ellipsis f := hr _ _ S.zi2 (v1.extBut _ _ S.TOz.symm (y1.extBut _ _ S.zi1 z0))
      have eq : e ≠ q := fun x => by subst x; rw [zr] at ge; cases ge; simp at ce
      refine wpAny_setField_rec (s := ⟨r, gs, dr, k1, os⟩) zr (by simp) fun r' _ hr' => ?_
      replace hr' : Heap.SameBut q r r' := hr'
      exact hE r' k1 e (fun c o cz cT c1 c2 x => hr'.extBut _ _ cz (hr _ _ c2 (v1.extBut _ _ cT (y1.extBut _ _ c1 (y0.extBut _ _ cz x))))) ⟨oe, hr'.extBut _ _ eq ge, ce⟩
    · have i1 : k = m1 := by omega
      refine wpAny_bind (D1.done ⟨e0, gs, dr, k0, os⟩ _ _ (by rw [← i1]; exact D1.over s1 y0 S.zf1) fun r e hr he => ?_)
      replace hr : Heap.ExtBut j1 e0 r := hr
      obtain ⟨oe, ge, ce⟩ := he
      replace ge : r.get? e = some oe := ge
      have zr : ZipC r q ti to .ellipsis f := hr _ _ S.zi1 z0
      have eq : e ≠ q := fun x => by subst x; rw [zr] at ge; cases ge; simp at ce
      refine wpAny_setField_rec (s := ⟨r, gs, dr, k0, os⟩) zr (by simp) fun r' _ hr' => ?_
      replace hr' : Heap.SameBut q r r' := hr'
      exact hE r' k0 e (fun c o cz cT c1 c2 x => hr'.extBut _ _ cz (hr _ _ c1 (y0.extBut _ _ cz x))) ⟨oe, hr'.extBut _ _ eq ge, ce⟩
  · replace sf : Heap.SameBut q hp e0 := sf
    simp only [Bool.false_eq_true, if_false]
    refine wpAny_bind ?_
    rw [← Array.forIn_toList]
    simp only [List.forIn_nil, List.forIn_cons]
    refine wpAny_bind (wpAny_bind (wpAny_holding ?_))
    show wpAny _ _ (Builtin.SmallTypes.nextOf (.ref j1) >>= _) _ _ ⟨e0, gs, dr, k0, os⟩
    by_cases lt1 : k < m1
    · refine wpAny_bind (D1.item k _ _ _ lt1 (D1.over s1 sf S.zf1) fun x1 w1 k1 l1 n1 y1 => wpAny_pure ?_)
      replace y1 : Heap.SameBut j1 e0 w1 := y1
      have i2 : k = m2 := by omega
      refine wpAny_pure ?_
      refine wpAny_bind (wpAny_bind (wpAny_holding ?_))
      show wpAny _ _ (Builtin.SmallTypes.nextOf (.ref j2) >>= _) _ _ ⟨w1, gs, dr, k1, os⟩
      refine wpAny_bind (D2.done ⟨w1, gs, dr, k1, os⟩ _ _ (by rw [← i2]; exact D2.over (D2.over s2 sf S.zf2) y1 S.sep1_2) fun r e hr he => ?_)
      replace hr : Heap.ExtBut j2 w1 r := hr
      exact hE r k1 e (fun c o cz cT c1 c2 x => hr _ _ c2 (y1.extBut _ _ c1 (sf.extBut _ _ cz x))) he
    · have i1 : k = m1 := by omega
      refine wpAny_bind (D1.done ⟨e0, gs, dr, k0, os⟩ _ _ (by rw [← i1]; exact D1.over s1 sf S.zf1) fun r e hr he => ?_)
      replace hr : Heap.ExtBut j1 e0 r := hr
      exact hE r k0 e (fun c o cz cT c1 c2 x => hr _ _ c1 (sf.extBut _ _ cz x)) he
/-- next(zip) within another iterator -/
theorem nextOf_zipC {Q : Value → Shared → Prop} (S : ZipSep2 q ti to j1 j2 p1 p2) (D1 : Draws prog w A.in1 j1 p1 m1 L1 T1) (D2 : Draws prog w A.in1 j2 p2 m2 L2 T2)
    (hz : ZipC s.heap q ti to u f) (gv : Given u) (hI : IsTupOf2 s.heap ti (.ref j1) (.ref j2)) (hO : IsTupOf2 s.heap to b1 b2) (s1 : T1 k s.heap) (s2 : T2 k s.heap) (lt1 : k < m1) (lt2 : k < m2)
    (hQ : ∀ x1 x2 h' tk u' f', L1 k x1 → L2 k x2 → ZipC h' q ti to u' f' → Given u' → (∃ c1 c2, IsTupOf2 h' to c1 c2) → T1 (k + 1) h' → T2 (k + 1) h' → IsTupOf2 h' s.heap.objs.size x1 x2 → h'.objs.size = s.heap.objs.size + 1 →
      (∀ c o, c ≠ q → c ≠ to → c ≠ j1 → c ≠ j2 → s.heap.get? c = some o → h'.get? c = some o) → Q (.ref s.heap.objs.size) { s with heap := h', toks := tk }) :
    wpAny (model prog w) A (Builtin.SmallTypes.nextOf (.ref q)) Q E s := by
  have ty : s.TypeIs (.ref q) "zip" := ⟨_, hz, rfl⟩
  unfold Builtin.SmallTypes.nextOf
  refine wpAny_bind (wpAny_callSpecial?_slot (name := Str.ofString "__next__") ty F.slot_zip_next
    (wpAny_call_entry F.slot_zip_next ty F.entry_zip_next (zipC_item S D1 D2 hz gv hI hO s1 s2 lt1 lt2 fun x1 x2 h' tk u' f' a1 a2 a3 a4 a5 a6 a7 a8 a9 a10 => wpAny_pure (hQ x1 x2 h' tk u' f' a1 a2 a3 a4 a5 a6 a7 a8 a9 a10)) (F.args_zip_next_1 _)))
theorem nextOf_zipC_end {Q : Value → Shared → Prop} (S : ZipSep2 q ti to j1 j2 p1 p2) (D1 : Draws prog w A.in1 j1 p1 m1 L1 T1) (D2 : Draws prog w A.in1 j2 p2 m2 L2 T2)
    (hz : ZipC s.heap q ti to u f) (gv : Given u) (hI : IsTupOf2 s.heap ti (.ref j1) (.ref j2)) (hO : IsTupOf2 s.heap to b1 b2) (s1 : T1 k s.heap) (s2 : T2 k s.heap) (le1 : k ≤ m1) (le2 : k ≤ m2) (stop : k = m1 ∨ k = m2)
    (hE : ∀ h' tk e, (∀ c o, c ≠ q → c ≠ to → c ≠ j1 → c ≠ j2 → s.heap.get? c = some o → h'.get? c = some o) → (∃ o, h'.get? e = some o ∧ o.cls = .type "StopIteration") → E (.ref e) { s with heap := h', toks := tk }) :
    wpAny (model prog w) A (Builtin.SmallTypes.nextOf (.ref q)) Q E s := by
  have ty : s.TypeIs (.ref q) "zip" := ⟨_, hz, rfl⟩
  unfold Builtin.SmallTypes.nextOf
  exact wpAny_bind (wpAny_callSpecial?_slot (name := Str.ofString "__next__") ty F.slot_zip_next
    (wpAny_call_entry F.slot_zip_next ty F.entry_zip_next (zipC_end S D1 D2 hz gv hI hO s1 s2 le1 le2 stop hE) (F.args_zip_next_1 _)))
/-- next(enumerate), whatever it walks -/
theorem enumG_item {e it : Addr} {c : Int} {old : Value} {R : Value → Heap → Prop} {Q : Option Value → Shared → Prop} (he : IsEnum s.heap e it c old)
    (nx : ∀ (E' : Value → Shared → Prop) (Q' : Value → Shared → Prop), (∀ x h1 tk, R x h1 → Q' x { s with heap := h1, toks := tk }) → wpAny (model prog w) A.in1 (Builtin.SmallTypes.nextOf (.ref it)) Q' E' s) (kp : ∀ x h1, R x h1 → IsEnum h1 e it c old)
    (hQ : ∀ x h1 h' tk, R x h1 → IsEnumOut h' e it (c + 1) x h1.objs.size → h'.get? h1.objs.size = some { cls := .type "tuple", data := .seq #[.int c tk, x] } → h'.objs.size = h1.objs.size + 1 →
      (∀ b o, b ≠ e → h1.get? b = some o → h'.get? b = some o) → Q (some (.ref h1.objs.size)) { s with heap := h', toks := tk + 1 }) :
    wpAny (model prog w) A (pyNext (.ref e)) Q E s := by
  have ty : s.TypeIs (.ref e) "enumerate" := ⟨_, he, rfl⟩
  unfold pyNext
  refine wpAny_bind (wpAny_attempt (wpAny_callSpecial?_slot (name := Str.ofString "__next__") ty F.slot_enumerate_next
    (wpAny_call_entry F.slot_enumerate_next ty F.entry_enumerate_next ?_ (F.args_enumerate_next_1 _))))
  obtain ⟨hp, gs, dr, k0, os⟩ := s
  show wpAny _ _ (field (.ref e) 2 >>= _) _ _ ⟨hp, gs, dr, k0, os⟩
  refine wpAny_bind (wpAny_field he rfl (x := .ref it) rfl ?_)
  refine wpAny_bind (nx _ _ fun x h1 tk r => ?_)
  have e1 : IsEnum h1 e it c old := kp x h1 r
  show wpAny _ _ (field (.ref e) 3 >>= _) _ _ ⟨h1, gs, dr, tk, os⟩
  refine wpAny_bind (wpAny_field e1 rfl (x := rawInt c) rfl ?_)
  show wpAny _ _ (field (.ref e) 4 >>= _) _ _ ⟨h1, gs, dr, tk, os⟩
  refine wpAny_bind (wpAny_field e1 rfl (x := .none) rfl ?_)
  show wpAny _ _ (mkInt c >>= _) _ _ ⟨h1, gs, dr, tk, os⟩
  refine wpAny_bind (wpAny_mkInt ?_)
  show wpAny _ _ (setField (.ref e) 3 (rawInt (c + 1)) >>= _) _ _ ⟨h1, gs, dr, tk + 1, os⟩
  refine wpAny_bind (wpAny_setField_rec e1 (by simp) fun h2 e2 y2 => ?_)
  replace y2 : Heap.SameBut e h1 h2 := y2
  replace e2 : IsEnum h2 e it (c + 1) old := e2
  show wpAny _ _ (setField (.ref e) 4 .none >>= _) _ _ ⟨h2, gs, dr, tk + 1, os⟩
  refine wpAny_bind (wpAny_setField_rec e2 (by simp) fun h3 e3 y3 => ?_)
  replace y3 : Heap.SameBut e h2 h3 := y3
  replace e3 : IsEnum h3 e it (c + 1) old := e3
  show wpAny _ _ (newTuple [.int c tk, x] >>= _) _ _ ⟨h3, gs, dr, tk + 1, os⟩
  refine wpAny_bind (wpAny_newTuple ?_)
  have e4 : IsEnum (h3.push { cls := .type "tuple", data := .seq #[.int c tk, x] }) e it (c + 1) old := Heap.get?_push_of_some _ e3
  have sz : h3.objs.size = h1.objs.size := by rw [y3.1, y2.1]
  have el : e < h1.objs.size := Heap.lt_size e1
  have t4 : (h3.push { cls := .type "tuple", data := .seq #[.int c tk, x] }).get? h1.objs.size = some { cls := .type "tuple", data := .seq #[.int c tk, x] } := by rw [← sz]; exact Heap.get?_push_size _ rfl
  have z4 : (h3.push { cls := .type "tuple", data := .seq #[.int c tk, x] }).objs.size = h1.objs.size + 1 := by rw [Heap.size_push, sz]
  have k4 : ∀ b o, b ≠ e → h1.get? b = some o → (h3.push { cls := .type "tuple", data := .seq #[.int c tk, x] }).get? b = some o := fun b o be hb =>
    Heap.get?_push_of_some _ (y3.extBut b o be (y2.extBut b o be hb))
  generalize h3.push { cls := .type "tuple", data := .seq #[.int c tk, x] } = h4 at e4 t4 z4 k4
  show wpAny _ _ (Builtin.SmallTypes.ownedTupleIsFree (.ref e) >>= _) _ _ ⟨h4, gs, dr, tk + 1, os⟩
  rw [sz]
  refine wpAny_bind ?_
  unfold Builtin.SmallTypes.ownedTupleIsFree
  refine wpAny_bind (wpAny_field e4 rfl (x := .none) rfl (wpAny_pure ?_))
  simp only [if_true]
  refine wpAny_bind (wpAny_rule ?_)
  refine wpAny_bind (wpAny_field e4 rfl (x := old) rfl ?_)
  refine wpAny_bind (wpAny_setField_rec e4 (by simp) fun h5 e5 y5 => ?_)
  replace y5 : Heap.SameBut e h4 h5 := y5
  replace e5 : IsEnum h5 e it (c + 1) x := e5
  show wpAny _ _ (Builtin.SmallTypes.ownedTupleHandOut (.ref e) (.ref h1.objs.size) >>= _) _ _ ⟨h5, gs, dr, tk + 1, os⟩
  refine wpAny_bind ?_
  unfold Builtin.SmallTypes.ownedTupleHandOut
  refine wpAny_bind (wpAny_setField_rec e5 (by simp) fun h6 e6 y6 => ?_)
  replace y6 : Heap.SameBut e h5 h6 := y6
  replace e6 : IsEnumOut h6 e it (c + 1) x h1.objs.size := e6
  refine wpAny_setField_rec e6 (by simp) fun h7 e7 y7 => ?_
  replace y7 : Heap.SameBut e h6 h7 := y7
  replace e7 : IsEnumOut h7 e it (c + 1) x h1.objs.size := e7
  refine wpAny_bind (wpAny_letGo (wpAny_pure ⟨_, rfl, wpAny_pure (hQ x h1 h7 tk r e7 ?_ ?_ ?_)⟩))
  · exact y7.extBut _ _ (Nat.ne_of_gt el) (y6.extBut _ _ (Nat.ne_of_gt el) (y5.extBut _ _ (Nat.ne_of_gt el) t4))
  · rw [y7.1, y6.1, y5.1, z4]
  · exact fun b o be hb => y7.extBut b o be (y6.extBut b o be (y5.extBut b o be (k4 b o be hb)))
theorem enumG_end {e it : Addr} {c : Int} {old : Value} {R : Heap → Prop} {Q : Option Value → Shared → Prop} (he : IsEnum s.heap e it c old)
    (nx : ∀ (E' : Value → Shared → Prop) (Q' : Value → Shared → Prop), (∀ h' tk x, R h' → (∃ o, h'.get? x = some o ∧ o.cls = .type "StopIteration") → E' (.ref x) { s with heap := h', toks := tk }) → wpAny (model prog w) A.in1 (Builtin.SmallTypes.nextOf (.ref it)) Q' E' s)
    (hQ : ∀ h' tk, R h' → Q none { s with heap := h', toks := tk }) : wpAny (model prog w) A (pyNext (.ref e)) Q E s := by
  have ty : s.TypeIs (.ref e) "enumerate" := ⟨_, he, rfl⟩
  unfold pyNext
  refine wpAny_bind (wpAny_attempt (wpAny_callSpecial?_slot (name := Str.ofString "__next__") ty F.slot_enumerate_next
    (wpAny_call_entry F.slot_enumerate_next ty F.entry_enumerate_next ?_ (F.args_enumerate_next_1 _))))
  show wpAny _ _ (field (.ref e) 2 >>= _) _ _ s
  refine wpAny_bind (wpAny_field he rfl (x := .ref it) rfl ?_)
  refine wpAny_bind (nx _ _ fun h' tk x r ⟨o, ho, hc⟩ => ?_)
  refine wpAny_bind (wpAny_isInstance (T := "StopIteration") (b := true) ⟨o, ho, hc⟩ isSubtype_stop ?_)
  exact wpAny_pure (hQ _ _ r)
end
end Zr

set_option maxRecDepth 100000
set_option maxHeartbeats 8000000
/-! ZrM1: zip of lists, tuples and texts in any mix, and enumerate over it, as what a loop walks. -/
namespace Zr
open PySem PySem.Spec PyProof.Rows L2
/-- what zip draws from -/
inductive Src
  | l (a : Addr)
  | t (a : Addr)
  | s (x : Str)
def Src.val : Src → V
  | .l a => .ref a
  | .t a => .ref a
  | .s x => .str x
def Src.cells : Src → List Addr
  | .l a => [a]
  | .t a => [a]
  | .s _ => []
def signs (x : Str) : List V := x.cps.toList.map fun c => V.str ⟨#[c]⟩
def Src.at (K : Fr') (H : Hp) : Src → List V → Prop
  | .l a, xs => SqL K H a xs
  | .t a, xs => SqT K H a xs
  | .s x, xs => xs = signs x
def Src.it : Src → Heap → Addr → Nat → Prop
  | .l a, h, j, i => h.IsListIter j a i
  | .t a, h, j, i => h.IsTupleIter j a i
  | .s x, h, j, i => ∃ tk, h.IsStrIter j (strIterType x) x tk i
theorem Src.it_keep {S : Src} {h h' : Heap} {j : Addr} {i : Nat} (x : S.it h j i) (k : ∀ o, h.get? j = some o → h'.get? j = some o) : S.it h' j i := by
  cases S with
  | l a => exact Heap.IsListIter.at x k
  | t a => exact Heap.IsTupleIter.at x k
  | s z =>
    obtain ⟨tk, o, h1, r⟩ := x
    exact ⟨tk, o, k o h1, r⟩
theorem Src.it_obj {S : Src} {h : Heap} {j : Addr} {i : Nat} (x : S.it h j i) : ∃ o, h.get? j = some o ∧ ∀ v, o.data ≠ .cell v := by
  cases S with
  | l a =>
    obtain ⟨o, e, _, d⟩ := x
    exact ⟨o, e, fun v q => by rw [d] at q; cases q⟩
  | t a =>
    obtain ⟨o, e, _, d⟩ := x
    exact ⟨o, e, fun v q => by rw [d] at q; cases q⟩
  | s z =>
    obtain ⟨_, o, e, _, d⟩ := x
    exact ⟨o, e, fun v q => by rw [d] at q; cases q⟩
section
variable {X : Cx} {pins : List (Addr × Obj)} {σ : L2.St} {H : Hp} {s : Shared}
theorem Src.inj {S : Src} {xs ys : List V} (I : Inv X pins σ H s) (h : S.at X.K H xs) (h' : S.at X.K H ys) : xs = ys := by
  cases S with
  | l a => exact I.list_inj h h'
  | t a => exact I.tuple_inj h h'
  | s z => exact (show xs = signs z from h).trans (show ys = signs z from h').symm
theorem signs_len (x : Str) : (signs x).length = x.cps.size := by simp [signs]
theorem signs_get {x : Str} {i : Nat} {c : Nat} (h : x.cps[i]? = some c) : (signs x)[i]? = some (V.str ⟨#[c]⟩) := by
  unfold signs
  rw [List.getElem?_map, Array.getElem?_toList, h]
  rfl
/-- what its iterator draws, in the world as it stands -/
theorem Src.draws {S : Src} {xs : List V} {A : Around} (I : Inv X pins σ H s) (hat : S.at X.K H xs) {j : Addr} (ap : j ∉ S.cells) (hh : A.handled = none) :
    ∃ On : Heap → Prop, On s.heap ∧ Draws X.prog X.w A j (j :: S.cells) xs.length (fun i v => ∃ y, xs[i]? = some y ∧ RelV y v) (fun i h => S.it h j i ∧ On h) := by
  cases S with
  | l a =>
    obtain ⟨its, rv, p, _⟩ := I.list hat
    have D := Draws.list (prog := X.prog) (w := X.w) hh j a (fun e => ap (by simp [Src.cells, e])) its.toArray
    have len : its.toArray.size = xs.length := by rw [List.size_toArray, rv.length]
    refine ⟨fun h => h.IsList a its.toArray, p.isList, ⟨D.live, D.frame, fun i s Q E hi st hQ => D.item i s Q E (by rw [len]; exact hi) st fun x h' tk px => hQ x h' tk ?_, fun s Q E st hE => D.done s Q E (by rw [len]; exact st) hE⟩⟩
    obtain ⟨u, hu, ru⟩ := rv.get (List.getElem?_eq_getElem hi)
    have : x = u := by
      have z : its[i]? = some x := by simpa using px
      rw [hu] at z
      exact (Option.some.inj z).symm
    exact ⟨_, List.getElem?_eq_getElem hi, this ▸ ru⟩
  | t a =>
    obtain ⟨its, rv, p, _⟩ := I.tuple hat
    have D := Draws.tuple (prog := X.prog) (w := X.w) hh j a (fun e => ap (by simp [Src.cells, e])) its.toArray
    have len : its.toArray.size = xs.length := by rw [List.size_toArray, rv.length]
    refine ⟨fun h => h.IsTuple a its.toArray, p, ⟨D.live, D.frame, fun i s Q E hi st hQ => D.item i s Q E (by rw [len]; exact hi) st fun x h' tk px => hQ x h' tk ?_, fun s Q E st hE => D.done s Q E (by rw [len]; exact st) hE⟩⟩
    obtain ⟨u, hu, ru⟩ := rv.get (List.getElem?_eq_getElem hi)
    have : x = u := by
      have z : its[i]? = some x := by simpa using px
      rw [hu] at z
      exact (Option.some.inj z).symm
    exact ⟨_, List.getElem?_eq_getElem hi, this ▸ ru⟩
  | s z =>
    cases (show xs = signs z from hat)
    have D := fun tk => Draws.text (prog := X.prog) (w := X.w) hh j z tk
    refine ⟨fun _ => True, trivial, ⟨fun i h ⟨⟨tk, x⟩, _⟩ => (D tk).live i h x, fun i h h' ⟨⟨tk, x⟩, _⟩ k => ⟨⟨tk, (D tk).frame i h h' x k⟩, trivial⟩, fun i s Q E hi ⟨⟨tk, x⟩, _⟩ hQ => ?_, fun s Q E ⟨⟨tk, x⟩, _⟩ hE => ?_⟩⟩
    · refine (D tk).item i s Q E (by rw [← signs_len]; exact hi) x fun v h' tk2 ⟨c, u, hc, hv⟩ st sb => hQ v h' tk2 ⟨_, signs_get hc, ?_⟩ ⟨⟨tk, st⟩, trivial⟩ sb
      rw [hv]
      exact ⟨u, rfl⟩
    · rw [signs_len] at x
      exact (D tk).done s Q E x hE
theorem Src.begins {S : Src} {xs : List V} {u : Value} (I : Inv X pins σ H s) (hat : S.at X.K H xs) (r : RelV S.val u) : ∃ (o : Obj) (On : Heap → Prop), Begins u o On ∧ On s.heap ∧ ∀ h j, h.get? j = some o → S.it h j 0 := by
  cases S with
  | l a =>
    cases r
    obtain ⟨its, rv, p, _⟩ := I.list hat
    exact ⟨_, _, begins_list a its.toArray, p.isList, fun h j e => ⟨_, e, rfl, rfl⟩⟩
  | t a =>
    cases r
    obtain ⟨its, rv, p, _⟩ := I.tuple hat
    exact ⟨_, _, begins_tuple a its.toArray, p, fun h j e => ⟨_, e, rfl, rfl⟩⟩
  | s z =>
    obtain ⟨tk, rfl⟩ := r
    exact ⟨_, _, begins_text z tk, trivial, fun h j e => ⟨tk, _, e, rfl, rfl⟩⟩
theorem Src.cells_lt {S : Src} {xs : List V} (I : Inv X pins σ H s) (hat : S.at X.K H xs) : ∀ b ∈ S.cells, b < s.heap.objs.size := fun b m => by
  cases S with
  | l a =>
    obtain ⟨its, rv, p, _⟩ := I.list hat
    have : b = a := by simpa [Src.cells] using m
    rw [this]
    exact p.lt
  | t a =>
    obtain ⟨its, rv, p, _⟩ := I.tuple hat
    have : b = a := by simpa [Src.cells] using m
    rw [this]
    obtain ⟨o, e, _⟩ := id p
    exact Heap.lt_size e
  | s z => cases m
end
/-- pairs of what two sources hold at each turn, in new tuples -/
def ItS (K : Fr') (A B : Src) : It :=
  ⟨fun i H => ∃ (xs ys : List V) (x y : V), A.at K H xs ∧ B.at K H ys ∧ xs[i]? = some x ∧ ys[i]? = some y,
    fun i H v H' => ∃ T x y, v = .ref T ∧ H T = none ∧ H' = upd H T (.tup [x, y]) ∧ (∀ xs, A.at K H xs → xs[i]? = some x) ∧ ∀ ys, B.at K H ys → ys[i]? = some y,
    fun i H => ∃ xs ys : List V, A.at K H xs ∧ B.at K H ys ∧ i ≤ xs.length ∧ i ≤ ys.length ∧ (i = xs.length ∨ i = ys.length)⟩
/-- the same, each with its number -/
def ItE (K : Fr') (A B : Src) : It :=
  ⟨(ItS K A B).go,
    fun i H v H' => ∃ T U x y, v = .ref U ∧ H T = none ∧ H U = none ∧ U ≠ T ∧ H' = upd (upd H T (.tup [x, y])) U (.tup [.int (i : Nat), .ref T]) ∧ (∀ xs, A.at K H xs → xs[i]? = some x) ∧ ∀ ys, B.at K H ys → ys[i]? = some y,
    (ItS K A B).stop⟩
structure Sep (q ti to j1 j2 : Addr) (A B : Src) : Prop where
  zip : ZipSep2 q ti to j1 j2 (j1 :: A.cells) (j2 :: B.cells)
  one : j1 ∉ A.cells
  two : j2 ∉ B.cells
theorem turn_zipS {P : Program} {w : World} {K : Fr'} {elts : List Expr} {kk : Nat} {tpos : Pos} {q ti to j1 j2 : Addr} {S1 S2 : Src} (D : Sep q ti to j1 j2 S1 S2) :
    Turn P w K (.Tuple elts kk tpos) (ItS K S1 S2) [q, ti, to, j1, j2] q (fun i h => IsZip h q ti to .none ∧ IsTupOf2 h ti (.ref j1) (.ref j2) ∧ (∃ x y, IsTupOf2 h to x y) ∧ S1.it h j1 i ∧ S2.it h j2 i) where
  mem := by simp
  obj := fun i h st c hc => by
    obtain ⟨hz, hI, ⟨x, y, hO⟩, h1, h2⟩ := st
    have e' : c = q ∨ c = ti ∨ c = to ∨ c = j1 ∨ c = j2 := by simpa using hc
    rcases e' with z | z | z | z | z
    · exact z ▸ ⟨_, hz, fun v q => nomatch q⟩
    · exact z ▸ ⟨_, hI, fun v q => nomatch q⟩
    · exact z ▸ ⟨_, hO, fun v q => nomatch q⟩
    · exact z ▸ Src.it_obj (S := S1) h1
    · exact z ▸ Src.it_obj (S := S2) h2
  keep := fun i h h' st k => by
    obtain ⟨hz, hI, ⟨x, y, hO⟩, h1, h2⟩ := st
    exact ⟨k q (by simp) _ hz, k ti (by simp) _ hI, ⟨x, y, k to (by simp) _ hO⟩, Src.it_keep (S := S1) h1 fun o e => k j1 (by simp) o e, Src.it_keep (S := S2) h2 fun o e => k j2 (by simp) o e⟩
  item := by
    intro X hP hw hK hc i pins s σ H E I hf st hg
    subst hP hw hK
    obtain ⟨hz, hI, ⟨x0, y0, hO⟩, h1, h2⟩ := st
    obtain ⟨xs, ys, x, y, gx, gy, hx, hy⟩ := hg
    have hd : X.A.in1.handled = none := show X.A.handled = none from I.ok.hd hc
    obtain ⟨O1, o1, D1⟩ := Src.draws I gx D.one hd
    obtain ⟨O2, o2, D2⟩ := Src.draws I gy D.two hd
    have hzl : q < s.heap.objs.size := Heap.lt_size hz
    refine wpAny_pyNext_zipD2_item D.zip D1 D2 hz hI hO ⟨h1, o1⟩ ⟨h2, o2⟩ (List.getElem?_eq_some_iff.mp hx).1 (List.getElem?_eq_some_iff.mp hy).1 fun u1 u2 h' tk ⟨y1, e1, r1⟩ ⟨y2, e2, r2⟩ z' O' n1 n2 hT hsz hk => ?_
    rw [hx] at e1
    cases e1
    rw [hy] at e2
    cases e2
    refine ⟨_, rfl, wpAny_letOwnedTupleGo_zip (s := { s with heap := h', toks := tk }) z' fun h'' z'' sb => ?_⟩
    have hT2 : h''.get? s.heap.objs.size = some { cls := .type "tuple", data := .seq #[u1, u2] } := (sb.2 _ (Nat.ne_of_gt hzl)).trans hT
    have new : ObjOk X.prog X.w (upd H s.heap.objs.size (.tup [x, y])) h'' s.heap.objs.size (.tup [x, y]) :=
      ⟨by show 2 ≤ sizeLine; decide, [u1, u2], .cons r1 (.cons r2 .nil), ⟨_, hT2, rfl, _, rfl⟩⟩
    have I1 : Inv X pins σ (upd H s.heap.objs.size (.tup [x, y])) { s with heap := h'', toks := tk } :=
      I.turnedNew (t' := tk) (ch := [q, ti, to, j1, j2]) (fun c o hb z => (sb.2 c (fun z' => hb (by simp [z']))).trans (hk c o (fun z' => hb (by simp [z'])) (fun z' => hb (by simp [z'])) (fun z' => hb (by simp [z'])) (fun z' => hb (by simp [z'])) z)) hf (Nat.le_refl _) new
    refine ⟨.ref s.heap.objs.size, _, I1, rfl, ⟨_, x, y, rfl, I.hok.fresh (Nat.le_refl _), rfl, fun l hl => by rw [Src.inj I hl gx]; exact hx, fun l hl => by rw [Src.inj I hl gy]; exact hy⟩, ⟨z'', ?_, ⟨u1, u2, ?_⟩, ?_, ?_⟩, fun c hcm => ?_⟩
    · exact (sb.2 _ D.zip.TIz).trans (hk _ _ D.zip.TIz D.zip.TITO D.zip.TIi1 D.zip.TIi2 hI)
    · exact (sb.2 _ D.zip.TOz).trans O'
    · exact Src.it_keep (S := S1) n1.1 fun o z => (sb.2 _ (Ne.symm D.zip.zi1)).trans z
    · exact Src.it_keep (S := S2) n2.1 fun o z => (sb.2 _ (Ne.symm D.zip.zi2)).trans z
    · have hlt : c < s.heap.objs.size := by
        have e' : c = q ∨ c = ti ∨ c = to ∨ c = j1 ∨ c = j2 := by simpa using hcm
        rcases e' with z | z | z | z | z
        · exact z ▸ hzl
        · exact z ▸ Heap.lt_size hI
        · exact z ▸ Heap.lt_size hO
        · obtain ⟨_, e1, _⟩ := Src.it_obj (S := S1) h1; exact z ▸ Heap.lt_size e1
        · obtain ⟨_, e2, _⟩ := Src.it_obj (S := S2) h2; exact z ▸ Heap.lt_size e2
      rw [upd_ne (Nat.ne_of_lt hlt)]
      exact (hf c hcm).1
  done := by
    intro X hP hw hK hc i pins s σ H E I hf st hg
    subst hP hw hK
    obtain ⟨hz, hI, ⟨x0, y0, hO⟩, h1, h2⟩ := st
    obtain ⟨xs, ys, gx, gy, l1, l2, hend⟩ := hg
    have hd : X.A.in1.handled = none := show X.A.handled = none from I.ok.hd hc
    obtain ⟨O1, o1, D1⟩ := Src.draws I gx D.one hd
    obtain ⟨O2, o2, D2⟩ := Src.draws I gy D.two hd
    exact wpAny_pyNext_zipD2_end D.zip D1 D2 hz hI hO ⟨h1, o1⟩ ⟨h2, o2⟩ l1 l2 hend fun h' tk hk => ⟨rfl, I.turnedL (t' := tk) (ch := [q, ti, to, j1, j2]) (fun c o hb z =>
      hk c o (fun z' => hb (by simp [z'])) (fun z' => hb (by simp [z'])) (fun z' => hb (by simp [z'])) (fun z' => hb (by simp [z'])) z) hf⟩
  self := fun A i s Q E st h => wpAny_pyIter_zip st.1 h
/-- the cells of enumerate(zip(..)) lie apart -/
structure SepE (e q ti to j1 j2 : Addr) (A B : Src) : Prop extends Sep q ti to j1 j2 A B where
  eq : e ≠ q
  eti : e ≠ ti
  eto : e ≠ to
  ej1 : e ≠ j1
  ej2 : e ≠ j2
theorem turn_ezipS {P : Program} {w : World} {K : Fr'} {elts : List Expr} {kk : Nat} {tpos : Pos} {e q ti to j1 j2 : Addr} {S1 S2 : Src} (D : SepE e q ti to j1 j2 S1 S2) :
    Turn P w K (.Tuple elts kk tpos) (ItE K S1 S2) [e, q, ti, to, j1, j2] e (fun i h => (∃ old, IsEnum h e q ((i : Nat) : Int) old) ∧ (∃ u f, ZipC h q ti to u f ∧ Given u) ∧ IsTupOf2 h ti (.ref j1) (.ref j2) ∧ (∃ x y, IsTupOf2 h to x y) ∧ S1.it h j1 i ∧ S2.it h j2 i) where
  mem := by simp
  obj := fun i h st c hc => by
    obtain ⟨⟨old, he⟩, ⟨u, f, hz, _⟩, hI, ⟨x, y, hO⟩, h1, h2⟩ := st
    have e' : c = e ∨ c = q ∨ c = ti ∨ c = to ∨ c = j1 ∨ c = j2 := by simpa using hc
    rcases e' with z | z | z | z | z | z
    · exact z ▸ ⟨_, he, fun v q => nomatch q⟩
    · exact z ▸ ⟨_, hz, fun v q => nomatch q⟩
    · exact z ▸ ⟨_, hI, fun v q => nomatch q⟩
    · exact z ▸ ⟨_, hO, fun v q => nomatch q⟩
    · exact z ▸ Src.it_obj (S := S1) h1
    · exact z ▸ Src.it_obj (S := S2) h2
  keep := fun i h h' st k => by
    obtain ⟨⟨old, he⟩, ⟨u, f, hz, g⟩, hI, ⟨x, y, hO⟩, h1, h2⟩ := st
    exact ⟨⟨old, k e (by simp) _ he⟩, ⟨u, f, k q (by simp) _ hz, g⟩, k ti (by simp) _ hI, ⟨x, y, k to (by simp) _ hO⟩, Src.it_keep (S := S1) h1 fun o e => k j1 (by simp) o e, Src.it_keep (S := S2) h2 fun o e => k j2 (by simp) o e⟩
  item := by
    intro X hP hw hK hc i pins s σ H E I hf st hg
    subst hP hw hK
    obtain ⟨⟨old, he⟩, ⟨u, f, hz, gv⟩, hI, ⟨x0, y0, hO⟩, h1, h2⟩ := st
    obtain ⟨xs, ys, x, y, gx, gy, hx, hy⟩ := hg
    have hd : X.A.in1.in1.handled = none := show X.A.handled = none from I.ok.hd hc
    obtain ⟨O1, o1, D1⟩ := Src.draws I gx D.one hd
    obtain ⟨O2, o2, D2⟩ := Src.draws I gy D.two hd
    have lts : ∀ b ∈ [e, q, ti, to, j1, j2], b < s.heap.objs.size := fun c hcm => by
      have e' : c = e ∨ c = q ∨ c = ti ∨ c = to ∨ c = j1 ∨ c = j2 := by simpa using hcm
      rcases e' with z | z | z | z | z | z
      · exact z ▸ Heap.lt_size he
      · exact z ▸ Heap.lt_size hz
      · exact z ▸ Heap.lt_size hI
      · exact z ▸ Heap.lt_size hO
      · obtain ⟨_, e1, _⟩ := Src.it_obj (S := S1) h1; exact z ▸ Heap.lt_size e1
      · obtain ⟨_, e2, _⟩ := Src.it_obj (S := S2) h2; exact z ▸ Heap.lt_size e2
    refine enumG_item (R := fun v h1' => ∃ u1 u2, v = .ref s.heap.objs.size ∧ RelV x u1 ∧ RelV y u2 ∧ IsTupOf2 h1' s.heap.objs.size u1 u2 ∧ h1'.objs.size = s.heap.objs.size + 1 ∧ (∃ u f, ZipC h1' q ti to u f ∧ Given u) ∧ (∃ x y, IsTupOf2 h1' to x y) ∧ S1.it h1' j1 (i + 1) ∧ S2.it h1' j2 (i + 1) ∧
        ∀ c o, c ≠ q → c ≠ to → c ≠ j1 → c ≠ j2 → s.heap.get? c = some o → h1'.get? c = some o) he (fun E' Q' hQ => ?_) (fun v h1' ⟨_, _, _, _, _, _, _, _, _, _, _, k⟩ => k _ _ D.eq D.eto D.ej1 D.ej2 he) fun v g1 h' tk r ho hT hsz hk => ?_
    · refine nextOf_zipC D.zip D1 D2 hz gv hI hO ⟨h1, o1⟩ ⟨h2, o2⟩ (List.getElem?_eq_some_iff.mp hx).1 (List.getElem?_eq_some_iff.mp hy).1 fun u1 u2 h' tk u' f' ⟨y1, e1, r1⟩ ⟨y2, e2, r2⟩ z' g' O' n1 n2 hT hsz hk => ?_
      rw [hx] at e1
      cases e1
      rw [hy] at e2
      cases e2
      exact hQ _ _ tk ⟨u1, u2, rfl, r1, r2, hT, hsz, ⟨u', f', z', g'⟩, O', n1.1, n2.1, hk⟩
    · obtain ⟨u1, u2, rfl, r1, r2, gT, gsz, gz, gO, n1, n2, gk⟩ := r
      refine ⟨_, rfl, wpAny_letOwnedTupleGo_enum (s := { s with heap := h', toks := tk + 1 }) ho fun h'' z'' sb => ?_⟩
      have no1 : H s.heap.objs.size = none := I.hok.fresh (Nat.le_refl _)
      have no2 : H g1.objs.size = none := I.hok.fresh (by rw [gsz]; exact Nat.le_succ _)
      have ne : g1.objs.size ≠ s.heap.objs.size := by rw [gsz]; exact Nat.succ_ne_self _
      have new1 : ObjOk X.prog X.w (upd H s.heap.objs.size (.tup [x, y])) g1 s.heap.objs.size (.tup [x, y]) :=
        ⟨by show 2 ≤ sizeLine; decide, [u1, u2], .cons r1 (.cons r2 .nil), ⟨_, gT, rfl, _, rfl⟩⟩
      have I1 : Inv X pins σ (upd H s.heap.objs.size (.tup [x, y])) { s with heap := g1, toks := tk } :=
        I.turnedNew (t' := tk) (ch := [e, q, ti, to, j1, j2]) (fun c o hb z => gk c o (fun z' => hb (by simp [z'])) (fun z' => hb (by simp [z'])) (fun z' => hb (by simp [z'])) (fun z' => hb (by simp [z'])) z) hf (Nat.le_refl _) new1
      have hf1 : ∀ b ∈ [e, q, ti, to, j1, j2], FpOk X pins (upd H s.heap.objs.size (.tup [x, y])) b := fun b m =>
        ⟨by rw [upd_ne (Nat.ne_of_lt (lts b m))]; exact (hf b m).1, (hf b m).2⟩
      have el : e < g1.objs.size := by rw [gsz]; exact Nat.lt_succ_of_lt (lts e (by simp))
      have up : ∀ b o, b ≠ e → g1.get? b = some o → h''.get? b = some o := fun b o n z => (sb.2 b n).trans (hk b o n z)
      have hT2 : h''.get? g1.objs.size = some { cls := .type "tuple", data := .seq #[.int i tk, .ref s.heap.objs.size] } := (sb.2 _ (Nat.ne_of_gt el)).trans hT
      have new2 : ObjOk X.prog X.w (upd (upd H s.heap.objs.size (.tup [x, y])) g1.objs.size (.tup [.int (i : Nat), .ref s.heap.objs.size])) h'' g1.objs.size (.tup [.int (i : Nat), .ref s.heap.objs.size]) :=
        ⟨by show 2 ≤ sizeLine; decide, [.int i tk, .ref s.heap.objs.size], .cons ⟨_, rfl⟩ (.cons rfl .nil), ⟨_, hT2, rfl, _, rfl⟩⟩
      have I2 : Inv X pins σ (upd (upd H s.heap.objs.size (.tup [x, y])) g1.objs.size (.tup [.int (i : Nat), .ref s.heap.objs.size])) { s with heap := h'', toks := tk + 1 } :=
        I1.turnedNew (t' := tk + 1) (ch := [e, q, ti, to, j1, j2]) (fun c o hb z => up c o (fun z' => hb (by simp [z'])) z) hf1 (Nat.le_refl _) new2
      obtain ⟨uu, ff, gz1, gz2⟩ := gz
      obtain ⟨c1, c2, gO⟩ := gO
      refine ⟨.ref g1.objs.size, _, I2, rfl, ⟨s.heap.objs.size, g1.objs.size, x, y, rfl, no1, no2, ne, rfl, fun l hl => by rw [Src.inj I hl gx]; exact hx, fun l hl => by rw [Src.inj I hl gy]; exact hy⟩, ⟨⟨.ref s.heap.objs.size, ?_⟩, ⟨uu, ff, up _ _ (Ne.symm D.eq) gz1, gz2⟩, up _ _ (Ne.symm D.eti) (gk _ _ D.zip.TIz D.zip.TITO D.zip.TIi1 D.zip.TIi2 hI), ⟨c1, c2, up _ _ (Ne.symm D.eto) gO⟩, Src.it_keep (S := S1) n1 fun o z => up _ _ (Ne.symm D.ej1) z, Src.it_keep (S := S2) n2 fun o z => up _ _ (Ne.symm D.ej2) z⟩, fun c hcm => ?_⟩
      · have e1 : ((i + 1 : Nat) : Int) = (i : Int) + 1 := by omega
        rw [e1]
        exact z''
      · rw [upd_ne (Nat.ne_of_lt (by rw [gsz]; exact Nat.lt_succ_of_lt (lts c hcm)))]
        exact (hf1 c hcm).1
  done := by
    intro X hP hw hK hc i pins s σ H E I hf st hg
    subst hP hw hK
    obtain ⟨⟨old, he⟩, ⟨u, f, hz, gv⟩, hI, ⟨x0, y0, hO⟩, h1, h2⟩ := st
    obtain ⟨xs, ys, gx, gy, l1, l2, hend⟩ := hg
    have hd : X.A.in1.in1.handled = none := show X.A.handled = none from I.ok.hd hc
    obtain ⟨O1, o1, D1⟩ := Src.draws I gx D.one hd
    obtain ⟨O2, o2, D2⟩ := Src.draws I gy D.two hd
    exact enumG_end (R := fun h' => ∀ c o, c ≠ q → c ≠ to → c ≠ j1 → c ≠ j2 → s.heap.get? c = some o → h'.get? c = some o) he
      (fun E' Q' hE => nextOf_zipC_end D.zip D1 D2 hz gv hI hO ⟨h1, o1⟩ ⟨h2, o2⟩ l1 l2 hend fun h' tk x k w => hE h' tk x k w)
      fun h' tk hk => ⟨rfl, I.turnedL (t' := tk) (ch := [e, q, ti, to, j1, j2]) (fun c o hb z => hk c o (fun z' => hb (by simp [z'])) (fun z' => hb (by simp [z'])) (fun z' => hb (by simp [z'])) (fun z' => hb (by simp [z'])) z) hf⟩
  self := fun A i s Q E st h => by
    obtain ⟨⟨_, he⟩, _⟩ := st
    exact wpAny_pyIter_enum he h
theorem sep_of {A B : Src} {N : Nat} (a : ∀ b ∈ A.cells, b < N) (b : ∀ c ∈ B.cells, c < N) : SepE (N + 5) (N + 4) (N + 2) (N + 3) N (N + 1) A B where
  zip := zip_sep2 a b
  one := fun m => Nat.lt_irrefl _ (a _ m)
  two := fun m => absurd (b _ m) (Nat.not_lt_of_le (Nat.le_succ N))
  eq := show (N + 5 : Nat) ≠ N + 4 by omega
  eti := show (N + 5 : Nat) ≠ N + 2 by omega
  eto := show (N + 5 : Nat) ≠ N + 3 by omega
  ej1 := show (N + 5 : Nat) ≠ N by omega
  ej2 := show (N + 5 : Nat) ≠ N + 1 by omega
def iZipS (K : Fr') (ta : TA) : TI := fun σ H R => ta σ H fun vs H1 => ∃ A B xs ys, vs = [Src.val A, Src.val B] ∧ Src.at K H1 A xs ∧ Src.at K H1 B ys ∧ R (ItS K A B) H1
theorem pi_zipS {X : Cx} {e e2 : Expr} {ta : TA} {p pos tpos : Pos} {elts : List Expr} {kk : Nat} (vis : Gl X "zip") (free : X.mg "zip" = none) (ha : PA X [e, e2] ta)
    (hs : starEach [e, e2] X.env = (false, eval e X.env) :: starEach [e2] X.env) (hpl : (backTo pos (starEach [e2] X.env)).any (·.1) = false) :
    PI X (.Tuple elts kk tpos) (.Call (.Name "zip" p) [e, e2] [] pos) (iZipS X.K ta) := by
  refine ⟨fun pins s σ H R I h => Call_ (ld_blt I vis free PyProof.Rows.boot_zip (PyProof.Rows.callWith_type1 (thn (ha.run pos pins s σ H _ I h) fun us s1 ⟨vs, H1, I1, rel, A, B, xs, ys, ev, gx, gy, w⟩ => ?_) hs hpl))⟩
  subst ev
  cases rel with
  | cons r1 rr =>
    cases rr with
    | cons r2 rr =>
      cases rr
      obtain ⟨oa, Oa, Ba, na, fa⟩ := Src.begins I1 gx r1
      obtain ⟨ob, Ob, Bb, nb, fb⟩ := Src.begins I1 gy r2
      have D := sep_of (Src.cells_lt I1 gx) (Src.cells_lt I1 gy)
      refine zip_begins2 Ba Bb na nb fun h' hz hI hO g1 g2 _ hk => wpAny_pyIter_zip hz ?_
      have I2 : Inv X pins σ H1 { s1 with heap := h' } := I1.kept (t' := s1.toks) hk
      refine ⟨s1.heap.objs.size + 4, [s1.heap.objs.size + 4, s1.heap.objs.size + 2, s1.heap.objs.size + 3, s1.heap.objs.size, s1.heap.objs.size + 1], _, _, H1, rfl, I2, turn_zipS D.toSep, ⟨hz, hI, ⟨_, _, hO⟩, fa _ _ g1, fb _ _ g2⟩, fun c hcm => ?_, w⟩
      have le : s1.heap.objs.size ≤ c := by
        have e' : c = s1.heap.objs.size + 4 ∨ c = s1.heap.objs.size + 2 ∨ c = s1.heap.objs.size + 3 ∨ c = s1.heap.objs.size ∨ c = s1.heap.objs.size + 1 := by simpa using hcm
        rcases e' with z | z | z | z | z
        · exact z ▸ Nat.le_add_right _ _
        · exact z ▸ Nat.le_add_right _ _
        · exact z ▸ Nat.le_add_right _ _
        · exact z ▸ Nat.le_refl _
        · exact z ▸ Nat.le_add_right _ _
      exact I1.fpOk le (I1.hok.fresh le)
/-- enumerate(zip): one new cell, the zip being its own iterator -/
theorem enum_oneZ {q ti to : Addr} :
    Meets (Builtin.«enumerate.__new__» ⟨[.type "enumerate", .ref q], []⟩) (fun _ R s => IsZip s.heap q ti to .none ∧
      R (.ok (.ret (.ref s.heap.objs.size))) { s with heap := s.heap.push { cls := .type "enumerate", data := .fields #[.none, .bool false, .ref q, rawInt 0, .none, .none] } }) :=
  .of_wp fun prog w A R s h => by
    obtain ⟨hp, g, d, tk, os⟩ := s
    obtain ⟨hz, h⟩ := h
    have hsub := sub_enumerate
    have walkIt : ∀ {A' : Around} {E : Value → Shared → Prop} {Q : Value → Shared → Prop}, Q (.ref q) ⟨hp, g, d, tk, os⟩ → wpAny (model prog w) A' (pyIter (.ref q)) Q E ⟨hp, g, d, tk, os⟩ := fun x => wpAny_pyIter_zip (s := ⟨hp, g, d, tk, os⟩) hz x
    wp_walk using walkIt
    refine wpAny_stack_any fun st => wpAny_pure ?_
    split
    · rename_i c _ _ _ _ _
      cases (c == Value.type "enumerate")
      · wp_walk using walkIt
        exact ⟨_, rfl, h⟩
      · wp_walk using walkIt
        exact ⟨_, rfl, h⟩
    · wp_walk using walkIt
      exact ⟨_, rfl, h⟩
section
variable {prog : Program} {w : World} {A : Around} {E : Value → Shared → Prop} {s : Shared}
theorem enum_callZ {q ti to : Addr} {Q : Value → Shared → Prop} (hz : IsZip s.heap q ti to .none)
    (h : ∀ h', IsEnum h' s.heap.objs.size q 0 .none → (∀ b ob, s.heap.get? b = some ob → h'.get? b = some ob) → Q (.ref s.heap.objs.size) { s with heap := h' }) :
    wpAny (model prog w) A (call (.type "enumerate") [.ref q]) Q E s := by
  refine callType_new F.called_enumerate (by decide) (F.typeCall_enumerate_1 _) (F.newCall_enumerate_1 _) (fun obj => F.args_object_init_2 obj _) F.entry_enumerate_new (enum_oneZ (q := q) (ti := ti) (to := to)) ⟨hz, ?_⟩
  have there : IsEnum (s.heap.push { cls := .type "enumerate", data := .fields #[.none, .bool false, .ref q, rawInt 0, .none, .none] }) s.heap.objs.size q 0 .none := Heap.get?_push_size _ rfl
  exact ⟨⟨_, there, rfl⟩, h _ there fun b ob x => Heap.get?_push_of_some _ x⟩
end
def iZipE (K : Fr') (ta : TA) : TI := fun σ H R => ta σ H fun vs H1 => ∃ A B xs ys, vs = [Src.val A, Src.val B] ∧ Src.at K H1 A xs ∧ Src.at K H1 B ys ∧ R (ItE K A B) H1
theorem pi_ezipS {X : Cx} {e e2 : Expr} {ta : TA} {p p2 pos pos2 tpos : Pos} {elts : List Expr} {kk : Nat} (vis2 : Gl X "enumerate") (free2 : X.mg "enumerate" = none) (vis : Gl X "zip") (free : X.mg "zip" = none) (ha : PA X [e, e2] ta)
    (hs : starEach [e, e2] X.env = (false, eval e X.env) :: starEach [e2] X.env) (hpl : (backTo pos2 (starEach [e2] X.env)).any (·.1) = false) :
    PI X (.Tuple elts kk tpos) (.Call (.Name "enumerate" p) [.Call (.Name "zip" p2) [e, e2] [] pos2] [] pos) (iZipE X.K ta) := by
  refine ⟨fun pins s σ H R I h => Call_ (ld_blt I vis2 free2 boot_enumerate (PyProof.Rows.callWith_type1 (PyProof.Rows.args_cons (Call_ (ld_blt I vis free PyProof.Rows.boot_zip (PyProof.Rows.callWith_type1 (thn (ha.run pos2 pins s σ H _ I h) fun us s1 ⟨vs, H1, I1, rel, A, B, xs, ys, ev, gx, gy, w⟩ => ?_) hs hpl))) rfl) rfl rfl))⟩
  subst ev
  cases rel with
  | cons r1 rr =>
    cases rr with
    | cons r2 rr =>
      cases rr
      obtain ⟨oa, Oa, Ba, na, fa⟩ := Src.begins I1 gx r1
      obtain ⟨ob, Ob, Bb, nb, fb⟩ := Src.begins I1 gy r2
      have D := sep_of (Src.cells_lt I1 gx) (Src.cells_lt I1 gy)
      refine zip_begins2 Ba Bb na nb fun h' hz hI hO g1 g2 h5 hk => PyProof.Rows.args_nil ?_
      refine enum_callZ (s := { s1 with heap := h' }) hz fun h6 he k6 => wpAny_pyIter_enum he ?_
      have I2 : Inv X pins σ H1 { s1 with heap := h6 } := I1.kept (t' := s1.toks) fun b o z => k6 b o (hk b o z)
      replace he : IsEnum h6 h'.objs.size (s1.heap.objs.size + 4) ((0 : Nat) : Int) .none := he
      rw [h5] at he
      refine ⟨s1.heap.objs.size + 5, [s1.heap.objs.size + 5, s1.heap.objs.size + 4, s1.heap.objs.size + 2, s1.heap.objs.size + 3, s1.heap.objs.size, s1.heap.objs.size + 1], _, _, H1, ?_, I2, turn_ezipS D, ⟨⟨_, he⟩, ⟨_, _, k6 _ _ hz, .inl rfl⟩, k6 _ _ hI, ⟨_, _, k6 _ _ hO⟩, fa _ _ (k6 _ _ g1), fb _ _ (k6 _ _ g2)⟩, fun c hcm => ?_, w⟩
      · show Value.ref h'.objs.size = _
        rw [h5]
      have le : s1.heap.objs.size ≤ c := by
        have e' : c = s1.heap.objs.size + 5 ∨ c = s1.heap.objs.size + 4 ∨ c = s1.heap.objs.size + 2 ∨ c = s1.heap.objs.size + 3 ∨ c = s1.heap.objs.size ∨ c = s1.heap.objs.size + 1 := by simpa using hcm
        rcases e' with z | z | z | z | z | z
        · exact z ▸ Nat.le_add_right _ _
        · exact z ▸ Nat.le_add_right _ _
        · exact z ▸ Nat.le_add_right _ _
        · exact z ▸ Nat.le_add_right _ _
        · exact z ▸ Nat.le_refl _
        · exact z ▸ Nat.le_add_right _ _
      exact I1.fpOk le (I1.hok.fresh le)
/-! ### one source, numbered -/
def ItN (K : Fr') (A : Src) : It :=
  ⟨fun i H => ∃ (xs : List V) (x : V), A.at K H xs ∧ xs[i]? = some x, fun i H v H' => ∃ T x, v = .ref T ∧ H T = none ∧ H' = upd H T (.tup [.int (i : Nat), x]) ∧ ∀ xs, A.at K H xs → xs[i]? = some x, fun i H => ∃ xs : List V, A.at K H xs ∧ xs.length = i⟩
theorem turn_enumS {P : Program} {w : World} {K : Fr'} {elts : List Expr} {kk : Nat} {tpos : Pos} {e j : Addr} {S : Src} (ne : e ≠ j) (ap : e ∉ S.cells) (aj : j ∉ S.cells) :
    Turn P w K (.Tuple elts kk tpos) (ItN K S) [e, j] e (fun i h => (∃ old, IsEnum h e j ((i : Nat) : Int) old) ∧ S.it h j i) where
  mem := by simp
  obj := fun i h st b hb => by
    obtain ⟨⟨old, he⟩, h1⟩ := st
    have two : b = e ∨ b = j := by simpa using hb
    rcases two with z | z
    · exact z ▸ ⟨_, he, fun v q => nomatch q⟩
    · exact z ▸ Src.it_obj (S := S) h1
  keep := fun i h h' st k => by
    obtain ⟨⟨old, he⟩, h1⟩ := st
    exact ⟨⟨old, k e (by simp) _ he⟩, Src.it_keep (S := S) h1 fun o q => k j (by simp) o q⟩
  item := by
    intro X hP hw hK hc i pins s σ H E I hf st hg
    subst hP hw hK
    obtain ⟨⟨old, he⟩, h1⟩ := st
    obtain ⟨xs, x, gx, hx⟩ := hg
    obtain ⟨O1, o1, D1⟩ := Src.draws I gx aj (A := X.A.in1) (show X.A.handled = none from I.ok.hd hc)
    have hel : e < s.heap.objs.size := Heap.lt_size he
    have hil : j < s.heap.objs.size := by obtain ⟨_, q, _⟩ := Src.it_obj (S := S) h1; exact Heap.lt_size q
    refine wpAny_pyNext_enum_itemD D1 he ⟨h1, o1⟩ (List.getElem?_eq_some_iff.mp hx).1 ne (fun z => (List.mem_cons.mp z).elim ne ap) fun y h' tk ⟨y1, e1, r1⟩ ho hst hT hsz hk => ?_
    rw [hx] at e1
    cases e1
    refine ⟨_, rfl, wpAny_letOwnedTupleGo_enum (s := { s with heap := h', toks := tk + 1 }) ho fun h2 he2 sb => ?_⟩
    have hT2 : h2.get? s.heap.objs.size = some { cls := .type "tuple", data := .seq #[.int i tk, y] } := (sb.2 _ (Nat.ne_of_gt hel)).trans hT
    have new : ObjOk X.prog X.w (upd H s.heap.objs.size (.tup [.int (i : Nat), x])) h2 s.heap.objs.size (.tup [.int (i : Nat), x]) :=
      ⟨by show 2 ≤ sizeLine; decide, [.int i tk, y], .cons ⟨_, rfl⟩ (.cons r1 .nil), ⟨_, hT2, rfl, _, rfl⟩⟩
    have I1 : Inv X pins σ (upd H s.heap.objs.size (.tup [.int (i : Nat), x])) { s with heap := h2, toks := tk + 1 } :=
      I.turnedNew (ch := [e, j]) (fun b ob hb q => (sb.2 b (fun z => hb (by simp [z]))).trans (hk b ob (fun z => hb (by simp [z])) (fun z => hb (by simp [z])) q)) hf (Nat.le_refl _) new
    refine ⟨.ref s.heap.objs.size, _, I1, rfl, ⟨_, x, rfl, I.hok.fresh (Nat.le_refl _), rfl, fun ys hy => by rw [Src.inj I hy gx]; exact hx⟩, ⟨⟨y, ?_⟩, Src.it_keep (S := S) hst.1 fun o q => (sb.2 j (Ne.symm ne)).trans q⟩, fun b hb => ?_⟩
    · have e1 : ((i + 1 : Nat) : Int) = (i : Int) + 1 := by omega
      rw [e1]
      exact he2
    · have lt : b < s.heap.objs.size := by
        have two : b = e ∨ b = j := by simpa using hb
        rcases two with z | z
        · exact z ▸ hel
        · exact z ▸ hil
      rw [upd_ne (Nat.ne_of_lt lt)]
      exact (hf b hb).1
  done := by
    intro X hP hw hK hc i pins s σ H E I hf st hg
    subst hP hw hK
    obtain ⟨⟨old, he⟩, h1⟩ := st
    obtain ⟨xs, gx, len⟩ := hg
    subst len
    obtain ⟨O1, o1, D1⟩ := Src.draws I gx aj (A := X.A.in1) (show X.A.handled = none from I.ok.hd hc)
    obtain ⟨f0, f1, f2, f3, f4, f5⟩ := hf j (by simp)
    exact wpAny_pyNext_enum_endD D1 he ⟨h1, o1⟩ fun h' eb => ⟨rfl, I.turned (t' := s.toks) (fun b o hb q => eb b o hb q) f0 f1 f3 f4 f5⟩
  self := fun A i s Q E st h => let ⟨⟨_, he⟩, _⟩ := st; wpAny_pyIter_enum he h
/-- enumerate(v): its two new cells -/
theorem enum_one {v : Value} {o : Obj} {U : Heap → Prop} (B : Begins v o U) :
    Meets (Builtin.«enumerate.__new__» ⟨[.type "enumerate", v], []⟩) (fun _ R s => U s.heap ∧
      R (.ok (.ret (.ref (s.heap.push o).objs.size))) { s with heap := (s.heap.push o).push { cls := .type "enumerate", data := .fields #[.none, .bool false, .ref s.heap.objs.size, rawInt 0, .none, .none] } }) :=
  .of_wp fun prog w A R s h => by
    obtain ⟨hp, g, d, tk, os⟩ := s
    obtain ⟨u1, h⟩ := h
    have hsub := sub_enumerate
    have walkIt : ∀ {A' : Around} {E : Value → Shared → Prop} {Q : Value → Shared → Prop}, Q (.ref hp.objs.size) ⟨hp.push o, g, d, tk, os⟩ → wpAny (model prog w) A' (pyIter v) Q E ⟨hp, g, d, tk, os⟩ := fun q => B.iter prog w _ _ ⟨hp, g, d, tk, os⟩ _ u1 q
    wp_walk using walkIt
    refine wpAny_stack_any fun st => wpAny_pure ?_
    split
    · rename_i c _ _ _ _ _
      cases (c == Value.type "enumerate")
      · wp_walk using walkIt
        exact ⟨_, rfl, h⟩
      · wp_walk using walkIt
        exact ⟨_, rfl, h⟩
    · wp_walk using walkIt
      exact ⟨_, rfl, h⟩
section
variable {prog : Program} {w : World} {A : Around} {E : Value → Shared → Prop} {s : Shared}
theorem enum_call {v : Value} {o : Obj} {U : Heap → Prop} {Q : Value → Shared → Prop} (B : Begins v o U) (u1 : U s.heap)
    (h : ∀ h', IsEnum h' (s.heap.objs.size + 1) s.heap.objs.size 0 .none → h'.get? s.heap.objs.size = some o → (∀ b ob, s.heap.get? b = some ob → h'.get? b = some ob) → Q (.ref (s.heap.objs.size + 1)) { s with heap := h' }) :
    wpAny (model prog w) A (call (.type "enumerate") [v]) Q E s := by
  refine callType_new F.called_enumerate (by decide) (F.typeCall_enumerate_1 _) (F.newCall_enumerate_1 _) (fun obj => F.args_object_init_2 obj _) F.entry_enumerate_new (enum_one B) ⟨u1, ?_⟩
  have size1 : (s.heap.push o).objs.size = s.heap.objs.size + 1 := Heap.size_push ..
  show _ ∧ _
  rw [size1]
  have there : IsEnum ((s.heap.push o).push { cls := .type "enumerate", data := .fields #[.none, .bool false, .ref s.heap.objs.size, rawInt 0, .none, .none] }) (s.heap.objs.size + 1) s.heap.objs.size 0 .none := by
    have := Heap.get?_push_size (s.heap.push o) (o := { cls := .type "enumerate", data := .fields #[.none, .bool false, .ref s.heap.objs.size, rawInt 0, .none, .none] }) rfl
    rw [size1] at this
    exact this
  exact ⟨⟨_, there, rfl⟩, h _ there (Heap.get?_push_of_some _ (Heap.get?_push_size _ B.free)) fun b ob x => Heap.get?_push_of_some _ (Heap.get?_push_of_some _ x)⟩
end
def iEnumS (K : Fr') (ta : TA) : TI := fun σ H R => ta σ H fun vs H1 => ∃ A xs, vs = [Src.val A] ∧ Src.at K H1 A xs ∧ R (ItN K A) H1
theorem pi_enumS {X : Cx} {e : Expr} {ta : TA} {p pos tpos : Pos} {elts : List Expr} {kk : Nat} (vis : Gl X "enumerate") (free : X.mg "enumerate" = none) (ha : PA X [e] ta) (hs : starEach [e] X.env = [(false, eval e X.env)]) :
    PI X (.Tuple elts kk tpos) (.Call (.Name "enumerate" p) [e] [] pos) (iEnumS X.K ta) := by
  refine ⟨fun pins s σ H R I h => Call_ (ld_blt I vis free boot_enumerate (PyProof.Rows.callWith_type1 (thn (ha.run pos pins s σ H _ I h) fun us s1 ⟨vs, H1, I1, rel, A, xs, ex, gx, q⟩ => ?_) hs rfl))⟩
  subst ex
  cases rel with
  | cons r rr =>
    cases rr
    obtain ⟨oa, Oa, Ba, na, fa⟩ := Src.begins I1 gx r
    have lt := Src.cells_lt I1 gx
    refine enum_call Ba na fun h' he hit hk => wpAny_pyIter_enum he ?_
    have I2 : Inv X pins σ H1 { s1 with heap := h' } := I1.kept (t' := s1.toks) hk
    refine ⟨s1.heap.objs.size + 1, [s1.heap.objs.size + 1, s1.heap.objs.size], _, _, H1, rfl, I2, turn_enumS (Nat.succ_ne_self _) (fun m => absurd (lt _ m) (Nat.not_lt_of_le (Nat.le_succ _))) (fun m => Nat.lt_irrefl _ (lt _ m)), ⟨⟨.none, he⟩, fa _ _ hit⟩, fun b hb => ?_, q⟩
    have two : b = s1.heap.objs.size + 1 ∨ b = s1.heap.objs.size := by simpa using hb
    have hle : s1.heap.objs.size ≤ b := by
      rcases two with z | z
      · exact z ▸ Nat.le_succ _
      · exact z ▸ Nat.le_refl _
    exact I1.fpOk hle (I1.hok.fresh hle)
/-! ### three sources -/
def Its3 (K : Fr') (A B C : Src) : It :=
  ⟨fun i H => ∃ (xs ys zs : List V) (x y z : V), A.at K H xs ∧ B.at K H ys ∧ C.at K H zs ∧ xs[i]? = some x ∧ ys[i]? = some y ∧ zs[i]? = some z,
    fun i H v H' => ∃ T x y z, v = .ref T ∧ H T = none ∧ H' = upd H T (.tup [x, y, z]) ∧ (∀ xs, A.at K H xs → xs[i]? = some x) ∧ (∀ ys, B.at K H ys → ys[i]? = some y) ∧ ∀ zs, C.at K H zs → zs[i]? = some z,
    fun i H => ∃ xs ys zs : List V, A.at K H xs ∧ B.at K H ys ∧ C.at K H zs ∧ i ≤ xs.length ∧ i ≤ ys.length ∧ i ≤ zs.length ∧ (i = xs.length ∨ i = ys.length ∨ i = zs.length)⟩
structure Sep3 (q ti to j1 j2 j3 : Addr) (A B C : Src) : Prop where
  zip : ZipSep3 q ti to j1 j2 j3 (j1 :: A.cells) (j2 :: B.cells) (j3 :: C.cells)
  one : j1 ∉ A.cells
  two : j2 ∉ B.cells
  three : j3 ∉ C.cells
theorem turn_zip3S {P : Program} {w : World} {K : Fr'} {elts : List Expr} {kk : Nat} {tpos : Pos} {q ti to j1 j2 j3 : Addr} {S1 S2 S3 : Src} (D : Sep3 q ti to j1 j2 j3 S1 S2 S3) :
    Turn P w K (.Tuple elts kk tpos) (Its3 K S1 S2 S3) [q, ti, to, j1, j2, j3] q (fun i h => IsZip h q ti to .none ∧ IsTupOf3 h ti (.ref j1) (.ref j2) (.ref j3) ∧ (∃ x y z, IsTupOf3 h to x y z) ∧ S1.it h j1 i ∧ S2.it h j2 i ∧ S3.it h j3 i) where
  mem := by simp
  obj := fun i h st c hc => by
    obtain ⟨hz, hI, ⟨x, y, z, hO⟩, h1, h2, h3⟩ := st
    have e' : c = q ∨ c = ti ∨ c = to ∨ c = j1 ∨ c = j2 ∨ c = j3 := by simpa using hc
    rcases e' with z | z | z | z | z | z
    · exact z ▸ ⟨_, hz, fun v q => nomatch q⟩
    · exact z ▸ ⟨_, hI, fun v q => nomatch q⟩
    · exact z ▸ ⟨_, hO, fun v q => nomatch q⟩
    · exact z ▸ Src.it_obj (S := S1) h1
    · exact z ▸ Src.it_obj (S := S2) h2
    · exact z ▸ Src.it_obj (S := S3) h3
  keep := fun i h h' st k => by
    obtain ⟨hz, hI, ⟨x, y, z, hO⟩, h1, h2, h3⟩ := st
    exact ⟨k q (by simp) _ hz, k ti (by simp) _ hI, ⟨x, y, z, k to (by simp) _ hO⟩, Src.it_keep (S := S1) h1 fun o e => k j1 (by simp) o e, Src.it_keep (S := S2) h2 fun o e => k j2 (by simp) o e, Src.it_keep (S := S3) h3 fun o e => k j3 (by simp) o e⟩
  item := by
    intro X hP hw hK hc i pins s σ H E I hf st hg
    subst hP hw hK
    obtain ⟨hz, hI, ⟨x0, y0, z0, hO⟩, h1, h2, h3⟩ := st
    obtain ⟨xs, ys, zs, x, y, z, gx, gy, gz, hx, hy, hzz⟩ := hg
    have hd : X.A.in1.handled = none := show X.A.handled = none from I.ok.hd hc
    obtain ⟨O1, o1, D1⟩ := Src.draws I gx D.one hd
    obtain ⟨O2, o2, D2⟩ := Src.draws I gy D.two hd
    obtain ⟨O3, o3, D3⟩ := Src.draws I gz D.three hd
    have hzl : q < s.heap.objs.size := Heap.lt_size hz
    refine wpAny_pyNext_zipD3_item D.zip D1 D2 D3 hz hI hO ⟨h1, o1⟩ ⟨h2, o2⟩ ⟨h3, o3⟩ (List.getElem?_eq_some_iff.mp hx).1 (List.getElem?_eq_some_iff.mp hy).1 (List.getElem?_eq_some_iff.mp hzz).1 fun u1 u2 u3 h' tk ⟨y1, e1, r1⟩ ⟨y2, e2, r2⟩ ⟨y3, e3, r3⟩ z' O' n1 n2 n3 hT hsz hk => ?_
    rw [hx] at e1
    cases e1
    rw [hy] at e2
    cases e2
    rw [hzz] at e3
    cases e3
    refine ⟨_, rfl, wpAny_letOwnedTupleGo_zip (s := { s with heap := h', toks := tk }) z' fun h'' z'' sb => ?_⟩
    have hT2 : h''.get? s.heap.objs.size = some { cls := .type "tuple", data := .seq #[u1, u2, u3] } := (sb.2 _ (Nat.ne_of_gt hzl)).trans hT
    have new : ObjOk X.prog X.w (upd H s.heap.objs.size (.tup [x, y, z])) h'' s.heap.objs.size (.tup [x, y, z]) :=
      ⟨by show 3 ≤ sizeLine; decide, [u1, u2, u3], .cons r1 (.cons r2 (.cons r3 .nil)), ⟨_, hT2, rfl, _, rfl⟩⟩
    have I1 : Inv X pins σ (upd H s.heap.objs.size (.tup [x, y, z])) { s with heap := h'', toks := tk } :=
      I.turnedNew (t' := tk) (ch := [q, ti, to, j1, j2, j3]) (fun c o hb z => (sb.2 c (fun z' => hb (by simp [z']))).trans (hk c o (fun z' => hb (by simp [z'])) (fun z' => hb (by simp [z'])) (fun z' => hb (by simp [z'])) (fun z' => hb (by simp [z'])) (fun z' => hb (by simp [z'])) z)) hf (Nat.le_refl _) new
    refine ⟨.ref s.heap.objs.size, _, I1, rfl, ⟨_, x, y, z, rfl, I.hok.fresh (Nat.le_refl _), rfl, fun l hl => by rw [Src.inj I hl gx]; exact hx, fun l hl => by rw [Src.inj I hl gy]; exact hy, fun l hl => by rw [Src.inj I hl gz]; exact hzz⟩, ⟨z'', ?_, ⟨u1, u2, u3, ?_⟩, ?_, ?_, ?_⟩, fun c hcm => ?_⟩
    · exact (sb.2 _ D.zip.TIz).trans (hk _ _ D.zip.TIz D.zip.TITO D.zip.TIi1 D.zip.TIi2 D.zip.TIi3 hI)
    · exact (sb.2 _ D.zip.TOz).trans O'
    · exact Src.it_keep (S := S1) n1.1 fun o z => (sb.2 _ (Ne.symm D.zip.zi1)).trans z
    · exact Src.it_keep (S := S2) n2.1 fun o z => (sb.2 _ (Ne.symm D.zip.zi2)).trans z
    · exact Src.it_keep (S := S3) n3.1 fun o z => (sb.2 _ (Ne.symm D.zip.zi3)).trans z
    · have hlt : c < s.heap.objs.size := by
        have e' : c = q ∨ c = ti ∨ c = to ∨ c = j1 ∨ c = j2 ∨ c = j3 := by simpa using hcm
        rcases e' with z | z | z | z | z | z
        · exact z ▸ hzl
        · exact z ▸ Heap.lt_size hI
        · exact z ▸ Heap.lt_size hO
        · obtain ⟨_, e1, _⟩ := Src.it_obj (S := S1) h1; exact z ▸ Heap.lt_size e1
        · obtain ⟨_, e2, _⟩ := Src.it_obj (S := S2) h2; exact z ▸ Heap.lt_size e2
        · obtain ⟨_, e3, _⟩ := Src.it_obj (S := S3) h3; exact z ▸ Heap.lt_size e3
      rw [upd_ne (Nat.ne_of_lt hlt)]
      exact (hf c hcm).1
  done := by
    intro X hP hw hK hc i pins s σ H E I hf st hg
    subst hP hw hK
    obtain ⟨hz, hI, ⟨x0, y0, z0, hO⟩, h1, h2, h3⟩ := st
    obtain ⟨xs, ys, zs, gx, gy, gz, l1, l2, l3, hend⟩ := hg
    have hd : X.A.in1.handled = none := show X.A.handled = none from I.ok.hd hc
    obtain ⟨O1, o1, D1⟩ := Src.draws I gx D.one hd
    obtain ⟨O2, o2, D2⟩ := Src.draws I gy D.two hd
    obtain ⟨O3, o3, D3⟩ := Src.draws I gz D.three hd
    exact wpAny_pyNext_zipD3_end D.zip D1 D2 D3 hz hI hO ⟨h1, o1⟩ ⟨h2, o2⟩ ⟨h3, o3⟩ l1 l2 l3 hend fun h' tk hk => ⟨rfl, I.turnedL (t' := tk) (ch := [q, ti, to, j1, j2, j3]) (fun c o hb z =>
      hk c o (fun z' => hb (by simp [z'])) (fun z' => hb (by simp [z'])) (fun z' => hb (by simp [z'])) (fun z' => hb (by simp [z'])) (fun z' => hb (by simp [z'])) z) hf⟩
  self := fun A i s Q E st h => wpAny_pyIter_zip st.1 h
def iZip3S (K : Fr') (ta : TA) : TI := fun σ H R => ta σ H fun vs H1 => ∃ A B C xs ys zs, vs = [Src.val A, Src.val B, Src.val C] ∧ Src.at K H1 A xs ∧ Src.at K H1 B ys ∧ Src.at K H1 C zs ∧ R (Its3 K A B C) H1
theorem pi_zip3S {X : Cx} {e e2 e3 : Expr} {ta : TA} {p pos tpos : Pos} {elts : List Expr} {kk : Nat} (vis : Gl X "zip") (free : X.mg "zip" = none) (ha : PA X [e, e2, e3] ta)
    (hs : starEach [e, e2, e3] X.env = (false, eval e X.env) :: starEach [e2, e3] X.env) (hpl : (backTo pos (starEach [e2, e3] X.env)).any (·.1) = false) :
    PI X (.Tuple elts kk tpos) (.Call (.Name "zip" p) [e, e2, e3] [] pos) (iZip3S X.K ta) := by
  refine ⟨fun pins s σ H R I h => Call_ (ld_blt I vis free PyProof.Rows.boot_zip (PyProof.Rows.callWith_type1 (thn (ha.run pos pins s σ H _ I h) fun us s1 ⟨vs, H1, I1, rel, A, B, C, xs, ys, zs, ev, gx, gy, gz, w⟩ => ?_) hs hpl))⟩
  subst ev
  cases rel with
  | cons r1 rr =>
    cases rr with
    | cons r2 rr =>
      cases rr with
      | cons r3 rr =>
        cases rr
        obtain ⟨oa, Oa, Ba, na, fa⟩ := Src.begins I1 gx r1
        obtain ⟨ob, Ob, Bb, nb, fb⟩ := Src.begins I1 gy r2
        obtain ⟨oc, Oc, Bc, nc, fc⟩ := Src.begins I1 gz r3
        have la := Src.cells_lt I1 gx
        have lb := Src.cells_lt I1 gy
        have lc := Src.cells_lt I1 gz
        refine zip_begins3 Ba Bb Bc na nb nc fun h' hz hI hO g1 g2 g3 _ hk => wpAny_pyIter_zip hz ?_
        have I2 : Inv X pins σ H1 { s1 with heap := h' } := I1.kept (t' := s1.toks) hk
        refine ⟨s1.heap.objs.size + 5, [s1.heap.objs.size + 5, s1.heap.objs.size + 3, s1.heap.objs.size + 4, s1.heap.objs.size, s1.heap.objs.size + 1, s1.heap.objs.size + 2], _, _, H1, rfl, I2, turn_zip3S ⟨zip_sep3 la lb lc, fun m => Nat.lt_irrefl _ (la _ m), fun m => absurd (lb _ m) (Nat.not_lt_of_le (Nat.le_add_right _ _)), fun m => absurd (lc _ m) (Nat.not_lt_of_le (Nat.le_add_right _ _))⟩, ⟨hz, hI, ⟨_, _, _, hO⟩, fa _ _ g1, fb _ _ g2, fc _ _ g3⟩, fun c hcm => ?_, w⟩
        have le : s1.heap.objs.size ≤ c := by
          have e' : c = s1.heap.objs.size + 5 ∨ c = s1.heap.objs.size + 3 ∨ c = s1.heap.objs.size + 4 ∨ c = s1.heap.objs.size ∨ c = s1.heap.objs.size + 1 ∨ c = s1.heap.objs.size + 2 := by simpa using hcm
          rcases e' with z | z | z | z | z | z
          · exact z ▸ Nat.le_add_right _ _
          · exact z ▸ Nat.le_add_right _ _
          · exact z ▸ Nat.le_add_right _ _
          · exact z ▸ Nat.le_refl _
          · exact z ▸ Nat.le_add_right _ _
          · exact z ▸ Nat.le_add_right _ _
        exact I1.fpOk le (I1.hok.fresh le)
end Zr

set_option maxRecDepth 100000
set_option maxHeartbeats 8000000
/-! ZrM: what is walked. -/
namespace Zr
open PySem PySem.Spec PyProof.Rows L2
section
variable {K : Fr'} {H H0 H' H1 H2 H3 : Hp} {ρ ρ0 ρ' ρ1 ρ2 : List Slot} {σ σ' σ1 σ2 : L2.St} {F F0 F' F1 F2 : Fa} {Z Z0 Z' Z1 Z2 : Addr → Prop} {E E1 E2 : List Nat}
/-- a value that is read from now on -/
def Rdd (K : Fr') (H : Hp) (F : Fa) (Z : Addr → Prop) (v : V) (d : D) (st : Stat) : Prop := Bor K H (!noScr st) (keeps F Z st) v d
theorem VB.rdd {v : V} {d : D} {st : Stat} {B A : List Addr} (h : VB K H ρ σ F Z v d B st) (sub : ∀ a ∈ B, a ∈ A) : Rdd K H F (fun a => Z a ∧ a ∉ A) v d st := by
  cases st with
  | fresh => exact Own.bor h fun a m z => z.2 (sub a m)
  | froz => exact h.2.imp fun a z (y : Z a ∧ a ∉ A) => z y.1
  | scr => exact h.2.imp fun a z (y : Z a ∧ a ∉ A) => z y.1
  | loan i => exact h.2.imp fun a z => z.imp id fun n (y : Z a ∧ a ∉ A) => n y.1
  | take i => exact Own.bor h.2.2.2 fun a m => .inl m
theorem VLB.rdd {A : List Addr} : ∀ {vs : List V} {ds : Ds} {B : List Addr}, VLB K H ρ σ F Z vs ds B → (∀ a ∈ B, a ∈ A) → ∀ (i : Nat) (v : V) (d : D) (st : Stat), vs[i]? = some v → ds[i]? = some (d, st) → Rdd K H F (fun a => Z a ∧ a ∉ A) v d st
  | _, _, _, .nil, _, i, v, d, st, e, _ => by simp at e
  | _, _, _, .cons h t, sub, 0, v, d, st, e1, e2 => by
    simp at e1 e2
    obtain ⟨rfl, rfl⟩ := e2
    subst e1
    exact h.rdd fun a m => sub a (ml m)
  | _, _, _, .cons h t, sub, i + 1, v, d, st, e1, e2 => VLB.rdd t (fun a m => sub a (mr m)) i v d st (by simpa using e1) (by simpa using e2)
theorem VL.read {vs : List V} {ds : Ds} (s : Step E H ρ F Z H' ρ' F' Z') (w : W K H' ρ' σ F' Z') (r : VL E K H F H' ρ' σ F' Z' vs ds) :
    ∃ Z2, Step E H ρ F Z H' ρ' F' Z2 ∧ W K H' ρ' σ F' Z2 ∧ ∀ (i : Nat) (v : V) (d : D) (st : Stat), vs[i]? = some v → ds[i]? = some (d, st) → Rdd K H' F' Z2 v d st := by
  obtain ⟨B, q, f⟩ := r
  obtain ⟨s2, w2⟩ := give_up s w f
  exact ⟨_, s2, w2, q.rdd fun a m => m⟩
theorem VLB.len : ∀ {vs : List V} {ds : Ds} {B : List Addr}, VLB K H ρ σ F Z vs ds B → vs.length = ds.length
  | _, _, _, .nil => rfl
  | _, _, _, .cons _ t => congrArg (· + 1) t.len
theorem VL.len {vs : List V} {ds : Ds} (r : VL E K H F H' ρ' σ F' Z' vs ds) : vs.length = ds.length := let ⟨_, q, _⟩ := r; q.len

/-- what is read, later: the same datum; its items may be bound -/
theorem Rdd.later {v : V} {d : D} {st : Stat} (r : Rdd K H F Z v d st) (w : W K H ρ σ F Z) (t : Step E H ρ F Z H' ρ' F' Z') (ok : okSt st E = true) : Rdd K H' F' Z' v d st := by
  obtain ⟨k1, k2⟩ := keeps_stay w t ok
  exact Bor.keep k1 k2 r
/-- a heap without some of the owned lists in flight -/
structure Sub (H : Hp) (F : Fa) (Z : Addr → Prop) (Hm : Hp) : Prop where
  sub : ∀ a o, Hm a = some o → H a = some o
  sup : ∀ a o, H a = some o → Hm a = some o ∨ (Lst o ∧ Z a ∧ ∀ j, a ∉ F j)
theorem Sub.refl : Sub H F Z H := ⟨fun _ _ e => e, fun _ _ e => .inl e⟩
theorem W.sub {Hm : Hp} (w : W K H ρ σ F Z) (s : Sub H F Z Hm) : W K Hm ρ σ F Z :=
  ⟨w.len, w.out, fun i sl e => (w.slot i sl e).keep rfl (fun a o e l => (s.sup a o e).elim id fun q => (l q.1).elim (fun z => (q.2.2 i z).elim) fun z => (z q.2.1).elim) fun _ z _ => z, w.nodup, w.disj, w.zed⟩
theorem Rdd.sub {Hm : Hp} {v : V} {d : D} {st : Stat} (r : Rdd K H F Z v d st) (s : Sub H F Z Hm) : Rdd K Hm F Z v d st := by
  refine Bor.keep (P := keeps F Z st) (fun a o e l => (s.sup a o e).elim id fun q => ?_) (fun _ p _ => p) r
  have := l q.1
  cases st with
  | loan i => exact this.elim (fun z => (q.2.2 i z).elim) fun z => (z q.2.1).elim
  | take i => exact this.elim (fun z => (q.2.2 i z).elim) fun z => (z q.2.1).elim
  | fresh => exact (this q.2.1).elim
  | froz => exact (this q.2.1).elim
  | scr => exact (this q.2.1).elim
/-- an iterator over items, while the slots E change -/
def ItR (K : Fr') (J : It) (E : List Nat) (H : Hp) (ρ : List Slot) (F : Fa) (Z : Addr → Prop) (xs : List D) : Prop :=
  ∀ Hm H' ρ' F' Z' σ', Sub H F Z Hm → Step E Hm ρ F Z H' ρ' F' Z' → W K H' ρ' σ' F' Z' →
    (∀ i, i < xs.length → J.go i H') ∧ J.stop xs.length H' ∧ ∀ i x H'', i < xs.length → J.yld i H' x H'' → (∀ a o, H' a = some o → H'' a = some o) ∧ ∃ d, xs[i]? = some d ∧ Bor K H'' false (fun a => ¬ Z' a) x d
/-- items that are read -/
def RddL (K : Fr') (H : Hp) (F : Fa) (Z : Addr → Prop) (vs : List V) (ds : List D) (st : Stat) : Prop := BorL K H (!noScr st) (keeps F Z st) vs ds
theorem Rdd.list {v : V} {ds : List D} {st : Stat} (r : Rdd K H F Z v (.list ds) st) : ∃ a vs, v = .ref a ∧ SqL K H a vs ∧ RddL K H F Z vs ds st := by
  unfold Rdd at r
  cases r with
  | lst h p t => exact ⟨_, _, rfl, .inl (.inl h), t⟩
  | lsk e h t => exact ⟨_, _, rfl, h.sq, t⟩
theorem Rdd.tuple {v : V} {ds : List D} {st : Stat} (r : Rdd K H F Z v (.tuple ds) st) : ∃ a vs, v = .ref a ∧ SqT K H a vs ∧ RddL K H F Z vs ds st := Bor.tuple r
theorem RddL.get {vs : List V} {ds : List D} {st : Stat} {i : Nat} {d : D} (r : RddL K H F Z vs ds st) (e : ds[i]? = some d) : ∃ v, vs[i]? = some v ∧ Rdd K H F Z v d st := BorL.get r e
theorem RddL.len {vs : List V} {ds : List D} {st : Stat} (r : RddL K H F Z vs ds st) : vs.length = ds.length := BorL.length r
theorem Rdd.item {st : Stat} {d : D} {v : V} (hw : walkOk st [d] E = true) (h : Rdd K H F Z v d st) : Bor K H false (fun a => ¬ Z a) v d := item_bor (i := 0) (xs := [d]) hw rfl h fun n => by
  have h2 : Bor K H (!noScr st) (keeps F Z st) v d := h
  rw [n] at h2
  exact h2
theorem walk_at {st : Stat} {xs : List D} {i : Nat} {d : D} (hw : walkOk st xs E = true) (e : xs[i]? = some d) : walkOk st [d] E = true := by
  have p : purs xs = true → purs [d] = true := fun p => purs_of fun y m => by
    rw [List.mem_singleton.mp m]
    exact purs_mem p d (List.mem_of_getElem? e)
  cases st with
  | fresh => rfl
  | froz => rfl
  | scr => exact p hw
  | loan j =>
    simp only [walkOk, Bool.and_eq_true] at hw ⊢
    exact ⟨p hw.1, hw.2⟩
  | take j =>
    simp only [walkOk, Bool.and_eq_true] at hw ⊢
    exact ⟨p hw.1, hw.2⟩
theorem itr_list {v : V} {ds : List D} {st : Stat} (w : W K H ρ σ F Z) (r : Rdd K H F Z v (.list ds) st) (hw : walkOk st ds E = true) : ∃ a xs, v = .ref a ∧ SqL K H a xs ∧ ItR K (Itl K a) E H ρ F Z ds := by
  obtain ⟨a, xs, e, h, t⟩ := r.list
  refine ⟨a, xs, e, h, fun Hm H' ρ' F' Z' σ' sb s w' => ?_⟩
  have r2 := (r.sub sb).later (w.sub sb) s (walk_okSt hw)
  obtain ⟨a2, ys, e2, h2, t2⟩ := r2.list
  rw [e] at e2
  cases e2
  refine ⟨fun i hi => ?_, ⟨ys, h2, Nat.le_of_eq t2.len⟩, fun i x H'' hi y => ?_⟩
  · obtain ⟨x, hx, _⟩ := t2.get (List.getElem?_eq_getElem hi)
    exact ⟨ys, x, h2, hx⟩
  · obtain ⟨x', hx, hr⟩ := t2.get (List.getElem?_eq_getElem hi)
    obtain ⟨eH, q⟩ := y
    subst eH
    have := q ys h2
    rw [hx] at this
    cases this
    exact ⟨fun _ _ e => e, _, List.getElem?_eq_getElem hi, hr.item (walk_at hw (List.getElem?_eq_getElem hi))⟩
theorem itr_tup {v : V} {ds : List D} {st : Stat} (w : W K H ρ σ F Z) (r : Rdd K H F Z v (.tuple ds) st) (hw : walkOk st ds E = true) : ∃ a xs, v = .ref a ∧ SqT K H a xs ∧ ItR K (Itt K a) E H ρ F Z ds := by
  obtain ⟨a, xs, e, h, t⟩ := r.tuple
  refine ⟨a, xs, e, h, fun Hm H' ρ' F' Z' σ' sb s w' => ?_⟩
  have r2 := (r.sub sb).later (w.sub sb) s (walk_okSt hw)
  obtain ⟨a2, ys, e2, h2, t2⟩ := r2.tuple
  rw [e] at e2
  cases e2
  refine ⟨fun i hi => ?_, ⟨ys, h2, Nat.le_of_eq t2.len⟩, fun i x H'' hi y => ?_⟩
  · obtain ⟨x, hx, _⟩ := t2.get (List.getElem?_eq_getElem hi)
    exact ⟨ys, x, h2, hx⟩
  · obtain ⟨x', hx, hr⟩ := t2.get (List.getElem?_eq_getElem hi)
    obtain ⟨eH, q⟩ := y
    subst eH
    have := q ys h2
    rw [hx] at this
    cases this
    exact ⟨fun _ _ e => e, _, List.getElem?_eq_getElem hi, hr.item (walk_at hw (List.getElem?_eq_getElem hi))⟩
theorem itr_str {x : Str} : ItR K (Its x) E H ρ F Z (x.cps.toList.map fun c => .str ⟨#[c]⟩) := fun Hm H' ρ' F' Z' σ' sb s w' => by
  have el : (x.cps.toList.map fun c => PyData.str ⟨#[c]⟩).length = x.cps.size := by simp
  refine ⟨fun i hi => by rw [el] at hi; exact hi, by rw [el]; exact Nat.le_refl _, fun i v H'' hi y => ?_⟩
  obtain ⟨eH, c, hc, ev⟩ := y
  subst eH
  subst ev
  refine ⟨fun _ _ e => e, .str ⟨#[c]⟩, ?_, .str _⟩
  rw [List.getElem?_map, Array.getElem?_toList, hc]
  rfl
theorem itr_rng {lo : Int} {n : Nat} : ItR K (Itr lo n) E H ρ F Z (rangeD lo n) := fun Hm H' ρ' F' Z' σ' sb s w' => by
  have el : (rangeD lo n).length = n := by simp [rangeD]
  refine ⟨fun i hi => by rw [el] at hi; exact hi, by rw [el]; exact Nat.le_refl _, fun i v H'' hi y => ?_⟩
  obtain ⟨eH, ev⟩ := y
  subst eH
  subst ev
  rw [el] at hi
  refine ⟨fun _ _ e => e, .int (lo + (i : Int)), ?_, .int _⟩
  simp [rangeD, hi]
theorem enumD_get : ∀ {xs : List D} {k i : Nat}, (enumD k xs)[i]? = xs[i]?.map fun d => .tuple [.int ((k + i : Nat) : Int), d]
  | [], k, i => by simp [enumD]
  | x :: xs, k, 0 => by simp [enumD]
  | x :: xs, k, i + 1 => by
    simp only [enumD, List.getElem?_cons_succ]
    rw [enumD_get]
    have : k + 1 + i = k + (i + 1) := by omega
    rw [this]
theorem enumD_length : ∀ {xs : List D} {k : Nat}, (enumD k xs).length = xs.length
  | [], _ => rfl
  | x :: xs, k => by simp [enumD, enumD_length]
theorem zipD_get : ∀ {xs ys : List D} {i : Nat} {x y : D}, xs[i]? = some x → ys[i]? = some y → (zipD xs ys)[i]? = some (.tuple [x, y])
  | [], _, _, _, _, e, _ => by simp at e
  | _ :: _, [], _, _, _, _, e => by simp at e
  | x :: xs, y :: ys, 0, _, _, e, e2 => by
    simp at e e2
    subst e
    subst e2
    rfl
  | x :: xs, y :: ys, i + 1, _, _, e, e2 => by
    simp only [zipD, List.getElem?_cons_succ]
    exact zipD_get (by simpa using e) (by simpa using e2)
theorem zipD_length : ∀ {xs ys : List D}, (zipD xs ys).length = min xs.length ys.length
  | [], _ => by simp [zipD]
  | _ :: _, [] => by simp [zipD]
  | x :: xs, y :: ys => by
    simp only [zipD, List.length_cons, zipD_length]
    omega
theorem enum_walk {st : Stat} {xs : List D} {k : Nat} (h : walkOk st (enumD k xs) E = true) : walkOk st xs E = true := by
  have p : ∀ (xs : List D) (k : Nat), purs (enumD k xs) = true → purs xs = true := by
    intro xs
    induction xs with
    | nil => intro _ _; rfl
    | cons x xs ih =>
      intro k h
      simp only [enumD, purs, pur, Bool.and_eq_true] at h ⊢
      exact ⟨h.1.2.1, ih _ h.2⟩
  cases st with
  | fresh => rfl
  | froz => rfl
  | scr => exact p _ _ h
  | loan j =>
    simp only [walkOk, Bool.and_eq_true] at h ⊢
    exact ⟨p _ _ h.1, h.2⟩
  | take j =>
    simp only [walkOk, Bool.and_eq_true] at h ⊢
    exact ⟨p _ _ h.1, h.2⟩
theorem bor_pair {x y : V} {d e : D} {T : Addr} {P : Addr → Prop} (hT : H T = none) (hx : Bor K H false P x d) (hy : Bor K H false P y e) : Bor K (upd H T (.tup [x, y])) false P (.ref T) (.tuple [d, e]) :=
  .tup (.inl (.inl upd_same)) (.cons (hx.keep (fun a u e _ => upd_kept hT a u e) fun _ p _ => p) (.cons (hy.keep (fun a u e _ => upd_kept hT a u e) fun _ p _ => p) .nil))
theorem walk_two {st : Stat} {x y : D} (h : walkOk st [.tuple [x, y]] E = true) : walkOk st [x] E = true ∧ walkOk st [y] E = true := by
  cases st with
  | fresh => exact ⟨rfl, rfl⟩
  | froz => exact ⟨rfl, rfl⟩
  | scr =>
    simp only [walkOk, purs, pur, Bool.and_eq_true] at h ⊢
    exact ⟨⟨h.1.1, trivial⟩, h.1.2⟩
  | loan j =>
    simp only [walkOk, purs, pur, Bool.and_eq_true] at h ⊢
    exact ⟨⟨⟨h.1.1.1, trivial⟩, h.2⟩, h.1.1.2, h.2⟩
  | take j =>
    simp only [walkOk, purs, pur, Bool.and_eq_true] at h ⊢
    exact ⟨⟨⟨h.1.1.1, trivial⟩, h.2⟩, h.1.1.2, h.2⟩
theorem walk_three {st : Stat} {x y z : D} (h : walkOk st [.tuple [x, y, z]] E = true) : walkOk st [x] E = true ∧ walkOk st [y] E = true ∧ walkOk st [z] E = true := by
  cases st with
  | fresh => exact ⟨rfl, rfl, rfl⟩
  | froz => exact ⟨rfl, rfl, rfl⟩
  | scr =>
    simp only [walkOk, purs, pur, Bool.and_eq_true] at h ⊢
    exact ⟨⟨h.1.1, trivial⟩, ⟨h.1.2.1, trivial⟩, h.1.2.2⟩
  | loan j =>
    simp only [walkOk, purs, pur, Bool.and_eq_true] at h ⊢
    exact ⟨⟨⟨h.1.1.1, trivial⟩, h.2⟩, ⟨⟨h.1.1.2.1, trivial⟩, h.2⟩, h.1.1.2.2, h.2⟩
  | take j =>
    simp only [walkOk, purs, pur, Bool.and_eq_true] at h ⊢
    exact ⟨⟨⟨h.1.1.1, trivial⟩, h.2⟩, ⟨⟨h.1.1.2.1, trivial⟩, h.2⟩, h.1.1.2.2, h.2⟩
/-- the source that a datum is -/
def srcOf : D → V → Src
  | .list _, .ref a => .l a
  | .tuple _, .ref a => .t a
  | .str x, _ => .s x
  | _, _ => .s ⟨#[]⟩
theorem signs_bor {b : Bool} {P : Addr → Prop} {x : Str} : BorL K H b P (signs x) (x.cps.toList.map fun c => PyData.str ⟨#[c]⟩) := by
  unfold signs
  induction x.cps.toList with
  | nil => exact .nil
  | cons c r ih => exact .cons (.str _) ih
theorem Rdd.src {v : V} {d : D} {ds : List D} {st : Stat} (r : Rdd K H F Z v d st) (e : itemsOf d = some ds) : v = (srcOf d v).val ∧ ∃ xs, (srcOf d v).at K H xs ∧ RddL K H F Z xs ds st := by
  cases d with
  | list es =>
    cases e
    obtain ⟨a, vs, rfl, h, t⟩ := r.list
    exact ⟨rfl, vs, h, t⟩
  | tuple es =>
    cases e
    obtain ⟨a, vs, rfl, h, t⟩ := r.tuple
    exact ⟨rfl, vs, h, t⟩
  | str x =>
    cases e
    have hb : Bor K H (!noScr st) (keeps F Z st) v (.str x) := r
    cases hb
    exact ⟨rfl, _, rfl, signs_bor⟩
  | _ => cases e
theorem itr_enumS {v : V} {d : D} {ds : List D} {st : Stat} (w : W K H ρ σ F Z) (r : Rdd K H F Z v d st) (e : itemsOf d = some ds) (hw : walkOk st (enumD 0 ds) E = true) : ItR K (ItN K (srcOf d v)) E H ρ F Z (enumD 0 ds) := by
  have hw := enum_walk hw
  intro Hm H' ρ' F' Z' σ' sb s w'
  obtain ⟨_, ys, h2, t2⟩ := ((r.sub sb).later (w.sub sb) s (walk_okSt hw)).src e
  refine ⟨fun i hi => ?_, ⟨ys, h2, by rw [enumD_length]; exact t2.len⟩, fun i x H'' hi y => ?_⟩
  · rw [enumD_length] at hi
    obtain ⟨x, hx, _⟩ := t2.get (List.getElem?_eq_getElem hi)
    exact ⟨ys, x, h2, hx⟩
  · rw [enumD_length] at hi
    obtain ⟨x', hx, hr⟩ := t2.get (List.getElem?_eq_getElem hi)
    obtain ⟨T, z, ez, hT, eH, q⟩ := y
    subst ez
    subst eH
    have := q ys h2
    rw [hx] at this
    cases this
    refine ⟨fun b o q => upd_kept hT b o q, .tuple [.int (i : Int), ds[i]], ?_, bor_pair hT (.int _) (hr.item (walk_at hw (List.getElem?_eq_getElem hi)))⟩
    rw [enumD_get, List.getElem?_eq_getElem hi]
    simp
theorem itr_zipS {v u : V} {d d2 : D} {ds es : List D} {sx sy : Stat} (w : W K H ρ σ F Z) (r : Rdd K H F Z v d sx) (q : Rdd K H F Z u d2 sy) (e1 : itemsOf d = some ds) (e2 : itemsOf d2 = some es) (h1 : walkOk sx (zipD ds es) E = true) (h2 : walkOk sy (zipD ds es) E = true) :
    ItR K (ItS K (srcOf d v) (srcOf d2 u)) E H ρ F Z (zipD ds es) := by
  intro Hm H' ρ' F' Z' σ' sb s w'
  obtain ⟨_, xs, hx, tx⟩ := ((r.sub sb).later (w.sub sb) s (walk_okSt h1)).src e1
  obtain ⟨_, ys, hy, ty⟩ := ((q.sub sb).later (w.sub sb) s (walk_okSt h2)).src e2
  have le : ∀ {i}, i < (zipD ds es).length → i < ds.length ∧ i < es.length := fun h => by rw [zipD_length] at h; omega
  refine ⟨fun i hi => ?_, ⟨xs, ys, hx, hy, ?_⟩, fun i x H'' hi y => ?_⟩
  · obtain ⟨x, gx, _⟩ := tx.get (List.getElem?_eq_getElem (le hi).1)
    obtain ⟨y, gy, _⟩ := ty.get (List.getElem?_eq_getElem (le hi).2)
    exact ⟨xs, ys, x, y, hx, hy, gx, gy⟩
  · rw [zipD_length, tx.len, ty.len]
    omega
  · have p1 := List.getElem?_eq_getElem (le hi).1
    have p2 := List.getElem?_eq_getElem (le hi).2
    obtain ⟨x1, gx, rx⟩ := tx.get p1
    obtain ⟨y1, gy, ry⟩ := ty.get p2
    obtain ⟨T, z1, z2, ez, hT, eH, q1, q2⟩ := y
    subst ez
    subst eH
    have t1 := q1 xs hx
    rw [gx] at t1
    cases t1
    have t2 := q2 ys hy
    rw [gy] at t2
    cases t2
    have p3 := zipD_get p1 p2
    exact ⟨fun b o q => upd_kept hT b o q, _, p3, bor_pair hT (rx.item (walk_two (walk_at h1 p3)).1) (ry.item (walk_two (walk_at h2 p3)).2)⟩
theorem itr_ezipS {v u : V} {d d2 : D} {ds es : List D} {sx sy : Stat} (w : W K H ρ σ F Z) (r : Rdd K H F Z v d sx) (q : Rdd K H F Z u d2 sy) (e1 : itemsOf d = some ds) (e2 : itemsOf d2 = some es) (h1 : walkOk sx (enumD 0 (zipD ds es)) E = true) (h2 : walkOk sy (enumD 0 (zipD ds es)) E = true) :
    ItR K (ItE K (srcOf d v) (srcOf d2 u)) E H ρ F Z (enumD 0 (zipD ds es)) := by
  have h1 := enum_walk h1
  have h2 := enum_walk h2
  intro Hm H' ρ' F' Z' σ' sb s w'
  obtain ⟨_, xs, hx, tx⟩ := ((r.sub sb).later (w.sub sb) s (walk_okSt h1)).src e1
  obtain ⟨_, ys, hy, ty⟩ := ((q.sub sb).later (w.sub sb) s (walk_okSt h2)).src e2
  have le : ∀ {i}, i < (zipD ds es).length → i < ds.length ∧ i < es.length := fun h => by rw [zipD_length] at h; omega
  refine ⟨fun i hi => ?_, ⟨xs, ys, hx, hy, ?_⟩, fun i x H'' hi y => ?_⟩
  · rw [enumD_length] at hi
    obtain ⟨x, gx, _⟩ := tx.get (List.getElem?_eq_getElem (le hi).1)
    obtain ⟨y, gy, _⟩ := ty.get (List.getElem?_eq_getElem (le hi).2)
    exact ⟨xs, ys, x, y, hx, hy, gx, gy⟩
  · rw [enumD_length, zipD_length, tx.len, ty.len]
    omega
  · rw [enumD_length] at hi
    have p1 := List.getElem?_eq_getElem (le hi).1
    have p2 := List.getElem?_eq_getElem (le hi).2
    obtain ⟨x1, gx, rx⟩ := tx.get p1
    obtain ⟨y1, gy, ry⟩ := ty.get p2
    obtain ⟨T, U, z1, z2, ez, hT, hU, ne, eH, q1, q2⟩ := y
    subst ez
    subst eH
    have t1 := q1 xs hx
    rw [gx] at t1
    cases t1
    have t2 := q2 ys hy
    rw [gy] at t2
    cases t2
    have p3 := zipD_get p1 p2
    have hU2 : upd H' T (.tup [x1, y1]) U = none := by
      rw [upd_ne ne]
      exact hU
    refine ⟨fun b o q => upd_kept hU2 b o (upd_kept hT b o q), _, ?_, bor_pair hU2 (.int _) (bor_pair hT (rx.item (walk_two (walk_at h1 p3)).1) (ry.item (walk_two (walk_at h2 p3)).2))⟩
    rw [enumD_get, p3]
    simp
theorem zipD3_get : ∀ {xs ys zs : List D} {i : Nat} {x y z : D}, xs[i]? = some x → ys[i]? = some y → zs[i]? = some z → (zipD3 xs ys zs)[i]? = some (.tuple [x, y, z])
  | [], _, _, _, _, _, _, e, _, _ => by simp at e
  | _ :: _, [], _, _, _, _, _, _, e, _ => by simp at e
  | _ :: _, _ :: _, [], _, _, _, _, _, _, e => by simp at e
  | x :: xs, y :: ys, z :: zs, 0, _, _, _, e, e2, e3 => by
    simp at e e2 e3
    subst e
    subst e2
    subst e3
    rfl
  | x :: xs, y :: ys, z :: zs, i + 1, _, _, _, e, e2, e3 => by
    simp only [zipD3, List.getElem?_cons_succ]
    exact zipD3_get (by simpa using e) (by simpa using e2) (by simpa using e3)
theorem zipD3_length : ∀ {xs ys zs : List D}, (zipD3 xs ys zs).length = min xs.length (min ys.length zs.length)
  | [], _, _ => by simp [zipD3]
  | _ :: _, [], _ => by simp [zipD3]
  | _ :: _, _ :: _, [] => by simp [zipD3]
  | x :: xs, y :: ys, z :: zs => by
    simp only [zipD3, List.length_cons, zipD3_length]
    omega
theorem itr_zip3S {v u v3 : V} {d d2 d3 : D} {ds es gs : List D} {sx sy sz : Stat} (w : W K H ρ σ F Z) (r : Rdd K H F Z v d sx) (q : Rdd K H F Z u d2 sy) (p : Rdd K H F Z v3 d3 sz) (e1 : itemsOf d = some ds) (e2 : itemsOf d2 = some es) (e3 : itemsOf d3 = some gs)
    (h1 : walkOk sx (zipD3 ds es gs) E = true) (h2 : walkOk sy (zipD3 ds es gs) E = true) (h3 : walkOk sz (zipD3 ds es gs) E = true) :
    ItR K (Its3 K (srcOf d v) (srcOf d2 u) (srcOf d3 v3)) E H ρ F Z (zipD3 ds es gs) := by
  intro Hm H' ρ' F' Z' σ' sb s w'
  obtain ⟨_, xs, hx, tx⟩ := ((r.sub sb).later (w.sub sb) s (walk_okSt h1)).src e1
  obtain ⟨_, ys, hy, ty⟩ := ((q.sub sb).later (w.sub sb) s (walk_okSt h2)).src e2
  obtain ⟨_, zs, hz, tz⟩ := ((p.sub sb).later (w.sub sb) s (walk_okSt h3)).src e3
  have le : ∀ {i}, i < (zipD3 ds es gs).length → i < ds.length ∧ i < es.length ∧ i < gs.length := fun h => by rw [zipD3_length] at h; omega
  refine ⟨fun i hi => ?_, ⟨xs, ys, zs, hx, hy, hz, ?_⟩, fun i x H'' hi y => ?_⟩
  · obtain ⟨x, gx, _⟩ := tx.get (List.getElem?_eq_getElem (le hi).1)
    obtain ⟨y, gy, _⟩ := ty.get (List.getElem?_eq_getElem (le hi).2.1)
    obtain ⟨z, gz, _⟩ := tz.get (List.getElem?_eq_getElem (le hi).2.2)
    exact ⟨xs, ys, zs, x, y, z, hx, hy, hz, gx, gy, gz⟩
  · rw [zipD3_length, tx.len, ty.len, tz.len]
    omega
  · have p1 := List.getElem?_eq_getElem (le hi).1
    have p2 := List.getElem?_eq_getElem (le hi).2.1
    have p3 := List.getElem?_eq_getElem (le hi).2.2
    obtain ⟨x1, gx, rx⟩ := tx.get p1
    obtain ⟨y1, gy, ry⟩ := ty.get p2
    obtain ⟨z1, gz, rz⟩ := tz.get p3
    obtain ⟨T, a1, a2, a3, ez, hT, eH, q1, q2, q3⟩ := y
    subst ez
    subst eH
    have t1 := q1 xs hx
    rw [gx] at t1
    cases t1
    have t2 := q2 ys hy
    rw [gy] at t2
    cases t2
    have t3 := q3 zs hz
    rw [gz] at t3
    cases t3
    have p4 := zipD3_get p1 p2 p3
    have k : ∀ {v : V} {d : D}, Bor K H' false (fun a => ¬ Z' a) v d → Bor K (upd H' T (.tup [x1, y1, z1])) false (fun a => ¬ Z' a) v d := fun h => h.keep (fun a u e _ => upd_kept hT a u e) fun _ p _ => p
    exact ⟨fun b o q => upd_kept hT b o q, _, p4, .tup (.inl (.inl upd_same)) (.cons (k (rx.item (walk_three (walk_at h1 p4)).1)) (.cons (k (ry.item (walk_three (walk_at h2 p4)).2.1)) (.cons (k (rz.item (walk_three (walk_at h3 p4)).2.2)) .nil)))⟩
end
/-- what a walked thing does -/
def tIt (K : Fr') (C : CallF) (it : II) : TI := fun σ H R => ∃ ρ F Z xs sts ρ', W K H ρ σ F Z ∧ evI C it ρ = some (xs, sts, ρ') ∧
  ∀ J H' F' Z', Step (effI it) H ρ F Z H' ρ' F' Z' → W K H' ρ' σ F' Z' → (∀ E, sts.all (walkOk · xs E) = true → ItR K J E H' ρ' F' Z' xs) → R J H'
section
variable {X : Cx} {G : Gx} {S : Sx} {C : CallF} {tg : Expr}
theorem VL.one {E : List Nat} {K : Fr'} {H H' : Hp} {F F' : Fa} {ρ' : List Slot} {σ : L2.St} {Z' : Addr → Prop} {v : V} {d : D} {st : Stat} (r : VR E K H F H' ρ' σ F' Z' v d st) : VL E K H F H' ρ' σ F' Z' [v] [(d, st)] := by
  obtain ⟨B, q, f⟩ := r
  exact ⟨B ++ [], .cons q .nil, by rw [List.append_nil]; exact f⟩
theorem all_one {st : Stat} {xs : List D} {E : List Nat} (h : [st].all (walkOk · xs E) = true) : walkOk st xs E = true := by simpa using h
theorem all_two {st st2 : Stat} {xs : List D} {E : List Nat} (h : [st, st2].all (walkOk · xs E) = true) : walkOk st xs E = true ∧ walkOk st2 xs E = true := by simpa using h
theorem si_seq {a : IE} {x : Expr} (ha : PE X x (tE X.K C a)) : PI X tg x (tIt X.K C (.seq a)) := by
  refine ⟨fun pins s σ H R I ⟨ρ, F, Z, xs, sts, ρ', w, he, k⟩ => ?_⟩
  simp only [evI] at he
  split at he
  · rename_i d st ρ1 ea
    split at he
    · rename_i ys ei
      cases he
      cases d with
      | list ds =>
        simp only [itemsOf] at ei
        cases ei
        refine (pi_list ha).run pins s σ H R I ⟨ρ, F, Z, _, st, _, w, ea, fun v H1 F1 Z1 s1 w1 r1 => ?_⟩
        obtain ⟨Z2, s2, w2, rd⟩ := (VL.one r1).read s1 w1
        have rd := rd 0 v _ _ rfl rfl
        obtain ⟨a, vs, e, h, _⟩ := rd.list
        refine ⟨a, e, ⟨vs, h⟩, k _ H1 F1 Z2 s2 w2 fun E hE => ?_⟩
        obtain ⟨a2, xs, e2, h2, ir⟩ := itr_list w2 rd (all_one hE)
        rw [e] at e2
        cases e2
        exact ir
      | tuple ds =>
        simp only [itemsOf] at ei
        cases ei
        refine (pi_tup ha).run pins s σ H R I ⟨ρ, F, Z, _, st, _, w, ea, fun v H1 F1 Z1 s1 w1 r1 => ?_⟩
        obtain ⟨Z2, s2, w2, rd⟩ := (VL.one r1).read s1 w1
        have rd := rd 0 v _ _ rfl rfl
        obtain ⟨a, vs, e, h, _⟩ := rd.tuple
        refine ⟨a, e, ⟨vs, h⟩, k _ H1 F1 Z2 s2 w2 fun E hE => ?_⟩
        obtain ⟨a2, xs, e2, h2, ir⟩ := itr_tup w2 rd (all_one hE)
        rw [e] at e2
        cases e2
        exact ir
      | str z =>
        simp only [itemsOf] at ei
        cases ei
        refine (pi_str ha).run pins s σ H R I ⟨ρ, F, Z, _, st, _, w, ea, fun v H1 F1 Z1 s1 w1 r1 => ?_⟩
        have hb := r1.bor
        cases hb
        exact ⟨z, rfl, k _ H1 F1 Z1 s1 w1 fun E hE => itr_str⟩
      | _ => simp [itemsOf] at ei
    · cases he
  · cases he
theorem bltB_ok (ok : Ok X G S C) {f : Str} (hb : bltB G S f = true) : Gl X f ∧ X.mg f = none := by
  unfold bltB gloB at hb
  simp only [Bool.and_eq_true] at hb
  exact ⟨glB_ok ok hb.1.1, ok.blt f (by simpa using hb.2)⟩
theorem int_of {K : Fr'} {H : Hp} {b : Bool} {P : Addr → Prop} {v : V} {i : Int} (h : Bor K H b P v (.int i)) : v = .int i := by
  cases h
  rfl
theorem lim_i : (lim : Int) = 1000000 := rfl
theorem evs_two {a b : IE} {ρ ρ1 ρ2 : Ro} {d e : D} {sx sy : Stat} (ea : ev C a ρ = some (d, sx, ρ1)) (eb : ev C b ρ1 = some (e, sy, ρ2)) (c : okSt sx (effE b) = true) : evs C (.cons a (.cons b .nil)) ρ = some ([(d, sx), (e, sy)], ρ2) := by
  have h : okSt sx (effs (.cons b .nil)) = true := by
    simp only [effs, List.append_nil]
    exact c
  have h2 : okSt sy (effs .nil) = true := by cases sy <;> rfl
  simp only [evs, ea, eb, h2, if_true]
  rw [if_pos h]
theorem two_eff {a b : IE} : ∀ j ∈ effs (.cons a (.cons b .nil)), j ∈ effE a ++ effE b := fun j m => by simpa [effs] using m
theorem si_rng1 (ok : Ok X G S C) {a : IE} {x : Expr} {f : Str} {p pos : Pos} (hf : f = ("range" : Str)) (hb : bltB G S f = true) (hx : notStar x = true) (ha : PE X x (tE X.K C a)) : PI X tg (.Call (.Name f p) [x] [] pos) (tIt X.K C (.rng1 a)) := by
  subst hf
  obtain ⟨h1, h2⟩ := bltB_ok ok hb
  refine ⟨fun pins s σ H R I ⟨ρ, F, Z, xs, sts, ρ', w, he, k⟩ => ?_⟩
  simp only [evI] at he
  split at he
  · rename_i j st ρ1 ea
    split at he
    · rename_i c
      cases he
      refine (pi_range1 h1 h2 (sa_cons hx ha sa_nil) (star_of hx)).run pins s σ H R I ⟨ρ, F, Z, [(.int j, st)], ρ', w, ?_, fun vs H1 F1 Z1 s1 w1 r1 => ?_⟩
      · have h2 : okSt st (effs .nil) = true := by cases st <;> rfl
        simp only [evs, ea, h2, if_true]
      · have hb := r1.bor
        cases hb with
        | cons h t =>
          cases t
          rw [int_of h]
          have := lim_i
          refine ⟨j, rfl, by omega, by omega, k _ H1 F1 Z1 (s1.more fun q m => by simpa [effs, effI] using m) w1 fun E hE => ?_⟩
          exact itr_rng
    · cases he
  · cases he
theorem si_rng2 (ok : Ok X G S C) {a b : IE} {x y : Expr} {f : Str} {p pos : Pos} (hf : f = ("range" : Str)) (hb : bltB G S f = true) (hx : notStar x = true) (hy : notStar y = true) (ha : PE X x (tE X.K C a)) (hbb : PE X y (tE X.K C b)) : PI X tg (.Call (.Name f p) [x, y] [] pos) (tIt X.K C (.rng2 a b)) := by
  subst hf
  obtain ⟨h1, h2⟩ := bltB_ok ok hb
  refine ⟨fun pins s σ H R I ⟨ρ, F, Z, xs, sts, ρ', w, he, k⟩ => ?_⟩
  simp only [evI] at he
  split at he
  · rename_i i st ρ1 ea
    split at he
    · rename_i j st2 ρ2 eb
      split at he
      · rename_i c
        cases he
        refine (pi_range2 h1 h2 (sa_cons hx ha (sa_cons hy hbb sa_nil)) (by rw [star_of hx, star_of hy]; rfl) (star_of hy)).run pins s σ H R I ⟨ρ, F, Z, [(.int i, st), (.int j, st2)], ρ', w, evs_two ea eb c.1, fun vs H1 F1 Z1 s1 w1 r1 => ?_⟩
        have hb := r1.bor
        cases hb with
        | cons h t =>
          cases t with
          | cons h' t =>
            cases t
            rw [int_of h, int_of h']
            have := lim_i
            exact ⟨i, j, rfl, by omega, k _ H1 F1 Z1 (s1.more two_eff) w1 fun E hE => itr_rng⟩
      · cases he
    · cases he
  · cases he
theorem si_enum (ok : Ok X G S C) {a : IE} {x : Expr} {f : Str} {p pos tp : Pos} {elts : List Expr} {kk : Nat} (hf : f = ("enumerate" : Str)) (hb : bltB G S f = true) (hx : notStar x = true) (ha : PE X x (tE X.K C a)) : PI X (.Tuple elts kk tp) (.Call (.Name f p) [x] [] pos) (tIt X.K C (.enum a)) := by
  subst hf
  obtain ⟨h1, h2⟩ := bltB_ok ok hb
  refine ⟨fun pins s σ H R I ⟨ρ, F, Z, xs, sts, ρ', w, he, k⟩ => ?_⟩
  simp only [evI] at he
  split at he
  · rename_i d st ρ1 ea
    split at he
    · rename_i ds ei
      cases he
      refine (pi_enumS h1 h2 (sa_cons hx ha sa_nil) (star_of hx)).run pins s σ H R I ⟨ρ, F, Z, [(d, st)], ρ', w, ?_, fun vs H1 F1 Z1 s1 w1 r1 => ?_⟩
      · have h2 : okSt st (effs .nil) = true := by cases st <;> rfl
        simp only [evs, ea, h2, if_true]
      · obtain ⟨Z2, s2, w2, rd⟩ := r1.read s1 w1
        obtain ⟨v, rfl⟩ : ∃ v, vs = [v] := by
          have := r1.len
          match vs, this with
          | [v], _ => exact ⟨v, rfl⟩
        have rd := rd 0 v _ _ rfl rfl
        obtain ⟨ev, ys, gy, _⟩ := rd.src ei
        exact ⟨srcOf d v, ys, by rw [← ev], gy, k _ H1 F1 Z2 (s2.more fun q m => by simpa [effs, effI] using m) w2 fun E hE => itr_enumS w2 rd ei (all_one hE)⟩
    · cases he
  · cases he
theorem si_zip (ok : Ok X G S C) {a b : IE} {x y : Expr} {f : Str} {p pos tp : Pos} {elts : List Expr} {kk : Nat} (hf : f = ("zip" : Str)) (hb : bltB G S f = true) (hx : notStar x = true) (hy : notStar y = true) (ha : PE X x (tE X.K C a)) (hbb : PE X y (tE X.K C b)) : PI X (.Tuple elts kk tp) (.Call (.Name f p) [x, y] [] pos) (tIt X.K C (.zip a b)) := by
  subst hf
  obtain ⟨h1, h2⟩ := bltB_ok ok hb
  refine ⟨fun pins s σ H R I ⟨ρ, F, Z, xs, sts, ρ', w, he, k⟩ => ?_⟩
  simp only [evI] at he
  split at he
  · rename_i d sx ρ1 ea
    split at he
    · rename_i e sy ρ2 eb
      split at he
      · rename_i c
        split at he
        · rename_i ds i1
          split at he
          · rename_i es i2
            cases he
            refine (pi_zipS h1 h2 (sa_cons hx ha (sa_cons hy hbb sa_nil)) (star_of hx) (pl_of (by simp [hy]))).run pins s σ H R I ⟨ρ, F, Z, [(d, sx), (e, sy)], ρ', w, evs_two ea eb c, fun vs H1 F1 Z1 s1 w1 r1 => ?_⟩
            obtain ⟨Z2, s2, w2, rd⟩ := r1.read s1 w1
            obtain ⟨v, u, rfl⟩ : ∃ v u, vs = [v, u] := by
              have := r1.len
              match vs, this with
              | [v, u], _ => exact ⟨v, u, rfl⟩
            have rd1 := rd 0 v _ _ rfl rfl
            have rd2 := rd 1 u _ _ rfl rfl
            have s3 : Step (effI (.zip a b)) H ρ F Z H1 ρ' F1 Z2 := s2.more two_eff
            obtain ⟨ev, ys, gy, _⟩ := rd1.src i1
            obtain ⟨eu, zs, gz, _⟩ := rd2.src i2
            exact ⟨srcOf d v, srcOf e u, ys, zs, by rw [← ev, ← eu], gy, gz, k _ H1 F1 Z2 s3 w2 fun E hE => itr_zipS w2 rd1 rd2 i1 i2 (all_two hE).1 (all_two hE).2⟩
          · cases he
        · cases he
      · cases he
    · cases he
  · cases he
theorem si_ezip (ok : Ok X G S C) {a b : IE} {x y : Expr} {f g : Str} {p pos p2 pos2 tp : Pos} {elts : List Expr} {kk : Nat} (hg : g = ("enumerate" : Str)) (hb2 : bltB G S g = true) (hf : f = ("zip" : Str)) (hb : bltB G S f = true) (hx : notStar x = true) (hy : notStar y = true) (ha : PE X x (tE X.K C a)) (hbb : PE X y (tE X.K C b)) :
    PI X (.Tuple elts kk tp) (.Call (.Name g p) [.Call (.Name f p2) [x, y] [] pos2] [] pos) (tIt X.K C (.ezip a b)) := by
  subst hf
  subst hg
  obtain ⟨h1, h2⟩ := bltB_ok ok hb
  obtain ⟨h3, h4⟩ := bltB_ok ok hb2
  refine ⟨fun pins s σ H R I ⟨ρ, F, Z, xs, sts, ρ', w, he, k⟩ => ?_⟩
  simp only [evI] at he
  split at he
  · rename_i d sx ρ1 ea
    split at he
    · rename_i e sy ρ2 eb
      split at he
      · rename_i c
        split at he
        · rename_i ds i1
          split at he
          · rename_i es i2
            cases he
            refine (pi_ezipS h3 h4 h1 h2 (sa_cons hx ha (sa_cons hy hbb sa_nil)) (star_of hx) (pl_of (by simp [hy]))).run pins s σ H R I ⟨ρ, F, Z, [(d, sx), (e, sy)], ρ', w, evs_two ea eb c, fun vs H1 F1 Z1 s1 w1 r1 => ?_⟩
            obtain ⟨Z2, s2, w2, rd⟩ := r1.read s1 w1
            obtain ⟨v, u, rfl⟩ : ∃ v u, vs = [v, u] := by
              have := r1.len
              match vs, this with
              | [v, u], _ => exact ⟨v, u, rfl⟩
            have rd1 := rd 0 v _ _ rfl rfl
            have rd2 := rd 1 u _ _ rfl rfl
            have s3 : Step (effI (.ezip a b)) H ρ F Z H1 ρ' F1 Z2 := s2.more two_eff
            obtain ⟨ev, ys, gy, _⟩ := rd1.src i1
            obtain ⟨eu, zs, gz, _⟩ := rd2.src i2
            exact ⟨srcOf d v, srcOf e u, ys, zs, by rw [← ev, ← eu], gy, gz, k _ H1 F1 Z2 s3 w2 fun E hE => itr_ezipS w2 rd1 rd2 i1 i2 (all_two hE).1 (all_two hE).2⟩
          · cases he
        · cases he
      · cases he
    · cases he
  · cases he
theorem evs_three {a b c : IE} {ρ ρ1 ρ2 ρ3 : Ro} {d e g : D} {sx sy sz : Stat} (ea : ev C a ρ = some (d, sx, ρ1)) (eb : ev C b ρ1 = some (e, sy, ρ2)) (ec : ev C c ρ2 = some (g, sz, ρ3)) (c1 : okSt sx (effE b ++ effE c) = true) (c2 : okSt sy (effE c) = true) :
    evs C (.cons a (.cons b (.cons c .nil))) ρ = some ([(d, sx), (e, sy), (g, sz)], ρ3) := by
  have h : okSt sx (effs (.cons b (.cons c .nil))) = true := by
    simp only [effs, List.append_nil]
    exact c1
  have h1 : okSt sy (effs (.cons c .nil)) = true := by
    simp only [effs, List.append_nil]
    exact c2
  have h2 : okSt sz (effs .nil) = true := by cases sz <;> rfl
  simp only [evs, ea, eb, ec, h2, if_true]
  rw [if_pos h1]
  simp only []
  rw [if_pos h]
theorem all_three {st st2 st3 : Stat} {xs : List D} {E : List Nat} (h : [st, st2, st3].all (walkOk · xs E) = true) : walkOk st xs E = true ∧ walkOk st2 xs E = true ∧ walkOk st3 xs E = true := by simpa using h
theorem si_zip3 (ok : Ok X G S C) {a b c : IE} {x y z : Expr} {f : Str} {p pos tp : Pos} {elts : List Expr} {kk : Nat} (hf : f = ("zip" : Str)) (hb : bltB G S f = true) (hx : notStar x = true) (hy : notStar y = true) (hz : notStar z = true) (ha : PE X x (tE X.K C a)) (hbb : PE X y (tE X.K C b)) (hcc : PE X z (tE X.K C c)) :
    PI X (.Tuple elts kk tp) (.Call (.Name f p) [x, y, z] [] pos) (tIt X.K C (.zip3 a b c)) := by
  subst hf
  obtain ⟨h1, h2⟩ := bltB_ok ok hb
  refine ⟨fun pins s σ H R I ⟨ρ, F, Z, xs, sts, ρ', w, he, k⟩ => ?_⟩
  simp only [evI] at he
  split at he
  · rename_i d sx ρ1 ea
    split at he
    · rename_i e sy ρ2 eb
      split at he
      · rename_i g sz ρ3 ec
        split at he
        · rename_i cc
          simp only [Bool.and_eq_true] at cc
          split at he
          · rename_i ds i1
            split at he
            · rename_i es i2
              split at he
              · rename_i gs i3
                cases he
                refine (pi_zip3S h1 h2 (sa_cons hx ha (sa_cons hy hbb (sa_cons hz hcc sa_nil))) (star_of hx) (pl_of (by simp [hy, hz]))).run pins s σ H R I ⟨ρ, F, Z, [(d, sx), (e, sy), (g, sz)], ρ', w, evs_three ea eb ec cc.1 cc.2, fun vs H1 F1 Z1 s1 w1 r1 => ?_⟩
                obtain ⟨Z2, s2, w2, rd⟩ := r1.read s1 w1
                obtain ⟨v, u, t, rfl⟩ : ∃ v u t, vs = [v, u, t] := by
                  have := r1.len
                  match vs, this with
                  | [v, u, t], _ => exact ⟨v, u, t, rfl⟩
                have rd1 := rd 0 v _ _ rfl rfl
                have rd2 := rd 1 u _ _ rfl rfl
                have rd3 := rd 2 t _ _ rfl rfl
                have s3 : Step (effI (.zip3 a b c)) H ρ F Z H1 ρ' F1 Z2 := s2.more fun j m => by simpa [effs, effI] using m
                obtain ⟨ev, ys, gy, _⟩ := rd1.src i1
                obtain ⟨eu, zs, gz, _⟩ := rd2.src i2
                obtain ⟨et, us, gu, _⟩ := rd3.src i3
                exact ⟨srcOf d v, srcOf e u, srcOf g t, ys, zs, us, by rw [← ev, ← eu, ← et], gy, gz, gu, k _ H1 F1 Z2 s3 w2 fun E hE => itr_zip3S w2 rd1 rd2 rd3 i1 i2 i3 (all_three hE).1 (all_three hE).2.1 (all_three hE).2.2⟩
              · cases he
            · cases he
          · cases he
        · cases he
      · cases he
    · cases he
  · cases he
end
end Zr

set_option maxRecDepth 100000
set_option maxHeartbeats 8000000
/-! ZrN: list comprehensions. -/
namespace Zr
open PySem PySem.Spec PyProof.Rows L2

section
variable {K : Fr'} {Hs H H0 H' H1 H2 H3 : Hp} {ρs ρ ρ0 ρ' ρ1 ρ2 : List Slot} {σ σ' σ1 σ2 : L2.St} {Fs F F0 F' F1 F2 : Fa} {Zs Z Z0 Z' Z1 Z2 : Addr → Prop} {E E1 E2 : List Nat}
/-- the heaps that a growing list is told from -/
abbrev Bases := Hp → List Slot → Fa → (Addr → Prop) → Prop
/-- the new list, while it grows -/
structure Acc (E : List Nat) (K : Fr') (Bs : Bases) (q : Addr) (H : Hp) (ρ : List Slot) (σ : L2.St) (F : Fa) (Z : Addr → Prop) (ys : List D) : Prop where
  w : W K H ρ σ F Z
  hs : ∀ Hb ρb Fb Zb, Bs Hb ρb Fb Zb → Hb q = none
  step : ∀ Hb ρb Fb Zb, Bs Hb ρb Fb Zb → Step E Hb ρb Fb Zb H ρ F Z
  r : ∃ A, Own K H (.ref q) (.list ys) A ∧ Off F Z A ∧ ∀ Hb ρb Fb Zb, Bs Hb ρb Fb Zb → ∀ a ∈ A, (∃ i ∈ E, a ∈ Fb i) ∨ Hb a = none
variable {q : Addr} {ys : List D} {Bs : Bases}
theorem Off.over {B : List Addr} (f : Off F Z B) (t : Step E H ρ F Z H' ρ' F' Z') (tr : ∀ a ∈ B, H a ≠ none) : Off F' Z' B :=
  ⟨f.nodup, fun a m => (t.zk a (f.zed a m) (tr a m)).elim id fun ⟨i, _, q⟩ => (f.off a m i q).elim, fun a m j q => by
    rcases t.own j a q with q | ⟨i, _, q⟩ | n
    · exact f.off a m j q
    · exact f.off a m i q
    · exact tr a m n⟩
theorem Own.over {v : V} {d : D} {B : List Addr} (h : Own K H v d B) (f : Off F Z B) (t : Step E H ρ F Z H' ρ' F' Z') : Own K H' v d B := h.keep fun a o e l => t.keep a o e fun q j _ m => f.off a (l q) j m
theorem Acc.go (a : Acc E K Bs q H ρ σ F Z ys) (t : Step E2 H ρ F Z H' ρ' F' Z') (w' : W K H' ρ' σ' F' Z') (sub : ∀ j ∈ E2, j ∈ E) : Acc E K Bs q H' ρ' σ' F' Z' ys := by
  obtain ⟨A, h, o, n⟩ := a.r
  exact ⟨w', a.hs, fun Hb ρb Fb Zb b => (a.step Hb ρb Fb Zb b).seq t (fun _ h => h) sub, A, h.over o t, o.over t fun x m => lst_tr (h.tr x m), n⟩
/-- .. the slots' own values are others -/
theorem Acc.re (a : Acc E K Bs q H ρ σ F Z ys) (w' : W K H ρ σ' F Z) : Acc E K Bs q H ρ σ' F Z ys := ⟨w', a.hs, a.step, a.r⟩
theorem Acc.start (w : W K H ρ σ F Z) (s : Step E H ρ0 F Z H ρ F Z) (n : H q = none) : ∃ Z', Acc E K (fun Hb ρb Fb Zb => Hb = H ∧ ρb = ρ0 ∧ Fb = F ∧ Zb = Z) q (upd H q (.lst [])) ρ σ F Z' [] := by
  obtain ⟨Z', w1, s1, o1, f1⟩ := w.lst n (.nil) (⟨List.nodup_nil, fun _ m => (nomatch m), fun _ m => (nomatch m)⟩)
  refine ⟨Z', w1, fun Hb ρb Fb Zb b => ?_, fun Hb ρb Fb Zb b => ?_, [q], o1, f1, fun Hb ρb Fb Zb b a m => ?_⟩
  · rw [b.1]
    exact n
  · obtain ⟨rfl, rfl, rfl, rfl⟩ := b
    exact s.seq s1 (fun _ h => h) fun _ m => (nomatch m)
  · rw [List.mem_singleton.mp m, b.1]
    exact .inr n
/-- told from here, too: from the heap without what grows -/
theorem Acc.rebase (a : Acc E K Bs q H ρ σ F Z ys) : ∃ Hm, Sub H F Z Hm ∧ Acc E K (fun Hb ρb Fb Zb => Bs Hb ρb Fb Zb ∨ (Hb = Hm ∧ ρb = ρ ∧ Fb = F ∧ Zb = Z)) q H ρ σ F Z ys := by
  obtain ⟨A, h, o, n⟩ := a.r
  have lk : ∀ a o, (if a ∈ A then none else H a) = some o → H a = some o := fun a o e => by
    split at e
    · cases e
    · exact e
  have hq : q ∈ A := by
    cases h with
    | lst h t => exact List.mem_cons_self
  refine ⟨fun a => if a ∈ A then none else H a, ⟨lk, fun a u e => ?_⟩, a.w, fun Hb ρb Fb Zb b => ?_, fun Hb ρb Fb Zb b => ?_, A, h, o, fun Hb ρb Fb Zb b x m => ?_⟩
  · by_cases m : a ∈ A
    · obtain ⟨o', e', l⟩ := h.tr a m
      rw [e] at e'
      cases e'
      exact .inr ⟨l, o.zed a m, o.off a m⟩
    · exact .inl (by simp only [if_neg m]; exact e)
  · rcases b with b | ⟨rfl, _⟩
    · exact a.hs Hb ρb Fb Zb b
    · exact if_pos hq
  · rcases b with b | ⟨rfl, rfl, rfl, rfl⟩
    · exact a.step Hb ρb Fb Zb b
    · refine ⟨fun a o e _ => lk a o e, fun a e z => ?_, fun _ _ => ⟨rfl, rfl⟩, fun _ _ m => .inl m, fun _ z => .inl z, fun _ z _ => .inl z⟩
      simp only [z] at e
      split at e <;> exact e rfl
  · rcases b with b | ⟨rfl, _⟩
    · exact n Hb ρb Fb Zb b x m
    · exact .inr (if_pos m)
/-- .. and no more -/
theorem Acc.less {Bs' : Bases} (a : Acc E K Bs q H ρ σ F Z ys) (h : ∀ Hb ρb Fb Zb, Bs' Hb ρb Fb Zb → Bs Hb ρb Fb Zb) : Acc E K Bs' q H ρ σ F Z ys :=
  ⟨a.w, fun _ _ _ _ b => a.hs _ _ _ _ (h _ _ _ _ b), fun _ _ _ _ b => a.step _ _ _ _ (h _ _ _ _ b), let ⟨A, x, y, z⟩ := a.r; ⟨A, x, y, fun _ _ _ _ b => z _ _ _ _ (h _ _ _ _ b)⟩⟩
theorem own_list {A : List Addr} (h : Own K H (.ref q) (.list ys) A) : ∃ A0 vs, A = q :: A0 ∧ H q = some (.lst vs) ∧ OwnL K H vs ys A0 := by
  cases h with
  | lst h1 t => exact ⟨_, _, rfl, h1, t⟩
/-- an item more -/
theorem Acc.push {v : V} {y : D} {sy : Stat} {ρe : List Slot} (a : Acc E K Bs q H ρ σ F Z ys) (t : Step E2 H ρ F Z H' ρ' F' Z') (w' : W K H' ρ' σ F' Z') (r : VR E2 K H F H' ρ' σ F' Z' v y sy) (e : settle y sy ρ' = some ρe) (h1 : ∀ j ∈ E2, j ∈ E) (h2 : ∀ j ∈ tkS sy, j ∈ E) :
    ∃ vs F2, H' q = some (.lst vs) ∧ vs.length = ys.length ∧ Acc E K Bs q (upd H' q (.lst (vs ++ [v]))) ρe σ F2 Z' (ys ++ [y]) := by
  obtain ⟨A, hA, fA, nA⟩ := a.r
  have trA : ∀ x ∈ A, H x ≠ none := fun x m => lst_tr (hA.tr x m)
  have hA := hA.over fA t
  obtain ⟨B, hB, fB⟩ := r
  have ap : ∀ x ∈ A, x ∉ B := fun x m q => by
    rcases fB.new x q with ⟨i, _, z⟩ | n
    · exact fA.off x m i z
    · exact trA x m n
  have fA := fA.over t trA
  clear trA
  obtain ⟨F2, B2, w2, s2, o2, f2, n2, _, _⟩ := settle_ok w' hB.vc fB.toOff e
  have s3 : ∀ Hb ρb Fb Zb, Bs Hb ρb Fb Zb → Step E Hb ρb Fb Zb H' ρe F2 Z' := fun Hb ρb Fb Zb b => ((a.step Hb ρb Fb Zb b).seq t (fun _ h => h) h1).seq s2 (fun _ h => h) h2
  have offA : ∀ b ∈ A, ∀ j, b ∉ F2 j := fun b m j m2 => by
    rcases s2.own j b m2 with z | ⟨i, _, z⟩ | z
    · exact fA.off b m j z
    · exact fA.off b m i z
    · exact lst_tr (hA.tr b m) z
  have ap2 : ∀ b ∈ A, b ∉ B2 := fun b m m2 => by
    rcases n2 b m2 with z | ⟨i, _, z⟩
    · exact ap b m z
    · exact fA.off b m i z
  have newB : ∀ Hb ρb Fb Zb, Bs Hb ρb Fb Zb → ∀ b ∈ B2, (∃ i ∈ E, b ∈ Fb i) ∨ Hb b = none := fun Hb ρb Fb Zb bs b m => by
    have st := a.step Hb ρb Fb Zb bs
    have back : ∀ i, i ∈ E → b ∈ F i → (∃ i ∈ E, b ∈ Fb i) ∨ Hb b = none := fun i hi z => by
      rcases st.own i b z with z | z | z
      · exact .inl ⟨i, hi, z⟩
      · exact .inl z
      · exact .inr z
    rcases n2 b m with m | ⟨i, hi, m⟩
    · rcases fB.new b m with ⟨i, hi, z⟩ | z
      · exact back i (h1 i hi) z
      · exact .inr (st.gone z)
    · rcases t.own i b m with z | ⟨k, hk, z⟩ | z
      · exact back i (h2 i hi) z
      · exact back k (h1 k hk) z
      · exact .inr (st.gone z)
  obtain ⟨A0, vs, eA, hq, tA⟩ := own_list hA
  subst eA
  have nd := List.nodup_cons.mp fA.nodup
  have qA : ∀ b ∈ A0, b ∈ q :: A0 := fun b m => List.mem_cons_of_mem _ m
  have kk : ∀ b o, b ≠ q → H' b = some o → upd H' q (.lst (vs ++ [v])) b = some o := fun b o n z => by
    rw [upd_ne n]
    exact z
  have own1 : OwnL K (upd H' q (.lst (vs ++ [v]))) vs ys A0 := tA.keep fun b o z l => kk b o (fun eb => by
    subst eb
    rw [hq] at z
    cases z
    exact nd.1 (l trivial)) z
  have own2 : Own K (upd H' q (.lst (vs ++ [v]))) v y B2 := o2.keep fun b o z l => kk b o (fun eb => by
    subst eb
    rw [hq] at z
    cases z
    exact ap2 b List.mem_cons_self (l trivial)) z
  refine ⟨vs, F2, hq, tA.length, ⟨w2.len, w2.out, fun i u z => ?_, w2.nodup, w2.disj, w2.zed⟩, a.hs, fun Hb ρb Fb Zb bs => ?_, q :: (A0 ++ (B2 ++ [])), .lst upd_same (own1.append (.cons own2 .nil)), ⟨?_, fun b m => ?_, fun b m j => ?_⟩, fun Hb ρb Fb Zb bs b m => ?_⟩
  · refine (w2.slot i u z).keep rfl (fun b o z l => kk b o (fun eb => ?_) z) fun _ z _ => z
    subst eb
    rw [hq] at z
    cases z
    rcases l trivial with z | z
    · exact offA b List.mem_cons_self i z
    · exact z (fA.zed b List.mem_cons_self)
  · have s3 := s3 Hb ρb Fb Zb bs
    refine ⟨fun b o z l => ?_, fun b z => ?_, s3.same, s3.own, s3.zed, s3.zk⟩
    · exact kk b o (fun eb => by rw [eb, a.hs Hb ρb Fb Zb bs] at z; cases z) (s3.keep b o z l)
    · by_cases hb : b = q
      · rw [hb, upd_same]
        exact fun z => nomatch z
      · rw [upd_ne hb]
        exact s3.there b z
  · rw [List.append_nil]
    refine List.nodup_cons.mpr ⟨fun m => ?_, List.nodup_append.mpr ⟨nd.2, f2.nodup, fun x mx y my e => ap2 x (qA x mx) (e ▸ my)⟩⟩
    rcases List.mem_append.mp m with m | m
    · exact nd.1 m
    · exact ap2 q List.mem_cons_self m
  · rw [List.append_nil] at m
    rcases List.mem_cons.mp m with m | m
    · rw [m]
      exact fA.zed q List.mem_cons_self
    · rcases List.mem_append.mp m with m | m
      · exact fA.zed b (qA b m)
      · exact f2.zed b m
  · rw [List.append_nil] at m
    rcases List.mem_cons.mp m with m | m
    · rw [m]
      exact offA q List.mem_cons_self j
    · rcases List.mem_append.mp m with m | m
      · exact offA b (qA b m) j
      · exact f2.off b m j
  · rw [List.append_nil] at m
    rcases List.mem_cons.mp m with m | m
    · rw [m]
      exact .inr (a.hs Hb ρb Fb Zb bs)
    · rcases List.mem_append.mp m with m | m
      · exact nA Hb ρb Fb Zb bs b (qA b m)
      · exact newB Hb ρb Fb Zb bs b m

/-! ### hidden slots -/
theorem hide_len {own : List Nat} : ∀ {ρ ρ1 : List Slot}, hide ρ own = some ρ1 → ρ1.length = ρ.length := by
  induction own with
  | nil =>
    intro ρ ρ1 h
    cases h
    rfl
  | cons i r ih =>
    intro ρ ρ1 h
    unfold hide at h
    split at h
    · rename_i ρ2 e
      have l := ih e
      split at h <;> first | (cases h; exact l) | (cases h; rw [← l, List.length_set]) | cases h
    · cases h
theorem wipe_off {σ : L2.St} : ∀ {vs : List Nat} {j : Nat}, j ∉ vs → (wipe σ vs)[j]? = σ[j]?
  | [], _, _ => rfl
  | v :: vs, j, h => by
    simp only [List.mem_cons, not_or] at h
    unfold wipe
    rw [List.getElem?_set_ne (fun e => h.1 e.symm)]
    exact wipe_off h.2
theorem wipe_in {σ : L2.St} : ∀ {vs : List Nat} {j : Nat}, j ∈ vs → j < σ.length → (wipe σ vs)[j]? = some none
  | v :: vs, j, h, l => by
    unfold wipe
    by_cases e : v = j
    · subst e
      rw [List.getElem?_set_self (by rw [wipe_length]; exact l)]
    · rw [List.getElem?_set_ne e]
      rcases List.mem_cons.mp h with h | h
      · exact absurd h.symm e
      · exact wipe_in h l
theorem wipe_eq {σ σ' : L2.St} {vs : List Nat} (hl : σ'.length = σ.length) (h : ∀ j, j ∉ vs → σ'[j]? = σ[j]?) : wipe σ' vs = wipe σ vs := by
  apply List.ext_getElem?
  intro j
  by_cases m : j ∈ vs
  · by_cases l : j < σ.length
    · rw [wipe_in m l, wipe_in m (by rw [hl]; exact l)]
    · rw [List.getElem?_eq_none (by rw [wipe_length]; omega), List.getElem?_eq_none (by rw [wipe_length]; omega)]
  · rw [wipe_off m, wipe_off m, h j m]
/-- behind the hiding: the slots are empty, they owned nothing -/
theorem hide_ok {own : List Nat} : ∀ {ρ ρ1 : List Slot} {σ : L2.St}, W K H ρ σ F Z → hide ρ own = some ρ1 → W K H ρ1 σ F Z ∧ (∀ j, j ∉ own → ρ1[j]? = ρ[j]?) ∧ (∀ j ∈ own, ρ1[j]? = some .emp ∧ F j = []) := by
  induction own with
  | nil =>
    intro ρ ρ1 σ w h
    cases h
    exact ⟨w, fun _ _ => rfl, fun _ m => (nomatch m)⟩
  | cons i r ih =>
    intro ρ ρ1 σ w h
    unfold hide at h
    split at h
    · rename_i ρ2 e
      obtain ⟨w2, o2, i2⟩ := ih w e
      have one : ∀ (sl : Slot), ρ2[i]? = some sl → F i = [] → ρ1 = ρ2.set i .emp → W K H ρ1 σ F Z ∧ (∀ j, j ∉ i :: r → ρ1[j]? = ρ[j]?) ∧ (∀ j ∈ i :: r, ρ1[j]? = some .emp ∧ F j = []) := by
        intro sl es f0 e1
        subst e1
        refine ⟨⟨by rw [List.length_set]; exact w2.len, fun j hj => w2.out j (by rw [List.length_set] at hj; exact hj), fun j s q => ?_, w2.nodup, w2.disj, w2.zed⟩, fun j hj => ?_, fun j hj => ?_⟩
        · by_cases h : j = i
          · subst h
            rw [get_set_self es] at q
            cases q
            exact f0
          · rw [get_set_ne h] at q
            exact w2.slot j s q
        · simp only [List.mem_cons, not_or] at hj
          rw [get_set_ne hj.1]
          exact o2 j hj.2
        · by_cases h : j = i
          · subst h
            exact ⟨get_set_self es, f0⟩
          · rcases List.mem_cons.mp hj with z | z
            · exact absurd z h
            · rw [get_set_ne h]
              exact i2 j z
      split at h
      · rename_i es
        cases h
        exact one .emp es (w2.slot i _ es) (by
          apply List.ext_getElem?
          intro j
          by_cases hj : j = i
          · subst hj
            rw [get_set_self es, es]
          · rw [get_set_ne hj])
      · rename_i d es
        cases h
        exact one _ es (w2.slot i _ es).1 rfl
      · rename_i d es
        cases h
        exact one _ es (w2.slot i _ es).1 rfl
      · rename_i d es
        cases h
        exact one _ es (w2.slot i _ es).1 rfl
      · cases h
    · cases h
/-- slots that are empty may be forgotten -/
theorem W.forget {own : List Nat} (w : W K H ρ σ F Z) (h : ∀ j ∈ own, ρ[j]? = some .emp) : W K H ρ (wipe σ own) F Z := by
  refine ⟨by rw [wipe_length]; exact w.len, w.out, fun j s q => ?_, w.nodup, w.disj, w.zed⟩
  by_cases m : j ∈ own
  · rw [h j m] at q
    cases q
    exact w.slot j _ (h j m)
  · rw [wipe_off m]
    exact w.slot j s q
theorem hide_step {own : List Nat} (w : W K H ρ σ F Z) (h : hide ρ own = some ρ1) : Step own H ρ F Z H ρ1 F Z :=
  ⟨fun _ _ e _ => e, fun _ e => e, fun j hj => ⟨(hide_ok w h).2.1 j hj, rfl⟩, fun _ _ m => .inl m, fun _ z => .inl z, fun _ z _ => .inl z⟩
theorem unhide_get {own : List Nat} {ρ0 : List Slot} : ∀ {ρ : List Slot} {j : Nat}, j < ρ.length → (j ∈ own → (unhide ρ0 ρ own)[j]? = some (ρ0[j]?.getD .emp)) ∧ (j ∉ own → (unhide ρ0 ρ own)[j]? = ρ[j]?) ∧ (unhide ρ0 ρ own).length = ρ.length := by
  induction own with
  | nil =>
    intro ρ j h
    exact ⟨fun m => (nomatch m), fun _ => rfl, rfl⟩
  | cons i r ih =>
    intro ρ j h
    obtain ⟨h1, h2, h3⟩ := ih h
    unfold unhide
    refine ⟨fun m => ?_, fun m => ?_, by rw [List.length_set]; exact h3⟩
    · by_cases e : j = i
      · subst e
        rw [List.getElem?_set_self (by rw [h3]; exact h)]
      · rw [get_set_ne e]
        rcases List.mem_cons.mp m with z | z
        · exact absurd z e
        · exact h1 z
    · simp only [List.mem_cons, not_or] at m
      rw [get_set_ne m.1]
      exact h2 m.2
theorem unhide_len {own : List Nat} {ρ0 : List Slot} : ∀ {ρ : List Slot}, (unhide ρ0 ρ own).length = ρ.length := by
  induction own with
  | nil => intro _; rfl
  | cons i r ih =>
    intro ρ
    unfold unhide
    rw [List.length_set]
    exact ih
/-- at the end: the hidden slots again -/
theorem unhide_ok {own : List Nat} {ρ3 : List Slot} {H3 : Hp} {F3 : Fa} {Z3 : Addr → Prop} {E : List Nat} (w : W K H ρ σ F Z) (h : hide ρ own = some ρ1) (s : Step (own ++ E) H ρ F Z H3 ρ3 F3 Z3) (w3 : W K H3 ρ3 (wipe σ own) F3 Z3) (e3 : ∀ j ∈ own, ρ3[j]? = some .emp) :
    Step E H ρ F Z H3 (unhide ρ ρ3 own) F3 Z3 ∧ W K H3 (unhide ρ ρ3 own) σ F3 Z3 := by
  have f1 : ∀ j ∈ own, F j = [] := fun j m => ((hide_ok w h).2.2 j m).2
  have f3 : ∀ j ∈ own, F3 j = [] := fun j m => w3.slot j _ (e3 j m)
  have ll : ρ3.length = ρ.length := by
    have a := w3.len
    rw [wipe_length] at a
    rw [← a]
    exact w.len
  have ne : ∀ {P : Prop} {j a}, j ∈ own → a ∈ F j → P := fun m q => by rw [f1 _ m] at q; cases q
  have lt : ∀ {j}, j ∈ own → j < ρ.length := fun m => by
    have := (List.getElem?_eq_some_iff.mp (e3 _ m)).1
    omega
  refine ⟨⟨fun a o q l => s.keep a o q fun z j hj m => (List.mem_append.mp hj).elim (fun y => ne y m) fun y => l z j y m, s.there, fun j hj => ?_, fun j a m => ?_, s.zed, fun a z n => ?_⟩, ⟨by rw [unhide_len, ll]; exact w.len, fun j hj => w3.out j (by rw [unhide_len] at hj; exact hj), fun j sl q => ?_, w3.nodup, w3.disj, w3.zed⟩⟩
  · by_cases m : j ∈ own
    · rw [(unhide_get (by rw [ll]; exact lt m)).1 m, f1 j m, f3 j m]
      refine ⟨?_, rfl⟩
      rw [List.getElem?_eq_getElem (lt m)]
      rfl
    · obtain ⟨a, b⟩ := s.same j fun z => (List.mem_append.mp z).elim m hj
      refine ⟨?_, b⟩
      by_cases l : j < ρ3.length
      · rw [(unhide_get l).2.1 m, a]
      · rw [List.getElem?_eq_none (by rw [unhide_len]; omega), List.getElem?_eq_none (by omega)]
  · rcases s.own j a m with q | ⟨i, hi, q⟩ | q
    · exact .inl q
    · exact (List.mem_append.mp hi).elim (fun y => ne y q) fun y => .inr (.inl ⟨i, y, q⟩)
    · exact .inr (.inr q)
  · rcases s.zk a z n with q | ⟨i, hi, q⟩
    · exact .inl q
    · exact (List.mem_append.mp hi).elim (fun y => ne y q) fun y => .inr ⟨i, y, q⟩
  · have l : j < ρ3.length := by
      have := (List.getElem?_eq_some_iff.mp q).1
      rw [unhide_len] at this
      exact this
    by_cases m : j ∈ own
    · rw [(unhide_get l).1 m, List.getElem?_eq_getElem (lt m)] at q
      have q : ρ[j] = sl := by
        simp only [Option.getD_some] at q
        cases q
        rfl
      refine (w.slot j sl (by rw [List.getElem?_eq_getElem (lt m), q])).keep (by rw [f1 j m, f3 j m]) (fun a o e y => s.keep a o e fun z i hi m => ?_) fun a z n y => (s.zed a y).elim z n
      rcases y z with y | y
      · rw [f1 j ‹_›] at y
        cases y
      · exact y (w.zed i a m)
    · rw [(unhide_get l).2.1 m] at q
      have := w3.slot j sl q
      rw [wipe_off m] at this
      exact this
end
end Zr

set_option maxRecDepth 100000
set_option maxHeartbeats 8000000
/-! ZrO: list comprehensions. -/
namespace Zr
open PySem PySem.Spec PyProof.Rows L2

section
variable {K : Fr'} {Hs H H0 H' H1 H2 H3 : Hp} {ρs ρ ρ0 ρ' ρ1 ρ2 : List Slot} {σ σ' σ1 σ2 : L2.St} {Fs F F0 F' F1 F2 : Fa} {Zs Z Z0 Z' Z1 Z2 : Addr → Prop} {E E1 E2 : List Nat}
variable {q : Addr} {ys : List D} {Bs : Bases}
def Emp (own : List Nat) (ρ : List Slot) : Prop := ∀ j ∈ own, ρ[j]? = some .emp
theorem lc_loop {J : It} {xs : List D} {own : List Nat} {σw : L2.St} {turn : D → Ro → List D → Option (List D × Ro)} {body : V → Hp → (Hp → Prop) → Prop} {Fin : Hp → Prop} {acc acc' : List D} {ρ3 : Ro} {Hb : Hp} {ρb : List Slot} {Fb : Fa} {Zb : Addr → Prop}
    (a : Acc E K Bs q H ρ σw F Z acc.reverse) (em : Emp own ρ) (b : Bs Hb ρb Fb Zb) (sb : Sub H0 Fb Zb Hb) (it : ItR K J E H0 ρb Fb Zb xs) (e : lcGo turn xs ρ acc = some (acc', ρ3))
    (hb : ∀ (x : V) (d : D) (H : Hp) (ρ : List Slot) (F : Fa) (Z : Addr → Prop) (a a1 : List D) (ρ1 : List Slot) (Nx : Hp → Prop), Acc E K Bs q H ρ σw F Z a.reverse → Emp own ρ → Bor K H false (fun a => ¬ Z a) x d → turn d ρ a = some (a1, ρ1) →
      (∀ H' F' Z', Acc E K Bs q H' ρ1 σw F' Z' a1.reverse → Emp own ρ1 → Nx H') → body x H Nx)
    (fin : ∀ H' F' Z', Acc E K Bs q H' ρ3 σw F' Z' acc'.reverse → Emp own ρ3 → Fin H') :
    ∃ W : Nat → Nat → Hp → Prop, (∃ m, W 0 m H) ∧ ∀ i m H, W i m H → (J.stop i H ∧ Fin H) ∨ (J.go i H ∧ ∃ Nx : Hp → Prop, (∀ H', Nx H' → ∃ m', m' < m ∧ W (i + 1) m' H') ∧ ∀ x H', J.yld i H x H' → body x H' Nx) := by
  refine ⟨fun i m H => m = xs.length - i ∧ i ≤ xs.length ∧ ∃ ρ F Z acc, Acc E K Bs q H ρ σw F Z acc.reverse ∧ Emp own ρ ∧ lcGo turn (xs.drop i) ρ acc = some (acc', ρ3), ⟨xs.length, by simp, Nat.zero_le _, ρ, F, Z, acc, a, em, by simpa using e⟩, ?_⟩
  rintro i m H ⟨rfl, hi, ρ, F, Z, acc, a, em, e⟩
  obtain ⟨i1, i2, i3⟩ := it Hb H ρ F Z σw sb (a.step Hb ρb Fb Zb b) a.w
  by_cases hlt : i < xs.length
  · have ed : xs.drop i = xs[i] :: xs.drop (i + 1) := List.drop_eq_getElem_cons hlt
    rw [ed] at e
    unfold lcGo at e
    split at e
    · rename_i a1 ρ1 et
      refine .inr ⟨i1 i hlt, fun H' => ∃ F Z, Acc E K Bs q H' ρ1 σw F Z a1.reverse ∧ Emp own ρ1, fun H' ⟨F', Z', a', em'⟩ => ⟨xs.length - (i + 1), by omega, rfl, hlt, ρ1, F', Z', a1, a', em', e⟩, fun x H' y => ?_⟩
      obtain ⟨ex, d, hd, hbor⟩ := i3 i x H' hlt y
      rw [List.getElem?_eq_getElem hlt] at hd
      cases hd
      obtain ⟨w2, s2⟩ := a.w.ext ex
      exact hb x _ H' ρ F Z acc a1 ρ1 _ (a.go s2 w2 fun _ m => (nomatch m)) em hbor et fun H' F' Z' a' em' => ⟨F', Z', a', em'⟩
    · cases e
  · have ei : i = xs.length := by omega
    subst ei
    rw [List.drop_length] at e
    unfold lcGo at e
    cases e
    exact .inl ⟨i2, fin H F Z a em⟩
theorem SameQ.len {E : List Nat} (s : SameQ E ρ σ ρ' σ') (w : W K H ρ σ F Z) (w' : W K H' ρ' σ' F' Z') (h : ρ'.length = ρ.length) : σ'.length = σ.length := by rw [w'.len, w.len, h]
theorem bindV_len : ∀ {g : IG} {d : D} {st : Stat} {ρ ρ' : Ro}, bindV g d st ρ = some ρ' → ρ'.length = ρ.length
  | .nm i, d, st, ρ, ρ', h => by
    simp only [bindV] at h
    split at h
    · cases st <;> first | (cases h; exact List.length_set) | cases h
    · cases h
  | .t1 a, d, st, ρ, ρ', h => by
    obtain ⟨ds, rfl, _, h⟩ := bindV_t1 h
    rcases ds with _ | ⟨x, _ | ⟨y, r⟩⟩ <;> simp only [bindVs] at h <;> try (cases h; done)
    all_goals (obtain ⟨ρ1, h1, h⟩ := Option.bind_eq_some_iff.mp h)
    · cases h
      exact bindV_len h1
    · cases h
  | .t2 a b, d, st, ρ, ρ', h => by
    obtain ⟨ds, rfl, hl, h⟩ := bindV_t2 h
    rcases ds with _ | ⟨x, _ | ⟨y, _ | ⟨z, r⟩⟩⟩ <;> simp at hl
    simp only [bindVs] at h
    obtain ⟨ρ1, h1, h⟩ := Option.bind_eq_some_iff.mp h
    obtain ⟨ρ2, h2, h⟩ := Option.bind_eq_some_iff.mp h
    cases h
    rw [bindV_len h2, bindV_len h1]
  | .t3 a b c, d, st, ρ, ρ', h => by
    obtain ⟨ds, rfl, hl, h⟩ := bindV_t3 h
    rcases ds with _ | ⟨x, _ | ⟨y, _ | ⟨z, _ | ⟨u, r⟩⟩⟩⟩ <;> simp at hl
    simp only [bindVs] at h
    obtain ⟨ρ1, h1, h⟩ := Option.bind_eq_some_iff.mp h
    obtain ⟨ρ2, h2, h⟩ := Option.bind_eq_some_iff.mp h
    obtain ⟨ρ3, h3, h⟩ := Option.bind_eq_some_iff.mp h
    cases h
    rw [bindV_len h3, bindV_len h2, bindV_len h1]
  | .t4 a b c e, d, st, ρ, ρ', h => by
    obtain ⟨ds, rfl, hl, h⟩ := bindV_t4 h
    rcases ds with _ | ⟨x, _ | ⟨y, _ | ⟨z, _ | ⟨u, _ | ⟨v, r⟩⟩⟩⟩⟩ <;> simp at hl
    simp only [bindVs] at h
    obtain ⟨ρ1, h1, h⟩ := Option.bind_eq_some_iff.mp h
    obtain ⟨ρ2, h2, h⟩ := Option.bind_eq_some_iff.mp h
    obtain ⟨ρ3, h3, h⟩ := Option.bind_eq_some_iff.mp h
    obtain ⟨ρ4, h4, h⟩ := Option.bind_eq_some_iff.mp h
    cases h
    rw [bindV_len h4, bindV_len h3, bindV_len h2, bindV_len h1]
  | .t5 a b c e f, d, st, ρ, ρ', h => by
    obtain ⟨ds, rfl, hl, h⟩ := bindV_t5 h
    rcases ds with _ | ⟨x, _ | ⟨y, _ | ⟨z, _ | ⟨u, _ | ⟨v, _ | ⟨w, r⟩⟩⟩⟩⟩⟩ <;> simp at hl
    simp only [bindVs] at h
    obtain ⟨ρ1, h1, h⟩ := Option.bind_eq_some_iff.mp h
    obtain ⟨ρ2, h2, h⟩ := Option.bind_eq_some_iff.mp h
    obtain ⟨ρ3, h3, h⟩ := Option.bind_eq_some_iff.mp h
    obtain ⟨ρ4, h4, h⟩ := Option.bind_eq_some_iff.mp h
    obtain ⟨ρ5, h5, h⟩ := Option.bind_eq_some_iff.mp h
    cases h
    rw [bindV_len h5, bindV_len h4, bindV_len h3, bindV_len h2, bindV_len h1]
/-- hidden again -/
theorem Acc.hid {own : List Nat} {σw : L2.St} {ρd : List Slot} (a : Acc E K Bs q H ρ σ F Z ys) (h : hide ρ own = some ρd) (hs : ∀ j ∈ own, j ∈ E) (hw : wipe σ own = σw) : Acc E K Bs q H ρd σw F Z ys ∧ Emp own ρd := by
  obtain ⟨w1, _, e1⟩ := hide_ok a.w h
  subst hw
  exact ⟨(a.go (hide_step a.w h) w1 hs).re (w1.forget fun j m => (e1 j m).1), fun j m => (e1 j m).1⟩
/-- a turn's target -/
theorem Acc.tgt {own : List Nat} {σ : L2.St} {g : IG} {d : D} {v : V} {ρa : Ro} {R : L2.St → Hp → Prop} (a : Acc E K Bs q H ρ (wipe σ own) F Z ys) (hb : Bor K H false (fun a => ¬ Z a) v d) (e : bindV g d .froz ρ = some ρa) (hs : ∀ j ∈ g.slots, j ∈ own) (ho : ∀ j ∈ own, j ∈ E)
    (k : ∀ σ2 F2, Acc E K Bs q H ρa σ2 F2 Z ys → wipe σ2 own = wipe σ own → R σ2 H) : tGt K g v (wipe σ own) H R := by
  refine ⟨own, H, ρ, F, Z, ρ, F, Z, d, .froz, ρa, [], .refl, a.w, hs, e, ⟨rfl, hb⟩, fun σ2 F2 s2 w2 sm f2 => ?_⟩
  refine k σ2 F2 (a.go s2 w2 ho) ?_
  have l1 : σ2.length = (wipe σ own).length := sm.len a.w w2 (bindV_len e)
  rw [wipe_eq (σ := wipe σ own) l1 fun j hj => sm.off j fun z => hj (hs j z)]
  exact wipe_eq (wipe_length _ _) fun j hj => wipe_off hj
end
/-- a comprehension's tests -/
def tCt (K : Fr') (C : CallF) (t : IC) : TT := fun σ H Q => ∃ ρ F Z k ρ', W K H ρ σ F Z ∧ evC C t ρ = some (k, ρ') ∧
  ∀ H' F' Z', Step (effC t) H ρ F Z H' ρ' F' Z' → W K H' ρ' σ F' Z' → Q k H'
section
variable {X : Cx} {G : Gx} {S : Sx} {C : CallF}
theorem sc_yes : PTs X [] (tCt X.K C .yes) := ⟨fun pins s σ H Q I ⟨ρ, F, Z, k, ρ', w, he, kk⟩ => by
  simp only [evC] at he
  cases he
  exact pts_nil.run pins s σ H Q I (kk H F Z .refl w)⟩
theorem sc_one {t : IT} {x : Expr} (h : PT X x (tTt X.K C t)) : PTs X [x] (tCt X.K C (.one t)) := pts_one (h.of fun σ H Q ⟨ρ, F, Z, k, ρ', w, he, kk⟩ => ⟨ρ, F, Z, k, ρ', w, by simpa only [evC] using he, kk⟩)
theorem ownOf_map {own : List Nat} : (ownOf S own).map (·.2) = own := by
  unfold ownOf
  rw [List.map_map]
  exact List.map_id' own
theorem fold_of {ie : Expr} {env : Env} (h : notSet ie = true) : ∀ x, foldedSetIterable ie env x = pure x := by
  cases ie <;> first | (intro _; rfl) | cases h
theorem lc_to {own : List Nat} {elt : IE} {g : IG} {it : II} {t : IC} {σ : L2.St} {H : Hp} {Q : VK} (h : tE X.K C (.lc own elt g it t) σ H Q) : tLc (tIt X.K C it) (tGt X.K g) (tCt X.K C t) (tE X.K C elt) own σ H Q := by
  obtain ⟨ρ, F, Z, d, st, ρ', w, hev, k⟩ := h
  simp only [ev] at hev
  split at hev
  · rename_i xs sts ρ1 ei
    split at hev
    · rename_i ρ2 eh
      split at hev
      · rename_i cond
        simp only [Bool.and_eq_true] at cond
        obtain ⟨c1, c2⟩ := cond
        have c2 : ∀ j ∈ g.slots, j ∈ own := fun j m => by
          have := List.all_eq_true.mp c2 j m
          simpa using this
        split at hev
        · rename_i acc ρ3 eg
          cases hev
          refine ⟨ρ, F, Z, xs, sts, ρ1, w, ei, fun J H1 F1 Z1 s1 w1 itr => fun q n => ?_⟩
          obtain ⟨w2, _, e2⟩ := hide_ok w1 eh
          have s2 : Step (own ++ (effC t ++ (effE elt ++ tkE elt))) H1 ρ1 F1 Z1 H1 ρ2 F1 Z1 := (hide_step w1 eh).more fun _ => ml
          obtain ⟨Z2, a2⟩ := Acc.start (w2.forget fun j m => (e2 j m).1) s2 n
          refine lc_loop (own := own) (acc := []) a2 (fun j m => (e2 j m).1) ⟨rfl, rfl, rfl, rfl⟩ .refl (itr _ c1) eg (fun x d H ρ F Z a a1 ρd Nx ac em hb et nx => ?_) fun H' F' Z' ac em => ?_
          · -- a turn
            split at et
            · rename_i ρa eb
              refine ac.tgt hb eb c2 (fun _ => ml) fun σ2 F2 ac2 hw => ⟨hw, ?_⟩
              split at et
              · rename_i ρb ec
                refine ⟨ρa, F2, Z, true, ρb, ac2.w, ec, fun H3 F3 Z3 s3 w3 => ?_⟩
                have ac3 := ac2.go s3 w3 fun _ m => mr (ml m)
                refine iteT ?_
                split at et
                · rename_i y sy ρc ee
                  split at et
                  · rename_i ρe es
                    split at et
                    · rename_i ρd' eh2
                      obtain ⟨hlen, et⟩ := Zr.ifs et
                      cases et
                      refine ⟨ρb, F3, Z3, y, sy, ρc, w3, ee, fun v H4 F4 Z4 s4 w4 r4 => ?_⟩
                      obtain ⟨vs, F5, hq, hl, ac5⟩ := ac3.push s4 w4 r4 es (fun _ m => mr (mr (ml m))) fun j m => mr (mr (mr (tk_of C elt ee j m)))
                      refine ⟨vs, hq, Nat.lt_of_lt_of_le (by rw [hl, List.length_reverse]; exact hlen) (lim_line (Nat.le_refl _)), ?_⟩
                      obtain ⟨ac6, em6⟩ := ac5.hid eh2 (fun _ => ml) hw
                      exact nx _ F5 Z4 (by rw [List.reverse_cons]; exact ac6) em6
                    · cases et
                  · cases et
                · cases et
              · rename_i ρb ec
                refine ⟨ρa, F2, Z, false, ρb, ac2.w, ec, fun H3 F3 Z3 s3 w3 => ?_⟩
                have ac3 := ac2.go s3 w3 fun _ m => mr (ml m)
                refine iteF ?_
                split at et
                · rename_i ρd' eh2
                  cases et
                  obtain ⟨ac6, em6⟩ := ac3.hid eh2 (fun _ => ml) hw
                  exact nx _ F3 Z3 ac6 em6
                · cases et
              · cases et
            · cases et
          · -- the end
            obtain ⟨sE, wE⟩ := unhide_ok w1 eh (ac.step _ _ _ _ ⟨rfl, rfl, rfl, rfl⟩) ac.w em
            obtain ⟨A, hA, oA, nA⟩ := ac.r
            refine k _ _ F' Z' (s1.seq sE (fun _ => ml) fun _ => mr) wE (VR.back s1 ⟨A, hA, oA.fl fun x m => ?_⟩)
            rcases nA _ _ _ _ ⟨rfl, rfl, rfl, rfl⟩ x m with ⟨i, hi, z⟩ | z
            · rcases List.mem_append.mp hi with hi | hi
              · rw [(e2 i hi).2] at z
                cases z
              · exact .inl ⟨i, hi, z⟩
            · exact .inr z
        · cases hev
      · cases hev
    · cases hev
  · cases hev
theorem se_lc (ok : Ok X G S C) {own : List Nat} {elt : IE} {g : IG} {it : II} {t : IC} {ex tg ie : Expr} {ifs : List Expr} {scope : Scope} {p : Pos} (hblk : blkC S.N S.sc scope (ownOf S own) = true) (hset : notSet ie = true) (hgc : chkG (inner S scope) g tg = true)
    (hi : PI X tg ie (tIt X.K C it)) (ht : ∀ Y, Ok Y G (inner S scope) C → Y.K = X.K → PTs Y ifs (tCt X.K C t)) (he : ∀ Y, Ok Y G (inner S scope) C → Y.K = X.K → PE Y ex (tE X.K C elt)) :
    PE X (.ListComp ex [⟨tg, ie, ifs, 0⟩] scope p) (tE X.K C (.lc own elt g it t)) := by
  have bok : BlkOk X.N X.env.scope scope (ownOf S own) := by
    rw [ok.hN, ok.sc]
    exact blkOk_by hblk
  have okB := fun s H c cl fp => ok.blk (scope := scope) bok.kind s H c cl fp
  refine (pe_lc (wi := tIt X.K C it) (g := tGt X.K g) (tt := tCt X.K C t) (te := tE X.K C elt) ok.calm (by rw [ok.hN]; exact ok.nd) hi bok (fun s H c cl fp => sg_all (okB s H c cl fp) g tg hgc) (fun s H c cl fp => ht _ (okB s H c cl fp) rfl) (fun s H c cl fp => he _ (okB s H c cl fp) rfl) (fold_of hset)).of fun σ H Q h => by
    rw [ownOf_map]
    exact lc_to h
theorem lc2_to {own : List Nat} {elt : IE} {g g1 : IG} {it it1 : II} {t t1 : IC} (hown : ∀ j ∈ g1.slots, j ∈ own) {σ : L2.St} {H : Hp} {Q : VK} (h : tE X.K C (.lc2 own elt g it t g1 it1 t1) σ H Q) : tLc2 (tIt X.K C it) (tGt X.K g) (tCt X.K C t) (tIt X.K C it1) (tGt X.K g1) (tCt X.K C t1) (tE X.K C elt) own g1.slots σ H Q := by
  obtain ⟨ρ, F, Z, d, st, ρ', w, hev, k⟩ := h
  simp only [ev] at hev
  split at hev
  · rename_i xs sts ρ1 ei
    split at hev
    · rename_i ρ2 eh
      split at hev
      · rename_i cond
        simp only [Bool.and_eq_true] at cond
        obtain ⟨⟨c1, c2⟩, c3⟩ := cond
        have c2 : ∀ j ∈ g.slots, j ∈ own := fun j m => by
          have := List.all_eq_true.mp c2 j m
          simpa using this
        split at hev
        · rename_i acc ρ3 eg
          cases hev
          refine ⟨ρ, F, Z, xs, sts, ρ1, w, ei, fun J H1 F1 Z1 s1 w1 itr => fun q n => ?_⟩
          obtain ⟨w2, _, e2⟩ := hide_ok w1 eh
          have s2 : Step (own ++ (effC t ++ (effI it1 ++ (effC t1 ++ (effE elt ++ tkE elt))))) H1 ρ1 F1 Z1 H1 ρ2 F1 Z1 := (hide_step w1 eh).more fun _ => ml
          obtain ⟨Z2, a2⟩ := Acc.start (w2.forget fun j m => (e2 j m).1) s2 n
          refine lc_loop (own := own) (acc := []) a2 (fun j m => (e2 j m).1) ⟨rfl, rfl, rfl, rfl⟩ .refl (itr _ c1) eg (fun x d H ρ F Z a a1 ρd Nx ac em hb et nx => ?_) fun H' F' Z' ac em => ?_
          · -- a turn
            split at et
            · rename_i ρa eb
              refine ac.tgt hb eb c2 (fun _ => ml) fun σ2 F2 ac2 hw => ⟨hw, ?_⟩
              split at et
              · rename_i ρb ec
                refine ⟨ρa, F2, Z, true, ρb, ac2.w, ec, fun H3 F3 Z3 s3 w3 => ?_⟩
                have ac3 := ac2.go s3 w3 fun _ m => mr (ml m)
                refine iteT ?_
                split at et
                · rename_i xs1 sts1 ρb1 ei1
                  split at et
                  · rename_i ρb2 eh1
                    obtain ⟨cw, et⟩ : _ ∧ _ := by
                      split at et
                      · rename_i c
                        exact ⟨c, et⟩
                      · cases et
                    split at et
                    · rename_i acc1 ρ3' eg1
                      split at et
                      · rename_i ρd' eh3
                        cases et
                        refine ⟨ρb, F3, Z3, xs1, sts1, ρb1, w3, ei1, fun J1 H4 F4 Z4 s4 w4 itr1 => ?_⟩
                        have ac4 := ac3.go s4 w4 fun _ m => mr (mr (ml m))
                        obtain ⟨Hm, sub, ac5⟩ := ac4.rebase
                        obtain ⟨ac6, em6⟩ := ac5.hid (σw := wipe σ2 g1.slots) eh1 (fun j m => ml (hown j m)) rfl
                        refine lc_loop (own := g1.slots) (acc := a) ac6 em6 (.inr ⟨rfl, rfl, rfl, rfl⟩) sub (itr1 _ cw) eg1 (fun x1 d1 H ρ F Z b b1 ρd1 Nx1 ac em hb et nx1 => ?_) fun H' F' Z' ac7 em7 => ?_
                        · -- an inner turn
                          split at et
                          · rename_i ρa1 eb1
                            refine ac.tgt hb eb1 (fun _ m => m) (fun j m => ml (hown j m)) fun σ3 F5 ac8 hw1 => ⟨hw1, ?_⟩
                            split at et
                            · rename_i ρb3 ec1
                              refine ⟨ρa1, F5, Z, true, ρb3, ac8.w, ec1, fun H6 F6 Z6 s6 w6 => ?_⟩
                              have ac9 := ac8.go s6 w6 fun _ m => mr (mr (mr (ml m)))
                              refine iteT ?_
                              split at et
                              · rename_i y sy ρc ee
                                split at et
                                · rename_i ρe es
                                  split at et
                                  · rename_i ρd2 eh2
                                    obtain ⟨hlen, et⟩ := Zr.ifs et
                                    cases et
                                    refine ⟨ρb3, F6, Z6, y, sy, ρc, w6, ee, fun v H7 F7 Z7 s7 w7 r7 => ?_⟩
                                    obtain ⟨vs, F8, hq, hl, acA⟩ := ac9.push s7 w7 r7 es (fun _ m => mr (mr (mr (mr (ml m))))) fun j m => mr (mr (mr (mr (mr (tk_of C elt ee j m)))))
                                    refine ⟨vs, hq, Nat.lt_of_lt_of_le (by rw [hl, List.length_reverse]; exact hlen) (lim_line (Nat.le_refl _)), ?_⟩
                                    obtain ⟨acB, emB⟩ := acA.hid eh2 (fun j m => ml (hown j m)) hw1
                                    exact nx1 _ F8 Z7 (by rw [List.reverse_cons]; exact acB) emB
                                  · cases et
                                · cases et
                              · cases et
                            · rename_i ρb3 ec1
                              refine ⟨ρa1, F5, Z, false, ρb3, ac8.w, ec1, fun H6 F6 Z6 s6 w6 => ?_⟩
                              have ac9 := ac8.go s6 w6 fun _ m => mr (mr (mr (ml m)))
                              refine iteF ?_
                              split at et
                              · rename_i ρd2 eh2
                                cases et
                                obtain ⟨acB, emB⟩ := ac9.hid eh2 (fun j m => ml (hown j m)) hw1
                                exact nx1 _ F6 Z6 acB emB
                              · cases et
                            · cases et
                          · cases et
                        · have ac8 := ac7.less (Bs' := _) fun _ _ _ _ b => .inl b
                          obtain ⟨ac9, em9⟩ := ac8.hid eh3 (fun _ => ml) ((wipe_eq (wipe_length _ _) fun j hj => wipe_off fun z => hj (hown j z)).trans hw)
                          exact nx _ F' Z' ac9 em9
                      · cases et
                    · cases et
                  · cases et
                · cases et
              · rename_i ρb ec
                refine ⟨ρa, F2, Z, false, ρb, ac2.w, ec, fun H3 F3 Z3 s3 w3 => ?_⟩
                have ac3 := ac2.go s3 w3 fun _ m => mr (ml m)
                refine iteF ?_
                split at et
                · rename_i ρd' eh2
                  cases et
                  obtain ⟨ac6, em6⟩ := ac3.hid eh2 (fun _ => ml) hw
                  exact nx _ F3 Z3 ac6 em6
                · cases et
              · cases et
            · cases et
          · -- the end
            obtain ⟨sE, wE⟩ := unhide_ok w1 eh (ac.step _ _ _ _ ⟨rfl, rfl, rfl, rfl⟩) ac.w em
            obtain ⟨A, hA, oA, nA⟩ := ac.r
            refine k _ _ F' Z' (s1.seq sE (fun _ => ml) fun _ => mr) wE (VR.back s1 ⟨A, hA, oA.fl fun x m => ?_⟩)
            rcases nA _ _ _ _ ⟨rfl, rfl, rfl, rfl⟩ x m with ⟨i, hi, z⟩ | z
            · rcases List.mem_append.mp hi with hi | hi
              · rw [(e2 i hi).2] at z
                cases z
              · exact .inl ⟨i, hi, z⟩
            · exact .inr z
        · cases hev
      · cases hev
    · cases hev
  · cases hev
theorem se_lc2 (ok : Ok X G S C) {own : List Nat} {elt : IE} {g g1 : IG} {it it1 : II} {t t1 : IC} {ex tg ie tg1 ie1 : Expr} {ifs ifs1 : List Expr} {scope : Scope} {p : Pos} (hblk : blkC S.N S.sc scope (ownOf S own) = true) (hset : notSet ie = true) (hset1 : notSet ie1 = true) (hgc : chkG (inner S scope) g tg = true) (hgc1 : chkG (inner S scope) g1 tg1 = true)
    (hown : ∀ j ∈ g1.slots, j ∈ own)
    (hi : PI X tg ie (tIt X.K C it)) (ht : ∀ Y, Ok Y G (inner S scope) C → Y.K = X.K → PTs Y ifs (tCt X.K C t)) (hi1 : ∀ Y, Ok Y G (inner S scope) C → Y.K = X.K → PI Y tg1 ie1 (tIt X.K C it1)) (ht1 : ∀ Y, Ok Y G (inner S scope) C → Y.K = X.K → PTs Y ifs1 (tCt X.K C t1)) (he : ∀ Y, Ok Y G (inner S scope) C → Y.K = X.K → PE Y ex (tE X.K C elt)) :
    PE X (.ListComp ex [⟨tg, ie, ifs, 0⟩, ⟨tg1, ie1, ifs1, 0⟩] scope p) (tE X.K C (.lc2 own elt g it t g1 it1 t1)) := by
  have bok : BlkOk X.N X.env.scope scope (ownOf S own) := by
    rw [ok.hN, ok.sc]
    exact blkOk_by hblk
  have okB := fun s H c cl fp => ok.blk (scope := scope) bok.kind s H c cl fp
  refine (pe_lc2 (wi := tIt X.K C it) (g := tGt X.K g) (tt := tCt X.K C t) (te := tE X.K C elt) (wi1 := tIt X.K C it1) (g1 := tGt X.K g1) (tt1 := tCt X.K C t1) (vs1 := g1.slots) ok.calm (by rw [ok.hN]; exact ok.nd) hi bok (fun j m => by rw [ownOf_map]; exact hown j m) (fun s H c cl fp => sg_all (okB s H c cl fp) g tg hgc) (fun s H c cl fp => ht _ (okB s H c cl fp) rfl)
    (fun s H c cl fp => hi1 _ (okB s H c cl fp) rfl) (fun s H c cl fp => sg_all (okB s H c cl fp) g1 tg1 hgc1) (fun s H c cl fp => ht1 _ (okB s H c cl fp) rfl) (fun s H c cl fp => he _ (okB s H c cl fp) rfl) (fold_of hset) fun env => fold_of hset1).of fun σ H Q h => by
    rw [ownOf_map]
    exact lc2_to hown h

end
end Zr

set_option maxRecDepth 100000
set_option maxHeartbeats 16000000
/-! ZrP: what the checker accepts does what the evaluator says (expressions); printed by mkP.py. -/
namespace Zr
open PySem PySem.Spec PyProof.Rows L2
section
variable {G : Gx} {C : CallF}
theorem beq_pos {a b : Nat} (h : (a == b) = true) : (a == b) = true := h
theorem ix_plain {r : Expr} (h : notSlice r = true) : PlainIx r := by
  cases r <;> first | (intro _ _; rfl) | cases h
theorem chks_nil {S : Sx} {es : IEs} (h : chks G S es [] = true) : es = .nil := by
  cases es with
  | nil => rfl
  | cons e es => simp [chks] at h
theorem chks_ne {S : Sx} {x : Expr} {xs : List Expr} {es : IEs} (h : chks G S es (x :: xs) = true) : es ≠ .nil := fun e => by
  subst e
  simp [chks] at h
def isBool : Expr → Bool
  | .BoolOp _ _ _ => true
  | _ => false
theorem notBool {x : Expr} (h : plainTest x = true) : isBool x = false := by
  cases x <;> first | rfl | cases h
mutual
theorem sndE : ∀ (e : IE) {X : Cx} {S : Sx} (ok : Ok X G S C) (ex : Expr), chkE G S e ex = true → PE X ex (tE X.K C e)
  | .var i, X, S, ok, ex, h => by
    unfold chkE at h
    split at h
    all_goals first | (rename_i q; cases q; done) | (cases h; done) | skip
    · rename_i q
      cases q
      exact se_var ok h
  | .mov i, X, S, ok, ex, h => by
    unfold chkE at h
    split at h
    all_goals first | (rename_i q; cases q; done) | (cases h; done) | skip
    · rename_i q
      cases q
      exact se_mov ok h
  | .int i, X, S, ok, ex, h => by
    unfold chkE at h
    split at h
    all_goals first | (rename_i q; cases q; done) | (cases h; done) | skip
    · rename_i q
      cases q
      have e := of_decide_eq_true h
      subst e
      exact se_const pe_int (fun _ => rfl) rfl fun _ => .int _
  | .str x, X, S, ok, ex, h => by
    unfold chkE at h
    split at h
    all_goals first | (rename_i q; cases q; done) | (cases h; done) | skip
    · rename_i q
      cases q
      have e := of_decide_eq_true h
      subst e
      exact se_const pe_str (fun _ => rfl) rfl fun _ => .str _
  | .bl b, X, S, ok, ex, h => by
    unfold chkE at h
    split at h
    all_goals first | (rename_i q; cases q; done) | (cases h; done) | skip
    · rename_i q
      cases q
      have e := of_decide_eq_true h
      subst e
      exact se_const pe_bl (fun _ => rfl) rfl fun _ => .bl _
  | .non, X, S, ok, ex, h => by
    unfold chkE at h
    split at h
    all_goals first | (rename_i q; cases q; done) | (cases h; done) | skip
    · rename_i q
      cases q
      exact se_const pe_non (fun _ => rfl) rfl fun _ => .non
  | .glob x d, X, S, ok, ex, h => by
    unfold chkE at h
    split at h
    all_goals first | (rename_i q; cases q; done) | (cases h; done) | skip
    · rename_i q
      cases q
      rw [Bool.and_eq_true, Bool.and_eq_true] at h
      exact se_glob ok (of_decide_eq_true h.1.1) h.1.2 h.2
  | .bin op a b, X, S, ok, ex, h => by
    unfold chkE at h
    split at h
    all_goals first | (rename_i q; cases q; done) | (cases h; done) | skip
    · rename_i q
      cases q
      simp only [Bool.and_eq_true, decide_eq_true_eq, Bool.not_eq_true'] at h
      obtain ⟨⟨e, h1⟩, h2⟩ := h
      subst e
      exact se_bin (sndE a ok _ h1) (sndE b ok _ h2)
  | .neg a, X, S, ok, ex, h => by
    unfold chkE at h
    split at h
    all_goals first | (rename_i q; cases q; done) | (cases h; done) | skip
    · rename_i q
      cases q
      exact se_neg (sndE a ok _ h)
  | .cmp op a b, X, S, ok, ex, h => by
    unfold chkE at h
    split at h
    all_goals first | (rename_i q; cases q; done) | (cases h; done) | skip
    · rename_i q
      cases q
      simp only [Bool.and_eq_true, decide_eq_true_eq, Bool.not_eq_true'] at h
      obtain ⟨⟨⟨e, hm⟩, h1⟩, h2⟩ := h
      subst e
      exact se_cmp ok hm (sndE a ok _ h1) (sndE b ok _ h2)
  | .chain op op' a b c, X, S, ok, ex, h => by
    unfold chkE at h
    split at h
    all_goals first | (rename_i q; cases q; done) | (cases h; done) | skip
    · rename_i q
      cases q
      simp only [Bool.and_eq_true, decide_eq_true_eq, Bool.not_eq_true'] at h
      obtain ⟨⟨⟨⟨⟨e, e2⟩, hm⟩, h1⟩, h2⟩, h3⟩ := h
      subst e
      subst e2
      exact se_chain ok hm (sndE a ok _ h1) (sndE b ok _ h2) (sndE c ok _ h3)
  | .chain3 o1 o2 o3 a b c d, X, S, ok, ex, h => by
    unfold chkE at h
    split at h
    all_goals first | (rename_i q; cases q; done) | (cases h; done) | skip
    · rename_i q
      cases q
      simp only [Bool.and_eq_true, decide_eq_true_eq, Bool.not_eq_true'] at h
      obtain ⟨⟨⟨⟨⟨⟨⟨e1, e2⟩, e3⟩, hm⟩, h1⟩, h2⟩, h3⟩, h4⟩ := h
      subst e1
      subst e2
      subst e3
      exact se_chain3 ok hm (sndE a ok _ h1) (sndE b ok _ h2) (sndE c ok _ h3) (sndE d ok _ h4)
  | .rng1V tp a, X, S, ok, ex, h => by
    unfold chkE at h
    split at h
    all_goals first | (rename_i q; cases q; done) | (cases h; done) | skip
    · rename_i q
      cases q
      simp only [Bool.and_eq_true, decide_eq_true_eq, Bool.not_eq_true'] at h
      obtain ⟨⟨⟨⟨⟨h1, h2⟩, h3⟩, h4⟩, h5⟩, h6⟩ := h
      exact se_rng1V ok h1 h2 h3 h4 h5 (sndE a ok _ h6)
  | .rng2V tp a b, X, S, ok, ex, h => by
    unfold chkE at h
    split at h
    all_goals first | (rename_i q; cases q; done) | (cases h; done) | skip
    · rename_i q
      cases q
      simp only [Bool.and_eq_true, decide_eq_true_eq, Bool.not_eq_true'] at h
      obtain ⟨⟨⟨⟨⟨⟨⟨h1, h2⟩, h3⟩, h4⟩, h5⟩, h6⟩, h7⟩, h8⟩ := h
      exact se_rng2V ok h1 h2 h3 h4 h5 h6 (sndE a ok _ h7) (sndE b ok _ h8)
  | .sls a lo hi st, X, S, ok, ex, h => by
    unfold chkE at h
    split at h
    all_goals first | (rename_i q; cases q; done) | (cases h; done) | skip
    · rename_i q
      cases q
      simp only [Bool.and_eq_true, decide_eq_true_eq, Bool.not_eq_true'] at h
      obtain ⟨⟨⟨h1, h2⟩, h3⟩, h4⟩ := h
      exact se_sls h1 (sndE a ok _ h2) (sndO lo ok _ h3) (sndO hi ok _ h4)
  | .meth m o es, X, S, ok, ex, h => by
    unfold chkE at h
    split at h
    all_goals first | (rename_i q; cases q; done) | (cases h; done) | skip
    · rename_i q
      cases q
      rw [Bool.and_eq_true, Bool.and_eq_true, Bool.and_eq_true, Bool.and_eq_true, Bool.and_eq_true] at h
      obtain ⟨⟨⟨⟨⟨h1, h2⟩, h3⟩, h4⟩, h5⟩, h6⟩ := h
      exact se_meth ok (of_decide_eq_true h1) h2 h3 (of_decide_eq_true h4) (chks_star h6) (sndE o ok _ h5) (snds es ok _ h6)
  | .cin neg a x kvs, X, S, ok, ex, h => by
    unfold chkE at h
    split at h
    all_goals first | (rename_i q; cases q; done) | (cases h; done) | skip
    · rename_i q
      cases q
      rw [Bool.and_eq_true, Bool.and_eq_true] at h
      exact se_cin ok (of_decide_eq_true h.1.1) h.1.2 (sndE a ok _ h.2)
  | .cix x kvs a, X, S, ok, ex, h => by
    unfold chkE at h
    split at h
    all_goals first | (rename_i q; cases q; done) | (cases h; done) | skip
    · rename_i q
      cases q
      rw [Bool.and_eq_true, Bool.and_eq_true] at h
      exact se_cix ok h.1.1 (ix_plain h.1.2) (sndE a ok _ h.2)
  | .andV a b, X, S, ok, ex, h => by
    unfold chkE at h
    split at h
    all_goals first | (rename_i q; cases q; done) | (cases h; done) | skip
    · rename_i q
      cases q
      simp only [Bool.and_eq_true, decide_eq_true_eq, Bool.not_eq_true'] at h
      exact se_andV (sndE a ok _ h.1) (sndE b ok _ h.2)
  | .orV a b, X, S, ok, ex, h => by
    unfold chkE at h
    split at h
    all_goals first | (rename_i q; cases q; done) | (cases h; done) | skip
    · rename_i q
      cases q
      simp only [Bool.and_eq_true, decide_eq_true_eq, Bool.not_eq_true'] at h
      exact se_orV (sndE a ok _ h.1) (sndE b ok _ h.2)
  | .oneV a, X, S, ok, ex, h => by
    unfold chkE at h
    split at h
    all_goals first | (rename_i q; cases q; done) | (cases h; done) | skip
    · rename_i q
      cases q
      exact se_oneV (sndE a ok _ h)
  | .notV a, X, S, ok, ex, h => by
    unfold chkE at h
    split at h
    all_goals first | (rename_i q; cases q; done) | (cases h; done) | skip
    · rename_i q
      cases q
      exact se_notV (sndE a ok _ h)
  | .ite t a b, X, S, ok, ex, h => by
    unfold chkE at h
    split at h
    all_goals first | (rename_i q; cases q; done) | (cases h; done) | skip
    · rename_i q
      cases q
      simp only [Bool.and_eq_true, decide_eq_true_eq, Bool.not_eq_true'] at h
      exact se_ite (sndT t ok _ h.1.1).1 (sndE a ok _ h.1.2) (sndE b ok _ h.2)
  | .tup es, X, S, ok, ex, h => by
    unfold chkE at h
    split at h
    all_goals first | (rename_i q; cases q; done) | (cases h; done) | skip
    · rename_i q
      cases q
      exact se_tup (snds es ok _ h)
  | .lst es, X, S, ok, ex, h => by
    unfold chkE at h
    split at h
    all_goals first | (rename_i q; cases q; done) | (cases h; done) | skip
    · rename_i q
      cases q
      exact se_lst (snds es ok _ h)
  | .ix a b, X, S, ok, ex, h => by
    unfold chkE at h
    split at h
    all_goals first | (rename_i q; cases q; done) | (cases h; done) | skip
    · rename_i q
      cases q
      simp only [Bool.and_eq_true, decide_eq_true_eq, Bool.not_eq_true'] at h
      exact se_ix (ix_plain h.1.1) (sndE a ok _ h.1.2) (sndE b ok _ h.2)
  | .sl a lo hi, X, S, ok, ex, h => by
    unfold chkE at h
    split at h
    all_goals first | (rename_i q; cases q; done) | (cases h; done) | skip
    · rename_i q
      cases q
      simp only [Bool.and_eq_true, decide_eq_true_eq, Bool.not_eq_true'] at h
      exact se_sl (sndE a ok _ h.1.1) (sndO lo ok _ h.1.2) (sndO hi ok _ h.2)
  | .isi a ts, X, S, ok, ex, h => by
    unfold chkE at h
    split at h
    all_goals first | (rename_i q; cases q; done) | (cases h; done) | skip
    · rename_i q
      cases q
      rw [Bool.and_eq_true, Bool.and_eq_true, Bool.and_eq_true, Bool.and_eq_true] at h
      obtain ⟨⟨⟨⟨h1, h2⟩, h3⟩, h4⟩, h5⟩ := h
      exact se_isi ok (of_decide_eq_true h1) h2 h3 (sndE a ok _ h4) h5
  | .bcall b es, X, S, ok, ex, h => by
    unfold chkE at h
    split at h
    all_goals first | (rename_i q; cases q; done) | (cases h; done) | skip
    · rename_i q
      cases q
      simp only [Bool.and_eq_true, decide_eq_true_eq, Bool.not_eq_true'] at h
      exact se_bi ok h.1.1 h.1.2 (chks_star h.2) (snds es ok _ h.2)
  | .fcall f es, X, S, ok, ex, h => by
    unfold chkE at h
    split at h
    all_goals first | (rename_i q; cases q; done) | (cases h; done) | skip
    · rename_i q
      cases q
      simp only [Bool.and_eq_true, decide_eq_true_eq, Bool.not_eq_true'] at h
      exact se_fcall ok h.1.1 h.1.2 (chks_star h.2) (fun z => nomatch z) (snds es ok _ h.2)
  | .fscr f es, X, S, ok, ex, h => by
    unfold chkE at h
    split at h
    all_goals first | (rename_i q; cases q; done) | (cases h; done) | skip
    · rename_i q
      cases q
      simp only [Bool.and_eq_true, decide_eq_true_eq, Bool.not_eq_true'] at h
      exact se_fscr ok h.1.1 h.1.2 (chks_star h.2) (fun z => nomatch z) (chks_ne h.2) (snds es ok _ h.2)
  | .fref f s es, X, S, ok, ex, h => by
    unfold chkE at h
    split at h
    all_goals first | (rename_i q; cases q; done) | (cases h; done) | skip
    · rename_i q
      cases q
      simp only [Bool.and_eq_true, decide_eq_true_eq, Bool.not_eq_true'] at h
      exact se_fref ok h.1.1.1 h.1.1.2 h.1.2 (chks_star h.2) (snds es ok _ h.2)
  | .mut m i es, X, S, ok, ex, h => by
    unfold chkE at h
    split at h
    all_goals first | (rename_i q; cases q; done) | (cases h; done) | skip
    · rename_i q
      cases q
      rw [Bool.and_eq_true, Bool.and_eq_true, Bool.and_eq_true, Bool.and_eq_true] at h
      obtain ⟨⟨⟨⟨h1, h2⟩, h3⟩, h4⟩, h5⟩ := h
      exact se_mut ok (of_decide_eq_true h1) h2 h3 (of_decide_eq_true h4) (chks_star h5) (fun z => by subst z; exact chks_nil h5) (snds es ok _ h5)
  | .lc own elt g it t, X, S, ok, ex, h => by
    unfold chkE at h
    split at h
    all_goals first | (rename_i q; cases q; done) | (cases h; done) | skip
    · rename_i q
      cases q
      rw [Bool.and_eq_true, Bool.and_eq_true, Bool.and_eq_true, Bool.and_eq_true, Bool.and_eq_true, Bool.and_eq_true] at h
      obtain ⟨⟨⟨⟨⟨⟨h1, h2⟩, h3⟩, h4⟩, h5⟩, h6⟩, h7⟩ := h
      exact se_lc ok h1 h4 h5 (sndI it ok _ _ h2 h3) (fun Y oY e => e ▸ sndC t oY _ h6) fun Y oY e => e ▸ sndE elt oY _ h7
  | .lc2 own elt g it t g1 it1 t1, X, S, ok, ex, h => by
    unfold chkE at h
    split at h
    all_goals first | (rename_i q; cases q; done) | (cases h; done) | skip
    · rename_i q
      cases q
      rw [Bool.and_eq_true, Bool.and_eq_true, Bool.and_eq_true, Bool.and_eq_true, Bool.and_eq_true, Bool.and_eq_true, Bool.and_eq_true, Bool.and_eq_true, Bool.and_eq_true, Bool.and_eq_true, Bool.and_eq_true, Bool.and_eq_true] at h
      obtain ⟨⟨⟨⟨⟨⟨⟨⟨⟨⟨⟨⟨h1, h2⟩, h3⟩, h4⟩, h5⟩, h6⟩, i2⟩, i3⟩, i4⟩, io⟩, i5⟩, i6⟩, h7⟩ := h
      exact se_lc2 ok h1 h4 i4 h5 i5 (fun j m => by simpa using List.all_eq_true.mp io j m) (sndI it ok _ _ h2 h3) (fun Y oY e => e ▸ sndC t oY _ h6) (fun Y oY e => e ▸ sndI it1 oY _ _ i2 i3) (fun Y oY e => e ▸ sndC t1 oY _ i6) fun Y oY e => e ▸ sndE elt oY _ h7
  | .dic ks vs, X, S, ok, ex, h => by
    unfold chkE at h
    cases h
  | .dc own k v g it t, X, S, ok, ex, h => by
    unfold chkE at h
    cases h
  | .sset b e, X, S, ok, ex, h => by
    unfold chkE at h
    cases h
  | .meth0 m o, X, S, ok, ex, h => by
    unfold chkE at h
    cases h
  | .fz i e, X, S, ok, ex, h => by
    unfold chkE at h
    exact se_fz (sndE e ok _ h)
theorem snds : ∀ (es : IEs) {X : Cx} {S : Sx} (ok : Ok X G S C) (xs : List Expr), chks G S es xs = true → PA X xs (tAs X.K C es)
  | .nil, X, S, ok, xs, h => by
    cases xs with
    | nil => exact sa_nil
    | cons x xs => simp [chks] at h
  | .cons e es, X, S, ok, xs, h => by
    cases xs with
    | nil => simp [chks] at h
    | cons x xs =>
      simp only [chks, Bool.and_eq_true] at h
      exact sa_cons h.1.1 (sndE e ok x h.1.2) (snds es ok xs h.2)
theorem sndO : ∀ (o : IO) {X : Cx} {S : Sx} (ok : Ok X G S C) (x : Option Expr), chkO G S o x = true → PO X x (tOs X.K C o)
  | .none, X, S, ok, x, h => by
    cases x with
    | none => exact so_none
    | some x => simp [chkO] at h
  | .some e, X, S, ok, x, h => by
    cases x with
    | none => simp [chkO] at h
    | some x =>
      simp only [chkO] at h
      exact so_some (sndE e ok x h)
theorem sndT : ∀ (t : IT) {X : Cx} {S : Sx} (ok : Ok X G S C) (ex : Expr), chkT G S t ex = true → PT X ex (tTt X.K C t) ∧ (isBool ex = true → PW X ex (tTt X.K C t))
  | .tru e, X, S, ok, ex, h => by
    unfold chkT at h
    simp only [Bool.and_eq_true] at h
    exact ⟨st_tru h.1 (sndE e ok _ h.2), fun z => by rw [notBool h.1] at z; cases z⟩
  | .cmp (.cmp op a b), X, S, ok, ex, h => by
    unfold chkT at h
    split at h
    all_goals first | (rename_i q; cases q; done) | (cases h; done) | skip
    · rename_i q
      cases q
      simp only [Bool.and_eq_true, decide_eq_true_eq, Bool.not_eq_true'] at h
      obtain ⟨⟨⟨e, hm⟩, h1⟩, h2⟩ := h
      subst e
      exact ⟨st_cmp ok hm (sndE a ok _ h1) (sndE b ok _ h2), fun z => nomatch z⟩
  | .cmp (.chain3 o1 o2 o3 a b c d), X, S, ok, ex, h => by
    unfold chkT at h
    split at h
    all_goals first | (rename_i q; cases q; done) | (cases h; done) | skip
    · rename_i q
      cases q
      simp only [Bool.and_eq_true, decide_eq_true_eq, Bool.not_eq_true'] at h
      obtain ⟨⟨⟨⟨⟨⟨⟨e1, e2⟩, e3⟩, hm⟩, h1⟩, h2⟩, h3⟩, h4⟩ := h
      subst e1
      subst e2
      subst e3
      exact ⟨st_chain3 ok hm (sndE a ok _ h1) (sndE b ok _ h2) (sndE c ok _ h3) (sndE d ok _ h4), fun z => nomatch z⟩
  | .cmp (.cin neg a x kvs), X, S, ok, ex, h => by
    unfold chkT at h
    split at h
    all_goals first | (rename_i q; cases q; done) | (cases h; done) | skip
    · rename_i q
      cases q
      rw [Bool.and_eq_true, Bool.and_eq_true] at h
      exact ⟨st_cin ok (of_decide_eq_true h.1.1) h.1.2 (sndE a ok _ h.2), fun z => nomatch z⟩
  | .cmp (.chain op op' a b c), X, S, ok, ex, h => by
    unfold chkT at h
    split at h
    all_goals first | (rename_i q; cases q; done) | (cases h; done) | skip
    · rename_i q
      cases q
      simp only [Bool.and_eq_true, decide_eq_true_eq, Bool.not_eq_true'] at h
      obtain ⟨⟨⟨⟨⟨e, e2⟩, hm⟩, h1⟩, h2⟩, h3⟩ := h
      subst e
      subst e2
      exact ⟨st_chain ok hm (sndE a ok _ h1) (sndE b ok _ h2) (sndE c ok _ h3), fun z => nomatch z⟩
  | .cmp (.var i), X, S, ok, ex, h => by
    unfold chkT at h
    cases h
  | .cmp (.mov i), X, S, ok, ex, h => by
    unfold chkT at h
    cases h
  | .cmp (.int i), X, S, ok, ex, h => by
    unfold chkT at h
    cases h
  | .cmp (.str x), X, S, ok, ex, h => by
    unfold chkT at h
    cases h
  | .cmp (.bl b), X, S, ok, ex, h => by
    unfold chkT at h
    cases h
  | .cmp (.non), X, S, ok, ex, h => by
    unfold chkT at h
    cases h
  | .cmp (.glob x d), X, S, ok, ex, h => by
    unfold chkT at h
    cases h
  | .cmp (.bin op a b), X, S, ok, ex, h => by
    unfold chkT at h
    cases h
  | .cmp (.neg a), X, S, ok, ex, h => by
    unfold chkT at h
    cases h
  | .cmp (.rng1V tp a), X, S, ok, ex, h => by
    unfold chkT at h
    cases h
  | .cmp (.rng2V tp a b), X, S, ok, ex, h => by
    unfold chkT at h
    cases h
  | .cmp (.sls a lo hi st), X, S, ok, ex, h => by
    unfold chkT at h
    cases h
  | .cmp (.meth m o es), X, S, ok, ex, h => by
    unfold chkT at h
    cases h
  | .cmp (.cix x kvs a), X, S, ok, ex, h => by
    unfold chkT at h
    cases h
  | .cmp (.andV a b), X, S, ok, ex, h => by
    unfold chkT at h
    cases h
  | .cmp (.orV a b), X, S, ok, ex, h => by
    unfold chkT at h
    cases h
  | .cmp (.oneV a), X, S, ok, ex, h => by
    unfold chkT at h
    cases h
  | .cmp (.notV a), X, S, ok, ex, h => by
    unfold chkT at h
    cases h
  | .cmp (.ite t a b), X, S, ok, ex, h => by
    unfold chkT at h
    cases h
  | .cmp (.tup es), X, S, ok, ex, h => by
    unfold chkT at h
    cases h
  | .cmp (.lst es), X, S, ok, ex, h => by
    unfold chkT at h
    cases h
  | .cmp (.ix a b), X, S, ok, ex, h => by
    unfold chkT at h
    cases h
  | .cmp (.sl a lo hi), X, S, ok, ex, h => by
    unfold chkT at h
    cases h
  | .cmp (.isi a ts), X, S, ok, ex, h => by
    unfold chkT at h
    cases h
  | .cmp (.bcall b es), X, S, ok, ex, h => by
    unfold chkT at h
    cases h
  | .cmp (.fcall f es), X, S, ok, ex, h => by
    unfold chkT at h
    cases h
  | .cmp (.fscr f es), X, S, ok, ex, h => by
    unfold chkT at h
    cases h
  | .cmp (.fref f s es), X, S, ok, ex, h => by
    unfold chkT at h
    cases h
  | .cmp (.mut m i es), X, S, ok, ex, h => by
    unfold chkT at h
    cases h
  | .cmp (.lc own elt g it t), X, S, ok, ex, h => by
    unfold chkT at h
    cases h
  | .cmp (.lc2 own elt g it t g1 it1 t1), X, S, ok, ex, h => by
    unfold chkT at h
    cases h
  | .cmp (.dic ks vs), X, S, ok, ex, h => by
    unfold chkT at h
    cases h
  | .cmp (.dc own k v g it t), X, S, ok, ex, h => by
    unfold chkT at h
    cases h
  | .cmp (.sset b e), X, S, ok, ex, h => by
    unfold chkT at h
    cases h
  | .cmp (.meth0 m o), X, S, ok, ex, h => by
    unfold chkT at h
    cases h
  | .cmp (.fz i e), X, S, ok, ex, h => by
    unfold chkT at h
    cases h
  | .and a b, X, S, ok, ex, h => by
    unfold chkT at h
    split at h
    all_goals first | (rename_i q; cases q; done) | (cases h; done) | skip
    · rename_i q
      cases q
      simp only [Bool.and_eq_true] at h
      have w := st_and (sndT a ok _ h.1).1 ((sndT b ok _ h.2).2 rfl)
      exact ⟨w.pt, fun _ => w⟩
  | .or a b, X, S, ok, ex, h => by
    unfold chkT at h
    split at h
    all_goals first | (rename_i q; cases q; done) | (cases h; done) | skip
    · rename_i q
      cases q
      simp only [Bool.and_eq_true] at h
      have w := st_or (sndT a ok _ h.1).1 ((sndT b ok _ h.2).2 rfl)
      exact ⟨w.pt, fun _ => w⟩
  | .one a, X, S, ok, ex, h => by
    unfold chkT at h
    split at h
    all_goals first | (rename_i q; cases q; done) | (cases h; done) | skip
    · rename_i q
      cases q
      exact ⟨(st_one (sndT a ok _ h).1).pt, fun _ => st_one (sndT a ok _ h).1⟩
  | .not a, X, S, ok, ex, h => by
    unfold chkT at h
    split at h
    all_goals first | (rename_i q; cases q; done) | (cases h; done) | skip
    · rename_i q
      cases q
      exact ⟨st_not (sndT a ok _ h).1, fun z => nomatch z⟩
theorem sndC : ∀ (t : IC) {X : Cx} {S : Sx} (ok : Ok X G S C) (xs : List Expr), chkC G S t xs = true → PTs X xs (tCt X.K C t)
  | .yes, X, S, ok, xs, h => by
    cases xs with
    | nil => exact sc_yes
    | cons x xs => simp [chkC] at h
  | .one t, X, S, ok, xs, h => by
    rcases xs with _ | ⟨x, _ | ⟨y, r⟩⟩
    · simp [chkC] at h
    · simp only [chkC] at h
      exact sc_one (sndT t ok x h).1
    · simp [chkC] at h
theorem sndI : ∀ (it : II) {X : Cx} {S : Sx} (ok : Ok X G S C) (ex tg : Expr), chkI G S it ex = true → tgI it tg = true → PI X tg ex (tIt X.K C it)
  | .seq e, X, S, ok, ex, tg, h, _ => by
    unfold chkI at h
    exact si_seq (sndE e ok _ h)
  | .rng1 a, X, S, ok, ex, tg, h, _ => by
    unfold chkI at h
    split at h
    all_goals first | (rename_i q; cases q; done) | (cases h; done) | skip
    · rename_i q
      cases q
      simp only [Bool.and_eq_true, decide_eq_true_eq] at h
      exact si_rng1 ok h.1.1.1 h.1.1.2 h.1.2 (sndE a ok _ h.2)
  | .rng2 a b, X, S, ok, ex, tg, h, _ => by
    unfold chkI at h
    split at h
    all_goals first | (rename_i q; cases q; done) | (cases h; done) | skip
    · rename_i q
      cases q
      simp only [Bool.and_eq_true, decide_eq_true_eq] at h
      obtain ⟨⟨⟨⟨⟨h1, h2⟩, h3⟩, h4⟩, h5⟩, h6⟩ := h
      exact si_rng2 ok h1 h2 h3 h4 (sndE a ok _ h5) (sndE b ok _ h6)
  | .enum a, X, S, ok, ex, tg, h, ht => by
    obtain ⟨es, k, p, rfl⟩ : ∃ es k p, tg = .Tuple es k p := by
      cases tg with
      | Tuple es k p => exact ⟨es, k, p, rfl⟩
      | _ => simp [tgI] at ht
    unfold chkI at h
    split at h
    all_goals first | (rename_i q; cases q; done) | (cases h; done) | skip
    · rename_i q
      cases q
      simp only [Bool.and_eq_true, decide_eq_true_eq] at h
      exact si_enum ok h.1.1.1 h.1.1.2 h.1.2 (sndE a ok _ h.2)
  | .zip a b, X, S, ok, ex, tg, h, ht => by
    obtain ⟨es, k, p, rfl⟩ : ∃ es k p, tg = .Tuple es k p := by
      cases tg with
      | Tuple es k p => exact ⟨es, k, p, rfl⟩
      | _ => simp [tgI] at ht
    unfold chkI at h
    split at h
    all_goals first | (rename_i q; cases q; done) | (cases h; done) | skip
    · rename_i q
      cases q
      simp only [Bool.and_eq_true, decide_eq_true_eq] at h
      obtain ⟨⟨⟨⟨⟨h1, h2⟩, h3⟩, h4⟩, h5⟩, h6⟩ := h
      exact si_zip ok h1 h2 h3 h4 (sndE a ok _ h5) (sndE b ok _ h6)
  | .ezip a b, X, S, ok, ex, tg, h, ht => by
    obtain ⟨es, k, p, rfl⟩ : ∃ es k p, tg = .Tuple es k p := by
      cases tg with
      | Tuple es k p => exact ⟨es, k, p, rfl⟩
      | _ => simp [tgI] at ht
    unfold chkI at h
    split at h
    all_goals first | (rename_i q; cases q; done) | (cases h; done) | skip
    · rename_i q
      cases q
      simp only [Bool.and_eq_true, decide_eq_true_eq] at h
      obtain ⟨⟨⟨⟨⟨⟨⟨g1, g2⟩, h1⟩, h2⟩, h3⟩, h4⟩, h5⟩, h6⟩ := h
      exact si_ezip ok g1 g2 h1 h2 h3 h4 (sndE a ok _ h5) (sndE b ok _ h6)
  | .zip3 a b c, X, S, ok, ex, tg, h, ht => by
    obtain ⟨es, k, p, rfl⟩ : ∃ es k p, tg = .Tuple es k p := by
      cases tg with
      | Tuple es k p => exact ⟨es, k, p, rfl⟩
      | _ => simp [tgI] at ht
    unfold chkI at h
    split at h
    all_goals first | (rename_i q; cases q; done) | (cases h; done) | skip
    · rename_i q
      cases q
      simp only [Bool.and_eq_true, decide_eq_true_eq] at h
      obtain ⟨⟨⟨⟨⟨⟨⟨h1, h2⟩, h3⟩, h4⟩, g4⟩, h5⟩, h6⟩, h7⟩ := h
      exact si_zip3 ok h1 h2 h3 h4 g4 (sndE a ok _ h5) (sndE b ok _ h6) (sndE c ok _ h7)
end
end
end Zr

set_option maxRecDepth 100000
set_option maxHeartbeats 8000000
/-! ZrQ: statements. -/
namespace Zr
open PySem PySem.Spec PyProof.Rows L2

section
variable {K : Fr'} {H H0 H' H1 H2 H3 : Hp} {ρ ρ0 ρ' ρ1 ρ2 : List Slot} {σ σ' σ0 σ1 σ2 : L2.St} {F F0 F' F1 F2 : Fa} {Z Z0 Z' Z1 Z2 : Addr → Prop} {E E1 E2 A A1 A2 : List Nat}
/-- the values of the slots outside A stay -/
def SQ (A : List Nat) (σ σ' : L2.St) : Prop := ∀ j : Nat, j ∉ A → σ'[j]? = σ[j]?
theorem SQ.refl : SQ A σ σ := fun _ _ => rfl
theorem SQ.trans (a : SQ A σ σ1) (b : SQ A σ1 σ2) : SQ A σ σ2 := fun j hj => (b j hj).trans (a j hj)
theorem SQ.more (a : SQ A1 σ σ1) (h : ∀ j ∈ A1, j ∈ A) : SQ A σ σ1 := fun j hj => a j fun z => hj (h j z)
/-- what is promised at the end of a statement -/
def Fin' (E A : List Nat) (K : Fr') (H : Hp) (ρ : List Slot) (F : Fa) (Z : Addr → Prop) (σ : L2.St) (D : Ends) : Out → Prop
  | .nx ρ' => ∀ σ' H' F' Z', Step E H ρ F Z H' ρ' F' Z' → W K H' ρ' σ' F' Z' → SQ A σ σ' → D.nx σ' H'
  | .rt d ρ' => ∀ v σ' H' F' Z', Step E H ρ F Z H' ρ' F' Z' → W K H' ρ' σ' F' Z' → SQ A σ σ' → VR E K H F H' ρ' σ' F' Z' v d .fresh → D.rt v H'
def tX (K : Fr') (f : Ro → Option Out) (E A : List Nat) : TS := fun D σ H => ∃ ρ F Z o, W K H ρ σ F Z ∧ f ρ = some o ∧ Fin' E A K H ρ F Z σ D o
/-- from a later base -/
theorem Fin'.step {D : Ends} {o : Out} (h : Fin' E A K H ρ F Z σ D o) (s : Step E1 H ρ F Z H1 ρ1 F1 Z1) (q : SQ A1 σ σ1) (h1 : ∀ j ∈ E1, j ∈ E) (h2 : ∀ j ∈ E2, j ∈ E) (h3 : ∀ j ∈ A1, j ∈ A) (h4 : ∀ j ∈ A2, j ∈ A) : Fin' E2 A2 K H1 ρ1 F1 Z1 σ1 D o := by
  cases o with
  | nx ρ' => exact fun σ' H' F' Z' t w sq => h σ' H' F' Z' (s.seq t h1 h2) w ((q.more h3).trans (sq.more h4))
  | rt d ρ' => exact fun v σ' H' F' Z' t w sq r => h v σ' H' F' Z' (s.seq t h1 h2) w ((q.more h3).trans (sq.more h4)) ((VR.back s r).more fun j m => (List.mem_append.mp m).elim (h1 j) (h2 j))
/-- another end where it goes on -/
theorem Fin'.rt {D : Ends} {d : PyData} {ρ' : Ro} {N : L2.St → Hp → Prop} {N2 N3 : L2.St → Hp → Prop} (h : Fin' E A K H ρ F Z σ D (.rt d ρ')) : Fin' E A K H ρ F Z σ ⟨N, D.rt, N2, N3⟩ (.rt d ρ') := h
end
theorem _root_.L2.PS.of {X : Cx} {s : Stmt} {t t' : TS} (h : PS X s t) (k : ∀ D σ H, t' D σ H → t D σ H) : PS X s t' := ⟨fun pins s σ H D I q => h.run pins s σ H D I (k D σ H q)⟩
theorem _root_.L2.PSs.of {X : Cx} {s : List Stmt} {t t' : TS} (h : PSs X s t) (k : ∀ D σ H, t' D σ H → t D σ H) : PSs X s t' := ⟨fun pins s σ H D I q => h.run pins s σ H D I (k D σ H q)⟩
section
variable {X : Cx} {G : Gx} {S : Sx} {C : CallF}
theorem ss_nil : PSs X [] (tX X.K (execs C .nil) (effSs .nil) (asSs .nil)) := pss_nil.of fun D σ H ⟨ρ, F, Z, o, w, he, k⟩ => by
  simp only [execs] at he
  cases he
  exact k σ H F Z .refl w .refl
theorem ss_cons {s : IS} {ss : ISs} {st : Stmt} {sts : List Stmt} (h1 : PS X st (tX X.K (exec C s) (effS s) (asS s))) (h2 : PSs X sts (tX X.K (execs C ss) (effSs ss) (asSs ss))) : PSs X (st :: sts) (tX X.K (execs C (.cons s ss)) (effSs (.cons s ss)) (asSs (.cons s ss))) := (pss_cons h1 h2).of fun D σ H ⟨ρ, F, Z, o, w, he, k⟩ => by
  simp only [execs] at he
  split at he
  · rename_i ρ1 ea
    exact ⟨ρ, F, Z, _, w, ea, fun σ' H' F' Z' s1 w1 q1 => ⟨ρ1, F', Z', o, w1, he, k.step s1 q1 (fun _ => ml) (fun _ => mr) (fun _ => ml) (fun _ => mr)⟩⟩
  · rename_i nn
    cases o with
    | nx ρ' => exact absurd he (nn ρ')
    | rt d ρ' => exact ⟨ρ, F, Z, _, w, he, k.step (E2 := effS s) (A2 := asS s) (E1 := []) (A1 := []) .refl .refl (fun _ m => (nomatch m)) (fun _ => ml) (fun _ m => (nomatch m)) (fun _ => ml)⟩
theorem ss_pass {p : Pos} : PS X (.Pass p) (tX X.K (exec C .pass) (effS .pass) (asS .pass)) := ps_pass.of fun D σ H ⟨ρ, F, Z, o, w, he, k⟩ => by
  simp only [exec] at he
  cases he
  exact k σ H F Z .refl w .refl
theorem ss_doc {x : Str} {j : Nat} {p p' : Pos} : PS X (.Expr (.Constant (.str x) j p) p') (tX X.K (exec C .pass) (effS .pass) (asS .pass)) := ps_doc.of fun D σ H ⟨ρ, F, Z, o, w, he, k⟩ => by
  simp only [exec] at he
  cases he
  exact k σ H F Z .refl w .refl
theorem ss_never {st : Stmt} : PS X st (tX X.K (exec C .never) (effS .never) (asS .never)) := ⟨fun pins s σ H D I ⟨ρ, F, Z, o, w, he, k⟩ => by
  simp only [exec] at he
  cases he⟩
theorem ss_expr {e : IE} {x : Expr} {p : Pos} (hx : notComp x = true) (ha : PE X x (tE X.K C e)) : PS X (.Expr x p) (tX X.K (exec C (.expr e)) (effS (.expr e)) (asS (.expr e))) := by
  refine (ps_expr ha (by cases x <;> first | rfl | cases hx)).of fun D σ H ⟨ρ, F, Z, o, w, he, k⟩ => ?_
  simp only [exec] at he
  split at he
  · rename_i d st ρ1 ea
    cases he
    exact ⟨ρ, F, Z, d, st, _, w, ea, fun v H1 F1 Z1 s1 w1 r1 => k σ H1 F1 Z1 s1 w1 .refl⟩
  · cases he
theorem ss_ret {e : IE} {x : Expr} {p : Pos} (ha : PE X x (tE X.K C e)) : PS X (.Return (some x) p) (tX X.K (exec C (.ret e)) (effS (.ret e)) (asS (.ret e))) := by
  refine (ps_ret ha).of fun D σ H ⟨ρ, F, Z, o, w, he, k⟩ => ?_
  simp only [exec] at he
  split at he
  · rename_i d st ρ1 ea
    split at he
    · rename_i ρ2 es
      cases he
      refine ⟨ρ, F, Z, d, st, _, w, ea, fun v H1 F1 Z1 s1 w1 r1 => ?_⟩
      obtain ⟨B, hb, fb⟩ := r1
      obtain ⟨F2, B2, w2, s2, ho, o2, n2, _, _⟩ := settle_ok w1 hb.vc fb.toOff es
      refine k v σ H1 F2 Z1 (s1.seq s2 (fun _ => ml) fun j m => mr (tk_of C e ea j m)) w2 .refl ⟨B2, ho, o2.fl fun a m => ?_⟩
      rcases n2 a m with m | ⟨i, hi, m⟩
      · exact (fb.new a m).imp (fun ⟨i, hi, q⟩ => ⟨i, ml hi, q⟩) id
      · rcases s1.own i a m with z | ⟨k, hk, z⟩ | z
        · exact .inl ⟨i, mr (tk_of C e ea i hi), z⟩
        · exact .inl ⟨k, ml hk, z⟩
        · exact .inr z
    · cases he
  · cases he
theorem ss_retN {p : Pos} : PS X (.Return none p) (tX X.K (exec C .retN) (effS .retN) (asS .retN)) := ps_retN.of fun D σ H ⟨ρ, F, Z, o, w, he, k⟩ => by
  simp only [exec] at he
  cases he
  exact k .non σ H F Z .refl w .refl (VR.pure (b := true) (P := fun _ => True) rfl .non)
theorem ss_if {t : IT} {a b : ISs} {c : Expr} {sa sb : List Stmt} {p : Pos} (hc : PT X c (tTt X.K C t)) (ha : PSs X sa (tX X.K (execs C a) (effSs a) (asSs a))) (hb : PSs X sb (tX X.K (execs C b) (effSs b) (asSs b))) :
    PS X (.If c sa sb p) (tX X.K (exec C (.ifs t a b)) (effS (.ifs t a b)) (asS (.ifs t a b))) := by
  refine (ps_if hc ha hb).of fun D σ H ⟨ρ, F, Z, o, w, he, k⟩ => ?_
  simp only [exec] at he
  split at he
  · rename_i q ρ1 ea
    refine ⟨ρ, F, Z, q, ρ1, w, ea, fun H1 F1 Z1 s1 w1 => ?_⟩
    cases q with
    | true =>
      refine iteT ⟨ρ1, F1, Z1, o, w1, by simpa using he, ?_⟩
      exact k.step (A1 := []) s1 .refl (fun _ => ml) (fun _ m => mr (ml m)) (fun _ m => (nomatch m)) fun _ => ml
    | false =>
      refine iteF ⟨ρ1, F1, Z1, o, w1, by simpa using he, ?_⟩
      exact k.step (A1 := []) s1 .refl (fun _ => ml) (fun _ m => mr (mr m)) (fun _ m => (nomatch m)) fun _ => mr
  · cases he
theorem ss_while {t : IT} {b : ISs} {c : Expr} {sb : List Stmt} {p : Pos} (hp : PassesOwn (model X.prog X.w) X.A X.env X.xe) (hc : PT X c (tTt X.K C t)) (hb : PSs X sb (tX X.K (execs C b) (effSs b) (asSs b))) :
    PS X (.While c sb [] p) (tX X.K (exec C (.whl t b)) (effS (.whl t b)) (asS (.whl t b))) := by
  refine (ps_while hp hc hb).of fun D σ H ⟨ρ, F, Z, o, w, he, k⟩ => ?_
  simp only [exec] at he
  refine ⟨fun m σ H => ∃ ρ F Z, W X.K H ρ σ F Z ∧ whGo (evT C t) (execs C b) m ρ = some o ∧ Fin' (effS (.whl t b)) (asS (.whl t b)) X.K H ρ F Z σ D o, ⟨wf, ρ, F, Z, w, he, k⟩, ?_⟩
  rintro m σ H ⟨ρ, F, Z, w, he, k⟩
  cases m with
  | zero =>
    simp only [whGo] at he
    cases he
  | succ m =>
    simp only [whGo] at he
    split at he
    · rename_i ρ1 ea
      refine ⟨ρ, F, Z, true, ρ1, w, ea, fun H1 F1 Z1 s1 w1 => ?_⟩
      refine iteT ?_
      refine ⟨fun σ' H' => ∃ ρ F Z, W X.K H' ρ σ' F Z ∧ whGo (evT C t) (execs C b) m ρ = some o ∧ Fin' (effS (.whl t b)) (asS (.whl t b)) X.K H' ρ F Z σ' D o, fun σ' H' h => ⟨m, Nat.lt_succ_self m, h⟩, ?_⟩
      have k1 : Fin' (effS (.whl t b)) (asS (.whl t b)) X.K H1 ρ1 F1 Z1 σ D o := k.step (A1 := []) s1 .refl (fun _ => ml) (fun _ m => m) (fun _ m => (nomatch m)) fun _ m => m
      split at he
      · rename_i ρ2 eb
        exact ⟨ρ1, F1, Z1, _, w1, eb, fun σ2 H2 F2 Z2 s2 w2 q2 => ⟨ρ2, F2, Z2, w2, he, k1.step s2 q2 (fun _ => mr) (fun _ m => m) (fun _ m => m) fun _ m => m⟩⟩
      · rename_i nn
        cases o with
        | nx ρ' => exact absurd he (nn ρ')
        | rt d ρ' =>
          exact ⟨ρ1, F1, Z1, _, w1, he, k1.step (E2 := effSs b) (A2 := asSs b) (E1 := []) (A1 := []) .refl .refl (fun _ m => (nomatch m)) (fun _ => mr) (fun _ m => (nomatch m)) fun _ m => m⟩
    · rename_i ρ1 ea
      cases he
      exact ⟨ρ, F, Z, false, ρ1, w, ea, fun H1 F1 Z1 s1 w1 => iteF (k σ H1 F1 Z1 (s1.more fun _ => ml) w1 .refl)⟩
    · cases he
theorem ss_for (ok : Ok X G S C) {g : IG} {it : II} {b : ISs} {tg ie : Expr} {sb : List Stmt} {p : Pos} (hp : PassesOwn (model X.prog X.w) X.A X.env X.xe) (hset : notSet ie = true) (hi : PI X tg ie (tIt X.K C it)) (hg : PG X tg (tGt X.K g)) (hb : PSs X sb (tX X.K (execs C b) (effSs b) (asSs b))) :
    PS X (.For tg ie sb [] p) (tX X.K (exec C (.for g it b)) (effS (.for g it b)) (asS (.for g it b))) := by
  refine (ps_for hp ok.calm hi hg hb (fold_of hset)).of fun D σ H ⟨ρ, F, Z, o, w, he, k⟩ => ?_
  simp only [exec] at he
  split at he
  · rename_i xs sts ρ1 ei
    split at he
    · rename_i c1
      refine ⟨ρ, F, Z, xs, sts, ρ1, w, ei, fun J H1 F1 Z1 s1 w1 itr => ?_⟩
      have itr := itr _ c1
      obtain ⟨turn, hturn, he⟩ : ∃ turn : PyData → Ro → Option Out, (∀ x ρ, turn x ρ = (bindV g x .froz ρ).bind (execs C b)) ∧ forGo turn xs ρ1 = some o := ⟨_, fun x ρ => by cases bindV g x .froz ρ <;> rfl, he⟩
      have k1 : Fin' (effS (.for g it b)) (asS (.for g it b)) X.K H1 ρ1 F1 Z1 σ D o := k.step (A1 := []) s1 .refl (fun _ => ml) (fun _ m => m) (fun _ m => (nomatch m)) fun _ m => m
      refine ⟨fun i m σ2 H2 => m = xs.length - i ∧ i ≤ xs.length ∧ ∃ ρ2 F2 Z2, Step (g.slots ++ effSs b) H1 ρ1 F1 Z1 H2 ρ2 F2 Z2 ∧ W X.K H2 ρ2 σ2 F2 Z2 ∧ SQ (g.slots ++ asSs b) σ σ2 ∧ forGo turn (xs.drop i) ρ2 = some o, ⟨xs.length, by simp, Nat.zero_le _, ρ1, F1, Z1, .refl, w1, .refl, by simpa using he⟩, ?_⟩
      rintro i m σ2 H2 ⟨rfl, hi, ρ2, F2, Z2, s2, w2, q2, he⟩
      obtain ⟨i1, i2, i3⟩ := itr H1 H2 ρ2 F2 Z2 σ2 .refl s2 w2
      by_cases hlt : i < xs.length
      · have ed : xs.drop i = xs[i] :: xs.drop (i + 1) := List.drop_eq_getElem_cons hlt
        rw [ed] at he
        unfold forGo at he
        rw [hturn] at he
        refine .inr ⟨i1 i hlt, fun σ' H' => ∃ ρ2 F2 Z2, Step (g.slots ++ effSs b) H1 ρ1 F1 Z1 H' ρ2 F2 Z2 ∧ W X.K H' ρ2 σ' F2 Z2 ∧ SQ (g.slots ++ asSs b) σ σ' ∧ forGo turn (xs.drop (i + 1)) ρ2 = some o, fun σ' H' h => ⟨xs.length - (i + 1), by omega, rfl, hlt, h⟩, fun x H3 y => ?_⟩
        obtain ⟨ex, d, hd, hbor⟩ := i3 i x H3 hlt y
        rw [List.getElem?_eq_getElem hlt] at hd
        cases hd
        obtain ⟨w3, s3⟩ := w2.ext ex
        have s3' := s2.seq s3 (fun _ m => m) fun _ m => (nomatch m)
        cases eb : bindV g xs[i] .froz ρ2 with
        | none =>
          rw [eb] at he
          cases he
        | some ρa =>
          rw [eb] at he
          simp only [Option.bind_some] at he
          refine ⟨g.slots, H3, ρ2, F2, Z2, ρ2, F2, Z2, _, .froz, ρa, [], .refl, w3, fun _ m => m, eb, ⟨rfl, hbor⟩, fun σ4 F4 s4 w4 sm f4 => ?_⟩
          have s5 := s3'.seq s4 (fun _ m => m) fun _ => ml
          have q4 : SQ (g.slots ++ asSs b) σ σ4 := q2.trans (SQ.more (A1 := g.slots) sm.off fun _ => ml)
          have k4 : Fin' (effS (.for g it b)) (asS (.for g it b)) X.K H3 ρa F4 Z2 σ4 D o := k1.step s5 q4 (fun _ => mr) (fun _ m => m) (fun _ m => m) fun _ m => m
          split at he
          · rename_i ρ5 ec
            exact ⟨ρa, F4, Z2, _, w4, ec, fun σ6 H6 F6 Z6 s6 w6 q6 => ⟨ρ5, F6, Z6, s5.seq s6 (fun _ m => m) (fun _ => mr), w6, q4.trans (q6.more fun _ => mr), he⟩⟩
          · rename_i nn
            cases o with
            | nx ρ' => exact absurd he (nn ρ')
            | rt d ρ' =>
              exact ⟨ρa, F4, Z2, _, w4, he, k4.step (E2 := effSs b) (A2 := asSs b) (E1 := []) (A1 := []) .refl .refl (fun _ m => (nomatch m)) (fun _ m => mr (mr m)) (fun _ m => (nomatch m)) fun _ => mr⟩
      · have ei : i = xs.length := by omega
        subst ei
        rw [List.drop_length] at he
        unfold forGo at he
        cases he
        exact .inl ⟨i2, k1 σ2 H2 F2 Z2 (s2.more fun _ => mr) w2 q2⟩
    · cases he
  · cases he
end
end Zr

set_option maxRecDepth 100000
set_option maxHeartbeats 8000000
/-! ZrR: assignments. -/
namespace Zr
open PySem PySem.Spec PyProof.Rows L2

section
variable {K : Fr'} {C : CallF} {H H0 H' H1 H2 H3 : Hp} {ρ ρ0 ρ' ρ1 ρ2 : List Slot} {σ σ' σ0 σ1 σ2 : L2.St} {F F0 F' F1 F2 : Fa} {Z Z0 Z' Z1 Z2 : Addr → Prop} {E E1 E2 A A1 A2 : List Nat}
/-- one value is taken behind the step that made it -/
theorem take_one {e : IE} {d : D} {st : Stat} {v : V} (ea : ev C e ρ = some (d, st, ρ1)) (s1 : Step (effE e) H ρ F Z H1 ρ1 F1 Z1) (w1 : W K H1 ρ1 σ F1 Z1) (r1 : VR (effE e) K H F H1 ρ1 σ F1 Z1 v d st) (es : settle d st ρ1 = some ρ2) (h1 : ∀ j ∈ effE e, j ∈ E) (h2 : ∀ j ∈ tkE e, j ∈ E) :
    ∃ F2 B, W K H1 ρ2 σ F2 Z1 ∧ Step E H ρ F Z H1 ρ2 F2 Z1 ∧ Own K H1 v d B ∧ Fl E H F F2 Z1 B := by
  obtain ⟨B, hb, fb⟩ := r1
  obtain ⟨F2, B2, w2, s2, ho, o2, n2, _, _⟩ := settle_ok w1 hb.vc fb.toOff es
  refine ⟨F2, B2, w2, s1.seq s2 h1 (fun j m => h2 j (tk_of C e ea j m)), ho, o2.fl fun a m => ?_⟩
  rcases n2 a m with m | ⟨i, hi, m⟩
  · exact (fb.new a m).imp (fun ⟨i, hi, q⟩ => ⟨i, h1 i hi, q⟩) id
  · rcases s1.own i a m with z | ⟨k, hk, z⟩ | z
    · exact .inl ⟨i, h2 i (tk_of C e ea i hi), z⟩
    · exact .inl ⟨k, h1 k hk, z⟩
    · exact .inr z
theorem settleA_cases {d : D} {st s' : Stat} (h : settleA d st ρ = some (s', ρ2)) : (st = .froz ∧ s' = .froz ∧ ρ2 = ρ) ∨ (s' = .fresh ∧ settle d st ρ = some ρ2) := by
  cases st with
  | froz =>
    simp only [settleA] at h
    cases h
    exact .inl ⟨rfl, rfl, rfl⟩
  | _ =>
    simp only [settleA, Option.map_eq_some_iff] at h
    obtain ⟨r, h1, h2⟩ := h
    cases h2
    exact .inr ⟨rfl, h1⟩
theorem take_inf {e : IE} {d : D} {st s' : Stat} {v : V} (ea : ev C e ρ = some (d, st, ρ1)) (s1 : Step (effE e) H ρ F Z H1 ρ1 F1 Z1) (w1 : W K H1 ρ1 σ F1 Z1) (r1 : VR (effE e) K H F H1 ρ1 σ F1 Z1 v d st) (es : settleA d st ρ1 = some (s', ρ2)) (h1 : ∀ j ∈ effE e, j ∈ E) (h2 : ∀ j ∈ tkE e, j ∈ E) :
    ∃ F2 B, W K H1 ρ2 σ F2 Z1 ∧ Step E H ρ F Z H1 ρ2 F2 Z1 ∧ InF E K H F H1 F2 Z1 v d B s' := by
  rcases settleA_cases es with ⟨rfl, rfl, rfl⟩ | ⟨rfl, es2⟩
  · obtain ⟨B, hb, fb⟩ := r1
    exact ⟨F1, [], w1, s1.more h1, rfl, hb.2⟩
  · obtain ⟨F2, B, w2, s2, ho, fl⟩ := take_one ea s1 w1 r1 es2 h1 h2
    exact ⟨F2, B, w2, s2, ho, fl⟩
end
section
variable {X : Cx} {G : Gx} {S : Sx} {C : CallF}
/-- a store: the reading from what the target asks -/
theorem asg_to {e : IE} {g : IG} {D : Ends} {σ : L2.St} {H : Hp} (h : tX X.K (exec C (.asg g e)) (effS (.asg g e)) (asS (.asg g e)) D σ H) : tE X.K C e σ H fun x H1 => tGt X.K g x σ H1 D.nx := by
  obtain ⟨ρ, F, Z, o, w, he, k⟩ := h
  simp only [exec] at he
  split at he
  · rename_i d st ρ1 ea
    split at he
    · rename_i s' ρ2 es
      split at he
      · rename_i ρ3 eb
        cases he
        refine ⟨ρ, F, Z, d, st, ρ1, w, ea, fun v H1 F1 Z1 s1 w1 r1 => ?_⟩
        obtain ⟨F2, B, w2, s2, hin⟩ := take_inf (E := effS (.asg g e)) ea s1 w1 r1 es (fun _ => ml) (fun _ m => mr (ml m))
        exact ⟨effS (.asg g e), H, ρ, F, Z, ρ2, F2, Z1, d, s', ρ3, B, s2, w2, fun j m => mr (mr m), eb, hin, fun σ' F' s3 w3 sm f3 => k σ' H1 F' Z1 s3 w3 sm.off⟩
      · cases he
    · cases he
  · cases he
def swNames (sc : Scope) (ts : List Expr) : List Str := ts.filterMap fun
  | .Name id pos => if sc.names.lookup id == some .local && pos.line == (ts.head?.map (·.pos.line)).getD 0 then some id else none
  | _ => none
def isStar : Expr → Bool
  | .Starred _ _ => true
  | _ => false
def swNone (sc : Scope) (tg ex : Expr) : Bool := match tg, ex with
  | .Tuple ts _ _, .Tuple vs _ _ => !(ts.length == 2 || ts.length == 3) || vs.length != ts.length || (swNames sc ts).length != ts.length || vs.all (foldedForSure 8)
  | .List _ _, .Tuple _ _ _ => false
  | _, _ => true
theorem sw_none (ok : Ok X G S C) {tg ex : Expr} (h : swNone S.sc tg ex = true) : swappedStores [tg] ex X.env = pure none := by
  cases ex with
  | Tuple vs k2 p2 =>
    cases tg with
    | Tuple ts k p =>
      simp only [swNone, Bool.or_eq_true] at h
      unfold swappedStores
      simp only
      split
      · rfl
      · rename_i c1
        split
        · rfl
        · have en : (ts.filterMap fun
            | .Name id pos => if X.env.kindOf id == some .local && pos.line == (ts.head?.map (·.pos.line)).getD 0 then some id else none
            | _ => none) = swNames S.sc ts := by
            unfold swNames Env.kindOf
            rw [ok.sc]
          rcases h with (h | h) | h
          · exact absurd (by rw [Bool.or_eq_true]; exact .inl (by rw [Bool.or_eq_true]; exact h)) c1
          · rw [if_pos (by
              rw [Bool.or_eq_true]
              refine .inl ?_
              rw [← en] at h
              exact h)]
          · split
            · rfl
            · first
              | rfl
              | rw [if_pos h]
              | (split <;> first | rfl | (rename_i z; exact absurd h z))
    | List ts p => cases h
    | _ => rfl
  | _ => cases tg <;> rfl
theorem sole_pure {tg ex : Expr} {l : Nat} {env : Env} (h : notComp ex = true) : swapsWithSole [tg] ex l env = pure false := by
  cases ex <;> first | rfl | cases h
theorem ss_asg (ok : Ok X G S C) {e : IE} {g : IG} {tg ex : Expr} {p : Pos} (ha : PE X ex (tE X.K C e)) (hg : chkG S g tg = true) (hs : swapsWithSole [tg] ex p.line X.env = pure false) (hw : swNone S.sc tg ex = true) :
    PS X (.Assign [tg] ex p) (tX X.K (exec C (.asg g e)) (effS (.asg g e)) (asS (.asg g e))) :=
  (ps_asg ha (sg_all ok g tg hg) hs (sw_none ok hw) (by
    have := chkG_star hg
    cases tg <;> first | rfl | cases this)).of fun D σ H h => asg_to h
def swLc (sc scope : Scope) (y : Str) (py p : Pos) : Bool := (sc.names.lookup y == some .local) && (py.line == p.line) && !(scope.names.any fun (n, k) => n == y && (k == .local || k == .cell))
theorem kind_fn (ok : Ok X G S C) : X.env.blockKind = .function := by
  unfold Env.blockKind
  rw [ok.sc, ok.kind]
  rfl
theorem sw_lc (ok : Ok X G S C) {elt : Expr} {gs : List Comprehension} {scope : Scope} {p py : Pos} {y : Str} {l : Nat} : swapsWith (.ListComp elt gs scope p) (some (.Name y py)) l X.env = pure (swLc S.sc scope y py p) := by
  unfold swLc
  show (pure (X.env.blockKind == .function && X.env.kindOf y == some .local && py.line == p.line && !(scope.names.any fun (n, k) => n == y && (k == .local || k == .cell))) : Sem Bool) = _
  rw [kind_fn ok]
  unfold Env.kindOf
  rw [ok.sc]
  rfl
/-! ### two, three names at once -/
theorem binds_to {K : Fr'} {E : List Nat} {H0 H : Hp} {ρ0 : List Slot} {F0 : Fa} {Z0 Z : Addr → Prop} : ∀ {is : List Nat} {vs : List V} {ds : List D} {ρ ρ' : List Slot} {σ : L2.St} {F : Fa} {B : List Addr} {R : L2.St → Prop}, Step E H0 ρ0 F0 Z0 H ρ F Z → W K H ρ σ F Z → (∀ j ∈ is, j ∈ E) → bindNs is ds ρ = some ρ' → InFs E K H0 F0 H F Z vs ds B .fresh →
    (∀ σ' F', σ' = (is.zip vs).foldl (fun s p => s.set p.1 (some p.2)) σ → Step E H0 ρ0 F0 Z0 H ρ' F' Z → W K H ρ' σ' F' Z → SQ is σ σ' → R σ') → R ((is.zip vs).foldl (fun s p => s.set p.1 (some p.2)) σ)
  | [], vs, [], ρ, ρ', σ, F, B, R, s, w, hE, hb, hin, k => by
    simp only [bindNs] at hb
    cases hb
    exact k σ F rfl s w .refl
  | i :: is, vs, d :: ds, ρ, ρ', σ, F, B, R, s, w, hE, hb, hin, k => by
    simp only [bindNs] at hb
    split at hb
    · rename_i ρ1 eb
      obtain ⟨v, r2, B1, B2, rfl, hv, sb1, sb2, rest⟩ := hin.split
      have h : tGt K (.nm i) v σ H fun σ1 _ => (∀ σ' F', σ' = (is.zip r2).foldl (fun s p => s.set p.1 (some p.2)) σ1 → Step E H0 ρ0 F0 Z0 H ρ' F' Z → W K H ρ' σ' F' Z → SQ is σ1 σ' → SQ (i :: is) σ σ1 → R σ') → R ((is.zip r2).foldl (fun s p => s.set p.1 (some p.2)) σ1) :=
        ⟨E, H0, ρ0, F0, Z0, ρ, F, Z, d, .fresh, ρ1, B1, s, w, fun j m => hE j (by simp [IG.slots] at m; simp [m]), eb, hv, fun σ1 F1 s1 w1 sm1 f1 k1 => binds_to s1 w1 (fun j m => hE j (List.mem_cons_of_mem _ m)) hb (rest F1 f1) fun σ' F' es' s' w' q' => k1 σ' F' es' s' w' q' (SQ.more (A1 := IG.slots (.nm i)) sm1.off fun j m => by simp [IG.slots] at m; simp [m])⟩
      exact nm_to h fun σ' F' es' s' w' q' q1 => k σ' F' es' s' w' (q1.trans (q'.more fun j m => List.mem_cons_of_mem _ m))
    · cases hb
  | [], vs, d :: ds, ρ, ρ', σ, F, B, R, s, w, hE, hb, hin, k => by simp [bindNs] at hb
  | i :: is, vs, [], ρ, ρ', σ, F, B, R, s, w, hE, hb, hin, k => by simp [bindNs] at hb
theorem par_to {is : List Nat} {es : IEs} {D : Ends} {σ : L2.St} {H : Hp} (h : tX X.K (exec C (.par is es)) (effS (.par is es)) (asS (.par is es)) D σ H) : tAs X.K C es σ H fun vs H1 => vs.length = is.length ∧ D.nx ((is.zip vs).foldl (fun s p => s.set p.1 (some p.2)) σ) H1 := by
  obtain ⟨ρ, F, Z, o, w, he, k⟩ := h
  simp only [exec] at he
  split at he
  · rename_i ds ρ1 ea
    split at he
    · rename_i xs ρ2 es'
      split at he
      · rename_i ρ3 eb
        cases he
        refine ⟨ρ, F, Z, ds, ρ1, w, ea, fun vs H1 F1 Z1 s1 w1 r1 => ?_⟩
        obtain ⟨F2, B, w2, s2, ho, fl, ex⟩ := take_all (E := effS (.par is es)) ea s1 w1 r1 es' (fun _ => ml) (fun _ m => mr (ml m))
        have hl : ∀ {is : List Nat} {xs : List PyData} {ρ ρ' : Ro}, bindNs is xs ρ = some ρ' → xs.length = is.length := by
          intro is
          induction is with
          | nil =>
            intro xs ρ ρ' h
            cases xs with
            | nil => rfl
            | cons x xs => simp [bindNs] at h
          | cons i is ih =>
            intro xs ρ ρ' h
            cases xs with
            | nil => simp [bindNs] at h
            | cons x xs =>
              simp only [bindNs] at h
              split at h
              · simp only [List.length_cons]
                rw [ih h]
              · cases h
        refine ⟨by rw [ho.length, hl eb], binds_to (R := fun σ' => D.nx σ' H1) s2 w2 (fun j m => mr (mr m)) eb (.inl ⟨rfl, ho, fl⟩) fun σ' F' _ s' w' q' => k σ' H1 F' Z1 s' w' q'⟩
      · cases he
    · cases he
  · cases he
def swSome (sc : Scope) (ts vs : List Expr) : Bool := (ts.length == 2 || ts.length == 3) && vs.length == ts.length && !(vs.any isStar) && (swNames sc ts).length == ts.length && (swNames sc ts).eraseDups.length == (swNames sc ts).length && !(vs.all (foldedForSure 8)) && !(vs.all (constantsAlone 8))
theorem sw_some (ok : Ok X G S C) {ts vs : List Expr} {k k2 : Nat} {p p2 : Pos} (h : swSome S.sc ts vs = true) : swappedStores [.Tuple ts k p] (.Tuple vs k2 p2) X.env = pure (some (swNames S.sc ts)) := by
  simp only [swSome, Bool.and_eq_true, Bool.not_eq_true'] at h
  obtain ⟨⟨⟨⟨⟨⟨h1, h2⟩, h3⟩, h4⟩, h5⟩, h6⟩, h7⟩ := h
  have en : (ts.filterMap fun
    | .Name id pos => if X.env.kindOf id == some .local && pos.line == (ts.head?.map (·.pos.line)).getD 0 then some id else none
    | _ => none) = swNames S.sc ts := by
    unfold swNames Env.kindOf
    rw [ok.sc]
  unfold swappedStores
  simp only
  rw [if_neg (by
    rw [h1, kind_fn ok]
    simp only [bne, h2]
    decide)]
  rw [if_neg (by
    intro z
    have z2 : vs.any isStar = true := z
    rw [h3] at z2
    cases z2)]
  rw [if_neg (by
    intro z
    have z2 : ((swNames S.sc ts).length != ts.length || (swNames S.sc ts).eraseDups.length != (swNames S.sc ts).length) = true := by
      rw [← en]
      exact z
    simp only [bne, h4, h5] at z2
    exact absurd z2 (by decide))]
  rw [h6, if_neg (by decide), h7, if_neg (by decide)]
  exact congrArg (fun z => pure (some z)) en
end
end Zr

set_option maxRecDepth 100000
set_option maxHeartbeats 8000000
/-! ZrS: assignments to names at once, to items; the checker of statements. -/
namespace Zr
open PySem PySem.Spec PyProof.Rows L2

section
variable {K : Fr'} {H H' : Hp}
/-- a list within a list, its own items others -/
theorem OwnL.inner : ∀ {vs : List V} {ds : List D} {A : List Addr} {j : Nat} {zs : List D}, OwnL K H vs ds A → A.Nodup → ds[j]? = some (.list zs) →
    ∃ p us B, vs[j]? = some (.ref p) ∧ H p = some (.lst us) ∧ OwnL K H us zs B ∧ p ∉ B ∧ p ∈ A ∧ ∀ H' us' ws, (∀ a o, a ≠ p → H a = some o → H' a = some o) → H' p = some (.lst us') → OwnL K H' us' ws B → OwnL K H' vs (ds.set j (.list ws)) A
  | _, _, _, _, _, .nil, _, e => by simp at e
  | _, _, _, 0, zs, .cons (B := B2) h t, nd, e => by
    simp at e
    subst e
    cases h with
    | lst h u =>
      rename_i p us B
      have nd1 := List.nodup_append.mp nd
      refine ⟨_, us, B, rfl, h, u, (List.nodup_cons.mp nd1.1).1, ml List.mem_cons_self, fun H' us' ws k hp ho => ?_⟩
      refine .cons (.lst hp ho) (t.keep fun a o e l => k a o (fun z => ?_) e)
      subst z
      rw [h] at e
      cases e
      exact nd1.2.2 _ List.mem_cons_self _ (l trivial) rfl
  | _, _, _, j + 1, zs, .cons h t, nd, e => by
    have nd1 := List.nodup_append.mp nd
    obtain ⟨p, us, B, h1, h2, h3, h4, h5, h6⟩ := OwnL.inner t nd1.2.1 (j := j) (by simpa using e)
    refine ⟨p, us, B, by simpa using h1, h2, h3, h4, mr h5, fun H' us' ws k hp ho => ?_⟩
    refine .cons (h.keep fun a o e l => k a o (fun z => ?_) e) (h6 H' us' ws k hp ho)
    subst z
    rw [h2] at e
    cases e
    exact nd1.2.2 _ (l trivial) _ h5 rfl
end
section
variable {X : Cx} {G : Gx} {S : Sx} {C : CallF}
theorem setL_parts {xs ys : List D} {n : Int} {y : D} (h : setL xs n y = some ys) : ∃ j x, pixN xs.length n = some j ∧ xs[j]? = some x ∧ pur x = true ∧ ys = xs.set j y := by
  unfold setL at h
  split at h
  · rename_i j e
    split at h
    · rename_i x e2
      obtain ⟨p, h⟩ := ifs h
      exact ⟨j, x, e, e2, p, h.symm⟩
    · cases h
  · cases h
theorem pair_if {c : Bool} {α : Type} {a : Option α} {x : α} (h : (if c = true then a else none) = some x) : c = true ∧ a = some x := by
  cases c with
  | true => exact ⟨rfl, by simpa using h⟩
  | false => simp at h
theorem os_own {K : Fr'} {H : Hp} {ρ : Ro} {σ : L2.St} {F : Fa} {Z : Addr → Prop} {i : Nat} {sl sl' : Slot} {d d' : PyData} (os : OwnSlot sl d sl' d') (w : W K H ρ σ F Z) (e : ρ[i]? = some sl) : ∃ v, σ[i]? = some (some v) ∧ Own K H v d (F i) := by
  have := w.slot i sl e
  cases os with
  | own => exact this
  | byr => exact this
theorem bor_int {E : List Nat} {K : Fr'} {H H' : Hp} {F F' : Fa} {ρ' : List Slot} {σ : L2.St} {Z' : Addr → Prop} {v : V} {i : Int} {st : Stat} (r : VR E K H F H' ρ' σ F' Z' v (.int i) st) : v = .int i := int_of r.bor
/-- an item of the slot's own list is another one -/
theorem put_item {K : Fr'} {H0 H : Hp} {ρ0 ρ : List Slot} {F0 F : Fa} {Z0 Z : Addr → Prop} {E : List Nat} {σ : L2.St} {i : Nat} {sl sl' : Slot} {xs ys : List PyData} {n : Int} {y : PyData} {v : V} {B : List Addr} (s : Step E H0 ρ0 F0 Z0 H ρ F Z) (w : W K H ρ σ F Z) (hi : i ∈ E) (e : ρ[i]? = some sl) (os : OwnSlot sl (.list xs) sl' (.list ys)) (ey : setL xs n y = some ys) (ho : Own K H v y B) (fl : Fl E H0 F0 F Z B) :
    ∃ p vs j F', σ[i]? = some (some (.ref p)) ∧ H p = some (.lst vs) ∧ ixN vs.length n = some j ∧ Step E H0 ρ0 F0 Z0 (upd H p (.lst (vs.set j v))) (ρ.set i sl') F' Z ∧ W K (upd H p (.lst (vs.set j v))) (ρ.set i sl') σ F' Z ∧ p ∈ F i ∧ ∀ j a, a ∈ F' j → a ∈ F j ∨ a ∈ B := by
  obtain ⟨v0, hσ, h0⟩ := os_own os w e
  obtain ⟨j, x, e1, e2, px, rfl⟩ := setL_parts ey
  generalize hF : F i = A0 at h0
  cases h0 with
  | lst h1 t =>
    rename_i p vs A
    obtain ⟨A1, A2, eA, t2⟩ := t.set_at e2 px ho
    have nA : (p :: A).Nodup := hF ▸ w.nodup i
    have nd := List.nodup_cons.mp nA
    have inF : ∀ b ∈ A, b ∈ F i := fun b m => by rw [hF]; exact List.mem_cons_of_mem _ m
    have pF : p ∈ F i := by rw [hF]; exact List.mem_cons_self
    have sub : ∀ b ∈ A1 ++ (B ++ A2), b ∈ A ∨ b ∈ B := fun b m => by
      rw [eA]
      rcases List.mem_append.mp m with m | m
      · exact .inl (ml m)
      · rcases List.mem_append.mp m with m | m
        · exact .inr m
        · exact .inl (mr m)
    have np : p ∉ A1 ++ (B ++ A2) := fun m => (sub p m).elim nd.1 fun m => fl.off p m i pF
    have kk : ∀ b o, H b = some o → (Lst o → b ∉ F i) → upd H p (.lst (vs.set j v)) b = some o := fun b o q l => by
      rw [upd_ne]
      · exact q
      · intro z
        subst z
        rw [h1] at q
        cases q
        exact l trivial pF
    have tt : ∀ b, H b ≠ none → upd H p (.lst (vs.set j v)) b ≠ none := fun b q => by
      by_cases hb : b = p
      · rw [hb, upd_same]
        exact fun z => nomatch z
      · rw [upd_ne hb]
        exact q
    have t3 : OwnL K (upd H p (.lst (vs.set j v))) (vs.set j v) (xs.set j y) (A1 ++ (B ++ A2)) := t2.keep fun b o q l => by
      rw [upd_ne]
      · exact q
      · intro z
        subst z
        rw [h1] at q
        cases q
        exact np (l trivial)
    have ndA : (A1 ++ A2).Nodup := eA ▸ nd.2
    have nB : (A1 ++ (B ++ A2)).Nodup := by
      have n1 := List.nodup_append.mp ndA
      refine List.nodup_append.mpr ⟨n1.1, List.nodup_append.mpr ⟨fl.nodup, n1.2.1, fun a m b q z => ?_⟩, fun a m b q z => ?_⟩
      · subst z
        exact fl.off a m i (inF a (by rw [eA]; exact mr q))
      · subst z
        rcases List.mem_append.mp q with q | q
        · exact fl.off a q i (inF a (by rw [eA]; exact ml m))
        · exact n1.2.2 a m a q rfl
    obtain ⟨s3, w3⟩ := put_slot (i := i) (B := p :: (A1 ++ (B ++ A2))) s w hi e os hσ kk tt (.lst upd_same t3) (List.nodup_cons.mpr ⟨np, nB⟩) (fun b m => by
        rcases List.mem_cons.mp m with m | m
        · exact w.zed i b (m ▸ pF)
        · exact (sub b m).elim (fun m => w.zed i b (inF b m)) (fl.zed b)) (fun b m j hj q => by
        rcases List.mem_cons.mp m with m | m
        · exact w.disj j i b hj q (m ▸ pF)
        · exact (sub b m).elim (fun m => w.disj j i b hj q (inF b m)) fun m => fl.off b m j q) (fun b m => by
        rcases List.mem_cons.mp m with m | m
        · exact .inl (m ▸ pF)
        · exact (sub b m).elim (fun m => .inl (inF b m)) fun m => .inr (fl.new b m))
    refine ⟨p, vs, j, _, hσ, h1, by rw [← pixN_eq, t.length]; exact e1, s3, w3, by first | exact pF | exact List.mem_cons_self, fun j2 b m => ?_⟩
    by_cases hj : j2 = i
    · subst hj
      rw [fset_same] at m
      rcases List.mem_cons.mp m with m | m
      · exact .inl (m ▸ pF)
      · exact (sub b m).imp (inF b) id
    · rw [fset_ne hj] at m
      exact .inl m
theorem setL2_parts {xs ys : List PyData} {m n : Int} {y : PyData} (h : setL2 xs m n y = some ys) : ∃ j zs ws, pixN xs.length m = some j ∧ xs[j]? = some (.list zs) ∧ pur y = true ∧ setL zs n y = some ws ∧ ys = xs.set j (.list ws) := by
  unfold setL2 at h
  split at h
  · rename_i j e
    split at h
    · rename_i zs e2
      obtain ⟨p, h⟩ := pair_if h
      split at h
      · rename_i ws e3
        cases h
        exact ⟨j, zs, ws, e, e2, p, e3, rfl⟩
      · cases h
    · cases h
  · cases h
/-- an item of a list within it -/
theorem put_item2 {K : Fr'} {H0 H : Hp} {ρ0 ρ : List Slot} {F0 F : Fa} {Z0 Z : Addr → Prop} {E : List Nat} {σ : L2.St} {i : Nat} {sl sl' : Slot} {xs ys : List PyData} {m n : Int} {y : PyData} {v : V} (s : Step E H0 ρ0 F0 Z0 H ρ F Z) (w : W K H ρ σ F Z) (hi : i ∈ E) (e : ρ[i]? = some sl) (os : OwnSlot sl (.list xs) sl' (.list ys)) (ey : setL2 xs m n y = some ys) (ho : Own K H v y []) :
    ∃ p vs q us j F', σ[i]? = some (some (.ref p)) ∧ H p = some (.lst vs) ∧ atI vs m = some (.ref q) ∧ H q = some (.lst us) ∧ ixN us.length n = some j ∧ Step E H0 ρ0 F0 Z0 (upd H q (.lst (us.set j v))) (ρ.set i sl') F' Z ∧ W K (upd H q (.lst (us.set j v))) (ρ.set i sl') σ F' Z := by
  obtain ⟨v0, hσ, h0⟩ := os_own os w e
  obtain ⟨j1, zs, ws, e1, e2, py, ew, rfl⟩ := setL2_parts ey
  obtain ⟨j, x, e3, e4, px, rfl⟩ := setL_parts ew
  generalize hF : F i = A0 at h0
  cases h0 with
  | lst h1 t =>
    rename_i p vs A
    have nA : (p :: A).Nodup := hF ▸ w.nodup i
    have nd := List.nodup_cons.mp nA
    obtain ⟨q, us, B, g1, g2, g3, g4, g5, g6⟩ := t.inner nd.2 e2
    have pF : p ∈ F i := by rw [hF]; exact List.mem_cons_self
    have qF : q ∈ F i := by rw [hF]; exact List.mem_cons_of_mem _ g5
    have pq : p ≠ q := fun z => nd.1 (z ▸ g5)
    have kk0 : ∀ b o, b ≠ q → H b = some o → upd H q (.lst (us.set j v)) b = some o := fun b o n z => by
      rw [upd_ne n]
      exact z
    have kk : ∀ b o, H b = some o → (Lst o → b ∉ F i) → upd H q (.lst (us.set j v)) b = some o := fun b o z l => kk0 b o (fun eb => by
      subst eb
      rw [g2] at z
      cases z
      exact l trivial qF) z
    have tt : ∀ b, H b ≠ none → upd H q (.lst (us.set j v)) b ≠ none := fun b z => by
      by_cases hb : b = q
      · rw [hb, upd_same]
        exact fun z => nomatch z
      · rw [upd_ne hb]
        exact z
    obtain ⟨B1, B2, eB, t2⟩ := g3.set_at e4 px ho
    have t3 : OwnL K (upd H q (.lst (us.set j v))) (us.set j v) (zs.set j y) B := by
      have : B1 ++ ([] ++ B2) = B := by rw [List.nil_append]; exact eB.symm
      rw [this] at t2
      exact t2.keep fun b o z l => kk0 b o (fun eb => by
        subst eb
        rw [g2] at z
        cases z
        exact g4 (l trivial)) z
    have t4 := g6 (upd H q (.lst (us.set j v))) _ _ (fun a o n z => kk0 a o n z) upd_same t3
    obtain ⟨s3, w3⟩ := put_slot (i := i) (B := F i) s w hi e os hσ kk tt (by
        rw [hF]
        exact .lst (kk0 p _ pq h1) t4) (w.nodup i) (fun b m => w.zed i b m) (fun b m j hj z => w.disj j i b hj z m) (fun b m => .inl m)
    exact ⟨p, vs, q, us, j, _, hσ, h1, pix_atI (by rw [t.length]; exact e1) g1, g2, by rw [← pixN_eq, g3.length]; exact e3, s3, w3⟩
theorem set_to {i : Nat} {k e : IE} {D : Ends} {σ : L2.St} {H : Hp} (h : tX X.K (exec C (.set i k e)) (effS (.set i k e)) (asS (.set i k e)) D σ H) : tE X.K C e σ H fun v H1 => gSub (tVar i) (tE X.K C k) rSetL v σ H1 D.nx := by
  obtain ⟨ρ, F, Z, o, w, he, kk⟩ := h
  simp only [exec] at he
  split at he
  · rename_i y sy ρ0 ea
    split at he
    · rename_i ρ1 es
      obtain ⟨c, he⟩ := pair_if he
      simp only [Bool.and_eq_true, Bool.not_eq_true', List.contains_eq_mem, decide_eq_false_iff_not] at c
      split at he
      · rename_i n sk ρ3 ek
        have main : ∀ (sl sl' : Slot) (xs ys : List PyData), ρ3[i]? = some sl → OwnSlot sl (.list xs) sl' (.list ys) → setL xs n y = some ys → o = .nx (ρ3.set i sl') → tE X.K C e σ H fun v H1 => gSub (tVar i) (tE X.K C k) rSetL v σ H1 D.nx := by
          intro sl sl' xs ys e3 os ey eo
          subst eo
          refine ⟨ρ, F, Z, y, sy, ρ0, w, ea, fun v H1 F1 Z1 s1 w1 r1 => ?_⟩
          obtain ⟨F2, B, w2, s2, ho, fl⟩ := take_one (E := effS (.set i k e)) ea s1 w1 r1 es (fun _ => ml) (fun _ m => mr (ml m))
          obtain ⟨v0, hσ⟩ := isOwn_ok w2 c.1
          refine ⟨v0, hσ, ρ1, F2, Z1, _, sk, ρ3, w2, ek, fun u H3 F3 Z3 s3 w3 r3 => ?_⟩
          have hu := bor_int r3
          subst hu
          have trB : ∀ a ∈ B, H1 a ≠ none := fun a m => lst_tr (ho.tr a m)
          have fl3 := fl.over s3 trB
          have ho3 := Own.over ho fl.toOff s3
          have s4 := s2.seq s3 (fun _ m => m) fun _ m => mr (mr (ml m))
          obtain ⟨p, vs, j, F', h1, h2, h3, s5, w5, _⟩ := put_item s4 w3 (mr (mr (mr List.mem_cons_self))) e3 os ey ho3 fl3
          rw [hσ] at h1
          cases h1
          exact ⟨p, vs, n, j, rfl, rfl, h2, h3, kk σ _ F' Z3 s5 w5 .refl⟩
        split at he
        · rename_i xs e3
          split at he
          · rename_i ys ey
            cases he
            exact main _ _ xs ys e3 (.own _ _) ey rfl
          · cases he
        · rename_i xs e3
          split at he
          · rename_i ys ey
            cases he
            exact main _ _ xs ys e3 (.byr _ _) ey rfl
          · cases he
        · cases he
      · cases he
    · cases he
  · cases he
def rAug (op : Operator) : TIp := fun x y H Q => (∃ i j k, x = .int i ∧ y = .int j ∧ augop op i j = some k ∧ Q (.int k) H) ∨ (∃ z u, op = .Add ∧ x = .str z ∧ y = .str u ∧ z.length + u.length ≤ lim ∧ Q (.str (z ++ u)) H)
theorem ip_aug (op : Operator) : PIp X op (rAug op) := by
  intro pins s σ H x y v u Q I rx ry h
  rcases h with ⟨i, j, k, rfl, rfl, e, q⟩ | ⟨z, u2, rfl, rfl, rfl, c, q⟩
  · cases op with
    | Add =>
      simp only [augop] at e
      cases e
      exact iop_add pins s σ H _ _ v u Q I rx ry ⟨i, j, rfl, rfl, q⟩
    | Sub =>
      simp only [augop] at e
      cases e
      exact iop_sub pins s σ H _ _ v u Q I rx ry ⟨i, j, rfl, rfl, q⟩
    | Mult =>
      simp only [augop] at e
      obtain ⟨c, e⟩ := pair_if e
      cases e
      simp only [mulSm, Bool.or_eq_true, decide_eq_true_eq] at c
      exact iop_mul pins s σ H _ _ v u Q I rx ry ⟨i, j, rfl, rfl, by unfold CMul; omega, q⟩
    | _ => simp [augop] at e
  · obtain ⟨t, rfl⟩ := rx
    obtain ⟨t2, rfl⟩ := ry
    exact PyProof.Rows.iadd_str (fun t' tk => ⟨.str (z ++ u2), H, I.kept (t' := tk) fun _ _ e => e, ⟨_, rfl⟩, q⟩) (lim_line c)
theorem aug_to {op : Operator} {i : Nat} {e : IE} {D : Ends} {σ : L2.St} {H : Hp} (h : tX X.K (exec C (.aug op i e)) (effS (.aug op i e)) (asS (.aug op i e)) D σ H) : tAug i (tE X.K C e) (rAug op) D σ H := by
  obtain ⟨ρ, F, Z, o, w, he, kk⟩ := h
  simp only [exec] at he
  split at he
  · rename_i y sy ρ1 ea
    split at he
    · rename_i x x' e1 e2
      split at he
      · rename_i ex
        have ex := deq_eq ex
        subst ex
        split at he
        · rename_i d eo
          cases he
          obtain ⟨_, px, v, hv, hb⟩ := w.slot i _ e1
          have nb : noByr ρ1 i = true := by
            unfold noByr
            rw [e2]
          have fin : ∀ (H1 : Hp) (F1 : Fa) (Z1 : Addr → Prop) (z : V), Step (effE e) H ρ F Z H1 ρ1 F1 Z1 → W X.K H1 ρ1 σ F1 Z1 → pur d = true → Own X.K H1 z d [] → D.nx (σ.set i (some z)) H1 := fun H1 F1 Z1 z s1 w1 pd ho => by
            have hg : tGt X.K (.nm i) z σ H1 D.nx := ⟨effS (.aug op i e), H, ρ, F, Z, ρ1, F1, Z1, d, .fresh, ρ1.set i (.pur d), [], s1.more fun _ => ml, w1, fun j m => mr (by simpa [IG.slots] using m), by
              simp only [bindV]
              rw [if_pos nb, if_pos pd], ⟨ho, Fl.nil⟩, fun σ' F' s3 w3 sm f3 => kk σ' H1 F' Z1 s3 w3 sm.off⟩
            exact nm_to hg
          refine ⟨_, hv, ρ, F, Z, _, sy, ρ1, w, ea, fun u H1 F1 Z1 s1 w1 r1 => ?_⟩
          cases x with
          | int x =>
            cases y with
            | int y =>
              simp only [augD, Option.map_eq_some_iff] at eo
              obtain ⟨k, eo, rfl⟩ := eo
              obtain rfl := int_of hb
              obtain rfl := bor_int r1
              exact .inl ⟨x, y, k, rfl, rfl, eo, fin H1 F1 Z1 _ s1 w1 rfl (.int _)⟩
            | _ => cases op <;> simp [augD] at eo
          | str x =>
            cases y with
            | str y =>
              cases op with
              | Add =>
                simp only [augD] at eo
                obtain ⟨c, eo⟩ := ifs eo
                subst eo
                have h1 := hb
                cases h1
                have h2 := r1.bor
                cases h2
                exact .inr ⟨x, y, rfl, rfl, rfl, c, fin H1 F1 Z1 _ s1 w1 rfl (.str _)⟩
              | _ => simp [augD] at eo
            | _ => cases op <;> simp [augD] at eo
          | _ => cases op <;> simp [augD] at eo
        · cases he
      · cases he
    · cases he
  · cases he
/-! ### several targets, some of them items -/
def tPs (K : Fr') (C : CallF) (ps : IPs) : TGs := fun vs σ H Q => ∃ E H0 ρ0 F0 Z0 ρ F Z ds ρ' B, Step E H0 ρ0 F0 Z0 H ρ F Z ∧ W K H ρ σ F Z ∧ (∀ j ∈ ps.eff, j ∈ E) ∧ putAll C ps ds ρ = some ρ' ∧ OwnL K H vs ds B ∧ Fl E H0 F0 F Z B ∧
  ∀ σ' H' F' Z', Step E H0 ρ0 F0 Z0 H' ρ' F' Z' → W K H' ρ' σ' F' Z' → SQ ps.as σ σ' → Q σ' H'
theorem sps_nil : PGs X [] (tPs X.K C .nil) := ⟨fun pins s σ H vs us Q I r ⟨E, H0, ρ0, F0, Z0, ρ, F, Z, ds, ρ', B, st1, w, hE, hb, ho, fl, k⟩ => by
  have e : ds = [] ∧ ρ' = ρ := by
    cases ds with
    | nil => simp only [putAll] at hb; exact ⟨rfl, by cases hb; rfl⟩
    | cons => simp [putAll] at hb
  obtain ⟨rfl, rfl⟩ := e
  have hv : vs = [] := by
    cases ho
    rfl
  exact pgs_nil.run pins s σ H vs us Q I r ⟨hv, k σ H F Z st1 w .refl⟩⟩
theorem fl_split {E : List Nat} {H0 : Hp} {F0 F : Fa} {Z : Addr → Prop} {A B : List Addr} (fl : Fl E H0 F0 F Z (A ++ B)) : Fl E H0 F0 F Z A ∧ Fl E H0 F0 F Z B ∧ ∀ a ∈ A, a ∉ B :=
  have nd := List.nodup_append.mp fl.nodup
  ⟨⟨nd.1, fun a m => fl.zed a (ml m), fun a m => fl.off a (ml m), fun a m => fl.new a (ml m)⟩, ⟨nd.2.1, fun a m => fl.zed a (mr m), fun a m => fl.off a (mr m), fun a m => fl.new a (mr m)⟩, fun a m q => nd.2.2 a m a q rfl⟩
theorem ownL_split {K : Fr'} {H : Hp} {us : List V} {d : D} {ds : List D} {B : List Addr} (h : OwnL K H us (d :: ds) B) : ∃ v vs B1 B2, us = v :: vs ∧ B = B1 ++ B2 ∧ Own K H v d B1 ∧ OwnL K H vs ds B2 := by
  cases h with
  | cons h t => exact ⟨_, _, _, _, rfl, rfl, h, t⟩
theorem sps_nm {i : Nat} {ps : IPs} {e : Expr} {es : List Expr} (h1 : PG X e (tGt X.K (.nm i))) (h2 : PGs X es (tPs X.K C ps)) (hs : notStar e = true) : PGs X (e :: es) (tPs X.K C (.nm i ps)) := ⟨fun pins s σ H vs us Q I r ⟨E, H0, ρ0, F0, Z0, ρ, F, Z, ds, ρ', B, st1, w, hE, hb, ho, fl, k⟩ => by
  refine (pgs_cons h1 h2 (by cases e <;> first | rfl | cases hs)).run pins s σ H vs us Q I r ?_
  cases ds with
  | nil => simp [putAll] at hb
  | cons d ds =>
    simp only [putAll] at hb
    split at hb
    · rename_i ρ1 hb1
      obtain ⟨v, vs, B1, B2, rfl, rfl, hv, t⟩ := ownL_split ho
      · obtain ⟨f1, f2, ap⟩ := fl_split fl
        refine ⟨v, vs, rfl, E, H0, ρ0, F0, Z0, ρ, F, Z, d, .fresh, ρ1, B1, st1, w, fun j hj => hE j (by
          have : j = i := by simpa [IG.slots] using hj
          rw [this]
          exact List.mem_cons_self), hb1, ⟨hv, f1⟩, fun σ1 F1 s1 w1 sm1 g1 => ?_⟩
        refine ⟨E, H0, ρ0, F0, Z0, ρ1, F1, Z, ds, ρ', B2, s1, w1, fun j hj => hE j (List.mem_cons_of_mem _ hj), hb, t, ⟨f2.nodup, f2.zed, fun a m j q => (g1 j a q).elim (f2.off a m j) fun z => ap a z m, f2.new⟩, fun σ2 H2 F2 Z2 s2 w2 sq => ?_⟩
        exact k σ2 H2 F2 Z2 s2 w2 (SQ.trans (SQ.more sm1.off fun j hj => by
          have : j = i := by simpa [IG.slots] using hj
          rw [this]
          exact List.mem_cons_self) (sq.more fun j hj => List.mem_cons_of_mem _ hj))
    · cases hb⟩
theorem sps_at {i : Nat} {k : IE} {ps : IPs} {e : Expr} {es : List Expr} (h1 : PG X e (gSub (tVar i) (tE X.K C k) rSetL)) (h2 : PGs X es (tPs X.K C ps)) (hs : notStar e = true) : PGs X (e :: es) (tPs X.K C (.at i k ps)) := ⟨fun pins s σ H vs us Q I r ⟨E, H0, ρ0, F0, Z0, ρ, F, Z, ds, ρ', B, st1, w, hE, hb, ho, fl, kk⟩ => by
  refine (pgs_cons h1 h2 (by cases e <;> first | rfl | cases hs)).run pins s σ H vs us Q I r ?_
  cases ds with
  | nil => simp [putAll] at hb
  | cons d ds =>
    simp only [putAll] at hb
    obtain ⟨c, hb⟩ := pair_if hb
    simp only [Bool.and_eq_true, Bool.not_eq_true', List.contains_eq_mem, decide_eq_false_iff_not] at c
    split at hb
    · rename_i n sk ρ3 ek
      obtain ⟨v, vs, B1, B2, rfl, rfl, hv, t⟩ := ownL_split ho
      · obtain ⟨f1, f2, ap⟩ := fl_split fl
        have main : ∀ (sl sl' : Slot) (xs ys : List PyData), ρ3[i]? = some sl → OwnSlot sl (.list xs) sl' (.list ys) → setL xs n d = some ys → putAll C ps ds (ρ3.set i sl') = some ρ' →
            gSub (tVar i) (tE X.K C k) rSetL v σ H fun σ1 H1 => tPs X.K C ps vs σ1 H1 Q := by
          intro sl sl' xs ys e3 os ey hb
          obtain ⟨v0, hσ⟩ := isOwn_ok w c.1
          refine ⟨v0, hσ, ρ, F, Z, _, sk, ρ3, w, ek, fun u H3 F3 Z3 s3 w3 r3 => ?_⟩
          have hu := bor_int r3
          subst hu
          have g1 := f1.over s3 fun a m => lst_tr (hv.tr a m)
          have o1 := Own.over hv f1.toOff s3
          have g2 := f2.over s3 fun a m => lst_tr (t.tr a m)
          have o2 : OwnL X.K H3 vs ds B2 := t.keep fun a o e l => s3.keep a o e fun q j _ m => f2.off a (l q) j m
          have s4 := st1.seq s3 (E := E) (fun _ m => m) fun j m => hE j (List.mem_cons_of_mem _ (ml m))
          obtain ⟨p, us, j, F', h1, h2, h3, s5, w5, pF, sub⟩ := put_item s4 w3 (hE i List.mem_cons_self) e3 os ey o1 g1
          rw [hσ] at h1
          cases h1
          refine ⟨p, us, n, j, rfl, rfl, h2, h3, E, H0, ρ0, F0, Z0, _, F', Z3, ds, ρ', B2, s5, w5, fun j hj => hE j (List.mem_cons_of_mem _ (mr hj)), hb, o2.keep fun a o e l => ?_, ⟨g2.nodup, g2.zed, fun a m j q => (sub j a q).elim (g2.off a m j) fun z => ap a z m, g2.new⟩, fun σ2 H2 F2 Z2 s2 w2 sq => kk σ2 H2 F2 Z2 s2 w2 sq⟩
          rw [upd_ne]
          · exact e
          · intro z
            subst z
            rw [h2] at e
            cases e
            exact g2.off _ (l trivial) i pF
        refine ⟨v, vs, rfl, ?_⟩
        split at hb
        · rename_i xs e3
          split at hb
          · rename_i ys ey
            exact main _ _ xs ys e3 (.own _ _) ey hb
          · cases hb
        · rename_i xs e3
          split at hb
          · rename_i ys ey
            exact main _ _ xs ys e3 (.byr _ _) ey hb
          · cases hb
        · cases hb
    · cases hb⟩
theorem puts_to {ps : IPs} {e : IE} {n : Nat} {D : Ends} {σ : L2.St} {H : Hp} (hn : ∀ vs σ H Q, tPs X.K C ps vs σ H Q → vs.length = n) (h : tX X.K (exec C (.puts ps e)) (effS (.puts ps e)) (asS (.puts ps e)) D σ H) : tE X.K C e σ H fun v H1 => gTup X.K n (tPs X.K C ps) v σ H1 D.nx := by
  obtain ⟨ρ, F, Z, o, w, he, kk⟩ := h
  simp only [exec] at he
  split at he
  · rename_i ds sy ρ0 ea
    split at he
    · rename_i ρ1 es
      split at he
      · rename_i ρ2 ep
        cases he
        refine ⟨ρ, F, Z, _, sy, ρ0, w, ea, fun v H1 F1 Z1 s1 w1 r1 => ?_⟩
        obtain ⟨F2, B, w2, s2, ho, fl⟩ := take_one (E := effS (.puts ps e)) ea s1 w1 r1 es (fun _ => ml) (fun _ m => mr (ml m))
        cases ho with
        | tup hq t =>
          have q : tPs X.K C ps _ σ H1 D.nx := ⟨effS (.puts ps e), H, ρ, F, Z, ρ1, F2, Z1, ds, ρ2, B, s2, w2, fun j m => mr (mr m), ep, t, fl, fun σ' H' F' Z' s3 w3 sq => kk σ' H' F' Z' s3 w3 sq⟩
          exact ⟨_, _, rfl, hq, hn _ _ _ _ q, q⟩
      · cases he
    · cases he
  · cases he
/-- how many targets -/
def IPs.len : IPs → Nat
  | .nil => 0
  | .nm _ r => r.len + 1
  | .at _ _ r => r.len + 1
theorem putAll_len : ∀ {ps : IPs} {ds : List D} {ρ ρ' : Ro}, putAll C ps ds ρ = some ρ' → ds.length = ps.len
  | .nil, [], _, _, _ => rfl
  | .nil, _ :: _, _, _, h => by simp [putAll] at h
  | .nm i r, [], _, _, h => by simp [putAll] at h
  | .nm i r, d :: ds, ρ, ρ', h => by
    simp only [putAll] at h
    split at h
    · exact congrArg (· + 1) (putAll_len (ps := r) h)
    · cases h
  | .at i k r, [], _, _, h => by simp [putAll] at h
  | .at i k r, d :: ds, ρ, ρ', h => by
    simp only [putAll] at h
    obtain ⟨_, h⟩ := pair_if h
    split at h
    · split at h
      · split at h
        · exact congrArg (· + 1) (putAll_len (ps := r) h)
        · cases h
      · split at h
        · exact congrArg (· + 1) (putAll_len (ps := r) h)
        · cases h
      · cases h
    · cases h
theorem tPs_len {ps : IPs} : ∀ vs σ H Q, tPs X.K C ps vs σ H Q → vs.length = ps.len := fun vs σ H Q ⟨_, _, _, _, _, _, _, _, ds, _, _, _, _, _, hb, ho, _, _⟩ => by
  rw [ho.length]
  exact putAll_len hb
/-! ### an item of an item; an item changed -/
theorem get_list : PGet X (rIxL X.K) := by
  intro pins s σ H x y v u Q I rx ry h
  obtain ⟨p, xs, i, z, rfl, rfl, hq, he, q⟩ := h
  cases rx
  obtain ⟨t, rfl⟩ := ry
  obtain ⟨its, r, pl, hz⟩ := I.list hq
  obtain ⟨j, h1, h2, h3, h4, h5⟩ := atI_get he
  obtain ⟨w, ew, rw'⟩ := r.get h2
  have hl := r.length
  have hn := line63
  have fin : EP X pins σ Q w s := ⟨z, H, I, rw', q⟩
  by_cases h0 : 0 ≤ i
  · have hj : i.toNat = j := by
      rw [seqIndex_of h0 h5] at h1
      exact Option.some.inj h1
    exact wpAny_getItem_list pl.isList h0 (by omega) (by rw [hj]; simpa using ew) fin
  · have hj : (i + (its.toArray.size : Int)).toNat = j := by
      rw [seqIndex_neg (by omega) h4] at h1
      rw [List.size_toArray, ← hl]
      exact Option.some.inj h1
    exact wpAny_getItem_list_neg pl.isList (by omega) (by rw [List.size_toArray] <;> omega) (by omega) (by rw [hj]; simpa using ew) fin
/-- the list that a slot owns, while other slots change -/
theorem slot_list {K : Fr'} {H H2 : Hp} {ρ ρ2 : List Slot} {F F2 : Fa} {Z Z2 : Addr → Prop} {E : List Nat} {σ : L2.St} {i : Nat} {sl sl' : Slot} {xs ys : List PyData} {p : Addr} (w : W K H ρ σ F Z) (w2 : W K H2 ρ2 σ F2 Z2) (t : Step E H ρ F Z H2 ρ2 F2 Z2) (hi : i ∉ E) (e : ρ2[i]? = some sl) (os : OwnSlot sl (.list xs) sl' (.list ys)) (hσ : σ[i]? = some (some (.ref p))) :
    ∃ vs A, H p = some (.lst vs) ∧ H2 p = some (.lst vs) ∧ OwnL K H vs xs A := by
  have e1 : ρ[i]? = some sl := by rw [← (t.same i hi).1]; exact e
  obtain ⟨v0, h0, ho⟩ := os_own os w e1
  rw [hσ] at h0
  cases h0
  generalize hF : F i = A0 at ho
  cases ho with
  | lst h1 q =>
    refine ⟨_, _, h1, t.keep p _ h1 fun _ j hj m => ?_, q⟩
    exact w.disj j i p (fun z => hi (z ▸ hj)) m (by rw [hF]; exact List.mem_cons_self)
theorem rowL_ok {K : Fr'} {H : Hp} {ρ : Ro} {σ : L2.St} {F : Fa} {Z : Addr → Prop} {i : Nat} {n : Int} (w : W K H ρ σ F Z) (h : rowL ρ i n = true) : ∃ p vs q, σ[i]? = some (some (.ref p)) ∧ H p = some (.lst vs) ∧ atI vs n = some (.ref q) := by
  have go : ∀ xs, (ρ[i]? = some (.own (.list xs)) ∨ ρ[i]? = some (.byr (.list xs))) → (∃ j zs, pixN xs.length n = some j ∧ xs[j]? = some (.list zs)) → ∃ p vs q, σ[i]? = some (some (.ref p)) ∧ H p = some (.lst vs) ∧ atI vs n = some (.ref q) := by
    rintro xs e ⟨j, zs, e1, e2⟩
    obtain ⟨v0, hσ, ho⟩ : ∃ v, σ[i]? = some (some v) ∧ Own K H v (.list xs) (F i) := e.elim (fun e => w.slot i _ e) fun e => w.slot i _ e
    generalize hF : F i = A0 at ho
    cases ho with
    | lst h1 t =>
      rename_i p vs A
      have nd : A.Nodup := (List.nodup_cons.mp (hF ▸ w.nodup i : (p :: A).Nodup)).2
      obtain ⟨q, us, B3, i1, i2, _⟩ := t.inner nd e2
      exact ⟨_, _, q, hσ, h1, pix_atI (by rw [t.length]; exact e1) i1⟩
  unfold rowL at h
  split at h
  · rename_i xs e
    split at h
    · rename_i j e1
      split at h
      · rename_i z e2
        exact go xs (.inl e) ⟨j, _, e1, e2⟩
      · cases h
    · cases h
  · rename_i xs e
    split at h
    · rename_i j e1
      split at h
      · rename_i z e2
        exact go xs (.inr e) ⟨j, _, e1, e2⟩
      · cases h
    · cases h
  · cases h
theorem set2_to {i : Nat} {k1 k e : IE} {D : Ends} {σ : L2.St} {H : Hp} (h : tX X.K (exec C (.set2 i k1 k e)) (effS (.set2 i k1 k e)) (asS (.set2 i k1 k e)) D σ H) :
    tE X.K C e σ H fun v H1 => gSub (tOp (rIxL X.K) (tVar i) (tE X.K C k1)) (tE X.K C k) rSetL v σ H1 D.nx := by
  obtain ⟨ρ, F, Z, o, w, he, kk⟩ := h
  simp only [exec] at he
  split at he
  · rename_i y sy ρ0 ea
    split at he
    · rename_i ρ1 es
      obtain ⟨c, he⟩ := pair_if he
      simp only [Bool.and_eq_true, Bool.not_eq_true', List.contains_eq_mem, decide_eq_false_iff_not] at c
      split at he
      · rename_i m sk1 ρ2 ek1
        obtain ⟨cr, he⟩ := pair_if he
        split at he
        · rename_i n sk ρ3 ek
          have main : ∀ (sl sl' : Slot) (xs ys : List PyData), ρ3[i]? = some sl → OwnSlot sl (.list xs) sl' (.list ys) → setL2 xs m n y = some ys → o = .nx (ρ3.set i sl') →
              tE X.K C e σ H fun v H1 => gSub (tOp (rIxL X.K) (tVar i) (tE X.K C k1)) (tE X.K C k) rSetL v σ H1 D.nx := by
            intro sl sl' xs ys e3 os ey eo
            subst eo
            refine ⟨ρ, F, Z, y, sy, ρ0, w, ea, fun v H1 F1 Z1 s1 w1 r1 => ?_⟩
            obtain ⟨F2, B, w2, s2, ho, fl⟩ := take_one (E := effS (.set2 i k1 k e)) ea s1 w1 r1 es (fun _ => ml) (fun _ m => mr (ml m))
            obtain ⟨_, _, _, _, _, py, _, _⟩ := setL2_parts ey
            have hB := ho.nil_of py
            subst hB
            obtain ⟨v0, hσ⟩ := isOwn_ok w2 c.1.1
            refine ⟨v0, hσ, ρ1, F2, Z1, _, sk1, ρ2, w2, ek1, fun u1 H2 F3 Z2 s3 w3 r3 => ?_⟩
            have hu1 := bor_int r3
            subst hu1
            have ho3 := Own.over ho fl.toOff s3
            have s4 := s2.seq s3 (fun _ m => m) fun _ m => mr (mr (ml m))
            obtain ⟨p, vs, q, hσ1, h1, i1⟩ := rowL_ok w3 cr
            rw [hσ] at hσ1
            cases hσ1
            refine ⟨p, vs, m, .ref q, rfl, rfl, .inl (.inl h1), i1, ρ2, F3, Z2, _, sk, ρ3, w3, ek, fun u2 H3 F4 Z3 s6 w6 r6 => ?_⟩
            have hu2 := bor_int r6
            subst hu2
            have fl3 : Own X.K H3 v y [] := Own.over ho3 ⟨List.nodup_nil, fun _ m => (nomatch m), fun _ m => (nomatch m)⟩ s6
            have s7 := s4.seq s6 (E := effS (.set2 i k1 k e)) (fun _ m => m) fun _ m => mr (mr (mr (ml m)))
            obtain ⟨p', vs', q', us', j, F', h1', h2', h3', h4', h5', s8, w8⟩ := put_item2 s7 w6 (mr (mr (mr (mr List.mem_cons_self)))) e3 os ey fl3
            rw [hσ] at h1'
            cases h1'
            obtain ⟨vs2, _, x1, x2, _⟩ := slot_list w3 w6 s6 c.2 e3 os hσ
            rw [h1] at x1
            cases x1
            rw [h2'] at x2
            cases x2
            rw [i1] at h3'
            cases h3'
            exact ⟨q, us', n, j, rfl, rfl, h4', h5', kk σ _ F' Z3 s8 w8 .refl⟩
          split at he
          · rename_i xs e3
            split at he
            · rename_i ys ey
              cases he
              exact main _ _ xs ys e3 (.own _ _) ey rfl
            · cases he
          · rename_i xs e3
            split at he
            · rename_i ys ey
              cases he
              exact main _ _ xs ys e3 (.byr _ _) ey rfl
            · cases he
          · cases he
        · cases he
      · cases he
    · cases he
  · cases he
theorem itemL_ok {K : Fr'} {H : Hp} {ρ : Ro} {σ : L2.St} {F : Fa} {Z : Addr → Prop} {i : Nat} {n x : Int} (w : W K H ρ σ F Z) (h : itemL ρ i n = some x) : ∃ p vs, σ[i]? = some (some (.ref p)) ∧ SqL K H p vs ∧ atI vs n = some (.int x) := by
  have go : ∀ xs, (ρ[i]? = some (.own (.list xs)) ∨ ρ[i]? = some (.byr (.list xs))) → (∃ j, pixN xs.length n = some j ∧ xs[j]? = some (.int x)) → ∃ p vs, σ[i]? = some (some (.ref p)) ∧ SqL K H p vs ∧ atI vs n = some (.int x) := by
    rintro xs e ⟨j, e1, e2⟩
    obtain ⟨v0, hσ, ho⟩ : ∃ v, σ[i]? = some (some v) ∧ Own K H v (.list xs) (F i) := e.elim (fun e => w.slot i _ e) fun e => w.slot i _ e
    generalize F i = A0 at ho
    cases ho with
    | lst h1 t =>
      obtain ⟨v, ev, hb⟩ := BorL.get (t.bor (b := false) (P := fun _ => True) fun _ _ => trivial) e2
      rw [int_of hb] at ev
      exact ⟨_, _, hσ, .inl (.inl h1), pix_atI (by rw [t.length]; exact e1) ev⟩
  unfold itemL at h
  split at h
  · rename_i xs e
    split at h
    · rename_i j e1
      split at h
      · rename_i z e2
        cases h
        exact go xs (.inl e) ⟨j, e1, e2⟩
      · cases h
    · cases h
  · rename_i xs e
    split at h
    · rename_i j e1
      split at h
      · rename_i z e2
        cases h
        exact go xs (.inr e) ⟨j, e1, e2⟩
      · cases h
    · cases h
  · cases h
theorem augx_to {op : Operator} {i : Nat} {k e : IE} {D : Ends} {σ : L2.St} {H : Hp} (h : tX X.K (exec C (.augx op i k e)) (effS (.augx op i k e)) (asS (.augx op i k e)) D σ H) :
    tAugS (tVar i) (tE X.K C k) (tE X.K C e) (rIxL X.K) (rAug op) rSetL D σ H := by
  obtain ⟨ρ, F, Z, o, w, he, kk⟩ := h
  simp only [exec] at he
  obtain ⟨c, he⟩ := pair_if he
  simp only [Bool.and_eq_true, Bool.not_eq_true', List.contains_eq_mem, decide_eq_false_iff_not] at c
  split at he
  · rename_i n sk ρ1 ek
    split at he
    · rename_i x ex
      split at he
      · rename_i y sy ρ2 ea
        split at he
        · rename_i z ez
          have main : ∀ (sl sl' : Slot) (xs ys : List PyData), ρ2[i]? = some sl → OwnSlot sl (.list xs) sl' (.list ys) → setL xs n (.int z) = some ys → o = .nx (ρ2.set i sl') →
              tAugS (tVar i) (tE X.K C k) (tE X.K C e) (rIxL X.K) (rAug op) rSetL D σ H := by
            intro sl sl' xs ys e3 os ey eo
            subst eo
            obtain ⟨v0, hσ⟩ := isOwn_ok w c.1.1
            refine ⟨v0, hσ, ρ, F, Z, _, sk, ρ1, w, ek, fun u1 H1 F1 Z1 s1 w1 r1 => ?_⟩
            have hu1 := bor_int r1
            subst hu1
            obtain ⟨p, vs, g1, g2, g3⟩ := itemL_ok w1 ex
            rw [hσ] at g1
            cases g1
            refine ⟨p, vs, n, _, rfl, rfl, g2, g3, ρ1, F1, Z1, _, sy, ρ2, w1, ea, fun u2 H2 F2 Z2 s2 w2 r2 => ?_⟩
            have hu2 := bor_int r2
            subst hu2
            have s3 := s1.seq s2 (E := effS (.augx op i k e)) (fun _ => ml) fun _ m => mr (ml m)
            obtain ⟨p', vs', j, F', h1, h2, h3, s5, w5, _⟩ := put_item s3 w2 (mr (mr List.mem_cons_self)) e3 os ey (.int z) Fl.nil
            rw [hσ] at h1
            cases h1
            exact .inl ⟨x, y, z, rfl, rfl, ez, p, vs', n, j, rfl, rfl, h2, h3, kk σ _ F' Z2 s5 w5 .refl⟩
          split at he
          · rename_i xs e3
            split at he
            · rename_i ys ey
              cases he
              exact main _ _ xs ys e3 (.own _ _) ey rfl
            · cases he
          · rename_i xs e3
            split at he
            · rename_i ys ey
              cases he
              exact main _ _ xs ys e3 (.byr _ _) ey rfl
            · cases he
          · cases he
        · cases he
      · cases he
    · cases he
  · cases he
/-! ### the checker of statements -/
def parN (S : Sx) : List Nat → List Expr → List Str → Bool
  | [], [], [] => true
  | i :: is, .Name x _ :: ts, y :: ys => decide (x = y) && decide (S.N[i]? = some x) && loc1B S.sc x && !is.contains i && parN S is ts ys
  | _, _, _ => false
def asgC (S : Sx) (tg ex : Expr) (p : Pos) : Bool := match tg, ex with
  | .Name y py, .ListComp _ _ scope p' => !swLc S.sc scope y py p'
  | .Tuple _ _ _, .ListComp _ _ _ _ => true
  | _, ex => notComp ex
def chkPs (G : Gx) (S : Sx) : IPs → List Expr → Bool
  | .nil, [] => true
  | .nm i r, x :: ts => chkG S (.nm i) x && chkPs G S r ts
  | .at i k r, .Subscript (.Name x _) kx _ :: ts => nameB S i x && notSlice kx && chkE G S k kx && chkPs G S r ts
  | _, _ => false
mutual
def chkS (G : Gx) (S : Sx) : IS → Stmt → Bool
  | .puts ps e, .Assign [.Tuple ts kt pt] ex p => chkE G S e ex && chkPs G S ps ts && swNone S.sc (.Tuple ts kt pt) ex && asgC S (.Tuple ts kt pt) ex p
  | .set2 i k1 k e, .Assign [.Subscript (.Subscript (.Name x _) k1x _) kx _] ex _ => nameB S i x && notSlice k1x && notSlice kx && chkE G S k1 k1x && chkE G S k kx && chkE G S e ex
  | .augx op i k e, .AugAssign (.Subscript (.Name x _) kx _) op' ex _ => decide (op = op') && nameB S i x && notSlice kx && chkE G S k kx && chkE G S e ex
  | .asg g e, .Assign [tg] ex p => chkE G S e ex && chkG S g tg && swNone S.sc tg ex && (asgC S tg ex p || setC S g e tg ex)
  | .par is es, .Assign [.Tuple ts _ _] (.Tuple vs _ _) _ => swSome S.sc ts vs && parN S is ts (swNames S.sc ts) && chks G S es vs
  | .set i k e, .Assign [.Subscript (.Name x _) kx _] ex _ => nameB S i x && notSlice kx && chkE G S k kx && chkE G S e ex
  | .aug op i e, .AugAssign (.Name x _) op' ex _ => decide (op = op') && decide (S.N[i]? = some x) && locB S.rw x && chkE G S e ex
  | .expr e, .Expr x _ => notComp x && chkE G S e x
  | .pass, .Pass _ => true
  | .pass, .Expr (.Constant (.str _) _ _) _ => true
  | .ifs t a b, .If c sa sb _ => chkT G S t c && chkSs G S a sa && chkSs G S b sb
  | .whl t b, .While c sb [] _ => chkT G S t c && chkSs G S b sb
  | .for g it b, .For tg ie sb [] _ => chkI G S it ie && tgI it tg && notSet ie && chkG S g tg && chkSs G S b sb
  | .ret e, .Return (some x) _ => chkE G S e x
  | .retN, .Return none _ => true
  | .never, _ => true
  | _, _ => false
def chkSs (G : Gx) (S : Sx) : ISs → List Stmt → Bool
  | .nil, [] => true
  | .cons s ss, st :: sts => chkS G S s st && chkSs G S ss sts
  | _, _ => false
/-- name = [..] on one line, the name a local -/
def setC (S : Sx) : IG → IE → Expr → Expr → Bool
  | .nm _, .lc _ _ _ _ _, .Name y py, .ListComp _ _ scope p' => swLc S.sc scope y py p'
  | .nm _, .lc2 _ _ _ _ _ _ _ _, .Name y py, .ListComp _ _ scope p' => swLc S.sc scope y py p'
  | _, _, _, _ => false
end
theorem swLc_loc {sc scope : Scope} {y : Str} {py p : Pos} (h : swLc sc scope y py p = true) : sc.names.lookup y = some .local := by
  simp only [swLc, Bool.and_eq_true, beq_iff_eq] at h
  exact h.1.1
theorem asgC_ok (ok : Ok X G S C) {tg ex : Expr} {p : Pos} (h : asgC S tg ex p = true) : swapsWithSole [tg] ex p.line X.env = pure false := by
  cases ex with
  | ListComp elt gs scope p' =>
    cases tg with
    | Name y py =>
      simp only [asgC, Bool.not_eq_true'] at h
      show swapsWith (.ListComp elt gs scope p') (some (.Name y py)) p.line X.env = pure false
      rw [sw_lc ok, h]
    | Tuple => rfl
    | _ => simp [asgC, notComp] at h
  | SetComp => cases tg <;> simp [asgC, notComp] at h
  | DictComp => cases tg <;> simp [asgC, notComp] at h
  | _ => exact sole_pure rfl
theorem ss_set (ok : Ok X G S C) {i : Nat} {k e : IE} {x : Str} {kx ex : Expr} {px pt p : Pos} (hx : nameB S i x = true) (hk : notSlice kx = true) (hkx : PE X kx (tE X.K C k)) (he : PE X ex (tE X.K C e)) :
    PS X (.Assign [.Subscript (.Name x px) kx pt] ex p) (tX X.K (exec C (.set i k e)) (effS (.set i k e)) (asS (.set i k e))) := by
  unfold nameB at hx
  simp only [Bool.and_eq_true, decide_eq_true_eq] at hx
  obtain ⟨h1, h2, _⟩ := nodun_ok hx.2
  have hv : PE X (.Name x px) (tVar i) := pe_var (by rw [ok.hN]; exact hx.1.1) (by rw [ok.sc]; exact visB_ok hx.1.2) h1 h2
  exact (ps_asg he (pg_sub hv hkx set_list (by cases kx <;> first | (intro _; rfl) | cases hk)) (by cases ex <;> rfl) (by cases ex <;> rfl)).of fun D σ H h => set_to h
theorem pg_at (ok : Ok X G S C) {i : Nat} {k : IE} {x : Str} {kx : Expr} {px pt : Pos} (hx : nameB S i x = true) (hk : notSlice kx = true) (hkx : PE X kx (tE X.K C k)) (hv : PE X (.Name x px) (tVar i)) : PG X (.Subscript (.Name x px) kx pt) (gSub (tVar i) (tE X.K C k) rSetL) :=
  pg_sub hv hkx set_list (by cases kx <;> first | (intro _; rfl) | cases hk)
theorem name_var (ok : Ok X G S C) {i : Nat} {x : Str} {px : Pos} (hx : nameB S i x = true) : PE X (.Name x px) (tVar i) := by
  unfold nameB at hx
  simp only [Bool.and_eq_true, decide_eq_true_eq] at hx
  obtain ⟨h1, h2, _⟩ := nodun_ok hx.2
  exact pe_var (by rw [ok.hN]; exact hx.1.1) (by rw [ok.sc]; exact visB_ok hx.1.2) h1 h2
theorem ss_set2 (ok : Ok X G S C) {i : Nat} {k1 k e : IE} {x : Str} {k1x kx ex : Expr} {px pt pt2 p : Pos} (hx : nameB S i x = true) (hk1 : notSlice k1x = true) (hk : notSlice kx = true) (hk1x : PE X k1x (tE X.K C k1)) (hkx : PE X kx (tE X.K C k)) (he : PE X ex (tE X.K C e)) :
    PS X (.Assign [.Subscript (.Subscript (.Name x px) k1x pt2) kx pt] ex p) (tX X.K (exec C (.set2 i k1 k e)) (effS (.set2 i k1 k e)) (asS (.set2 i k1 k e))) :=
  (ps_asg he (pg_sub (pe_ix ix_list (name_var ok hx) hk1x (ix_plain hk1)) hkx set_list (by cases kx <;> first | (intro _; rfl) | cases hk)) (by cases ex <;> rfl) (by cases ex <;> rfl)).of fun D σ H h => set2_to h
theorem ss_augx (ok : Ok X G S C) {op : Operator} {i : Nat} {k e : IE} {x : Str} {kx ex : Expr} {px pt p : Pos} (hx : nameB S i x = true) (hk : notSlice kx = true) (hkx : PE X kx (tE X.K C k)) (he : PE X ex (tE X.K C e)) :
    PS X (.AugAssign (.Subscript (.Name x px) kx pt) op ex p) (tX X.K (exec C (.augx op i k e)) (effS (.augx op i k e)) (asS (.augx op i k e))) :=
  (ps_augS (name_var ok hx) hkx get_list he (ip_aug op) set_list (by cases kx <;> first | (intros; rfl) | cases hk)).of fun D σ H h => augx_to h
theorem ss_puts (ok : Ok X G S C) {ps : IPs} {e : IE} {ts : List Expr} {kt : Nat} {ex : Expr} {pt p : Pos} (he : PE X ex (tE X.K C e)) (hp : PGs X ts (tPs X.K C ps) ∧ ts.all notStar = true ∧ ts.length = ps.len) (hw : swNone S.sc (.Tuple ts kt pt) ex = true) (hc : asgC S (.Tuple ts kt pt) ex p = true) :
    PS X (.Assign [.Tuple ts kt pt] ex p) (tX X.K (exec C (.puts ps e)) (effS (.puts ps e)) (asS (.puts ps e))) :=
  (ps_asg he (pg_tup (n := ps.len) ok.calm hp.1 ((assignEach_plain hp.2.1).1.trans hp.2.2) (assignEach_plain hp.2.1).2) (asgC_ok ok hc) (sw_none ok hw)).of fun D σ H h => puts_to tPs_len h
theorem ss_aug (ok : Ok X G S C) {op : Operator} {i : Nat} {e : IE} {x : Str} {ex : Expr} {px p : Pos} (h1 : S.N[i]? = some x) (h2 : locB S.rw x = true) (he : PE X ex (tE X.K C e)) :
    PS X (.AugAssign (.Name x px) op ex p) (tX X.K (exec C (.aug op i e)) (effS (.aug op i e)) (asS (.aug op i e))) := by
  obtain ⟨hl, hf⟩ := ok.sto x h2
  exact (ps_aug (by rw [ok.hN]; exact ok.nd) (by rw [ok.hN]; exact h1) (by rw [ok.sc]; exact hl) he (ip_aug op) (by rw [ok.sc]; exact hf)).of fun D σ H h => aug_to h
theorem loc1_ok {sc : Scope} {x : Str} (h : loc1B sc x = true) : sc.names.lookup x = some .local := by
  unfold loc1B at h
  split at h
  · assumption
  · cases h
theorem swNames_len {sc : Scope} {ts vs : List Expr} (h : swSome sc ts vs = true) : (ts.length = 2 ∨ ts.length = 3) ∧ vs.length = ts.length := by
  simp only [swSome, Bool.and_eq_true, Bool.or_eq_true, beq_iff_eq] at h
  exact ⟨h.1.1.1.1.1.1, h.1.1.1.1.1.2⟩
theorem ss_par (ok : Ok X G S C) {is : List Nat} {es : IEs} {ts vs : List Expr} {k k2 : Nat} {pt p2 p : Pos} (h1 : swSome S.sc ts vs = true) (h2 : parN S is ts (swNames S.sc ts) = true) (ha : PA X vs (tAs X.K C es)) :
    PS X (.Assign [.Tuple ts k pt] (.Tuple vs k2 p2) p) (tX X.K (exec C (.par is es)) (effS (.par is es)) (asS (.par is es))) := by
  have hw := sw_some ok (k := k) (k2 := k2) (p := pt) (p2 := p2) h1
  obtain ⟨hl, hv⟩ := swNames_len h1
  generalize swNames S.sc ts = ys at h2 hw
  have nd : X.N.Nodup := by rw [ok.hN]; exact ok.nd
  rcases hl with hl | hl
  · obtain ⟨t1, t2, rfl⟩ : ∃ a b, ts = [a, b] := by
      match ts, hl with
      | [a, b], _ => exact ⟨a, b, rfl⟩
    obtain ⟨v1, v2, rfl⟩ : ∃ a b, vs = [a, b] := by
      match vs, hv with
      | [a, b], _ => exact ⟨a, b, rfl⟩
    unfold parN at h2
    split at h2
    · rename_i q
      cases q
    · rename_i i is x px ts1 y ys q
      cases q
      simp only [Bool.and_eq_true, decide_eq_true_eq, Bool.not_eq_true', List.contains_eq_mem, decide_eq_false_iff_not] at h2
      obtain ⟨⟨⟨⟨rfl, a1⟩, a2⟩, a3⟩, h2⟩ := h2
      unfold parN at h2
      split at h2
      · rename_i q
        cases q
      · rename_i j is x2 px2 ts1 y2 ys q
        cases q
        simp only [Bool.and_eq_true, decide_eq_true_eq, Bool.not_eq_true', List.contains_eq_mem, decide_eq_false_iff_not] at h2
        obtain ⟨⟨⟨⟨rfl, b1⟩, b2⟩, b3⟩, h2⟩ := h2
        unfold parN at h2
        split at h2
        · refine (ps_par (i := i) (j := j) ok.calm nd (by rw [ok.hN]; exact a1) (by rw [ok.hN]; exact b1) (fun z => a3 (by simp [z])) (by rw [ok.sc]; exact loc1_ok a2) (by rw [ok.sc]; exact loc1_ok b2) ha hw).of fun D σ H h => ?_
          obtain ⟨ρ, F, Z, ds, ρ', w, he, kk⟩ := par_to h
          refine ⟨ρ, F, Z, ds, ρ', w, he, fun us H1 F1 Z1 s1 w1 r1 => ?_⟩
          obtain ⟨l, q⟩ := kk us H1 F1 Z1 s1 w1 r1
          match us, l with
          | [u1, u2], _ => exact ⟨u1, u2, rfl, q⟩
        · rename_i q
          cases q
        · cases h2
      · cases h2
    · cases h2
  · obtain ⟨t1, t2, t3, rfl⟩ : ∃ a b c, ts = [a, b, c] := by
      match ts, hl with
      | [a, b, c], _ => exact ⟨a, b, c, rfl⟩
    obtain ⟨v1, v2, v3, rfl⟩ : ∃ a b c, vs = [a, b, c] := by
      match vs, hv with
      | [a, b, c], _ => exact ⟨a, b, c, rfl⟩
    unfold parN at h2
    split at h2
    · rename_i q
      cases q
    · rename_i i is x px ts1 y ys q
      cases q
      simp only [Bool.and_eq_true, decide_eq_true_eq, Bool.not_eq_true', List.contains_eq_mem, decide_eq_false_iff_not] at h2
      obtain ⟨⟨⟨⟨rfl, a1⟩, a2⟩, a3⟩, h2⟩ := h2
      unfold parN at h2
      split at h2
      · rename_i q
        cases q
      · rename_i j is x2 px2 ts1 y2 ys q
        cases q
        simp only [Bool.and_eq_true, decide_eq_true_eq, Bool.not_eq_true', List.contains_eq_mem, decide_eq_false_iff_not] at h2
        obtain ⟨⟨⟨⟨rfl, b1⟩, b2⟩, b3⟩, h2⟩ := h2
        unfold parN at h2
        split at h2
        · rename_i q
          cases q
        · rename_i l is x3 px3 ts1 y3 ys q
          cases q
          simp only [Bool.and_eq_true, decide_eq_true_eq, Bool.not_eq_true', List.contains_eq_mem, decide_eq_false_iff_not] at h2
          obtain ⟨⟨⟨⟨rfl, c1⟩, c2⟩, c3⟩, h2⟩ := h2
          unfold parN at h2
          split at h2
          · refine (ps_par3 (i := i) (j := j) (l := l) ok.calm nd (by rw [ok.hN]; exact a1) (by rw [ok.hN]; exact b1) (by rw [ok.hN]; exact c1) (fun z => a3 (by simp [z])) (fun z => a3 (by simp [z])) (fun z => b3 (by simp [z])) (by rw [ok.sc]; exact loc1_ok a2) (by rw [ok.sc]; exact loc1_ok b2) (by rw [ok.sc]; exact loc1_ok c2) ha hw).of fun D σ H h => ?_
            obtain ⟨ρ, F, Z, ds, ρ', w, he, kk⟩ := par_to h
            refine ⟨ρ, F, Z, ds, ρ', w, he, fun us H1 F1 Z1 s1 w1 r1 => ?_⟩
            obtain ⟨l, q⟩ := kk us H1 F1 Z1 s1 w1 r1
            match us, l with
            | [u1, u2, u3], _ => exact ⟨u1, u2, u3, rfl, q⟩
          · rename_i q
            cases q
          · cases h2
        · cases h2
      · cases h2
    · cases h2
end
end Zr

set_option maxRecDepth 100000
set_option maxHeartbeats 16000000
/-! ZrT: what the checker accepts does what the evaluator says (statements). -/
namespace Zr
open PySem PySem.Spec PyProof.Rows L2
section
variable {X : Cx} {G : Gx} {S : Sx} {C : CallF}
theorem inv_lc {own : List Nat} {elt : IE} {g : IG} {it : II} {t : IC} {x : Expr} (h : chkE G S (.lc own elt g it t) x = true) : ∃ ex tg ie ifs scope p, x = .ListComp ex [⟨tg, ie, ifs, 0⟩] scope p ∧ blkC S.N S.sc scope (ownOf S own) = true ∧ chkI G S it ie = true ∧ tgI it tg = true ∧ notSet ie = true ∧ chkG (inner S scope) g tg = true ∧ chkC G (inner S scope) t ifs = true ∧ chkE G (inner S scope) elt ex = true := by
  unfold chkE at h
  split at h
  all_goals first | (rename_i q; cases q; done) | (cases h; done) | skip
  · rename_i q
    cases q
    rw [Bool.and_eq_true, Bool.and_eq_true, Bool.and_eq_true, Bool.and_eq_true, Bool.and_eq_true, Bool.and_eq_true] at h
    obtain ⟨⟨⟨⟨⟨⟨h1, h2⟩, h3⟩, h4⟩, h5⟩, h6⟩, h7⟩ := h
    exact ⟨_, _, _, _, _, _, rfl, h1, h2, h3, h4, h5, h6, h7⟩
theorem inv_lc2 {own : List Nat} {elt : IE} {g g1 : IG} {it it1 : II} {t t1 : IC} {x : Expr} (h : chkE G S (.lc2 own elt g it t g1 it1 t1) x = true) : ∃ ex tg ie ifs tg1 ie1 ifs1 scope p, x = .ListComp ex [⟨tg, ie, ifs, 0⟩, ⟨tg1, ie1, ifs1, 0⟩] scope p ∧ blkC S.N S.sc scope (ownOf S own) = true ∧ chkI G S it ie = true ∧ tgI it tg = true ∧ notSet ie = true ∧ chkG (inner S scope) g tg = true ∧ chkC G (inner S scope) t ifs = true ∧
    chkI G (inner S scope) it1 ie1 = true ∧ tgI it1 tg1 = true ∧ notSet ie1 = true ∧ (∀ j ∈ g1.slots, j ∈ own) ∧ chkG (inner S scope) g1 tg1 = true ∧ chkC G (inner S scope) t1 ifs1 = true ∧ chkE G (inner S scope) elt ex = true := by
  unfold chkE at h
  split at h
  all_goals first | (rename_i q; cases q; done) | (cases h; done) | skip
  · rename_i q
    cases q
    rw [Bool.and_eq_true, Bool.and_eq_true, Bool.and_eq_true, Bool.and_eq_true, Bool.and_eq_true, Bool.and_eq_true, Bool.and_eq_true, Bool.and_eq_true, Bool.and_eq_true, Bool.and_eq_true, Bool.and_eq_true, Bool.and_eq_true] at h
    obtain ⟨⟨⟨⟨⟨⟨⟨⟨⟨⟨⟨⟨h1, h2⟩, h3⟩, h4⟩, h5⟩, h6⟩, i2⟩, i3⟩, i4⟩, io⟩, i5⟩, i6⟩, h7⟩ := h
    exact ⟨_, _, _, _, _, _, _, _, _, rfl, h1, h2, h3, h4, h5, h6, i2, i3, i4, fun j m => by simpa using List.all_eq_true.mp io j m, i5, i6, h7⟩
theorem tE_mono {K : Fr'} {e : IE} {σ : L2.St} {H : Hp} {Q Q' : VK} (h : tE K C e σ H Q) (k : ∀ v H', Q v H' → Q' v H') : tE K C e σ H Q' := by
  obtain ⟨ρ, F, Z, d, st, ρ', w, he, q⟩ := h
  exact ⟨ρ, F, Z, d, st, ρ', w, he, fun v H' F' Z' s w r => k v H' (q v H' F' Z' s w r)⟩
theorem setC_ok (ok : Ok X G S C) {e : IE} {g : IG} {tg ex : Expr} {p : Pos} (he : chkE G S e ex = true) (hg : chkG S g tg = true) (h : setC S g e tg ex = true) :
    PS X (.Assign [tg] ex p) (tX X.K (exec C (.asg g e)) (effS (.asg g e)) (asS (.asg g e))) := by
  unfold setC at h
  split at h
  · rename_i i own elt g0 it t y py elt' gs scope p'
    simp only [chkG, Bool.and_eq_true, decide_eq_true_eq] at hg
    obtain ⟨_, tg0, ie0, ifs0, _, _, ee, h1, h2, h3, h4, h5, h6, h7⟩ := inv_lc he
    cases ee
    · have bok : BlkOk X.N X.env.scope scope (ownOf S own) := by
        rw [ok.hN, ok.sc]
        exact blkOk_by h1
      have okB := fun s H c cl fp => ok.blk (scope := scope) bok.kind s H c cl fp
      refine (ps_setLc (wi := tIt X.K C it) (g := tGt X.K g0) (tt := tCt X.K C t) (te := tE X.K C elt) ok.calm (by rw [ok.hN]; exact ok.nd) (by rw [ok.hN]; exact hg.1.1) (by rw [ok.sc]; exact swLc_loc h) (by rw [sw_lc ok, h]) (sndI it ok _ _ h2 h3) bok
        (fun s H c cl fp => sg_all (okB s H c cl fp) g0 _ h5) (fun s H c cl fp => sndC t (okB s H c cl fp) _ h6) (fun s H c cl fp => sndE elt (okB s H c cl fp) _ h7) (fold_of h4)).of fun D σ H hh => ?_
      rw [ownOf_map]
      have a := asg_to hh
      exact lc_to (tE_mono a fun x H1 q => nm_to q)
  · rename_i i own elt g0 it t g1 it1 t1 y py elt' gs scope p'
    simp only [chkG, Bool.and_eq_true, decide_eq_true_eq] at hg
    obtain ⟨_, tg0, ie0, ifs0, tg2, ie2, ifs2, _, _, ee, h1, h2, h3, h4, h5, h6, i2, i3, i4, hown, i5, i6, h7⟩ := inv_lc2 he
    cases ee
    · have bok : BlkOk X.N X.env.scope scope (ownOf S own) := by
        rw [ok.hN, ok.sc]
        exact blkOk_by h1
      have okB := fun s H c cl fp => ok.blk (scope := scope) bok.kind s H c cl fp
      refine (ps_setLc2 (wi := tIt X.K C it) (g := tGt X.K g0) (tt := tCt X.K C t) (te := tE X.K C elt) (wi1 := tIt X.K C it1) (g1 := tGt X.K g1) (tt1 := tCt X.K C t1) (vs1 := g1.slots) ok.calm (by rw [ok.hN]; exact ok.nd) (by rw [ok.hN]; exact hg.1.1) (by rw [ok.sc]; exact swLc_loc h) (by rw [sw_lc ok, h]) (sndI it ok _ _ h2 h3) bok (fun j m => by rw [ownOf_map]; exact hown j m)
        (fun s H c cl fp => sg_all (okB s H c cl fp) g0 _ h5) (fun s H c cl fp => sndC t (okB s H c cl fp) _ h6) (fun s H c cl fp => sndI it1 (okB s H c cl fp) _ _ i2 i3) (fun s H c cl fp => sg_all (okB s H c cl fp) g1 _ i5) (fun s H c cl fp => sndC t1 (okB s H c cl fp) _ i6) (fun s H c cl fp => sndE elt (okB s H c cl fp) _ h7) (fold_of h4) fun env => fold_of i4).of fun D σ H hh => ?_
      rw [ownOf_map]
      have a := asg_to hh
      exact lc2_to hown (tE_mono a fun x H1 q => nm_to q)
  · cases h
end
section
variable {G : Gx} {C : CallF}
theorem sndPs {X : Cx} {S : Sx} (ok : Ok X G S C) : ∀ (ps : IPs) (ts : List Expr), chkPs G S ps ts = true → PGs X ts (tPs X.K C ps) ∧ ts.all notStar = true ∧ ts.length = ps.len
  | .nil, ts, h => by
    unfold chkPs at h
    split at h
    all_goals first | (rename_i q; cases q; done) | (cases h; done) | skip
    exact ⟨sps_nil, rfl, rfl⟩
  | .nm i r, ts, h => by
    unfold chkPs at h
    split at h
    all_goals first | (rename_i q; cases q; done) | (cases h; done) | skip
    · rename_i q
      cases q
      simp only [Bool.and_eq_true] at h
      obtain ⟨g1, g2, g3⟩ := sndPs ok r _ h.2
      have hs := chkG_star h.1
      exact ⟨sps_nm (sg_all ok _ _ h.1) g1 hs, by simp [hs, g2], congrArg (· + 1) g3⟩
  | .at i k r, ts, h => by
    unfold chkPs at h
    split at h
    all_goals first | (rename_i q; cases q; done) | (cases h; done) | skip
    · rename_i q
      cases q
      simp only [Bool.and_eq_true] at h
      obtain ⟨g1, g2, g3⟩ := sndPs ok r _ h.2
      obtain ⟨⟨⟨h1, h2⟩, h3⟩, _⟩ := h
      exact ⟨sps_at (pg_at ok h1 h2 (sndE k ok _ h3) (name_var ok h1)) g1 rfl, by simp [notStar, g2], congrArg (· + 1) g3⟩
mutual
theorem sndS : ∀ (s : IS) {X : Cx} {S : Sx} (ok : Ok X G S C) (hp : PassesOwn (model X.prog X.w) X.A X.env X.xe) (st : Stmt), chkS G S s st = true → PS X st (tX X.K (exec C s) (effS s) (asS s))
  | .asg g e, X, S, ok, hp, st, h => by
    unfold chkS at h
    split at h
    all_goals first | (rename_i q; cases q; done) | (cases h; done) | skip
    · rename_i q
      cases q
      simp only [Bool.and_eq_true, Bool.or_eq_true] at h
      obtain ⟨⟨⟨h1, h2⟩, h3⟩, h4⟩ := h
      rcases h4 with h4 | h4
      · exact ss_asg ok (sndE e ok _ h1) h2 (asgC_ok ok h4) h3
      · exact setC_ok ok h1 h2 h4
  | .par is es, X, S, ok, hp, st, h => by
    unfold chkS at h
    split at h
    all_goals first | (rename_i q; cases q; done) | (cases h; done) | skip
    · rename_i q
      cases q
      simp only [Bool.and_eq_true] at h
      exact ss_par ok h.1.1 h.1.2 (snds es ok _ h.2)
  | .set i k e, X, S, ok, hp, st, h => by
    unfold chkS at h
    split at h
    all_goals first | (rename_i q; cases q; done) | (cases h; done) | skip
    · rename_i q
      cases q
      simp only [Bool.and_eq_true] at h
      exact ss_set ok h.1.1.1 h.1.1.2 (sndE k ok _ h.1.2) (sndE e ok _ h.2)
  | .puts ps e, X, S, ok, hp, st, h => by
    unfold chkS at h
    split at h
    all_goals first | (rename_i q; cases q; done) | (cases h; done) | skip
    · rename_i q
      cases q
      simp only [Bool.and_eq_true] at h
      exact ss_puts ok (sndE e ok _ h.1.1.1) (sndPs ok ps _ h.1.1.2) h.1.2 h.2
  | .set2 i k1 k e, X, S, ok, hp, st, h => by
    unfold chkS at h
    split at h
    all_goals first | (rename_i q; cases q; done) | (cases h; done) | skip
    · rename_i q
      cases q
      simp only [Bool.and_eq_true] at h
      obtain ⟨⟨⟨⟨⟨h1, h2⟩, h3⟩, h4⟩, h5⟩, h6⟩ := h
      exact ss_set2 ok h1 h2 h3 (sndE k1 ok _ h4) (sndE k ok _ h5) (sndE e ok _ h6)
  | .aug op i e, X, S, ok, hp, st, h => by
    unfold chkS at h
    split at h
    all_goals first | (rename_i q; cases q; done) | (cases h; done) | skip
    · rename_i q
      cases q
      simp only [Bool.and_eq_true, decide_eq_true_eq] at h
      obtain ⟨⟨⟨rfl, h1⟩, h2⟩, h3⟩ := h
      exact ss_aug ok h1 h2 (sndE e ok _ h3)
  | .augx op i k e, X, S, ok, hp, st, h => by
    unfold chkS at h
    split at h
    all_goals first | (rename_i q; cases q; done) | (cases h; done) | skip
    · rename_i q
      cases q
      simp only [Bool.and_eq_true, decide_eq_true_eq] at h
      obtain ⟨⟨⟨⟨rfl, h2⟩, h3⟩, h4⟩, h5⟩ := h
      exact ss_augx ok h2 h3 (sndE k ok _ h4) (sndE e ok _ h5)
  | .expr e, X, S, ok, hp, st, h => by
    unfold chkS at h
    split at h
    all_goals first | (rename_i q; cases q; done) | (cases h; done) | skip
    · rename_i q
      cases q
      simp only [Bool.and_eq_true] at h
      exact ss_expr h.1 (sndE e ok _ h.2)
  | .pass, X, S, ok, hp, st, h => by
    unfold chkS at h
    split at h
    all_goals first | (rename_i q; cases q; done) | (cases h; done) | skip
    · exact ss_pass
    · exact ss_doc
  | .ifs t a b, X, S, ok, hp, st, h => by
    unfold chkS at h
    split at h
    all_goals first | (rename_i q; cases q; done) | (cases h; done) | skip
    · rename_i q
      cases q
      simp only [Bool.and_eq_true] at h
      exact ss_if (sndT t ok _ h.1.1).1 (sndSs a ok hp _ h.1.2) (sndSs b ok hp _ h.2)
  | .whl t b, X, S, ok, hp, st, h => by
    unfold chkS at h
    split at h
    all_goals first | (rename_i q; cases q; done) | (cases h; done) | skip
    · rename_i q
      cases q
      simp only [Bool.and_eq_true] at h
      exact ss_while hp (sndT t ok _ h.1).1 (sndSs b ok hp _ h.2)
  | .for g it b, X, S, ok, hp, st, h => by
    unfold chkS at h
    split at h
    all_goals first | (rename_i q; cases q; done) | (cases h; done) | skip
    · rename_i q
      cases q
      simp only [Bool.and_eq_true] at h
      obtain ⟨⟨⟨⟨h1, h2⟩, h3⟩, h4⟩, h5⟩ := h
      exact ss_for ok hp h3 (sndI it ok _ _ h1 h2) (sg_all ok g _ h4) (sndSs b ok hp _ h5)
  | .ret e, X, S, ok, hp, st, h => by
    unfold chkS at h
    split at h
    all_goals first | (rename_i q; cases q; done) | (cases h; done) | skip
    · rename_i q
      cases q
      exact ss_ret (sndE e ok _ h)
  | .retN, X, S, ok, hp, st, h => by
    unfold chkS at h
    split at h
    all_goals first | (rename_i q; cases q; done) | (cases h; done) | skip
    · exact ss_retN
  | .never, X, S, ok, hp, st, h => ss_never
theorem sndSs : ∀ (ss : ISs) {X : Cx} {S : Sx} (ok : Ok X G S C) (hp : PassesOwn (model X.prog X.w) X.A X.env X.xe) (sts : List Stmt), chkSs G S ss sts = true → PSs X sts (tX X.K (execs C ss) (effSs ss) (asSs ss))
  | .nil, X, S, ok, hp, sts, h => by
    cases sts with
    | nil => exact ss_nil
    | cons => simp [chkSs] at h
  | .cons s ss, X, S, ok, hp, sts, h => by
    cases sts with
    | nil => simp [chkSs] at h
    | cons st sts =>
      simp only [chkSs, Bool.and_eq_true] at h
      exact ss_cons (sndS s ok hp st h.1) (sndSs ss ok hp sts h.2)
end
end
end Zr

set_option maxRecDepth 100000
set_option maxHeartbeats 8000000
/-! ZrU: defs: what each promises; the head. -/
namespace Zr
open PySem PySem.Spec PyProof.Rows L2

/-- a def that keeps its promise where no repr is under way -/
structure FnG (P : Program) (w : World) (K : Fr') (mg : Str → Option Value) (base : Heap) (n : Nat) (fa : Addr) (fdt : FuncData) (params : List Str) (say : List V → Hp → VK → Prop) : Prop where
  len : ∀ vals Hx Qx, say vals Hx Qx → vals.length = params.length
  run : ∀ (Ar : Around) (below : List Env) (st : Shared) (Hx : Hp) (given : Args) (raw : List Value) (vals : List V) (Qx : VK), Room n Ar → Ar.guards = some [] → Env0 P w K mg base Ar below st Hx → BindsTo st fdt given (params.zip raw) → Vals vals raw → say vals Hx Qx →
    codeAny (model P w) Ar (.call (.ref fa) given) (CR CX0 below P w Hx st Qx E0) st
section
variable {P : Program} {w : World} {K : Fr'} {mg : Str → Option Value} {base : Heap}
/-- from a body's reading -/
theorem fnG_of {x qual : Str} {stm : Stmt} {fa : Addr} {fdt : FuncData} {N params : List Str} {n : Nat} {say : List V → Hp → VK → Prop} (Fx : Fun K x qual stm fa fdt) (Sx : FnScope N params (defScope stm)) (hlen : ∀ vals Hx Qx, say vals Hx Qx → vals.length = params.length)
    (body : ∀ (code : Value) (Ar : Around) (below : List Env) (st : Shared) (Hx : Hp) (vals : List V) (Qx : VK), Room n (Ar.deeper (envOfC qual (defScope stm) st.heap.objs.size fa code)) → Ar.guards = some [] → say vals Hx Qx →
      ∃ t, PSs (cxOf CX0 P w K mg base N qual (defScope stm) fa code Ar below st Hx E0).nox (defBody stm) t ∧ t { nx := fun _ H' => Qx .non H', rt := Qx } (start N vals) Hx) : FnG P w K mg base (n + 1) fa fdt params say := by
  obtain ⟨ocl, odi, kwd, dc, pmo, ann, code, cty, slots, rfl, found, inK⟩ := Fx.ex
  refine ⟨hlen, fun Ar below st Hx given raw vals Qx room gd e0 bound rel hsay => ?_⟩
  have hl := hlen _ _ _ hsay
  have stands : K.In st.heap := e0.mod.kin.keeps fun b o e => (e0.bs b o e).1
  have nolim : st.heap.NoLimit := e0.mod.nolimit.keeps fun b o e => (e0.bs b o e).1
  have kinds : ∀ y ∈ params.zip raw, (defScope stm).names.lookup y.1 = some .local ∨ ((defScope stm).names.lookup y.1 = some .cell ∧ ((cellsFrom (st.heap.objs.size + 1) (defScope stm).names []).lookup y.1).isSome = true) := by
    rintro ⟨name, val⟩ m
    exact (Sx.par name (List.of_mem_zip m).1).imp id fun c => ⟨c, PySem.W.cellsFrom_some _ _ _ (.inl c)⟩
  refine codeAny_call_function room.depth (stands _ _ found) rfl Sx.co Sx.gen rfl (PySem.W.codeRec_of stands inK) (bound _ _ _ _ (wpAny_newFunctionEnv_cells Sx.kind kinds fun env eenv st1 fresh => ?_))
  subst eenv
  refine ⟨nolim.keeps fresh.toInCall.keep, codeAny_func ?_⟩
  obtain ⟨t, ht, hq⟩ := body code Ar below st Hx vals Qx (room.deeper _) gd hsay
  have inv := inv_start (CX := CX0) (E := E0) Sx room.hd e0 hl rel fresh
  refine wpAny_mono (ht.nox.run [] st1 (start N vals) Hx _ inv hq) (fun fl st2 hs => ?_) fun e st2 hs => hs
  cases fl with
  | ret u =>
    obtain ⟨val, σ', H', J, rv, q⟩ := hs
    exact ⟨val, H', J.os, J.bare, J.base, J.hok, rv, q⟩
  | next =>
    obtain ⟨σ', H', J, q⟩ := hs
    exact ⟨V.non, H', J.os, J.bare, J.base, J.hok, rfl, q⟩
  | brk =>
    obtain ⟨_, _, _, q⟩ := hs
    exact q.elim
  | cont =>
    obtain ⟨_, _, _, q⟩ := hs
    exact q.elim
section
variable {X : Cx} {n : Nat} {fa : Addr} {fdt : FuncData} {params : List Str} {say : List V → Hp → VK → Prop} {x : Str} {p pos : Pos}
/-- its call, wherever it stands -/
theorem call_G (Fx : FnG X.prog X.w X.K X.mg X.base n fa fdt params say) (room : Room n X.A) (gd : X.A.guards = some []) (vis : Gl X x) (there : X.mg x = some (.ref fa)) (kept : PySem.W.keepIn X.K (.ref fa) = true) (binds : Binds X.K fdt params []) {es : List Expr} {t : TA} (ne : es ≠ []) (pl : es.all notStar = true) (ha : PA X es t) (nd : nodun x = true) :
    PE X (.Call (.Name x p) es [] pos) (fun σ H Q => t σ H fun vals H1 => say vals H1 Q) := by
  cases es with
  | nil => exact absurd rfl ne
  | cons e es =>
    simp only [List.all_cons, Bool.and_eq_true] at pl
    refine ⟨fun pins s σ H Q I hq => wpAny_Call_Name_kw (ld_glob I vis there ?_ (nodun_ok nd).1)⟩
    refine PySem.W.callWith_K (h₀ := X.base) I.ok.mod.kin kept (thn (ha.run pos pins s σ H _ I hq) fun raw s1 ⟨vals, H1, I1, rel, q⟩ => ⟨I1.kIn, ?_⟩) (star_of pl.1) (pl_of pl.2)
    have hl : raw.length = params.length := by rw [← rel.length]; exact Fx.len _ _ _ q
    have bd := binds s1 raw I1.kIn (by rw [List.append_nil]; exact hl)
    rw [List.append_nil] at bd
    refine wpAny_call (codeAny_mono (Fx.run X.A X.stack s1 H1 ⟨raw, []⟩ raw vals Q room gd I1.env0 bd rel q) fun r s' hr => ?_)
    cases r with
    | error e => exact hr.elim
    | ok fl =>
      cases fl with
      | ret u => exact I1.after hr
      | next => exact hr.elim
      | brk => exact hr.elim
      | cont => exact hr.elim
end
end
end Zr

set_option maxRecDepth 100000
set_option maxHeartbeats 8000000
/-! ZrV: every def of the table keeps its promise. -/
namespace Zr
open PySem PySem.Spec PyProof.Rows L2

def kindB : ScopeKind → Bool
  | .function => true
  | _ => false
def freeB : NameKind → Bool
  | .free => true
  | _ => false
/-- what is looked up of a def: its term, its row of the text, its names, its parameters -/
def fnC (G : Gx) (d : Fd) (stm : Stmt) (N ps : List Str) : Bool :=
  kindB (defScope stm).kind && !(defScope stm).isCoroutine && !(defScope stm).isGenerator && decide N.Nodup && decide (N.take ps.length = ps) && ps.all (locB (defScope stm)) && (defScope stm).names.all (fun y => !freeB y.2) &&
    decide (ps.length = d.nparams) && decide (N.length = d.nslots) && chkSs G ⟨N, defScope stm, defScope stm⟩ d.body (defBody stm) && (match d.mode with
      | .plain => true
      | .byr => decide (1 ≤ d.nparams) && !(asSs d.body).contains 0
      | .scr => decide (1 ≤ d.nparams))
theorem fnC_scope {G : Gx} {d : Fd} {stm : Stmt} {N ps : List Str} (h : fnC G d stm N ps = true) : FnScope N ps (defScope stm) ∧ ps.length = d.nparams ∧ N.length = d.nslots ∧ chkSs G ⟨N, defScope stm, defScope stm⟩ d.body (defBody stm) = true ∧ (d.mode = .byr → 0 ∉ asSs d.body) := by
  simp only [fnC, Bool.and_eq_true, decide_eq_true_eq, Bool.not_eq_true'] at h
  obtain ⟨⟨⟨⟨⟨⟨⟨⟨⟨⟨h1, h2⟩, h3⟩, h4⟩, h5⟩, h6⟩, h7⟩, h8⟩, h9⟩, h10⟩, h11⟩ := h
  refine ⟨⟨?_, h2, h3, h4, h5, fun x m => lookup_loc (List.all_eq_true.mp h6 x m), fun y m z => ?_⟩, h8, h9, h10, fun e => ?_⟩
  · revert h1
    cases (defScope stm).kind <;> first | (intro _; rfl) | (intro z; cases z)
  · have q := List.all_eq_true.mp h7 y m
    rw [z] at q
    cases q
  · rw [e] at h11
    simp only [Bool.and_eq_true, Bool.not_eq_true', List.contains_eq_mem, decide_eq_false_iff_not] at h11
    exact h11.2
section
variable {K : Fr'} {H : Hp} {F : Fa} {Z : Addr → Prop}
theorem start_w {vs : List V} {sl : List Slot} {m : Nat} (hl : vs.length = sl.length) (hs : ∀ (i : Nat) (s : Slot) (v : V), sl[i]? = some s → vs[i]? = some v → SR K H F Z i (some (some v)) s) (hF : ∀ i, sl.length ≤ i → F i = []) (nd : ∀ i, (F i).Nodup) (dj : ∀ i j a, i ≠ j → a ∈ F i → a ∉ F j) (zd : ∀ i a, a ∈ F i → Z a) :
    W K H (sl ++ List.replicate m .emp) (vs.map some ++ List.replicate m none) F Z := by
  refine ⟨by simp [hl], fun i hi => hF i (by simp at hi; omega), fun i s e => ?_, nd, dj, zd⟩
  by_cases h : i < sl.length
  · rw [List.getElem?_append_left h] at e
    have hv : i < vs.length := by omega
    have ev : vs[i]? = some vs[i] := List.getElem?_eq_getElem hv
    rw [List.getElem?_append_left (by simpa using hv), List.getElem?_map, ev]
    exact hs i s _ e ev
  · rw [List.getElem?_append_right (by omega), List.getElem?_replicate] at e
    split at e
    · cases e
      exact hF i (by omega)
    · cases e
theorem bind1_sr {i : Nat} {v : V} {d : PyData} (h : Bor K H false (fun a => ¬ Z a) v d) (hF : F i = []) : SR K H F Z i (some (some v)) (bind1 d) := by
  unfold bind1
  by_cases p : pur d = true
  · rw [if_pos p]
    exact ⟨hF, p, v, rfl, h.imp fun _ _ => trivial⟩
  · rw [if_neg p]
    exact ⟨hF, v, rfl, h⟩
theorem bindS_sr {vs : List V} {ds : List PyData} (h : BorL K H false (fun a => ¬ Z a) vs ds) {i : Nat} {s : Slot} {v : V} (e : (ds.map bind1)[i]? = some s) (ev : vs[i]? = some v) {j : Nat} (hF : F j = []) : SR K H F Z j (some (some v)) s := by
  rw [List.getElem?_map] at e
  cases ed : ds[i]? with
  | none =>
    rw [ed] at e
    cases e
  | some d =>
    rw [ed] at e
    cases e
    obtain ⟨u, eu, hb⟩ := h.get ed
    rw [ev] at eu
    cases eu
    exact bind1_sr hb hF
/-- the end of a call: nothing of the caller's was touched -/
theorem post_fin {E A : List Nat} {ρ : List Slot} {σ : L2.St} {o : Out} {d : PyData} {r : Option PyData} {Q : VK} (hf : finish none (some o) = some (d, r)) (hF : ∀ i, F i = []) (hp : Post K H [] d Q) : Fin' E A K H ρ F Z σ { nx := fun _ H' => Q .non H', rt := Q } o := by
  have key : ∀ {v : V} {σ' : L2.St} {H' : Hp} {ρ' : List Slot} {F' : Fa} {Z' : Addr → Prop}, Step E H ρ F Z H' ρ' F' Z' → VR E K H F H' ρ' σ' F' Z' v d .fresh → Q v H' := fun {v σ' H' ρ' F' Z'} s ⟨B, hb, fb⟩ =>
    hp v H' B (fun a u e l => s.keep a u e fun _ j _ m => by rw [hF] at m; cases m) s.there hb fb.nodup fun a m => (fb.new a m).elim (fun ⟨i, _, z⟩ => by rw [hF] at z; cases z) .inr
  cases o with
  | nx ρ' =>
    simp only [finish] at hf
    cases hf
    exact fun σ' H' F' Z' s w q => key s (VR.pure (σ := σ') (b := true) (P := fun _ => True) rfl .non)
  | rt d' ρ' =>
    simp only [finish] at hf
    cases hf
    exact fun v σ' H' F' Z' s w q r => key s r
theorem post_finR {E A : List Nat} {ρ : List Slot} {σ : L2.St} {o : Out} {c d c' : PyData} {v0 : V} {B0 : List Addr} {Q : VK} (hf : finish (some c) (some o) = some (d, some c')) (hF : ∀ i, F i = if i = 0 then B0 else []) (hA : 0 ∉ A) (hσ : σ[0]? = some (some v0)) (hp : PostR K H B0 v0 c' d Q) : Fin' E A K H ρ F Z σ { nx := fun _ H' => Q .non H', rt := Q } o := by
  have inF : ∀ {i : Nat} {a : Addr}, a ∈ F i → a ∈ B0 := fun {i a} m => by
    rw [hF] at m
    split at m
    · exact m
    · cases m
  have key : ∀ {v : V} {σ' : L2.St} {H' : Hp} {ρ' : List Slot} {F' : Fa} {Z' : Addr → Prop}, ρ'[0]? = some (.byr c') → Step E H ρ F Z H' ρ' F' Z' → W K H' ρ' σ' F' Z' → SQ A σ σ' → VR E K H F H' ρ' σ' F' Z' v d .fresh → Q v H' := fun {v σ' H' ρ' F' Z'} e s w q ⟨B, hb, fb⟩ => by
    obtain ⟨u, eu, ho⟩ := w.slot 0 _ e
    rw [q 0 hA, hσ] at eu
    cases eu
    exact hp v H' B (F' 0) (fun a u e l => s.keep a u e fun y j _ m => l y (inF m)) s.there hb fb.nodup (fun a m => (fb.new a m).imp (fun ⟨i, _, z⟩ => inF z) id) ho (w.nodup 0)
      (fun a m => (s.own 0 a m).elim (fun z => .inl (inF z)) fun z => z.imp (fun ⟨i, _, z⟩ => inF z) id) fun a m => fb.off a m 0
  cases o with
  | nx ρ' =>
    simp only [finish] at hf
    split at hf
    · rename_i c2 e
      cases hf
      exact fun σ' H' F' Z' s w q => key e s w q (VR.pure (σ := σ') (b := true) (P := fun _ => True) rfl .non)
    · cases hf
  | rt d' ρ' =>
    simp only [finish] at hf
    split at hf
    · rename_i c2 e
      cases hf
      exact fun v σ' H' F' Z' s w q r => key e s w q r
    · cases hf
end
/-- the first slot's own lists -/
def F0 (A : List Addr) : Fa := fun i => if i = 0 then A else []
theorem F0_z {A : List Addr} : F0 A 0 = A := rfl
theorem F0_n {A : List Addr} {i : Nat} (h : i ≠ 0) : F0 A i = [] := if_neg h
section
variable {P : Program} {w : World} {K : Fr'} {mg : Str → Option Value} {base : Heap} {G : Gx} {T : List Fd} {tab : List (Stmt × List Str × List Str)}
/-- what stands behind the top of one def -/
def Stands (K : Fr') (mg : Str → Option Value) (d : Fd) (e : Stmt × List Str × List Str) (fa : Addr) (fdt : FuncData) : Prop := Fun K d.name d.name e.1 fa fdt ∧ mg d.name = some (.ref fa) ∧ Binds K fdt e.2.2 []
structure Tab (P : Program) (w : World) (K : Fr') (mg : Str → Option Value) (G : Gx) (T : List Fd) (tab : List (Stmt × List Str × List Str)) : Prop where
  fns : G.fns = T.map fun d => (d.name, d.nparams, d.mode)
  len : T.length = tab.length
  chk : ∀ (i : Nat) (d : Fd) (e : Stmt × List Str × List Str), T[i]? = some d → tab[i]? = some e → fnC G d e.1 e.2.1 e.2.2 = true
  std : ∀ (i : Nat) (d : Fd) (e : Stmt × List Str × List Str), T[i]? = some d → tab[i]? = some e → ∃ fa fdt, Stands K mg d e fa fdt
  blt : ∀ x ∈ G.blts, mg x = none
  con : ∀ p ∈ G.cons, ∃ u v, mg p.1 = some u ∧ RelV v u ∧ ∀ H, Bor K H false (fun _ => True) v p.2
  tabs : ∀ p ∈ G.tabs, TabF K w mg p.1 p.2
theorem run_some {n : Nat} {i : Nat} {r : Option PyData} {ds : List PyData} {y : PyData × Option PyData} (h : run T (n + 1) i r ds = some y) : ∃ d, T[i]? = some d ∧ (if r.isSome then 1 else 0) + ds.length = d.nparams ∧ modeOk d.mode r = true ∧ d.nparams ≤ d.nslots ∧ finish r (execs (run T n) d.body (startRo d r ds)) = some y := by
  simp only [run] at h
  split at h
  · rename_i d e
    by_cases c : (if r.isSome then 1 else 0) + ds.length = d.nparams ∧ modeOk d.mode r = true ∧ d.nparams ≤ d.nslots
    · rw [if_pos c] at h
      exact ⟨d, e, c.1, c.2.1, c.2.2, h⟩
    · rw [if_neg c] at h
      cases h
  · cases h
theorem finish_some {r : Option PyData} {o : Option Out} {y : PyData × Option PyData} (h : finish r o = some y) : ∃ o', o = some o' := by
  cases o with
  | none => simp [finish] at h
  | some o' => exact ⟨o', rfl⟩
theorem fnG_all (tb : Tab P w K mg G T tab) : ∀ (n i : Nat) (d : Fd) (e : Stmt × List Str × List Str) (fa : Addr) (fdt : FuncData), T[i]? = some d → tab[i]? = some e → Stands K mg d e fa fdt → FnG P w K mg base n fa fdt e.2.2 (spC K (run T n) i d.mode)
  | 0, i, d, e, fa, fdt, hd, he, st => by
    have no : ∀ vals Hx Qx, spC K (run T 0) i d.mode vals Hx Qx → False := fun vals Hx Qx h => by
      cases hm : d.mode with
      | plain =>
        rw [hm] at h
        obtain ⟨_, _, _, _, h, _⟩ := h
        cases h
      | scr =>
        rw [hm] at h
        obtain ⟨_, _, _, _, _, _, _, _, _, h, _⟩ := h
        cases h
      | byr =>
        rw [hm] at h
        obtain ⟨_, _, _, _, _, _, _, _, _, _, _, h, _⟩ := h
        cases h
    exact ⟨fun vals Hx Qx h => (no vals Hx Qx h).elim, fun Ar below stt Hx given raw vals Qx _ _ _ _ _ h => (no vals Hx Qx h).elim⟩
  | n + 1, i, d, e, fa, fdt, hd, he, st => by
    have chk := tb.chk i d e hd he
    obtain ⟨S, hps, hN, hb, h0⟩ := fnC_scope chk
    have lens : ∀ vals Hx Qx, spC K (run T (n + 1)) i d.mode vals Hx Qx → vals.length = e.2.2.length := fun vals Hx Qx h => by
      rw [hps]
      cases hm : d.mode with
      | plain =>
        rw [hm] at h
        obtain ⟨ds, y, o, hbor, hr, _⟩ := h
        obtain ⟨d2, e2, l, _⟩ := run_some hr
        rw [hd] at e2
        cases e2
        rw [hbor.length, ← l]
        simp
      | scr =>
        rw [hm] at h
        obtain ⟨v0, ws, d0, ds, y, o, rfl, hb0, hbor, hr, _⟩ := h
        obtain ⟨d2, e2, l, _⟩ := run_some hr
        rw [hd] at e2
        cases e2
        rw [← l]
        simp [hbor.length]
      | byr =>
        rw [hm] at h
        obtain ⟨v0, ws, c, A, ds, y, c', rfl, ho, nd, hbor, hr, _⟩ := h
        obtain ⟨d2, e2, l, _⟩ := run_some hr
        rw [hd] at e2
        cases e2
        rw [← l]
        simp [hbor.length]
        omega
    refine fnG_of (N := e.2.1) st.1 S lens fun code Ar below stt Hx vals Qx room gd hsay => ?_
    have hl := lens _ _ _ hsay
    have ok : Ok (cxOf CX0 P w K mg base e.2.1 d.name (defScope e.1) fa code Ar below stt Hx E0).nox G ⟨e.2.1, defScope e.1, defScope e.1⟩ (run T n) :=
      ⟨rfl, S.nd, rfl, rfl, S.kind, fun x h => ⟨lookup_loc h, .inl rfl⟩, room.units, gd, tb.blt, tb.con, tb.tabs, fun f nm m mo hf X e1 e2 e3 e4 e5 e6 es t p pos hlen hne hpl hgl hnd ha => by
        rw [tb.fns, List.getElem?_map] at hf
        cases hd2 : T[f]? with
        | none =>
          rw [hd2] at hf
          cases hf
        | some d2 =>
          rw [hd2] at hf
          cases hf
          have lt : f < tab.length := by
            rw [← tb.len]
            exact (List.getElem?_eq_some_iff.mp hd2).1
          have ht2 := List.getElem?_eq_getElem lt
          obtain ⟨fa2, fdt2, st2⟩ := tb.std f d2 _ hd2 ht2
          have F2 := fnG_all tb n f d2 _ fa2 fdt2 hd2 ht2 st2
          have q1 : X.prog = P := e1
          have q2 : X.w = w := e2
          have q3 : X.K = K := e3
          have q4 : X.mg = mg := e4
          have q5 : X.base = base := e5
          rw [← q1, ← q2, ← q3, ← q4, ← q5] at F2
          show PE X _ (fun σ H Q => t σ H fun vs H1 => spC K (run T n) f d2.mode vs H1 Q)
          rw [← q3]
          exact call_G F2 (by rw [e6]; exact room) (by rw [e6]; exact gd) hgl (by rw [e4]; exact st2.2.1) (by rw [e3]; exact st2.1.kp) (by rw [e3]; exact st2.2.2) hne hpl ha hnd⟩
    refine ⟨_, sndSs d.body ok PassesOwn.never _ hb, ?_⟩
    have st0 : L2.start e.2.1 vals = vals.map some ++ List.replicate (d.nslots - d.nparams) none := by
      unfold L2.start
      rw [hN, hl, hps]
    cases hm : d.mode with
    | plain =>
      rw [hm] at hsay
      obtain ⟨ds, y, o, hbor, hr, hpost⟩ := hsay
      obtain ⟨d2, e2, l, _, _, hfin⟩ := run_some hr
      rw [hd] at e2
      cases e2
      obtain ⟨o', ho'⟩ := finish_some hfin
      rw [ho'] at hfin
      have ew : startRo d none ds = ds.map bind1 ++ List.replicate (d.nslots - d.nparams) .emp := by
        simp only [startRo, hm, List.nil_append]
        rfl
      have wst : W K Hx (startRo d none ds) (L2.start e.2.1 vals) (fun _ => []) (fun _ => False) := by
        rw [ew, st0]
        exact start_w (by simp [hbor.length]) (fun i s v es ev => bindS_sr (hbor.imp fun _ _ z => z) es ev rfl) (fun _ _ => rfl) (fun _ => List.nodup_nil) (fun _ _ _ _ m => (nomatch m)) fun _ _ m => (nomatch m)
      exact ⟨_, _, _, o', wst, ho', post_fin hfin (fun _ => rfl) hpost⟩
    | scr =>
      rw [hm] at hsay
      obtain ⟨v0, ws, d0, ds, y, o, rfl, hb0, hbor, hr, hpost⟩ := hsay
      obtain ⟨d2, e2, l, _, _, hfin⟩ := run_some hr
      rw [hd] at e2
      cases e2
      obtain ⟨o', ho'⟩ := finish_some hfin
      rw [ho'] at hfin
      have ew : startRo d none (d0 :: ds) = ((if pur d0 then Slot.pur d0 else .scr d0) :: ds.map bind1) ++ List.replicate (d.nslots - d.nparams) .emp := by
        simp only [startRo, hm, List.nil_append]
        rfl
      have wst : W K Hx (startRo d none (d0 :: ds)) (L2.start e.2.1 (v0 :: ws)) (fun _ => []) (fun _ => False) := by
        rw [ew, st0]
        refine start_w (by simp [hbor.length]) (fun i s v es ev => ?_) (fun _ _ => rfl) (fun _ => List.nodup_nil) (fun _ _ _ _ m => (nomatch m)) fun _ _ m => (nomatch m)
        cases i with
        | zero =>
          simp at es ev
          subst ev
          subst es
          by_cases p : pur d0 = true
          · rw [if_pos p]
            exact ⟨rfl, p, _, rfl, Own.bor (hb0.own p) fun _ m => (nomatch m)⟩
          · rw [if_neg p]
            exact ⟨rfl, _, rfl, hb0.imp fun _ _ z => z⟩
        | succ i => exact bindS_sr (hbor.imp fun _ _ z => z) (by simpa using es) (by simpa using ev) rfl
      exact ⟨_, _, _, o', wst, ho', post_fin hfin (fun _ => rfl) hpost⟩
    | byr =>
      rw [hm] at hsay
      obtain ⟨v0, ws, c, A, ds, y, c', rfl, ho, nd, hbor, hr, hpost⟩ := hsay
      obtain ⟨d2, e2, l, _, _, hfin⟩ := run_some hr
      rw [hd] at e2
      cases e2
      obtain ⟨o', ho'⟩ := finish_some hfin
      rw [ho'] at hfin
      have ew : startRo d (some c) ds = (Slot.byr c :: ds.map bind1) ++ List.replicate (d.nslots - d.nparams) .emp := by
        simp only [startRo, hm]
        rfl
      have wst : W K Hx (startRo d (some c) ds) (L2.start e.2.1 (v0 :: ws)) (F0 A) (fun a => a ∈ A) := by
        rw [ew, st0]
        refine start_w (by simp [hbor.length]) (fun i s v es ev => ?_) (fun i hi => F0_n (by simp at hi; omega)) (fun i => ?_) (fun i j a n m q => ?_) fun i a m => ?_
        · cases i with
          | zero =>
            simp at es ev
            subst ev
            subst es
            exact ⟨_, rfl, ho⟩
          | succ i => exact bindS_sr hbor (by simpa using es) (by simpa using ev) (F0_n (by omega))
        · by_cases h : i = 0
          · rw [h]
            exact nd
          · rw [F0_n h]
            exact List.nodup_nil
        · by_cases h : i = 0
          · have : j ≠ 0 := fun z => n (h.trans z.symm)
            rw [F0_n this] at q
            cases q
          · rw [F0_n h] at m
            cases m
        · by_cases h : i = 0
          · rw [h] at m
            exact m
          · rw [F0_n h] at m
            cases m
      exact ⟨_, _, _, o', wst, ho', post_finR hfin (fun _ => rfl) (h0 hm) (by rw [st0]; rfl) hpost⟩
end
end Zr

set_option maxRecDepth 100000
set_option maxHeartbeats 8000000
/-! ZrX: the head: a row holds when the evaluator answers True. -/
namespace Zr
open PySem PySem.Spec PyProof.Rows L2

/-- the script is all that is tracked -/
def scriptH (a : Addr) (o : Obj) (xs : List V) : Hp := fun b => if b = a then some (.frz o (.lst xs)) else none
section
variable {P : Program} {w : World} {K : Fr'} {mg mb : Str → Option Value} {n : Nat} {fa a : Addr} {fdt : FuncData} {x : Str} {say : List V → Hp → VK → Prop} {st : Shared} {raw : List Value} {ns : List Int}
/-- one call of the law, told by an abstract heap Hx in which nothing is tracked but (perhaps) the script -/
theorem head_at {Hx : Hp} (inK : K.In st.heap) (glob : st.heap.Ns mainGlobals mg) (bts : st.heap.Ns builtinsNs mb) (boot : ∀ y : Str, y ≠ "__name__" → mb y = bootBuiltins y) (nolim : st.heap.NoLimit) (quiet : st.gens = #[])
    (script : st.heap.get? a = some { cls := .type "list", data := .seq raw.toArray }) (room : Room n callerA) (Fl : ∀ base : Heap, K.In base → base.Ns mainGlobals mg → FnG P w K mg base n fa fdt [x] say) (bind : BindsTo st fdt ⟨[.ref a], []⟩ [(x, .ref a)])
    (sy : say [.ref a] Hx fun v _ => v = .bl true) (only : Only Hx) (hok : HOk P w Hx st.heap) (just : ∀ b u, Hx b = some u → b = a ∧ K.lookup a = none) :
    codeAny (model P w) callerA (.call (.ref fa) ⟨[.ref a], []⟩) (fun r s' => r = .ok (.ret (.bool true)) ∧ OldK st.heap s'.heap ∧ s'.os = st.os ∧ AllBare s'.gens) st := by
  have cases_of : ∀ b, (∃ u, Hx b = some u) ∨ Hx b = none := fun b => by
    cases Hx b with
    | none => exact .inr rfl
    | some u => exact .inl ⟨u, rfl⟩
  have nsB : ∀ {L : Addr} {m : Str → Option Value}, st.heap.Ns L m → (hidT st.heap Hx).Ns L m := by
    rintro L m ⟨o, es, ep, h1, h2, h3⟩
    refine ⟨o, es, ep, hidT_get h1 ?_, h2, h3⟩
    rcases cases_of L with ⟨u, eu⟩ | eu
    · have := (just L u eu).1
      subst this
      rw [script] at h1
      cases h1
      cases h2
    · exact eu
  have kB : K.In (hidT st.heap Hx) := fun b o e => hidT_get (inK b o e) (by
    rcases cases_of b with ⟨u, eu⟩ | eu
    · obtain ⟨rfl, e2⟩ := just b u eu
      rw [e2] at e
      cases e
    · exact eu)
  obtain ⟨mc, l1, l2⟩ := nolim
  have e0 : Env0 P w K mg (hidT st.heap Hx) callerA [] st Hx := {
    frames := rfl
    mod := ⟨kB, nsB glob, ⟨mb, nsB bts, boot⟩, ⟨mc, nsB l1, l2⟩⟩
    bs := fun b o e => of_hidT e
    bsz := Nat.le_of_eq (hidT_size _ _)
    funs := trivial
    frf := fun b (m : b ∈ ([] : List Addr)) => (nomatch m)
    hok := hok
    bare := .of_eq quiet }
  have r1 : Vals [V.ref a] [Value.ref a] := .cons rfl .nil
  refine codeAny_mono ((Fl _ kB (nsB glob)).run callerA [] st Hx ⟨[.ref a], []⟩ [.ref a] [.ref a] _ room rfl e0 bind r1 sy) fun res fin h => ?_
  cases res with
  | error ex => exact h.elim
  | ok fl =>
    cases fl with
    | ret val =>
      obtain ⟨v, Hz, same, bare, un, hok2, rel, (q : v = .bl true)⟩ := h
      subst q
      cases (show val = Value.bool true from rel)
      refine ⟨rfl, OldK.of_keep fun b o e => ?_, same, bare⟩
      rcases cases_of b with ⟨u, eu⟩ | eu
      · rcases only b with z | ⟨ob, xs, z⟩
        · rw [eu] at z
          cases z
        · have t1 := (hok b _ z).1
          have t2 := (hok2 b _ (un.frzs b ob _ z)).1
          rw [e] at t1
          cases t1
          exact t2
      · exact un.keep b o e eu (fun (m : b ∈ ([] : List Addr)) => (nomatch m)) (fun (m : b ∈ ([] : List Addr)) => (nomatch m))
    | next => exact h.elim
    | brk => exact h.elim
    | cont => exact h.elim
theorem head_of (inK : K.In st.heap) (glob : st.heap.Ns mainGlobals mg) (bts : st.heap.Ns builtinsNs mb) (boot : ∀ y : Str, y ≠ "__name__" → mb y = bootBuiltins y) (nolim : st.heap.NoLimit) (quiet : st.gens = #[])
    (script : st.heap.get? a = some { cls := .type "list", data := .seq raw.toArray }) (whole : IntsAre raw ns) (few : ns.length ≤ sizeLine) (room : Room n callerA) (Fl : ∀ base : Heap, K.In base → base.Ns mainGlobals mg → FnG P w K mg base n fa fdt [x] say) (bind : BindsTo st fdt ⟨[.ref a], []⟩ [(x, .ref a)])
    (sy : ∀ Hx : Hp, Only Hx → Scr K Hx a (ns.map V.int) → say [.ref a] Hx fun v _ => v = .bl true) :
    codeAny (model P w) callerA (.call (.ref fa) ⟨[.ref a], []⟩) (fun r s' => r = .ok (.ret (.bool true)) ∧ OldK st.heap s'.heap ∧ s'.os = st.os ∧ AllBare s'.gens) st := by
  have vi := vals_ints whole
  have li := whole.length
  cases found : K.lookup a with
  | some o =>
    have e := inK a o found
    rw [script] at e
    cases e
    have none0 : Only (fun _ => none) := fun _ => .inl rfl
    have sz : raw.toArray.size ≤ sizeLine := by
      rw [List.size_toArray, li]
      exact few
    have vv : Vals (ns.map V.int) raw.toArray.toList := by
      simpa using vi
    have kl : KL K a (ns.map V.int) := ⟨_, raw.toArray, _, found, rfl, rfl, rfl, sz, vv⟩
    have sy0 := sy (fun _ => none) none0 (.inr kl)
    have hk : HOk P w (fun _ => none) st.heap := fun b u z => (nomatch z)
    exact head_at (Hx := fun _ => none) inK glob bts boot nolim quiet script room Fl bind sy0 none0 hk fun b u z => (nomatch z)
  | none =>
    have at_a : scriptH a { cls := .type "list", data := .seq raw.toArray } (ns.map V.int) a = some (.frz { cls := .type "list", data := .seq raw.toArray } (.lst (ns.map V.int))) := if_pos rfl
    have not_a : ∀ {b : Addr} {u : HO}, scriptH a { cls := .type "list", data := .seq raw.toArray } (ns.map V.int) b = some u → b = a := fun {b u} z => by
      by_cases hb : b = a
      · exact hb
      · rw [show scriptH a { cls := .type "list", data := .seq raw.toArray } (ns.map V.int) b = none from if_neg hb] at z
        cases z
    have one : Only (scriptH a { cls := .type "list", data := .seq raw.toArray } (ns.map V.int)) := fun b => by
      by_cases hb : b = a
      · exact .inr ⟨_, _, if_pos hb⟩
      · exact .inl (if_neg hb)
    refine head_at inK glob bts boot nolim quiet script room Fl bind (sy _ one (.inl ⟨_, at_a⟩)) one (fun b u z => ?_) fun b u z => ⟨not_a z, found⟩
    obtain rfl := not_a z
    rw [at_a] at z
    cases z
    exact ⟨script, by rw [List.length_map]; exact few, raw, _, vi, script⟩
end
/-- the table, def by def -/
inductive StdAll (K : Fr') (mg : Str → Option Value) : List Fd → List (Stmt × List Str × List Str) → Prop
  | nil : StdAll K mg [] []
  | cons {d : Fd} {stm : Stmt} {N ps : List Str} {T : List Fd} {tab : List (Stmt × List Str × List Str)} : (∃ (fa : Addr) (fdt : FuncData), Fun K d.name d.name stm fa fdt ∧ mg d.name = some (.ref fa) ∧ Binds K fdt ps []) → StdAll K mg T tab → StdAll K mg (d :: T) ((stm, N, ps) :: tab)
theorem StdAll.get {K : Fr'} {mg : Str → Option Value} : ∀ {T : List Fd} {tab : List (Stmt × List Str × List Str)}, StdAll K mg T tab → ∀ (i : Nat) (d : Fd) (e : Stmt × List Str × List Str), T[i]? = some d → tab[i]? = some e → ∃ fa fdt, Stands K mg d e fa fdt
  | _, _, .nil, i, d, e, h, _ => by simp at h
  | _, _, .cons h t, 0, d, e, h1, h2 => by
    simp at h1 h2
    subst h1
    subst h2
    exact h
  | _, _, .cons h t, i + 1, d, e, h1, h2 => StdAll.get t i d e (by simpa using h1) (by simpa using h2)
theorem tab_mk {P : Program} {w : World} {K : Fr'} {mg : Str → Option Value} {G : Gx} {T : List Fd} {tab : List (Stmt × List Str × List Str)} (h1 : G.fns = T.map fun d => (d.name, d.nparams, d.mode)) (h2 : T.length = tab.length) (h3 : (T.zip tab).all (fun p => fnC G p.1 p.2.1 p.2.2.1 p.2.2.2) = true)
    (h4 : StdAll K mg T tab) (h5 : ∀ x ∈ G.blts, mg x = none) (h6 : ∀ p ∈ G.cons, ∃ u v, mg p.1 = some u ∧ RelV v u ∧ ∀ H, Bor K H false (fun _ => True) v p.2) (h7 : ∀ p ∈ G.tabs, TabF K w mg p.1 p.2) : Tab P w K mg G T tab :=
  ⟨h1, h2, fun i d e hd he => by
    have m : (d, e) ∈ T.zip tab := List.mem_iff_getElem?.mpr ⟨i, by rw [List.getElem?_zip_eq_some]; exact ⟨hd, he⟩⟩
    have t := List.all_eq_true.mp h3 (d, e) m
    exact t, h4.get, h5, h6, h7⟩
/-- the goal behind the top, from the evaluator's answer -/
theorem walkZ {l : PySem.W.OpenLaw} {most lv : Nat} {q : Program} {loose : List Str} {XP : (Str → Option Value) → Heap → Prop} {YP : World → Heap → Prop} {d : DefRec} {K : Params → Fr'} {x : Str} {T : List Fd} {tab : List (Stmt × List Str × List Str)} {G : Gx} {iL : Nat}
    (hn : l.most = some most) (hm : most ≤ sizeLine) (hdf : d.params.defaults = []) (room : Room lv callerA) (hY : ∀ (w : World) (h : Heap), YP w h → (K w.params).In h)
    (tb : ∀ (w : World) (mg : Str → Option Value) (h : Heap), (K w.params).In h → h.Ns mainGlobals mg → Tab l.prog w (K w.params) mg G T tab)
    (ld : ∃ df e, T[iL]? = some df ∧ tab[iL]? = some e ∧ df.name = d.name ∧ df.mode = .scr ∧ e.2.2 = [x])
    (ans : ∀ ns : List Int, ns.length ≤ most → ∃ o, run T lv iL none [.list (ns.map .int)] = some (.bool true, o)) :
    PySem.W.WalkO q loose XP YP l.row.toRowW d [] (fun f vs => PySem.call f vs) := by
  refine Att.attach_call hn hdf fun w s₀ st mg mb fa o pm cd doc a raw ns ground Y _ _ _ hmg script whole few quiet => ?_
  have inK := hY w _ Y
  obtain ⟨df, e, h1, h2, h3, h4, h5⟩ := ld
  have tb1 := tb w mg _ inK ground.T.g
  obtain ⟨fa2, fdt, std⟩ := tb1.std iL df e h1 h2
  have efa := std.2.1
  rw [h3, hmg] at efa
  cases efa
  have bind : BindsTo st fdt ⟨[.ref a], []⟩ [(x, .ref a)] := by
    have b := std.2.2 st [.ref a] inK (by rw [h5]; rfl)
    rw [h5] at b
    exact b
  refine head_of (n := lv) (fdt := fdt) (x := x) (say := spC (K w.params) (run T lv) iL .scr) inK ground.T.g ground.T.b ground.T.builtins ground.T.nolimit quiet script whole (Nat.le_trans few hm) room (fun base kb nb => ?_) bind fun Hx only scr => ?_
  · have F := fnG_all (base := base) tb1 lv iL df e fa fdt h1 h2 std
    rw [h4, h5] at F
    exact F
  · obtain ⟨o2, ho⟩ := ans ns few
    refine ⟨.ref a, [], .list (ns.map .int), [], .bool true, o2, rfl, .lsk rfl scr ?_, .nil, ho, fun v H' B _ _ hown _ _ => ?_⟩
    · clear few whole scr ho script
      induction ns with
      | nil => exact .nil
      | cons i r ih => exact .cons (.int i) ih
    · cases hown
      rfl
end Zr

set_option maxRecDepth 100000
namespace Zr
open PySem PySem.Spec PyProof.Rows L2
theorem keys_mem {P : Params} : ∀ {l : List DictEntry} {ks : List Str}, l.map He.keyOf = He.keysIn P ks → ∀ e ∈ l, ∃ x t, e.key = .str x t ∧ x ∈ ks
  | [], _, _, e, m => by cases m
  | a :: r, [], h, _, _ => by cases h
  | a :: r, k :: ks, h, e, m => by
    have h1 : He.keyOf a :: r.map He.keyOf = some (k, PyData.keyHash P k) :: He.keysIn P ks := h
    injection h1 with h2 h3
    rcases List.mem_cons.mp m with m | m
    · subst m
      unfold He.keyOf at h2
      split at h2
      · rename_i x t q
        have h4 := Option.some.inj h2
        exact ⟨x, t, q, by rw [show x = k from congrArg Prod.fst h4]; exact List.mem_cons_self⟩
      · cases h2
    · obtain ⟨x, t, q, z⟩ := keys_mem h3 e m
      exact ⟨x, t, q, List.mem_cons_of_mem _ z⟩
theorem tab_none {K : Fr'} {P : Params} {d : Addr} {ks : List Str} (h : He.dicW K d = some (He.keysIn P ks)) {y : Str} (n : y ∉ ks) : PySem.W.nsIn K d y = some none := by
  unfold He.dicW at h
  unfold PySem.W.nsIn
  split at h
  · rename_i c es ep sl q
    split at h
    · have hk := keys_mem (Option.some.inj h)
      rw [q]
      have f : es.toList.find? (·.key.isStr y) = none := by
        rw [List.find?_eq_none]
        intro e m z
        obtain ⟨x, t, ek, hx⟩ := hk e m
        rw [ek] at z
        have : x = y := by simpa [Value.isStr] using z
        exact n (this ▸ hx)
      have g : es.toList.any (·.refKey) = false := by
        rw [List.any_eq_false]
        intro e m z
        obtain ⟨x, t, ek, hx⟩ := hk e m
        unfold DictEntry.refKey at z
        rw [ek] at z
        cases z
      simp only [f, g]
      rfl
    · cases h
  · cases h
theorem dicW_of {K : Fr'} {P : Params} {d : Addr} {es : Array DictEntry} {n : Nat} {ks : List Str} (h : K.lookup d = some ⟨.type "dict", none, .dict es n, #[]⟩) (e : es.toList.map He.keyOf = He.keysIn P ks) (s : (d == sysModules) = false) : He.dicW K d = some (He.keysIn P ks) := by
  unfold He.dicW
  rw [h]
  simp [s, e]
theorem lookup_none {kvs : List (Str × D)} {y : Str} (h : kvs.lookup y = none) : y ∉ kvs.map (·.1) := by
  induction kvs with
  | nil => intro m; cases m
  | cons p r ih =>
    obtain ⟨k, v⟩ := p
    rw [List.lookup_cons] at h
    split at h
    · cases h
    · rename_i q
      intro m
      rcases List.mem_cons.mp m with m | m
      · have : y = k := m
        rw [this] at q
        simp at q
      · exact ih h m
/-- a module's dict with text keys, from what stands behind the top -/
theorem tab_of {K : Fr'} {w : World} {mg : Str → Option Value} {x : Str} {kvs : List (Str × D)} {d : Addr} (h1 : mg x = some (.ref d)) (h2 : He.dicW K d = some (He.keysIn w.params (kvs.map (·.1)))) (h3 : ∀ y dv, kvs.lookup y = some dv → ∃ u v, PySem.W.nsIn K d y = some (some u) ∧ RelV v u ∧ ∀ H, Bor K H false (fun _ => True) v dv) : TabF K w mg x kvs := by
  obtain ⟨es, n, k⟩ := He.dicW_ok (w := w) h2
  exact ⟨d, es, n, h1, k, fun y hy => tab_none h2 (lookup_none hy), h3⟩
end Zr

set_option maxRecDepth 100000
set_option maxHeartbeats 4000000
/-! ZrY: reckoning with the evaluator (plain laws): steps, loops, comprehensions. -/
namespace Zr
open PySem
theorem run_at {T : List Fd} {k f : Nat} {r : Option D} {ds : List D} {d : Fd} (h : T[f]? = some d) (c : (if r.isSome then 1 else 0) + ds.length = d.nparams ∧ modeOk d.mode r = true ∧ d.nparams ≤ d.nslots) : run T (k + 1) f r ds = finish r (execs (run T k) d.body (startRo d r ds)) := by
  simp only [run, h]
  rw [if_pos c]
theorem ints_purs (ns : List Int) : purs (ns.map .int) = true := by
  induction ns with
  | nil => rfl
  | cons i r ih => simp [purs, pur, ih]
theorem bi_tuple {rs : List D} (h : purs rs = true) : bi .tuple [.list rs] = some (.tuple rs) := by
  simp only [bi, h, if_true]
def isOutN (r : Option (D × Option D)) (d : D) : Bool := match r with
  | some (e, none) => deq e d
  | _ => false
theorem isOutN_eq {r : Option (D × Option D)} {d : D} (h : isOutN r d = true) : r = some (d, none) := by
  unfold isOutN at h
  split at h
  · rw [deq_eq h]
  · cases h
theorem fm_b (x m : Int) (h : 0 < m) : 0 ≤ x.fmod m ∧ x.fmod m < m := ⟨Int.fmod_nonneg_of_pos x h, Int.fmod_lt_of_pos x h⟩
theorem fm_1 (x : Int) : (x.fmod 2147483647).natAbs < 18446744073709551616 := by have := fm_b x 2147483647 (by decide); omega
theorem fm_2 (x : Int) : (x.fmod 2147483629).natAbs < 18446744073709551616 := by have := fm_b x 2147483629 (by decide); omega
theorem fm_3 (x : Int) : (x.fmod 2147483399).natAbs < 18446744073709551616 := by have := fm_b x 2147483399 (by decide); omega
/-- a comprehension that keeps every item -/
theorem lcGo_map {turn : D → Ro → List D → Option (List D × Ro)} {ρ : Ro} (f : D → D) : ∀ (xs acc : List D), (∀ x ∈ xs, ∀ acc : List D, acc.length < lim → turn x ρ acc = some (f x :: acc, ρ)) → acc.length + xs.length ≤ lim → lcGo turn xs ρ acc = some ((xs.map f).reverse ++ acc, ρ)
  | [], acc, _, _ => rfl
  | x :: xs, acc, h, hl => by
    simp only [lcGo, h x List.mem_cons_self acc (by simp at hl; omega)]
    rw [lcGo_map f xs (f x :: acc) (fun y m => h y (List.mem_cons_of_mem _ m)) (by simp at hl ⊢; omega)]
    simp
/-- .. one that keeps some -/
theorem lcGo_some {turn : D → Ro → List D → Option (List D × Ro)} {ρ : Ro} (f : D → Option D) : ∀ (xs acc : List D), (∀ x ∈ xs, ∀ acc : List D, acc.length < lim → turn x ρ acc = some ((match f x with | some y => y :: acc | none => acc), ρ)) → acc.length + xs.length ≤ lim → lcGo turn xs ρ acc = some ((xs.filterMap f).reverse ++ acc, ρ)
  | [], acc, _, _ => rfl
  | x :: xs, acc, h, hl => by
    simp only [lcGo, h x List.mem_cons_self acc (by simp at hl; omega)]
    cases e : f x with
    | none =>
      simp only
      rw [lcGo_some f xs acc (fun y m => h y (List.mem_cons_of_mem _ m)) (by simp at hl ⊢; omega)]
      simp [e]
    | some y =>
      simp only
      rw [lcGo_some f xs (y :: acc) (fun y m => h y (List.mem_cons_of_mem _ m)) (by simp at hl ⊢; omega)]
      simp [e]
/-- a loop, state by state -/
theorem forGo_st {turn : D → Ro → Option Out} (xs : List D) (st : Nat → Ro) (h : ∀ (i : Nat) (x : D), xs[i]? = some x → turn x (st i) = some (.nx (st (i + 1)))) : forGo turn xs (st 0) = some (.nx (st xs.length)) := by
  have go : ∀ j, j ≤ xs.length → forGo turn (xs.drop (xs.length - j)) (st (xs.length - j)) = some (.nx (st xs.length)) := by
    intro j
    induction j with
    | zero =>
      intro _
      simp [forGo]
    | succ j ih =>
      intro hj
      have lt : xs.length - (j + 1) < xs.length := by omega
      rw [List.drop_eq_getElem_cons lt]
      simp only [forGo]
      rw [h _ _ (List.getElem?_eq_getElem lt)]
      have e : xs.length - (j + 1) + 1 = xs.length - j := by omega
      simp only [e]
      exact ih (by omega)
  have := go xs.length (Nat.le_refl _)
  simpa using this
/-- a loop, by a fold over states that keep something -/
theorem forGo_fold {α : Type} {turn : D → Ro → Option Out} (st : α → Ro) (f : α → D → α) (ok : α → List D → Prop) (h : ∀ s x r, ok s (x :: r) → turn x (st s) = some (.nx (st (f s x))) ∧ ok (f s x) r) : ∀ (xs : List D) (s : α), ok s xs → forGo turn xs (st s) = some (.nx (st (xs.foldl f s)))
  | [], s, _ => rfl
  | x :: r, s, o => by
    obtain ⟨h1, h2⟩ := h s x r o
    simp only [forGo, h1, List.foldl_cons]
    exact forGo_fold st f ok h r (f s x) h2
section
variable {C : CallF}
theorem x_cons {s : IS} {ss : ISs} {ρ ρ1 : Ro} (h : exec C s ρ = some (.nx ρ1)) : execs C (.cons s ss) ρ = execs C ss ρ1 := by
  simp only [execs, h]
theorem x_last {s : IS} {ss : ISs} {ρ ρ1 : Ro} {d : D} (h : exec C s ρ = some (.rt d ρ1)) : execs C (.cons s ss) ρ = some (.rt d ρ1) := by
  simp only [execs, h]
theorem x_asg {g : IG} {e : IE} {ρ ρ1 ρ2 ρ3 : Ro} {d : D} {st s' : Stat} (h : ev C e ρ = some (d, st, ρ1)) (h2 : settleA d st ρ1 = some (s', ρ2)) (h3 : bindV g d s' ρ2 = some ρ3) : exec C (.asg g e) ρ = some (.nx ρ3) := by
  simp only [exec, h, h2, h3]
/-- a built-in of one argument -/
theorem ev_bi1 {b : Bi} {e : IE} {ρ ρ1 : Ro} {d r : D} {st : Stat} (h : ev C e ρ = some (d, st, ρ1)) (h2 : bi b [d] = some r) : ev C (.bcall b (.cons e .nil)) ρ = some (r, .fresh, ρ1) := by
  have o : okSt st (effs .nil) = true := by cases st <;> rfl
  simp only [ev, evs, h, o, if_true, List.map_cons, List.map_nil, h2]
theorem evT_tru {e : IE} {ρ ρ1 : Ro} {d : D} {st : Stat} {k : Bool} (h : ev C e ρ = some (d, st, ρ1)) (h2 : truD d = some k) : evT C (.tru e) ρ = some (k, ρ1) := by
  simp only [evT, h, h2]
theorem evT_not {t : IT} {ρ ρ1 : Ro} {k : Bool} (h : evT C t ρ = some (k, ρ1)) : evT C (.not t) ρ = some (!k, ρ1) := by
  simp only [evT, h]
theorem x_ifs {t : IT} {a b : ISs} {ρ ρ1 : Ro} {k : Bool} (h : evT C t ρ = some (k, ρ1)) : exec C (.ifs t a b) ρ = if k then execs C a ρ1 else execs C b ρ1 := by
  simp only [exec, h]
theorem x_ret {e : IE} {ρ ρ1 ρ2 : Ro} {d : D} {st : Stat} (h : ev C e ρ = some (d, st, ρ1)) (h2 : settle d st ρ1 = some ρ2) : exec C (.ret e) ρ = some (.rt d ρ2) := by
  simp only [exec, h, h2]
theorem x_for {g : IG} {it : II} {b : ISs} {ρ ρ1 : Ro} {xs : List D} {st : List Stat} {turn : D → Ro → Option Out} (h1 : evI C it ρ = some (xs, st, ρ1)) (h2 : (st.all (walkOk · xs (g.slots ++ effSs b))) = true) (h3 : ∀ x ρ, turn x ρ = (bindV g x .froz ρ).bind (execs C b)) : exec C (.for g it b) ρ = forGo turn xs ρ1 := by
  simp only [exec, h1]
  rw [if_pos h2]
  congr 1
  funext x ρ
  rw [h3]
  cases bindV g x .froz ρ <;> rfl
theorem ev_lc_map {own : List Nat} {elt : IE} {g : IG} {it : II} {t : IC} {ρ ρ1 ρ2 : Ro} {xs : List D} {sts : List Stat} (f : D → D) (h1 : evI C it ρ = some (xs, sts, ρ1)) (h2 : hide ρ1 own = some ρ2) (h3 : (sts.all (walkOk · xs (own ++ (effC t ++ (effE elt ++ tkE elt)))) && g.slots.all own.contains) = true)
    (h4 : ∀ x ∈ xs, ∃ ρa ρb sy ρc ρe, bindV g x .froz ρ2 = some ρa ∧ evC C t ρa = some (true, ρb) ∧ ev C elt ρb = some (f x, sy, ρc) ∧ settle (f x) sy ρc = some ρe ∧ hide ρe own = some ρ2) (hl : xs.length ≤ lim) :
    ev C (.lc own elt g it t) ρ = some (.list (xs.map f), .fresh, unhide ρ1 ρ2 own) := by
  simp only [ev, h1, h2]
  rw [if_pos h3, lcGo_map f xs [] (fun x m acc ha => by
    obtain ⟨ρa, ρb, sy, ρc, ρe, e1, e2, e3, e4, e5⟩ := h4 x m
    simp only [e1, e2, e3, e4, e5]
    rw [if_pos ha]) (by simpa using hl)]
  simp
end
end Zr

set_option maxRecDepth 100000
set_option maxHeartbeats 4000000
/-! ZyA: what many laws ask alike: loops by a relation, _law_is of a thing and itself. -/
namespace Zr
open PySem
theorem forGo_rel {turn : D → Ro → Option Out} (I : Nat → Ro → Prop) (xs : List D) (h : ∀ (i : Nat) (x : D) (ρ : Ro), xs[i]? = some x → I i ρ → ∃ ρ', turn x ρ = some (.nx ρ') ∧ I (i + 1) ρ') (ρ : Ro) (h0 : I 0 ρ) : ∃ ρ', forGo turn xs ρ = some (.nx ρ') ∧ I xs.length ρ' := by
  have go : ∀ j, j ≤ xs.length → ∀ ρ, I (xs.length - j) ρ → ∃ ρ', forGo turn (xs.drop (xs.length - j)) ρ = some (.nx ρ') ∧ I xs.length ρ' := by
    intro j
    induction j with
    | zero =>
      intro _ ρ i
      exact ⟨ρ, by simp [forGo], by simpa using i⟩
    | succ j ih =>
      intro hj ρ i
      have lt : xs.length - (j + 1) < xs.length := by omega
      obtain ⟨ρ1, e1, i1⟩ := h _ _ ρ (List.getElem?_eq_getElem lt) i
      have e : xs.length - (j + 1) + 1 = xs.length - j := by omega
      rw [e] at i1
      obtain ⟨ρ2, e2, i2⟩ := ih (by omega) ρ1 i1
      refine ⟨ρ2, ?_, i2⟩
      rw [List.drop_eq_getElem_cons lt]
      simp only [forGo, e1, e]
      exact e2
  have := go xs.length (Nat.le_refl _) ρ (by simpa using h0)
  simpa using this
theorem lcGo_rel {turn : D → Ro → List D → Option (List D × Ro)} (I : Nat → List D → Ro → Prop) (xs : List D) (h : ∀ (i : Nat) (x : D) (ρ : Ro) (acc : List D), xs[i]? = some x → I i acc ρ → ∃ acc' ρ', turn x ρ acc = some (acc', ρ') ∧ I (i + 1) acc' ρ') (ρ : Ro) (acc : List D) (h0 : I 0 acc ρ) : ∃ acc' ρ', lcGo turn xs ρ acc = some (acc', ρ') ∧ I xs.length acc' ρ' := by
  have go : ∀ j, j ≤ xs.length → ∀ ρ acc, I (xs.length - j) acc ρ → ∃ acc' ρ', lcGo turn (xs.drop (xs.length - j)) ρ acc = some (acc', ρ') ∧ I xs.length acc' ρ' := by
    intro j
    induction j with
    | zero =>
      intro _ ρ acc i
      exact ⟨acc, ρ, by simp [lcGo], by simpa using i⟩
    | succ j ih =>
      intro hj ρ acc i
      have lt : xs.length - (j + 1) < xs.length := by omega
      obtain ⟨acc1, ρ1, e1, i1⟩ := h _ _ ρ acc (List.getElem?_eq_getElem lt) i
      have e : xs.length - (j + 1) + 1 = xs.length - j := by omega
      rw [e] at i1
      obtain ⟨acc2, ρ2, e2, i2⟩ := ih (by omega) ρ1 acc1 i1
      refine ⟨acc2, ρ2, ?_, i2⟩
      rw [List.drop_eq_getElem_cons lt]
      simp only [lcGo, e1, e]
      exact e2
  have := go xs.length (Nat.le_refl _) ρ acc (by simpa using h0)
  simpa using this
/-! ### _law_is -/
mutual
def okd : D → Bool
  | .none => true
  | .bool _ => true
  | .int i => decide (i.natAbs.log2 < 1920)
  | .str x => decide (x.length ≤ 90000) && x.cps.toList.all fun c => decide (c < 16 ^ 8)
  | .list xs => okds xs && decide (xs.length ≤ lim)
  | .tuple xs => okds xs && decide (xs.length ≤ lim)
  | .dict _ => false
def okds : List D → Bool
  | [] => true
  | x :: xs => okd x && okds xs
end
mutual
def dep : D → Nat
  | .list xs => deps xs + 1
  | .tuple xs => deps xs + 1
  | _ => 0
def deps : List D → Nat
  | [] => 0
  | x :: xs => max (dep x) (deps xs)
end
theorem okds_mem : ∀ {xs : List D}, okds xs = true → ∀ x ∈ xs, okd x = true
  | x :: xs, h, y, m => by
    simp only [okds, Bool.and_eq_true] at h
    rcases List.mem_cons.mp m with e | m
    · rw [e]; exact h.1
    · exact okds_mem h.2 y m
theorem deps_mem : ∀ {xs : List D}, ∀ x ∈ xs, dep x ≤ deps xs
  | x :: xs, y, m => by
    simp only [deps]
    rcases List.mem_cons.mp m with e | m
    · rw [e]; omega
    · have := deps_mem (xs := xs) y m
      omega
theorem repr_int {i : Int} (h : i.natAbs.log2 < 1920) : ∃ z, bi .repr [.int i] = some (.str z) ∧ z.length ≤ lim := by
  have l := PyProof.Rows.int_text_len_1921 h
  refine ⟨(PyData.int i).shown, ?_, Nat.le_trans l (by decide)⟩
  have c1 : (PyData.int i).shown.length ≤ lim := Nat.le_trans l (by decide)
  simp [bi, PyData.showable, h, PyData.hasDict, PyData.depth, c1]
theorem repr_str {x : Str} (h : x.length ≤ 90000) (h2 : (x.cps.toList.all fun c => decide (c < 16 ^ 8)) = true) : ∃ z, bi .repr [.str x] = some (.str z) ∧ z.length ≤ lim := by
  have l := PyData.shown_le 8 (by decide) (.str x) h2
  have w : (PyData.str x).weight = x.length := rfl
  rw [w] at l
  have c1 : (PyData.str x).shown.length ≤ lim := by simp [lim]; omega
  refine ⟨(PyData.str x).shown, ?_, c1⟩
  simp [bi, PyData.showable, PyData.hasDict, PyData.depth, c1]
theorem repr_bool (b : Bool) : ∃ z, bi .repr [.bool b] = some (.str z) ∧ z.length ≤ lim := by
  cases b
  · exact ⟨_, rfl, by decide +kernel⟩
  · exact ⟨_, rfl, by decide +kernel⟩
theorem eq_str (z : Str) : cmpop .Eq (.str z) (.str z) = some true := by
  simp [cmpop, eqD, PyData.plain, PyData.depth, PyData.eqv]
def isBody (i : Nat) : ISs :=
    (.cons (.ifs (.tru (.isi (.var 1) [.tuple, .list])) (.cons (.ifs (.or (.cmp (.cmp .NotEq (.isi (.var 0) [.tuple]) (.isi (.var 1) [.tuple]))) (.one (.not (.tru (.isi (.var 0) [.tuple, .list]))))) (.cons (.ret (.bl false))
    .nil) .nil)
    (.cons (.ret (.andV (.cmp .Eq (.bcall .len (.cons (.var 0) .nil)) (.bcall .len (.cons (.var 1) .nil))) (.oneV (.bcall .all (.cons (.lc [2, 3] (.fcall i (.cons (.var 2) (.cons (.var 3) .nil))) (.t2 (.nm 2) (.nm 3)) (.zip (.var 0) (.var 1)) .yes) .nil)))))
    .nil)) .nil)
    (.cons (.ifs (.or (.cmp (.cmp .Is (.var 1) .non)) (.one (.tru (.isi (.var 1) [.bool])))) (.cons (.ret (.ite (.cmp (.cmp .Is (.var 1) .non)) (.cmp .Is (.var 0) .non) (.andV (.isi (.var 0) [.bool]) (.oneV (.cmp .Eq (.bcall .repr (.cons (.var 0) .nil)) (.bcall .repr (.cons (.var 1) .nil)))))))
    .nil) .nil)
    (.cons (.ifs (.tru (.isi (.var 1) [.str])) (.cons (.ret (.andV (.isi (.var 0) [.str]) (.oneV (.cmp .Eq (.bcall .repr (.cons (.var 0) .nil)) (.bcall .repr (.cons (.var 1) .nil))))))
    .nil) .nil)
    (.cons (.ret (.andV (.isi (.var 0) [.int]) (.andV (.notV (.isi (.var 0) [.bool])) (.oneV (.cmp .Eq (.bcall .repr (.cons (.var 0) .nil)) (.bcall .repr (.cons (.var 1) .nil)))))))
    .nil))))
theorem zip_self : ∀ {xs : List D} {x : D}, x ∈ zipD xs xs → ∃ y ∈ xs, x = .tuple [y, y]
  | [], x, m => by simp [zipD] at m
  | y :: r, x, m => by
    simp only [zipD, List.mem_cons] at m
    rcases m with e | m
    · exact ⟨y, List.mem_cons_self, e⟩
    · obtain ⟨z, h1, h2⟩ := zip_self m
      exact ⟨z, List.mem_cons_of_mem _ h1, h2⟩
theorem zip_len : ∀ (xs : List D), (zipD xs xs).length = xs.length
  | [] => rfl
  | x :: r => by simp [zipD, zip_len r]
theorem all_truef {α : Type} (xs : List α) : bi .all [.list (xs.map fun _ => PyData.bool true)] = some (.bool true) := by
  have e : ∀ xs : List α, toBls (xs.map fun _ => PyData.bool true) = some (xs.map fun _ => true) := by
    intro xs
    induction xs with
    | nil => rfl
    | cons x r ih => simp [toBls, ih]
  simp [bi, e]
theorem gv_bind1 (d : D) : gv [bind1 d] 0 = some (d, if pur d then .fresh else .froz) := by
  unfold bind1
  cases h : pur d <;> simp [gv]
theorem walk_bind (d : D) (xs : List D) (E : List Nat) : walkOk (if pur d then .fresh else .froz) xs E = true := by
  cases h : pur d <;> simp [walkOk]
def isRo (a b : D) : Ro := [bind1 a, bind1 b, .emp, .emp]
theorem gv_is0 (a b : D) : gv (isRo a b) 0 = some (a, if pur a then .fresh else .froz) := by
  unfold isRo bind1
  cases h : pur a <;> simp [gv]
theorem gv_is1 (a b : D) : gv (isRo a b) 1 = some (b, if pur b then .fresh else .froz) := by
  unfold isRo bind1
  cases h : pur b <;> simp [gv]
theorem okSt_nil (d : D) : okSt (if pur d then .fresh else .froz) [] = true := by
  cases pur d <;> rfl
theorem noScr_if (d : D) : noScr (if pur d then .fresh else .froz) = true := by
  cases pur d <;> rfl
def seqOf : D → Option (List D)
  | .list xs => some xs
  | .tuple xs => some xs
  | _ => none
theorem is_all {C : CallF} {i : Nat} {a b : D} {xs ys : List D} (ha : seqOf a = some xs) (hb : seqOf b = some ys) (hk : (∃ zs ws, a = .list zs ∧ b = .list ws) ∨ ∃ zs ws, a = .tuple zs ∧ b = .tuple ws) (hl : (zipD xs ys).length ≤ lim) (f : D → D)
    (h : ∀ x ∈ zipD xs ys, ∃ u v, x = .tuple [u, v] ∧ C i none [u, v] = some (f x, none) ∧ pur (f x) = true) :
    ev C (.lc [2, 3] (.fcall i (.cons (.var 2) (.cons (.var 3) .nil))) (.t2 (.nm 2) (.nm 3)) (.zip (.var 0) (.var 1)) .yes) (isRo a b) = some (.list ((zipD xs ys).map f), .fresh, isRo a b) := by
  have e1 : evI C (.zip (.var 0) (.var 1)) (isRo a b) = some (zipD xs ys, [if pur a then .fresh else .froz, if pur b then .fresh else .froz], isRo a b) := by
    simp only [evI, ev, gv_is0, gv_is1, effE, okSt_nil, if_true]
    rcases hk with ⟨zs, ws, rfl, rfl⟩ | ⟨zs, ws, rfl, rfl⟩
    · cases ha
      cases hb
      rfl
    · cases ha
      cases hb
      rfl
  have e2 := ev_lc_map (C := C) (own := [2, 3]) (elt := .fcall i (.cons (.var 2) (.cons (.var 3) .nil))) (g := .t2 (.nm 2) (.nm 3)) (t := .yes) (ρ2 := isRo a b) f e1 rfl (by
    simp only [List.all_cons, walk_bind, List.all_nil]
    rfl) (fun x m => by
      obtain ⟨u, v, rfl, hc, hp⟩ := h x m
      refine ⟨[bind1 a, bind1 b, bind1 u, bind1 v], [bind1 a, bind1 b, bind1 u, bind1 v], .fresh, [bind1 a, bind1 b, bind1 u, bind1 v], [bind1 a, bind1 b, bind1 u, bind1 v], ?_, rfl, ?_, rfl, ?_⟩
      · unfold isRo
        simp only [bindV, noByr]
        rfl
      · have g2 : gv [bind1 a, bind1 b, bind1 u, bind1 v] 2 = some (u, if pur u then .fresh else .froz) := by
          unfold bind1
          cases pur u <;> simp [gv]
        have g3 : gv [bind1 a, bind1 b, bind1 u, bind1 v] 3 = some (v, if pur v then .fresh else .froz) := by
          unfold bind1
          cases pur v <;> simp [gv]
        simp only [ev, evs, g2, g3, effs, effE, List.append_nil, okSt_nil, if_true, List.all_cons, noScr_if, List.all_nil, Bool.and_true, List.map_cons, List.map_nil, hc]
      · unfold isRo bind1
        cases pur u <;> cases pur v <;> simp [hide]) hl
  rw [e2]
  rfl
theorem ev_andT {C : CallF} {a b : IE} {ρ ρ1 : Ro} {x : D} {s : Stat} (h : ev C a ρ = some (x, s, ρ1)) (h2 : truD x = some true) : ev C (.andV a b) ρ = ev C b ρ1 := by simp only [ev, h, h2]
theorem ev_andF {C : CallF} {a b : IE} {ρ ρ1 : Ro} {x : D} {s : Stat} (h : ev C a ρ = some (x, s, ρ1)) (h2 : truD x = some false) : ev C (.andV a b) ρ = some (x, s, ρ1) := by simp only [ev, h, h2]
theorem ev_one {C : CallF} {a : IE} {ρ : Ro} : ev C (.oneV a) ρ = ev C a ρ := by simp only [ev]
theorem is_seq {C : CallF} {i : Nat} {a b : D} {xs ys : List D} (ha : seqOf a = some xs) (hb : seqOf b = some ys) (hk : (∃ zs ws, a = .list zs ∧ b = .list ws) ∨ ∃ zs ws, a = .tuple zs ∧ b = .tuple ws) (hl : xs.length = ys.length) (hm : (zipD xs ys).length ≤ lim) (f : D → D) (k : Bool)
    (h : ∀ x ∈ zipD xs ys, ∃ u v, x = .tuple [u, v] ∧ C i none [u, v] = some (f x, none) ∧ pur (f x) = true) (hr : bi .all [.list ((zipD xs ys).map f)] = some (.bool k)) :
    ∃ ρ', execs C (isBody i) (isRo a b) = some (.rt (.bool k) ρ') := by
  have e := is_all (C := C) ha hb hk hm f h
  have c1 : ev C (.cmp .Eq (.bcall .len (.cons (.var 0) .nil)) (.bcall .len (.cons (.var 1) .nil))) (isRo a b) = some (.bool true, .fresh, isRo a b) := by
    have i2 : ∀ n : Int, cmpop .Eq (.int n) (.int n) = some true := fun n => by simp [cmpop, eqD]
    rcases hk with ⟨zs, ws, rfl, rfl⟩ | ⟨zs, ws, rfl, rfl⟩
    · cases ha
      cases hb
      simp only [ev, evs, gv_is0, gv_is1, effs, okSt_nil, if_true, List.map_cons, List.map_nil, bi, hl, i2]
      simp [okSt, effE, effs]
    · cases ha
      cases hb
      simp only [ev, evs, gv_is0, gv_is1, effs, okSt_nil, if_true, List.map_cons, List.map_nil, bi, hl, i2]
      simp [okSt, effE, effs]
  have c2 : evT C (.tru (.isi (.var 1) [.tuple, .list])) (isRo a b) = some (true, isRo a b) := by
    rcases hk with ⟨zs, ws, rfl, rfl⟩ | ⟨zs, ws, rfl, rfl⟩
    · simp [evT, ev, gv_is1, tyD, truD]
    · simp [evT, ev, gv_is1, tyD, truD]
  have c3 : evT C (.or (.cmp (.cmp .NotEq (.isi (.var 0) [.tuple]) (.isi (.var 1) [.tuple]))) (.one (.not (.tru (.isi (.var 0) [.tuple, .list]))))) (isRo a b) = some (false, isRo a b) := by
    have b1 : ∀ b : Bool, cmpop .NotEq (.bool b) (.bool b) = some false := fun b => by cases b <;> rfl
    rcases hk with ⟨zs, ws, rfl, rfl⟩ | ⟨zs, ws, rfl, rfl⟩
    · simp only [evT, ev, gv_is0, gv_is1, List.any_cons, List.any_nil, tyD, Bool.or_false, Bool.false_or, Bool.true_or, b1, effE, truD, Bool.not_true]
      simp [okSt, b1, gv_is0, gv_is1]
    · simp only [evT, ev, gv_is0, gv_is1, List.any_cons, List.any_nil, tyD, Bool.or_false, Bool.false_or, Bool.true_or, b1, effE, truD, Bool.not_true]
      simp [okSt, b1, gv_is0, gv_is1]
  refine ⟨isRo a b, ?_⟩
  refine x_last ((x_ifs c2).trans ?_)
  rw [if_pos rfl, x_cons (ρ1 := isRo a b) ((x_ifs c3).trans (by simp [execs]))]
  refine x_last (x_ret (d := .bool k) (st := .fresh) ?_ rfl)
  rw [ev_andT c1 rfl, ev_one]
  exact ev_bi1 e hr
theorem law_is_same {T : List Fd} {i : Nat} {fd : Fd} (h : T[i]? = some fd) (hb : fd.body = isBody i) (hn : fd.nparams = 2) (hm : fd.mode = .plain) (hs : fd.nslots = 4) : ∀ (k : Nat) (d : D), dep d ≤ k → okd d = true → run T (k + 1) i none [d, d] = some (.bool true, none) := by
  intro k
  induction k with
  | zero =>
    intro d hd ho
    rw [run_at (d := fd) h ⟨by simp [hn], by simp [hm, modeOk], by omega⟩]
    have s0 : startRo fd none [d, d] = isRo d d := by simp [startRo, hm, bindS, hs, hn, isRo, List.replicate]
    rw [s0, hb]
    generalize run T 0 = C
    cases d with
    | list xs => simp [dep] at hd
    | tuple xs => simp [dep] at hd
    | dict kvs => simp [okd] at ho
    | none =>
      simp [isBody, execs, exec, evT, ev, gv_is0, gv_is1, okSt, pur, effE, tyD, truD, cmpop, isNone, settle, finish]
    | bool b =>
      obtain ⟨z, e1, e2⟩ := repr_bool b
      simp [isBody, execs, exec, evT, ev, evs, gv_is0, gv_is1, okSt, pur, effE, effs, tyD, truD, cmpop, isNone, settle, finish, e1]
      simp [eqD, PyData.plain, PyData.depth, PyData.eqv]
    | int n =>
      simp only [okd, decide_eq_true_eq] at ho
      obtain ⟨z, e1, e2⟩ := repr_int ho
      simp [isBody, execs, exec, evT, ev, evs, gv_is0, gv_is1, okSt, pur, effE, effs, tyD, truD, cmpop, isNone, settle, finish, e1]
      simp [eqD, PyData.plain, PyData.depth, PyData.eqv]
    | str x =>
      simp only [okd, Bool.and_eq_true, decide_eq_true_eq] at ho
      obtain ⟨z, e1, e2⟩ := repr_str ho.1 ho.2
      simp [isBody, execs, exec, evT, ev, evs, gv_is0, gv_is1, okSt, pur, effE, effs, tyD, truD, cmpop, isNone, settle, finish, e1]
      simp [eqD, PyData.plain, PyData.depth, PyData.eqv]
  | succ k ih =>
    intro d hd ho
    rw [run_at (d := fd) h ⟨by simp [hn], by simp [hm, modeOk], by omega⟩]
    have s0 : startRo fd none [d, d] = isRo d d := by simp [startRo, hm, bindS, hs, hn, isRo, List.replicate]
    rw [s0, hb]
    generalize run T (k + 1) = C at ih
    cases d with
    | list xs =>
      simp only [okd, Bool.and_eq_true, decide_eq_true_eq] at ho
      simp only [dep] at hd
      obtain ⟨ρ', e⟩ := is_seq (C := C) (i := i) (a := .list xs) (b := .list xs) rfl rfl (.inl ⟨xs, xs, rfl, rfl⟩) rfl (by rw [zip_len]; exact ho.2) (fun _ => .bool true) true (fun x m => by
        obtain ⟨y, h1, h2⟩ := zip_self m
        have := deps_mem y h1
        exact ⟨y, y, h2, ih y (by omega) (okds_mem ho.1 y h1), rfl⟩) (all_truef _)
      rw [e]
      rfl
    | tuple xs =>
      simp only [okd, Bool.and_eq_true, decide_eq_true_eq] at ho
      simp only [dep] at hd
      obtain ⟨ρ', e⟩ := is_seq (C := C) (i := i) (a := .tuple xs) (b := .tuple xs) rfl rfl (.inr ⟨xs, xs, rfl, rfl⟩) rfl (by rw [zip_len]; exact ho.2) (fun _ => .bool true) true (fun x m => by
        obtain ⟨y, h1, h2⟩ := zip_self m
        have := deps_mem y h1
        exact ⟨y, y, h2, ih y (by omega) (okds_mem ho.1 y h1), rfl⟩) (all_truef _)
      rw [e]
      rfl
    | dict kvs => simp [okd] at ho
    | none => simp [isBody, execs, exec, evT, ev, gv_is0, gv_is1, okSt, pur, effE, tyD, truD, cmpop, isNone, settle, finish]
    | bool b =>
      obtain ⟨z, e1, e2⟩ := repr_bool b
      simp [isBody, execs, exec, evT, ev, evs, gv_is0, gv_is1, okSt, pur, effE, effs, tyD, truD, cmpop, isNone, settle, finish, e1]
      simp [eqD, PyData.plain, PyData.depth, PyData.eqv]
    | int n =>
      simp only [okd, decide_eq_true_eq] at ho
      obtain ⟨z, e1, e2⟩ := repr_int ho
      simp [isBody, execs, exec, evT, ev, evs, gv_is0, gv_is1, okSt, pur, effE, effs, tyD, truD, cmpop, isNone, settle, finish, e1]
      simp [eqD, PyData.plain, PyData.depth, PyData.eqv]
    | str x =>
      simp only [okd, Bool.and_eq_true, decide_eq_true_eq] at ho
      obtain ⟨z, e1, e2⟩ := repr_str ho.1 ho.2
      simp [isBody, execs, exec, evT, ev, evs, gv_is0, gv_is1, okSt, pur, effE, effs, tyD, truD, cmpop, isNone, settle, finish, e1]
      simp [eqD, PyData.plain, PyData.depth, PyData.eqv]
end Zr

set_option maxRecDepth 100000
set_option maxHeartbeats 4000000
/-! ZrW0: the evaluator's helpers by recursors, for the kernel. -/
namespace Zr
open PySem
noncomputable def nthL {α : Type} : List α → Nat → Option α := fun l => List.rec (motive := fun _ => Nat → Option α) (fun _ => none) (fun x _ ih n => Nat.rec (motive := fun _ => Option α) (some x) (fun m _ => ih m) n) l
theorem nthL_eq {α : Type} : ∀ (l : List α) (i : Nat), nthL l i = l[i]?
  | [], i => rfl
  | x :: r, 0 => rfl
  | x :: r, i + 1 => by
    have h : nthL (x :: r) (i + 1) = nthL r i := rfl
    rw [h, nthL_eq r i]
    simp
noncomputable def setF {α : Type} : List α → Nat → α → List α := fun l => List.rec (motive := fun _ => Nat → α → List α) (fun _ _ => []) (fun x r ih n y => Nat.rec (motive := fun _ => List α) (y :: r) (fun m _ => x :: ih m y) n) l
theorem setF_eq {α : Type} : ∀ (l : List α) (i : Nat) (y : α), setF l i y = l.set i y
  | [], i, y => rfl
  | x :: r, 0, y => rfl
  | x :: r, i + 1, y => by
    have h : setF (x :: r) (i + 1) y = x :: setF r i y := rfl
    rw [h, setF_eq r i y]
    rfl
noncomputable def lenF {α : Type} : List α → Nat := fun l => List.rec (motive := fun _ => Nat) Nat.zero (fun _ _ ih => Nat.succ ih) l
noncomputable def purF : D → Bool := fun d => PyData.rec (motive_1 := fun _ => Bool) (motive_2 := fun _ => Bool) (motive_3 := fun _ => Bool) (motive_4 := fun _ => Bool) true (fun _ => true) (fun _ => true) (fun _ => true) (fun _ _ => false) (fun _ ih => ih) (fun _ _ => false) true (fun _ _ a b => Bool.rec (motive := fun _ => Bool) false b a) true (fun _ _ _ _ => true) (fun _ _ _ _ => true) d
noncomputable def pursF : List D → Bool := fun l => List.rec (motive := fun _ => Bool) true (fun x _ ih => Bool.rec (motive := fun _ => Bool) false ih (purF x)) l
theorem brec (a b : Bool) : Bool.rec (motive := fun _ => Bool) false b a = (a && b) := by cases a <;> rfl
mutual
theorem purF_at : ∀ d, purF d = pur d
  | .none => rfl
  | .bool _ => rfl
  | .int _ => rfl
  | .str _ => rfl
  | .list _ => rfl
  | .tuple xs => by
    have h : purF (.tuple xs) = pursF xs := by
      show _ = _
      have g : ∀ ys : List D, purF (.tuple ys) = pursF ys := fun ys => by
        induction ys with
        | nil => rfl
        | cons y r ih =>
          show Bool.rec (motive := fun _ => Bool) false (purF (.tuple r)) (purF y) = Bool.rec (motive := fun _ => Bool) false (pursF r) (purF y)
          rw [ih]
      exact g xs
    rw [h, pursF_at xs]
    rfl
  | .dict _ => rfl
theorem pursF_at : ∀ l, pursF l = purs l
  | [] => rfl
  | x :: r => by
    show Bool.rec (motive := fun _ => Bool) false (pursF r) (purF x) = _
    rw [brec, purF_at x, pursF_at r]
    rfl
end
theorem purF_eq : purF = pur := funext purF_at
theorem pursF_eq : pursF = purs := funext pursF_at
noncomputable def gvF (ρ : Ro) (i : Nat) : Option (D × Stat) := Option.rec (motive := fun _ => Option (D × Stat)) none (fun s => Slot.rec (motive := fun _ => Option (D × Stat)) none (fun d => some (d, .fresh)) (fun d => some (d, .loan i)) (fun d => some (d, .loan i)) (fun d => some (d, .froz)) (fun d => some (d, .scr)) s) (nthL ρ i)
theorem gvF_eq : gvF = gv := by
  funext ρ i
  unfold gvF gv
  rw [nthL_eq]
  cases ρ[i]? with
  | none => rfl
  | some s => cases s <;> rfl
noncomputable def noByrF (ρ : Ro) (i : Nat) : Bool := Option.rec (motive := fun _ => Bool) false (fun s => Slot.rec (motive := fun _ => Bool) true (fun _ => true) (fun _ => true) (fun _ => false) (fun _ => true) (fun _ => true) s) (nthL ρ i)
theorem noByrF_eq : noByrF = noByr := by
  funext ρ i
  unfold noByrF noByr
  rw [nthL_eq]
  cases ρ[i]? with
  | none => rfl
  | some s => cases s <;> rfl
/-! ints -/
noncomputable def ieqF (i j : Int) : Bool := Int.rec (motive := fun _ => Bool) (fun m => Int.rec (motive := fun _ => Bool) (fun n => Nat.beq m n) (fun _ => false) j) (fun m => Int.rec (motive := fun _ => Bool) (fun _ => false) (fun n => Nat.beq m n) j) i
theorem ieqF_eq (i j : Int) : ieqF i j = (i == j) := by
  cases i with
  | ofNat m =>
    cases j with
    | ofNat n =>
      show Nat.beq m n = _
      rw [Bool.eq_iff_iff, beq_iff_eq, Nat.beq_eq]
      constructor
      · exact fun h => h ▸ rfl
      · exact fun h => Int.ofNat.inj h
    | negSucc n =>
      symm
      show (_ == _) = false
      rw [beq_eq_false_iff_ne]
      exact fun h => nomatch h
  | negSucc m =>
    cases j with
    | ofNat n =>
      symm
      show (_ == _) = false
      rw [beq_eq_false_iff_ne]
      exact fun h => nomatch h
    | negSucc n =>
      show Nat.beq m n = _
      rw [Bool.eq_iff_iff, beq_iff_eq, Nat.beq_eq]
      constructor
      · exact fun h => h ▸ rfl
      · exact fun h => Int.negSucc.inj h
noncomputable def iltF (i j : Int) : Bool := Int.rec (motive := fun _ => Bool) (fun m => Int.rec (motive := fun _ => Bool) (fun n => Nat.ble (Nat.succ m) n) (fun _ => false) j) (fun m => Int.rec (motive := fun _ => Bool) (fun _ => true) (fun n => Nat.ble (Nat.succ n) m) j) i
theorem iltF_eq (i j : Int) : iltF i j = decide (i < j) := by
  cases i with
  | ofNat m =>
    cases j with
    | ofNat n =>
      show Nat.ble (Nat.succ m) n = _
      rw [Bool.eq_iff_iff, decide_eq_true_iff, Nat.ble_eq]
      show m + 1 ≤ n ↔ ((m : Nat) : Int) < (n : Nat)
      omega
    | negSucc n =>
      symm
      show decide _ = false
      rw [decide_eq_false_iff_not]
      show ¬ ((m : Nat) : Int) < Int.negSucc n
      omega
  | negSucc m =>
    cases j with
    | ofNat n =>
      symm
      show decide _ = true
      rw [decide_eq_true_iff]
      show Int.negSucc m < ((n : Nat) : Int)
      omega
    | negSucc n =>
      show Nat.ble (Nat.succ n) m = _
      rw [Bool.eq_iff_iff, decide_eq_true_iff, Nat.ble_eq]
      show n + 1 ≤ m ↔ Int.negSucc m < Int.negSucc n
      omega
/-! operators -/
noncomputable def absF (i : Int) : Nat := Int.rec (motive := fun _ => Nat) (fun n => n) (fun n => Nat.succ n) i
theorem absF_eq (i : Int) : absF i = i.natAbs := by cases i <;> rfl
noncomputable def smF (i j : Int) : Bool := Bool.rec (motive := fun _ => Bool) (Nat.ble (Nat.succ (absF j)) 18446744073709551616) true (Nat.ble (Nat.succ (absF i)) 18446744073709551616)
theorem ble_lt (n m : Nat) : Nat.ble (Nat.succ n) m = decide (n < m) := by
  rw [Bool.eq_iff_iff, decide_eq_true_iff, Nat.ble_eq]
  exact Iff.rfl
theorem smF_eq (i j : Int) : smF i j = mulSm i j := by
  unfold smF mulSm
  rw [ble_lt, ble_lt, absF_eq, absF_eq]
  show _ = (decide (i.natAbs < 18446744073709551616) || decide (j.natAbs < 18446744073709551616))
  cases decide (i.natAbs < 18446744073709551616) <;> rfl
noncomputable def mulF (i j : Int) : Option D := Bool.rec (motive := fun _ => Option D) (binop .Mult (.int i) (.int j)) (some (.int (Int.mul i j))) (smF i j)
theorem mulF_eq (i j : Int) : mulF i j = binop .Mult (.int i) (.int j) := by
  unfold mulF
  cases h : smF i j with
  | false => rfl
  | true =>
    rw [smF_eq] at h
    show some (PyData.int (i * j)) = if mulOk i j then some (.int (i * j)) else none
    rw [if_pos (by unfold mulOk; rw [h]; rfl)]
noncomputable def binI (op : Operator) (i j : Int) : Option D := match op with
  | .Add => some (.int (Int.add i j))
  | .Sub => some (.int (Int.sub i j))
  | .Mult => mulF i j
  | .FloorDiv => bif divOk j then some (.int (Int.fdiv i j)) else none
  | _ => binop op (.int i) (.int j)
noncomputable def binF (op : Operator) (x y : D) : Option D := match x with
  | .int i => match y with
    | .int j => binI op i j
    | _ => binop op x y
  | _ => binop op x y
theorem binF_eq : binF = binop := by
  funext op x y
  unfold binF
  cases x <;> try rfl
  cases y <;> try rfl
  cases op <;> try rfl
  · exact mulF_eq _ _
  · show (bif divOk _ then some (PyData.int (Int.fdiv _ _)) else none) = if divOk _ then some (.int (Int.fdiv _ _)) else none
    rw [Bool.cond_eq_ite]
noncomputable def cmpI (op : CmpOp) (i j : Int) : Option Bool := match op with
  | .Eq => some (ieqF i j)
  | .NotEq => some (!(ieqF i j))
  | .Lt => some (iltF i j)
  | .Gt => some (iltF j i)
  | .LtE => some (!(iltF j i))
  | .GtE => some (!(iltF i j))
  | _ => cmpop op (.int i) (.int j)
noncomputable def cmpF (op : CmpOp) (x y : D) : Option Bool := match x with
  | .int i => match y with
    | .int j => cmpI op i j
    | _ => cmpop op x y
  | _ => cmpop op x y
theorem cmpF_eq : cmpF = cmpop := by
  funext op x y
  unfold cmpF
  cases x <;> try rfl
  cases y <;> try rfl
  cases op <;> simp only [cmpI, ieqF_eq, iltF_eq] <;> rfl
noncomputable def truF (d : D) : Option Bool := match d with
  | .bool b => some b
  | .none => some false
  | d => truD d
theorem truF_eq : truF = truD := by
  funext d
  cases d <;> rfl
noncomputable def lenD (d : D) : Option D := match d with
  | .list xs => some (.int (.ofNat (lenF xs)))
  | .tuple xs => some (.int (.ofNat (lenF xs)))
  | d => bi .len [d]
noncomputable def intD (d : D) : Option D := match d with
  | .int i => some (.int i)
  | .bool b => some (.int (Bool.rec (motive := fun _ => Int) (.ofNat 0) (.ofNat 1) b))
  | d => bi .int [d]
noncomputable def tupD (d : D) : Option D := match d with
  | .list xs => bif pursF xs then some (.tuple xs) else none
  | .tuple xs => bif pursF xs then some (.tuple xs) else none
  | d => bi .tuple [d]
noncomputable def bi1 (b : Bi) (d : D) : Option D := match b with
  | .len => lenD d
  | .int => intD d
  | .tuple => tupD d
  | b => bi b [d]
noncomputable def biF (b : Bi) (ds : List D) : Option D := match ds with
  | [d] => bi1 b d
  | ds => bi b ds
theorem lenF_eq0 {α : Type} : ∀ l : List α, lenF l = l.length
  | [] => rfl
  | _ :: r => congrArg Nat.succ (lenF_eq0 r)
theorem biF_eq : biF = bi := by
  funext b ds
  unfold biF
  rcases ds with _ | ⟨d, _ | ⟨e, r⟩⟩
  · rfl
  · show bi1 b d = bi b [d]
    unfold bi1
    cases b <;> try rfl
    · cases d <;> try rfl
      · show some (PyData.int (.ofNat (lenF _))) = some (.int (List.length _ : Nat))
        rw [lenF_eq0]
        rfl
      · show some (PyData.int (.ofNat (lenF _))) = some (.int (List.length _ : Nat))
        rw [lenF_eq0]
        rfl
    · cases d <;> try rfl
      rename_i b
      cases b <;> rfl
    · cases d <;> try rfl
      · show (bif pursF _ then some (PyData.tuple _) else none) = if purs _ then some (.tuple _) else none
        rw [pursF_eq, Bool.cond_eq_ite]
      · show (bif pursF _ then some (PyData.tuple _) else none) = if purs _ then some (.tuple _) else none
        rw [pursF_eq, Bool.cond_eq_ite]
  · rfl
noncomputable def muF (m : Mu) (xs args : List D) : Option (List D × D) := match m with
  | .append => match args with
    | [y] => if xs.length < lim then some (xs ++ [y], .none) else none
    | a => mu .append xs a
  | m => mu m xs args
theorem muF_eq : muF = mu := by
  funext m xs args
  unfold muF
  cases m <;> try rfl
  rcases args with _ | ⟨y, _ | ⟨z, r⟩⟩ <;> rfl
/-! places -/
noncomputable def pixF (n : Nat) (i : Int) : Option Nat := Int.rec (motive := fun _ => Option Nat) (fun k => Bool.rec (motive := fun _ => Option Nat) none (some k) (Nat.ble (Nat.succ k) n)) (fun k => Bool.rec (motive := fun _ => Option Nat) none (some (Nat.sub n (Nat.succ k))) (Nat.ble (Nat.succ k) n)) i
theorem pixF_eq : pixF = pixN := by
  funext n i
  unfold pixN
  cases i with
  | ofNat k =>
    show Bool.rec (motive := fun _ => Option Nat) none (some k) (Nat.ble (Nat.succ k) n) = _
    rw [if_pos (show (0 : Int) ≤ Int.ofNat k from Int.natCast_nonneg k)]
    by_cases h : k < n
    · rw [show Nat.ble (Nat.succ k) n = true from Nat.ble_eq.mpr h, if_pos (show Int.ofNat k < (n : Int) from Int.ofNat_lt.mpr h)]
      rfl
    · rw [show Nat.ble (Nat.succ k) n = false from by cases e : Nat.ble (Nat.succ k) n with | false => rfl | true => exact absurd (Nat.ble_eq.mp e) h, if_neg (show ¬ Int.ofNat k < (n : Int) from fun z => h (Int.ofNat_lt.mp z))]
  | negSucc k =>
    show Bool.rec (motive := fun _ => Option Nat) none (some (Nat.sub n (Nat.succ k))) (Nat.ble (Nat.succ k) n) = _
    rw [if_neg (show ¬ (0 : Int) ≤ Int.negSucc k by omega)]
    by_cases h : k + 1 ≤ n
    · rw [show Nat.ble (Nat.succ k) n = true from Nat.ble_eq.mpr h, if_pos (show -(n : Int) ≤ Int.negSucc k by omega)]
      show some (n - (k + 1)) = some (Int.negSucc k + (n : Int)).toNat
      congr 1
      omega
    · rw [show Nat.ble (Nat.succ k) n = false from by cases e : Nat.ble (Nat.succ k) n with | false => rfl | true => exact absurd (Nat.ble_eq.mp e) h, if_neg (show ¬ -(n : Int) ≤ Int.negSucc k by omega)]
theorem lenF_eq {α : Type} : ∀ l : List α, lenF l = l.length
  | [] => rfl
  | _ :: r => congrArg Nat.succ (lenF_eq r)
noncomputable def ixF (x y : D) : Option D := match x with
  | .list xs => match y with
    | .int i => match pixF (lenF xs) i with | some j => nthL xs j | none => none
    | _ => ixD x y
  | .tuple xs => match y with
    | .int i => match pixF (lenF xs) i with | some j => nthL xs j | none => none
    | _ => ixD x y
  | _ => ixD x y
theorem ixF_eq : ixF = ixD := by
  funext x y
  unfold ixF
  cases x <;> try rfl
  · cases y <;> try rfl
    simp only [ixD, pixF_eq, lenF_eq, nthL_eq] <;> rfl
  · cases y <;> try rfl
    simp only [ixD, pixF_eq, lenF_eq, nthL_eq] <;> rfl
noncomputable def setLF (xs : List D) (n : Int) (y : D) : Option (List D) := match pixF (lenF xs) n with
  | some j => match nthL xs j with
    | some x => match purF x with
      | true => some (setF xs j y)
      | false => none
    | none => none
  | none => none
theorem setLF_eq : setLF = setL := by
  funext xs n y
  unfold setLF setL
  rw [pixF_eq, lenF_eq, purF_eq]
  cases pixN xs.length n with
  | none => rfl
  | some j =>
    simp only [nthL_eq, setF_eq]
    cases xs[j]? with
    | none => rfl
    | some x =>
      cases h : pur x
      · simp only [h, if_neg (show ¬ (false = true) by decide)]
      · simp only [h, if_true]
/-! loops -/
noncomputable def forF (turn : D → Ro → Option Out) : List D → Ro → Option Out := fun l => List.rec (motive := fun _ => Ro → Option Out) (fun ρ => some (.nx ρ)) (fun x _ ih ρ => match turn x ρ with
  | some (.nx ρ1) => ih ρ1
  | q => q) l
theorem forF_at (turn : D → Ro → Option Out) : ∀ l ρ, forF turn l ρ = forGo turn l ρ
  | [], ρ => rfl
  | x :: r, ρ => by
    show (match turn x ρ with
      | some (.nx ρ1) => forF turn r ρ1
      | q => q) = _
    simp only [forF_at turn r, forGo] <;> rfl
theorem forF_eq : forF = forGo := by
  funext t l ρ
  exact forF_at t l ρ
noncomputable def lcF (turn : D → Ro → List D → Option (List D × Ro)) : List D → Ro → List D → Option (List D × Ro) := fun l => List.rec (motive := fun _ => Ro → List D → Option (List D × Ro)) (fun ρ acc => some (acc, ρ)) (fun x _ ih ρ acc => match turn x ρ acc with
  | some (acc1, ρ1) => ih ρ1 acc1
  | none => none) l
theorem lcF_at (turn : D → Ro → List D → Option (List D × Ro)) : ∀ l ρ acc, lcF turn l ρ acc = lcGo turn l ρ acc
  | [], ρ, acc => rfl
  | x :: r, ρ, acc => by
    show (match turn x ρ acc with
      | some (acc1, ρ1) => lcF turn r ρ1 acc1
      | none => none) = _
    simp only [lcF_at turn r, lcGo] <;> rfl
theorem lcF_eq : lcF = lcGo := by
  funext t l ρ acc
  exact lcF_at t l ρ acc
noncomputable def hideF (ρ : Ro) : List Nat → Option Ro := fun l => List.rec (motive := fun _ => Option Ro) (some ρ) (fun i _ ih => match ih with
  | some ρ1 => match nthL ρ1 i with
    | some .emp => some ρ1
    | some (.pur _) => some (setF ρ1 i .emp)
    | some (.bor _) => some (setF ρ1 i .emp)
    | some (.scr _) => some (setF ρ1 i .emp)
    | _ => none
  | none => none) l
theorem hideF_at (ρ : Ro) : ∀ l, hideF ρ l = hide ρ l
  | [] => rfl
  | i :: r => by
    show (match hideF ρ r with
      | some ρ1 => match nthL ρ1 i with
        | some .emp => some ρ1
        | some (.pur _) => some (setF ρ1 i .emp)
        | some (.bor _) => some (setF ρ1 i .emp)
        | some (.scr _) => some (setF ρ1 i .emp)
        | _ => none
      | none => none) = _
    simp only [hideF_at ρ r, hide, nthL_eq, setF_eq] <;> rfl
theorem hideF_eq : hideF = hide := by
  funext ρ l
  exact hideF_at ρ l
noncomputable def unhideF (ρ0 ρ : Ro) : List Nat → Ro := fun l => List.rec (motive := fun _ => Ro) ρ (fun i _ ih => setF ih i ((nthL ρ0 i).getD .emp)) l
theorem unhideF_at (ρ0 ρ : Ro) : ∀ l, unhideF ρ0 ρ l = unhide ρ0 ρ l
  | [] => rfl
  | i :: r => by
    show setF (unhideF ρ0 ρ r) i ((nthL ρ0 i).getD .emp) = _
    rw [unhideF_at ρ0 ρ r, setF_eq, nthL_eq]
    rfl
theorem unhideF_eq : unhideF = unhide := by
  funext a b c
  exact unhideF_at a b c
/-! values made plain before they are handed on -/
noncomputable def fcN {α : Type} (n : Nat) (k : Nat → α) : α := Nat.rec (motive := fun _ => α) (k Nat.zero) (fun m _ => k (Nat.succ m)) n
theorem fcN_eq {α : Type} (n : Nat) (k : Nat → α) : fcN n k = k n := by cases n <;> rfl
noncomputable def fcI {α : Type} (i : Int) (k : Int → α) : α := Int.rec (motive := fun _ => α) (fun n => fcN n fun m => k (.ofNat m)) (fun n => fcN n fun m => k (.negSucc m)) i
theorem fcI_eq {α : Type} (i : Int) (k : Int → α) : fcI i k = k i := by
  cases i with
  | ofNat n => exact fcN_eq n fun m => k (.ofNat m)
  | negSucc n => exact fcN_eq n fun m => k (.negSucc m)
noncomputable def fcNs {α : Type} (l : List Nat) : (List Nat → α) → α := List.rec (motive := fun _ => (List Nat → α) → α) (fun k => k []) (fun x _ ih k => fcN x fun y => ih fun r => k (y :: r)) l
theorem fcNs_eq {α : Type} : ∀ (l : List Nat) (k : List Nat → α), fcNs l k = k l
  | [], k => rfl
  | x :: r, k => by
    show fcN x (fun y => fcNs r fun r' => k (y :: r')) = _
    rw [fcN_eq, fcNs_eq r]
noncomputable def fcS {α : Type} (s : Str) (k : Str → α) : α := Str.rec (motive := fun _ => α) (fun a => Array.rec (motive := fun _ => α) (fun l => fcNs l fun l' => k ⟨⟨l'⟩⟩) a) s
theorem fcS_eq {α : Type} (s : Str) (k : Str → α) : fcS s k = k s := by
  cases s with
  | mk a =>
    cases a with
    | mk l => exact fcNs_eq l fun l' => k ⟨⟨l'⟩⟩
noncomputable def fcD {α : Type} (d : D) (k : D → α) : α := PyData.casesOn (motive_1 := fun _ => α) d (k .none) (fun b => Bool.rec (motive := fun _ => α) (k (.bool false)) (k (.bool true)) b) (fun i => fcI i fun j => k (.int j)) (fun s => fcS s fun z => k (.str z)) (fun xs => k (.list xs)) (fun xs => k (.tuple xs)) (fun xs => k (.dict xs))
theorem fcD_eq {α : Type} (d : D) (k : D → α) : fcD d k = k d := by
  cases d with
  | none => rfl
  | bool b => cases b <;> rfl
  | int i => exact fcI_eq i fun j => k (.int j)
  | str s => exact fcS_eq s fun z => k (.str z)
  | list _ => rfl
  | tuple _ => rfl
  | dict _ => rfl
noncomputable def fcSl {α : Type} (s : Slot) (k : Slot → α) : α := Slot.rec (motive := fun _ => α) (k .emp) (fun d => fcD d fun e => k (.pur e)) (fun d => fcD d fun e => k (.own e)) (fun d => fcD d fun e => k (.byr e)) (fun d => fcD d fun e => k (.bor e)) (fun d => fcD d fun e => k (.scr e)) s
theorem fcSl_eq {α : Type} (s : Slot) (k : Slot → α) : fcSl s k = k s := by
  cases s with
  | emp => rfl
  | pur d => exact fcD_eq d fun e => k (.pur e)
  | own d => exact fcD_eq d fun e => k (.own e)
  | byr d => exact fcD_eq d fun e => k (.byr e)
  | bor d => exact fcD_eq d fun e => k (.bor e)
  | scr d => exact fcD_eq d fun e => k (.scr e)
/-- the slots, each made plain -/
noncomputable def fcRo {α : Type} (l : Ro) : (Ro → α) → α := List.rec (motive := fun _ => (Ro → α) → α) (fun k => k []) (fun x _ ih k => fcSl x fun y => ih fun r => k (y :: r)) l
theorem fcRo_eq {α : Type} : ∀ (l : Ro) (k : Ro → α), fcRo l k = k l
  | [], k => rfl
  | x :: r, k => by
    show fcSl x (fun y => fcRo r fun r' => k (y :: r')) = _
    rw [fcSl_eq, fcRo_eq r]
/-- the slots alone -/
noncomputable def fcSp {α : Type} (l : Ro) : (Ro → α) → α := List.rec (motive := fun _ => (Ro → α) → α) (fun k => k []) (fun x _ ih k => ih fun r => k (x :: r)) l
theorem fcSp_eq {α : Type} : ∀ (l : Ro) (k : Ro → α), fcSp l k = k l
  | [], k => rfl
  | x :: r, k => by
    show fcSp r (fun r' => k (x :: r')) = _
    rw [fcSp_eq r]
end Zr

set_option maxRecDepth 100000
set_option maxHeartbeats 4000000
/-! ZrW: the evaluator by recursors and small parts, for the kernel (printed by mkfast.py). -/
namespace Zr
open PySem
noncomputable def fb_nm (i : Nat) : D → Stat → Ro → Option Ro := fun d st ρ => bif noByrF ρ i then (match st with
    | .fresh => some (setF ρ i (bif purF d then .pur d else .own d))
    | .froz => some (setF ρ i (bif purF d then .pur d else .bor d))
    | _ => none) else none
def fb_t1 (a : IG) (ra : D → Stat → Ro → Option Ro) : D → Stat → Ro → Option Ro := fun d st ρ => match d with
  | .tuple [x] => ra x st ρ
  | _ => none
def fb_t2 (a b : IG) (ra rb : D → Stat → Ro → Option Ro) : D → Stat → Ro → Option Ro := fun d st ρ => match d with
  | .tuple [x, y] => (ra x st ρ).bind (rb y st)
  | _ => none
def fb_t3 (a b c : IG) (ra rb rc : D → Stat → Ro → Option Ro) : D → Stat → Ro → Option Ro := fun d st ρ => match d with
  | .tuple [x, y, z] => (ra x st ρ).bind fun ρ1 => (rb y st ρ1).bind (rc z st)
  | _ => none
def fb_t4 (a b c e : IG) (ra rb rc re : D → Stat → Ro → Option Ro) : D → Stat → Ro → Option Ro := fun d st ρ => match d with
  | .tuple [x, y, z, u] => (ra x st ρ).bind fun ρ1 => (rb y st ρ1).bind fun ρ2 => (rc z st ρ2).bind (re u st)
  | _ => none
def fb_t5 (a b c e f : IG) (ra rb rc re rf : D → Stat → Ro → Option Ro) : D → Stat → Ro → Option Ro := fun d st ρ => match d with
  | .tuple [x, y, z, u, v] => (ra x st ρ).bind fun ρ1 => (rb y st ρ1).bind fun ρ2 => (rc z st ρ2).bind fun ρ3 => (re u st ρ3).bind (rf v st)
  | _ => none
noncomputable def fbindV : IG → D → Stat → Ro → Option Ro := fun g => IG.rec (motive := fun _ => D → Stat → Ro → Option Ro) fb_nm fb_t1 fb_t2 fb_t3 fb_t4 fb_t5 g
theorem fbindV_eq : ∀ (g : IG), fbindV g = bindV g
  | .nm i => by
    funext d st ρ
    show fb_nm i d st ρ = _
    simp only [fb_nm, bindV, Bool.cond_eq_ite, noByrF_eq, purF_eq, setF_eq] <;> (cases st <;> rfl)
  | .t1 a => by
    funext d st ρ
    show fb_t1 a (fbindV a) d st ρ = _
    rw [fbindV_eq a]
    rcases d with _ | _ | _ | _ | _ | ds | _ <;> try rfl
    rcases ds with _ | ⟨_, _ | ⟨_, _⟩⟩ <;> rfl
  | .t2 a b => by
    funext d st ρ
    show fb_t2 a b (fbindV a) (fbindV b) d st ρ = _
    rw [fbindV_eq a, fbindV_eq b]
    rcases d with _ | _ | _ | _ | _ | ds | _ <;> try rfl
    rcases ds with _ | ⟨_, _ | ⟨_, _ | ⟨_, _⟩⟩⟩ <;> rfl
  | .t3 a b c => by
    funext d st ρ
    show fb_t3 a b c (fbindV a) (fbindV b) (fbindV c) d st ρ = _
    rw [fbindV_eq a, fbindV_eq b, fbindV_eq c]
    rcases d with _ | _ | _ | _ | _ | ds | _ <;> try rfl
    rcases ds with _ | ⟨_, _ | ⟨_, _ | ⟨_, _ | ⟨_, _⟩⟩⟩⟩ <;> rfl
  | .t4 a b c e => by
    funext d st ρ
    show fb_t4 a b c e (fbindV a) (fbindV b) (fbindV c) (fbindV e) d st ρ = _
    rw [fbindV_eq a, fbindV_eq b, fbindV_eq c, fbindV_eq e]
    rcases d with _ | _ | _ | _ | _ | ds | _ <;> try rfl
    rcases ds with _ | ⟨_, _ | ⟨_, _ | ⟨_, _ | ⟨_, _ | ⟨_, _⟩⟩⟩⟩⟩ <;> rfl
  | .t5 a b c e f => by
    funext d st ρ
    show fb_t5 a b c e f (fbindV a) (fbindV b) (fbindV c) (fbindV e) (fbindV f) d st ρ = _
    rw [fbindV_eq a, fbindV_eq b, fbindV_eq c, fbindV_eq e, fbindV_eq f]
    rcases d with _ | _ | _ | _ | _ | ds | _ <;> try rfl
    rcases ds with _ | ⟨_, _ | ⟨_, _ | ⟨_, _ | ⟨_, _ | ⟨_, _ | ⟨_, _⟩⟩⟩⟩⟩⟩ <;> rfl
noncomputable def fbindNs : List Nat → List D → Ro → Option Ro
  | [], [], ρ => some ρ
  | i :: is, d :: ds, ρ => match fbindV (.nm i) d .fresh ρ with
    | some ρ1 => fbindNs is ds ρ1
    | none => none
  | _, _, _ => none
theorem fbindNs_eq : ∀ (is : List Nat) (ds : List D) (ρ : Ro), fbindNs is ds ρ = bindNs is ds ρ
  | [], [], ρ => rfl
  | [], _ :: _, ρ => rfl
  | _ :: _, [], ρ => rfl
  | i :: is, d :: ds, ρ => by
    simp only [fbindNs, bindNs, fbindV_eq]
    cases bindV (.nm i) d .fresh ρ with
    | none => rfl
    | some ρ1 => exact fbindNs_eq is ds ρ1
noncomputable def fe_var (C : CallF) (i : Nat)  : Ro → R := fun ρ => match gvF ρ i with
    | some (d, s) => some (d, s, ρ)
    | none => none
noncomputable def fe_mov (C : CallF) (i : Nat)  : Ro → R := fun ρ => match nthL ρ i with
    | some (.pur d) => some (d, .fresh, ρ)
    | some (.own d) => some (d, .take i, ρ)
    | some (.bor d) => some (d, .froz, ρ)
    | some (.scr d) => some (d, .scr, ρ)
    | _ => none
noncomputable def fe_fz (C : CallF) (i : Nat) (e : IE) (r_e : Ro → R) : Ro → R := fun ρ => match r_e ρ with
    | some (d, .loan j, ρ1) => if j = i then (match nthL ρ1 i with
      | some (.own c) => some (d, .froz, setF ρ1 i (.bor c))
      | _ => none) else none
    | r => r
noncomputable def fe_int (C : CallF) (i : Int)  : Ro → R := fun ρ => some (.int i, .fresh, ρ)
noncomputable def fe_str (C : CallF) (x : Str)  : Ro → R := fun ρ => some (.str x, .fresh, ρ)
noncomputable def fe_bl (C : CallF) (b : Bool)  : Ro → R := fun ρ => some (.bool b, .fresh, ρ)
noncomputable def fe_non (C : CallF)   : Ro → R := fun ρ => some (.none, .fresh, ρ)
noncomputable def fe_glob (C : CallF) (x : Str) (d : D)  : Ro → R := fun ρ => bif purF d then some (d, .fresh, ρ) else none
noncomputable def fe_bin (C : CallF) (op : Operator) (a : IE) (b : IE) (r_a : Ro → R) (r_b : Ro → R) : Ro → R := fun ρ => match r_a ρ with
    | some (x, sx, ρ1) => match r_b ρ1 with
      | some (y, sy, ρ2) => bif okSt sx (effE b) && noScr sx && noScr sy then (match binF op x y with
        | some d => fcD d fun d => some (d, .fresh, ρ2)
        | none => none) else none
      | none => none
    | none => none
noncomputable def fe_neg (C : CallF) (a : IE) (r_a : Ro → R) : Ro → R := fun ρ => match r_a ρ with
    | some (.int i, _, ρ1) => some (.int (-i), .fresh, ρ1)
    | _ => none
noncomputable def fe_cmp (C : CallF) (op : CmpOp) (a : IE) (b : IE) (r_a : Ro → R) (r_b : Ro → R) : Ro → R := fun ρ => match r_a ρ with
    | some (x, sx, ρ1) => match r_b ρ1 with
      | some (y, _, ρ2) => bif okSt sx (effE b) then (match cmpF op x y with
        | some k => some (.bool k, .fresh, ρ2)
        | none => none) else none
      | none => none
    | none => none
noncomputable def fe_chain (C : CallF) (op : CmpOp) (op' : CmpOp) (a : IE) (b : IE) (c : IE) (r_a : Ro → R) (r_b : Ro → R) (r_c : Ro → R) : Ro → R := fun ρ => match r_a ρ with
    | some (x, sx, ρ1) => match r_b ρ1 with
      | some (y, sy, ρ2) => bif okSt sx (effE b) then (match cmpF op x y with
        | some true => match r_c ρ2 with
          | some (z, _, ρ3) => bif okSt sy (effE c) then (match cmpF op' y z with
            | some k => some (.bool k, .fresh, ρ3)
            | none => none) else none
          | none => none
        | some false => some (.bool false, .fresh, ρ2)
        | none => none) else none
      | none => none
    | none => none
noncomputable def fe_chain3 (C : CallF) (o1 : CmpOp) (o2 : CmpOp) (o3 : CmpOp) (a : IE) (b : IE) (c : IE) (d : IE) (r_a : Ro → R) (r_b : Ro → R) (r_c : Ro → R) (r_d : Ro → R) : Ro → R := fun ρ => match r_a ρ with
    | some (x, sx, ρ1) => match r_b ρ1 with
      | some (y, sy, ρ2) => bif okSt sx (effE b) then (match cmpF o1 x y with
        | some true => match r_c ρ2 with
          | some (z, sz, ρ3) => bif okSt sy (effE c) then (match cmpF o2 y z with
            | some true => match r_d ρ3 with
              | some (u, _, ρ4) => bif okSt sz (effE d) then (match cmpF o3 z u with
                | some k => some (.bool k, .fresh, ρ4)
                | none => none) else none
              | none => none
            | some false => some (.bool false, .fresh, ρ3)
            | none => none) else none
          | none => none
        | some false => some (.bool false, .fresh, ρ2)
        | none => none) else none
      | none => none
    | none => none
noncomputable def fe_rng1V (C : CallF) (tp : Bool) (a : IE) (r_a : Ro → R) : Ro → R := fun ρ => match r_a ρ with
    | some (.int j, _, ρ1) => if j < lim ∧ -lim < j then some (bif tp then .tuple (rangeD 0 j.toNat) else .list (rangeD 0 j.toNat), .fresh, ρ1) else none
    | _ => none
noncomputable def fe_rng2V (C : CallF) (tp : Bool) (a : IE) (b : IE) (r_a : Ro → R) (r_b : Ro → R) : Ro → R := fun ρ => match r_a ρ with
    | some (.int i, sx, ρ1) => match r_b ρ1 with
      | some (.int j, _, ρ2) => if okSt sx (effE b) = true ∧ j < lim ∧ -lim < j ∧ i < lim ∧ -lim < i ∧ (j - i).toNat ≤ lim then some (bif tp then .tuple (rangeD i (j - i).toNat) else .list (rangeD i (j - i).toNat), .fresh, ρ2) else none
      | _ => none
    | _ => none
noncomputable def fe_sls (C : CallF) (a : IE) (lo : IO) (hi : IO) (st : Int) (r_a : Ro → R) (r_lo : Ro → Option (Option Int × Ro)) (r_hi : Ro → Option (Option Int × Ro)) : Ro → R := fun ρ => match r_a ρ with
    | some (x, sx, ρ1) => match r_lo ρ1 with
      | some (l, ρ2) => match r_hi ρ2 with
        | some (h, ρ3) => bif okSt sx (effO lo ++ effO hi) then (match slsD x l h st with
          | some d => some (d, .fresh, ρ3)
          | none => none) else none
        | none => none
      | none => none
    | none => none
noncomputable def fe_cin (C : CallF) (neg : Bool) (a : IE) (x : Str) (kvs : List (Str × D)) (r_a : Ro → R) : Ro → R := fun ρ => match r_a ρ with
    | some (.str y, _, ρ1) => some (.bool (bif neg then !(kvs.lookup y).isSome else (kvs.lookup y).isSome), .fresh, ρ1)
    | _ => none
noncomputable def fe_cix (C : CallF) (x : Str) (kvs : List (Str × D)) (a : IE) (r_a : Ro → R) : Ro → R := fun ρ => match r_a ρ with
    | some (.str y, _, ρ1) => match kvs.lookup y with
      | some d => bif purF d then some (d, .fresh, ρ1) else none
      | none => none
    | _ => none
noncomputable def fe_dic (C : CallF) (ks : IEs) (vs : IEs) (r_ks : Ro → Option (Ds × Ro)) (r_vs : Ro → Option (Ds × Ro)) : Ro → R := fun _ => none
noncomputable def fe_dc (C : CallF) (own : List Nat) (k : IE) (v : IE) (g : IG) (it : II) (t : IC) (r_k : Ro → R) (r_v : Ro → R) (r_it : Ro → Option (List D × List Stat × Ro)) (r_t : Ro → Option (Bool × Ro)) : Ro → R := fun _ => none
noncomputable def fe_sset (C : CallF) (b : Bi) (e : IE) (r_e : Ro → R) : Ro → R := fun _ => none
noncomputable def fe_meth0 (C : CallF) (m : Str) (o : IE) (r_o : Ro → R) : Ro → R := fun _ => none
noncomputable def fe_andV (C : CallF) (a : IE) (b : IE) (r_a : Ro → R) (r_b : Ro → R) : Ro → R := fun ρ => match r_a ρ with
    | some (x, s, ρ1) => match truF x with
      | some true => r_b ρ1
      | some false => some (x, s, ρ1)
      | none => none
    | none => none
noncomputable def fe_orV (C : CallF) (a : IE) (b : IE) (r_a : Ro → R) (r_b : Ro → R) : Ro → R := fun ρ => match r_a ρ with
    | some (x, s, ρ1) => match truF x with
      | some true => some (x, s, ρ1)
      | some false => r_b ρ1
      | none => none
    | none => none
noncomputable def fe_oneV (C : CallF) (a : IE) (r_a : Ro → R) : Ro → R := fun ρ => r_a ρ
noncomputable def fe_notV (C : CallF) (a : IE) (r_a : Ro → R) : Ro → R := fun ρ => match r_a ρ with
    | some (x, _, ρ1) => match truF x with
      | some k => some (.bool !k, .fresh, ρ1)
      | none => none
    | none => none
noncomputable def fe_ite (C : CallF) (t : IT) (a : IE) (b : IE) (r_t : Ro → Option (Bool × Ro)) (r_a : Ro → R) (r_b : Ro → R) : Ro → R := fun ρ => match r_t ρ with
    | some (k, ρ1) => bif k then r_a ρ1 else r_b ρ1
    | none => none
noncomputable def fe_tup (C : CallF) (es : IEs) (r_es : Ro → Option (Ds × Ro)) : Ro → R := fun ρ => match r_es ρ with
    | some (ds, ρ1) => match settles ds ρ1 with
      | some (xs, ρ2) => if xs.length ≤ lim then some (.tuple xs, .fresh, ρ2) else none
      | none => none
    | none => none
noncomputable def fe_lst (C : CallF) (es : IEs) (r_es : Ro → Option (Ds × Ro)) : Ro → R := fun ρ => match r_es ρ with
    | some (ds, ρ1) => match settles ds ρ1 with
      | some (xs, ρ2) => if xs.length ≤ lim then some (.list xs, .fresh, ρ2) else none
      | none => none
    | none => none
noncomputable def fe_ix (C : CallF) (a : IE) (b : IE) (r_a : Ro → R) (r_b : Ro → R) : Ro → R := fun ρ => match r_a ρ with
    | some (x, sx, ρ1) => match r_b ρ1 with
      | some (y, _, ρ2) => bif okSt sx (effE b) then (match ixF x y with
        | some d => bif purF d then some (d, .fresh, ρ2) else (match sx with
          | .fresh => some (d, .fresh, ρ2)
          | .take _ => none
          | s => some (d, s, ρ2))
        | none => none) else none
      | none => none
    | none => none
noncomputable def fe_sl (C : CallF) (a : IE) (lo : IO) (hi : IO) (r_a : Ro → R) (r_lo : Ro → Option (Option Int × Ro)) (r_hi : Ro → Option (Option Int × Ro)) : Ro → R := fun ρ => match r_a ρ with
    | some (x, sx, ρ1) => match r_lo ρ1 with
      | some (l, ρ2) => match r_hi ρ2 with
        | some (h, ρ3) => bif okSt sx (effO lo ++ effO hi) then (match slD x l h with
          | some d => some (d, .fresh, ρ3)
          | none => none) else none
        | none => none
      | none => none
    | none => none
noncomputable def fe_isi (C : CallF) (a : IE) (ts : List Ty) (r_a : Ro → R) : Ro → R := fun ρ => match r_a ρ with
    | some (x, _, ρ1) => some (.bool (ts.any fun t => tyD t x), .fresh, ρ1)
    | none => none
noncomputable def fe_bcall (C : CallF) (b : Bi) (es : IEs) (r_es : Ro → Option (Ds × Ro)) : Ro → R := fun ρ => match r_es ρ with
    | some (ds, ρ1) => match biF b (ds.map (·.1)) with
      | some d => some (d, .fresh, ρ1)
      | none => none
    | none => none
noncomputable def fe_fcall (C : CallF) (f : Nat) (es : IEs) (r_es : Ro → Option (Ds × Ro)) : Ro → R := fun ρ => match r_es ρ with
    | some (ds, ρ1) => bif ds.all (fun p => noScr p.2) then (match C f none (ds.map (·.1)) with
      | some (d, _) => some (d, .fresh, ρ1)
      | none => none) else none
    | none => none
noncomputable def fe_fscr (C : CallF) (f : Nat) (es : IEs) (r_es : Ro → Option (Ds × Ro)) : Ro → R := fun ρ => match r_es ρ with
    | some (ds, ρ1) => bif ds.tail.all (fun p => noScr p.2) then (match C f none (ds.map (·.1)) with
      | some (d, _) => some (d, .fresh, ρ1)
      | none => none) else none
    | none => none
noncomputable def fe_fref (C : CallF) (f : Nat) (s : Nat) (es : IEs) (r_es : Ro → Option (Ds × Ro)) : Ro → R := fun ρ => match r_es ρ with
    | some (ds, ρ1) => bif ds.all (fun p => okSt p.2 [s] && noScr p.2) && isOwn ρ s then (match nthL ρ1 s with
      | some (.own c) => match C f (some c) (ds.map (·.1)) with
        | some (d, some c') => some (d, .fresh, setF ρ1 s (.own c'))
        | _ => none
      | some (.byr c) => match C f (some c) (ds.map (·.1)) with
        | some (d, some c') => some (d, .fresh, setF ρ1 s (.byr c'))
        | _ => none
      | _ => none) else none
    | none => none
noncomputable def fe_meth (C : CallF) (m : Me) (o : IE) (es : IEs) (r_o : Ro → R) (r_es : Ro → Option (Ds × Ro)) : Ro → R := fun ρ => match r_o ρ with
    | some (x, sx, ρ1) => match r_es ρ1 with
      | some (ds, ρ2) => bif okSt sx (effs es) then (match meD m x (ds.map (·.1)) with
        | some d => some (d, .fresh, ρ2)
        | none => none) else none
      | none => none
    | none => none
noncomputable def fe_mut (C : CallF) (m : Mu) (i : Nat) (es : IEs) (r_es : Ro → Option (Ds × Ro)) : Ro → R := fun ρ => bif isLst ρ i && !(effs es).contains i && !(tks es).contains i then (match r_es ρ with
    | some (ds, ρ1) => match settles ds ρ1 with
      | some (args, ρ2) => match nthL ρ2 i with
        | some (.own (.list xs)) => match muF m xs args with
          | some (ys, d) => some (d, .fresh, setF ρ2 i (.own (.list ys)))
          | none => none
        | some (.byr (.list xs)) => match muF m xs args with
          | some (ys, d) => some (d, .fresh, setF ρ2 i (.byr (.list ys)))
          | none => none
        | _ => none
      | none => none
    | none => none) else none
noncomputable def fe_lc (C : CallF) (own : List Nat) (elt : IE) (g : IG) (it : II) (t : IC) (r_elt : Ro → R) (r_it : Ro → Option (List D × List Stat × Ro)) (r_t : Ro → Option (Bool × Ro)) : Ro → R := fun ρ => match r_it ρ with
    | some (xs, st, ρ1) => match hideF ρ1 own with
      | some ρ2 => bif st.all (walkOk · xs (own ++ (effC t ++ (effE elt ++ tkE elt)))) && g.slots.all own.contains then
          (match lcF (fun x ρ acc => match fbindV g x .froz ρ with
            | some ρa => match r_t ρa with
              | some (true, ρb) => match r_elt ρb with
                | some (y, sy, ρc) => match settle y sy ρc with
                  | some ρe => match hideF ρe own with
                    | some ρd => fcD y fun y => fcSp ρd fun ρd => if acc.length < lim then some (y :: acc, ρd) else none
                    | none => none
                  | none => none
                | none => none
              | some (false, ρb) => match hideF ρb own with
                | some ρd => some (acc, ρd)
                | none => none
              | none => none
            | none => none) xs ρ2 [] with
          | some (acc, ρ3) => some (.list acc.reverse, .fresh, unhideF ρ1 ρ3 own)
          | none => none) else none
      | none => none
    | none => none
noncomputable def fe_lc2 (C : CallF) (own : List Nat) (elt : IE) (g : IG) (it : II) (t : IC) (g1 : IG) (it1 : II) (t1 : IC) (r_elt : Ro → R) (r_it : Ro → Option (List D × List Stat × Ro)) (r_t : Ro → Option (Bool × Ro)) (r_it1 : Ro → Option (List D × List Stat × Ro)) (r_t1 : Ro → Option (Bool × Ro)) : Ro → R := fun ρ => match r_it ρ with
    | some (xs, st, ρ1) => match hideF ρ1 own with
      | some ρ2 => bif st.all (walkOk · xs (own ++ (effC t ++ (effI it1 ++ (effC t1 ++ (effE elt ++ tkE elt)))))) && g.slots.all own.contains && g1.slots.all own.contains then
          (match lcF (fun x ρ acc => match fbindV g x .froz ρ with
            | some ρa => match r_t ρa with
              | some (true, ρb) => match r_it1 ρb with
                | some (xs1, st1, ρb1) => match hideF ρb1 g1.slots with
                  | some ρb2 => bif st1.all (walkOk · xs1 (own ++ (effC t ++ (effI it1 ++ (effC t1 ++ (effE elt ++ tkE elt)))))) then
                    (match lcF (fun x ρ acc => match fbindV g1 x .froz ρ with
                    | some ρa => match r_t1 ρa with
                      | some (true, ρb) => match r_elt ρb with
                        | some (y, sy, ρc) => match settle y sy ρc with
                          | some ρe => match hideF ρe g1.slots with
                            | some ρd => if acc.length < lim then some (y :: acc, ρd) else none
                            | none => none
                          | none => none
                        | none => none
                      | some (false, ρb) => match hideF ρb g1.slots with
                        | some ρd => some (acc, ρd)
                        | none => none
                      | none => none
                    | none => none) xs1 ρb2 acc with
                    | some (acc1, ρ3) => match hideF ρ3 own with
                      | some ρd => some (acc1, ρd)
                      | none => none
                    | none => none) else none
                  | none => none
                | none => none
              | some (false, ρb) => match hideF ρb own with
                | some ρd => some (acc, ρd)
                | none => none
              | none => none
            | none => none) xs ρ2 [] with
          | some (acc, ρ3) => some (.list acc.reverse, .fresh, unhideF ρ1 ρ3 own)
          | none => none) else none
      | none => none
    | none => none
noncomputable def fes_nil (C : CallF)   : Ro → Option (Ds × Ro) := fun ρ => some ([], ρ)
noncomputable def fes_cons (C : CallF) (e : IE) (es : IEs) (r_e : Ro → R) (r_es : Ro → Option (Ds × Ro)) : Ro → Option (Ds × Ro) := fun ρ => match r_e ρ with
    | some (d, s, ρ1) => match r_es ρ1 with
      | some (ds, ρ2) => bif okSt s (effs es) then some ((d, s) :: ds, ρ2) else none
      | none => none
    | none => none
noncomputable def feO_none (C : CallF)   : Ro → Option (Option Int × Ro) := fun ρ => some (none, ρ)
noncomputable def feO_some (C : CallF) (e : IE) (r_e : Ro → R) : Ro → Option (Option Int × Ro) := fun ρ => match r_e ρ with
    | some (.int i, _, ρ1) => some (some i, ρ1)
    | _ => none
noncomputable def feT_tru (C : CallF) (e : IE) (r_e : Ro → R) : Ro → Option (Bool × Ro) := fun ρ => match r_e ρ with
    | some (x, _, ρ1) => match truF x with
      | some k => some (k, ρ1)
      | none => none
    | none => none
noncomputable def feT_cmp (C : CallF) (e : IE) (r_e : Ro → R) : Ro → Option (Bool × Ro) := fun ρ => match r_e ρ with
    | some (.bool k, _, ρ1) => some (k, ρ1)
    | _ => none
noncomputable def feT_and (C : CallF) (a : IT) (b : IT) (r_a : Ro → Option (Bool × Ro)) (r_b : Ro → Option (Bool × Ro)) : Ro → Option (Bool × Ro) := fun ρ => match r_a ρ with
    | some (true, ρ1) => r_b ρ1
    | r => r
noncomputable def feT_or (C : CallF) (a : IT) (b : IT) (r_a : Ro → Option (Bool × Ro)) (r_b : Ro → Option (Bool × Ro)) : Ro → Option (Bool × Ro) := fun ρ => match r_a ρ with
    | some (false, ρ1) => r_b ρ1
    | r => r
noncomputable def feT_one (C : CallF) (a : IT) (r_a : Ro → Option (Bool × Ro)) : Ro → Option (Bool × Ro) := fun ρ => r_a ρ
noncomputable def feT_not (C : CallF) (a : IT) (r_a : Ro → Option (Bool × Ro)) : Ro → Option (Bool × Ro) := fun ρ => match r_a ρ with
    | some (k, ρ1) => some (!k, ρ1)
    | none => none
noncomputable def feC_yes (C : CallF)   : Ro → Option (Bool × Ro) := fun ρ => some (true, ρ)
noncomputable def feC_one (C : CallF) (t : IT) (r_t : Ro → Option (Bool × Ro)) : Ro → Option (Bool × Ro) := fun ρ => r_t ρ
noncomputable def feI_seq (C : CallF) (e : IE) (r_e : Ro → R) : Ro → Option (List D × List Stat × Ro) := fun ρ => match r_e ρ with
    | some (d, s, ρ1) => match itemsOf d with
      | some xs => some (xs, [s], ρ1)
      | none => none
    | none => none
noncomputable def feI_rng1 (C : CallF) (a : IE) (r_a : Ro → R) : Ro → Option (List D × List Stat × Ro) := fun ρ => match r_a ρ with
    | some (.int j, _, ρ1) => if j < lim ∧ -lim < j then some (rangeD 0 j.toNat, [], ρ1) else none
    | _ => none
noncomputable def feI_rng2 (C : CallF) (a : IE) (b : IE) (r_a : Ro → R) (r_b : Ro → R) : Ro → Option (List D × List Stat × Ro) := fun ρ => match r_a ρ with
    | some (.int i, sx, ρ1) => match r_b ρ1 with
      | some (.int j, _, ρ2) => if okSt sx (effE b) = true ∧ j < lim ∧ -lim < j ∧ i < lim ∧ -lim < i then some (rangeD i (j - i).toNat, [], ρ2) else none
      | _ => none
    | _ => none
noncomputable def feI_enum (C : CallF) (e : IE) (r_e : Ro → R) : Ro → Option (List D × List Stat × Ro) := fun ρ => match r_e ρ with
    | some (d, s, ρ1) => match itemsOf d with
      | some xs => some (enumD 0 xs, [s], ρ1)
      | none => none
    | none => none
noncomputable def feI_zip (C : CallF) (a : IE) (b : IE) (r_a : Ro → R) (r_b : Ro → R) : Ro → Option (List D × List Stat × Ro) := fun ρ => match r_a ρ with
    | some (x, sx, ρ1) => match r_b ρ1 with
      | some (y, sy, ρ2) => bif okSt sx (effE b) then (match itemsOf x with
        | some xs => match itemsOf y with
          | some ys => some (zipD xs ys, [sx, sy], ρ2)
          | none => none
        | none => none) else none
      | none => none
    | none => none
noncomputable def feI_ezip (C : CallF) (a : IE) (b : IE) (r_a : Ro → R) (r_b : Ro → R) : Ro → Option (List D × List Stat × Ro) := fun ρ => match r_a ρ with
    | some (x, sx, ρ1) => match r_b ρ1 with
      | some (y, sy, ρ2) => bif okSt sx (effE b) then (match itemsOf x with
        | some xs => match itemsOf y with
          | some ys => some (enumD 0 (zipD xs ys), [sx, sy], ρ2)
          | none => none
        | none => none) else none
      | none => none
    | none => none
noncomputable def feI_zip3 (C : CallF) (a : IE) (b : IE) (c : IE) (r_a : Ro → R) (r_b : Ro → R) (r_c : Ro → R) : Ro → Option (List D × List Stat × Ro) := fun ρ => match r_a ρ with
    | some (x, sx, ρ1) => match r_b ρ1 with
      | some (y, sy, ρ2) => match r_c ρ2 with
        | some (z, sz, ρ3) => bif okSt sx (effE b ++ effE c) && okSt sy (effE c) then (match itemsOf x with
          | some xs => match itemsOf y with
            | some ys => match itemsOf z with
              | some zs => some (zipD3 xs ys zs, [sx, sy, sz], ρ3)
              | none => none
            | none => none
          | none => none) else none
        | none => none
      | none => none
    | none => none
noncomputable def fe (C : CallF) : IE → Ro → R := fun e => @IE.rec (fun _ => Ro → R) (fun _ => Ro → Option (Ds × Ro)) (fun _ => Ro → Option (Option Int × Ro)) (fun _ => Ro → Option (Bool × Ro)) (fun _ => Ro → Option (Bool × Ro)) (fun _ => Ro → Option (List D × List Stat × Ro)) (fe_var C) (fe_mov C) (fe_fz C) (fe_int C) (fe_str C) (fe_bl C) (fe_non C) (fe_glob C) (fe_bin C) (fe_neg C) (fe_cmp C) (fe_chain C) (fe_chain3 C) (fe_rng1V C) (fe_rng2V C) (fe_sls C) (fe_cin C) (fe_cix C) (fe_dic C) (fe_dc C) (fe_sset C) (fe_meth0 C) (fe_andV C) (fe_orV C) (fe_oneV C) (fe_notV C) (fe_ite C) (fe_tup C) (fe_lst C) (fe_ix C) (fe_sl C) (fe_isi C) (fe_bcall C) (fe_fcall C) (fe_fscr C) (fe_fref C) (fe_meth C) (fe_mut C) (fe_lc C) (fe_lc2 C) (fes_nil C) (fes_cons C) (feO_none C) (feO_some C) (feT_tru C) (feT_cmp C) (feT_and C) (feT_or C) (feT_one C) (feT_not C) (feC_yes C) (feC_one C) (feI_seq C) (feI_rng1 C) (feI_rng2 C) (feI_enum C) (feI_zip C) (feI_ezip C) (feI_zip3 C) e
noncomputable def fes (C : CallF) : IEs → Ro → Option (Ds × Ro) := fun e => @IEs.rec (fun _ => Ro → R) (fun _ => Ro → Option (Ds × Ro)) (fun _ => Ro → Option (Option Int × Ro)) (fun _ => Ro → Option (Bool × Ro)) (fun _ => Ro → Option (Bool × Ro)) (fun _ => Ro → Option (List D × List Stat × Ro)) (fe_var C) (fe_mov C) (fe_fz C) (fe_int C) (fe_str C) (fe_bl C) (fe_non C) (fe_glob C) (fe_bin C) (fe_neg C) (fe_cmp C) (fe_chain C) (fe_chain3 C) (fe_rng1V C) (fe_rng2V C) (fe_sls C) (fe_cin C) (fe_cix C) (fe_dic C) (fe_dc C) (fe_sset C) (fe_meth0 C) (fe_andV C) (fe_orV C) (fe_oneV C) (fe_notV C) (fe_ite C) (fe_tup C) (fe_lst C) (fe_ix C) (fe_sl C) (fe_isi C) (fe_bcall C) (fe_fcall C) (fe_fscr C) (fe_fref C) (fe_meth C) (fe_mut C) (fe_lc C) (fe_lc2 C) (fes_nil C) (fes_cons C) (feO_none C) (feO_some C) (feT_tru C) (feT_cmp C) (feT_and C) (feT_or C) (feT_one C) (feT_not C) (feC_yes C) (feC_one C) (feI_seq C) (feI_rng1 C) (feI_rng2 C) (feI_enum C) (feI_zip C) (feI_ezip C) (feI_zip3 C) e
noncomputable def feO (C : CallF) : IO → Ro → Option (Option Int × Ro) := fun e => @IO.rec (fun _ => Ro → R) (fun _ => Ro → Option (Ds × Ro)) (fun _ => Ro → Option (Option Int × Ro)) (fun _ => Ro → Option (Bool × Ro)) (fun _ => Ro → Option (Bool × Ro)) (fun _ => Ro → Option (List D × List Stat × Ro)) (fe_var C) (fe_mov C) (fe_fz C) (fe_int C) (fe_str C) (fe_bl C) (fe_non C) (fe_glob C) (fe_bin C) (fe_neg C) (fe_cmp C) (fe_chain C) (fe_chain3 C) (fe_rng1V C) (fe_rng2V C) (fe_sls C) (fe_cin C) (fe_cix C) (fe_dic C) (fe_dc C) (fe_sset C) (fe_meth0 C) (fe_andV C) (fe_orV C) (fe_oneV C) (fe_notV C) (fe_ite C) (fe_tup C) (fe_lst C) (fe_ix C) (fe_sl C) (fe_isi C) (fe_bcall C) (fe_fcall C) (fe_fscr C) (fe_fref C) (fe_meth C) (fe_mut C) (fe_lc C) (fe_lc2 C) (fes_nil C) (fes_cons C) (feO_none C) (feO_some C) (feT_tru C) (feT_cmp C) (feT_and C) (feT_or C) (feT_one C) (feT_not C) (feC_yes C) (feC_one C) (feI_seq C) (feI_rng1 C) (feI_rng2 C) (feI_enum C) (feI_zip C) (feI_ezip C) (feI_zip3 C) e
noncomputable def feT (C : CallF) : IT → Ro → Option (Bool × Ro) := fun e => @IT.rec (fun _ => Ro → R) (fun _ => Ro → Option (Ds × Ro)) (fun _ => Ro → Option (Option Int × Ro)) (fun _ => Ro → Option (Bool × Ro)) (fun _ => Ro → Option (Bool × Ro)) (fun _ => Ro → Option (List D × List Stat × Ro)) (fe_var C) (fe_mov C) (fe_fz C) (fe_int C) (fe_str C) (fe_bl C) (fe_non C) (fe_glob C) (fe_bin C) (fe_neg C) (fe_cmp C) (fe_chain C) (fe_chain3 C) (fe_rng1V C) (fe_rng2V C) (fe_sls C) (fe_cin C) (fe_cix C) (fe_dic C) (fe_dc C) (fe_sset C) (fe_meth0 C) (fe_andV C) (fe_orV C) (fe_oneV C) (fe_notV C) (fe_ite C) (fe_tup C) (fe_lst C) (fe_ix C) (fe_sl C) (fe_isi C) (fe_bcall C) (fe_fcall C) (fe_fscr C) (fe_fref C) (fe_meth C) (fe_mut C) (fe_lc C) (fe_lc2 C) (fes_nil C) (fes_cons C) (feO_none C) (feO_some C) (feT_tru C) (feT_cmp C) (feT_and C) (feT_or C) (feT_one C) (feT_not C) (feC_yes C) (feC_one C) (feI_seq C) (feI_rng1 C) (feI_rng2 C) (feI_enum C) (feI_zip C) (feI_ezip C) (feI_zip3 C) e
noncomputable def feC (C : CallF) : IC → Ro → Option (Bool × Ro) := fun e => @IC.rec (fun _ => Ro → R) (fun _ => Ro → Option (Ds × Ro)) (fun _ => Ro → Option (Option Int × Ro)) (fun _ => Ro → Option (Bool × Ro)) (fun _ => Ro → Option (Bool × Ro)) (fun _ => Ro → Option (List D × List Stat × Ro)) (fe_var C) (fe_mov C) (fe_fz C) (fe_int C) (fe_str C) (fe_bl C) (fe_non C) (fe_glob C) (fe_bin C) (fe_neg C) (fe_cmp C) (fe_chain C) (fe_chain3 C) (fe_rng1V C) (fe_rng2V C) (fe_sls C) (fe_cin C) (fe_cix C) (fe_dic C) (fe_dc C) (fe_sset C) (fe_meth0 C) (fe_andV C) (fe_orV C) (fe_oneV C) (fe_notV C) (fe_ite C) (fe_tup C) (fe_lst C) (fe_ix C) (fe_sl C) (fe_isi C) (fe_bcall C) (fe_fcall C) (fe_fscr C) (fe_fref C) (fe_meth C) (fe_mut C) (fe_lc C) (fe_lc2 C) (fes_nil C) (fes_cons C) (feO_none C) (feO_some C) (feT_tru C) (feT_cmp C) (feT_and C) (feT_or C) (feT_one C) (feT_not C) (feC_yes C) (feC_one C) (feI_seq C) (feI_rng1 C) (feI_rng2 C) (feI_enum C) (feI_zip C) (feI_ezip C) (feI_zip3 C) e
noncomputable def feI (C : CallF) : II → Ro → Option (List D × List Stat × Ro) := fun e => @II.rec (fun _ => Ro → R) (fun _ => Ro → Option (Ds × Ro)) (fun _ => Ro → Option (Option Int × Ro)) (fun _ => Ro → Option (Bool × Ro)) (fun _ => Ro → Option (Bool × Ro)) (fun _ => Ro → Option (List D × List Stat × Ro)) (fe_var C) (fe_mov C) (fe_fz C) (fe_int C) (fe_str C) (fe_bl C) (fe_non C) (fe_glob C) (fe_bin C) (fe_neg C) (fe_cmp C) (fe_chain C) (fe_chain3 C) (fe_rng1V C) (fe_rng2V C) (fe_sls C) (fe_cin C) (fe_cix C) (fe_dic C) (fe_dc C) (fe_sset C) (fe_meth0 C) (fe_andV C) (fe_orV C) (fe_oneV C) (fe_notV C) (fe_ite C) (fe_tup C) (fe_lst C) (fe_ix C) (fe_sl C) (fe_isi C) (fe_bcall C) (fe_fcall C) (fe_fscr C) (fe_fref C) (fe_meth C) (fe_mut C) (fe_lc C) (fe_lc2 C) (fes_nil C) (fes_cons C) (feO_none C) (feO_some C) (feT_tru C) (feT_cmp C) (feT_and C) (feT_or C) (feT_one C) (feT_not C) (feC_yes C) (feC_one C) (feI_seq C) (feI_rng1 C) (feI_rng2 C) (feI_enum C) (feI_zip C) (feI_ezip C) (feI_zip3 C) e
mutual
theorem fe_eq (C : CallF) : ∀ (e : IE), fe C e = ev C e
  | .var i => by
    funext ρ
    show fe_var C i  ρ = _
    simp only [fe_var, ev, fbindV_eq, fbindNs_eq, nthL_eq, setF_eq, gvF_eq, noByrF_eq, purF_eq, binF_eq, cmpF_eq, truF_eq, ixF_eq, setLF_eq, forF_eq, lcF_eq, hideF_eq, unhideF_eq, biF_eq, muF_eq, Bool.cond_eq_ite, fcD_eq, fcRo_eq, fcSp_eq] <;> rfl
  | .mov i => by
    funext ρ
    show fe_mov C i  ρ = _
    simp only [fe_mov, ev, fbindV_eq, fbindNs_eq, nthL_eq, setF_eq, gvF_eq, noByrF_eq, purF_eq, binF_eq, cmpF_eq, truF_eq, ixF_eq, setLF_eq, forF_eq, lcF_eq, hideF_eq, unhideF_eq, biF_eq, muF_eq, Bool.cond_eq_ite, fcD_eq, fcRo_eq, fcSp_eq] <;> rfl
  | .fz i e => by
    funext ρ
    show fe_fz C i e (fe C e) ρ = _
    rw [fe_eq C e]
    simp only [fe_fz, ev, fbindV_eq, fbindNs_eq, nthL_eq, setF_eq, gvF_eq, noByrF_eq, purF_eq, binF_eq, cmpF_eq, truF_eq, ixF_eq, setLF_eq, forF_eq, lcF_eq, hideF_eq, unhideF_eq, biF_eq, muF_eq, Bool.cond_eq_ite, fcD_eq, fcRo_eq, fcSp_eq] <;> rfl
  | .int i => by
    funext ρ
    show fe_int C i  ρ = _
    simp only [fe_int, ev, fbindV_eq, fbindNs_eq, nthL_eq, setF_eq, gvF_eq, noByrF_eq, purF_eq, binF_eq, cmpF_eq, truF_eq, ixF_eq, setLF_eq, forF_eq, lcF_eq, hideF_eq, unhideF_eq, biF_eq, muF_eq, Bool.cond_eq_ite, fcD_eq, fcRo_eq, fcSp_eq] <;> rfl
  | .str x => by
    funext ρ
    show fe_str C x  ρ = _
    simp only [fe_str, ev, fbindV_eq, fbindNs_eq, nthL_eq, setF_eq, gvF_eq, noByrF_eq, purF_eq, binF_eq, cmpF_eq, truF_eq, ixF_eq, setLF_eq, forF_eq, lcF_eq, hideF_eq, unhideF_eq, biF_eq, muF_eq, Bool.cond_eq_ite, fcD_eq, fcRo_eq, fcSp_eq] <;> rfl
  | .bl b => by
    funext ρ
    show fe_bl C b  ρ = _
    simp only [fe_bl, ev, fbindV_eq, fbindNs_eq, nthL_eq, setF_eq, gvF_eq, noByrF_eq, purF_eq, binF_eq, cmpF_eq, truF_eq, ixF_eq, setLF_eq, forF_eq, lcF_eq, hideF_eq, unhideF_eq, biF_eq, muF_eq, Bool.cond_eq_ite, fcD_eq, fcRo_eq, fcSp_eq] <;> rfl
  | .non  => by
    funext ρ
    show fe_non C   ρ = _
    simp only [fe_non, ev, fbindV_eq, fbindNs_eq, nthL_eq, setF_eq, gvF_eq, noByrF_eq, purF_eq, binF_eq, cmpF_eq, truF_eq, ixF_eq, setLF_eq, forF_eq, lcF_eq, hideF_eq, unhideF_eq, biF_eq, muF_eq, Bool.cond_eq_ite, fcD_eq, fcRo_eq, fcSp_eq] <;> rfl
  | .glob x d => by
    funext ρ
    show fe_glob C x d  ρ = _
    simp only [fe_glob, ev, fbindV_eq, fbindNs_eq, nthL_eq, setF_eq, gvF_eq, noByrF_eq, purF_eq, binF_eq, cmpF_eq, truF_eq, ixF_eq, setLF_eq, forF_eq, lcF_eq, hideF_eq, unhideF_eq, biF_eq, muF_eq, Bool.cond_eq_ite, fcD_eq, fcRo_eq, fcSp_eq] <;> rfl
  | .bin op a b => by
    funext ρ
    show fe_bin C op a b (fe C a) (fe C b) ρ = _
    rw [fe_eq C a, fe_eq C b]
    simp only [fe_bin, ev, fbindV_eq, fbindNs_eq, nthL_eq, setF_eq, gvF_eq, noByrF_eq, purF_eq, binF_eq, cmpF_eq, truF_eq, ixF_eq, setLF_eq, forF_eq, lcF_eq, hideF_eq, unhideF_eq, biF_eq, muF_eq, Bool.cond_eq_ite, fcD_eq, fcRo_eq, fcSp_eq] <;> rfl
  | .neg a => by
    funext ρ
    show fe_neg C a (fe C a) ρ = _
    rw [fe_eq C a]
    simp only [fe_neg, ev, fbindV_eq, fbindNs_eq, nthL_eq, setF_eq, gvF_eq, noByrF_eq, purF_eq, binF_eq, cmpF_eq, truF_eq, ixF_eq, setLF_eq, forF_eq, lcF_eq, hideF_eq, unhideF_eq, biF_eq, muF_eq, Bool.cond_eq_ite, fcD_eq, fcRo_eq, fcSp_eq] <;> rfl
  | .cmp op a b => by
    funext ρ
    show fe_cmp C op a b (fe C a) (fe C b) ρ = _
    rw [fe_eq C a, fe_eq C b]
    simp only [fe_cmp, ev, fbindV_eq, fbindNs_eq, nthL_eq, setF_eq, gvF_eq, noByrF_eq, purF_eq, binF_eq, cmpF_eq, truF_eq, ixF_eq, setLF_eq, forF_eq, lcF_eq, hideF_eq, unhideF_eq, biF_eq, muF_eq, Bool.cond_eq_ite, fcD_eq, fcRo_eq, fcSp_eq] <;> rfl
  | .chain op op' a b c => by
    funext ρ
    show fe_chain C op op' a b c (fe C a) (fe C b) (fe C c) ρ = _
    rw [fe_eq C a, fe_eq C b, fe_eq C c]
    simp only [fe_chain, ev, fbindV_eq, fbindNs_eq, nthL_eq, setF_eq, gvF_eq, noByrF_eq, purF_eq, binF_eq, cmpF_eq, truF_eq, ixF_eq, setLF_eq, forF_eq, lcF_eq, hideF_eq, unhideF_eq, biF_eq, muF_eq, Bool.cond_eq_ite, fcD_eq, fcRo_eq, fcSp_eq] <;> rfl
  | .chain3 o1 o2 o3 a b c d => by
    funext ρ
    show fe_chain3 C o1 o2 o3 a b c d (fe C a) (fe C b) (fe C c) (fe C d) ρ = _
    rw [fe_eq C a, fe_eq C b, fe_eq C c, fe_eq C d]
    simp only [fe_chain3, ev, fbindV_eq, fbindNs_eq, nthL_eq, setF_eq, gvF_eq, noByrF_eq, purF_eq, binF_eq, cmpF_eq, truF_eq, ixF_eq, setLF_eq, forF_eq, lcF_eq, hideF_eq, unhideF_eq, biF_eq, muF_eq, Bool.cond_eq_ite, fcD_eq, fcRo_eq, fcSp_eq] <;> rfl
  | .rng1V tp a => by
    funext ρ
    show fe_rng1V C tp a (fe C a) ρ = _
    rw [fe_eq C a]
    simp only [fe_rng1V, ev, fbindV_eq, fbindNs_eq, nthL_eq, setF_eq, gvF_eq, noByrF_eq, purF_eq, binF_eq, cmpF_eq, truF_eq, ixF_eq, setLF_eq, forF_eq, lcF_eq, hideF_eq, unhideF_eq, biF_eq, muF_eq, Bool.cond_eq_ite, fcD_eq, fcRo_eq, fcSp_eq] <;> rfl
  | .rng2V tp a b => by
    funext ρ
    show fe_rng2V C tp a b (fe C a) (fe C b) ρ = _
    rw [fe_eq C a, fe_eq C b]
    simp only [fe_rng2V, ev, fbindV_eq, fbindNs_eq, nthL_eq, setF_eq, gvF_eq, noByrF_eq, purF_eq, binF_eq, cmpF_eq, truF_eq, ixF_eq, setLF_eq, forF_eq, lcF_eq, hideF_eq, unhideF_eq, biF_eq, muF_eq, Bool.cond_eq_ite, fcD_eq, fcRo_eq, fcSp_eq] <;> rfl
  | .sls a lo hi st => by
    funext ρ
    show fe_sls C a lo hi st (fe C a) (feO C lo) (feO C hi) ρ = _
    rw [fe_eq C a, feO_eq C lo, feO_eq C hi]
    simp only [fe_sls, ev, fbindV_eq, fbindNs_eq, nthL_eq, setF_eq, gvF_eq, noByrF_eq, purF_eq, binF_eq, cmpF_eq, truF_eq, ixF_eq, setLF_eq, forF_eq, lcF_eq, hideF_eq, unhideF_eq, biF_eq, muF_eq, Bool.cond_eq_ite, fcD_eq, fcRo_eq, fcSp_eq] <;> rfl
  | .cin neg a x kvs => by
    funext ρ
    show fe_cin C neg a x kvs (fe C a) ρ = _
    rw [fe_eq C a]
    simp only [fe_cin, ev, fbindV_eq, fbindNs_eq, nthL_eq, setF_eq, gvF_eq, noByrF_eq, purF_eq, binF_eq, cmpF_eq, truF_eq, ixF_eq, setLF_eq, forF_eq, lcF_eq, hideF_eq, unhideF_eq, biF_eq, muF_eq, Bool.cond_eq_ite, fcD_eq, fcRo_eq, fcSp_eq] <;> rfl
  | .cix x kvs a => by
    funext ρ
    show fe_cix C x kvs a (fe C a) ρ = _
    rw [fe_eq C a]
    simp only [fe_cix, ev, fbindV_eq, fbindNs_eq, nthL_eq, setF_eq, gvF_eq, noByrF_eq, purF_eq, binF_eq, cmpF_eq, truF_eq, ixF_eq, setLF_eq, forF_eq, lcF_eq, hideF_eq, unhideF_eq, biF_eq, muF_eq, Bool.cond_eq_ite, fcD_eq, fcRo_eq, fcSp_eq] <;> rfl
  | .dic ks vs => by
    funext ρ
    show fe_dic C ks vs (fes C ks) (fes C vs) ρ = _
    rw [fes_eq C ks, fes_eq C vs]
    simp only [fe_dic, ev, fbindV_eq, fbindNs_eq, nthL_eq, setF_eq, gvF_eq, noByrF_eq, purF_eq, binF_eq, cmpF_eq, truF_eq, ixF_eq, setLF_eq, forF_eq, lcF_eq, hideF_eq, unhideF_eq, biF_eq, muF_eq, Bool.cond_eq_ite, fcD_eq, fcRo_eq, fcSp_eq] <;> rfl
  | .dc own k v g it t => by
    funext ρ
    show fe_dc C own k v g it t (fe C k) (fe C v) (feI C it) (feC C t) ρ = _
    rw [fe_eq C k, fe_eq C v, feI_eq C it, feC_eq C t]
    simp only [fe_dc, ev, fbindV_eq, fbindNs_eq, nthL_eq, setF_eq, gvF_eq, noByrF_eq, purF_eq, binF_eq, cmpF_eq, truF_eq, ixF_eq, setLF_eq, forF_eq, lcF_eq, hideF_eq, unhideF_eq, biF_eq, muF_eq, Bool.cond_eq_ite, fcD_eq, fcRo_eq, fcSp_eq] <;> rfl
  | .sset b e => by
    funext ρ
    show fe_sset C b e (fe C e) ρ = _
    rw [fe_eq C e]
    simp only [fe_sset, ev, fbindV_eq, fbindNs_eq, nthL_eq, setF_eq, gvF_eq, noByrF_eq, purF_eq, binF_eq, cmpF_eq, truF_eq, ixF_eq, setLF_eq, forF_eq, lcF_eq, hideF_eq, unhideF_eq, biF_eq, muF_eq, Bool.cond_eq_ite, fcD_eq, fcRo_eq, fcSp_eq] <;> rfl
  | .meth0 m o => by
    funext ρ
    show fe_meth0 C m o (fe C o) ρ = _
    rw [fe_eq C o]
    simp only [fe_meth0, ev, fbindV_eq, fbindNs_eq, nthL_eq, setF_eq, gvF_eq, noByrF_eq, purF_eq, binF_eq, cmpF_eq, truF_eq, ixF_eq, setLF_eq, forF_eq, lcF_eq, hideF_eq, unhideF_eq, biF_eq, muF_eq, Bool.cond_eq_ite, fcD_eq, fcRo_eq, fcSp_eq] <;> rfl
  | .andV a b => by
    funext ρ
    show fe_andV C a b (fe C a) (fe C b) ρ = _
    rw [fe_eq C a, fe_eq C b]
    simp only [fe_andV, ev, fbindV_eq, fbindNs_eq, nthL_eq, setF_eq, gvF_eq, noByrF_eq, purF_eq, binF_eq, cmpF_eq, truF_eq, ixF_eq, setLF_eq, forF_eq, lcF_eq, hideF_eq, unhideF_eq, biF_eq, muF_eq, Bool.cond_eq_ite, fcD_eq, fcRo_eq, fcSp_eq] <;> rfl
  | .orV a b => by
    funext ρ
    show fe_orV C a b (fe C a) (fe C b) ρ = _
    rw [fe_eq C a, fe_eq C b]
    simp only [fe_orV, ev, fbindV_eq, fbindNs_eq, nthL_eq, setF_eq, gvF_eq, noByrF_eq, purF_eq, binF_eq, cmpF_eq, truF_eq, ixF_eq, setLF_eq, forF_eq, lcF_eq, hideF_eq, unhideF_eq, biF_eq, muF_eq, Bool.cond_eq_ite, fcD_eq, fcRo_eq, fcSp_eq] <;> rfl
  | .oneV a => by
    funext ρ
    show fe_oneV C a (fe C a) ρ = _
    rw [fe_eq C a]
    simp only [fe_oneV, ev, fbindV_eq, fbindNs_eq, nthL_eq, setF_eq, gvF_eq, noByrF_eq, purF_eq, binF_eq, cmpF_eq, truF_eq, ixF_eq, setLF_eq, forF_eq, lcF_eq, hideF_eq, unhideF_eq, biF_eq, muF_eq, Bool.cond_eq_ite, fcD_eq, fcRo_eq, fcSp_eq] <;> rfl
  | .notV a => by
    funext ρ
    show fe_notV C a (fe C a) ρ = _
    rw [fe_eq C a]
    simp only [fe_notV, ev, fbindV_eq, fbindNs_eq, nthL_eq, setF_eq, gvF_eq, noByrF_eq, purF_eq, binF_eq, cmpF_eq, truF_eq, ixF_eq, setLF_eq, forF_eq, lcF_eq, hideF_eq, unhideF_eq, biF_eq, muF_eq, Bool.cond_eq_ite, fcD_eq, fcRo_eq, fcSp_eq] <;> rfl
  | .ite t a b => by
    funext ρ
    show fe_ite C t a b (feT C t) (fe C a) (fe C b) ρ = _
    rw [feT_eq C t, fe_eq C a, fe_eq C b]
    simp only [fe_ite, ev, fbindV_eq, fbindNs_eq, nthL_eq, setF_eq, gvF_eq, noByrF_eq, purF_eq, binF_eq, cmpF_eq, truF_eq, ixF_eq, setLF_eq, forF_eq, lcF_eq, hideF_eq, unhideF_eq, biF_eq, muF_eq, Bool.cond_eq_ite, fcD_eq, fcRo_eq, fcSp_eq] <;> rfl
  | .tup es => by
    funext ρ
    show fe_tup C es (fes C es) ρ = _
    rw [fes_eq C es]
    simp only [fe_tup, ev, fbindV_eq, fbindNs_eq, nthL_eq, setF_eq, gvF_eq, noByrF_eq, purF_eq, binF_eq, cmpF_eq, truF_eq, ixF_eq, setLF_eq, forF_eq, lcF_eq, hideF_eq, unhideF_eq, biF_eq, muF_eq, Bool.cond_eq_ite, fcD_eq, fcRo_eq, fcSp_eq] <;> rfl
  | .lst es => by
    funext ρ
    show fe_lst C es (fes C es) ρ = _
    rw [fes_eq C es]
    simp only [fe_lst, ev, fbindV_eq, fbindNs_eq, nthL_eq, setF_eq, gvF_eq, noByrF_eq, purF_eq, binF_eq, cmpF_eq, truF_eq, ixF_eq, setLF_eq, forF_eq, lcF_eq, hideF_eq, unhideF_eq, biF_eq, muF_eq, Bool.cond_eq_ite, fcD_eq, fcRo_eq, fcSp_eq] <;> rfl
  | .ix a b => by
    funext ρ
    show fe_ix C a b (fe C a) (fe C b) ρ = _
    rw [fe_eq C a, fe_eq C b]
    simp only [fe_ix, ev, fbindV_eq, fbindNs_eq, nthL_eq, setF_eq, gvF_eq, noByrF_eq, purF_eq, binF_eq, cmpF_eq, truF_eq, ixF_eq, setLF_eq, forF_eq, lcF_eq, hideF_eq, unhideF_eq, biF_eq, muF_eq, Bool.cond_eq_ite, fcD_eq, fcRo_eq, fcSp_eq] <;> rfl
  | .sl a lo hi => by
    funext ρ
    show fe_sl C a lo hi (fe C a) (feO C lo) (feO C hi) ρ = _
    rw [fe_eq C a, feO_eq C lo, feO_eq C hi]
    simp only [fe_sl, ev, fbindV_eq, fbindNs_eq, nthL_eq, setF_eq, gvF_eq, noByrF_eq, purF_eq, binF_eq, cmpF_eq, truF_eq, ixF_eq, setLF_eq, forF_eq, lcF_eq, hideF_eq, unhideF_eq, biF_eq, muF_eq, Bool.cond_eq_ite, fcD_eq, fcRo_eq, fcSp_eq] <;> rfl
  | .isi a ts => by
    funext ρ
    show fe_isi C a ts (fe C a) ρ = _
    rw [fe_eq C a]
    simp only [fe_isi, ev, fbindV_eq, fbindNs_eq, nthL_eq, setF_eq, gvF_eq, noByrF_eq, purF_eq, binF_eq, cmpF_eq, truF_eq, ixF_eq, setLF_eq, forF_eq, lcF_eq, hideF_eq, unhideF_eq, biF_eq, muF_eq, Bool.cond_eq_ite, fcD_eq, fcRo_eq, fcSp_eq] <;> rfl
  | .bcall b es => by
    funext ρ
    show fe_bcall C b es (fes C es) ρ = _
    rw [fes_eq C es]
    simp only [fe_bcall, ev, fbindV_eq, fbindNs_eq, nthL_eq, setF_eq, gvF_eq, noByrF_eq, purF_eq, binF_eq, cmpF_eq, truF_eq, ixF_eq, setLF_eq, forF_eq, lcF_eq, hideF_eq, unhideF_eq, biF_eq, muF_eq, Bool.cond_eq_ite, fcD_eq, fcRo_eq, fcSp_eq] <;> rfl
  | .fcall f es => by
    funext ρ
    show fe_fcall C f es (fes C es) ρ = _
    rw [fes_eq C es]
    simp only [fe_fcall, ev, fbindV_eq, fbindNs_eq, nthL_eq, setF_eq, gvF_eq, noByrF_eq, purF_eq, binF_eq, cmpF_eq, truF_eq, ixF_eq, setLF_eq, forF_eq, lcF_eq, hideF_eq, unhideF_eq, biF_eq, muF_eq, Bool.cond_eq_ite, fcD_eq, fcRo_eq, fcSp_eq] <;> rfl
  | .fscr f es => by
    funext ρ
    show fe_fscr C f es (fes C es) ρ = _
    rw [fes_eq C es]
    simp only [fe_fscr, ev, fbindV_eq, fbindNs_eq, nthL_eq, setF_eq, gvF_eq, noByrF_eq, purF_eq, binF_eq, cmpF_eq, truF_eq, ixF_eq, setLF_eq, forF_eq, lcF_eq, hideF_eq, unhideF_eq, biF_eq, muF_eq, Bool.cond_eq_ite, fcD_eq, fcRo_eq, fcSp_eq] <;> rfl
  | .fref f s es => by
    funext ρ
    show fe_fref C f s es (fes C es) ρ = _
    rw [fes_eq C es]
    simp only [fe_fref, ev, fbindV_eq, fbindNs_eq, nthL_eq, setF_eq, gvF_eq, noByrF_eq, purF_eq, binF_eq, cmpF_eq, truF_eq, ixF_eq, setLF_eq, forF_eq, lcF_eq, hideF_eq, unhideF_eq, biF_eq, muF_eq, Bool.cond_eq_ite, fcD_eq, fcRo_eq, fcSp_eq] <;> rfl
  | .meth m o es => by
    funext ρ
    show fe_meth C m o es (fe C o) (fes C es) ρ = _
    rw [fe_eq C o, fes_eq C es]
    simp only [fe_meth, ev, fbindV_eq, fbindNs_eq, nthL_eq, setF_eq, gvF_eq, noByrF_eq, purF_eq, binF_eq, cmpF_eq, truF_eq, ixF_eq, setLF_eq, forF_eq, lcF_eq, hideF_eq, unhideF_eq, biF_eq, muF_eq, Bool.cond_eq_ite, fcD_eq, fcRo_eq, fcSp_eq] <;> rfl
  | .mut m i es => by
    funext ρ
    show fe_mut C m i es (fes C es) ρ = _
    rw [fes_eq C es]
    simp only [fe_mut, ev, fbindV_eq, fbindNs_eq, nthL_eq, setF_eq, gvF_eq, noByrF_eq, purF_eq, binF_eq, cmpF_eq, truF_eq, ixF_eq, setLF_eq, forF_eq, lcF_eq, hideF_eq, unhideF_eq, biF_eq, muF_eq, Bool.cond_eq_ite, fcD_eq, fcRo_eq, fcSp_eq] <;> rfl
  | .lc own elt g it t => by
    funext ρ
    show fe_lc C own elt g it t (fe C elt) (feI C it) (feC C t) ρ = _
    rw [fe_eq C elt, feI_eq C it, feC_eq C t]
    simp only [fe_lc, ev, fbindV_eq, fbindNs_eq, nthL_eq, setF_eq, gvF_eq, noByrF_eq, purF_eq, binF_eq, cmpF_eq, truF_eq, ixF_eq, setLF_eq, forF_eq, lcF_eq, hideF_eq, unhideF_eq, biF_eq, muF_eq, Bool.cond_eq_ite, fcD_eq, fcRo_eq, fcSp_eq] <;> rfl
  | .lc2 own elt g it t g1 it1 t1 => by
    funext ρ
    show fe_lc2 C own elt g it t g1 it1 t1 (fe C elt) (feI C it) (feC C t) (feI C it1) (feC C t1) ρ = _
    rw [fe_eq C elt, feI_eq C it, feC_eq C t, feI_eq C it1, feC_eq C t1]
    simp only [fe_lc2, ev, fbindV_eq, fbindNs_eq, nthL_eq, setF_eq, gvF_eq, noByrF_eq, purF_eq, binF_eq, cmpF_eq, truF_eq, ixF_eq, setLF_eq, forF_eq, lcF_eq, hideF_eq, unhideF_eq, biF_eq, muF_eq, Bool.cond_eq_ite, fcD_eq, fcRo_eq, fcSp_eq] <;> rfl
theorem fes_eq (C : CallF) : ∀ (e : IEs), fes C e = evs C e
  | .nil  => by
    funext ρ
    show fes_nil C   ρ = _
    simp only [fes_nil, evs, fbindV_eq, fbindNs_eq, nthL_eq, setF_eq, gvF_eq, noByrF_eq, purF_eq, binF_eq, cmpF_eq, truF_eq, ixF_eq, setLF_eq, forF_eq, lcF_eq, hideF_eq, unhideF_eq, biF_eq, muF_eq, Bool.cond_eq_ite, fcD_eq, fcRo_eq, fcSp_eq] <;> rfl
  | .cons e es => by
    funext ρ
    show fes_cons C e es (fe C e) (fes C es) ρ = _
    rw [fe_eq C e, fes_eq C es]
    simp only [fes_cons, evs, fbindV_eq, fbindNs_eq, nthL_eq, setF_eq, gvF_eq, noByrF_eq, purF_eq, binF_eq, cmpF_eq, truF_eq, ixF_eq, setLF_eq, forF_eq, lcF_eq, hideF_eq, unhideF_eq, biF_eq, muF_eq, Bool.cond_eq_ite, fcD_eq, fcRo_eq, fcSp_eq] <;> rfl
theorem feO_eq (C : CallF) : ∀ (e : IO), feO C e = evO C e
  | .none  => by
    funext ρ
    show feO_none C   ρ = _
    simp only [feO_none, evO, fbindV_eq, fbindNs_eq, nthL_eq, setF_eq, gvF_eq, noByrF_eq, purF_eq, binF_eq, cmpF_eq, truF_eq, ixF_eq, setLF_eq, forF_eq, lcF_eq, hideF_eq, unhideF_eq, biF_eq, muF_eq, Bool.cond_eq_ite, fcD_eq, fcRo_eq, fcSp_eq] <;> rfl
  | .some e => by
    funext ρ
    show feO_some C e (fe C e) ρ = _
    rw [fe_eq C e]
    simp only [feO_some, evO, fbindV_eq, fbindNs_eq, nthL_eq, setF_eq, gvF_eq, noByrF_eq, purF_eq, binF_eq, cmpF_eq, truF_eq, ixF_eq, setLF_eq, forF_eq, lcF_eq, hideF_eq, unhideF_eq, biF_eq, muF_eq, Bool.cond_eq_ite, fcD_eq, fcRo_eq, fcSp_eq] <;> rfl
theorem feT_eq (C : CallF) : ∀ (e : IT), feT C e = evT C e
  | .tru e => by
    funext ρ
    show feT_tru C e (fe C e) ρ = _
    rw [fe_eq C e]
    simp only [feT_tru, evT, fbindV_eq, fbindNs_eq, nthL_eq, setF_eq, gvF_eq, noByrF_eq, purF_eq, binF_eq, cmpF_eq, truF_eq, ixF_eq, setLF_eq, forF_eq, lcF_eq, hideF_eq, unhideF_eq, biF_eq, muF_eq, Bool.cond_eq_ite, fcD_eq, fcRo_eq, fcSp_eq] <;> rfl
  | .cmp e => by
    funext ρ
    show feT_cmp C e (fe C e) ρ = _
    rw [fe_eq C e]
    simp only [feT_cmp, evT, fbindV_eq, fbindNs_eq, nthL_eq, setF_eq, gvF_eq, noByrF_eq, purF_eq, binF_eq, cmpF_eq, truF_eq, ixF_eq, setLF_eq, forF_eq, lcF_eq, hideF_eq, unhideF_eq, biF_eq, muF_eq, Bool.cond_eq_ite, fcD_eq, fcRo_eq, fcSp_eq] <;> rfl
  | .and a b => by
    funext ρ
    show feT_and C a b (feT C a) (feT C b) ρ = _
    rw [feT_eq C a, feT_eq C b]
    simp only [feT_and, evT, fbindV_eq, fbindNs_eq, nthL_eq, setF_eq, gvF_eq, noByrF_eq, purF_eq, binF_eq, cmpF_eq, truF_eq, ixF_eq, setLF_eq, forF_eq, lcF_eq, hideF_eq, unhideF_eq, biF_eq, muF_eq, Bool.cond_eq_ite, fcD_eq, fcRo_eq, fcSp_eq] <;> rfl
  | .or a b => by
    funext ρ
    show feT_or C a b (feT C a) (feT C b) ρ = _
    rw [feT_eq C a, feT_eq C b]
    simp only [feT_or, evT, fbindV_eq, fbindNs_eq, nthL_eq, setF_eq, gvF_eq, noByrF_eq, purF_eq, binF_eq, cmpF_eq, truF_eq, ixF_eq, setLF_eq, forF_eq, lcF_eq, hideF_eq, unhideF_eq, biF_eq, muF_eq, Bool.cond_eq_ite, fcD_eq, fcRo_eq, fcSp_eq] <;> rfl
  | .one a => by
    funext ρ
    show feT_one C a (feT C a) ρ = _
    rw [feT_eq C a]
    simp only [feT_one, evT, fbindV_eq, fbindNs_eq, nthL_eq, setF_eq, gvF_eq, noByrF_eq, purF_eq, binF_eq, cmpF_eq, truF_eq, ixF_eq, setLF_eq, forF_eq, lcF_eq, hideF_eq, unhideF_eq, biF_eq, muF_eq, Bool.cond_eq_ite, fcD_eq, fcRo_eq, fcSp_eq] <;> rfl
  | .not a => by
    funext ρ
    show feT_not C a (feT C a) ρ = _
    rw [feT_eq C a]
    simp only [feT_not, evT, fbindV_eq, fbindNs_eq, nthL_eq, setF_eq, gvF_eq, noByrF_eq, purF_eq, binF_eq, cmpF_eq, truF_eq, ixF_eq, setLF_eq, forF_eq, lcF_eq, hideF_eq, unhideF_eq, biF_eq, muF_eq, Bool.cond_eq_ite, fcD_eq, fcRo_eq, fcSp_eq] <;> rfl
theorem feC_eq (C : CallF) : ∀ (e : IC), feC C e = evC C e
  | .yes  => by
    funext ρ
    show feC_yes C   ρ = _
    simp only [feC_yes, evC, fbindV_eq, fbindNs_eq, nthL_eq, setF_eq, gvF_eq, noByrF_eq, purF_eq, binF_eq, cmpF_eq, truF_eq, ixF_eq, setLF_eq, forF_eq, lcF_eq, hideF_eq, unhideF_eq, biF_eq, muF_eq, Bool.cond_eq_ite, fcD_eq, fcRo_eq, fcSp_eq] <;> rfl
  | .one t => by
    funext ρ
    show feC_one C t (feT C t) ρ = _
    rw [feT_eq C t]
    simp only [feC_one, evC, fbindV_eq, fbindNs_eq, nthL_eq, setF_eq, gvF_eq, noByrF_eq, purF_eq, binF_eq, cmpF_eq, truF_eq, ixF_eq, setLF_eq, forF_eq, lcF_eq, hideF_eq, unhideF_eq, biF_eq, muF_eq, Bool.cond_eq_ite, fcD_eq, fcRo_eq, fcSp_eq] <;> rfl
theorem feI_eq (C : CallF) : ∀ (e : II), feI C e = evI C e
  | .seq e => by
    funext ρ
    show feI_seq C e (fe C e) ρ = _
    rw [fe_eq C e]
    simp only [feI_seq, evI, fbindV_eq, fbindNs_eq, nthL_eq, setF_eq, gvF_eq, noByrF_eq, purF_eq, binF_eq, cmpF_eq, truF_eq, ixF_eq, setLF_eq, forF_eq, lcF_eq, hideF_eq, unhideF_eq, biF_eq, muF_eq, Bool.cond_eq_ite, fcD_eq, fcRo_eq, fcSp_eq] <;> rfl
  | .rng1 a => by
    funext ρ
    show feI_rng1 C a (fe C a) ρ = _
    rw [fe_eq C a]
    simp only [feI_rng1, evI, fbindV_eq, fbindNs_eq, nthL_eq, setF_eq, gvF_eq, noByrF_eq, purF_eq, binF_eq, cmpF_eq, truF_eq, ixF_eq, setLF_eq, forF_eq, lcF_eq, hideF_eq, unhideF_eq, biF_eq, muF_eq, Bool.cond_eq_ite, fcD_eq, fcRo_eq, fcSp_eq] <;> rfl
  | .rng2 a b => by
    funext ρ
    show feI_rng2 C a b (fe C a) (fe C b) ρ = _
    rw [fe_eq C a, fe_eq C b]
    simp only [feI_rng2, evI, fbindV_eq, fbindNs_eq, nthL_eq, setF_eq, gvF_eq, noByrF_eq, purF_eq, binF_eq, cmpF_eq, truF_eq, ixF_eq, setLF_eq, forF_eq, lcF_eq, hideF_eq, unhideF_eq, biF_eq, muF_eq, Bool.cond_eq_ite, fcD_eq, fcRo_eq, fcSp_eq] <;> rfl
  | .enum e => by
    funext ρ
    show feI_enum C e (fe C e) ρ = _
    rw [fe_eq C e]
    simp only [feI_enum, evI, fbindV_eq, fbindNs_eq, nthL_eq, setF_eq, gvF_eq, noByrF_eq, purF_eq, binF_eq, cmpF_eq, truF_eq, ixF_eq, setLF_eq, forF_eq, lcF_eq, hideF_eq, unhideF_eq, biF_eq, muF_eq, Bool.cond_eq_ite, fcD_eq, fcRo_eq, fcSp_eq] <;> rfl
  | .zip a b => by
    funext ρ
    show feI_zip C a b (fe C a) (fe C b) ρ = _
    rw [fe_eq C a, fe_eq C b]
    simp only [feI_zip, evI, fbindV_eq, fbindNs_eq, nthL_eq, setF_eq, gvF_eq, noByrF_eq, purF_eq, binF_eq, cmpF_eq, truF_eq, ixF_eq, setLF_eq, forF_eq, lcF_eq, hideF_eq, unhideF_eq, biF_eq, muF_eq, Bool.cond_eq_ite, fcD_eq, fcRo_eq, fcSp_eq] <;> rfl
  | .ezip a b => by
    funext ρ
    show feI_ezip C a b (fe C a) (fe C b) ρ = _
    rw [fe_eq C a, fe_eq C b]
    simp only [feI_ezip, evI, fbindV_eq, fbindNs_eq, nthL_eq, setF_eq, gvF_eq, noByrF_eq, purF_eq, binF_eq, cmpF_eq, truF_eq, ixF_eq, setLF_eq, forF_eq, lcF_eq, hideF_eq, unhideF_eq, biF_eq, muF_eq, Bool.cond_eq_ite, fcD_eq, fcRo_eq, fcSp_eq] <;> rfl
  | .zip3 a b c => by
    funext ρ
    show feI_zip3 C a b c (fe C a) (fe C b) (fe C c) ρ = _
    rw [fe_eq C a, fe_eq C b, fe_eq C c]
    simp only [feI_zip3, evI, fbindV_eq, fbindNs_eq, nthL_eq, setF_eq, gvF_eq, noByrF_eq, purF_eq, binF_eq, cmpF_eq, truF_eq, ixF_eq, setLF_eq, forF_eq, lcF_eq, hideF_eq, unhideF_eq, biF_eq, muF_eq, Bool.cond_eq_ite, fcD_eq, fcRo_eq, fcSp_eq] <;> rfl
end
noncomputable def fputAll (C : CallF) : IPs → List D → Ro → Option Ro
  | .nil, [], ρ => some ρ
  | .nm i r, d :: ds, ρ => match fbindV (.nm i) d .fresh ρ with
    | some ρ1 => fputAll C r ds ρ1
    | none => none
  | .at i k r, d :: ds, ρ => if isOwn ρ i && !(effE k).contains i then (match fe C k ρ with
    | some (.int n, _, ρ1) => match ρ1[i]? with
      | some (.own (.list xs)) => match setL xs n d with
        | some ys => fputAll C r ds (ρ1.set i (.own (.list ys)))
        | none => none
      | some (.byr (.list xs)) => match setL xs n d with
        | some ys => fputAll C r ds (ρ1.set i (.byr (.list ys)))
        | none => none
      | _ => none
    | _ => none) else none
  | _, _, _ => none
theorem fputAll_eq (C : CallF) : ∀ (ps : IPs) (ds : List D) (ρ : Ro), fputAll C ps ds ρ = putAll C ps ds ρ
  | .nil, [], ρ => rfl
  | .nil, _ :: _, ρ => rfl
  | .nm i r, [], ρ => rfl
  | .nm i r, d :: ds, ρ => by
    simp only [fputAll, putAll, fbindV_eq]
    cases bindV (.nm i) d .fresh ρ with
    | none => rfl
    | some ρ1 => exact fputAll_eq C r ds ρ1
  | .at i k r, [], ρ => rfl
  | .at i k r, d :: ds, ρ => by
    have h : ∀ ρ, fputAll C r ds ρ = putAll C r ds ρ := fputAll_eq C r ds
    simp only [fputAll, putAll, fe_eq, h] <;> rfl
noncomputable def fx_puts (C : CallF) (ps : IPs) (e : IE)  : Ro → Option Out := fun ρ => match fe C e ρ with
    | some (.tuple ds, sy, ρ0) => match settle (.tuple ds) sy ρ0 with
      | some ρ1 => match fputAll C ps ds ρ1 with
        | some ρ2 => some (.nx ρ2)
        | none => none
      | none => none
    | _ => none
noncomputable def fx_asg (C : CallF) (g : IG) (e : IE)  : Ro → Option Out := fun ρ => match fe C e ρ with
    | some (d, s, ρ1) => match settleA d s ρ1 with
      | some (s', ρ2) => match fbindV g d s' ρ2 with
        | some ρ3 => some (.nx ρ3)
        | none => none
      | none => none
    | none => none
noncomputable def fx_par (C : CallF) (is : List Nat) (es : IEs)  : Ro → Option Out := fun ρ => match fes C es ρ with
    | some (ds, ρ1) => match settles ds ρ1 with
      | some (xs, ρ2) => match fbindNs is xs ρ2 with
        | some ρ3 => some (.nx ρ3)
        | none => none
      | none => none
    | none => none
noncomputable def fx_set (C : CallF) (i : Nat) (k : IE) (e : IE)  : Ro → Option Out := fun ρ => match fe C e ρ with
    | some (y, sy, ρ0) => match settle y sy ρ0 with
      | some ρ1 => bif isOwn ρ1 i && !(effE k).contains i then (match fe C k ρ1 with
        | some (.int n, _, ρ3) => match nthL ρ3 i with
          | some (.own (.list xs)) => match setLF xs n y with
            | some ys => some (.nx (setF ρ3 i (.own (.list ys))))
            | none => none
          | some (.byr (.list xs)) => match setLF xs n y with
            | some ys => some (.nx (setF ρ3 i (.byr (.list ys))))
            | none => none
          | _ => none
        | _ => none) else none
      | none => none
    | none => none
noncomputable def fx_set2 (C : CallF) (i : Nat) (k1 : IE) (k : IE) (e : IE)  : Ro → Option Out := fun ρ => match fe C e ρ with
    | some (y, sy, ρ0) => match settle y sy ρ0 with
      | some ρ1 => bif isOwn ρ1 i && !(effE k1).contains i && !(effE k).contains i then (match fe C k1 ρ1 with
        | some (.int m, _, ρ2) => bif rowL ρ2 i m then (match fe C k ρ2 with
          | some (.int n, _, ρ3) => match nthL ρ3 i with
            | some (.own (.list xs)) => match setL2 xs m n y with
              | some ys => some (.nx (setF ρ3 i (.own (.list ys))))
              | none => none
            | some (.byr (.list xs)) => match setL2 xs m n y with
              | some ys => some (.nx (setF ρ3 i (.byr (.list ys))))
              | none => none
            | _ => none
          | _ => none) else none
        | _ => none) else none
      | none => none
    | none => none
noncomputable def fx_aug (C : CallF) (op : Operator) (i : Nat) (e : IE)  : Ro → Option Out := fun ρ => match fe C e ρ with
    | some (y, _, ρ1) => match nthL ρ i, nthL ρ1 i with
      | some (.pur x), some (.pur x') => bif deq x x' then (match augD op x y with
        | some d => some (.nx (setF ρ1 i (.pur d)))
        | none => none) else none
      | _, _ => none
    | _ => none
noncomputable def fx_augx (C : CallF) (op : Operator) (i : Nat) (k : IE) (e : IE)  : Ro → Option Out := fun ρ => bif isOwn ρ i && !(effE k).contains i && !(effE e).contains i then (match fe C k ρ with
    | some (.int n, _, ρ1) => match itemL ρ1 i n with
      | some x => match fe C e ρ1 with
        | some (.int y, _, ρ2) => match augop op x y with
          | some z => match nthL ρ2 i with
            | some (.own (.list xs)) => match setLF xs n (.int z) with
              | some ys => some (.nx (setF ρ2 i (.own (.list ys))))
              | none => none
            | some (.byr (.list xs)) => match setLF xs n (.int z) with
              | some ys => some (.nx (setF ρ2 i (.byr (.list ys))))
              | none => none
            | _ => none
          | none => none
        | _ => none
      | none => none
    | _ => none) else none
noncomputable def fx_expr (C : CallF) (e : IE)  : Ro → Option Out := fun ρ => match fe C e ρ with
    | some (_, _, ρ1) => some (.nx ρ1)
    | none => none
noncomputable def fx_ifs (C : CallF) (t : IT) (a : ISs) (b : ISs) (r_a : Ro → Option Out) (r_b : Ro → Option Out) : Ro → Option Out := fun ρ => match feT C t ρ with
    | some (k, ρ1) => bif k then r_a ρ1 else r_b ρ1
    | none => none
noncomputable def fx_whl (C : CallF) (t : IT) (b : ISs) (r_b : Ro → Option Out) : Ro → Option Out := fun ρ => whGo (feT C t) (r_b) wf ρ
noncomputable def fx_for (C : CallF) (g : IG) (it : II) (b : ISs) (r_b : Ro → Option Out) : Ro → Option Out := fun ρ => match feI C it ρ with
    | some (xs, st, ρ1) => bif st.all (walkOk · xs (g.slots ++ effSs b)) then
        forF (fun x ρ => match fbindV g x .froz ρ with
          | some ρa => fcSp ρa r_b
          | none => none) xs ρ1 else none
    | none => none
noncomputable def fx_ret (C : CallF) (e : IE)  : Ro → Option Out := fun ρ => match fe C e ρ with
    | some (d, s, ρ1) => match settle d s ρ1 with
      | some ρ2 => some (.rt d ρ2)
      | none => none
    | none => none
noncomputable def fx_retN (C : CallF)   : Ro → Option Out := fun ρ => some (.rt .none ρ)
noncomputable def fx_pass (C : CallF)   : Ro → Option Out := fun ρ => some (.nx ρ)
noncomputable def fx_never (C : CallF)   : Ro → Option Out := fun _ => none
noncomputable def fxs_nil (C : CallF)   : Ro → Option Out := fun ρ => some (.nx ρ)
noncomputable def fxs_cons (C : CallF) (s : IS) (ss : ISs) (r_s : Ro → Option Out) (r_ss : Ro → Option Out) : Ro → Option Out := fun ρ => match r_s ρ with
    | some (.nx ρ1) => r_ss ρ1
    | r => r
noncomputable def fx (C : CallF) : IS → Ro → Option Out := fun e => @IS.rec (fun _ => Ro → Option Out) (fun _ => Ro → Option Out) (fx_asg C) (fx_par C) (fx_puts C) (fx_set C) (fx_set2 C) (fx_aug C) (fx_augx C) (fx_expr C) (fx_ifs C) (fx_whl C) (fx_for C) (fx_ret C) (fx_retN C) (fx_pass C) (fx_never C) (fxs_nil C) (fxs_cons C) e
noncomputable def fxs (C : CallF) : ISs → Ro → Option Out := fun e => @ISs.rec (fun _ => Ro → Option Out) (fun _ => Ro → Option Out) (fx_asg C) (fx_par C) (fx_puts C) (fx_set C) (fx_set2 C) (fx_aug C) (fx_augx C) (fx_expr C) (fx_ifs C) (fx_whl C) (fx_for C) (fx_ret C) (fx_retN C) (fx_pass C) (fx_never C) (fxs_nil C) (fxs_cons C) e
mutual
theorem fx_eq (C : CallF) : ∀ (e : IS), fx C e = exec C e
  | .asg g e => by
    funext ρ
    show fx_asg C g e  ρ = _
    simp only [fx_asg, exec, fbindV_eq, fbindNs_eq, nthL_eq, setF_eq, gvF_eq, noByrF_eq, purF_eq, binF_eq, cmpF_eq, truF_eq, ixF_eq, setLF_eq, forF_eq, lcF_eq, hideF_eq, unhideF_eq, biF_eq, muF_eq, Bool.cond_eq_ite, fcD_eq, fcRo_eq, fcSp_eq, fe_eq, fes_eq, feT_eq, feI_eq, feO_eq, feC_eq, fputAll_eq] <;> rfl
  | .par is es => by
    funext ρ
    show fx_par C is es  ρ = _
    simp only [fx_par, exec, fbindV_eq, fbindNs_eq, nthL_eq, setF_eq, gvF_eq, noByrF_eq, purF_eq, binF_eq, cmpF_eq, truF_eq, ixF_eq, setLF_eq, forF_eq, lcF_eq, hideF_eq, unhideF_eq, biF_eq, muF_eq, Bool.cond_eq_ite, fcD_eq, fcRo_eq, fcSp_eq, fe_eq, fes_eq, feT_eq, feI_eq, feO_eq, feC_eq, fputAll_eq] <;> rfl
  | .puts ps e => by
    funext ρ
    show fx_puts C ps e  ρ = _
    simp only [fx_puts, exec, fbindV_eq, fbindNs_eq, nthL_eq, setF_eq, gvF_eq, noByrF_eq, purF_eq, binF_eq, cmpF_eq, truF_eq, ixF_eq, setLF_eq, forF_eq, lcF_eq, hideF_eq, unhideF_eq, biF_eq, muF_eq, Bool.cond_eq_ite, fcD_eq, fcRo_eq, fcSp_eq, fe_eq, fes_eq, feT_eq, feI_eq, feO_eq, feC_eq, fputAll_eq] <;> rfl
  | .set i k e => by
    funext ρ
    show fx_set C i k e  ρ = _
    simp only [fx_set, exec, fbindV_eq, fbindNs_eq, nthL_eq, setF_eq, gvF_eq, noByrF_eq, purF_eq, binF_eq, cmpF_eq, truF_eq, ixF_eq, setLF_eq, forF_eq, lcF_eq, hideF_eq, unhideF_eq, biF_eq, muF_eq, Bool.cond_eq_ite, fcD_eq, fcRo_eq, fcSp_eq, fe_eq, fes_eq, feT_eq, feI_eq, feO_eq, feC_eq, fputAll_eq] <;> rfl
  | .set2 i k1 k e => by
    funext ρ
    show fx_set2 C i k1 k e  ρ = _
    simp only [fx_set2, exec, fbindV_eq, fbindNs_eq, nthL_eq, setF_eq, gvF_eq, noByrF_eq, purF_eq, binF_eq, cmpF_eq, truF_eq, ixF_eq, setLF_eq, forF_eq, lcF_eq, hideF_eq, unhideF_eq, biF_eq, muF_eq, Bool.cond_eq_ite, fcD_eq, fcRo_eq, fcSp_eq, fe_eq, fes_eq, feT_eq, feI_eq, feO_eq, feC_eq, fputAll_eq] <;> rfl
  | .aug op i e => by
    funext ρ
    show fx_aug C op i e  ρ = _
    simp only [fx_aug, exec, fbindV_eq, fbindNs_eq, nthL_eq, setF_eq, gvF_eq, noByrF_eq, purF_eq, binF_eq, cmpF_eq, truF_eq, ixF_eq, setLF_eq, forF_eq, lcF_eq, hideF_eq, unhideF_eq, biF_eq, muF_eq, Bool.cond_eq_ite, fcD_eq, fcRo_eq, fcSp_eq, fe_eq, fes_eq, feT_eq, feI_eq, feO_eq, feC_eq, fputAll_eq] <;> rfl
  | .augx op i k e => by
    funext ρ
    show fx_augx C op i k e  ρ = _
    simp only [fx_augx, exec, fbindV_eq, fbindNs_eq, nthL_eq, setF_eq, gvF_eq, noByrF_eq, purF_eq, binF_eq, cmpF_eq, truF_eq, ixF_eq, setLF_eq, forF_eq, lcF_eq, hideF_eq, unhideF_eq, biF_eq, muF_eq, Bool.cond_eq_ite, fcD_eq, fcRo_eq, fcSp_eq, fe_eq, fes_eq, feT_eq, feI_eq, feO_eq, feC_eq, fputAll_eq] <;> rfl
  | .expr e => by
    funext ρ
    show fx_expr C e  ρ = _
    simp only [fx_expr, exec, fbindV_eq, fbindNs_eq, nthL_eq, setF_eq, gvF_eq, noByrF_eq, purF_eq, binF_eq, cmpF_eq, truF_eq, ixF_eq, setLF_eq, forF_eq, lcF_eq, hideF_eq, unhideF_eq, biF_eq, muF_eq, Bool.cond_eq_ite, fcD_eq, fcRo_eq, fcSp_eq, fe_eq, fes_eq, feT_eq, feI_eq, feO_eq, feC_eq, fputAll_eq] <;> rfl
  | .ifs t a b => by
    funext ρ
    show fx_ifs C t a b (fxs C a) (fxs C b) ρ = _
    rw [fxs_eq C a, fxs_eq C b]
    simp only [fx_ifs, exec, fbindV_eq, fbindNs_eq, nthL_eq, setF_eq, gvF_eq, noByrF_eq, purF_eq, binF_eq, cmpF_eq, truF_eq, ixF_eq, setLF_eq, forF_eq, lcF_eq, hideF_eq, unhideF_eq, biF_eq, muF_eq, Bool.cond_eq_ite, fcD_eq, fcRo_eq, fcSp_eq, fe_eq, fes_eq, feT_eq, feI_eq, feO_eq, feC_eq, fputAll_eq] <;> rfl
  | .whl t b => by
    funext ρ
    show fx_whl C t b (fxs C b) ρ = _
    rw [fxs_eq C b]
    simp only [fx_whl, exec, fbindV_eq, fbindNs_eq, nthL_eq, setF_eq, gvF_eq, noByrF_eq, purF_eq, binF_eq, cmpF_eq, truF_eq, ixF_eq, setLF_eq, forF_eq, lcF_eq, hideF_eq, unhideF_eq, biF_eq, muF_eq, Bool.cond_eq_ite, fcD_eq, fcRo_eq, fcSp_eq, fe_eq, fes_eq, feT_eq, feI_eq, feO_eq, feC_eq, fputAll_eq] <;> rfl
  | .for g it b => by
    funext ρ
    show fx_for C g it b (fxs C b) ρ = _
    rw [fxs_eq C b]
    simp only [fx_for, exec, fbindV_eq, fbindNs_eq, nthL_eq, setF_eq, gvF_eq, noByrF_eq, purF_eq, binF_eq, cmpF_eq, truF_eq, ixF_eq, setLF_eq, forF_eq, lcF_eq, hideF_eq, unhideF_eq, biF_eq, muF_eq, Bool.cond_eq_ite, fcD_eq, fcRo_eq, fcSp_eq, fe_eq, fes_eq, feT_eq, feI_eq, feO_eq, feC_eq, fputAll_eq] <;> rfl
  | .ret e => by
    funext ρ
    show fx_ret C e  ρ = _
    simp only [fx_ret, exec, fbindV_eq, fbindNs_eq, nthL_eq, setF_eq, gvF_eq, noByrF_eq, purF_eq, binF_eq, cmpF_eq, truF_eq, ixF_eq, setLF_eq, forF_eq, lcF_eq, hideF_eq, unhideF_eq, biF_eq, muF_eq, Bool.cond_eq_ite, fcD_eq, fcRo_eq, fcSp_eq, fe_eq, fes_eq, feT_eq, feI_eq, feO_eq, feC_eq, fputAll_eq] <;> rfl
  | .retN  => by
    funext ρ
    show fx_retN C   ρ = _
    simp only [fx_retN, exec, fbindV_eq, fbindNs_eq, nthL_eq, setF_eq, gvF_eq, noByrF_eq, purF_eq, binF_eq, cmpF_eq, truF_eq, ixF_eq, setLF_eq, forF_eq, lcF_eq, hideF_eq, unhideF_eq, biF_eq, muF_eq, Bool.cond_eq_ite, fcD_eq, fcRo_eq, fcSp_eq, fe_eq, fes_eq, feT_eq, feI_eq, feO_eq, feC_eq, fputAll_eq] <;> rfl
  | .pass  => by
    funext ρ
    show fx_pass C   ρ = _
    simp only [fx_pass, exec, fbindV_eq, fbindNs_eq, nthL_eq, setF_eq, gvF_eq, noByrF_eq, purF_eq, binF_eq, cmpF_eq, truF_eq, ixF_eq, setLF_eq, forF_eq, lcF_eq, hideF_eq, unhideF_eq, biF_eq, muF_eq, Bool.cond_eq_ite, fcD_eq, fcRo_eq, fcSp_eq, fe_eq, fes_eq, feT_eq, feI_eq, feO_eq, feC_eq, fputAll_eq] <;> rfl
  | .never  => by
    funext ρ
    show fx_never C   ρ = _
    simp only [fx_never, exec, fbindV_eq, fbindNs_eq, nthL_eq, setF_eq, gvF_eq, noByrF_eq, purF_eq, binF_eq, cmpF_eq, truF_eq, ixF_eq, setLF_eq, forF_eq, lcF_eq, hideF_eq, unhideF_eq, biF_eq, muF_eq, Bool.cond_eq_ite, fcD_eq, fcRo_eq, fcSp_eq, fe_eq, fes_eq, feT_eq, feI_eq, feO_eq, feC_eq, fputAll_eq] <;> rfl
theorem fxs_eq (C : CallF) : ∀ (e : ISs), fxs C e = execs C e
  | .nil  => by
    funext ρ
    show fxs_nil C   ρ = _
    simp only [fxs_nil, execs, fbindV_eq, fbindNs_eq, nthL_eq, setF_eq, gvF_eq, noByrF_eq, purF_eq, binF_eq, cmpF_eq, truF_eq, ixF_eq, setLF_eq, forF_eq, lcF_eq, hideF_eq, unhideF_eq, biF_eq, muF_eq, Bool.cond_eq_ite, fcD_eq, fcRo_eq, fcSp_eq, fe_eq, fes_eq, feT_eq, feI_eq, feO_eq, feC_eq, fputAll_eq] <;> rfl
  | .cons s ss => by
    funext ρ
    show fxs_cons C s ss (fx C s) (fxs C ss) ρ = _
    rw [fx_eq C s, fxs_eq C ss]
    simp only [fxs_cons, execs, fbindV_eq, fbindNs_eq, nthL_eq, setF_eq, gvF_eq, noByrF_eq, purF_eq, binF_eq, cmpF_eq, truF_eq, ixF_eq, setLF_eq, forF_eq, lcF_eq, hideF_eq, unhideF_eq, biF_eq, muF_eq, Bool.cond_eq_ite, fcD_eq, fcRo_eq, fcSp_eq, fe_eq, fes_eq, feT_eq, feI_eq, feO_eq, feC_eq, fputAll_eq] <;> rfl
end
noncomputable def runF (T : List Fd) : Nat → CallF := fun n => Nat.rec (motive := fun _ => CallF) (fun _ _ _ => none) (fun _ C f r ds => match nthL T f with
    | some fd => if (if r.isSome then 1 else 0) + ds.length = fd.nparams ∧ modeOk fd.mode r = true ∧ fd.nparams ≤ fd.nslots then finish r (fcRo (startRo fd r ds) (fxs C fd.body)) else none
    | none => none) n
theorem runF_eq (T : List Fd) : ∀ n, runF T n = run T n
  | 0 => by
    funext f r ds
    rfl
  | n + 1 => by
    funext f r ds
    show (match nthL T f with
    | some fd => if (if r.isSome then 1 else 0) + ds.length = fd.nparams ∧ modeOk fd.mode r = true ∧ fd.nparams ≤ fd.nslots then finish r (fcRo (startRo fd r ds) (fxs (runF T n) fd.body)) else none
    | none => none) = _
    rw [runF_eq T n, nthL_eq]
    simp only [run, fxs_eq, fcRo_eq] <;> rfl
theorem run_of {T : List Fd} {n f : Nat} {r : Option D} {ds : List D} {d : D} (h : isOut (runF T n f r ds) d = true) : isOut (run T n f r ds) d = true := by
  rw [← runF_eq]
  exact h
end Zr

set_option maxRecDepth 100000
set_option maxHeartbeats 4000000
/-! ZyB: steps_said, raw_potentials, raw_can walked: what they compute, in plain terms. -/
namespace Zr
open PySem
/-- a loop against a fold: what is related stays related -/
theorem forGo_foldR {α : Type} {turn : D → Ro → Option Out} (R : α → Ro → Prop) (f : α → D → α) : ∀ (xs : List D), (∀ x ∈ xs, ∀ s ρ, R s ρ → ∃ ρ', turn x ρ = some (.nx ρ') ∧ R (f s x) ρ') → ∀ s ρ, R s ρ → ∃ ρ', forGo turn xs ρ = some (.nx ρ') ∧ R (xs.foldl f s) ρ'
  | [], _, s, ρ, h => ⟨ρ, rfl, h⟩
  | x :: r, hx, s, ρ, h => by
    obtain ⟨ρ1, e1, h1⟩ := hx x List.mem_cons_self s ρ h
    obtain ⟨ρ2, e2, h2⟩ := forGo_foldR R f r (fun y m => hx y (List.mem_cons_of_mem _ m)) (f s x) ρ1 h1
    exact ⟨ρ2, by simp only [forGo, e1, e2], h2⟩
/-- .. over a list of things that stand for data -/
theorem forGo_foldM {α β : Type} {turn : D → Ro → Option Out} (R : α → Ro → Prop) (d : β → D) (f : α → β → α) : ∀ (xs : List β), (∀ x ∈ xs, ∀ s ρ, R s ρ → ∃ ρ', turn (d x) ρ = some (.nx ρ') ∧ R (f s x) ρ') → ∀ s ρ, R s ρ → ∃ ρ', forGo turn (xs.map d) ρ = some (.nx ρ') ∧ R (xs.foldl f s) ρ'
  | [], _, s, ρ, h => ⟨ρ, rfl, h⟩
  | x :: r, hx, s, ρ, h => by
    obtain ⟨ρ1, e1, h1⟩ := hx x List.mem_cons_self s ρ h
    obtain ⟨ρ2, e2, h2⟩ := forGo_foldM R d f r (fun y m => hx y (List.mem_cons_of_mem _ m)) (f s x) ρ1 h1
    exact ⟨ρ2, by simp only [List.map_cons, forGo, e1, e2], h2⟩
/-- a plane -/
structure Pl where
  i : Nat
  j : Nat
  a : Int
  deriving DecidableEq
def Pl.d (p : Pl) : D := .tuple [.int p.i, .int p.j, .int p.a]
def cutD (n : Nat) (ps : List Pl) : D := .tuple [.int n, .tuple (ps.map Pl.d)]
/-- a step that may be gone -/
structure Sp where
  s : Nat
  g : Nat
  a : Int
  m : Bool
  k : Nat
  u : Int
def Sp.d (p : Sp) : D := .tuple [.int p.s, .int p.g, .int p.a, .bool p.m, .tuple [.int p.k, .int p.u]]
def stepsOf : Nat → List Pl → List Nat → List Sp
  | k, p :: ps, c :: cs => (if c = 60 then [] else [⟨p.i, p.j, p.a, c == 62, k, 1⟩]) ++ ((if c = 62 then [] else [⟨p.j, p.i, -p.a, c == 60, k, -1⟩]) ++ stepsOf (k + 1) ps cs)
  | _, _, _ => []
structure Rx where
  low : List Int
  last : List D
  mv : Option Nat
def relax (w : Int) (s : Rx) (p : Sp) : Rx :=
  let most := s.low.getD p.s 0 - w * p.a - (if p.m then 1 else 0)
  if most < s.low.getD p.g 0 then ⟨s.low.set p.g most, s.last.set p.g (.tuple [.int p.s, .tuple [.int p.k, .int p.u]]), some p.g⟩ else s
def rounds (w : Int) (sp : List Sp) : Nat → Rx → Rx × Bool
  | 0, s => (s, false)
  | t + 1, s =>
    let r := sp.foldl (relax w) ⟨s.low, s.last, none⟩
    match r.mv with
    | none => (r, true)
    | some _ => rounds w sp t r
def mvD : Option Nat → D
  | none => .none
  | some k => .int k
def rxIni (n : Nat) : Rx := ⟨List.replicate n 0, List.replicate n .none, none⟩
def potR (n : Nat) (ps : List Pl) (cs : List Nat) : Rx × Bool := rounds (n + 1) (stepsOf 0 ps cs) (n + 1) (rxIni n)
def potD (n : Nat) (ps : List Pl) (cs : List Nat) : D := match potR n ps cs with
  | (r, true) => .tuple [.list (r.low.map .int), .list r.last, .none]
  | (r, false) => .tuple [.none, .list r.last, mvD r.mv]
def canB (n : Nat) (ps : List Pl) (cs : List Nat) : Bool := (potR n ps cs).2
/-! ### steps_said -/
def ssBody : ISs :=
    (.cons (.asg (.nm 2) (.lst .nil))
    (.cons (.for (.t2 (.nm 3) (.t2 (.t3 (.nm 5) (.nm 6) (.nm 7)) (.nm 4))) (.ezip (.ix (.var 0) (.int 1)) (.var 1)) (.cons (.ifs (.cmp (.cmp .NotEq (.var 4) (.str (Str.ofString "<")))) (.cons (.expr (.mut .append 2 (.cons (.tup (.cons (.mov 5) (.cons (.mov 6) (.cons (.mov 7) (.cons (.cmp .Eq (.var 4) (.str (Str.ofString ">"))) (.cons (.tup (.cons (.mov 3) (.cons (.int 1) .nil))) .nil)))))) .nil)))
    .nil) .nil)
    (.cons (.ifs (.cmp (.cmp .NotEq (.var 4) (.str (Str.ofString ">")))) (.cons (.expr (.mut .append 2 (.cons (.tup (.cons (.mov 6) (.cons (.mov 5) (.cons (.neg (.var 7)) (.cons (.cmp .Eq (.var 4) (.str (Str.ofString "<"))) (.cons (.tup (.cons (.mov 3) (.cons (.neg (.int 1)) .nil))) .nil)))))) .nil)))
    .nil) .nil)
    .nil)))
    (.cons (.ret (.mov 2))
    .nil)))
def ssTurn : ISs := match ssBody with
  | .cons _ (.cons (.for _ _ b) _) => b
  | _ => .nil
def chD (c : Nat) : D := .str ⟨#[c]⟩
theorem eq_ch (c : Nat) (x : Nat) : eqD (chD c) (chD x) = some (c == x) := by
  have h : (⟨#[c]⟩ : Str) = ⟨#[x]⟩ ↔ c = x := by simp
  simp only [eqD, chD, PyData.plain, PyData.depth, PyData.eqv, Bool.and_true, Bool.true_and]
  rw [if_pos (by decide)]
  congr 1
  rw [Bool.eq_iff_iff, beq_iff_eq, beq_iff_eq, h]
theorem lt_ch : PyData.str (Str.ofString "<") = chD 60 := deq_eq (by decide +kernel)
theorem gt_ch : PyData.str (Str.ofString ">") = chD 62 := deq_eq (by decide +kernel)
def ssX (x : (Nat × Pl × Nat)) : D := .tuple [.int x.1, .tuple [x.2.1.d, chD x.2.2]]
def ssZip : Nat → List Pl → List Nat → List (Nat × Pl × Nat)
  | k, p :: ps, c :: cs => (k, p, c) :: ssZip (k + 1) ps cs
  | _, _, _ => []
theorem ssZip_eq : ∀ (k : Nat) (ps : List Pl) (cs : List Nat), enumD k (zipD (ps.map Pl.d) (cs.map chD)) = (ssZip k ps cs).map ssX
  | k, [], cs => by cases cs <;> rfl
  | k, p :: ps, [] => rfl
  | k, p :: ps, c :: cs => by
    simp only [List.map_cons, zipD, enumD, ssZip, ssZip_eq (k + 1) ps cs]
    rfl
def ssF (s : List Sp) (x : Nat × Pl × Nat) : List Sp := s ++ ((if x.2.2 = 60 then [] else [⟨x.2.1.i, x.2.1.j, x.2.1.a, x.2.2 == 62, x.1, 1⟩]) ++ (if x.2.2 = 62 then [] else [⟨x.2.1.j, x.2.1.i, -x.2.1.a, x.2.2 == 60, x.1, -1⟩]))
theorem ssF_eq : ∀ (k : Nat) (ps : List Pl) (cs : List Nat) (s : List Sp), (ssZip k ps cs).foldl ssF s = s ++ stepsOf k ps cs
  | k, [], cs, s => by cases cs <;> simp [ssZip, stepsOf]
  | k, p :: ps, [], s => by simp [ssZip, stepsOf]
  | k, p :: ps, c :: cs, s => by
    simp only [ssZip, List.foldl_cons, ssF_eq (k + 1) ps cs, stepsOf, ssF, List.append_assoc]
def ssT : Option (D × D × D × D × D) → List Slot
  | none => [.emp, .emp, .emp, .emp, .emp]
  | some (a, b, c, d, e) => [.pur a, .pur b, .pur c, .pur d, .pur e]
theorem ss_turn (C : CallF) (a b : D) (s : List Sp) (t : Option (D × D × D × D × D)) (x : Nat × Pl × Nat) (hl : s.length + 2 < lim) : ∃ t', (bindV (.t2 (.nm 3) (.t2 (.t3 (.nm 5) (.nm 6) (.nm 7)) (.nm 4))) (ssX x) .froz ([.pur a, .pur b, .own (.list (s.map Sp.d))] ++ ssT t)).bind (execs C ssTurn) = some (.nx ([.pur a, .pur b, .own (.list ((ssF s x).map Sp.d))] ++ ssT t')) := by
  obtain ⟨k, p, c⟩ := x
  refine ⟨some (.int k, chD c, .int p.i, .int p.j, .int p.a), ?_⟩
  have e0 : bindV (.t2 (.nm 3) (.t2 (.t3 (.nm 5) (.nm 6) (.nm 7)) (.nm 4))) (ssX (k, p, c)) .froz ([.pur a, .pur b, .own (.list (s.map Sp.d))] ++ ssT t) = some ([.pur a, .pur b, .own (.list (s.map Sp.d))] ++ ssT (some (.int k, chD c, .int p.i, .int p.j, .int p.a))) := by
    rcases t with _ | ⟨a, b, c, d, e⟩ <;> simp [ssT, bindV, ssX, Pl.d, noByr, pur, chD]
  rw [e0, Option.bind_some]
  have l1 : s.length < 1000000 := by simp [lim] at hl; omega
  have l2 : s.length + 1 < 1000000 := by simp [lim] at hl; omega
  have n1 : cmpop .NotEq (chD c) (chD 60) = some (!(c == 60)) := by simp [cmpop, eq_ch]
  have n2 : cmpop .NotEq (chD c) (chD 62) = some (!(c == 62)) := by simp [cmpop, eq_ch]
  have n3 : cmpop .Eq (chD c) (chD 62) = some (c == 62) := by simp [cmpop, eq_ch]
  have n4 : cmpop .Eq (chD c) (chD 60) = some (c == 60) := by simp [cmpop, eq_ch]
  by_cases c1 : c = 60
  · subst c1
    simp [ssTurn, ssBody, ssT, execs, exec, evT, ev, evs, gv, lt_ch, gt_ch, n1, n2, n3, n4, okSt, effE, effs, tks, tkE, noScr, isLst, settles, settle, mu, lim, l1, l2, ssF, Sp.d]
  · by_cases c2 : c = 62
    · subst c2
      simp [ssTurn, ssBody, ssT, execs, exec, evT, ev, evs, gv, lt_ch, gt_ch, n1, n2, n3, n4, okSt, effE, effs, tks, tkE, noScr, isLst, settles, settle, mu, lim, l1, l2, ssF, Sp.d]
    · simp [ssTurn, ssBody, ssT, execs, exec, evT, ev, evs, gv, lt_ch, gt_ch, n1, n2, n3, n4, okSt, effE, effs, tks, tkE, noScr, isLst, settles, settle, mu, lim, l1, l2, ssF, Sp.d, c1, c2]
theorem ssF_len (s : List Sp) (x : Nat × Pl × Nat) : (ssF s x).length ≤ s.length + 2 := by
  unfold ssF
  simp only [List.length_append]
  split <;> split <;> simp <;> omega
theorem ssZip_len : ∀ (k : Nat) (ps : List Pl) (cs : List Nat), (ssZip k ps cs).length ≤ ps.length
  | k, [], cs => by cases cs <;> simp [ssZip]
  | k, p :: ps, [] => by simp [ssZip]
  | k, p :: ps, c :: cs => by
    have := ssZip_len (k + 1) ps cs
    simp [ssZip]
    omega
theorem purs_pls (ps : List Pl) : purs (ps.map Pl.d) = true := by
  induction ps with
  | nil => rfl
  | cons p r ih => simp [purs, pur, Pl.d, ih]
theorem purs_sps (ps : List Sp) : purs (ps.map Sp.d) = true := by
  induction ps with
  | nil => rfl
  | cons p r ih => simp [purs, pur, Sp.d, ih]
theorem pur_cut (n : Nat) (ps : List Pl) : pur (cutD n ps) = true := by
  simp [cutD, pur, purs, purs_pls]
theorem forGo_len {α β : Type} {turn : D → Ro → Option Out} (R : α → Ro → Prop) (d : β → D) (f : α → β → α) (m : α → Nat) (c M : Nat) (hm : ∀ s x, m (f s x) ≤ m s + c) : ∀ (xs : List β), (∀ x ∈ xs, ∀ s ρ, m s + c ≤ M → R s ρ → ∃ ρ', turn (d x) ρ = some (.nx ρ') ∧ R (f s x) ρ') → ∀ s ρ, m s + c * xs.length ≤ M → R s ρ → ∃ ρ', forGo turn (xs.map d) ρ = some (.nx ρ') ∧ R (xs.foldl f s) ρ'
  | [], _, s, ρ, _, h => ⟨ρ, rfl, h⟩
  | x :: r, hx, s, ρ, hM, h => by
    have hM' : m s + c * r.length + c ≤ M := by
      rw [List.length_cons, Nat.mul_succ] at hM
      omega
    obtain ⟨ρ1, e1, h1⟩ := hx x List.mem_cons_self s ρ (Nat.le_trans (by omega) hM') h
    have := hm s x
    obtain ⟨ρ2, e2, h2⟩ := forGo_len R d f m c M hm r (fun y m => hx y (List.mem_cons_of_mem _ m)) (f s x) ρ1 (by omega) h1
    exact ⟨ρ2, by simp only [List.map_cons, forGo, e1, e2], h2⟩
theorem ss_run {T : List Fd} {i : Nat} {fd : Fd} (h : T[i]? = some fd) (hb : fd.body = ssBody) (hn : fd.nparams = 2) (hm : fd.mode = .plain) (hs : fd.nslots = 8) (k n : Nat) (ps : List Pl) (cs : List Nat) (hl : ps.length ≤ 1000) :
    run T (k + 1) i none [cutD n ps, .str ⟨⟨cs⟩⟩] = some (.list ((stepsOf 0 ps cs).map Sp.d), none) := by
  rw [run_at (d := fd) h ⟨by simp [hn], by simp [hm, modeOk], by omega⟩]
  have s0 : startRo fd none [cutD n ps, .str ⟨⟨cs⟩⟩] = [.pur (cutD n ps), .pur (.str ⟨⟨cs⟩⟩)] ++ [.emp, .emp, .emp, .emp, .emp, .emp] := by
    simp [startRo, hm, bindS, hs, hn, bind1, pur_cut, pur, List.replicate]
  rw [s0, hb]
  generalize run T k = C
  have ei : evI C (.ezip (.ix (.var 0) (.int 1)) (.var 1)) ([.pur (cutD n ps), .pur (.str ⟨⟨cs⟩⟩), .own (.list [])] ++ ssT none) = some ((ssZip 0 ps cs).map ssX, [.fresh, .fresh], [.pur (cutD n ps), .pur (.str ⟨⟨cs⟩⟩), .own (.list [])] ++ ssT none) := by
    have p1 : pur (.tuple (ps.map Pl.d)) = true := by simp [pur, purs_pls]
    have e1 : ixD (cutD n ps) (.int 1) = some (.tuple (ps.map Pl.d)) := rfl
    rw [← ssZip_eq]
    simp [evI, ev, gv, ssT, e1, p1, okSt, effE, itemsOf]
    rfl
  obtain ⟨ρ', e, ⟨t, rfl⟩⟩ := forGo_len (turn := fun x ρ => (bindV (.t2 (.nm 3) (.t2 (.t3 (.nm 5) (.nm 6) (.nm 7)) (.nm 4))) x .froz ρ).bind (execs C ssTurn)) (fun s ρ => ∃ t, ρ = [.pur (cutD n ps), .pur (.str ⟨⟨cs⟩⟩), .own (.list (s.map Sp.d))] ++ ssT t) ssX ssF List.length 2 999999 ssF_len (ssZip 0 ps cs) (fun x _ s ρ hM ⟨t, ht⟩ => by
    subst ht
    obtain ⟨t', e⟩ := ss_turn C (cutD n ps) (.str ⟨⟨cs⟩⟩) s t x (by simp [lim]; omega)
    exact ⟨_, e, t', rfl⟩) [] _ (by have := ssZip_len 0 ps cs; simp; omega) ⟨none, rfl⟩
  rw [ssF_eq, List.nil_append] at e
  have x1 : exec C (.asg (.nm 2) (.lst .nil)) ([.pur (cutD n ps), .pur (.str ⟨⟨cs⟩⟩)] ++ [.emp, .emp, .emp, .emp, .emp, .emp]) = some (.nx ([.pur (cutD n ps), .pur (.str ⟨⟨cs⟩⟩), .own (.list [])] ++ ssT none)) := by
    simp [exec, ev, evs, settles, settleA, settle, bindV, noByr, pur, ssT]
  have x2 := (x_for (C := C) (b := ssTurn) (turn := fun x ρ => (bindV (.t2 (.nm 3) (.t2 (.t3 (.nm 5) (.nm 6) (.nm 7)) (.nm 4))) x .froz ρ).bind (execs C ssTurn)) ei rfl fun _ _ => rfl).trans e
  have x3 : execs C ssBody ([.pur (cutD n ps), .pur (.str ⟨⟨cs⟩⟩)] ++ [.emp, .emp, .emp, .emp, .emp, .emp]) = execs C (.cons (.ret (.mov 2)) .nil) ([.pur (cutD n ps), .pur (.str ⟨⟨cs⟩⟩), .own (.list ((stepsOf 0 ps cs).map Sp.d))] ++ ssT t) := (x_cons x1).trans (x_cons x2)
  rw [x3]
  rcases t with _ | ⟨a, b, c, d, e⟩ <;> simp [execs, exec, ev, settle, finish, ssT]
/-! ### raw_potentials -/
def rpTurn : ISs := (.cons (.asg (.nm 14) (.bin .Sub (.bin .Sub (.ix (.var 6) (.var 9)) (.bin .Mult (.var 5) (.var 11))) (.bcall .int (.cons (.var 12) .nil))))
    (.cons (.ifs (.cmp (.cmp .Lt (.var 14) (.ix (.var 6) (.var 10)))) (.cons (.puts (.at 6 (.var 10) (.at 7 (.var 10) (.nm 2 .nil))) (.tup (.cons (.mov 14) (.cons (.tup (.cons (.mov 9) (.cons (.mov 13) .nil))) (.cons (.mov 10) .nil)))))
    .nil) .nil)
    .nil))
def rpG : IG := .t5 (.nm 9) (.nm 10) (.nm 11) (.nm 12) (.nm 13)
def rpOut : ISs := (.cons (.asg (.nm 2) .non)
    (.cons (.for (.t5 (.nm 9) (.nm 10) (.nm 11) (.nm 12) (.nm 13)) (.seq (.var 8)) rpTurn)
    (.cons (.ifs (.cmp (.cmp .Is (.var 2) .non)) (.cons (.ret (.tup (.cons (.mov 6) (.cons (.mov 7) (.cons .non .nil)))))
    .nil) .nil)
    .nil)))
def rpBody (i : Nat) : ISs :=
    (.cons (.par [4, 5] (.cons (.ix (.var 0) (.int 0)) (.cons (.bin .Add (.ix (.var 0) (.int 0)) (.int 1)) .nil)))
    (.cons (.par [6, 7, 8] (.cons (.bin .Mult (.lst (.cons (.int 0) .nil)) (.var 4)) (.cons (.bin .Mult (.lst (.cons .non .nil)) (.var 4)) (.cons (.fcall i (.cons (.var 0) (.cons (.var 1) .nil))) .nil))))
    (.cons (.asg (.nm 2) .non)
    (.cons (.for (.nm 3) (.rng1 (.bin .Add (.var 4) (.int 1))) rpOut)
    (.cons (.ret (.tup (.cons .non (.cons (.mov 7) (.cons (.mov 2) .nil)))))
    .nil)))))
def rpT : Option (D × D × D × D × D × D) → List Slot
  | none => [.emp, .emp, .emp, .emp, .emp, .emp]
  | some (a, b, c, d, e, f) => [.pur a, .pur b, .pur c, .pur d, .pur e, .pur f]
def rpL : Option (D × D × D × D × D × D) → List Slot
  | none => [.emp]
  | some (_, _, _, _, _, f) => [.pur f]
def rpRo (c x : D) (mv : Option Nat) (s3 : Slot) (n : Nat) (w : Int) (low : List Int) (last : List D) (sp : List Sp) (t : Option (D × D × D × D × D × D)) : Ro :=
  [.pur c, .pur x, .pur (mvD mv), s3, .pur (.int n), .pur (.int w), .own (.list (low.map .int)), .own (.list last), .own (.list (sp.map Sp.d))] ++ rpT t
theorem ix_low {low : List Int} {i : Nat} (h : i < low.length) : ixD (.list (low.map .int)) (.int i) = some (.int (low.getD i 0)) := by
  have h2 : (i : Int) < (low.length : Int) := by omega
  simp [ixD, pixN, h2, h]
theorem set_low {low : List Int} {i : Nat} (h : i < low.length) (z : Int) : setL (low.map .int) i (.int z) = some ((low.set i z).map .int) := by
  have h2 : (i : Int) < (low.length : Int) := by omega
  simp [setL, pixN, h2, h, pur]
theorem set_last {last : List D} {i : Nat} (h : i < last.length) (hp : purs last = true) (z : D) : setL last i z = some (last.set i z) := by
  have h2 : (i : Int) < (last.length : Int) := by omega
  have h3 : pur last[i] = true := purs_mem hp _ (List.getElem_mem h)
  simp [setL, pixN, h2, h, h3]
theorem purs_set {last : List D} {i : Nat} (hp : purs last = true) {z : D} (hz : pur z = true) : purs (last.set i z) = true := by
  induction last generalizing i with
  | nil => rfl
  | cons x r ih =>
    simp only [purs, Bool.and_eq_true] at hp
    cases i with
    | zero => simp [purs, hz, hp.2]
    | succ i => simp [purs, hp.1, ih hp.2]
theorem rp_turn (C : CallF) (c x : D) (s3 : Slot) (n : Nat) (w : Int) (hw : w.natAbs < 2 ^ 64) (s : Rx) (sp : List Sp) (t : Option (D × D × D × D × D × D)) (p : Sp) (hs : p.s < n) (hg : p.g < n) (l1 : s.low.length = n) (l2 : s.last.length = n) (hp : purs s.last = true) :
    (∃ t', (bindV rpG p.d .froz (rpRo c x s.mv s3 n w s.low s.last sp t)).bind (execs C rpTurn) = some (.nx (rpRo c x (relax w s p).mv s3 n w (relax w s p).low (relax w s p).last sp t'))) ∧ (relax w s p).low.length = n ∧ (relax w s p).last.length = n ∧ purs (relax w s p).last = true := by
  have r2 : (relax w s p).low.length = n ∧ (relax w s p).last.length = n ∧ purs (relax w s p).last = true := by
    have dd : relax w s p = if s.low.getD p.s 0 - w * p.a - (if p.m then 1 else 0) < s.low.getD p.g 0 then ⟨s.low.set p.g (s.low.getD p.s 0 - w * p.a - (if p.m then 1 else 0)), s.last.set p.g (.tuple [.int p.s, .tuple [.int p.k, .int p.u]]), some p.g⟩ else s := rfl
    rw [dd]
    by_cases b : s.low.getD p.s 0 - w * p.a - (if p.m then 1 else 0) < s.low.getD p.g 0
    · rw [if_pos b]
      exact ⟨by simp [l1], by simp [l2], purs_set hp (by simp [pur, purs])⟩
    · rw [if_neg b]
      exact ⟨l1, l2, hp⟩
  refine ⟨?_, r2⟩
  obtain ⟨ps, pg, pa, pm, pk, pu⟩ := p
  have e0 : bindV rpG (Sp.d ⟨ps, pg, pa, pm, pk, pu⟩) .froz (rpRo c x s.mv s3 n w s.low s.last sp t) = some ([.pur c, .pur x, .pur (mvD s.mv), s3, .pur (.int n), .pur (.int w), .own (.list (s.low.map .int)), .own (.list s.last), .own (.list (sp.map Sp.d)), .pur (.int ps), .pur (.int pg), .pur (.int pa), .pur (.bool pm), .pur (.tuple [.int pk, .int pu])] ++ rpL t) := by
    rcases t with _ | ⟨a, b, c, d, e, f⟩ <;> simp [rpRo, rpT, rpL, rpG, bindV, Sp.d, noByr, pur, purs]
  rw [e0, Option.bind_some]
  have i1 := ix_low (low := s.low) (i := ps) (by rw [l1]; exact hs)
  have i2 := ix_low (low := s.low) (i := pg) (by rw [l1]; exact hg)
  have m1 : mulOk w pa = true := by
    have : decide (w.natAbs < 2 ^ 64) = true := decide_eq_true hw
    simp only [mulOk, mulSm, this, Bool.true_or]
  let most : Int := s.low.getD ps 0 - w * pa - (if pm then 1 else 0)
  have q1 := set_low (low := s.low) (i := pg) (by rw [l1]; exact hg) most
  have q2 := set_last (last := s.last) (i := pg) (by rw [l2]; exact hg) hp (.tuple [.int ps, .tuple [.int pk, .int pu]])
  have k1 : binop .Mult (.int w) (.int pa) = some (.int (w * pa)) := by simp only [binop, m1, if_true]
  have k2 : ∀ a b : Int, binop .Sub (.int a) (.int b) = some (.int (a - b)) := fun _ _ => rfl
  have k3 : bi .int [.bool pm] = some (.int (if pm then 1 else 0)) := rfl
  have w1 : exec C (.asg (.nm 14) (.bin .Sub (.bin .Sub (.ix (.var 6) (.var 9)) (.bin .Mult (.var 5) (.var 11))) (.bcall .int (.cons (.var 12) .nil)))) ([.pur c, .pur x, .pur (mvD s.mv), s3, .pur (.int n), .pur (.int w), .own (.list (s.low.map .int)), .own (.list s.last), .own (.list (sp.map Sp.d)), .pur (.int ps), .pur (.int pg), .pur (.int pa), .pur (.bool pm), .pur (.tuple [.int pk, .int pu])] ++ rpL t) = some (.nx [.pur c, .pur x, .pur (mvD s.mv), s3, .pur (.int n), .pur (.int w), .own (.list (s.low.map .int)), .own (.list s.last), .own (.list (sp.map Sp.d)), .pur (.int ps), .pur (.int pg), .pur (.int pa), .pur (.bool pm), .pur (.tuple [.int pk, .int pu]), .pur (.int most)]) := by
    rcases t with _ | ⟨a, b, c, d, e, f⟩ <;> simp [exec, ev, evs, gv, i1, okSt, effE, effs, noScr, pur, k1, k2, k3, settleA, settle, bindV, noByr, most, rpL]
  refine ⟨some (.int ps, .int pg, .int pa, .bool pm, .tuple [.int pk, .int pu], .int most), ?_⟩
  unfold rpTurn
  rw [x_cons w1]
  have lt : cmpop .Lt (.int most) (.int (s.low.getD pg 0)) = some (decide (most < s.low.getD pg 0)) := rfl
  have dd : relax w s ⟨ps, pg, pa, pm, pk, pu⟩ = if most < s.low.getD pg 0 then ⟨s.low.set pg most, s.last.set pg (.tuple [.int ps, .tuple [.int pk, .int pu]]), some pg⟩ else s := rfl
  rw [dd]
  generalize most = most at *
  by_cases b : most < s.low.getD pg 0
  · have b' : decide (most < s.low.getD pg 0) = true := decide_eq_true b
    rw [if_pos b]
    rw [b'] at lt
    simp only [execs, exec, evT, ev, evs, gv, List.getElem?_cons_succ, List.getElem?_cons_zero, i2, okSt, effE, effs, List.contains_nil, Bool.not_false, if_true, pur, lt]
    simp [settles, settle, putAll, ev, gv, effE, isOwn, lim, q1, q2, bindV, noByr, pur, rpRo, rpT, mvD]
  · have b' : decide (most < s.low.getD pg 0) = false := decide_eq_false b
    rw [if_neg b]
    rw [b'] at lt
    simp only [execs, exec, evT, ev, evs, gv, List.getElem?_cons_succ, List.getElem?_cons_zero, i2, okSt, effE, effs, List.contains_nil, Bool.not_false, if_true, pur, lt]
    simp [execs, rpRo, rpT]
def rpOk (n : Nat) (s : Rx) : Prop := s.low.length = n ∧ s.last.length = n ∧ purs s.last = true
theorem rp_lap (C : CallF) (c x : D) (s3 : Slot) (n : Nat) (w : Int) (hw : w.natAbs < 2 ^ 64) (sp : List Sp) (hsp : ∀ p ∈ sp, p.s < n ∧ p.g < n) (s : Rx) (ok : rpOk n s) (t : Option (D × D × D × D × D × D)) :
    ∃ t', exec C (.for (.t5 (.nm 9) (.nm 10) (.nm 11) (.nm 12) (.nm 13)) (.seq (.var 8)) rpTurn) (rpRo c x s.mv s3 n w s.low s.last sp t) = some (.nx (rpRo c x (sp.foldl (relax w) s).mv s3 n w (sp.foldl (relax w) s).low (sp.foldl (relax w) s).last sp t')) ∧ rpOk n (sp.foldl (relax w) s) := by
  obtain ⟨ρ', e, ⟨t', rfl⟩, ok'⟩ := forGo_foldM (turn := fun x ρ => (bindV rpG x .froz ρ).bind (execs C rpTurn)) (fun s ρ => (∃ t, ρ = rpRo c x s.mv s3 n w s.low s.last sp t) ∧ rpOk n s) Sp.d (relax w) sp (fun p m s ρ ⟨⟨t, ht⟩, ok⟩ => by
    subst ht
    obtain ⟨⟨t', e⟩, ok'⟩ := rp_turn C c x s3 n w hw s sp t p (hsp p m).1 (hsp p m).2 ok.1 ok.2.1 ok.2.2
    exact ⟨_, e, ⟨t', rfl⟩, ok'⟩) s _ ⟨⟨t, rfl⟩, ok⟩
  refine ⟨t', ?_, ok'⟩
  have ei : evI C (.seq (.var 8)) (rpRo c x s.mv s3 n w s.low s.last sp t) = some (sp.map Sp.d, [.loan 8], rpRo c x s.mv s3 n w s.low s.last sp t) := by
    simp [evI, ev, gv, rpRo, itemsOf]
  have p1 := purs_sps sp
  refine (x_for (C := C) (b := rpTurn) (turn := fun x ρ => (bindV rpG x .froz ρ).bind (execs C rpTurn)) ei ?_ fun _ _ => rfl).trans e
  simp only [List.all_cons, List.all_nil, walkOk, p1, Bool.true_and, Bool.and_true]
  rfl
theorem rp_laps (C : CallF) (c x : D) (n : Nat) (w : Int) (hw : w.natAbs < 2 ^ 64) (sp : List Sp) (hsp : ∀ p ∈ sp, p.s < n ∧ p.g < n) : ∀ (xs : List Int) (s : Rx) (_ : rpOk n s) (s3 : Slot) (_ : ∀ d, s3 ≠ .byr d) (t : Option (D × D × D × D × D × D)),
    ∃ ρ', forGo (fun x ρ => (bindV (.nm 3) x .froz ρ).bind (execs C rpOut)) (xs.map .int) (rpRo c x s.mv s3 n w s.low s.last sp t) = some (match rounds w sp xs.length s with
      | (r, true) => .rt (.tuple [.list (r.low.map .int), .list r.last, .none]) ρ'
      | (r, false) => .nx ρ') ∧ ((rounds w sp xs.length s).2 = false → ∃ s3' t', ρ' = rpRo c x (rounds w sp xs.length s).1.mv s3' n w (rounds w sp xs.length s).1.low (rounds w sp xs.length s).1.last sp t')
  | [], s, ok, s3, h3, t => ⟨_, rfl, fun _ => ⟨s3, t, rfl⟩⟩
  | i :: xs, s, ok, s3, h3, t => by
    have b1 : bindV (.nm 3) (.int i) .froz (rpRo c x s.mv s3 n w s.low s.last sp t) = some (rpRo c x s.mv (.pur (.int i)) n w s.low s.last sp t) := by
      cases s3 with
      | byr d => exact absurd rfl (h3 d)
      | _ => rfl
    have b2 : exec C (.asg (.nm 2) .non) (rpRo c x s.mv (.pur (.int i)) n w s.low s.last sp t) = some (.nx (rpRo c x none (.pur (.int i)) n w s.low s.last sp t)) := by
      simp [exec, ev, settleA, settle, bindV, noByr, pur, rpRo, mvD]
    obtain ⟨t', b3, ok'⟩ := rp_lap C c x (.pur (.int i)) n w hw sp hsp ⟨s.low, s.last, none⟩ ok t
    have lr : ∀ m, rounds w sp (m + 1) s = (match (sp.foldl (relax w) ⟨s.low, s.last, none⟩).mv with
      | none => (sp.foldl (relax w) ⟨s.low, s.last, none⟩, true)
      | some _ => rounds w sp m (sp.foldl (relax w) ⟨s.low, s.last, none⟩)) := fun _ => rfl
    simp only [List.length_cons, lr, List.map_cons, forGo, b1, Option.bind_some]
    generalize sp.foldl (relax w) ⟨s.low, s.last, none⟩ = r at *
    have b4 : execs C rpOut (rpRo c x s.mv (.pur (.int i)) n w s.low s.last sp t) = execs C (.cons (.ifs (.cmp (.cmp .Is (.var 2) .non)) (.cons (.ret (.tup (.cons (.mov 6) (.cons (.mov 7) (.cons .non .nil))))) .nil) .nil) .nil) (rpRo c x r.mv (.pur (.int i)) n w r.low r.last sp t') := (x_cons b2).trans (x_cons b3)
    rw [b4]
    cases hm : r.mv with
    | none =>
      refine ⟨([.pur c, .pur x, .pur (mvD none), .pur (.int i), .pur (.int n), .pur (.int w), .emp, .emp, .own (.list (sp.map Sp.d))] ++ rpT t'), ?_, fun h => by simp at h⟩
      rcases t' with _ | ⟨a, b, c, d, e, f⟩ <;> simp [execs, exec, evT, ev, evs, gv, rpRo, mvD, okSt, effE, effs, cmpop, isNone, settles, settle, lim, rpT, pur]
    | some m =>
      obtain ⟨ρ', e1, e2⟩ := rp_laps C c x n w hw sp hsp xs r ok' (.pur (.int i)) (fun d z => nomatch z) t'
      refine ⟨ρ', ?_, e2⟩
      have b5 : execs C (.cons (.ifs (.cmp (.cmp .Is (.var 2) .non)) (.cons (.ret (.tup (.cons (.mov 6) (.cons (.mov 7) (.cons .non .nil))))) .nil) .nil) .nil) (rpRo c x (some m) (.pur (.int i)) n w r.low r.last sp t') = some (.nx (rpRo c x r.mv (.pur (.int i)) n w r.low r.last sp t')) := by
        rw [hm]
        simp [execs, exec, evT, ev, evs, gv, rpRo, mvD, okSt, effE, effs, cmpop, isNone]
      rw [b5]
      exact e1
theorem stepsOf_mem : ∀ (k : Nat) (ps : List Pl) (cs : List Nat) (n : Nat), (∀ p ∈ ps, p.i < n ∧ p.j < n) → ∀ s ∈ stepsOf k ps cs, s.s < n ∧ s.g < n
  | k, [], cs, n, h, s, m => by cases cs <;> simp [stepsOf] at m
  | k, p :: ps, [], n, h, s, m => by simp [stepsOf] at m
  | k, p :: ps, c :: cs, n, h, s, m => by
    simp only [stepsOf, List.mem_append] at m
    have hp := h p List.mem_cons_self
    rcases m with m | m | m
    · split at m
      · cases m
      · rw [List.mem_singleton] at m
        subst m
        exact hp
    · split at m
      · cases m
      · rw [List.mem_singleton] at m
        subst m
        exact ⟨hp.2, hp.1⟩
    · exact stepsOf_mem (k + 1) ps cs n (fun q mq => h q (List.mem_cons_of_mem _ mq)) s m
theorem rep_flat (n : Nat) (x : D) : (List.replicate n [x]).flatten = List.replicate n x := by
  induction n with
  | zero => rfl
  | succ n ih => simp [List.replicate_succ, ih]
theorem purs_none (n : Nat) : purs (List.replicate n PyData.none) = true := by
  induction n with
  | zero => rfl
  | succ n ih => simp [List.replicate_succ, purs, pur, ih]
def plsOk (n : Nat) (ps : List Pl) : Prop := n ≤ 1000 ∧ ps.length ≤ 1000 ∧ ∀ p ∈ ps, p.i < n ∧ p.j < n
theorem rp_run {T : List Fd} {i j : Nat} {fd fe : Fd} (h : T[i]? = some fd) (hb : fd.body = ssBody) (hn : fd.nparams = 2) (hm : fd.mode = .plain) (hs : fd.nslots = 8) (h' : T[j]? = some fe) (hb' : fe.body = rpBody i) (hn' : fe.nparams = 2) (hm' : fe.mode = .plain) (hs' : fe.nslots = 15) (k n : Nat) (ps : List Pl) (cs : List Nat) (ok : plsOk n ps) :
    run T (k + 2) j none [cutD n ps, .str ⟨⟨cs⟩⟩] = some (potD n ps cs, none) := by
  obtain ⟨o1, o2, o3⟩ := ok
  have e := ss_run h hb hn hm hs k n ps cs o2
  rw [run_at (d := fe) h' ⟨by simp [hn'], by simp [hm', modeOk], by omega⟩]
  generalize run T (k + 1) = C at *
  have s0 : startRo fe none [cutD n ps, .str ⟨⟨cs⟩⟩] = [.pur (cutD n ps), .pur (.str ⟨⟨cs⟩⟩), .emp, .emp, .emp, .emp, .emp, .emp, .emp] ++ rpT none := by
    simp [startRo, hm', bindS, hs', hn', bind1, pur_cut, pur, List.replicate, rpT]
  rw [s0, hb']
  have c0 : ixD (cutD n ps) (.int 0) = some (.int n) := rfl
  have l1 : (n : Int) < 1000000 := by omega
  have l2 : -1000000 < (n : Int) := by omega
  have l3 : n ≤ 1000000 := by omega
  have x1 : exec C (.par [4, 5] (.cons (.ix (.var 0) (.int 0)) (.cons (.bin .Add (.ix (.var 0) (.int 0)) (.int 1)) .nil))) ([.pur (cutD n ps), .pur (.str ⟨⟨cs⟩⟩), .emp, .emp, .emp, .emp, .emp, .emp, .emp] ++ rpT none) = some (.nx ([.pur (cutD n ps), .pur (.str ⟨⟨cs⟩⟩), .emp, .emp, .pur (.int n), .pur (.int ((n : Int) + 1)), .emp, .emp, .emp] ++ rpT none)) := by
    simp [exec, ev, evs, gv, c0, okSt, effE, effs, pur, noScr, binop, settles, settle, bindNs, bindV, noByr, rpT]
  have x2 : exec C (.par [6, 7, 8] (.cons (.bin .Mult (.lst (.cons (.int 0) .nil)) (.var 4)) (.cons (.bin .Mult (.lst (.cons .non .nil)) (.var 4)) (.cons (.fcall i (.cons (.var 0) (.cons (.var 1) .nil))) .nil)))) ([.pur (cutD n ps), .pur (.str ⟨⟨cs⟩⟩), .emp, .emp, .pur (.int n), .pur (.int ((n : Int) + 1)), .emp, .emp, .emp] ++ rpT none) = some (.nx ([.pur (cutD n ps), .pur (.str ⟨⟨cs⟩⟩), .emp, .emp, .pur (.int n), .pur (.int ((n : Int) + 1)), .own (.list (List.replicate n (.int 0))), .own (.list (List.replicate n .none)), .own (.list ((stepsOf 0 ps cs).map Sp.d))] ++ rpT none)) := by
    simp [exec, ev, evs, gv, okSt, effE, effs, tks, tkE, pur, purs, noScr, binop, settles, settle, lim, l1, l2, l3, rep_flat, e, bindNs, bindV, noByr, rpT]
  have x3 : exec C (.asg (.nm 2) .non) ([.pur (cutD n ps), .pur (.str ⟨⟨cs⟩⟩), .emp, .emp, .pur (.int n), .pur (.int ((n : Int) + 1)), .own (.list (List.replicate n (.int 0))), .own (.list (List.replicate n .none)), .own (.list ((stepsOf 0 ps cs).map Sp.d))] ++ rpT none) = some (.nx (rpRo (cutD n ps) (.str ⟨⟨cs⟩⟩) (rxIni n).mv .emp n ((n : Int) + 1) (rxIni n).low (rxIni n).last (stepsOf 0 ps cs) none)) := by
    simp [exec, ev, settleA, settle, bindV, noByr, pur, rpRo, mvD, rxIni, rpT]
  obtain ⟨ρ', x4, x5⟩ := rp_laps C (cutD n ps) (.str ⟨⟨cs⟩⟩) n ((n : Int) + 1) (by omega) (stepsOf 0 ps cs) (stepsOf_mem 0 ps cs n o3) ((List.range (n + 1)).map fun (i : Nat) => (0 : Int) + (i : Int)) (rxIni n) ⟨by simp [rxIni], by simp [rxIni], purs_none n⟩ .emp (fun d z => nomatch z) none
  have ei : evI C (.rng1 (.bin .Add (.var 4) (.int 1))) (rpRo (cutD n ps) (.str ⟨⟨cs⟩⟩) (rxIni n).mv .emp n ((n : Int) + 1) (rxIni n).low (rxIni n).last (stepsOf 0 ps cs) none) = some (((List.range (n + 1)).map fun (i : Nat) => (0 : Int) + (i : Int)).map .int, [], rpRo (cutD n ps) (.str ⟨⟨cs⟩⟩) (rxIni n).mv .emp n ((n : Int) + 1) (rxIni n).low (rxIni n).last (stepsOf 0 ps cs) none) := by
    have c : (n : Int) + 1 < 1000000 ∧ -1000000 < (n : Int) + 1 := by omega
    have c2 : ((n : Int) + 1).toNat = n + 1 := by omega
    simp [evI, ev, gv, rpRo, okSt, effE, noScr, binop, lim, c, c2, rangeD]
  have x6 := (x_for (C := C) (b := rpOut) (turn := fun x ρ => (bindV (.nm 3) x .froz ρ).bind (execs C rpOut)) ei rfl fun _ _ => rfl).trans x4
  have x7 : execs C (rpBody i) ([.pur (cutD n ps), .pur (.str ⟨⟨cs⟩⟩), .emp, .emp, .emp, .emp, .emp, .emp, .emp] ++ rpT none) = execs C (.cons (.for (.nm 3) (.rng1 (.bin .Add (.var 4) (.int 1))) rpOut) (.cons (.ret (.tup (.cons .non (.cons (.mov 7) (.cons (.mov 2) .nil))))) .nil)) (rpRo (cutD n ps) (.str ⟨⟨cs⟩⟩) (rxIni n).mv .emp n ((n : Int) + 1) (rxIni n).low (rxIni n).last (stepsOf 0 ps cs) none) := (x_cons x1).trans ((x_cons x2).trans (x_cons x3))
  rw [x7]
  have ln : ((List.range (n + 1)).map fun (i : Nat) => (0 : Int) + (i : Int)).length = n + 1 := by simp
  rw [ln] at x6 x5
  have pd : potR n ps cs = rounds ((n : Int) + 1) (stepsOf 0 ps cs) (n + 1) (rxIni n) := rfl
  unfold potD
  rw [pd]
  generalize rounds ((n : Int) + 1) (stepsOf 0 ps cs) (n + 1) (rxIni n) = q at *
  obtain ⟨r, b⟩ := q
  cases b with
  | true =>
    rw [x_last x6]
    rfl
  | false =>
    obtain ⟨s3', t', rfl⟩ := x5 rfl
    rw [x_cons x6]
    simp [execs, exec, ev, evs, rpRo, okSt, effE, effs, settles, settle, lim, finish]
def rcBody (j : Nat) : ISs :=
    (.cons (.ret (.cmp .IsNot (.ix (.fcall j (.cons (.var 0) (.cons (.var 1) .nil))) (.int 0)) .non))
    .nil)
theorem rc_run {T : List Fd} {i j l : Nat} {fd fe fc : Fd} (h : T[i]? = some fd) (hb : fd.body = ssBody) (hn : fd.nparams = 2) (hm : fd.mode = .plain) (hs : fd.nslots = 8) (h' : T[j]? = some fe) (hb' : fe.body = rpBody i) (hn' : fe.nparams = 2) (hm' : fe.mode = .plain) (hs' : fe.nslots = 15)
    (hc : T[l]? = some fc) (bc : fc.body = rcBody j) (nc : fc.nparams = 2) (mc : fc.mode = .plain) (sc : fc.nslots = 2) (k n : Nat) (ps : List Pl) (cs : List Nat) (ok : plsOk n ps) :
    run T (k + 3) l none [cutD n ps, .str ⟨⟨cs⟩⟩] = some (.bool (canB n ps cs), none) := by
  have e := rp_run h hb hn hm hs h' hb' hn' hm' hs' k n ps cs ok
  rw [run_at (d := fc) hc ⟨by simp [nc], by simp [mc, modeOk], by omega⟩]
  generalize run T (k + 2) = C at *
  have s0 : startRo fc none [cutD n ps, .str ⟨⟨cs⟩⟩] = [.pur (cutD n ps), .pur (.str ⟨⟨cs⟩⟩)] := by
    simp [startRo, mc, bindS, sc, nc, bind1, pur_cut, pur]
  rw [s0, bc]
  unfold canB
  unfold potD at e
  generalize potR n ps cs = q at *
  obtain ⟨r, b⟩ := q
  cases b with
  | true =>
    simp only at e
    simp [rcBody, execs, exec, ev, evs, gv, okSt, effE, effs, noScr, e, ixD, pixN, pur, cmpop, isNone, settle, finish]
  | false =>
    simp only at e
    simp [rcBody, execs, exec, ev, evs, gv, okSt, effE, effs, noScr, e, ixD, pixN, pur, cmpop, isNone, settle, finish]
end Zr

set_option maxRecDepth 100000
set_option maxHeartbeats 4000000
/-! ZyJ: the fast evaluator with calls whose answers are known (jets). -/
namespace Zr
open PySem
abbrev Jets := Nat → Option D → List D → Option (D × Option D)
def JetsOk (T : List Fd) (m : Nat) (J : Jets) : Prop := ∀ k f r ds v, J f r ds = some v → run T (k + m) f r ds = some v
noncomputable def runJ (T : List Fd) (J : Jets) (m : Nat) : Nat → CallF := fun n => Nat.rec (motive := fun _ => CallF) (run T m) (fun _ C f r ds => match J f r ds with
  | some v => some v
  | none => match nthL T f with
    | some fd => if (if r.isSome then 1 else 0) + ds.length = fd.nparams ∧ modeOk fd.mode r = true ∧ fd.nparams ≤ fd.nslots then finish r (fcRo (startRo fd r ds) (fxs C fd.body)) else none
    | none => none) n
theorem runJ_eq {T : List Fd} {J : Jets} {m : Nat} (h : JetsOk T m J) : ∀ n, runJ T J m n = run T (n + m)
  | 0 => by
    rw [Nat.zero_add]
    rfl
  | n + 1 => by
    funext f r ds
    have e : n + 1 + m = (n + m) + 1 := by omega
    show (match J f r ds with
      | some v => some v
      | none => match nthL T f with
        | some fd => if (if r.isSome then 1 else 0) + ds.length = fd.nparams ∧ modeOk fd.mode r = true ∧ fd.nparams ≤ fd.nslots then finish r (fcRo (startRo fd r ds) (fxs (runJ T J m n) fd.body)) else none
        | none => none) = _
    cases hj : J f r ds with
    | some v => exact (h (n + 1) f r ds v hj).symm
    | none =>
      rw [runJ_eq h n, nthL_eq, e]
      simp only [run, fxs_eq, fcRo_eq] <;> rfl
theorem jet_of {T : List Fd} {J : Jets} {m n f : Nat} {ds : List D} {d : D} (h : JetsOk T m J) (e : ∀ k, isOutN (runJ T J m (k + n) f none ds) d = true) : ∀ k, run T (k + (n + m)) f none ds = some (d, none) := by
  intro k
  have := isOutN_eq (e k)
  rw [runJ_eq h (k + n)] at this
  rw [show k + (n + m) = k + n + m by omega]
  exact this
/-- no jets -/
def jNo : Jets := fun _ _ _ => none
theorem jNo_ok (T : List Fd) (m : Nat) : JetsOk T m jNo := fun _ _ _ _ _ h => nomatch h
/-- answers known at one tuple of arguments each -/
def fitD (ds es : List D) : Bool := match ds, es with
  | [], [] => true
  | d :: ds, e :: es => deq d e && fitD ds es
  | _, _ => false
theorem fitD_eq : ∀ {ds es : List D}, fitD ds es = true → ds = es
  | [], [], _ => rfl
  | [], _ :: _, h => nomatch h
  | _ :: _, [], h => nomatch h
  | d :: ds, e :: es, h => by
    simp only [fitD, Bool.and_eq_true] at h
    rw [deq_eq h.1, fitD_eq h.2]
def jTab (i : Nat) (tab : List (List D × D)) (J : Jets) : Jets := fun f r ds => match Nat.beq f i, r with
  | true, none => match tab.find? fun p => fitD ds p.1 with
    | some p => some (p.2, none)
    | none => J f r ds
  | _, _ => J f r ds
theorem JetsOk.up {T : List Fd} {m n : Nat} {J : Jets} (h : JetsOk T m J) (l : m ≤ n) : JetsOk T n J := fun k f r ds v e => by
  have := h (k + (n - m)) f r ds v e
  rw [show k + (n - m) + m = k + n by omega] at this
  exact this
theorem jTab_ok {T : List Fd} {m i : Nat} {tab : List (List D × D)} {J : Jets} (h : JetsOk T m J) (ht : ∀ p ∈ tab, ∀ k, run T (k + m) i none p.1 = some (p.2, none)) : JetsOk T m (jTab i tab J) := fun k f r ds v e => by
  unfold jTab at e
  cases hf : Nat.beq f i with
  | false =>
    rw [hf] at e
    exact h k _ _ _ v e
  | true =>
    rw [hf] at e
    have hf := Nat.eq_of_beq_eq_true hf
    subst hf
    cases r with
    | some c => exact h k _ _ _ v e
    | none =>
      simp only at e
      split at e
      · rename_i p hp
        have hp1 := List.find?_some hp
        have hp2 := List.mem_of_find?_eq_some hp
        have := ht p hp2 k
        rw [fitD_eq hp1, this]
        exact e
      · exact h k _ _ _ v e
/-! ### raw_can, fast -/
structure KS where
  s : Nat
  g : Nat
  p : Nat
  q : Nat
def KS.of (w : Nat) (x : Sp) : KS := ⟨x.s, x.g, w * x.a.toNat + (if x.m then 1 else 0), w * (-x.a).toNat⟩
noncomputable def getN : List Nat → Nat → Nat := fun l => List.rec (motive := fun _ => Nat → Nat) (fun _ => 0) (fun x _ ih n => Nat.rec (motive := fun _ => Nat) x (fun m _ => ih m) n) l
theorem getN_eq : ∀ (l : List Nat) (i : Nat), getN l i = l.getD i 0
  | [], i => rfl
  | x :: r, 0 => rfl
  | x :: r, i + 1 => by
    have h : getN (x :: r) (i + 1) = getN r i := rfl
    rw [h, getN_eq r i]
    rfl
noncomputable def lapK {β : Type} : List KS → List Nat → Bool → (List Nat → Bool → β) → β := fun l => List.rec (motive := fun _ => List Nat → Bool → (List Nat → Bool → β) → β) (fun h mv k => k h mv) (fun x _ ih h mv k => fcN (getN h x.s + x.p) fun a => Bool.rec (motive := fun _ => β) (ih h mv k) (fcN (Nat.sub a x.q) fun v => ih (setF h x.g v) true k) (Nat.ble (Nat.succ (getN h x.g + x.q)) a)) l
noncomputable def lapsK (ks : List KS) : Nat → List Nat → Bool := fun t => Nat.rec (motive := fun _ => List Nat → Bool) (fun _ => false) (fun _ ih h => lapK ks h false fun h' mv => Bool.rec (motive := fun _ => Bool) true (ih h') mv) t
noncomputable def fcKs {β : Type} : List KS → (List KS → β) → β := fun l => List.rec (motive := fun _ => (List KS → β) → β) (fun k => k []) (fun x _ ih k => fcN x.s fun s => fcN x.g fun g => fcN x.p fun p => fcN x.q fun q => ih fun r => k (⟨s, g, p, q⟩ :: r)) l
theorem fcKs_eq {β : Type} : ∀ (l : List KS) (k : List KS → β), fcKs l k = k l
  | [], k => rfl
  | x :: r, k => by
    show fcN x.s (fun s => fcN x.g fun g => fcN x.p fun p => fcN x.q fun q => fcKs r fun r => k (⟨s, g, p, q⟩ :: r)) = _
    simp only [fcN_eq, fcKs_eq r]
noncomputable def canK (n : Nat) (ps : List Pl) (cs : List Nat) : Bool := fcKs ((stepsOf 0 ps cs).map (KS.of (n + 1))) fun ks => lapsK ks (n + 1) (List.replicate n 0)
def negs (h : List Nat) : List Int := h.map fun (n : Nat) => -(n : Int)
theorem negs_get (h : List Nat) (i : Nat) : (negs h).getD i 0 = -((h.getD i 0 : Nat) : Int) := by
  unfold negs
  simp only [List.getD_eq_getElem?_getD, List.getElem?_map]
  cases h[i]? <;> simp
theorem relaxK (w : Nat) (s : Rx) (h : List Nat) (e : s.low = negs h) (x : Sp) : (relax w s x).low = negs (if Nat.ble (Nat.succ (getN h (KS.of w x).g + (KS.of w x).q)) (getN h (KS.of w x).s + (KS.of w x).p) then setF h (KS.of w x).g (Nat.sub (getN h (KS.of w x).s + (KS.of w x).p) (KS.of w x).q) else h) ∧ (relax w s x).mv.isSome = (Nat.ble (Nat.succ (getN h (KS.of w x).g + (KS.of w x).q)) (getN h (KS.of w x).s + (KS.of w x).p) || s.mv.isSome) := by
  rw [ble_lt]
  simp only [KS.of, getN_eq, setF_eq, relax, e, negs_get]
  have e1 : (w : Int) * x.a = ((w * x.a.toNat : Nat) : Int) - ((w * (-x.a).toNat : Nat) : Int) := by
    rcases Int.le_total 0 x.a with z | z
    · have a1 : ((x.a.toNat : Nat) : Int) = x.a := Int.toNat_of_nonneg z
      have a2 : (-x.a).toNat = 0 := by omega
      rw [a2, Nat.mul_zero, Int.natCast_mul, a1]
      simp
    · have a1 : (((-x.a).toNat : Nat) : Int) = -x.a := Int.toNat_of_nonneg (by omega)
      have a2 : x.a.toNat = 0 := by omega
      rw [a2, Nat.mul_zero, Int.natCast_mul, a1, Int.mul_neg]
      simp
  have e2 : (if x.m = true then (1 : Int) else 0) = (((if x.m then 1 else 0) : Nat) : Int) := by cases x.m <;> rfl
  rw [e1, e2]
  generalize w * x.a.toNat = P
  generalize w * (-x.a).toNat = Q
  generalize (if x.m then 1 else 0 : Nat) = M
  generalize hA : h.getD x.s 0 = A
  generalize hB : h.getD x.g 0 = B
  by_cases c : B + Q < A + (P + M)
  · have c1 : -(A : Int) - ((P : Int) - (Q : Int)) - (M : Int) < -(B : Int) := by omega
    rw [if_pos c1, if_pos (decide_eq_true c)]
    refine ⟨?_, by simp [c]⟩
    simp only [negs, List.map_set]
    congr 1
    show _ = -(((A + (P + M)) - Q : Nat) : Int)
    omega
  · have c1 : ¬ -(A : Int) - ((P : Int) - (Q : Int)) - (M : Int) < -(B : Int) := by omega
    rw [if_neg c1, if_neg (by simp [c])]
    exact ⟨e, by simp [c]⟩
theorem lapK_eq (w : Nat) : ∀ (sp : List Sp) (s : Rx) (h : List Nat), s.low = negs h → ∃ h', (sp.foldl (relax w) s).low = negs h' ∧ ∀ {β : Type} (k : List Nat → Bool → β), lapK (sp.map (KS.of w)) h s.mv.isSome k = k h' (sp.foldl (relax w) s).mv.isSome
  | [], s, h, e => ⟨h, e, fun k => rfl⟩
  | x :: sp, s, h, e => by
    obtain ⟨e1, e2⟩ := relaxK w s h e x
    obtain ⟨h', a1, a2⟩ := lapK_eq w sp (relax w s x) _ e1
    refine ⟨h', a1, fun {β} k => ?_⟩
    rw [List.foldl_cons, ← a2 k, e2]
    show fcN (getN h (KS.of w x).s + (KS.of w x).p) (fun a => Bool.rec (motive := fun _ => β) (lapK (sp.map (KS.of w)) h s.mv.isSome k) (fcN (Nat.sub a (KS.of w x).q) fun v => lapK (sp.map (KS.of w)) (setF h (KS.of w x).g v) true k) (Nat.ble (Nat.succ (getN h (KS.of w x).g + (KS.of w x).q)) a)) = _
    rw [fcN_eq]
    cases Nat.ble (Nat.succ (getN h (KS.of w x).g + (KS.of w x).q)) (getN h (KS.of w x).s + (KS.of w x).p) with
    | true =>
      rw [if_pos rfl]
      show fcN _ _ = _
      rw [fcN_eq]
      rfl
    | false => rfl
theorem lapsK_eq (w : Nat) (sp : List Sp) : ∀ (t : Nat) (s : Rx) (h : List Nat), s.low = negs h → lapsK (sp.map (KS.of w)) t h = (rounds w sp t s).2
  | 0, s, h, e => rfl
  | t + 1, s, h, e => by
    obtain ⟨h', a1, a2⟩ := lapK_eq w sp ⟨s.low, s.last, none⟩ h e
    show lapK (sp.map (KS.of w)) h false (fun h' mv => Bool.rec (motive := fun _ => Bool) true (lapsK (sp.map (KS.of w)) t h') mv) = _
    have a3 := a2 (fun h' mv => Bool.rec (motive := fun _ => Bool) true (lapsK (sp.map (KS.of w)) t h') mv)
    refine (show _ = _ from a3).trans ?_
    simp only [rounds]
    have ih := lapsK_eq w sp t (sp.foldl (relax w) ⟨s.low, s.last, none⟩) h' a1
    generalize sp.foldl (relax w) ⟨s.low, s.last, none⟩ = r at *
    cases hm : r.mv with
    | none => rfl
    | some m => exact ih
theorem canK_eq (n : Nat) (ps : List Pl) (cs : List Nat) : canK n ps cs = canB n ps cs := by
  unfold canK canB potR
  rw [fcKs_eq]
  have := lapsK_eq (n + 1) (stepsOf 0 ps cs) (n + 1) (rxIni n) (List.replicate n 0) (by simp [rxIni, negs])
  rw [this]
  rfl
def rdPl : D → Option Pl
  | .tuple [.int (.ofNat i), .int (.ofNat j), .int a] => some ⟨i, j, a⟩
  | _ => none
def rdPls : List D → Option (List Pl)
  | [] => some []
  | d :: r => match rdPl d with
    | some p => match rdPls r with
      | some ps => some (p :: ps)
      | none => none
    | none => none
theorem rdPl_eq {d : D} {p : Pl} (h : rdPl d = some p) : d = p.d := by
  unfold rdPl at h
  split at h
  · cases h
    rfl
  · cases h
theorem rdPls_eq : ∀ {ds : List D} {ps : List Pl}, rdPls ds = some ps → ds = ps.map Pl.d
  | [], ps, h => by
    cases h
    rfl
  | d :: r, ps, h => by
    unfold rdPls at h
    split at h
    · rename_i p hp
      split at h
      · rename_i qs hq
        cases h
        rw [rdPl_eq hp, rdPls_eq hq]
        rfl
      · cases h
    · cases h
def plsOkB (n : Nat) (ps : List Pl) : Bool := Nat.ble n 1000 && Nat.ble ps.length 1000 && ps.all fun p => Nat.ble (Nat.succ p.i) n && Nat.ble (Nat.succ p.j) n
theorem plsOkB_eq {n : Nat} {ps : List Pl} (h : plsOkB n ps = true) : plsOk n ps := by
  simp only [plsOkB, Bool.and_eq_true, Nat.ble_eq, List.all_eq_true] at h
  exact ⟨h.1.1, h.1.2, fun p m => h.2 p m⟩
noncomputable def canJet : List D → Option (D × Option D)
  | [.tuple [.int (.ofNat n), .tuple ps], .str ⟨⟨cs⟩⟩] => match rdPls ps with
    | some pl => match plsOkB n pl with
      | true => some (.bool (canK n pl cs), none)
      | false => none
    | none => none
  | _ => none
theorem canJet_eq {ds : List D} {v : D × Option D} (h : canJet ds = some v) : ∃ n ps cs, ds = [cutD n ps, .str ⟨⟨cs⟩⟩] ∧ plsOk n ps ∧ v = (.bool (canB n ps cs), none) := by
  unfold canJet at h
  split at h
  · rename_i n ps cs
    split at h
    · rename_i pl hp
      split at h
      · rename_i ho
        cases h
        refine ⟨n, pl, cs, ?_, plsOkB_eq ho, by rw [canK_eq]⟩
        rw [rdPls_eq hp]
        rfl
      · cases h
    · cases h
  · cases h
noncomputable def jCan (i : Nat) (J : Jets) : Jets := fun f r ds => match Nat.beq f i, r with
  | true, none => match canJet ds with
    | some v => some v
    | none => J f r ds
  | _, _ => J f r ds
theorem jCan_ok {T : List Fd} {m i : Nat} {J : Jets} (h : JetsOk T m J) (hc : ∀ k n ps cs, plsOk n ps → run T (k + m) i none [cutD n ps, .str ⟨⟨cs⟩⟩] = some (.bool (canB n ps cs), none)) : JetsOk T m (jCan i J) := fun k f r ds v e => by
  unfold jCan at e
  cases hf : Nat.beq f i with
  | false =>
    rw [hf] at e
    exact h k _ _ _ v e
  | true =>
    rw [hf] at e
    have hf := Nat.eq_of_beq_eq_true hf
    subst hf
    cases r with
    | some c => exact h k _ _ _ v e
    | none =>
      simp only at e
      split at e
      · rename_i w hw
        cases e
        obtain ⟨n, ps, cs, rfl, ok, rfl⟩ := canJet_eq hw
        exact hc k n ps cs ok
      · exact h k _ _ _ v e
/-- one answer known -/
def jOne (i : Nat) (args : List D) (d : D) (J : Jets) : Jets := fun f r ds => match Nat.beq f i, r with
  | true, none => match fitD ds args with
    | true => some (d, none)
    | false => J f r ds
  | _, _ => J f r ds
theorem jOne_ok {T : List Fd} {m i : Nat} {args : List D} {d : D} {J : Jets} (h : JetsOk T m J) (e1 : ∀ k, run T (k + m) i none args = some (d, none)) : JetsOk T m (jOne i args d J) := fun k f r ds v e => by
  unfold jOne at e
  cases hf : Nat.beq f i with
  | false =>
    rw [hf] at e
    exact h k _ _ _ v e
  | true =>
    rw [hf] at e
    have hf := Nat.eq_of_beq_eq_true hf
    subst hf
    cases r with
    | some c => exact h k _ _ _ v e
    | none =>
      simp only at e
      cases hp : fitD ds args with
      | false =>
        rw [hp] at e
        exact h k _ _ _ v e
      | true =>
        rw [hp] at e
        cases e
        rw [fitD_eq hp]
        exact e1 k
/-! ### a body in two parts -/
def catS : ISs → ISs → ISs
  | .nil, b => b
  | .cons s r, b => .cons s (catS r b)
theorem execs_cat (C : CallF) : ∀ (a b : ISs) (ρ : Ro), execs C (catS a b) ρ = match execs C a ρ with
    | some (.nx ρ1) => execs C b ρ1
    | r => r
  | .nil, b, ρ => rfl
  | .cons s r, b, ρ => by
    simp only [catS, execs]
    cases exec C s ρ with
    | none => rfl
    | some o =>
      cases o with
      | nx ρ1 => exact execs_cat C r b ρ1
      | rt d ρ1 => rfl
theorem execs_cat_nx {C : CallF} {a b : ISs} {ρ ρ1 : Ro} (h : execs C a ρ = some (.nx ρ1)) : execs C (catS a b) ρ = execs C b ρ1 := by
  rw [execs_cat, h]
/-- the first n statements, the others -/
def hdS : Nat → ISs → ISs
  | 0, _ => .nil
  | _, .nil => .nil
  | n + 1, .cons s r => .cons s (hdS n r)
def tlS : Nat → ISs → ISs
  | 0, r => r
  | _, .nil => .nil
  | n + 1, .cons _ r => tlS n r
theorem cat_hd : ∀ (n : Nat) (b : ISs), catS (hdS n b) (tlS n b) = b
  | 0, b => rfl
  | _ + 1, .nil => rfl
  | n + 1, .cons s r => by
    show ISs.cons s (catS (hdS n r) (tlS n r)) = _
    rw [cat_hd n r]
theorem execs_hd {C : CallF} (n : Nat) {b : ISs} {ρ ρ1 : Ro} (h : execs C (hdS n b) ρ = some (.nx ρ1)) : execs C b ρ = execs C (tlS n b) ρ1 := by
  have := execs_cat_nx (b := tlS n b) h
  rw [cat_hd] at this
  exact this
def eqSl : Slot → Slot → Bool
  | .emp, .emp => true
  | .pur a, .pur b => deq a b
  | .own a, .own b => deq a b
  | .byr a, .byr b => deq a b
  | .bor a, .bor b => deq a b
  | .scr a, .scr b => deq a b
  | _, _ => false
theorem eqSl_eq {a b : Slot} (h : eqSl a b = true) : a = b := by
  cases a <;> cases b <;> first | rfl | exact congrArg _ (deq_eq h) | exact nomatch h
def eqRo : Ro → Ro → Bool
  | [], [] => true
  | a :: r, b :: s => eqSl a b && eqRo r s
  | _, _ => false
theorem eqRo_eq : ∀ {r s : Ro}, eqRo r s = true → r = s
  | [], [], _ => rfl
  | [], _ :: _, h => nomatch h
  | _ :: _, [], h => nomatch h
  | a :: r, b :: s, h => by
    simp only [eqRo, Bool.and_eq_true] at h
    rw [eqSl_eq h.1, eqRo_eq h.2]
/-- the first slot stays as it is: what it holds -/
def okPre (r : Option Out) (e : Ro) : Option D := match r with
  | some (.nx (.byr d :: ρ)) => match eqRo ρ e with
    | true => some d
    | false => none
  | _ => none
theorem okPre_eq {r : Option Out} {e : Ro} {d : D} (h : okPre r e = some d) : r = some (.nx (.byr d :: e)) := by
  unfold okPre at h
  split at h
  · split at h
    · rename_i c
      cases h
      rw [eqRo_eq c]
    · cases h
  · cases h
def okRet (r : Option Out) : Option D := match r with
  | some (.rt (.bool true) (.byr d :: _)) => some d
  | _ => none
theorem okRet_eq {r : Option Out} {d : D} (h : okRet r = some d) : ∃ ρ, r = some (.rt (.bool true) (.byr d :: ρ)) := by
  unfold okRet at h
  split at h
  · cases h
    exact ⟨_, rfl⟩
  · cases h
theorem fxs_runJ {T : List Fd} {J : Jets} {m : Nat} (h : JetsOk T m J) (n : Nat) (b : ISs) (ρ : Ro) : fxs (runJ T J m n) b ρ = execs (run T (n + m)) b ρ := by
  rw [fxs_eq, runJ_eq h]
theorem map_rep {α : Type} {f : Nat → α} {n : Nat} {x : α} (h : (List.range n).map f = List.replicate n x) (i : Nat) (hi : i < n) : f i = x := by
  have := congrArg (fun l => l[i]?) h
  simpa [hi] using this
/-- answers known at one thing and many texts -/
def eqNs : List Nat → List Nat → Bool
  | [], [] => true
  | x :: r, y :: s => match Nat.beq x y with
    | true => eqNs r s
    | false => false
  | _, _ => false
theorem eqNs_eq : ∀ {a b : List Nat}, eqNs a b = true → a = b
  | [], [], _ => rfl
  | [], _ :: _, h => nomatch h
  | _ :: _, [], h => nomatch h
  | x :: r, y :: s, h => by
    unfold eqNs at h
    cases e : Nat.beq x y with
    | false =>
      rw [e] at h
      cases h
    | true =>
      rw [e] at h
      rw [Nat.eq_of_beq_eq_true e, eqNs_eq h]
def findN (cs : List Nat) : List (List Nat × D) → Option D
  | [] => none
  | (k, d) :: r => match eqNs k cs with
    | true => some d
    | false => findN cs r
theorem findN_mem {cs : List Nat} {d : D} : ∀ {tab : List (List Nat × D)}, findN cs tab = some d → (cs, d) ∈ tab
  | (k, e) :: r, h => by
    unfold findN at h
    cases q : eqNs k cs with
    | true =>
      rw [q] at h
      cases h
      rw [eqNs_eq q]
      exact List.mem_cons_self
    | false =>
      rw [q] at h
      exact List.mem_cons_of_mem _ (findN_mem h)
def jTxt (i : Nat) (c : D) (tab : List (List Nat × D)) (J : Jets) : Jets := fun f r ds => match Nat.beq f i, r with
  | true, none => match ds with
    | [a, .str ⟨⟨cs⟩⟩] => match findN cs tab with
      | some d => match deq a c with
        | true => some (d, none)
        | false => J f r ds
      | none => J f r ds
    | _ => J f r ds
  | _, _ => J f r ds
theorem jTxt_ok {T : List Fd} {m i : Nat} {c : D} {tab : List (List Nat × D)} {J : Jets} (h : JetsOk T m J) (ht : ∀ p ∈ tab, ∀ k, run T (k + m) i none [c, .str ⟨⟨p.1⟩⟩] = some (p.2, none)) : JetsOk T m (jTxt i c tab J) := fun k f r ds v e => by
  unfold jTxt at e
  cases hf : Nat.beq f i with
  | false =>
    rw [hf] at e
    exact h k _ _ _ v e
  | true =>
    rw [hf] at e
    have hf := Nat.eq_of_beq_eq_true hf
    subst hf
    cases r with
    | some c => exact h k _ _ _ v e
    | none =>
      simp only at e
      split at e
      · split at e
        · rename_i d hd
          split at e
          · rename_i hq
            cases e
            rw [deq_eq hq]
            exact ht _ (findN_mem hd) k
          · exact h k _ _ _ v e
        · exact h k _ _ _ v e
      · exact h k _ _ _ v e
/-- many answers at once, by the kernel -/
theorem jets_all {T : List Fd} {J : Jets} {m n f : Nat} {c : D} {tab : List (List Nat × D)} (h : JetsOk T m J) (e : ∀ k, (tab.all fun p => isOutN (runJ T J m (k + n) f none [c, .str ⟨⟨p.1⟩⟩]) p.2) = true) : ∀ p ∈ tab, ∀ k, run T (k + (n + m)) f none [c, .str ⟨⟨p.1⟩⟩] = some (p.2, none) := fun p hp k => by
  have := isOutN_eq (List.all_eq_true.mp (e k) p hp)
  rw [runJ_eq h (k + n)] at this
  rw [show k + (n + m) = k + n + m by omega]
  exact this
end Zr

set_option maxRecDepth 100000
set_option maxHeartbeats 4000000
/-! ZyC: products of rows of terms walked; division by a root; whole roots. -/
namespace Zr
open PySem
/-- pointwise: v and a times b -/
def addS (a : Int) : List Int → List Int → List Int
  | x :: v, y :: b => (x + a * y) :: addS a v b
  | v, _ => v
theorem addS_len (a : Int) : ∀ (v b : List Int), (addS a v b).length = v.length
  | [], b => by cases b <;> rfl
  | x :: v, [] => rfl
  | x :: v, y :: b => by simp [addS, addS_len a v b]
/-- the product of two rows, by a window -/
def conv (b : List Int) : List Int → List Int → List Int
  | w, [] => w
  | w, a :: as => match addS a (w ++ [0]) b with
    | [] => []
    | x :: v => x :: conv b v as
def tupI (xs : List Int) : D := .tuple (xs.map .int)
theorem enumD_map (j : Nat) : ∀ (b : List Int), enumD j (b.map .int) = (List.range b.length).map (fun i => .tuple [.int ((j + i : Nat) : Int), .int (b.getD i 0)]) := by
  intro b
  induction b generalizing j with
  | nil => rfl
  | cons y b ih =>
    simp only [List.map_cons, enumD, ih (j + 1), List.length_cons, List.range_succ_eq_map, List.map_map]
    refine congr (congrArg _ rfl) ?_
    refine List.map_congr_left fun i _ => ?_
    have : j + 1 + i = j + (i + 1) := by omega
    simp [this]
/-- an inner loop: what one turn does, given -/
theorem inner_go {turn : D → Ro → Option Out} (R : List Int → D → D → Ro) (i : Nat) (a : Int) (ht : ∀ (j : Nat) (y : Int) (f : List Int) (p q : D), i + j < f.length → y.natAbs < 2 ^ 64 → ∃ p' q', turn (.tuple [.int (j : Int), .int y]) (R f p q) = some (.nx (R (f.set (i + j) (f.getD (i + j) 0 + a * y)) p' q'))) :
    ∀ (b v pre z : List Int) (j : Nat) (p q : D), (∀ y ∈ b, y.natAbs < 2 ^ 64) → v.length = b.length → pre.length = i + j → ∃ p' q', forGo turn (enumD j (b.map .int)) (R (pre ++ (v ++ z)) p q) = some (.nx (R (pre ++ (addS a v b ++ z)) p' q'))
  | [], [], pre, z, j, p, q, _, _, _ => ⟨p, q, rfl⟩
  | y :: b, x :: v, pre, z, j, p, q, hb, hl, hp => by
    obtain ⟨p1, q1, e1⟩ := ht j y (pre ++ (x :: v ++ z)) p q (by simp only [List.length_append, List.length_cons, hp]; omega) (hb y List.mem_cons_self)
    have g : (pre ++ (x :: v ++ z)).getD (i + j) 0 = x := by
      rw [← hp]
      simp
    have s : (pre ++ (x :: v ++ z)).set (i + j) (x + a * y) = (pre ++ [x + a * y]) ++ (v ++ z) := by
      rw [← hp]
      simp
    rw [g, s] at e1
    obtain ⟨p2, q2, e2⟩ := inner_go R i a ht b v (pre ++ [x + a * y]) z (j + 1) p1 q1 (fun y m => hb y (List.mem_cons_of_mem _ m)) (by simpa using hl) (by simp [hp]; omega)
    refine ⟨p2, q2, ?_⟩
    simp only [List.map_cons, enumD, forGo]
    rw [e1]
    simp only
    rw [e2]
    simp [addS]
/-- the outer loop -/
theorem outer_go {turn : D → Ro → Option Out} (R : List Int → D → D → D → D → Ro) (b : List Int) (ht : ∀ (i : Nat) (a : Int) (pre v z : List Int) (p q s t : D), pre.length = i → v.length = b.length → ∃ p' q' s' t', turn (.tuple [.int (i : Int), .int a]) (R (pre ++ (v ++ z)) p q s t) = some (.nx (R (pre ++ (addS a v b ++ z)) p' q' s' t'))) (hb : 0 < b.length) :
    ∀ (as w pre : List Int) (i : Nat) (p q s t : D), w.length + 1 = b.length → pre.length = i → ∃ p' q' s' t', forGo turn (enumD i (as.map .int)) (R (pre ++ (w ++ List.replicate as.length 0)) p q s t) = some (.nx (R (pre ++ conv b w as) p' q' s' t'))
  | [], w, pre, i, p, q, s, t, _, _ => ⟨p, q, s, t, by simp [enumD, forGo, conv]⟩
  | a :: as, w, pre, i, p, q, s, t, hw, hp => by
    obtain ⟨p1, q1, s1, t1, e1⟩ := ht i a pre (w ++ [0]) (List.replicate as.length 0) p q s t hp (by simp [hw])
    have l := addS_len a (w ++ [0]) b
    cases hv : addS a (w ++ [0]) b with
    | nil =>
      rw [hv] at l
      simp at l
    | cons x v =>
      rw [hv] at l e1
      obtain ⟨p2, q2, s2, t2, e2⟩ := outer_go R b ht hb as v (pre ++ [x]) (i + 1) p1 q1 s1 t1 (by simp at l; omega) (by simp [hp])
      refine ⟨p2, q2, s2, t2, ?_⟩
      have c : conv b w (a :: as) = x :: conv b v as := by simp [conv, hv]
      rw [c]
      simp only [List.map_cons, enumD, forGo, List.length_cons]
      have e0 : pre ++ (w ++ List.replicate (as.length + 1) 0) = pre ++ (w ++ [0] ++ List.replicate as.length 0) := by
        simp [List.replicate_succ]
      rw [e0, e1]
      simp only
      have e3 : pre ++ (x :: v ++ List.replicate as.length 0) = (pre ++ [x]) ++ (v ++ List.replicate as.length 0) := by simp
      rw [e3, e2]
      simp
theorem ix_lowI {low : List Int} {i : Nat} (h : i < low.length) : ixD (.list (low.map .int)) (.int (i : Int)) = some (.int (low.getD i 0)) := ix_low h
section
variable {C : CallF}
theorem ev_bin {op : Operator} {a b : IE} {ρ ρ1 ρ2 : Ro} {x y d : D} {sx sy : Stat} (h1 : ev C a ρ = some (x, sx, ρ1)) (h2 : ev C b ρ1 = some (y, sy, ρ2)) (h3 : (okSt sx (effE b) && noScr sx && noScr sy) = true) (h4 : binop op x y = some d) : ev C (.bin op a b) ρ = some (d, .fresh, ρ2) := by
  simp only [ev, h1, h2, h3, if_true, h4]
theorem ev_ix {a b : IE} {ρ ρ1 ρ2 : Ro} {x y d : D} {sx sy : Stat} (h1 : ev C a ρ = some (x, sx, ρ1)) (h2 : ev C b ρ1 = some (y, sy, ρ2)) (h3 : okSt sx (effE b) = true) (h4 : ixD x y = some d) (hp : pur d = true) : ev C (.ix a b) ρ = some (d, .fresh, ρ2) := by
  simp only [ev, h1, h2, h3, if_true, h4, hp]
theorem x_set {i : Nat} {k e : IE} {ρ ρ0 ρ1 ρ3 : Ro} {y : D} {sy st : Stat} {n : Int} {xs ys : List D} (h : ev C e ρ = some (y, sy, ρ0)) (hs : settle y sy ρ0 = some ρ1) (ho : (isOwn ρ1 i && !(effE k).contains i) = true) (hk : ev C k ρ1 = some (.int n, st, ρ3)) (hr : ρ3[i]? = some (.own (.list xs))) (hl : setL xs n y = some ys) : exec C (.set i k e) ρ = some (.nx (ρ3.set i (.own (.list ys)))) := by
  simp only [exec, h, hs, ho, if_true, hk, hr, hl]
theorem x_augx {i : Nat} {op : Operator} {k e : IE} {ρ ρ1 ρ2 : Ro} {st st' : Stat} {n x y z : Int} {xs ys : List D} (ho : (isOwn ρ i && !(effE k).contains i && !(effE e).contains i) = true) (hk : ev C k ρ = some (.int n, st, ρ1)) (hx : itemL ρ1 i n = some x) (he : ev C e ρ1 = some (.int y, st', ρ2)) (ha : augop op x y = some z) (hr : ρ2[i]? = some (.own (.list xs))) (hl : setL xs n (.int z) = some ys) : exec C (.augx op i k e) ρ = some (.nx (ρ2.set i (.own (.list ys)))) := by
  simp only [exec, ho, if_true, hk, hx, he, ha, hr, hl]
theorem x_last' {s : IS} {ρ ρ1 : Ro} (h : exec C s ρ = some (.nx ρ1)) : execs C (.cons s .nil) ρ = some (.nx ρ1) := by
  rw [x_cons h]
  rfl
end
/-! ### _law_times -/
def ltInner : ISs := (.cons (.set 2 (.bin .Add (.var 3) (.var 5)) (.bin .Add (.ix (.var 2) (.bin .Add (.var 3) (.var 5))) (.bin .Mult (.var 4) (.var 6))))
    .nil)
def ltOuter : ISs := (.cons (.for (.t2 (.nm 5) (.nm 6)) (.enum (.var 1)) ltInner)
    .nil)
def ltBody : ISs :=
    (.cons (.asg (.nm 2) (.bin .Mult (.lst (.cons (.int 0) .nil)) (.bin .Sub (.bin .Add (.bcall .len (.cons (.var 0) .nil)) (.bcall .len (.cons (.var 1) .nil))) (.int 1))))
    (.cons (.for (.t2 (.nm 3) (.nm 4)) (.enum (.var 0)) ltOuter)
    (.cons (.ret (.bcall .tuple (.cons (.var 2) .nil)))
    .nil)))
/-- a slot that is empty or holds something plain -/
def pe : D → Slot
  | .none => .emp
  | d => .pur d
theorem pe_int (i : Int) : pe (.int i) = .pur (.int i) := rfl
theorem bind_pe (i : Nat) (d x : D) (pre post : Ro) (st : Stat) (hs : st = .fresh ∨ st = .froz) (hx : pur x = true) (hl : pre.length = i) : bindV (.nm i) x st (pre ++ pe d :: post) = some (pre ++ .pur x :: post) := by
  have n : noByr (pre ++ pe d :: post) i = true := by
    subst hl
    simp only [noByr, List.getElem?_append_right (Nat.le_refl _), Nat.sub_self, List.getElem?_cons_zero]
    cases d <;> rfl
  have s : (pre ++ pe d :: post).set i (.pur x) = pre ++ .pur x :: post := by
    subst hl
    simp
  rcases hs with rfl | rfl <;> simp only [bindV, n, hx, if_true, s]
def cvRo (A B : D) (f : List Int) (p q s t : D) : Ro := [bind1 A, bind1 B, .own (.list (f.map .int)), pe p, pe q, pe s, pe t]
theorem lt_inner (C : CallF) (A B : D) (i : Nat) (a : Int) (j : Nat) (y : Int) (f : List Int) (p q : D) (h : i + j < f.length) (hy : y.natAbs < 2 ^ 64) :
    (bindV (.t2 (.nm 5) (.nm 6)) (.tuple [.int (j : Int), .int y]) .froz (cvRo A B f (.int i) (.int a) p q)).bind (execs C ltInner) = some (.nx (cvRo A B (f.set (i + j) (f.getD (i + j) 0 + a * y)) (.int i) (.int a) (.int j) (.int y))) := by
  have b0 : bindV (.t2 (.nm 5) (.nm 6)) (.tuple [.int (j : Int), .int y]) .froz (cvRo A B f (.int i) (.int a) p q) = some (cvRo A B f (.int i) (.int a) (.int j) (.int y)) := by
    have h1 := bind_pe 5 p (.int j) [bind1 A, bind1 B, .own (.list (f.map .int)), .pur (.int i), .pur (.int a)] [pe q] .froz (.inr rfl) rfl rfl
    have h2 := bind_pe 6 q (.int y) [bind1 A, bind1 B, .own (.list (f.map .int)), .pur (.int i), .pur (.int a), .pur (.int j)] [] .froz (.inr rfl) rfl rfl
    have h1' : bindV (.nm 5) (.int (j : Int)) .froz (cvRo A B f (.int i) (.int a) p q) = some [bind1 A, bind1 B, .own (.list (f.map .int)), .pur (.int i), .pur (.int a), .pur (.int j), pe q] := h1
    show (bindV (.nm 5) (.int (j : Int)) .froz (cvRo A B f (.int i) (.int a) p q)).bind (bindV (.nm 6) (.int y) .froz) = _
    rw [h1']
    exact h2
  rw [b0, Option.bind_some]
  have i1 := ix_lowI h
  have s1 := set_low h (f.getD (i + j) 0 + a * y)
  have e0 : (i : Int) + (j : Int) = ((i + j : Nat) : Int) := by simp
  have m1 : mulOk a y = true := by
    have : decide (y.natAbs < 2 ^ 64) = true := decide_eq_true hy
    simp only [mulOk, mulSm, this, Bool.or_true, Bool.true_or]
  have k1 : binop .Mult (.int a) (.int y) = some (.int (a * y)) := by simp only [binop, m1, if_true]
  have k2 : ∀ a b : Int, binop .Add (.int a) (.int b) = some (.int (a + b)) := fun _ _ => rfl
  have x2 : ev C (.bin .Add (.var 3) (.var 5)) (cvRo A B f (.int i) (.int a) (.int j) (.int y)) = some (.int ((i + j : Nat) : Int), .fresh, cvRo A B f (.int i) (.int a) (.int j) (.int y)) := by
    rw [← e0]
    rfl
  have x3 : ev C (.bin .Mult (.var 4) (.var 6)) (cvRo A B f (.int i) (.int a) (.int j) (.int y)) = some (.int (a * y), .fresh, cvRo A B f (.int i) (.int a) (.int j) (.int y)) := by
    simp only [ev, gv, cvRo, pe_int, List.getElem?_cons_succ, List.getElem?_cons_zero, okSt, effE, noScr, Bool.and_true, if_true, k1]
  have x4 : ev C (.ix (.var 2) (.bin .Add (.var 3) (.var 5))) (cvRo A B f (.int i) (.int a) (.int j) (.int y)) = some (.int (f.getD (i + j) 0), .fresh, cvRo A B f (.int i) (.int a) (.int j) (.int y)) := by
    exact ev_ix (x := .list (f.map .int)) (sx := .loan 2) rfl x2 rfl i1 rfl
  have x1 : ev C (.bin .Add (.ix (.var 2) (.bin .Add (.var 3) (.var 5))) (.bin .Mult (.var 4) (.var 6))) (cvRo A B f (.int i) (.int a) (.int j) (.int y)) = some (.int (f.getD (i + j) 0 + a * y), .fresh, cvRo A B f (.int i) (.int a) (.int j) (.int y)) := ev_bin x4 x3 rfl (k2 _ _)
  have x5 := x_set (i := 2) x1 rfl rfl x2 rfl s1
  exact x_last' x5
def Inner (C : CallF) (ib : ISs) : Prop := ∀ (A B : D) (i : Nat) (a : Int) (j : Nat) (y : Int) (f : List Int) (p q : D), i + j < f.length → y.natAbs < 2 ^ 64 →
    (bindV (.t2 (.nm 5) (.nm 6)) (.tuple [.int (j : Int), .int y]) .froz (cvRo A B f (.int i) (.int a) p q)).bind (execs C ib) = some (.nx (cvRo A B (f.set (i + j) (f.getD (i + j) 0 + a * y)) (.int i) (.int a) (.int j) (.int y)))
theorem lt_inner' (C : CallF) : Inner C ltInner := lt_inner C
/-! terms_product's own inner loop -/
def tpInner : ISs := (.cons (.augx .Add 2 (.bin .Add (.var 3) (.var 5)) (.bin .Mult (.var 4) (.var 6)))
    .nil)
theorem bind56 (A B : D) (i : Nat) (a : Int) (j : Nat) (y : Int) (f : List Int) (p q : D) : bindV (.t2 (.nm 5) (.nm 6)) (.tuple [.int (j : Int), .int y]) .froz (cvRo A B f (.int i) (.int a) p q) = some (cvRo A B f (.int i) (.int a) (.int j) (.int y)) := by
  have h1 := bind_pe 5 p (.int j) [bind1 A, bind1 B, .own (.list (f.map .int)), .pur (.int i), .pur (.int a)] [pe q] .froz (.inr rfl) rfl rfl
  have h2 := bind_pe 6 q (.int y) [bind1 A, bind1 B, .own (.list (f.map .int)), .pur (.int i), .pur (.int a), .pur (.int j)] [] .froz (.inr rfl) rfl rfl
  have h1' : bindV (.nm 5) (.int (j : Int)) .froz (cvRo A B f (.int i) (.int a) p q) = some [bind1 A, bind1 B, .own (.list (f.map .int)), .pur (.int i), .pur (.int a), .pur (.int j), pe q] := h1
  show (bindV (.nm 5) (.int (j : Int)) .froz (cvRo A B f (.int i) (.int a) p q)).bind (bindV (.nm 6) (.int y) .froz) = _
  rw [h1']
  exact h2
theorem bind34 (A B : D) (i : Nat) (a : Int) (f : List Int) (p q s t : D) : bindV (.t2 (.nm 3) (.nm 4)) (.tuple [.int (i : Int), .int a]) .froz (cvRo A B f p q s t) = some (cvRo A B f (.int i) (.int a) s t) := by
  have h1 := bind_pe 3 p (.int i) [bind1 A, bind1 B, .own (.list (f.map .int))] [pe q, pe s, pe t] .froz (.inr rfl) rfl rfl
  have h2 := bind_pe 4 q (.int a) [bind1 A, bind1 B, .own (.list (f.map .int)), .pur (.int i)] [pe s, pe t] .froz (.inr rfl) rfl rfl
  have h1' : bindV (.nm 3) (.int (i : Int)) .froz (cvRo A B f p q s t) = some [bind1 A, bind1 B, .own (.list (f.map .int)), .pur (.int i), pe q, pe s, pe t] := h1
  show (bindV (.nm 3) (.int (i : Int)) .froz (cvRo A B f p q s t)).bind (bindV (.nm 4) (.int a) .froz) = _
  rw [h1']
  exact h2
theorem tp_inner' (C : CallF) : Inner C tpInner := fun A B i a j y f p q h hy => by
  rw [bind56, Option.bind_some]
  have i1 := ix_lowI h
  have s1 := set_low h (f.getD (i + j) 0 + a * y)
  have e0 : (i : Int) + (j : Int) = ((i + j : Nat) : Int) := by simp
  have m1 : mulOk a y = true := by
    have : decide (y.natAbs < 2 ^ 64) = true := decide_eq_true hy
    simp only [mulOk, mulSm, this, Bool.or_true, Bool.true_or]
  have k1 : binop .Mult (.int a) (.int y) = some (.int (a * y)) := by simp only [binop, m1, if_true]
  have x2 : ev C (.bin .Add (.var 3) (.var 5)) (cvRo A B f (.int i) (.int a) (.int j) (.int y)) = some (.int ((i + j : Nat) : Int), .fresh, cvRo A B f (.int i) (.int a) (.int j) (.int y)) := by
    rw [← e0]
    rfl
  have x3 : ev C (.bin .Mult (.var 4) (.var 6)) (cvRo A B f (.int i) (.int a) (.int j) (.int y)) = some (.int (a * y), .fresh, cvRo A B f (.int i) (.int a) (.int j) (.int y)) := by
    simp only [ev, gv, cvRo, pe_int, List.getElem?_cons_succ, List.getElem?_cons_zero, okSt, effE, noScr, Bool.and_true, if_true, k1]
  have x4 : itemL (cvRo A B f (.int i) (.int a) (.int j) (.int y)) 2 ((i + j : Nat) : Int) = some (f.getD (i + j) 0) := by
    have h2 : ((i + j : Nat) : Int) < (f.length : Int) := by omega
    have h3 : (0 : Int) ≤ ((i + j : Nat) : Int) := by omega
    have h4 : ((i + j : Nat) : Int).toNat = i + j := by omega
    simp only [itemL, cvRo, List.getElem?_cons_succ, List.getElem?_cons_zero, pixN, List.length_map, h2, h3, h4, if_true, List.getElem?_map, List.getElem?_eq_getElem h, Option.map_some, List.getD_eq_getElem?_getD, Option.getD_some]
  exact x_last' (x_augx (i := 2) rfl x2 x4 x3 rfl rfl s1)
theorem cv_turn (C : CallF) (ib : ISs) (hib : Inner C ib) (hef : (effSs ib).contains 1 = false) (A B : D) (b : List Int) (hB : itemsOf B = some (b.map .int)) (hb : ∀ y ∈ b, y.natAbs < 2 ^ 64) (i : Nat) (a : Int) (pre v z : List Int) (p q s t : D) (hp : pre.length = i) (hv : v.length = b.length) :
    ∃ p' q' s' t', (bindV (.t2 (.nm 3) (.nm 4)) (.tuple [.int (i : Int), .int a]) .froz (cvRo A B (pre ++ (v ++ z)) p q s t)).bind (execs C (.cons (.for (.t2 (.nm 5) (.nm 6)) (.enum (.var 1)) ib) .nil)) = some (.nx (cvRo A B (pre ++ (addS a v b ++ z)) p' q' s' t')) := by
  obtain ⟨s', t', e⟩ := inner_go (turn := fun x ρ => (bindV (.t2 (.nm 5) (.nm 6)) x .froz ρ).bind (execs C ib)) (fun f p q => cvRo A B f (.int i) (.int a) p q) i a (fun j y f p q h hy => ⟨.int j, .int y, hib A B i a j y f p q h hy⟩) b v pre z 0 s t hb hv (by omega)
  refine ⟨.int i, .int a, s', t', ?_⟩
  rw [bind34, Option.bind_some]
  have g1 : gv (cvRo A B (pre ++ (v ++ z)) (.int i) (.int a) s t) 1 = some (B, if pur B then .fresh else .froz) := by
    unfold cvRo bind1
    cases h : pur B <;> simp [gv]
  have ei : evI C (.enum (.var 1)) (cvRo A B (pre ++ (v ++ z)) (.int i) (.int a) s t) = some (enumD 0 (b.map .int), [if pur B then .fresh else .froz], cvRo A B (pre ++ (v ++ z)) (.int i) (.int a) s t) := by
    simp only [evI, ev, g1, hB]
  exact x_last' ((x_for (C := C) (b := ib) (turn := fun x ρ => (bindV (.t2 (.nm 5) (.nm 6)) x .froz ρ).bind (execs C ib)) ei (by simp only [List.all_cons, List.all_nil, walk_bind, Bool.and_true]) fun _ _ => rfl).trans e)
/-- both loops -/
theorem cv_loops (C : CallF) (ib : ISs) (hib : Inner C ib) (hef : (effSs ib).contains 1 = false) (A B : D) (a b : List Int) (hA : itemsOf A = some (a.map .int)) (hB : itemsOf B = some (b.map .int)) (hb : ∀ y ∈ b, y.natAbs < 2 ^ 64) (h0 : 0 < b.length) (p q s t : D) :
    ∃ p' q' s' t', exec C (.for (.t2 (.nm 3) (.nm 4)) (.enum (.var 0)) (.cons (.for (.t2 (.nm 5) (.nm 6)) (.enum (.var 1)) ib) .nil)) (cvRo A B (List.replicate (a.length + b.length - 1) 0) p q s t) = some (.nx (cvRo A B (conv b (List.replicate (b.length - 1) 0) a) p' q' s' t')) := by
  obtain ⟨p', q', s', t', e⟩ := outer_go (turn := fun x ρ => (bindV (.t2 (.nm 3) (.nm 4)) x .froz ρ).bind (execs C (.cons (.for (.t2 (.nm 5) (.nm 6)) (.enum (.var 1)) ib) .nil))) (fun f p q s t => cvRo A B f p q s t) b (fun i a pre v z p q s t hp hv => cv_turn C ib hib hef A B b hB hb i a pre v z p q s t hp hv) h0 a (List.replicate (b.length - 1) 0) [] 0 p q s t (by simp; omega) rfl
  refine ⟨p', q', s', t', ?_⟩
  have r0 : ([] : List Int) ++ (List.replicate (b.length - 1) 0 ++ List.replicate a.length 0) = List.replicate (a.length + b.length - 1) 0 := by
    rw [List.nil_append, List.replicate_append_replicate]
    congr 1
    omega
  rw [r0, List.nil_append] at e
  have g1 : gv (cvRo A B (List.replicate (a.length + b.length - 1) 0) p q s t) 0 = some (A, if pur A then .fresh else .froz) := by
    unfold cvRo bind1
    cases h : pur A <;> simp [gv]
  have ei : evI C (.enum (.var 0)) (cvRo A B (List.replicate (a.length + b.length - 1) 0) p q s t) = some (enumD 0 (a.map .int), [if pur A then .fresh else .froz], cvRo A B (List.replicate (a.length + b.length - 1) 0) p q s t) := by
    simp only [evI, ev, g1, hA]
  exact (x_for (C := C) (turn := fun x ρ => (bindV (.t2 (.nm 3) (.nm 4)) x .froz ρ).bind (execs C (.cons (.for (.t2 (.nm 5) (.nm 6)) (.enum (.var 1)) ib) .nil))) ei (by simp only [List.all_cons, List.all_nil, walk_bind, Bool.and_true]) fun _ _ => rfl).trans e
/-- a row of ints, as a list or a tuple -/
def rowD (A : D) (a : List Int) : Prop := A = .list (a.map .int) ∨ A = tupI a
theorem rowD.items {A : D} {a : List Int} (h : rowD A a) : itemsOf A = some (a.map .int) := by
  rcases h with rfl | rfl <;> rfl
theorem rowD.len {A : D} {a : List Int} (h : rowD A a) : bi .len [A] = some (.int a.length) := by
  rcases h with rfl | rfl <;> simp [bi, tupI]
theorem rep_flatI (n : Nat) : (List.replicate n [PyData.int 0]).flatten = (List.replicate n (0 : Int)).map .int := by
  rw [rep_flat]
  simp
theorem cv_first (C : CallF) (A B : D) (a b : List Int) (hA : rowD A a) (hB : rowD B b) (h0 : 0 < b.length) (h1 : a.length + b.length ≤ 1000) : exec C (.asg (.nm 2) (.bin .Mult (.lst (.cons (.int 0) .nil)) (.bin .Sub (.bin .Add (.bcall .len (.cons (.var 0) .nil)) (.bcall .len (.cons (.var 1) .nil))) (.int 1)))) [bind1 A, bind1 B, .emp, .emp, .emp, .emp, .emp] = some (.nx (cvRo A B (List.replicate (a.length + b.length - 1) 0) .none .none .none .none)) := by
  have g0 : gv [bind1 A, bind1 B, .emp, .emp, .emp, .emp, .emp] 0 = some (A, if pur A then .fresh else .froz) := by
    unfold bind1
    cases h : pur A <;> simp [gv]
  have g1 : gv [bind1 A, bind1 B, .emp, .emp, .emp, .emp, .emp] 1 = some (B, if pur B then .fresh else .froz) := by
    unfold bind1
    cases h : pur B <;> simp [gv]
  have l0 := hA.len
  have l1 := hB.len
  have n0 : ((a.length : Int) + (b.length : Int) - 1).toNat = a.length + b.length - 1 := by omega
  have c1 : a.length + b.length - 1 ≤ 1000000 := by omega
  have c2 : -1000000 < (a.length : Int) + (b.length : Int) - 1 := by omega
  have c3 : (a.length : Int) + (b.length : Int) - 1 < 1000000 := by omega
  have e1 : ev C (.bin .Mult (.lst (.cons (.int 0) .nil)) (.bin .Sub (.bin .Add (.bcall .len (.cons (.var 0) .nil)) (.bcall .len (.cons (.var 1) .nil))) (.int 1))) [bind1 A, bind1 B, .emp, .emp, .emp, .emp, .emp] = some (.list ((List.replicate (a.length + b.length - 1) (0 : Int)).map .int), .fresh, [bind1 A, bind1 B, .emp, .emp, .emp, .emp, .emp]) := by
    have z1 : ev C (.bcall .len (.cons (.var 0) .nil)) [bind1 A, bind1 B, .emp, .emp, .emp, .emp, .emp] = some (.int a.length, .fresh, [bind1 A, bind1 B, .emp, .emp, .emp, .emp, .emp]) := ev_bi1 (st := if pur A then .fresh else .froz) (by simp only [ev, g0]) l0
    have z2 : ev C (.bcall .len (.cons (.var 1) .nil)) [bind1 A, bind1 B, .emp, .emp, .emp, .emp, .emp] = some (.int b.length, .fresh, [bind1 A, bind1 B, .emp, .emp, .emp, .emp, .emp]) := ev_bi1 (st := if pur B then .fresh else .froz) (by simp only [ev, g1]) l1
    have z3 := ev_bin (op := .Add) z1 z2 rfl (d := .int ((a.length : Int) + (b.length : Int))) rfl
    have z4 := ev_bin (op := .Sub) (b := .int 1) z3 rfl rfl (d := .int ((a.length : Int) + (b.length : Int) - 1)) rfl
    refine ev_bin (op := .Mult) (a := .lst (.cons (.int 0) .nil)) (x := .list [.int 0]) (sx := .fresh) rfl z4 rfl ?_
    simp only [binop, List.length_cons, List.length_nil, n0]
    rw [if_pos ⟨by simp [lim]; omega, by simp [lim]; omega, by simp [lim]; omega, rfl⟩, rep_flatI]
  exact x_asg e1 rfl rfl
/-- _law_times -/
theorem lt_run {T : List Fd} {i : Nat} {fd : Fd} (h : T[i]? = some fd) (hb : fd.body = ltBody) (hn : fd.nparams = 2) (hm : fd.mode = .plain) (hs : fd.nslots = 7) (k : Nat) {A B : D} {a b : List Int} (hA : rowD A a) (hB : rowD B b) (hy : ∀ y ∈ b, y.natAbs < 2 ^ 64) (h0 : 0 < b.length) (h1 : a.length + b.length ≤ 1000) :
    run T (k + 1) i none [A, B] = some (tupI (conv b (List.replicate (b.length - 1) 0) a), none) := by
  rw [run_at (d := fd) h ⟨by simp [hn], by simp [hm, modeOk], by omega⟩]
  generalize run T k = C
  have s0 : startRo fd none [A, B] = [bind1 A, bind1 B, .emp, .emp, .emp, .emp, .emp] := by
    simp [startRo, hm, bindS, hs, hn, List.replicate]
  rw [s0, hb]
  obtain ⟨p, q, s, t, e⟩ := cv_loops C ltInner (lt_inner' C) rfl A B a b hA.items hB.items hy h0 .none .none .none .none
  have x1 : execs C ltBody [bind1 A, bind1 B, .emp, .emp, .emp, .emp, .emp] = execs C (.cons (.ret (.bcall .tuple (.cons (.var 2) .nil))) .nil) (cvRo A B (conv b (List.replicate (b.length - 1) 0) a) p q s t) := (x_cons (cv_first C A B a b hA hB h0 h1)).trans (x_cons e)
  rw [x1]
  have e2 : ev C (.bcall .tuple (.cons (.var 2) .nil)) (cvRo A B (conv b (List.replicate (b.length - 1) 0) a) p q s t) = some (tupI (conv b (List.replicate (b.length - 1) 0) a), .fresh, cvRo A B (conv b (List.replicate (b.length - 1) 0) a) p q s t) := ev_bi1 (d := .list ((conv b (List.replicate (b.length - 1) 0) a).map .int)) (st := .loan 2) rfl (bi_tuple (ints_purs _))
  rw [x_last (x_ret e2 rfl)]
  rfl
def tpBody : ISs :=
    (.cons (.asg (.nm 2) (.bin .Mult (.lst (.cons (.int 0) .nil)) (.bin .Sub (.bin .Add (.bcall .len (.cons (.var 0) .nil)) (.bcall .len (.cons (.var 1) .nil))) (.int 1))))
    (.cons (.for (.t2 (.nm 3) (.nm 4)) (.enum (.var 0)) (.cons (.for (.t2 (.nm 5) (.nm 6)) (.enum (.var 1)) tpInner)
    .nil))
    (.cons (.ret (.mov 2))
    .nil)))
/-- terms_product -/
theorem tp_run {T : List Fd} {i : Nat} {fd : Fd} (h : T[i]? = some fd) (hb : fd.body = tpBody) (hn : fd.nparams = 2) (hm : fd.mode = .plain) (hs : fd.nslots = 7) (k : Nat) {A B : D} {a b : List Int} (hA : rowD A a) (hB : rowD B b) (hy : ∀ y ∈ b, y.natAbs < 2 ^ 64) (h0 : 0 < b.length) (h1 : a.length + b.length ≤ 1000) :
    run T (k + 1) i none [A, B] = some (.list ((conv b (List.replicate (b.length - 1) 0) a).map .int), none) := by
  rw [run_at (d := fd) h ⟨by simp [hn], by simp [hm, modeOk], by omega⟩]
  generalize run T k = C
  have s0 : startRo fd none [A, B] = [bind1 A, bind1 B, .emp, .emp, .emp, .emp, .emp] := by
    simp [startRo, hm, bindS, hs, hn, List.replicate]
  rw [s0, hb]
  obtain ⟨p, q, s, t, e⟩ := cv_loops C tpInner (tp_inner' C) rfl A B a b hA.items hB.items hy h0 .none .none .none .none
  have x1 : execs C tpBody [bind1 A, bind1 B, .emp, .emp, .emp, .emp, .emp] = execs C (.cons (.ret (.mov 2)) .nil) (cvRo A B (conv b (List.replicate (b.length - 1) 0) a) p q s t) := (x_cons (cv_first C A B a b hA hB h0 h1)).trans (x_cons e)
  rw [x1]
  rfl
end Zr

set_option maxRecDepth 100000
set_option maxHeartbeats 4000000
/-! ZyK: terms_product as a jet. -/
namespace Zr
open PySem
noncomputable def fcIs {β : Type} : List Int → (List Int → β) → β := fun l => List.rec (motive := fun _ => (List Int → β) → β) (fun k => k []) (fun x _ ih k => fcI x fun y => ih fun r => k (y :: r)) l
theorem fcIs_eq {β : Type} : ∀ (l : List Int) (k : List Int → β), fcIs l k = k l
  | [], k => rfl
  | x :: r, k => by
    show fcI x (fun y => fcIs r fun r => k (y :: r)) = _
    rw [fcI_eq, fcIs_eq r]
/-- the product of two rows, made plain at each turn -/
noncomputable def convK {β : Type} (b : List Int) : List Int → List Int → (List Int → β) → β := fun as => List.rec (motive := fun _ => List Int → (List Int → β) → β) (fun w k => fcIs w k) (fun a _ ih w k => fcIs (addS a (w ++ [0]) b) fun u => match u with
  | [] => k []
  | x :: v => ih v fun r => k (x :: r)) as
theorem convK_eq {β : Type} (b : List Int) : ∀ (as w : List Int) (k : List Int → β), convK b as w k = k (conv b w as)
  | [], w, k => by
    show fcIs w k = _
    rw [fcIs_eq]
    simp [conv]
  | a :: as, w, k => by
    show fcIs (addS a (w ++ [0]) b) (fun u => match u with
      | [] => k []
      | x :: v => convK b as v fun r => k (x :: r)) = _
    rw [fcIs_eq]
    cases h : addS a (w ++ [0]) b with
    | nil => simp [conv, h]
    | cons x v =>
      simp only [convK_eq b as v]
      simp [conv, h]
def rdRow : D → Option (List Int)
  | .list xs => toInts xs
  | .tuple xs => toInts xs
  | _ => none
theorem rdRow_eq {d : D} {a : List Int} (h : rdRow d = some a) : rowD d a := by
  cases d <;> simp only [rdRow] at h <;> try (cases h; done)
  · exact .inl (congrArg PyData.list (toInts_eq h))
  · exact .inr (congrArg PyData.tuple (toInts_eq h))
def tpOk (a b : List Int) : Bool := b.all (fun y => Nat.ble (Nat.succ y.natAbs) 18446744073709551616) && Nat.ble 1 b.length && Nat.ble (a.length + b.length) 1000
noncomputable def jTp (i : Nat) (J : Jets) : Jets := fun f r ds => match Nat.beq f i, r with
  | true, none => match ds with
    | [A, B] => match rdRow A with
      | some a => match rdRow B with
        | some b => match tpOk a b with
          | true => convK b a (List.replicate (b.length - 1) 0) fun c => some (.list (c.map .int), none)
          | false => J f r ds
        | none => J f r ds
      | none => J f r ds
    | _ => J f r ds
  | _, _ => J f r ds
theorem jTp_ok {T : List Fd} {m i : Nat} {fd : Fd} (hT : T[i]? = some fd) (hb : fd.body = tpBody) (hn : fd.nparams = 2) (hmo : fd.mode = .plain) (hs : fd.nslots = 7) (hm : 1 ≤ m) {J : Jets} (h : JetsOk T m J) : JetsOk T m (jTp i J) := fun k f r ds v e => by
  unfold jTp at e
  cases hf : Nat.beq f i with
  | false =>
    rw [hf] at e
    exact h k _ _ _ v e
  | true =>
    rw [hf] at e
    have hf := Nat.eq_of_beq_eq_true hf
    subst hf
    cases r with
    | some c => exact h k _ _ _ v e
    | none =>
      simp only at e
      split at e
      · split at e
        · rename_i a ha
          split at e
          · rename_i b hbb
            split at e
            · rename_i hok
              rw [convK_eq] at e
              cases e
              simp only [tpOk, Bool.and_eq_true, List.all_eq_true, Nat.ble_eq] at hok
              have := tp_run hT hb hn hmo hs (k + (m - 1)) (rdRow_eq ha) (rdRow_eq hbb) (fun y my => hok.1.1 y my) hok.1.2 hok.2
              rw [show k + (m - 1) + 1 = k + m by omega] at this
              exact this
            · exact h k _ _ _ v e
          · exact h k _ _ _ v e
        · exact h k _ _ _ v e
      · exact h k _ _ _ v e
end Zr

set_option maxRecDepth 100000
set_option maxHeartbeats 4000000
/-! ZyD: division by a root, whole roots: walked, and what they find. -/
namespace Zr
open PySem
theorem rev_fm {α : Type} (xs : List α) : ∀ n, n ≤ xs.length → ((List.range n).reverse).filterMap (fun (k : Nat) => xs[k]?) = (xs.take n).reverse := by
  intro n
  induction n with
  | zero => intro _; rfl
  | succ n ih =>
    intro h
    have lt : n < xs.length := by omega
    rw [List.range_succ, List.reverse_append, List.reverse_singleton, List.singleton_append, List.filterMap_cons, List.getElem?_eq_getElem lt]
    simp only
    rw [ih (by omega), List.take_succ_eq_append_getElem lt, List.reverse_append]
    rfl
theorem fin60 {p : Nat → Bool} (h : (List.range 61).all p = true) {n : Nat} (hn : n ≤ 60) : p n = true := List.all_eq_true.mp h n (List.mem_range.mpr (by omega))
theorem pickT_rev {α : Type} (xs : List α) (h : xs.length ≤ 60) : pickT none none (-1) xs = xs.reverse := by
  have d := fin60 (p := fun n => decide ((List.range (Builtin.Slice.slicePlaces (Builtin.Slice.sliceAdjust none none (-1) (n : Int)).1 (Builtin.Slice.sliceAdjust none none (-1) (n : Int)).2 (-1))).map (fun (k : Nat) => ((Builtin.Slice.sliceAdjust none none (-1) (n : Int)).1 + (k : Int) * (-1)).toNat) = (List.range n).reverse)) (by decide +kernel) h
  have d := of_decide_eq_true d
  unfold pickT
  have e := rev_fm xs xs.length (Nat.le_refl _)
  rw [← d, List.filterMap_map, List.take_length] at e
  exact e
theorem pickL_back {α : Type} (xs : List α) (h : xs.length ≤ 60) (h0 : 0 < xs.length) : pickL (some (-2)) none (-1) xs = xs.dropLast.reverse := by
  have d := fin60 (p := fun n => n == 0 || decide (sliceRange (sliceBounds (some (-2)) none (some (-1)) n).1 (sliceBounds (some (-2)) none (some (-1)) n).2.1 (sliceBounds (some (-2)) none (some (-1)) n).2.2 = (List.range (n - 1)).reverse)) (by decide +kernel) h
  simp only [Bool.or_eq_true, beq_iff_eq, decide_eq_true_eq] at d
  rcases d with d | d
  · omega
  · unfold pickL
    rw [d, rev_fm xs (xs.length - 1) (by omega), List.dropLast_eq_take]
/-! ### divided_by_root -/
/-- Horner over a row from its end: what is carried -/
def horn (r : Int) (c : Int) : List Int → List Int
  | [] => []
  | x :: xs => (c * r + x) :: horn r (c * r + x) xs
theorem horn_len (r : Int) : ∀ (xs : List Int) (c : Int), (horn r c xs).length = xs.length
  | [], c => rfl
  | x :: xs, c => by simp [horn, horn_len r xs]
def dvTurn : ISs := (.cons (.asg (.nm 4) (.bin .Add (.bin .Mult (.var 4) (.var 1)) (.var 2)))
    (.cons (.expr (.mut .append 3 (.cons (.mov 4) .nil)))
    .nil))
def dvBody : ISs :=
    (.cons (.par [3, 4] (.cons (.lst .nil) (.cons (.int 0) .nil)))
    (.cons (.for (.nm 2) (.seq (.sls (.var 0) .none .none (-1))) dvTurn)
    (.cons (.ret (.tup (.cons (.ix (.var 3) (.neg (.int 1))) (.cons (.bcall .tuple (.cons (.sls (.var 3) (.some (.neg (.int 2))) .none (-1)) .nil)) .nil))))
    .nil)))
def dvRo (p : D) (r : Int) (t : D) (f : List Int) (c : Int) : Ro := [.pur p, .pur (.int r), pe t, .own (.list (f.map .int)), .pur (.int c)]
theorem dv_turn (C : CallF) (p : D) (r : Int) (hr : r.natAbs < 2 ^ 64) (t : D) (f : List Int) (c x : Int) (hf : f.length < 100) :
    (bindV (.nm 2) (.int x) .froz (dvRo p r t f c)).bind (execs C dvTurn) = some (.nx (dvRo p r (.int x) (f ++ [c * r + x]) (c * r + x))) := by
  have b := bind_pe 2 t (.int x) [.pur p, .pur (.int r)] [.own (.list (f.map .int)), .pur (.int c)] .froz (.inr rfl) rfl rfl
  have b' : bindV (.nm 2) (.int x) .froz (dvRo p r t f c) = some [.pur p, .pur (.int r), .pur (.int x), .own (.list (f.map .int)), .pur (.int c)] := b
  rw [b', Option.bind_some]
  have m1 : mulOk c r = true := by
    have : decide (r.natAbs < 2 ^ 64) = true := decide_eq_true hr
    simp only [mulOk, mulSm, this, Bool.or_true, Bool.true_or]
  have l1 : (f.map PyData.int).length < 1000000 := by simp; omega
  have k1 : mu .append (f.map .int) [.int (c * r + x)] = some ((f ++ [c * r + x]).map .int, .none) := by
    simp only [mu]
    rw [if_pos (by simpa [lim] using l1)]
    simp
  have e1 : exec C (.asg (.nm 4) (.bin .Add (.bin .Mult (.var 4) (.var 1)) (.var 2))) [.pur p, .pur (.int r), .pur (.int x), .own (.list (f.map .int)), .pur (.int c)] = some (.nx [.pur p, .pur (.int r), .pur (.int x), .own (.list (f.map .int)), .pur (.int (c * r + x))]) := by
    have h1 : ev C (.bin .Mult (.var 4) (.var 1)) [.pur p, .pur (.int r), .pur (.int x), .own (.list (f.map .int)), .pur (.int c)] = some (.int (c * r), .fresh, [.pur p, .pur (.int r), .pur (.int x), .own (.list (f.map .int)), .pur (.int c)]) := ev_bin (x := .int c) (y := .int r) rfl rfl rfl (by simp only [binop, m1, if_true])
    have h2 := ev_bin (op := .Add) (b := .var 2) (y := .int x) h1 rfl rfl (d := .int (c * r + x)) rfl
    exact x_asg h2 rfl rfl
  unfold dvTurn
  rw [x_cons e1]
  simp [execs, exec, ev, evs, isLst, effs, effE, tks, tkE, okSt, settles, settle, k1, dvRo, pe_int]
theorem dv_loop (C : CallF) (p : D) (r : Int) (hr : r.natAbs < 2 ^ 64) : ∀ (xs : List Int) (t : D) (f : List Int) (c : Int), f.length + xs.length < 100 → ∃ t' c', forGo (fun x ρ => (bindV (.nm 2) x .froz ρ).bind (execs C dvTurn)) (xs.map .int) (dvRo p r t f c) = some (.nx (dvRo p r t' (f ++ horn r c xs) c'))
  | [], t, f, c, _ => ⟨t, c, by simp [forGo, horn]⟩
  | x :: xs, t, f, c, h => by
    have e := dv_turn C p r hr t f c x (by simp at h; omega)
    obtain ⟨t', c', e2⟩ := dv_loop C p r hr xs (.int x) (f ++ [c * r + x]) (c * r + x) (by simp at h ⊢; omega)
    refine ⟨t', c', ?_⟩
    simp only [List.map_cons, forGo, e]
    rw [e2]
    simp [horn]
theorem dv_run {T : List Fd} {i : Nat} {fd : Fd} (h : T[i]? = some fd) (hb : fd.body = dvBody) (hn : fd.nparams = 2) (hm : fd.mode = .plain) (hs : fd.nslots = 5) (k : Nat) (p : List Int) (r : Int) (hr : r.natAbs < 2 ^ 64) (h0 : 0 < p.length) (h1 : p.length ≤ 40) :
    run T (k + 1) i none [tupI p, .int r] = some (.tuple [.int ((horn r 0 p.reverse).getLastD 0), tupI (horn r 0 p.reverse).dropLast.reverse], none) := by
  rw [run_at (d := fd) h ⟨by simp [hn], by simp [hm, modeOk], by omega⟩]
  generalize run T k = C
  have pp : pur (tupI p) = true := by simp only [tupI, pur, ints_purs]
  have s0 : startRo fd none [tupI p, .int r] = [.pur (tupI p), .pur (.int r), .emp, .emp, .emp] := by
    simp [startRo, hm, bindS, hs, hn, bind1, pp, pur, List.replicate]
  rw [s0, hb]
  have x1 : exec C (.par [3, 4] (.cons (.lst .nil) (.cons (.int 0) .nil))) [.pur (tupI p), .pur (.int r), .emp, .emp, .emp] = some (.nx (dvRo (tupI p) r .none [] 0)) := by
    simp [exec, ev, evs, okSt, effE, effs, tks, tkE, settles, settle, bindNs, bindV, noByr, pur, dvRo, pe]
  have sl : slsD (tupI p) none none (-1) = some (tupI p.reverse) := by
    have e := pickT_rev (p.map PyData.int) (by simp; omega)
    simp only [slsD, tupI]
    rw [if_pos ⟨ints_purs p, by decide, by decide, by rw [e]; simp [lim]; omega⟩, e]
    simp
  have ei : evI C (.seq (.sls (.var 0) .none .none (-1))) (dvRo (tupI p) r .none [] 0) = some (p.reverse.map .int, [.fresh], dvRo (tupI p) r .none [] 0) := by
    have g : gv (dvRo (tupI p) r .none [] 0) 0 = some (tupI p, .fresh) := rfl
    simp only [evI, ev, evO, g, okSt, sl, if_true]
    rfl
  obtain ⟨t', c', e⟩ := dv_loop C (tupI p) r hr p.reverse .none [] 0 (by simp; omega)
  have x2 := (x_for (C := C) (b := dvTurn) (turn := fun x ρ => (bindV (.nm 2) x .froz ρ).bind (execs C dvTurn)) ei rfl fun _ _ => rfl).trans e
  rw [List.nil_append] at x2
  have x3 : execs C dvBody [.pur (tupI p), .pur (.int r), .emp, .emp, .emp] = execs C (.cons (.ret (.tup (.cons (.ix (.var 3) (.neg (.int 1))) (.cons (.bcall .tuple (.cons (.sls (.var 3) (.some (.neg (.int 2))) .none (-1)) .nil)) .nil)))) .nil) (dvRo (tupI p) r t' (horn r 0 p.reverse) c') := (x_cons x1).trans (x_cons x2)
  rw [x3]
  have hl := horn_len r p.reverse 0
  generalize horn r 0 p.reverse = f at *
  simp only [List.length_reverse] at hl
  have i1 : ixD (.list (f.map .int)) (.int (-1)) = some (.int (f.getLastD 0)) := by
    have e1 : pixN f.length (-1) = some (f.length - 1) := by
      simp only [pixN]
      rw [if_neg (by decide), if_pos (by omega)]
      congr 1
      omega
    have e2 : f[f.length - 1]? = some (f.getLastD 0) := by
      rw [← List.getLast?_eq_getElem?, List.getLastD_eq_getLast?]
      cases f with
      | nil => exact absurd hl (by simp; omega)
      | cons x f => rfl
    simp only [ixD, List.length_map, e1, List.getElem?_map, e2, Option.map_some]
  have i2 : slsD (.list (f.map .int)) (some (-2)) none (-1) = some (.list ((f.dropLast.reverse).map .int)) := by
    have e := pickL_back (f.map PyData.int) (by simp; omega) (by simp; omega)
    have c1 : ¬ (purs (f.map .int) = true ∧ (some (-2 : Int)) = none ∧ (none : Option Int) = none ∧ (-1 : Int) = -1) := fun z => nomatch z.2.1
    show (if purs (f.map .int) = true ∧ (some (-2 : Int)) = none ∧ (none : Option Int) = none ∧ (-1 : Int) = -1 then _ else if purs (f.map .int) = true ∧ (-1 : Int) ≠ 0 ∧ (pickL (some (-2)) none (-1) (f.map PyData.int)).length ≤ lim then some (PyData.list (pickL (some (-2)) none (-1) (f.map PyData.int))) else none) = _
    rw [if_neg c1, if_pos ⟨ints_purs f, by decide, by rw [e]; simp [lim]; omega⟩, e]
    simp
  have z1 : ev C (.ix (.var 3) (.neg (.int 1))) (dvRo (tupI p) r t' f c') = some (.int (f.getLastD 0), .fresh, dvRo (tupI p) r t' f c') := ev_ix (x := .list (f.map .int)) (sx := .loan 3) (y := .int (-1)) (sy := .fresh) rfl rfl rfl i1 rfl
  have z2 : ev C (.sls (.var 3) (.some (.neg (.int 2))) .none (-1)) (dvRo (tupI p) r t' f c') = some (.list ((f.dropLast.reverse).map .int), .fresh, dvRo (tupI p) r t' f c') := by
    have g : gv (dvRo (tupI p) r t' f c') 3 = some (.list (f.map .int), .loan 3) := rfl
    have i2' : slsD (.list (f.map .int)) (some (-2)) none (-1) = some (.list ((f.dropLast.reverse).map .int)) := i2
    simp only [ev, evO, g, i2']
    rfl
  have z3 := ev_bi1 z2 (bi_tuple (ints_purs f.dropLast.reverse))
  have z4 : evs C (.cons (.ix (.var 3) (.neg (.int 1))) (.cons (.bcall .tuple (.cons (.sls (.var 3) (.some (.neg (.int 2))) .none (-1)) .nil)) .nil)) (dvRo (tupI p) r t' f c') = some ([(.int (f.getLastD 0), .fresh), (tupI f.dropLast.reverse, .fresh)], dvRo (tupI p) r t' f c') := by
    simp only [evs, z1, z3]
    rfl
  simp only [execs, exec, ev, z4, settles, settle]
  rfl
end Zr

set_option maxRecDepth 100000
set_option maxHeartbeats 4000000
/-! ZyE: rows of terms as polynomials: values, products, division; whole roots. -/
namespace Zr
open PySem
/-- the value of a row of terms -/
def E : List Int → Int → Int
  | [], _ => 0
  | a :: as, x => a + x * E as x
theorem E_append (as : List Int) (b x : Int) : E (as ++ [b]) x = E as x + b * x ^ as.length := by
  induction as with
  | nil => simp [E]
  | cons a as ih =>
    simp only [List.cons_append, E, ih, List.length_cons, Int.pow_succ, Int.mul_add]
    rw [Int.mul_left_comm, Int.mul_comm x (x ^ as.length)]
    omega
theorem E_zero (w : List Int) (x : Int) : E (w ++ [0]) x = E w x := by
  rw [E_append]
  simp
theorem E_addS (a x : Int) : ∀ (u m : List Int), u.length = m.length → E (addS a u m) x = E u x + a * E m x
  | [], [], _ => by simp [E, addS]
  | y :: u, z :: m, h => by
    simp only [addS, E, E_addS a x u m (by simpa using h), Int.mul_add]
    rw [Int.mul_left_comm a x]
    omega
theorem conv_cons (b w : List Int) (a : Int) (as : List Int) (h : w.length + 1 = b.length) : ∃ x v, addS a (w ++ [0]) b = x :: v ∧ v.length = w.length ∧ conv b w (a :: as) = x :: conv b v as := by
  have l := addS_len a (w ++ [0]) b
  cases hv : addS a (w ++ [0]) b with
  | nil =>
    rw [hv] at l
    simp at l
  | cons x v =>
    rw [hv] at l
    simp at l
    exact ⟨x, v, rfl, l, by simp [conv, hv]⟩
theorem E_conv (b : List Int) (x : Int) : ∀ (as w : List Int), w.length + 1 = b.length → E (conv b w as) x = E as x * E b x + E w x
  | [], w, h => by simp [conv, E]
  | a :: as, w, h => by
    obtain ⟨y, v, h1, h2, h3⟩ := conv_cons b w a as h
    have e := E_addS a x (w ++ [0]) b (by simp [h])
    rw [h1, E_zero] at e
    rw [h3]
    simp only [E] at e ⊢
    rw [E_conv b x as v (by omega), Int.mul_add, Int.add_mul]
    rw [Int.mul_assoc]
    omega
theorem conv_len (b : List Int) : ∀ (as w : List Int), w.length + 1 = b.length → (conv b w as).length = as.length + w.length
  | [], w, h => by simp [conv]
  | a :: as, w, h => by
    obtain ⟨y, v, h1, h2, h3⟩ := conv_cons b w a as h
    rw [h3, List.length_cons, conv_len b as v (by omega), h2, List.length_cons]
    omega
/-- rows of one length whose values are the same from some place on are the same -/
theorem E_ext : ∀ (p q : List Int) (N : Int), p.length = q.length → (∀ x : Int, N ≤ x → E p x = E q x) → p = q
  | [], [], _, _, _ => rfl
  | a :: p, b :: q, N, hl, h => by
    have hab : a = b := by
      let x : Int := (a - b).natAbs + 1 + N.natAbs
      have hx := h x (by show N ≤ ((a - b).natAbs : Int) + 1 + (N.natAbs : Int); omega)
      simp only [E] at hx
      have hd : a - b = x * (E q x - E p x) := by
        rw [Int.mul_sub]
        omega
      have hdvd : x ∣ a - b := ⟨_, hd⟩
      have lt : (a - b).natAbs < x.natAbs := by
        show (a - b).natAbs < (((a - b).natAbs : Int) + 1 + (N.natAbs : Int)).natAbs
        omega
      have z := Int.eq_zero_of_dvd_of_natAbs_lt_natAbs hdvd lt
      omega
    subst hab
    rw [E_ext p q (if 1 ≤ N then N else 1) (by simpa using hl) fun x hx => by
      have h1 : 1 ≤ x ∧ N ≤ x := by split at hx <;> omega
      have := h x h1.2
      simp only [E] at this
      have e : x * E p x = x * E q x := by omega
      exact Int.eq_of_mul_eq_mul_left (by omega) e]
/-! ### division -/
def mulXc (r : Int) (c : Int) : List Int → List Int
  | [] => [c]
  | a :: as => (c + a * -r) :: mulXc r a as
theorem conv_mulX (r : Int) : ∀ (q : List Int) (c : Int), conv [-r, 1] [c] q = mulXc r c q
  | [], c => rfl
  | a :: q, c => by
    have : conv [-r, 1] [c] (a :: q) = (c + a * -r) :: conv [-r, 1] [0 + a * 1] q := rfl
    rw [this, conv_mulX r q]
    simp [mulXc]
theorem E_mulXc (r x : Int) (q : List Int) (c : Int) : E (mulXc r c q) x = E q x * (x - r) + c := by
  rw [← conv_mulX, E_conv _ _ _ _ rfl]
  simp only [E, Int.mul_zero, Int.add_zero, Int.mul_one]
  rw [show -r + x = x - r by omega]
theorem mulXc_len (r : Int) : ∀ (q : List Int) (c : Int), (mulXc r c q).length = q.length + 1
  | [], c => rfl
  | a :: q, c => by simp [mulXc, mulXc_len r q]
theorem horn_append (r : Int) (y : Int) : ∀ (xs : List Int) (c : Int), horn r c (xs ++ [y]) = horn r c xs ++ [(horn r c xs).getLastD c * r + y]
  | [], c => rfl
  | x :: xs, c => by
    simp only [List.cons_append, horn, horn_append r y xs, List.getLastD_cons]
theorem horn_mulXc (r : Int) : ∀ (q : List Int) (c : Int), horn r 0 (mulXc r c q).reverse = q.reverse ++ [c]
  | [], c => by simp [mulXc, horn]
  | a :: q, c => by
    simp only [mulXc, List.reverse_cons, horn_append, horn_mulXc r q a]
    have : (q.reverse ++ [a]).getLastD 0 = a := by simp [List.getLastD_eq_getLast?]
    rw [this, Int.mul_neg]
    simp
    omega
theorem horn_E (r : Int) : ∀ (p : List Int), (horn r 0 p.reverse).getLastD 0 = E p r
  | [] => rfl
  | a :: p => by
    simp only [List.reverse_cons, horn_append, horn_E r p, E]
    simp [List.getLastD_eq_getLast?]
    rw [Int.mul_comm]
    omega
def chain : List Int → List Int → List Int
  | [], g => g
  | r :: S, g => mulXc r 0 (chain S g)
theorem chain_len : ∀ (S g : List Int), (chain S g).length = S.length + g.length
  | [], g => by simp [chain]
  | r :: S, g => by
    simp only [chain, mulXc_len, chain_len S g, List.length_cons]
    omega
def prodX (x : Int) : List Int → Int
  | [] => 1
  | r :: S => (x - r) * prodX x S
theorem E_chain (x : Int) (g : List Int) : ∀ S, E (chain S g) x = E g x * prodX x S
  | [] => by simp [chain, prodX]
  | r :: S => by
    simp only [chain, E_mulXc, E_chain x g S, prodX, Int.add_zero]
    rw [Int.mul_assoc, Int.mul_comm (prodX x S)]
theorem prodX_ne {x : Int} : ∀ {S : List Int}, (∀ s ∈ S, x ≠ s) → prodX x S ≠ 0
  | [], _ => by simp [prodX]
  | r :: S, h => by
    have h1 := h r List.mem_cons_self
    have h2 := prodX_ne (S := S) fun s m => h s (List.mem_cons_of_mem _ m)
    exact Int.mul_ne_zero (by omega) h2
theorem prodX_ins (x r : Int) : ∀ S, prodX x (insI r S) = (x - r) * prodX x S
  | [] => rfl
  | s :: S => by
    unfold insI
    split
    · rfl
    · simp only [prodX, prodX_ins x r S]
      rw [Int.mul_left_comm]
theorem prodX_sort (x : Int) : ∀ S, prodX x (sortI S) = prodX x S
  | [] => rfl
  | r :: S => by simp only [sortI, prodX_ins, prodX_sort x S, prodX]
theorem prodX_append (x : Int) : ∀ S S', prodX x (S ++ S') = prodX x S * prodX x S'
  | [], S' => by simp [prodX]
  | r :: S, S' => by
    simp only [List.cons_append, prodX, prodX_append x S S', Int.mul_assoc]
theorem insI_mem {x y : Int} : ∀ {S : List Int}, y ∈ insI x S ↔ y = x ∨ y ∈ S
  | [] => by simp [insI]
  | s :: S => by
    unfold insI
    split
    · simp
    · simp only [List.mem_cons, insI_mem (S := S)]
      constructor
      · rintro (h | h | h) <;> simp [h]
      · rintro (h | h | h) <;> simp [h]
theorem sortI_mem {y : Int} : ∀ {S : List Int}, y ∈ sortI S ↔ y ∈ S
  | [] => by simp [sortI]
  | s :: S => by simp [sortI, insI_mem, sortI_mem (S := S)]
theorem insI_len (x : Int) : ∀ S, (insI x S).length = S.length + 1
  | [] => rfl
  | s :: S => by
    unfold insI
    split
    · simp
    · simp [insI_len x S]
theorem sortI_len : ∀ S, (sortI S).length = S.length
  | [] => rfl
  | s :: S => by simp [sortI, insI_len, sortI_len S]
def Asc (S : List Int) : Prop := S.Pairwise (· ≤ ·)
theorem insI_asc (x : Int) : ∀ S, Asc S → Asc (insI x S)
  | [], _ => by simp [insI, Asc]
  | s :: S, h => by
    have h := List.pairwise_cons.mp h
    unfold insI
    split
    · rename_i c
      refine List.pairwise_cons.mpr ⟨fun y m => ?_, List.pairwise_cons.mpr h⟩
      rcases List.mem_cons.mp m with rfl | m
      · exact c
      · exact Int.le_trans c (h.1 y m)
    · rename_i c
      refine List.pairwise_cons.mpr ⟨fun y m => ?_, insI_asc x S h.2⟩
      rcases insI_mem.mp m with rfl | m
      · omega
      · exact h.1 y m
theorem sortI_asc : ∀ S, Asc (sortI S)
  | [] => List.Pairwise.nil
  | s :: S => insI_asc s _ (sortI_asc S)
/-- a sorted chain is any chain of the same -/
theorem chain_sort (S g : List Int) : chain (sortI S) g = chain S g :=
  E_ext _ _ 0 (by rw [chain_len, chain_len, sortI_len]) fun x _ => by rw [E_chain, E_chain, prodX_sort]
/-- the greatest size of terms -/
def szs (B : Nat) (p : List Int) : Prop := ∀ x ∈ p, x.natAbs ≤ B
theorem mulXc_size (r : Int) (B : Nat) : ∀ (q : List Int) (c : Int), c.natAbs ≤ B → szs B q → szs (B * (r.natAbs + 1)) (mulXc r c q)
  | [], c, hc, _, x, m => by
    rw [mulXc, List.mem_singleton] at m
    subst m
    exact Nat.le_trans hc (Nat.le_mul_of_pos_right B (by omega))
  | a :: q, c, hc, h, x, m => by
    simp only [mulXc, List.mem_cons] at m
    rcases m with rfl | m
    · have ha := h a List.mem_cons_self
      have h1 : (c + a * -r).natAbs ≤ c.natAbs + a.natAbs * r.natAbs := by
        have := Int.natAbs_add_le c (a * -r)
        rw [Int.natAbs_mul, Int.natAbs_neg] at this
        exact this
      have h2 : a.natAbs * r.natAbs ≤ B * r.natAbs := Nat.mul_le_mul_right _ ha
      rw [Nat.mul_succ]
      omega
    · exact mulXc_size r B q a (h a List.mem_cons_self) (fun y my => h y (List.mem_cons_of_mem _ my)) x m
theorem mulXc_last (r : Int) : ∀ (q : List Int) (c : Int), (mulXc r c q).getLastD 0 = q.getLastD c
  | [], c => rfl
  | a :: q, c => by
    have ih := mulXc_last r q a
    rw [List.getLastD_cons, ← ih]
    cases h : mulXc r a q with
    | nil =>
      have := mulXc_len r q a
      rw [h] at this
      simp at this
    | cons y ys => simp only [mulXc, h, List.getLastD_cons]
end Zr

set_option maxRecDepth 100000
set_option maxHeartbeats 4000000
/-! ZyF: is_poly, product_row walked; repr of rows of ints. -/
namespace Zr
open PySem
theorem repr_ints (xs : List Int) (L : Nat) (hL : L ≤ 1919) (h : ∀ x ∈ xs, x.natAbs.log2 < L) (hn : 1923 * (xs.length * (L + 1)) + 1921 ≤ lim) : ∃ z, bi .repr [tupI xs] = some (.str z) ∧ z.length ≤ lim := by
  have h1 : ∀ ys : List Int, (∀ x ∈ ys, x.natAbs.log2 < L) → PyData.showableAll (ys.map .int) = true ∧ PyData.hasDictAll (ys.map .int) = false ∧ PyData.depthAll (ys.map .int) = 0 ∧ PyData.leavesShortAll 1921 (ys.map .int) = true ∧ PyData.weightAll (ys.map .int) ≤ ys.length * (L + 1) := by
    intro ys
    induction ys with
    | nil => intro _; exact ⟨rfl, rfl, rfl, rfl, Nat.zero_le _⟩
    | cons y ys ih =>
      intro hy
      have hy1 := hy y List.mem_cons_self
      obtain ⟨a1, a2, a3, a4, a5⟩ := ih fun x m => hy x (List.mem_cons_of_mem _ m)
      have l := PyProof.Rows.int_text_len_1921 (show y.natAbs.log2 < 1920 by omega)
      have w : (PyData.int y).weight ≤ L := by
        simp only [PyData.weight]
        split <;> omega
      refine ⟨?_, ?_, ?_, ?_, ?_⟩
      · simp only [List.map_cons, PyData.showableAll, PyData.showable, a1, Bool.and_true, decide_eq_true_eq]
        omega
      · simp only [List.map_cons, PyData.hasDictAll, PyData.hasDict, a2, Bool.or_false]
      · simp only [List.map_cons, PyData.depthAll, PyData.depth, a3]
        rfl
      · simp only [List.map_cons, PyData.leavesShortAll, PyData.leavesShort, a4, Bool.and_true, decide_eq_true_eq]
        exact l
      · simp only [List.map_cons, PyData.weightAll, List.length_cons, Nat.succ_mul]
        omega
  obtain ⟨a1, a2, a3, a4, a5⟩ := h1 xs h
  have s := PyData.shown_le 1921 (by decide) (tupI xs) (by simpa only [tupI, PyData.leavesShort] using a4)
  have w : (tupI xs).weight = PyData.weightAll (xs.map .int) := rfl
  have c : (tupI xs).shown.length ≤ lim := by
    rw [w] at s
    have : (1921 + 2) * PyData.weightAll (xs.map .int) ≤ 1923 * (xs.length * (L + 1)) := Nat.mul_le_mul_left 1923 a5
    omega
  refine ⟨(tupI xs).shown, ?_, c⟩
  have b1 : (tupI xs).showable = true := a1
  have b2 : (tupI xs).hasDict = false := a2
  have b3 : (tupI xs).depth ≤ 40 := by
    have : (tupI xs).depth = PyData.depthAll (xs.map .int) + 1 := rfl
    omega
  simp only [bi, b1, b2, c, decide_true, Bool.true_and, Bool.not_false, if_true, decide_eq_true b3, Bool.and_self]
theorem any_false {α : Type} (xs : List α) : bi .any [.list (xs.map fun _ => PyData.bool false)] = some (.bool false) := by
  have e : ∀ xs : List α, toBls (xs.map fun _ => PyData.bool false) = some (xs.map fun _ => false) := by
    intro xs
    induction xs with
    | nil => rfl
    | cons x r ih => simp [toBls, ih]
  simp [bi, e]
theorem ev_orT {C : CallF} {a b : IE} {ρ ρ1 : Ro} {x : D} {s : Stat} (h : ev C a ρ = some (x, s, ρ1)) (h2 : truD x = some true) : ev C (.orV a b) ρ = some (x, s, ρ1) := by simp only [ev, h, h2]
theorem evT_cmp {C : CallF} {op : CmpOp} {a b : IE} {ρ ρ1 ρ2 : Ro} {x y : D} {sx sy : Stat} {k : Bool} (h1 : ev C a ρ = some (x, sx, ρ1)) (h2 : ev C b ρ1 = some (y, sy, ρ2)) (h3 : okSt sx (effE b) = true) (h4 : cmpop op x y = some k) : evT C (.cmp (.cmp op a b)) ρ = some (k, ρ2) := by
  simp only [evT, ev, h1, h2, h3, if_true, h4]
theorem lc_fin {turn : D → Ro → List D → Option (List D × Ro)} {ρ1 ρ2 : Ro} {own : List Nat} (I : Nat → List D → Ro → Prop) (xs : List D) (ht : ∀ (i : Nat) (x : D) (ρ : Ro) (acc : List D), xs[i]? = some x → I i acc ρ → ∃ acc' ρ', turn x ρ acc = some (acc', ρ') ∧ I (i + 1) acc' ρ') (h0 : I 0 [] ρ2) : ∃ acc ρ3, (match lcGo turn xs ρ2 [] with
    | some (acc, ρ3) => some (PyData.list acc.reverse, Stat.fresh, unhide ρ1 ρ3 own)
    | none => none) = some (PyData.list acc.reverse, Stat.fresh, unhide ρ1 ρ3 own) ∧ I xs.length acc ρ3 := by
  obtain ⟨acc, ρ3, e, i⟩ := lcGo_rel I xs ht ρ2 [] h0
  exact ⟨acc, ρ3, by rw [e], i⟩
/-- a comprehension by a relation -/
theorem ev_lc_rel {C : CallF} {own : List Nat} {elt : IE} {g : IG} {it : II} {t : IC} {ρ ρ1 ρ2 : Ro} {xs : List D} {sts : List Stat} (I : Nat → List D → Ro → Prop) (h1 : evI C it ρ = some (xs, sts, ρ1)) (h2 : hide ρ1 own = some ρ2) (h3 : (sts.all (walkOk · xs (own ++ (effC t ++ (effE elt ++ tkE elt)))) && g.slots.all own.contains) = true)
    (h4 : ∀ (i : Nat) (x : D) (ρ : Ro) (acc : List D), xs[i]? = some x → I i acc ρ → ∃ ρa ρb y sy ρc ρe ρd, bindV g x .froz ρ = some ρa ∧ evC C t ρa = some (true, ρb) ∧ ev C elt ρb = some (y, sy, ρc) ∧ settle y sy ρc = some ρe ∧ hide ρe own = some ρd ∧ acc.length < lim ∧ I (i + 1) (y :: acc) ρd) (h0 : I 0 [] ρ2) :
    ∃ acc ρ3, ev C (.lc own elt g it t) ρ = some (.list acc.reverse, .fresh, unhide ρ1 ρ3 own) ∧ I xs.length acc ρ3 := by
  simp only [ev, h1, h2]
  rw [if_pos h3]
  refine lc_fin I xs (fun i x ρ acc hx hi => ?_) h0
  obtain ⟨ρa, ρb, y, sy, ρc, ρe, ρd, e1, e2, e3, e4, e5, e6, e7⟩ := h4 i x ρ acc hx hi
  exact ⟨y :: acc, ρd, by simp only [e1, e2, e3, e4, e5, if_pos e6], e7⟩
/-! ### is_poly -/
def iiBody : ISs := (.cons (.ret (.andV (.isi (.var 0) [.int]) (.oneV (.notV (.isi (.var 0) [.bool])))))
    .nil)
theorem ii_run {T : List Fd} {i : Nat} {fd : Fd} (h : T[i]? = some fd) (hb : fd.body = iiBody) (hn : fd.nparams = 1) (hm : fd.mode = .plain) (hs : fd.nslots = 1) (k : Nat) (x : Int) : run T (k + 1) i none [.int x] = some (.bool true, none) := by
  rw [run_at (d := fd) h ⟨by simp [hn], by simp [hm, modeOk], by omega⟩]
  have s0 : startRo fd none [.int x] = [.pur (.int x)] := by
    simp [startRo, hm, bindS, hs, hn, bind1, pur]
  rw [s0, hb]
  rfl
def big : Int := 1000000000000000000000000000000
def ipBody (j : Nat) : ISs :=
    (.cons (.ifs (.or (.not (.tru (.isi (.var 0) [.tuple]))) (.or (.not (.cmp (.chain .LtE .LtE (.int 1) (.bcall .len (.cons (.var 0) .nil)) (.int 40)))) (.one (.not (.tru (.bcall .all (.cons (.lc [1] (.fcall j (.cons (.var 1) .nil)) (.nm 1) (.seq (.var 0)) .yes) .nil))))))) (.cons (.ret (.bl false))
    .nil) .nil)
    (.cons (.ifs (.tru (.bcall .any (.cons (.lc [1] (.cmp .GtE (.bcall .abs (.cons (.var 1) .nil)) (.glob (Str.ofString "MOST_SIZE") (.int 1000000000000000000000000000000))) (.nm 1) (.seq (.var 0)) .yes) .nil))) (.cons (.ret (.bl false))
    .nil) .nil)
    (.cons (.ret (.orV (.cmp .NotEq (.ix (.var 0) (.neg (.int 1))) (.int 0)) (.oneV (.cmp .Eq (.var 0) (.tup (.cons (.int 0) .nil))))))
    .nil)))
structure PolyOk (p : List Int) : Prop where
  l0 : 0 < p.length
  l1 : p.length ≤ 40
  size : ∀ x ∈ p, x.natAbs < 1000000000000000000000000000000
  last : p.getLastD 0 ≠ 0
theorem ix_last {p : List Int} (h : 0 < p.length) : ixD (tupI p) (.int (-1)) = some (.int (p.getLastD 0)) := by
  have e1 : pixN p.length (-1) = some (p.length - 1) := by
    simp only [pixN]
    rw [if_neg (by decide), if_pos (by omega)]
    congr 1
    omega
  have e2 : p[p.length - 1]? = some (p.getLastD 0) := by
    rw [← List.getLast?_eq_getElem?, List.getLastD_eq_getLast?]
    cases p with
    | nil => exact absurd h (by simp)
    | cons x f => rfl
  simp only [ixD, tupI, List.length_map, e1, List.getElem?_map, e2, Option.map_some]
theorem ip_run {T : List Fd} {i j : Nat} {fd fe : Fd} (h : T[j]? = some fe) (hb : fe.body = iiBody) (hn : fe.nparams = 1) (hm : fe.mode = .plain) (hs : fe.nslots = 1) (h' : T[i]? = some fd) (hb' : fd.body = ipBody j) (hn' : fd.nparams = 1) (hm' : fd.mode = .plain) (hs' : fd.nslots = 2) (k : Nat) (p : List Int) (ok : PolyOk p) :
    run T (k + 2) i none [tupI p] = some (.bool true, none) := by
  have hc := ii_run h hb hn hm hs k
  rw [run_at (d := fd) h' ⟨by simp [hn'], by simp [hm', modeOk], by omega⟩]
  generalize run T (k + 1) = C at *
  have pp : pur (tupI p) = true := by simp only [tupI, pur, ints_purs]
  have s0 : startRo fd none [tupI p] = [.pur (tupI p), .emp] := by
    simp [startRo, hm', bindS, hs', hn', bind1, pp, pur, List.replicate]
  rw [s0, hb']
  have ei : evI C (.seq (.var 0)) [.pur (tupI p), .emp] = some (p.map .int, [.fresh], [.pur (tupI p), .emp]) := rfl
  have m1 := ev_lc_map (C := C) (own := [1]) (elt := .fcall j (.cons (.var 1) .nil)) (g := .nm 1) (t := .yes) (ρ2 := [.pur (tupI p), .emp]) (fun _ => PyData.bool true) ei rfl rfl (fun x m => by
    obtain ⟨y, _, rfl⟩ := List.mem_map.mp m
    exact ⟨[.pur (tupI p), .pur (.int y)], [.pur (tupI p), .pur (.int y)], .fresh, [.pur (tupI p), .pur (.int y)], [.pur (tupI p), .pur (.int y)], rfl, rfl, by simp [ev, evs, gv, okSt, effs, noScr, hc y], rfl, rfl⟩) (by simp [lim]; have := ok.l1; omega)
  have m2 := ev_lc_map (C := C) (own := [1]) (elt := .cmp .GtE (.bcall .abs (.cons (.var 1) .nil)) (.glob (Str.ofString "MOST_SIZE") (.int 1000000000000000000000000000000))) (g := .nm 1) (t := .yes) (ρ2 := [.pur (tupI p), .emp]) (fun _ => PyData.bool false) ei rfl rfl (fun x m => by
    obtain ⟨y, my, rfl⟩ := List.mem_map.mp m
    have sz := ok.size y my
    have q : cmpop .GtE (.int (if y < 0 then -y else y)) (.int 1000000000000000000000000000000) = some false := by
      simp only [cmpop, ltD]
      have : (if y < 0 then -y else y) < 1000000000000000000000000000000 := by split <;> omega
      simp [this]
    exact ⟨[.pur (tupI p), .pur (.int y)], [.pur (tupI p), .pur (.int y)], .fresh, [.pur (tupI p), .pur (.int y)], [.pur (tupI p), .pur (.int y)], rfl, rfl, by simp [ev, evs, gv, okSt, effE, effs, noScr, bi, q, pur], rfl, rfl⟩) (by simp [lim]; have := ok.l1; omega)
  have u : unhide [.pur (tupI p), .emp] [.pur (tupI p), .emp] [1] = [.pur (tupI p), .emp] := rfl
  rw [u] at m1 m2
  have l1 := ok.l0
  have l2 := ok.l1
  have t1 : evT C (.tru (.isi (.var 0) [.tuple])) [.pur (tupI p), .emp] = some (true, [.pur (tupI p), .emp]) := rfl
  have t2 : evT C (.cmp (.chain .LtE .LtE (.int 1) (.bcall .len (.cons (.var 0) .nil)) (.int 40))) [.pur (tupI p), .emp] = some (true, [.pur (tupI p), .emp]) := by
    have c1 : ¬ (p.length : Int) < 1 := by omega
    have c2 : ¬ (40 : Int) < (p.length : Int) := by omega
    simp [evT, ev, evs, gv, okSt, effE, effs, tupI, bi, cmpop, ltD, c1, c2] <;> omega
  have t3 := evT_tru (ev_bi1 m1 (all_truef _)) (k := true) rfl
  have t4 := evT_tru (ev_bi1 m2 (any_false _)) (k := false) rfl
  have w1 : evT C (.or (.not (.tru (.isi (.var 0) [.tuple]))) (.or (.not (.cmp (.chain .LtE .LtE (.int 1) (.bcall .len (.cons (.var 0) .nil)) (.int 40)))) (.one (.not (.tru (.bcall .all (.cons (.lc [1] (.fcall j (.cons (.var 1) .nil)) (.nm 1) (.seq (.var 0)) .yes) .nil))))))) [.pur (tupI p), .emp] = some (false, [.pur (tupI p), .emp]) := by
    have a1 := evT_not t1
    have a2 := evT_not t2
    have a3 := evT_not t3
    simp only [evT] at a1 a2 a3 ⊢
    simp only [a1, a2, a3, Bool.not_true]
  have z1 : ev C (.cmp .NotEq (.ix (.var 0) (.neg (.int 1))) (.int 0)) [.pur (tupI p), .emp] = some (.bool true, .fresh, [.pur (tupI p), .emp]) := by
    have i1 : ev C (.ix (.var 0) (.neg (.int 1))) [.pur (tupI p), .emp] = some (.int (p.getLastD 0), .fresh, [.pur (tupI p), .emp]) := ev_ix (x := tupI p) (sx := .fresh) (y := .int (-1)) (sy := .fresh) rfl rfl rfl (ix_last ok.l0) rfl
    have q : cmpop .NotEq (.int (p.getLastD 0)) (.int 0) = some true := by
      have hb : (p.getLastD 0 == 0) = false := beq_false_of_ne ok.last
      simp only [cmpop, eqD, hb]
      rfl
    simp only [ev] at i1 ⊢
    simp only [i1, q]
    rfl
  unfold ipBody
  rw [x_cons (ρ1 := [.pur (tupI p), .emp]) ((x_ifs w1).trans rfl), x_cons (ρ1 := [.pur (tupI p), .emp]) ((x_ifs t4).trans rfl)]
  have z2 : ev C (.orV (.cmp .NotEq (.ix (.var 0) (.neg (.int 1))) (.int 0)) (.oneV (.cmp .Eq (.var 0) (.tup (.cons (.int 0) .nil))))) [.pur (tupI p), .emp] = some (.bool true, .fresh, [.pur (tupI p), .emp]) := ev_orT z1 rfl
  rw [x_last (x_ret z2 rfl)]
  rfl
def cpBody (i : Nat) : ISs :=
    (.cons (.ifs (.not (.tru (.fcall i (.cons (.var 0) .nil)))) (.cons .never
    .nil) .nil)
    .nil)
theorem cp_run {T : List Fd} {i c : Nat} {fd : Fd} (h : T[c]? = some fd) (hb : fd.body = cpBody i) (hn : fd.nparams = 1) (hm : fd.mode = .plain) (hs : fd.nslots = 1) (k : Nat) (p : List Int) (e : run T k i none [tupI p] = some (.bool true, none)) : run T (k + 1) c none [tupI p] = some (.none, none) := by
  rw [run_at (d := fd) h ⟨by simp [hn], by simp [hm, modeOk], by omega⟩]
  generalize run T k = C at *
  have pp : pur (tupI p) = true := by simp only [tupI, pur, ints_purs]
  have s0 : startRo fd none [tupI p] = [.pur (tupI p)] := by
    simp [startRo, hm, bindS, hs, hn, bind1, pp, pur, List.replicate]
  rw [s0, hb]
  simp [cpBody, execs, exec, evT, ev, evs, gv, okSt, effs, noScr, e, truD, finish]
/-! ### product_row -/
def prTest : IT := .and (.cmp (.cmp .LtE (.var 2) (.glob (Str.ofString "MOST_ROOT") (.int 400)))) (.one (.cmp (.cmp .Gt (.bcall .len (.cons (.var 0) .nil)) (.int 1))))
def prTurn (d : Nat) : ISs := (.cons (.asg (.t2 (.nm 3) (.nm 4)) (.fcall d (.cons (.var 0) (.cons (.var 2) .nil))))
    (.cons (.ifs (.cmp (.cmp .Eq (.var 3) (.int 0))) (.cons (.expr (.mut .append 1 (.cons (.mov 2) .nil)))
    (.cons (.asg (.nm 0) (.mov 4))
    .nil)) (.cons (.aug .Add 2 (.int 1))
    .nil))
    .nil))
def prBody (c d : Nat) : ISs :=
    (.cons (.expr (.fcall c (.cons (.var 0) .nil)))
    (.cons (.par [1, 2] (.cons (.lst .nil) (.cons (.int 0) .nil)))
    (.cons (.whl prTest (prTurn d))
    (.cons (.ret (.bcall .tuple (.cons (.var 1) .nil)))
    .nil))))
def prRo (p f : List Int) (r : Int) (s t : D) : Ro := [.pur (tupI p), .own (.list (f.map .int)), .pur (.int r), pe s, pe t]
theorem pur_tupI (p : List Int) : pur (tupI p) = true := by simp only [tupI, pur, ints_purs]
theorem pe_tupI (p : List Int) : pe (tupI p) = .pur (tupI p) := rfl
theorem pr_test (C : CallF) (p f : List Int) (r : Int) (s t : D) : evT C prTest (prRo p f r s t) = some (decide (r ≤ 400) && decide (1 < p.length), prRo p f r s t) := by
  have g2 : gv (prRo p f r s t) 2 = some (.int r, .fresh) := rfl
  have g0 : gv (prRo p f r s t) 0 = some (tupI p, .fresh) := rfl
  have l0 : bi .len [tupI p] = some (.int p.length) := by simp [bi, tupI]
  by_cases c : r ≤ 400
  · have c1 : cmpop .LtE (.int r) (.int 400) = some true := by
      have : ¬ (400 : Int) < r := by omega
      simp [cmpop, ltD, this]
    have c2 : cmpop .Gt (.int p.length) (.int 1) = some (decide (1 < p.length)) := by
      simp only [cmpop, ltD]
      congr 1
      rw [decide_eq_decide]
      omega
    simp [prTest, evT, ev, evs, g2, g0, okSt, effE, effs, pur, c1, c2, l0, c]
  · have c1 : cmpop .LtE (.int r) (.int 400) = some false := by
      have : (400 : Int) < r := by omega
      simp [cmpop, ltD, this]
    simp [prTest, evT, ev, evs, g2, g0, okSt, effE, effs, pur, c1, c]
theorem pr_turn (C : CallF) (d : Nat) (p f : List Int) (r rest : Int) (q : List Int) (s t : D) (hf : f.length < 100) (e : C d none [tupI p, .int r] = some (.tuple [.int rest, tupI q], none)) :
    execs C (prTurn d) (prRo p f r s t) = some (.nx (if rest = 0 then prRo q (f ++ [r]) r (.int rest) (tupI q) else prRo p f (r + 1) (.int rest) (tupI q))) := by
  have b : bindV (.t2 (.nm 3) (.nm 4)) (.tuple [.int rest, tupI q]) .fresh (prRo p f r s t) = some (prRo p f r (.int rest) (tupI q)) := by
    have h1 := bind_pe 3 s (.int rest) [.pur (tupI p), .own (.list (f.map .int)), .pur (.int r)] [pe t] .fresh (.inl rfl) rfl rfl
    have h2 := bind_pe 4 t (tupI q) [.pur (tupI p), .own (.list (f.map .int)), .pur (.int r), .pur (.int rest)] [] .fresh (.inl rfl) (pur_tupI q) rfl
    have h1' : bindV (.nm 3) (.int rest) .fresh (prRo p f r s t) = some [.pur (tupI p), .own (.list (f.map .int)), .pur (.int r), .pur (.int rest), pe t] := h1
    show (bindV (.nm 3) (.int rest) .fresh (prRo p f r s t)).bind (bindV (.nm 4) (tupI q) .fresh) = _
    rw [h1']
    exact h2
  have g2 : gv (prRo p f r s t) 2 = some (.int r, .fresh) := rfl
  have g0 : gv (prRo p f r s t) 0 = some (tupI p, .fresh) := rfl
  have x1 : exec C (.asg (.t2 (.nm 3) (.nm 4)) (.fcall d (.cons (.var 0) (.cons (.var 2) .nil)))) (prRo p f r s t) = some (.nx (prRo p f r (.int rest) (tupI q))) := by
    refine x_asg (d := .tuple [.int rest, tupI q]) (st := .fresh) (s' := .fresh) (ρ1 := prRo p f r s t) (ρ2 := prRo p f r s t) ?_ rfl b
    simp [ev, evs, g0, g2, okSt, effE, effs, noScr, e]
  unfold prTurn
  rw [x_cons x1]
  have l1 : f.length < 1000000 := by omega
  by_cases c : rest = 0
  · subst c
    simp [execs, exec, evT, ev, evs, gv, prRo, pe_int, pe_tupI, okSt, effE, effs, tkE, tks, isLst, cmpop, eqD, settles, settle, settleA, mu, lim, l1, bindV, noByr, pur_tupI]
  · simp [execs, exec, evT, ev, evs, gv, prRo, pe_int, pe_tupI, okSt, effE, effs, cmpop, eqD, c, augD, augop, deq]
end Zr

set_option maxRecDepth 100000
set_option maxHeartbeats 4000000
/-! ZyG: product_row finds the whole roots. -/
namespace Zr
open PySem
theorem pr_loop (C : CallF) (d : Nat) (hC : ∀ (p : List Int) (r : Int), 0 < p.length → p.length ≤ 40 → 0 ≤ r → r ≤ 400 → C d none [tupI p, .int r] = some (.tuple [.int ((horn r 0 p.reverse).getLastD 0), tupI (horn r 0 p.reverse).dropLast.reverse], none))
  (g : List Int) (hg0 : 0 < g.length) (hg : ∀ x : Int, 0 ≤ x → x ≤ 400 → E g x ≠ 0) :
  ∀ (m : Nat) (S : List Int) (r : Int) (f : List Int) (s t : D), Asc S → (∀ x ∈ S, r ≤ x ∧ x ≤ 400) → 0 ≤ r → S.length + g.length ≤ 40 → f.length + S.length < 100 → (401 - r).toNat + S.length < m → ∃ p' r' s' t', whGo (evT C prTest) (execs C (prTurn d)) m (prRo (chain S g) f r s t) = some (.nx (prRo p' (f ++ S) r' s' t')) := by
  intro m
  induction m with
  | zero =>
    intro S r f s t _ _ _ _ _ h
    omega
  | succ m ih =>
    intro S r f s t hA hS h0 hl hf hm
    simp only [whGo, pr_test]
    have cl := chain_len S g
    by_cases c1 : r ≤ 400
    · by_cases c2 : 1 < (chain S g).length
      · rw [decide_eq_true c1, decide_eq_true c2]
        simp only [Bool.and_self]
        have e := hC (chain S g) r (by omega) (by omega) h0 c1
        rw [pr_turn C d (chain S g) f r _ _ s t (by omega) e]
        have hE := horn_E r (chain S g)
        rw [E_chain] at hE
        have step : prodX r S ≠ 0 → (∀ x ∈ S, r + 1 ≤ x ∧ x ≤ 400) → ∃ p' r' s' t', (match some (Out.nx (if (horn r 0 (chain S g).reverse).getLastD 0 = 0 then prRo (horn r 0 (chain S g).reverse).dropLast.reverse (f ++ [r]) r (.int ((horn r 0 (chain S g).reverse).getLastD 0)) (tupI (horn r 0 (chain S g).reverse).dropLast.reverse) else prRo (chain S g) f (r + 1) (.int ((horn r 0 (chain S g).reverse).getLastD 0)) (tupI (horn r 0 (chain S g).reverse).dropLast.reverse))) with
            | some (.nx ρ2) => whGo (evT C prTest) (execs C (prTurn d)) m ρ2
            | r => r) = some (.nx (prRo p' (f ++ S) r' s' t')) := fun hp hS' => by
          have ne : (horn r 0 (chain S g).reverse).getLastD 0 ≠ 0 := by
            rw [hE]
            exact Int.mul_ne_zero (hg r h0 c1) hp
          rw [if_neg ne]
          exact ih S (r + 1) f _ _ hA hS' (by omega) hl hf (by omega)
        cases S with
        | nil => exact step (by simp [prodX]) (fun x m => nomatch m)
        | cons r0 S' =>
          have hA' := List.pairwise_cons.mp hA
          by_cases q : r0 = r
          · subst q
            have hh : horn r0 0 (chain (r0 :: S') g).reverse = (chain S' g).reverse ++ [0] := by
              simp only [chain]
              exact horn_mulXc r0 (chain S' g) 0
            rw [hh]
            have l1 : ((chain S' g).reverse ++ [0]).getLastD 0 = 0 := by simp [List.getLastD_eq_getLast?]
            have l2 : ((chain S' g).reverse ++ [0]).dropLast.reverse = chain S' g := by simp
            rw [l1, l2, if_pos rfl]
            obtain ⟨p', r', s', t', e'⟩ := ih S' r0 (f ++ [r0]) (.int 0) (tupI (chain S' g)) hA'.2 (fun x mx => ⟨hA'.1 x mx, (hS x (List.mem_cons_of_mem _ mx)).2⟩) h0 (by simp at hl; omega) (by simp at hf ⊢; omega) (by simp at hm; omega)
            refine ⟨p', r', s', t', ?_⟩
            simp only
            rw [e']
            simp
          · have q1 : r + 1 ≤ r0 := by
              have := (hS r0 List.mem_cons_self).1
              omega
            have all : ∀ x ∈ r0 :: S', r + 1 ≤ x ∧ x ≤ 400 := fun x mx => by
              refine ⟨?_, (hS x mx).2⟩
              rcases List.mem_cons.mp mx with rfl | mx
              · exact q1
              · have := hA'.1 x mx
                omega
            exact step (prodX_ne fun x mx => by have := (all x mx).1; omega) all
      · have : S = [] := by
          cases S with
          | nil => rfl
          | cons x S => simp at cl; omega
        subst this
        rw [decide_eq_false c2, Bool.and_false]
        exact ⟨_, _, _, _, by rw [List.append_nil]⟩
    · have : S = [] := by
        cases S with
        | nil => rfl
        | cons x S =>
          have := hS x List.mem_cons_self
          omega
      subst this
      rw [decide_eq_false c1, Bool.false_and]
      exact ⟨_, _, _, _, by rw [List.append_nil]⟩
theorem pr_run {T : List Fd} {c d pr : Nat} {fp fd : Fd} (hp : T[pr]? = some fp) (bp : fp.body = prBody c d) (np : fp.nparams = 1) (mp : fp.mode = .plain) (sp : fp.nslots = 5)
  (hd : T[d]? = some fd) (bd : fd.body = dvBody) (nd : fd.nparams = 2) (md : fd.mode = .plain) (sd : fd.nslots = 5) (k : Nat) (S g : List Int) (hc : run T (k + 1) c none [tupI (chain S g)] = some (.none, none))
  (hg0 : 0 < g.length) (hg : ∀ x : Int, 0 ≤ x → x ≤ 400 → E g x ≠ 0) (hA : Asc S) (hS : ∀ x ∈ S, 0 ≤ x ∧ x ≤ 400) (hl : S.length + g.length ≤ 40) : run T (k + 2) pr none [tupI (chain S g)] = some (tupI S, none) := by
  have hC : ∀ (p : List Int) (r : Int), 0 < p.length → p.length ≤ 40 → 0 ≤ r → r ≤ 400 → run T (k + 1) d none [tupI p, .int r] = some (.tuple [.int ((horn r 0 p.reverse).getLastD 0), tupI (horn r 0 p.reverse).dropLast.reverse], none) := fun p r h0 h1 h2 h3 => dv_run hd bd nd md sd k p r (by omega) h0 h1
  rw [run_at (d := fp) hp ⟨by simp [np], by simp [mp, modeOk], by omega⟩]
  generalize run T (k + 1) = C at *
  have s0 : startRo fp none [tupI (chain S g)] = [.pur (tupI (chain S g)), .emp, .emp, .emp, .emp] := by
    simp [startRo, mp, bindS, sp, np, bind1, pur_tupI, List.replicate]
  rw [s0, bp]
  have x1 : exec C (.expr (.fcall c (.cons (.var 0) .nil))) [.pur (tupI (chain S g)), .emp, .emp, .emp, .emp] = some (.nx [.pur (tupI (chain S g)), .emp, .emp, .emp, .emp]) := by
    simp [exec, ev, evs, gv, okSt, effs, noScr, hc]
  have x2 : exec C (.par [1, 2] (.cons (.lst .nil) (.cons (.int 0) .nil))) [.pur (tupI (chain S g)), .emp, .emp, .emp, .emp] = some (.nx (prRo (chain S g) [] 0 .none .none)) := by
    simp [exec, ev, evs, okSt, effE, effs, tks, tkE, settles, settle, bindNs, bindV, noByr, pur, prRo, pe]
  obtain ⟨p', r', s', t', e⟩ := pr_loop C d hC g hg0 hg wf S 0 [] .none .none hA hS (by decide) hl (by simp; omega) (by simp [wf]; omega)
  have x3 : exec C (.whl prTest (prTurn d)) (prRo (chain S g) [] 0 .none .none) = some (.nx (prRo p' S r' s' t')) := by
    rw [List.nil_append] at e
    simp only [exec]
    exact e
  have x4 : execs C (prBody c d) [.pur (tupI (chain S g)), .emp, .emp, .emp, .emp] = execs C (.cons (.ret (.bcall .tuple (.cons (.var 1) .nil))) .nil) (prRo p' S r' s' t') := (x_cons x1).trans ((x_cons x2).trans (x_cons x3))
  rw [x4]
  have e2 : ev C (.bcall .tuple (.cons (.var 1) .nil)) (prRo p' S r' s' t') = some (tupI S, .fresh, prRo p' S r' s' t') := ev_bi1 (d := .list (S.map .int)) (st := .loan 1) rfl (bi_tuple (ints_purs _))
  rw [x_last (x_ret e2 rfl)]
  rfl
end Zr

set_option maxRecDepth 100000
set_option maxHeartbeats 4000000
/-! ZyL: trimmed, turned_about, a value: walked. -/
namespace Zr
open PySem
/-! ### zeros popped from the end -/
def popT (i : Nat) : IT := .and (.cmp (.cmp .Gt (.bcall .len (.cons (.var i) .nil)) (.int 1))) (.one (.cmp (.cmp .Eq (.ix (.var i) (.neg (.int 1))) (.int 0))))
def popB (i : Nat) : ISs := (.cons (.expr (.mut .pop i .nil))
    .nil)
structure PopR (R : List Int → Ro) (i : Nat) : Prop where
  at_ : ∀ f, (R f)[i]? = some (.own (.list (f.map .int)))
  put : ∀ f g : List Int, (R f).set i (.own (.list (g.map .int))) = R g
theorem ix_lastL {p : List Int} (h : 0 < p.length) : ixD (.list (p.map .int)) (.int (-1)) = some (.int (p.getLastD 0)) := ix_last h
theorem pop_test (C : CallF) {R : List Int → Ro} {i : Nat} (hR : PopR R i) (f : List Int) (hf : 0 < f.length) : evT C (popT i) (R f) = some (decide (1 < f.length) && (f.getLastD 0 == 0), R f) := by
  have g : gv (R f) i = some (.list (f.map .int), .loan i) := by
    unfold gv
    rw [hR.at_ f]
  have v : ev C (.var i) (R f) = some (.list (f.map .int), .loan i, R f) := by simp only [ev, g]
  have l : ev C (.bcall .len (.cons (.var i) .nil)) (R f) = some (.int f.length, .fresh, R f) := ev_bi1 v (by simp [bi])
  have a : evT C (.cmp (.cmp .Gt (.bcall .len (.cons (.var i) .nil)) (.int 1))) (R f) = some (decide (1 < f.length), R f) := evT_cmp (y := .int 1) (sy := .fresh) l (by simp only [ev]) rfl (by
    simp only [cmpop, ltD]
    congr 1
    rw [decide_eq_decide]
    omega)
  have x : ev C (.ix (.var i) (.neg (.int 1))) (R f) = some (.int (f.getLastD 0), .fresh, R f) := ev_ix v (y := .int (-1)) (sy := .fresh) (by simp only [ev]) rfl (ix_lastL hf) rfl
  have b : evT C (.cmp (.cmp .Eq (.ix (.var i) (.neg (.int 1))) (.int 0))) (R f) = some (f.getLastD 0 == 0, R f) := evT_cmp (y := .int 0) (sy := .fresh) x (by simp only [ev]) rfl rfl
  unfold popT
  cases h : decide (1 < f.length) with
  | true =>
    rw [h] at a
    simp only [evT] at a b ⊢
    simp only [a, b, Bool.true_and]
  | false =>
    rw [h] at a
    simp only [evT] at a ⊢
    simp only [a, Bool.false_and]
theorem pop_turn (C : CallF) {R : List Int → Ro} {i : Nat} (hR : PopR R i) (f : List Int) (x : Int) : execs C (popB i) (R (f ++ [x])) = some (.nx (R f)) := by
  have il : isLst (R (f ++ [x])) i = true := by
    unfold isLst
    rw [hR.at_]
  have m : mu .pop ((f ++ [x]).map .int) [] = some (f.map .int, .int x) := by
    simp [mu, pur]
  have e : ev C (.mut .pop i .nil) (R (f ++ [x])) = some (.int x, .fresh, R f) := by
    simp only [ev, il, effs, tks, List.contains_nil, Bool.not_false, Bool.and_self, if_true, evs, settles, hR.at_, m, hR.put]
  refine x_last' ?_
  simp only [exec, e]
theorem pop_loop (C : CallF) {R : List Int → Ro} {i : Nat} (hR : PopR R i) (T : List Int) (h0 : 0 < T.length) (hl : T.getLastD 0 ≠ 0) : ∀ (m n : Nat), m < n → whGo (evT C (popT i)) (execs C (popB i)) n (R (T ++ List.replicate m 0)) = some (.nx (R T))
  | 0, n + 1, _ => by
    have b : (T.getLastD 0 == 0) = false := beq_false_of_ne hl
    simp only [List.replicate_zero, List.append_nil, whGo, pop_test C hR T h0, b, Bool.and_false]
  | m + 1, n + 1, h => by
    have e : T ++ List.replicate (m + 1) 0 = (T ++ List.replicate m 0) ++ [0] := by
      rw [List.replicate_succ', List.append_assoc]
    have l : ((T ++ List.replicate m 0) ++ [(0 : Int)]).getLastD 0 = 0 := by simp [List.getLastD_eq_getLast?]
    have c : decide (1 < ((T ++ List.replicate m 0) ++ [(0 : Int)]).length) = true := decide_eq_true (by simp only [List.length_append, List.length_singleton]; omega)
    rw [e]
    simp only [whGo, pop_test C hR _ (show 0 < ((T ++ List.replicate m 0) ++ [(0 : Int)]).length by simp only [List.length_append, List.length_singleton]; omega), l, c, Bool.true_and, beq_self_eq_true, pop_turn C hR]
    exact pop_loop C hR T h0 hl m n (by omega)
def trBody : ISs :=
    (.cons (.asg (.nm 1) (.bcall .list (.cons (.var 0) .nil)))
    (.cons (.whl (popT 1) (popB 1))
    (.cons (.ret (.bcall .tuple (.cons (.var 1) .nil)))
    .nil)))
theorem tr_run {T : List Fd} {i : Nat} {fd : Fd} (h : T[i]? = some fd) (hb : fd.body = trBody) (hn : fd.nparams = 1) (hm : fd.mode = .plain) (hs : fd.nslots = 2) (k : Nat) (p : List Int) (m : Nat) (h0 : 0 < p.length) (hl : p.getLastD 0 ≠ 0) (hmw : m < 1000) : run T (k + 1) i none [.list ((p ++ List.replicate m 0).map .int)] = some (tupI p, none) := by
  rw [run_at (d := fd) h ⟨by simp [hn], by simp [hm, modeOk], by omega⟩]
  generalize run T k = C
  generalize hF : p ++ List.replicate m 0 = F
  have pf : pur (.list (F.map .int)) = false := rfl
  have s0 : startRo fd none [.list (F.map .int)] = [.bor (.list (F.map .int)), .emp] := by
    simp [startRo, hm, bindS, hs, hn, bind1, pf, List.replicate]
  rw [s0, hb]
  have pF := ints_purs F
  have x1 : exec C (.asg (.nm 1) (.bcall .list (.cons (.var 0) .nil))) [.bor (.list (F.map .int)), .emp] = some (.nx [.bor (.list (F.map .int)), .own (.list (F.map .int))]) := by
    have e : ev C (.bcall .list (.cons (.var 0) .nil)) [.bor (.list (F.map .int)), .emp] = some (.list (F.map .int), .fresh, [.bor (.list (F.map .int)), .emp]) := ev_bi1 (d := .list (F.map .int)) (st := .froz) rfl (by simp only [bi, pF, if_true])
    exact x_asg e rfl rfl
  have R : PopR (fun f => [.bor (.list (F.map .int)), .own (.list (f.map .int))]) 1 := ⟨fun _ => rfl, fun _ _ => rfl⟩
  have x2 : exec C (.whl (popT 1) (popB 1)) [.bor (.list (F.map .int)), .own (.list (F.map .int))] = some (.nx [.bor (.list (F.map .int)), .own (.list (p.map .int))]) := by
    have e := pop_loop C R p h0 hl m wf (by simp [wf]; omega)
    rw [hF] at e
    simp only [exec]
    exact e
  have x3 : execs C trBody [.bor (.list (F.map .int)), .emp] = execs C (.cons (.ret (.bcall .tuple (.cons (.var 1) .nil))) .nil) [.bor (.list (F.map .int)), .own (.list (p.map .int))] := (x_cons x1).trans (x_cons x2)
  rw [x3]
  have e2 : ev C (.bcall .tuple (.cons (.var 1) .nil)) [.bor (.list (F.map .int)), .own (.list (p.map .int))] = some (tupI p, .fresh, [.bor (.list (F.map .int)), .own (.list (p.map .int))]) := ev_bi1 (d := .list (p.map .int)) (st := .loan 1) rfl (bi_tuple (ints_purs _))
  rw [x_last (x_ret e2 rfl)]
  rfl
/-! ### a value by Horner -/
def vlTurn : ISs := (.cons (.asg (.nm 2) (.bin .Add (.bin .Mult (.var 2) (.var 1)) (.var 3)))
    .nil)
def vlBody : ISs :=
    (.cons (.asg (.nm 2) (.int 0))
    (.cons (.for (.nm 3) (.seq (.sls (.var 0) .none .none (-1))) vlTurn)
    (.cons (.ret (.mov 2))
    .nil)))
theorem sls_rev (p : List Int) (h1 : p.length ≤ 40) : slsD (tupI p) none none (-1) = some (tupI p.reverse) := by
  have e := pickT_rev (p.map PyData.int) (by simp; omega)
  simp only [slsD, tupI]
  rw [if_pos ⟨ints_purs p, by decide, by decide, by rw [e]; simp [lim]; omega⟩, e]
  simp
theorem E_fold (q : Int) : ∀ p : List Int, p.foldr (fun x c => c * q + x) 0 = E p q
  | [] => rfl
  | a :: p => by
    simp only [List.foldr_cons, E, E_fold q p]
    rw [Int.mul_comm]
    omega
theorem vl_run {T : List Fd} {i : Nat} {fd : Fd} (h : T[i]? = some fd) (hb : fd.body = vlBody) (hn : fd.nparams = 2) (hm : fd.mode = .plain) (hs : fd.nslots = 4) (k : Nat) (p : List Int) (q : Int) (hq : q.natAbs < 2 ^ 64) (h1 : p.length ≤ 40) : run T (k + 1) i none [tupI p, .int q] = some (.int (E p q), none) := by
  rw [run_at (d := fd) h ⟨by simp [hn], by simp [hm, modeOk], by omega⟩]
  generalize run T k = C
  have s0 : startRo fd none [tupI p, .int q] = [.pur (tupI p), .pur (.int q), .emp, .emp] := by
    simp [startRo, hm, bindS, hs, hn, bind1, pur_tupI, pur, List.replicate]
  rw [s0, hb]
  have x1 : exec C (.asg (.nm 2) (.int 0)) [.pur (tupI p), .pur (.int q), .emp, .emp] = some (.nx [.pur (tupI p), .pur (.int q), .pur (.int 0), pe .none]) := rfl
  have turn : ∀ x ∈ p.reverse, ∀ (c : Int) (ρ : Ro), (∃ t, ρ = [.pur (tupI p), .pur (.int q), .pur (.int c), pe t]) → ∃ ρ', (bindV (.nm 3) (.int x) .froz ρ).bind (execs C vlTurn) = some (.nx ρ') ∧ ∃ t, ρ' = [.pur (tupI p), .pur (.int q), .pur (.int (c * q + x)), pe t] := by
    rintro x _ c ρ ⟨t, rfl⟩
    refine ⟨_, ?_, .int x, rfl⟩
    have b : bindV (.nm 3) (.int x) .froz [.pur (tupI p), .pur (.int q), .pur (.int c), pe t] = some [.pur (tupI p), .pur (.int q), .pur (.int c), .pur (.int x)] := bind_pe 3 t (.int x) [.pur (tupI p), .pur (.int q), .pur (.int c)] [] .froz (.inr rfl) rfl rfl
    rw [b, Option.bind_some]
    have m1 : mulOk c q = true := by
      have : decide (q.natAbs < 2 ^ 64) = true := decide_eq_true hq
      simp only [mulOk, mulSm, this, Bool.or_true, Bool.true_or]
    have e1 : ev C (.bin .Mult (.var 2) (.var 1)) [.pur (tupI p), .pur (.int q), .pur (.int c), .pur (.int x)] = some (.int (c * q), .fresh, [.pur (tupI p), .pur (.int q), .pur (.int c), .pur (.int x)]) := ev_bin (x := .int c) (y := .int q) rfl rfl rfl (by simp only [binop, m1, if_true])
    exact x_last' (x_asg (ev_bin (op := .Add) (b := .var 3) (y := .int x) e1 rfl rfl (d := .int (c * q + x)) rfl) rfl rfl)
  obtain ⟨ρ', e, t, rfl⟩ := forGo_foldM (turn := fun x ρ => (bindV (.nm 3) x .froz ρ).bind (execs C vlTurn)) (fun c ρ => ∃ t, ρ = [.pur (tupI p), .pur (.int q), .pur (.int c), pe t]) PyData.int (fun c x => c * q + x) p.reverse turn 0 _ ⟨.none, rfl⟩
  rw [List.foldl_reverse, E_fold] at e
  have ei : evI C (.seq (.sls (.var 0) .none .none (-1))) [.pur (tupI p), .pur (.int q), .pur (.int 0), pe .none] = some (p.reverse.map .int, [.fresh], [.pur (tupI p), .pur (.int q), .pur (.int 0), pe .none]) := by
    have g : gv [.pur (tupI p), .pur (.int q), .pur (.int 0), pe .none] 0 = some (tupI p, .fresh) := rfl
    simp only [evI, ev, evO, g, okSt, sls_rev p h1, if_true]
    rfl
  have x2 := (x_for (C := C) (b := vlTurn) (turn := fun x ρ => (bindV (.nm 3) x .froz ρ).bind (execs C vlTurn)) ei rfl fun _ _ => rfl).trans e
  have x3 : execs C vlBody [.pur (tupI p), .pur (.int q), .emp, .emp] = execs C (.cons (.ret (.mov 2)) .nil) [.pur (tupI p), .pur (.int q), .pur (.int (E p q)), pe t] := (x_cons x1).trans (x_cons x2)
  rw [x3]
  rfl
/-! ### P(s - x) -/
def turnL (s : Int) : List Int → List Int
  | [] => []
  | a :: as => conv [s, -1] [a] (turnL s as)
theorem turnL_len (s : Int) : ∀ p, (turnL s p).length = p.length
  | [] => rfl
  | a :: p => by
    rw [turnL, conv_len _ _ _ rfl, turnL_len s p]
    rfl
theorem E_turnL (s x : Int) : ∀ p, E (turnL s p) x = E p (s - x)
  | [] => rfl
  | a :: p => by
    rw [turnL, E_conv _ _ _ _ rfl, E_turnL s x p]
    simp only [E, Int.mul_zero, Int.add_zero]
    rw [show s + x * -1 = s - x by omega, Int.mul_comm]
    omega
theorem turnL_turnL (s : Int) (p : List Int) : turnL s (turnL s p) = p :=
  E_ext _ _ 0 (by rw [turnL_len, turnL_len]) fun x _ => by
    rw [E_turnL, E_turnL]
    congr 1
    omega
theorem conv_s (s w : Int) (b : Int) (bs : List Int) : conv [s, -1] [w] (b :: bs) = (w + b * s) :: conv [s, -1] [0 + b * -1] bs := rfl
theorem conv_last (s : Int) : ∀ (q : List Int) (w : Int), (conv [s, -1] [w] q).getLastD 0 = if q = [] then w else -(q.getLastD 0)
  | [], w => rfl
  | [b], w => by
    rw [conv_s]
    simp [conv] <;> omega
  | b :: c :: q, w => by
    have ih := conv_last s (c :: q) (0 + b * -1)
    rw [conv_s, if_neg (by simp)]
    rw [if_neg (by simp)] at ih
    rw [conv_s] at ih ⊢
    simp only [List.getLastD_cons] at ih ⊢
    exact ih
theorem turnL_last (s : Int) : ∀ p : List Int, p.getLastD 0 ≠ 0 → (turnL s p).getLastD 0 ≠ 0
  | [], h => h
  | [a], h => h
  | a :: b :: p, h => by
    have ih := turnL_last s (b :: p) h
    rw [turnL, conv_last]
    have ne : turnL s (b :: p) ≠ [] := by
      intro e
      have := turnL_len s (b :: p)
      rw [e] at this
      simp at this
    rw [if_neg ne]
    omega
theorem conv_size (s : Int) (B : Nat) : ∀ (q : List Int) (c : Int), c.natAbs ≤ B → szs B q → szs (B * (s.natAbs + 1)) (conv [s, -1] [c] q)
  | [], c, hc, _, x, m => by
    rw [conv, List.mem_singleton] at m
    subst m
    exact Nat.le_trans hc (Nat.le_mul_of_pos_right B (by omega))
  | a :: q, c, hc, h, x, m => by
    rw [conv_s] at m
    rcases List.mem_cons.mp m with rfl | m
    · have ha := h a List.mem_cons_self
      have h1 : (c + a * s).natAbs ≤ c.natAbs + a.natAbs * s.natAbs := by
        have := Int.natAbs_add_le c (a * s)
        rw [Int.natAbs_mul] at this
        exact this
      have h2 : a.natAbs * s.natAbs ≤ B * s.natAbs := Nat.mul_le_mul_right _ ha
      rw [Nat.mul_succ]
      omega
    · exact conv_size s B q _ (by have := h a List.mem_cons_self; omega) (fun y my => h y (List.mem_cons_of_mem _ my)) x m
theorem turnL_size (s : Int) (B : Nat) : ∀ p : List Int, szs B p → szs (B * (s.natAbs + 1) ^ p.length) (turnL s p)
  | [], _, x, m => nomatch m
  | a :: p, h, x, m => by
    have ih := turnL_size s B p fun y my => h y (List.mem_cons_of_mem _ my)
    have ha : a.natAbs ≤ B * (s.natAbs + 1) ^ p.length := Nat.le_trans (h a List.mem_cons_self) (Nat.le_mul_of_pos_right B (Nat.pow_pos (by omega)))
    have := conv_size s _ (turnL s p) a ha ih x m
    rw [List.length_cons, Nat.pow_succ, ← Nat.mul_assoc]
    exact this
theorem conv_zero (s : Int) : ∀ (q : List Int) (w : Int), conv [s, -1] [w] (q ++ [0]) = conv [s, -1] [w] q ++ [0]
  | [], w => by
    show conv [s, -1] [w] [0] = [w] ++ [0]
    rw [conv_s]
    simp [conv]
  | b :: q, w => by
    rw [List.cons_append, conv_s, conv_s, conv_zero s q, List.cons_append]
theorem turn0_eq (s : Int) : ∀ p : List Int, p.foldr (fun x f => conv [s, -1] [x] f) [0] = turnL s p ++ [0]
  | [] => rfl
  | a :: p => by
    rw [List.foldr_cons, turn0_eq s p, conv_zero]
    rfl
theorem conv_head (s x : Int) (f : List Int) : (conv [s, -1] [0] f).set 0 ((conv [s, -1] [0] f).getD 0 0 + x) = conv [s, -1] [x] f := by
  cases f with
  | nil => simp [conv]
  | cons b f =>
    rw [conv_s, conv_s]
    simp
    omega
/-! ### turned_about -/
def iwBody (j : Nat) : ISs := (.cons (.ret (.andV (.fcall j (.cons (.var 0) .nil)) (.oneV (.chain .LtE .LtE (.var 1) (.var 0) (.var 2)))))
    .nil)
theorem iw_run {T : List Fd} {i j : Nat} {fd fe : Fd} (h : T[j]? = some fe) (hb : fe.body = iiBody) (hn : fe.nparams = 1) (hm : fe.mode = .plain) (hs : fe.nslots = 1) (h' : T[i]? = some fd) (hb' : fd.body = iwBody j) (hn' : fd.nparams = 3) (hm' : fd.mode = .plain) (hs' : fd.nslots = 3) (k : Nat) (x lo hi : Int) (h1 : lo ≤ x) (h2 : x ≤ hi) : run T (k + 2) i none [.int x, .int lo, .int hi] = some (.bool true, none) := by
  have hc := ii_run h hb hn hm hs k x
  rw [run_at (d := fd) h' ⟨by simp [hn'], by simp [hm', modeOk], by omega⟩]
  generalize run T (k + 1) = C at *
  have s0 : startRo fd none [.int x, .int lo, .int hi] = [.pur (.int x), .pur (.int lo), .pur (.int hi)] := by
    simp [startRo, hm', bindS, hs', hn', bind1, pur]
  rw [s0, hb']
  have c1 : cmpop .LtE (.int lo) (.int x) = some true := by
    have : ¬ x < lo := by omega
    simp [cmpop, ltD, this]
  have c2 : cmpop .LtE (.int x) (.int hi) = some true := by
    have : ¬ hi < x := by omega
    simp [cmpop, ltD, this]
  simp [iwBody, execs, exec, ev, evs, gv, okSt, effE, effs, noScr, hc, truD, c1, c2, settle, finish]
def taTurn (i : Nat) : ISs := (.cons (.asg (.nm 2) (.fcall i (.cons (.var 2) (.cons (.lst (.cons (.mov 1) (.cons (.neg (.int 1)) .nil))) .nil))))
    (.cons (.augx .Add 2 (.int 0) (.var 3))
    .nil))
def taBody (c w i tr : Nat) : ISs :=
    (.cons (.expr (.fcall c (.cons (.var 0) .nil)))
    (.cons (.ifs (.not (.tru (.fcall w (.cons (.var 1) (.cons (.neg (.glob (Str.ofString "MOST_X") (.int 1000000000))) (.cons (.glob (Str.ofString "MOST_X") (.int 1000000000)) .nil)))))) (.cons .never
    .nil) .nil)
    (.cons (.asg (.nm 2) (.lst (.cons (.int 0) .nil)))
    (.cons (.for (.nm 3) (.seq (.sls (.var 0) .none .none (-1))) (taTurn i))
    (.cons (.ret (.fcall tr (.cons (.var 2) .nil)))
    .nil)))))
def taRo (p : List Int) (s : Int) (f : List Int) (t : D) : Ro := [.pur (tupI p), .pur (.int s), .own (.list (f.map .int)), pe t]
theorem ta_turn (C : CallF) (i : Nat) (p : List Int) (s : Int) (hs : s.natAbs ≤ 1000000000) (hC : ∀ f : List Int, f.length ≤ 100 → C i none [.list (f.map .int), .list [.int s, .int (-1)]] = some (.list ((conv [s, -1] [0] f).map .int), none)) (f : List Int) (hf : f.length ≤ 100) (t : D) (x : Int) :
    (bindV (.nm 3) (.int x) .froz (taRo p s f t)).bind (execs C (taTurn i)) = some (.nx (taRo p s (conv [s, -1] [x] f) (.int x))) := by
  have b : bindV (.nm 3) (.int x) .froz (taRo p s f t) = some (taRo p s f (.int x)) := bind_pe 3 t (.int x) [.pur (tupI p), .pur (.int s), .own (.list (f.map .int))] [] .froz (.inr rfl) rfl rfl
  rw [b, Option.bind_some]
  have e1 : ev C (.fcall i (.cons (.var 2) (.cons (.lst (.cons (.mov 1) (.cons (.neg (.int 1)) .nil))) .nil))) (taRo p s f (.int x)) = some (.list ((conv [s, -1] [0] f).map .int), .fresh, taRo p s f (.int x)) := by
    simp [ev, evs, gv, taRo, okSt, effE, effs, tks, tkE, noScr, settles, settle, lim, hC f hf]
  have x1 : exec C (.asg (.nm 2) (.fcall i (.cons (.var 2) (.cons (.lst (.cons (.mov 1) (.cons (.neg (.int 1)) .nil))) .nil)))) (taRo p s f (.int x)) = some (.nx (taRo p s (conv [s, -1] [0] f) (.int x))) := x_asg e1 rfl rfl
  have l0 : 0 < (conv [s, -1] [0] f).length := by
    rw [conv_len _ _ _ rfl]
    simp
  have st := set_low (low := conv [s, -1] [0] f) (i := 0) l0 ((conv [s, -1] [0] f).getD 0 0 + x)
  rw [conv_head] at st
  have il : itemL (taRo p s (conv [s, -1] [0] f) (.int x)) 2 0 = some ((conv [s, -1] [0] f).getD 0 0) := by
    cases h : conv [s, -1] [0] f with
    | nil =>
      rw [h] at l0
      simp at l0
    | cons y ys =>
      simp [itemL, taRo, pixN] <;> omega
  unfold taTurn
  rw [x_cons x1]
  have z := x_augx (C := C) (i := 2) (op := .Add) (k := .int 0) (e := .var 3) (ρ := taRo p s (conv [s, -1] [0] f) (.int x)) (ρ1 := taRo p s (conv [s, -1] [0] f) (.int x)) (ρ2 := taRo p s (conv [s, -1] [0] f) (.int x)) (st := .fresh) (st' := .fresh) (n := 0) (y := x) (z := (conv [s, -1] [0] f).getD 0 0 + x) rfl (by simp only [ev]) il rfl rfl rfl st
  exact x_last' z
theorem ta_run {T : List Fd} {c w i tr ta : Nat} {ft fw fi fa fe : Fd} (he : T[0]? = some fe) (be : fe.body = iiBody) (ne : fe.nparams = 1) (me : fe.mode = .plain) (se : fe.nslots = 1)
  (hw : T[w]? = some fw) (bw : fw.body = iwBody 0) (nw : fw.nparams = 3) (mw : fw.mode = .plain) (sw : fw.nslots = 3)
  (hi : T[i]? = some fi) (bi' : fi.body = tpBody) (ni : fi.nparams = 2) (mi : fi.mode = .plain) (si : fi.nslots = 7)
  (ht : T[tr]? = some ft) (bt : ft.body = trBody) (nt : ft.nparams = 1) (mt : ft.mode = .plain) (st : ft.nslots = 2)
  (ha : T[ta]? = some fa) (ba : fa.body = taBody c w i tr) (na : fa.nparams = 2) (ma : fa.mode = .plain) (sa : fa.nslots = 4)
  (k : Nat) (p : List Int) (s : Int) (hs : s.natAbs ≤ 1000000000) (hc : run T (k + 2) c none [tupI p] = some (.none, none)) (h0 : 0 < p.length) (h1 : p.length ≤ 40) (hl : p.getLastD 0 ≠ 0) :
    run T (k + 3) ta none [tupI p, .int s] = some (tupI (turnL s p), none) := by
  have cw := iw_run he be ne me se hw bw nw mw sw k s (-1000000000) 1000000000 (by omega) (by omega)
  have cC : ∀ f : List Int, f.length ≤ 100 → run T (k + 2) i none [.list (f.map .int), .list [.int s, .int (-1)]] = some (.list ((conv [s, -1] [0] f).map .int), none) := fun f hf =>
    tp_run hi bi' ni mi si (k + 1) (A := .list (f.map .int)) (B := .list ([s, -1].map .int)) (a := f) (b := [s, -1]) (.inl rfl) (.inl rfl) (by
      intro y my
      simp only [List.mem_cons, List.not_mem_nil, or_false] at my
      rcases my with rfl | rfl <;> omega) (by simp) (by simp; omega)
  have ct := tr_run ht bt nt mt st (k + 1) (turnL s p) 1 (by rw [turnL_len]; exact h0) (turnL_last s p hl) (by decide)
  rw [run_at (d := fa) ha ⟨by simp [na], by simp [ma, modeOk], by omega⟩]
  generalize run T (k + 2) = C at *
  have s0 : startRo fa none [tupI p, .int s] = [.pur (tupI p), .pur (.int s), .emp, .emp] := by
    simp [startRo, ma, bindS, sa, na, bind1, pur_tupI, pur, List.replicate]
  rw [s0, ba]
  have x1 : exec C (.expr (.fcall c (.cons (.var 0) .nil))) [.pur (tupI p), .pur (.int s), .emp, .emp] = some (.nx [.pur (tupI p), .pur (.int s), .emp, .emp]) := by
    simp [exec, ev, evs, gv, okSt, effs, noScr, hc]
  have x2 : exec C (.ifs (.not (.tru (.fcall w (.cons (.var 1) (.cons (.neg (.glob (Str.ofString "MOST_X") (.int 1000000000))) (.cons (.glob (Str.ofString "MOST_X") (.int 1000000000)) .nil)))))) (.cons .never
    .nil) .nil) [.pur (tupI p), .pur (.int s), .emp, .emp] = some (.nx [.pur (tupI p), .pur (.int s), .emp, .emp]) := by
    simp [exec, execs, evT, ev, evs, gv, okSt, effE, effs, noScr, pur, cw, truD]
  have x3 : exec C (.asg (.nm 2) (.lst (.cons (.int 0) .nil))) [.pur (tupI p), .pur (.int s), .emp, .emp] = some (.nx (taRo p s [0] .none)) := by
    simp [exec, ev, evs, okSt, effs, settles, settle, settleA, lim, bindV, noByr, pur, taRo, pe]
  obtain ⟨ρ', e, t, rfl⟩ := forGo_len (turn := fun x ρ => (bindV (.nm 3) x .froz ρ).bind (execs C (taTurn i))) (fun f ρ => ∃ t, ρ = taRo p s f t) PyData.int (fun f x => conv [s, -1] [x] f) List.length 1 100 (fun f x => by rw [conv_len _ _ _ rfl]; simp) p.reverse (fun x _ f ρ hM ⟨t, hρ⟩ => by
    subst hρ
    exact ⟨_, ta_turn C i p s hs cC f (by omega) t x, .int x, rfl⟩) [0] _ (by simp; omega) ⟨.none, rfl⟩
  rw [List.foldl_reverse, turn0_eq] at e
  have ei : evI C (.seq (.sls (.var 0) .none .none (-1))) (taRo p s [0] .none) = some (p.reverse.map .int, [.fresh], taRo p s [0] .none) := by
    have g : gv (taRo p s [0] .none) 0 = some (tupI p, .fresh) := rfl
    simp only [evI, ev, evO, g, okSt, sls_rev p h1, if_true]
    rfl
  have x4 := (x_for (C := C) (b := taTurn i) (turn := fun x ρ => (bindV (.nm 3) x .froz ρ).bind (execs C (taTurn i))) ei rfl fun _ _ => rfl).trans e
  have x5 : execs C (taBody c w i tr) [.pur (tupI p), .pur (.int s), .emp, .emp] = execs C (.cons (.ret (.fcall tr (.cons (.var 2) .nil))) .nil) (taRo p s (turnL s p ++ [0]) t) := (x_cons x1).trans ((x_cons x2).trans ((x_cons x3).trans (x_cons x4)))
  rw [x5]
  have ct' : C tr none [.list ((turnL s p ++ [0]).map .int)] = some (tupI (turnL s p), none) := ct
  have e2 : ev C (.fcall tr (.cons (.var 2) .nil)) (taRo p s (turnL s p ++ [0]) t) = some (tupI (turnL s p), .fresh, taRo p s (turnL s p ++ [0]) t) := by
    have g : ev C (.var 2) (taRo p s (turnL s p ++ [0]) t) = some (.list ((turnL s p ++ [0]).map .int), .loan 2, taRo p s (turnL s p ++ [0]) t) := rfl
    simp only [ev] at g
    simp only [ev, evs, g, okSt, effs, List.contains_nil, Bool.not_false, if_true, List.all_cons, List.all_nil, noScr, Bool.and_self, List.map_cons, List.map_nil, ct']
  rw [x_last (x_ret e2 rfl)]
  rfl
end Zr

set_option maxRecDepth 100000
set_option maxHeartbeats 0
namespace Zr
open PySem
namespace Ir
def f_is_integer : Fd := { name := (Str.ofString "is_integer"), nparams := 1, mode := .plain, nslots := 1, body :=
    (.cons (.ret (.andV (.isi (.var 0) [.int]) (.oneV (.notV (.isi (.var 0) [.bool])))))
    .nil) }
def f_is_within : Fd := { name := (Str.ofString "is_within"), nparams := 3, mode := .plain, nslots := 3, body :=
    (.cons (.ret (.andV (.fcall 0 (.cons (.var 0) .nil)) (.oneV (.chain .LtE .LtE (.var 1) (.var 0) (.var 2)))))
    .nil) }
def f_trimmed : Fd := { name := (Str.ofString "trimmed"), nparams := 1, mode := .plain, nslots := 2, body :=
    (.cons (.asg (.nm 1) (.bcall .list (.cons (.var 0) .nil)))
    (.cons (.whl (.and (.cmp (.cmp .Gt (.bcall .len (.cons (.var 1) .nil)) (.int 1))) (.one (.cmp (.cmp .Eq (.ix (.var 1) (.neg (.int 1))) (.int 0))))) (.cons (.expr (.mut .pop 1 .nil))
    .nil))
    (.cons (.ret (.bcall .tuple (.cons (.var 1) .nil)))
    .nil))) }
def f_is_poly : Fd := { name := (Str.ofString "is_poly"), nparams := 1, mode := .plain, nslots := 2, body :=
    (.cons (.ifs (.or (.not (.tru (.isi (.var 0) [.tuple]))) (.or (.not (.cmp (.chain .LtE .LtE (.int 1) (.bcall .len (.cons (.var 0) .nil)) (.int 40)))) (.one (.not (.tru (.bcall .all (.cons (.lc [1] (.fcall 0 (.cons (.var 1) .nil)) (.nm 1) (.seq (.var 0)) .yes) .nil))))))) (.cons (.ret (.bl false))
    .nil) .nil)
    (.cons (.ifs (.tru (.bcall .any (.cons (.lc [1] (.cmp .GtE (.bcall .abs (.cons (.var 1) .nil)) (.glob (Str.ofString "MOST_SIZE") (.int 1000000000000000000000000000000))) (.nm 1) (.seq (.var 0)) .yes) .nil))) (.cons (.ret (.bl false))
    .nil) .nil)
    (.cons (.ret (.orV (.cmp .NotEq (.ix (.var 0) (.neg (.int 1))) (.int 0)) (.oneV (.cmp .Eq (.var 0) (.tup (.cons (.int 0) .nil))))))
    .nil))) }
def f_check_poly : Fd := { name := (Str.ofString "check_poly"), nparams := 1, mode := .plain, nslots := 1, body :=
    (.cons (.ifs (.not (.tru (.fcall 3 (.cons (.var 0) .nil)))) (.cons .never
    .nil) .nil)
    .nil) }
def f_check_run : Fd := { name := (Str.ofString "check_run"), nparams := 2, mode := .plain, nslots := 2, body :=
    (.cons (.ifs (.or (.not (.tru (.fcall 1 (.cons (.var 0) (.cons (.neg (.glob (Str.ofString "MOST_END") (.int 20))) (.cons (.int 1) .nil)))))) (.or (.not (.tru (.fcall 1 (.cons (.var 1) (.cons (.neg (.int 1)) (.cons (.glob (Str.ofString "MOST_END") (.int 20)) .nil)))))) (.one (.cmp (.cmp .Gt (.var 0) (.var 1)))))) (.cons .never
    .nil) .nil)
    .nil) }
def f_check_ruled : Fd := { name := (Str.ofString "check_ruled"), nparams := 3, mode := .plain, nslots := 3, body :=
    (.cons (.ifs (.not (.tru (.fcall 1 (.cons (.var 0) (.cons (.glob (Str.ofString "LEAST_N") (.int 2)) (.cons (.glob (Str.ofString "MOST_N") (.int 12)) .nil)))))) (.cons .never
    .nil) .nil)
    (.cons (.expr (.fcall 5 (.cons (.var 1) (.cons (.var 2) .nil))))
    .nil)) }
def f_terms_product : Fd := { name := (Str.ofString "terms_product"), nparams := 2, mode := .plain, nslots := 7, body :=
    (.cons (.asg (.nm 2) (.bin .Mult (.lst (.cons (.int 0) .nil)) (.bin .Sub (.bin .Add (.bcall .len (.cons (.var 0) .nil)) (.bcall .len (.cons (.var 1) .nil))) (.int 1))))
    (.cons (.for (.t2 (.nm 3) (.nm 4)) (.enum (.var 0)) (.cons (.for (.t2 (.nm 5) (.nm 6)) (.enum (.var 1)) (.cons (.augx .Add 2 (.bin .Add (.var 3) (.var 5)) (.bin .Mult (.var 4) (.var 6)))
    .nil))
    .nil))
    (.cons (.ret (.mov 2))
    .nil))) }
def f_raised_to : Fd := { name := (Str.ofString "raised_to"), nparams := 2, mode := .plain, nslots := 4, body :=
    (.cons (.asg (.nm 2) (.lst (.cons (.int 1) .nil)))
    (.cons (.for (.nm 3) (.rng1 (.var 1)) (.cons (.asg (.nm 2) (.fcall 7 (.cons (.var 2) (.cons (.var 0) .nil))))
    .nil))
    (.cons (.ret (.mov 2))
    .nil))) }
def f_poly_of_like : Fd := { name := (Str.ofString "poly_of_like"), nparams := 2, mode := .plain, nslots := 4, body :=
    (.cons (.asg (.nm 2) (.lst (.cons (.int 0) (.cons (.int 1) .nil))))
    (.cons (.for (.nm 3) (.rng2 (.int 1) (.var 0)) (.cons (.asg (.nm 2) (.fcall 7 (.cons (.var 2) (.cons (.lst (.cons (.neg (.bin .Add (.bin .Mult (.var 0) (.var 1)) (.var 3))) (.cons (.int 1) .nil))) .nil))))
    .nil))
    (.cons (.ret (.mov 2))
    .nil))) }
def f_poly_of_unlike : Fd := { name := (Str.ofString "poly_of_unlike"), nparams := 3, mode := .plain, nslots := 13, body :=
    (.cons (.asg (.nm 3) (.fcall 8 (.cons (.bin .Add (.bin .Mult (.lst (.cons (.int 0) .nil)) (.var 1)) (.bin .Mult (.lst (.cons (.int 1) .nil)) (.bin .Sub (.var 2) (.var 1)))) (.cons (.var 0) .nil))))
    (.cons (.asg (.nm 4) (.bin .Mult (.lst (.cons (.int 0) .nil)) (.var 0)))
    (.cons (.for (.t2 (.nm 7) (.nm 8)) (.enum (.var 3)) (.cons (.ifs (.cmp (.cmp .NotEq (.var 8) (.int 0))) (.cons (.asg (.nm 9) (.fcall 8 (.cons (.lst (.cons (.neg (.var 7)) (.cons (.int 1) .nil))) (.cons (.bin .Sub (.var 0) (.int 1)) .nil))))
    (.cons (.asg (.nm 4) (.lc [11, 12] (.bin .Add (.var 11) (.bin .Mult (.var 8) (.var 12))) (.t2 (.nm 11) (.nm 12)) (.zip (.var 4) (.var 9)) .yes))
    .nil)) .nil)
    .nil))
    (.cons (.asg (.nm 5) (.int 1))
    (.cons (.for (.nm 6) (.rng1 (.var 0)) (.cons (.asg (.nm 5) (.bin .Mult (.var 5) (.bin .Sub (.var 2) (.var 1))))
    .nil))
    (.cons (.ret (.bin .Add (.lst (.cons (.int 0) .nil)) (.lc [10] (.bin .FloorDiv (.var 10) (.var 5)) (.nm 10) (.seq (.var 4)) .yes)))
    .nil)))))) }
def f_raw_run_poly : Fd := { name := (Str.ofString "raw_run_poly"), nparams := 3, mode := .plain, nslots := 5, body :=
    (.cons (.par [3, 4] (.cons (.bin .Sub (.int 1) (.var 1)) (.cons (.bin .Add (.var 2) (.int 1)) .nil)))
    (.cons (.ifs (.cmp (.cmp .Eq (.var 3) (.var 4))) (.cons (.ret (.fcall 2 (.cons (.fcall 9 (.cons (.var 0) (.cons (.var 2) .nil))) .nil)))
    .nil) .nil)
    (.cons (.ret (.fcall 2 (.cons (.fcall 10 (.cons (.var 0) (.cons (.bcall .min (.cons (.var 3) (.cons (.var 4) .nil))) (.cons (.bcall .max (.cons (.var 3) (.cons (.var 4) .nil))) .nil)))) .nil)))
    .nil))) }
def f_run_poly : Fd := { name := (Str.ofString "run_poly"), nparams := 3, mode := .plain, nslots := 3, body :=
    (.cons (.expr (.fcall 6 (.cons (.var 0) (.cons (.var 1) (.cons (.var 2) .nil)))))
    (.cons (.ret (.fcall 11 (.cons (.var 0) (.cons (.var 1) (.cons (.var 2) .nil)))))
    .nil)) }
def f_turned_about : Fd := { name := (Str.ofString "turned_about"), nparams := 2, mode := .plain, nslots := 4, body :=
    (.cons (.expr (.fcall 4 (.cons (.var 0) .nil)))
    (.cons (.ifs (.not (.tru (.fcall 1 (.cons (.var 1) (.cons (.neg (.glob (Str.ofString "MOST_X") (.int 1000000000))) (.cons (.glob (Str.ofString "MOST_X") (.int 1000000000)) .nil)))))) (.cons .never
    .nil) .nil)
    (.cons (.asg (.nm 2) (.lst (.cons (.int 0) .nil)))
    (.cons (.for (.nm 3) (.seq (.sls (.var 0) .none .none (-1))) (.cons (.asg (.nm 2) (.fcall 7 (.cons (.var 2) (.cons (.lst (.cons (.mov 1) (.cons (.neg (.int 1)) .nil))) .nil))))
    (.cons (.augx .Add 2 (.int 0) (.var 3))
    .nil)))
    (.cons (.ret (.fcall 2 (.cons (.var 2) .nil)))
    .nil))))) }
def f_run_middle : Fd := { name := (Str.ofString "run_middle"), nparams := 3, mode := .plain, nslots := 3, body :=
    (.cons (.expr (.fcall 6 (.cons (.var 0) (.cons (.var 1) (.cons (.var 2) .nil)))))
    (.cons (.ret (.bin .Mult (.var 0) (.bin .Add (.bin .Sub (.var 2) (.var 1)) (.int 1))))
    .nil)) }
def f__law_hand : Fd := { name := (Str.ofString "_law_hand"), nparams := 1, mode := .scr, nslots := 3, body :=
    (.cons (.asg (.nm 1) (.lc [2] (.bcall .abs (.cons (.bcall .int (.cons (.var 2) .nil)) .nil)) (.nm 2) (.seq (.sl (.var 0) .none (.some (.int 63)))) .yes))
    (.cons (.ret (.lst (.cons (.mov 1) (.cons (.int 0) (.cons (.int 0) (.cons (.bin .Add (.int 5045) (.bin .Mult (.int 7) (.bcall .len (.cons (.var 1) .nil)))) (.cons (.int 0) .nil)))))))
    .nil)) }
def f__law_draw : Fd := { name := (Str.ofString "_law_draw"), nparams := 2, mode := .byr, nslots := 5, body :=
    (.cons (.ifs (.and (.cmp (.cmp .Eq (.ix (.var 0) (.int 2)) (.int 0))) (.one (.cmp (.cmp .Lt (.ix (.var 0) (.int 1)) (.bcall .len (.cons (.ix (.var 0) (.int 0)) .nil)))))) (.cons (.asg (.nm 3) (.ix (.ix (.var 0) (.int 0)) (.ix (.var 0) (.int 1))))
    (.cons (.set 0 (.int 1) (.bin .Add (.ix (.var 0) (.int 1)) (.int 1)))
    (.cons (.set 0 (.int 3) (.bin .Mod (.bcall .int (.cons (.bin .Add (.bin .Add (.bin .Mult (.ix (.var 0) (.int 3)) (.int 69621)) (.bin .Mult (.var 3) (.int 40692))) (.int 31)) .nil)) (.int 2147483629)))
    (.cons (.ifs (.cmp (.cmp .GtE (.var 3) (.bin .Pow (.int 10) (.int 18)))) (.cons (.set 0 (.int 2) (.mov 3))
    .nil) .nil)
    .nil)))) .nil)
    (.cons (.ifs (.cmp (.cmp .Gt (.ix (.var 0) (.int 2)) (.int 0))) (.cons (.asg (.nm 4) (.bin .Mod (.bcall .int (.cons (.ix (.var 0) (.int 2)) .nil)) (.var 1)))
    (.cons (.set 0 (.int 2) (.bin .FloorDiv (.ix (.var 0) (.int 2)) (.var 1)))
    (.cons (.ret (.mov 4))
    .nil))) .nil)
    (.cons (.set 0 (.int 4) (.bin .Add (.ix (.var 0) (.int 4)) (.int 1)))
    (.cons (.asg (.nm 2) (.bin .Mod (.bcall .int (.cons (.bin .Mult (.bcall .int (.cons (.bin .Add (.ix (.var 0) (.int 3)) (.bin .Mult (.int 7919) (.ix (.var 0) (.int 4)))) .nil)) (.int 48271)) .nil)) (.int 2147483647)))
    (.cons (.asg (.nm 2) (.bin .Mod (.bcall .int (.cons (.bin .Mult (.var 2) (.bin .Add (.bin .FloorDiv (.var 2) (.int 1009)) (.int 69621))) .nil)) (.int 2147483647)))
    (.cons (.asg (.nm 2) (.bin .Mod (.bcall .int (.cons (.bin .Mult (.var 2) (.bin .Add (.bin .FloorDiv (.var 2) (.int 2003)) (.int 40014))) .nil)) (.int 2147483563)))
    (.cons (.ret (.bin .Mod (.bcall .int (.cons (.bin .FloorDiv (.var 2) (.int 16)) .nil)) (.var 1)))
    .nil))))))) }
def f__law_any : Fd := { name := (Str.ofString "_law_any"), nparams := 2, mode := .byr, nslots := 2, body :=
    (.cons (.ret (.ix (.var 1) (.fref 16 0 (.cons (.bcall .len (.cons (.var 1) .nil)) .nil))))
    .nil) }
def f__law_value : Fd := { name := (Str.ofString "_law_value"), nparams := 2, mode := .plain, nslots := 4, body :=
    (.cons (.asg (.nm 2) (.int 0))
    (.cons (.for (.nm 3) (.seq (.sls (.var 0) .none .none (-1))) (.cons (.asg (.nm 2) (.bin .Add (.bin .Mult (.var 2) (.var 1)) (.var 3)))
    .nil))
    (.cons (.ret (.mov 2))
    .nil))) }
def f__law_run : Fd := { name := (Str.ofString "_law_run"), nparams := 1, mode := .byr, nslots := 2, body :=
    (.cons (.asg (.nm 1) (.bin .Sub (.int 1) (.fref 16 0 (.cons (.int 4) .nil))))
    (.cons (.ret (.tup (.cons (.mov 1) (.cons (.bcall .max (.cons (.var 1) (.cons (.bin .Sub (.fref 16 0 (.cons (.int 5) .nil)) (.int 1)) .nil))) .nil))))
    .nil)) }
def f__law_turned : Fd := { name := (Str.ofString "_law_turned"), nparams := 2, mode := .plain, nslots := 8, body :=
    (.cons (.par [3, 4] (.cons (.bin .Mult (.lst (.cons (.int 0) .nil)) (.bcall .len (.cons (.var 0) .nil))) (.cons (.lst (.cons (.int 1) .nil)) .nil)))
    (.cons (.for (.nm 2) (.seq (.var 0)) (.cons (.for (.t2 (.nm 6) (.nm 7)) (.enum (.var 4)) (.cons (.set 3 (.var 6) (.bin .Add (.ix (.var 3) (.var 6)) (.bin .Mult (.var 2) (.var 7))))
    .nil))
    (.cons (.asg (.nm 5) (.bin .Mult (.lst (.cons (.int 0) .nil)) (.bin .Add (.bcall .len (.cons (.var 4) .nil)) (.int 1))))
    (.cons (.for (.t2 (.nm 6) (.nm 7)) (.enum (.var 4)) (.cons (.puts (.at 5 (.var 6) (.at 5 (.bin .Add (.var 6) (.int 1)) .nil)) (.tup (.cons (.bin .Add (.ix (.var 5) (.var 6)) (.bin .Mult (.var 1) (.var 7))) (.cons (.bin .Sub (.ix (.var 5) (.bin .Add (.var 6) (.int 1))) (.var 7)) .nil))))
    .nil))
    (.cons (.asg (.nm 4) (.mov 5))
    .nil)))))
    (.cons (.whl (.and (.cmp (.cmp .Gt (.bcall .len (.cons (.var 3) .nil)) (.int 1))) (.one (.cmp (.cmp .Eq (.ix (.var 3) (.neg (.int 1))) (.int 0))))) (.cons (.expr (.mut .pop 3 .nil))
    .nil))
    (.cons (.ret (.bcall .tuple (.cons (.var 3) .nil)))
    .nil)))) }
def f__law_is_right : Fd := { name := (Str.ofString "_law_is_right"), nparams := 1, mode := .byr, nslots := 13, body :=
    (.cons (.asg (.nm 1) (.bin .Add (.lc [11] (.bin .Sub (.fref 16 0 (.cons (.int 41) .nil)) (.int 20)) (.nm 11) (.rng1 (.fref 16 0 (.cons (.int 7) .nil))) .yes) (.lst (.cons (.fref 17 0 (.cons (.lst (.cons (.int 1) (.cons (.neg (.int 1)) (.cons (.int 3) (.cons (.int 7) .nil))))) .nil)) .nil))))
    (.cons (.par [1, 8] (.cons (.bcall .tuple (.cons (.var 1) .nil)) (.cons (.bin .Sub (.fref 16 0 (.cons (.int 41) .nil)) (.int 20)) .nil)))
    (.cons (.asg (.nm 2) (.fcall 13 (.cons (.var 1) (.cons (.var 8) .nil))))
    (.cons (.ifs (.or (.cmp (.cmp .NotEq (.bcall .repr (.cons (.var 2) .nil)) (.bcall .repr (.cons (.fcall 20 (.cons (.var 1) (.cons (.var 8) .nil))) .nil)))) (.one (.cmp (.cmp .NotEq (.fcall 13 (.cons (.var 2) (.cons (.var 8) .nil))) (.var 1))))) (.cons (.ret (.bl false))
    .nil) .nil)
    (.cons (.asg (.nm 3) (.bin .Sub (.fref 16 0 (.cons (.int 41) .nil)) (.int 20)))
    (.cons (.ifs (.cmp (.cmp .NotEq (.fcall 18 (.cons (.var 2) (.cons (.var 3) .nil))) (.fcall 18 (.cons (.var 1) (.cons (.bin .Sub (.var 8) (.var 3)) .nil))))) (.cons (.ret (.bl false))
    .nil) .nil)
    (.cons (.asg (.t2 (.nm 9) (.nm 10)) (.fref 19 0 .nil))
    (.cons (.asg (.nm 4) (.bin .Add (.int 2) (.fref 16 0 (.cons (.int 7) .nil))))
    (.cons (.asg (.nm 5) (.fcall 14 (.cons (.var 4) (.cons (.var 9) (.cons (.var 10) .nil)))))
    (.cons (.asg (.nm 6) (.sl (.fcall 12 (.cons (.var 4) (.cons (.var 9) (.cons (.var 10) .nil)))) (.some (.int 1)) .none))
    (.cons (.asg (.nm 7) (.ite (.cmp (.cmp .Eq (.bin .Mod (.bcall .int (.cons (.var 4) .nil)) (.int 2)) (.int 1))) (.int 1) (.neg (.int 1))))
    (.cons (.ifs (.cmp (.cmp .NotEq (.bcall .repr (.cons (.var 5) .nil)) (.bcall .repr (.cons (.bin .Mult (.var 4) (.bin .Add (.bin .Sub (.var 10) (.var 9)) (.int 1))) .nil)))) (.cons (.ret (.bl false))
    .nil) .nil)
    (.cons (.ret (.cmp .Eq (.fcall 13 (.cons (.var 6) (.cons (.var 5) .nil))) (.bcall .tuple (.cons (.lc [12] (.bin .Mult (.var 7) (.var 12)) (.nm 12) (.seq (.var 6)) .yes) .nil))))
    .nil))))))))))))) }
def f_law : Fd := { name := (Str.ofString "law"), nparams := 1, mode := .scr, nslots := 3, body :=
    (.cons (.asg (.nm 1) (.fscr 15 (.cons (.var 0) .nil)))
    (.cons (.ifs (.or (.cmp (.cmp .NotEq (.fcall 13 (.cons (.tup (.cons (.int 0) (.cons (.int 0) (.cons (.int 1) .nil)))) (.cons (.int 3) .nil))) (.tup (.cons (.int 9) (.cons (.neg (.int 6)) (.cons (.int 1) .nil)))))) (.or (.cmp (.cmp .NotEq (.fcall 13 (.cons (.tup (.cons (.int 5) .nil)) (.cons (.neg (.int 2)) .nil))) (.tup (.cons (.int 5) .nil)))) (.one (.cmp (.cmp .NotEq (.fcall 14 (.cons (.int 3) (.cons (.int 0) (.cons (.int 1) .nil)))) (.int 6)))))) (.cons (.ret (.bl false))
    .nil) .nil)
    (.cons (.ifs (.cmp (.cmp .NotEq (.fcall 13 (.cons (.tup (.cons (.int 0) .nil)) (.cons (.int 4) .nil))) (.tup (.cons (.int 0) .nil)))) (.cons (.ret (.bl false))
    .nil) .nil)
    (.cons (.ret (.bcall .all (.cons (.lc [2] (.fref 21 1 .nil) (.nm 2) (.rng1 (.int 5)) .yes) .nil)))
    .nil)))) }
def T : List Fd := [f_is_integer, f_is_within, f_trimmed, f_is_poly, f_check_poly, f_check_run, f_check_ruled, f_terms_product, f_raised_to, f_poly_of_like, f_poly_of_unlike, f_raw_run_poly, f_run_poly, f_turned_about, f_run_middle, f__law_hand, f__law_draw, f__law_any, f__law_value, f__law_run, f__law_turned, f__law_is_right, f_law]
end Ir
def handD (cs : List Int) (p c s n : Int) : D := .list [.list (cs.map .int), .int p, .int c, .int s, .int n]
def mixA (s n : Int) : Int := ((s + 7919 * (n + 1)) * 48271).fmod 2147483647
def mixB (a : Int) : Int := (a * (a.fdiv 1009 + 69621)).fmod 2147483647
def mixC (b : Int) : Int := (b * (b.fdiv 2003 + 40014)).fmod 2147483563
def mixD (s n : Int) : Int := (mixC (mixB (mixA s n))).fdiv 16
theorem fmA (x : Int) : (x.fmod 2147483647).natAbs < 18446744073709551616 := by have := fm_b x 2147483647 (by decide); omega
theorem fmB (x : Int) : (x.fmod 2147483647).natAbs < 18446744073709551616 := by have := fm_b x 2147483647 (by decide); omega
theorem fmC (x : Int) : (x.fmod 2147483563).natAbs < 18446744073709551616 := by have := fm_b x 2147483563 (by decide); omega
theorem fmS (x : Int) : (x.fmod 2147483629).natAbs < 18446744073709551616 := by have := fm_b x 2147483629 (by decide); omega
theorem draw_a (k : Nat) (cs : List Int) (p c s n many : Int) (hc : 0 < c) (hm : 0 < many) (hm2 : many < 1073741824) :
   ∃ r c', run Ir.T (k + 1) 16 (some (handD cs p c s n)) [.int many] = some (.int r, some (handD cs p c' s n)) ∧ 0 ≤ r ∧ r < many := by
  have h0 : ¬ c = 0 := by omega
  have h1 : ¬ many = 0 := by omega
  have h2 : many.natAbs < 1073741824 := by omega
  refine ⟨c.fmod many, c.fdiv many, ?_, fm_b c many hm⟩
  simp [run, Ir.T, Ir.f__law_draw, handD, modeOk, startRo, bindS, bind1, pur, purs, finish, execs, exec, evT, evC, evI, ev, evs, evO, gv, ixD, pixN, cmpop, eqD, ltD, okSt, noScr, effE, effs, effO, effT, effC, effI, tkE, tks, binop, settle, settles, settleA, setL, isOwn, mulOk, mulSm, divOk, powOk, bindV, noByr, bi, truD, hc, h0, h1, h2]
theorem draw_b (k : Nat) (cs : List Int) (p c s n many : Int) (hc : ¬ 0 < c) (hp : c = 0 → ¬ p < cs.length) (hm : 0 < many) (hm2 : many < 1073741824) :
   ∃ r, run Ir.T (k + 1) 16 (some (handD cs p c s n)) [.int many] = some (.int r, some (handD cs p c s (n + 1))) ∧ 0 ≤ r ∧ r < many := by
  have h1 : ¬ many = 0 := by omega
  refine ⟨(mixD s n).fmod many, ?_, fm_b _ many hm⟩
  by_cases h0 : c = 0
  · have hp := hp h0
    subst h0
    simp [run, Ir.T, Ir.f__law_draw, handD, modeOk, startRo, bindS, bind1, pur, purs, finish, execs, exec, evT, evC, evI, ev, evs, evO, gv, ixD, pixN, cmpop, eqD, ltD, okSt, noScr, effE, effs, effO, effT, effC, effI, tkE, tks, binop, settle, settles, settleA, setL, isOwn, mulOk, mulSm, divOk, powOk, bindV, noByr, bi, truD, hp, h1, fmA, fmB, fmC, fmS, mixA, mixB, mixC, mixD]
  · simp [run, Ir.T, Ir.f__law_draw, handD, modeOk, startRo, bindS, bind1, pur, purs, finish, execs, exec, evT, evC, evI, ev, evs, evO, gv, ixD, pixN, cmpop, eqD, ltD, okSt, noScr, effE, effs, effO, effT, effC, effI, tkE, tks, binop, settle, settles, settleA, setL, isOwn, mulOk, mulSm, divOk, powOk, bindV, noByr, bi, truD, hc, h0, h1, fmA, fmB, fmC, fmS, mixA, mixB, mixC, mixD]
theorem draw_c (k : Nat) (cs : List Int) (p s n many : Int) (h0 : 0 ≤ p) (hp : p < cs.length) (hm : 0 < many) (hm2 : many < 1073741824) :
   ∃ r c' s' n', run Ir.T (k + 1) 16 (some (handD cs p 0 s n)) [.int many] = some (.int r, some (handD cs (p + 1) c' s' n')) ∧ 0 ≤ r ∧ r < many := by
  have h1 : ¬ many = 0 := by omega
  have h2 : many.natAbs < 1073741824 := by omega
  have hl : p.toNat < cs.length := by omega
  obtain ⟨x, hx⟩ : ∃ x, cs[p.toNat] = x := ⟨_, rfl⟩
  by_cases hb : ¬ 1000000000000000000 ≤ x
  · refine ⟨(mixD ((((s * 69621) + (x * 40692)) + 31).fmod 2147483629) n).fmod many, 0, (((s * 69621) + (x * 40692)) + 31).fmod 2147483629, n + 1, ?_, fm_b _ many hm⟩
    simp [run, Ir.T, Ir.f__law_draw, handD, modeOk, startRo, bindS, bind1, pur, purs, finish, execs, exec, evT, evC, evI, ev, evs, evO, gv, ixD, pixN, cmpop, eqD, ltD, okSt, noScr, effE, effs, effO, effT, effC, effI, tkE, tks, binop, settle, settles, settleA, setL, isOwn, mulOk, mulSm, divOk, powOk, bindV, noByr, bi, truD, hx, hb, h0, hp, h1, h2, fmA, fmB, fmC, fmS, mixA, mixB, mixC, mixD]
  · have hb : 1000000000000000000 ≤ x := by omega
    have hx0 : 0 < x := by omega
    refine ⟨x.fmod many, x.fdiv many, (((s * 69621) + (x * 40692)) + 31).fmod 2147483629, n, ?_, fm_b _ many hm⟩
    simp [run, Ir.T, Ir.f__law_draw, handD, modeOk, startRo, bindS, bind1, pur, purs, finish, execs, exec, evT, evC, evI, ev, evs, evO, gv, ixD, pixN, cmpop, eqD, ltD, okSt, noScr, effE, effs, effO, effT, effC, effI, tkE, tks, binop, settle, settles, settleA, setL, isOwn, mulOk, mulSm, divOk, powOk, bindV, noByr, bi, truD, hx, hb, hx0, h0, hp, h1, h2, fmA, fmB, fmC, fmS, mixA, mixB, mixC, mixD]
def isHand (h : D) : Prop := ∃ cs p c s n, h = handD cs p c s n ∧ 0 ≤ p
theorem hand_pur {h : D} (hh : isHand h) : pur h = false := by
  obtain ⟨cs, p, c, s, n, rfl, _⟩ := hh
  rfl
theorem draw (k : Nat) {h : D} (many : Int) (hh : isHand h) (hm : 0 < many) (hm2 : many < 1073741824) : ∃ r h', run Ir.T (k + 1) 16 (some h) [.int many] = some (.int r, some h') ∧ 0 ≤ r ∧ r < many ∧ isHand h' := by
  obtain ⟨cs, p, c, s, n, rfl, hp⟩ := hh
  by_cases hc : 0 < c
  · obtain ⟨r, c', h1, h2, h3⟩ := draw_a k cs p c s n many hc hm hm2
    exact ⟨r, _, h1, h2, h3, cs, p, c', s, n, rfl, hp⟩
  · by_cases h0 : c = 0 ∧ p < cs.length
    · obtain ⟨rfl, hl⟩ := h0
      obtain ⟨r, c', s', n', h1, h2, h3⟩ := draw_c k cs p s n many hp hl hm hm2
      exact ⟨r, _, h1, h2, h3, cs, p + 1, c', s', n', rfl, by omega⟩
    · obtain ⟨r, h1, h2, h3⟩ := draw_b k cs p c s n many hc (fun e z => h0 ⟨e, z⟩) hm hm2
      exact ⟨r, _, h1, h2, h3, cs, p, c, s, n + 1, rfl, hp⟩
theorem lawHand (k : Nat) (ns : List Int) (hl : ns.length ≤ 63) : ∃ h, run Ir.T (k + 1) 15 none [.list (ns.map .int)] = some (h, none) ∧ isHand h := by
  have hm : (HT.sIx (ns.map PyData.int).length (ns.map PyData.int).length (some 63) - HT.sIx (ns.map PyData.int).length 0 none) = ns.length := by
    simp [HT.sIx]
    omega
  have hz : HT.sIx (ns.map PyData.int).length 0 none = 0 := by simp [HT.sIx]
  refine ⟨handD (ns.map fun i => if i < 0 then -i else i) 0 0 (5045 + 7 * ns.length) 0, ?_, _, _, _, _, _, rfl, by decide⟩
  have e1 : evI (run Ir.T k) (.seq (.sl (.var 0) .none (.some (.int 63)))) [.scr (.list (ns.map .int)), .emp, .emp] = some (ns.map .int, [.fresh], [.scr (.list (ns.map .int)), .emp, .emp]) := by
    simp only [evI, ev, evO, gv, slD]
    simp only [List.getElem?_cons_zero, ints_purs, if_true, hm, hz, itemsOf, okSt, effO, effE]
    simp
    rw [List.take_of_length_le]
    have : HT.sIx ns.length ns.length (some 63) = ns.length := by
      simp [HT.sIx]
      omega
    rw [this]
    simp
  have e2 := ev_lc_map (C := run Ir.T k) (own := [2]) (elt := .bcall .abs (.cons (.bcall .int (.cons (.var 2) .nil)) .nil)) (g := .nm 2) (t := .yes) (fun d => match d with
    | .int i => .int (if i < 0 then -i else i)
    | d => d) e1 rfl rfl (fun x m => by
      obtain ⟨i, _, rfl⟩ := List.mem_map.mp m
      exact ⟨_, _, _, _, _, rfl, rfl, rfl, rfl, rfl⟩) (by simp [lim]; omega)
  have e3 : run Ir.T (k + 1) 15 none [.list (ns.map .int)] = finish none (execs (run Ir.T k) Ir.f__law_hand.body [.scr (.list (ns.map .int)), .emp, .emp]) := by
    simp [run, Ir.T, Ir.f__law_hand, modeOk, startRo, bindS, pur]
  rw [e3]
  unfold Ir.f__law_hand
  rw [x_cons (x_asg e2 rfl rfl)]
  simp [modeOk, startRo, bindS, bind1, pur, purs, finish, execs, exec, evT, evC, evI, ev, evs, evO, gv, ixD, pixN, cmpop, eqD, ltD, okSt, noScr, effE, effs, effO, effT, effC, effI, tkE, tks, binop, settle, settles, settleA, setL, isOwn, mulOk, mulSm, divOk, powOk, bindV, noByr, bi, truD, handD, unhide, lim]
end Zr

set_option maxRecDepth 100000
set_option maxHeartbeats 0
namespace Zr
open PySem
noncomputable def J0 : Jets := jTp 7 jNo
theorem J0_ok : JetsOk Ir.T 1 J0 := jTp_ok (fd := Ir.f_terms_product) rfl rfl rfl rfl rfl (by decide) (jNo_ok _ _)
def runs : List (Int × Int) := [(1, 1), (1, 2), (1, 3), (0, 0), (0, 1), (0, 2), (0, 3), (-1, -1), (-1, 0), (-1, 1), (-1, 2), (-1, 3), (-2, -1), (-2, 0), (-2, 1), (-2, 2), (-2, 3)]
theorem run2 (k : Nat) (h : D) (a1 a2 a3 a8 : Slot) : runs.map (fun q => okRet (fxs (runJ Ir.T J0 1 (k + 20)) (tlS 8 Ir.f__law_is_right.body) [.byr h, a1, a2, a3, .pur (.int (.ofNat 2)), .emp, .emp, .emp, a8, .pur (.int q.1), .pur (.int q.2), .emp, .emp])) = runs.map fun _ => some h := by kernel_rfl
theorem run3 (k : Nat) (h : D) (a1 a2 a3 a8 : Slot) : runs.map (fun q => okRet (fxs (runJ Ir.T J0 1 (k + 20)) (tlS 8 Ir.f__law_is_right.body) [.byr h, a1, a2, a3, .pur (.int (.ofNat 3)), .emp, .emp, .emp, a8, .pur (.int q.1), .pur (.int q.2), .emp, .emp])) = runs.map fun _ => some h := by kernel_rfl
theorem run4 (k : Nat) (h : D) (a1 a2 a3 a8 : Slot) : runs.map (fun q => okRet (fxs (runJ Ir.T J0 1 (k + 20)) (tlS 8 Ir.f__law_is_right.body) [.byr h, a1, a2, a3, .pur (.int (.ofNat 4)), .emp, .emp, .emp, a8, .pur (.int q.1), .pur (.int q.2), .emp, .emp])) = runs.map fun _ => some h := by kernel_rfl
theorem run5 (k : Nat) (h : D) (a1 a2 a3 a8 : Slot) : runs.map (fun q => okRet (fxs (runJ Ir.T J0 1 (k + 20)) (tlS 8 Ir.f__law_is_right.body) [.byr h, a1, a2, a3, .pur (.int (.ofNat 5)), .emp, .emp, .emp, a8, .pur (.int q.1), .pur (.int q.2), .emp, .emp])) = runs.map fun _ => some h := by kernel_rfl
theorem run6 (k : Nat) (h : D) (a1 a2 a3 a8 : Slot) : runs.map (fun q => okRet (fxs (runJ Ir.T J0 1 (k + 20)) (tlS 8 Ir.f__law_is_right.body) [.byr h, a1, a2, a3, .pur (.int (.ofNat 6)), .emp, .emp, .emp, a8, .pur (.int q.1), .pur (.int q.2), .emp, .emp])) = runs.map fun _ => some h := by kernel_rfl
theorem run7 (k : Nat) (h : D) (a1 a2 a3 a8 : Slot) : runs.map (fun q => okRet (fxs (runJ Ir.T J0 1 (k + 20)) (tlS 8 Ir.f__law_is_right.body) [.byr h, a1, a2, a3, .pur (.int (.ofNat 7)), .emp, .emp, .emp, a8, .pur (.int q.1), .pur (.int q.2), .emp, .emp])) = runs.map fun _ => some h := by kernel_rfl
theorem run8 (k : Nat) (h : D) (a1 a2 a3 a8 : Slot) : runs.map (fun q => okRet (fxs (runJ Ir.T J0 1 (k + 20)) (tlS 8 Ir.f__law_is_right.body) [.byr h, a1, a2, a3, .pur (.int (.ofNat 8)), .emp, .emp, .emp, a8, .pur (.int q.1), .pur (.int q.2), .emp, .emp])) = runs.map fun _ => some h := by kernel_rfl
theorem map_mem_eq {α β : Type} {f : α → β} {y : β} : ∀ {xs : List α}, xs.map f = xs.map (fun _ => y) → ∀ x ∈ xs, f x = y
  | a :: xs, h, x, m => by
    simp only [List.map_cons, List.cons.injEq] at h
    rcases List.mem_cons.mp m with rfl | m
    · exact h.1
    · exact map_mem_eq h.2 x m
theorem runN (k n : Nat) (h : D) (a1 a2 a3 a8 : Slot) (h1 : 2 ≤ n) (h2 : n ≤ 8) (q : Int × Int) (hq : q ∈ runs) : okRet (fxs (runJ Ir.T J0 1 (k + 20)) (tlS 8 Ir.f__law_is_right.body) [.byr h, a1, a2, a3, .pur (.int (.ofNat n)), .emp, .emp, .emp, a8, .pur (.int q.1), .pur (.int q.2), .emp, .emp]) = some h := by
  have : n = 2 ∨ n = 3 ∨ n = 4 ∨ n = 5 ∨ n = 6 ∨ n = 7 ∨ n = 8 := by omega
  rcases this with rfl | rfl | rfl | rfl | rfl | rfl | rfl
  · exact map_mem_eq (run2 k h a1 a2 a3 a8) q hq
  · exact map_mem_eq (run3 k h a1 a2 a3 a8) q hq
  · exact map_mem_eq (run4 k h a1 a2 a3 a8) q hq
  · exact map_mem_eq (run5 k h a1 a2 a3 a8) q hq
  · exact map_mem_eq (run6 k h a1 a2 a3 a8) q hq
  · exact map_mem_eq (run7 k h a1 a2 a3 a8) q hq
  · exact map_mem_eq (run8 k h a1 a2 a3 a8) q hq
end Zr

set_option maxRecDepth 100000
set_option maxHeartbeats 0
namespace Zr
open PySem
theorem E_addS' (a x : Int) : ∀ (u m : List Int), m.length ≤ u.length → E (addS a u m) x = E u x + a * E m x
  | [], [], _ => by simp [E, addS]
  | y :: u, [], _ => by simp [E, addS]
  | y :: u, z :: m, h => by
    simp only [addS, E, E_addS' a x u m (by simpa using h), Int.mul_add]
    rw [Int.mul_left_comm a x]
    omega
theorem addS_app (a : Int) (z : List Int) : ∀ (v b : List Int), v.length = b.length → addS a (v ++ z) b = addS a v b ++ z
  | [], [], _ => by cases z <;> rfl
  | x :: v, y :: b, h => by
    simp only [List.cons_append, addS, addS_app a z v b (by simpa using h)]
theorem inner2 {turn : D → Ro → Option Out} (R : List Int → D → D → Ro) (a : Int) (ht : ∀ (j : Nat) (y : Int) (f : List Int) (p q : D), j < f.length → ∃ p' q', turn (.tuple [.int (j : Int), .int y]) (R f p q) = some (.nx (R (f.set j (f.getD j 0 + a * y)) p' q'))) :
    ∀ (b v pre z : List Int) (j : Nat) (p q : D), v.length = b.length → pre.length = j → ∃ p' q', forGo turn (enumD j (b.map .int)) (R (pre ++ (v ++ z)) p q) = some (.nx (R (pre ++ (addS a v b ++ z)) p' q'))
  | [], [], pre, z, j, p, q, _, _ => ⟨p, q, rfl⟩
  | y :: b, x :: v, pre, z, j, p, q, hl, hp => by
    obtain ⟨p1, q1, e1⟩ := ht j y (pre ++ (x :: v ++ z)) p q (by simp only [List.length_append, List.length_cons, hp]; omega)
    have g : (pre ++ (x :: v ++ z)).getD j 0 = x := by
      rw [← hp]
      simp
    have s : (pre ++ (x :: v ++ z)).set j (x + a * y) = (pre ++ [x + a * y]) ++ (v ++ z) := by
      rw [← hp]
      simp
    rw [g, s] at e1
    obtain ⟨p2, q2, e2⟩ := inner2 R a ht b v (pre ++ [x + a * y]) z (j + 1) p1 q1 (by simpa using hl) (by simp [hp])
    refine ⟨p2, q2, ?_⟩
    simp only [List.map_cons, enumD, forGo]
    rw [e1]
    simp only
    rw [e2]
    simp [addS]
/-- the second loop: a product by s less x -/
theorem inner3 {turn : D → Ro → Option Out} (R : List Int → D → D → Ro) (s : Int) (ht : ∀ (j : Nat) (y : Int) (f : List Int) (p q : D), j + 1 < f.length → ∃ p' q', turn (.tuple [.int (j : Int), .int y]) (R f p q) = some (.nx (R ((f.set j (f.getD j 0 + s * y)).set (j + 1) (f.getD (j + 1) 0 - y)) p' q'))) :
    ∀ (b pre : List Int) (c : Int) (j : Nat) (p q : D), pre.length = j → ∃ p' q', forGo turn (enumD j (b.map .int)) (R (pre ++ (c :: List.replicate b.length 0)) p q) = some (.nx (R (pre ++ conv [s, -1] [c] b) p' q'))
  | [], pre, c, j, p, q, _ => ⟨p, q, rfl⟩
  | y :: b, pre, c, j, p, q, hp => by
    obtain ⟨p1, q1, e1⟩ := ht j y (pre ++ (c :: List.replicate (y :: b).length 0)) p q (by simp only [List.length_append, List.length_cons, List.length_replicate, hp]; omega)
    have g : (pre ++ (c :: List.replicate (y :: b).length 0)).getD j 0 = c := by
      rw [← hp]
      simp
    have g1 : (pre ++ (c :: List.replicate (y :: b).length 0)).getD (j + 1) 0 = 0 := by
      rw [← hp]
      simp [List.getElem?_append, List.replicate_succ]
    have st : ((pre ++ (c :: List.replicate (y :: b).length 0)).set j (c + s * y)).set (j + 1) (0 - y) = (pre ++ [c + s * y]) ++ ((0 - y) :: List.replicate b.length 0) := by
      rw [← hp]
      simp [List.replicate_succ]
    rw [g, g1, st] at e1
    obtain ⟨p2, q2, e2⟩ := inner3 R s ht b (pre ++ [c + s * y]) (0 - y) (j + 1) p1 q1 (by simp [hp])
    refine ⟨p2, q2, ?_⟩
    simp only [List.map_cons, enumD, forGo]
    rw [e1]
    simp only
    rw [e2, conv_s, show (0 : Int) + y * -1 = 0 - y by omega, Int.mul_comm y s]
    simp
def td1 : ISs := (.cons (.set 3 (.var 6) (.bin .Add (.ix (.var 3) (.var 6)) (.bin .Mult (.var 2) (.var 7))))
    .nil)
def td2 : ISs := (.cons (.puts (.at 5 (.var 6) (.at 5 (.bin .Add (.var 6) (.int 1)) .nil)) (.tup (.cons (.bin .Add (.ix (.var 5) (.var 6)) (.bin .Mult (.var 1) (.var 7))) (.cons (.bin .Sub (.ix (.var 5) (.bin .Add (.var 6) (.int 1))) (.var 7)) .nil))))
    .nil)
def tdTurn : ISs := (.cons (.for (.t2 (.nm 6) (.nm 7)) (.enum (.var 4)) td1)
    (.cons (.asg (.nm 5) (.bin .Mult (.lst (.cons (.int 0) .nil)) (.bin .Add (.bcall .len (.cons (.var 4) .nil)) (.int 1))))
    (.cons (.for (.t2 (.nm 6) (.nm 7)) (.enum (.var 4)) td2)
    (.cons (.asg (.nm 4) (.mov 5))
    .nil))))
def tdRo (p : List Int) (s : Int) (t : D) (f w : List Int) (l : Slot) (a b : D) : Ro := [.pur (tupI p), .pur (.int s), pe t, .own (.list (f.map .int)), .own (.list (w.map .int)), l, pe a, pe b]
theorem bind67 (p : List Int) (s : Int) (t : D) (f w : List Int) (l : Slot) (a b : D) (j : Nat) (y : Int) : bindV (.t2 (.nm 6) (.nm 7)) (.tuple [.int (j : Int), .int y]) .froz (tdRo p s t f w l a b) = some (tdRo p s t f w l (.int j) (.int y)) := by
  have h1 := bind_pe 6 a (.int j) [.pur (tupI p), .pur (.int s), pe t, .own (.list (f.map .int)), .own (.list (w.map .int)), l] [pe b] .froz (.inr rfl) rfl rfl
  have h2 := bind_pe 7 b (.int y) [.pur (tupI p), .pur (.int s), pe t, .own (.list (f.map .int)), .own (.list (w.map .int)), l, .pur (.int j)] [] .froz (.inr rfl) rfl rfl
  have h1' : bindV (.nm 6) (.int (j : Int)) .froz (tdRo p s t f w l a b) = some [.pur (tupI p), .pur (.int s), pe t, .own (.list (f.map .int)), .own (.list (w.map .int)), l, .pur (.int j), pe b] := h1
  show (bindV (.nm 6) (.int (j : Int)) .froz (tdRo p s t f w l a b)).bind (bindV (.nm 7) (.int y) .froz) = _
  rw [h1']
  exact h2
theorem mulOk_l {a y : Int} (h : a.natAbs < 2 ^ 64) : mulOk a y = true := by
  have : decide (a.natAbs < 2 ^ 64) = true := decide_eq_true h
  simp only [mulOk, mulSm, this, Bool.true_or]
theorem td1_turn (C : CallF) (p : List Int) (s x : Int) (hx : x.natAbs < 2 ^ 64) (w : List Int) (l : Slot) (j : Nat) (y : Int) (f : List Int) (a b : D) (h : j < f.length) :
    (bindV (.t2 (.nm 6) (.nm 7)) (.tuple [.int (j : Int), .int y]) .froz (tdRo p s (.int x) f w l a b)).bind (execs C td1) = some (.nx (tdRo p s (.int x) (f.set j (f.getD j 0 + x * y)) w l (.int j) (.int y))) := by
  rw [bind67, Option.bind_some]
  have s1 := set_low h (f.getD j 0 + x * y)
  have k1 : binop .Mult (.int x) (.int y) = some (.int (x * y)) := by simp only [binop, mulOk_l hx, if_true]
  have x3 : ev C (.bin .Mult (.var 2) (.var 7)) (tdRo p s (.int x) f w l (.int j) (.int y)) = some (.int (x * y), .fresh, tdRo p s (.int x) f w l (.int j) (.int y)) := ev_bin (x := .int x) (y := .int y) rfl rfl rfl k1
  have x2 : ev C (.var 6) (tdRo p s (.int x) f w l (.int j) (.int y)) = some (.int (j : Int), .fresh, tdRo p s (.int x) f w l (.int j) (.int y)) := rfl
  have x4 : ev C (.ix (.var 3) (.var 6)) (tdRo p s (.int x) f w l (.int j) (.int y)) = some (.int (f.getD j 0), .fresh, tdRo p s (.int x) f w l (.int j) (.int y)) := ev_ix (x := .list (f.map .int)) (sx := .loan 3) rfl x2 rfl (ix_lowI h) rfl
  have x1 := ev_bin (op := .Add) x4 x3 rfl (d := .int (f.getD j 0 + x * y)) rfl
  exact x_last' (x_set (i := 3) x1 rfl rfl x2 rfl s1)
theorem x_puts {C : CallF} {ps : IPs} {e : IE} {ρ ρ0 ρ1 ρ2 : Ro} {ds : List D} {sy : Stat} (h1 : ev C e ρ = some (.tuple ds, sy, ρ0)) (h2 : settle (.tuple ds) sy ρ0 = some ρ1) (h3 : putAll C ps ds ρ1 = some ρ2) : exec C (.puts ps e) ρ = some (.nx ρ2) := by
  simp only [exec, h1, h2, h3]
theorem td2_turn (C : CallF) (p : List Int) (s x : Int) (hs : s.natAbs < 2 ^ 64) (f w : List Int) (j : Nat) (y : Int) (g : List Int) (a b : D) (h : j + 1 < g.length) :
    (bindV (.t2 (.nm 6) (.nm 7)) (.tuple [.int (j : Int), .int y]) .froz (tdRo p s (.int x) f w (.own (.list (g.map .int))) a b)).bind (execs C td2) = some (.nx (tdRo p s (.int x) f w (.own (.list (((g.set j (g.getD j 0 + s * y)).set (j + 1) (g.getD (j + 1) 0 - y)).map .int))) (.int j) (.int y))) := by
  rw [bind67, Option.bind_some]
  have s1 := set_low (low := g) (i := j) (by omega) (g.getD j 0 + s * y)
  have s2 := set_low (low := g.set j (g.getD j 0 + s * y)) (i := j + 1) (by simpa using h) (g.getD (j + 1) 0 - y)
  have e0 : (j : Int) + 1 = ((j + 1 : Nat) : Int) := by simp
  have k1 : binop .Mult (.int s) (.int y) = some (.int (s * y)) := by simp only [binop, mulOk_l hs, if_true]
  generalize hρ : tdRo p s (.int x) f w (.own (.list (g.map .int))) (.int j) (.int y) = ρ
  have v6 : ev C (.var 6) ρ = some (.int (j : Int), .fresh, ρ) := by subst hρ; rfl
  have v7 : ev C (.var 7) ρ = some (.int y, .fresh, ρ) := by subst hρ; rfl
  have v1 : ev C (.var 1) ρ = some (.int s, .fresh, ρ) := by subst hρ; rfl
  have v5 : ev C (.var 5) ρ = some (.list (g.map .int), .loan 5, ρ) := by subst hρ; rfl
  have a1 : ev C (.bin .Add (.var 6) (.int 1)) ρ = some (.int ((j + 1 : Nat) : Int), .fresh, ρ) := by
    rw [← e0]
    exact ev_bin (y := .int 1) (sy := .fresh) v6 (by simp only [ev]) rfl rfl
  have a2 : ev C (.bin .Add (.ix (.var 5) (.var 6)) (.bin .Mult (.var 1) (.var 7))) ρ = some (.int (g.getD j 0 + s * y), .fresh, ρ) := ev_bin (ev_ix v5 v6 rfl (ix_lowI (by omega)) rfl) (ev_bin v1 v7 rfl k1) rfl rfl
  have a3 : ev C (.bin .Sub (.ix (.var 5) (.bin .Add (.var 6) (.int 1))) (.var 7)) ρ = some (.int (g.getD (j + 1) 0 - y), .fresh, ρ) := ev_bin (ev_ix v5 a1 rfl (ix_lowI h) rfl) v7 rfl rfl
  have a4 : ev C (.tup (.cons (.bin .Add (.ix (.var 5) (.var 6)) (.bin .Mult (.var 1) (.var 7))) (.cons (.bin .Sub (.ix (.var 5) (.bin .Add (.var 6) (.int 1))) (.var 7)) .nil))) ρ = some (.tuple [.int (g.getD j 0 + s * y), .int (g.getD (j + 1) 0 - y)], .fresh, ρ) := by
    have q : evs C (.cons (.bin .Add (.ix (.var 5) (.var 6)) (.bin .Mult (.var 1) (.var 7))) (.cons (.bin .Sub (.ix (.var 5) (.bin .Add (.var 6) (.int 1))) (.var 7)) .nil)) ρ = some ([(.int (g.getD j 0 + s * y), .fresh), (.int (g.getD (j + 1) 0 - y), .fresh)], ρ) := by
      simp only [evs, a2, a3]
      rfl
    simp only [ev, q, settles, settle]
    exact if_pos (show 2 ≤ lim by decide)
  refine x_last' (x_puts a4 rfl ?_)
  generalize g.getD j 0 + s * y = A at *
  generalize g.getD (j + 1) 0 - y = B at *
  generalize hρ2 : tdRo p s (.int x) f w (.own (.list ((g.set j A).map .int))) (.int j) (.int y) = ρ2
  have w1 : ev C (.bin .Add (.var 6) (.int 1)) ρ2 = some (.int ((j + 1 : Nat) : Int), .fresh, ρ2) := by
    have v6 : ev C (.var 6) ρ2 = some (.int (j : Int), .fresh, ρ2) := by subst hρ2; rfl
    rw [← e0]
    exact ev_bin (y := .int 1) (sy := .fresh) v6 (by simp only [ev]) rfl rfl
  have o1 : isOwn ρ 5 = true := by subst hρ; rfl
  have o2 : isOwn ρ2 5 = true := by subst hρ2; rfl
  have g1 : ρ[5]? = some (.own (.list (g.map .int))) := by subst hρ; rfl
  have g2 : ρ2[5]? = some (.own (.list ((g.set j A).map .int))) := by subst hρ2; rfl
  have t1 : ρ.set 5 (.own (.list ((g.set j A).map .int))) = ρ2 := by subst hρ; subst hρ2; rfl
  have c6 : (effE (.var 6)).contains 5 = false := rfl
  have c61 : (effE (.bin .Add (.var 6) (.int 1))).contains 5 = false := rfl
  simp only [putAll, o1, c6, Bool.not_false, Bool.and_self, if_true, v6, g1, s1, t1, o2, c61, w1, g2, s2]
  subst hρ2
  rfl
theorem purs_enumI (w : List Int) : purs (enumD 0 (w.map .int)) = true := by
  rw [enumD_map]
  generalize List.range w.length = L
  induction L with
  | nil => rfl
  | cons i L ih => simp only [List.map_cons, purs, pur, ih, Bool.and_self]
theorem td_turn (C : CallF) (p : List Int) (s x : Int) (hs : s.natAbs < 2 ^ 64) (hx : x.natAbs < 2 ^ 64) (f w : List Int) (hw : w.length ≤ f.length) (hl : w.length < 1000) (t a b : D) :
    ∃ a' b', (bindV (.nm 2) (.int x) .froz (tdRo p s t f w .emp a b)).bind (execs C tdTurn) = some (.nx (tdRo p s (.int x) (addS x f w) (conv [s, -1] [0] w) .emp a' b')) := by
  have b0 : bindV (.nm 2) (.int x) .froz (tdRo p s t f w .emp a b) = some (tdRo p s (.int x) f w .emp a b) := bind_pe 2 t (.int x) [.pur (tupI p), .pur (.int s)] [.own (.list (f.map .int)), .own (.list (w.map .int)), .emp, pe a, pe b] .froz (.inr rfl) rfl rfl
  rw [b0, Option.bind_some]
  obtain ⟨a1, b1, e1⟩ := inner2 (turn := fun x ρ => (bindV (.t2 (.nm 6) (.nm 7)) x .froz ρ).bind (execs C td1)) (fun f a b => tdRo p s (.int x) f w .emp a b) x (fun j y f a b h => ⟨_, _, td1_turn C p s x hx w .emp j y f a b h⟩) w (f.take w.length) [] (f.drop w.length) 0 a b (by simp; omega) rfl
  simp only [List.nil_append] at e1
  rw [List.take_append_drop, ← addS_app x (f.drop w.length) (f.take w.length) w (by simp; omega), List.take_append_drop] at e1
  have pw := ints_purs w
  have ei : ∀ (f : List Int) (l : Slot) (a b : D), evI C (.enum (.var 4)) (tdRo p s (.int x) f w l a b) = some (enumD 0 (w.map .int), [.loan 4], tdRo p s (.int x) f w l a b) := fun _ _ _ _ => rfl
  have wk : (([Stat.loan 4] : List Stat).all (walkOk · (enumD 0 (w.map .int)) (IG.slots (.t2 (.nm 6) (.nm 7)) ++ effSs td1))) = true := by
    have pe' := purs_enumI w
    simp only [List.all_cons, List.all_nil, walkOk, pe', Bool.true_and, Bool.and_true]
    rfl
  have wk2 : (([Stat.loan 4] : List Stat).all (walkOk · (enumD 0 (w.map .int)) (IG.slots (.t2 (.nm 6) (.nm 7)) ++ effSs td2))) = true := by
    have pe' := purs_enumI w
    simp only [List.all_cons, List.all_nil, walkOk, pe', Bool.true_and, Bool.and_true]
    rfl
  have x1 := (x_for (C := C) (b := td1) (turn := fun x ρ => (bindV (.t2 (.nm 6) (.nm 7)) x .froz ρ).bind (execs C td1)) (ei f .emp a b) wk fun _ _ => rfl).trans e1
  have x2 : exec C (.asg (.nm 5) (.bin .Mult (.lst (.cons (.int 0) .nil)) (.bin .Add (.bcall .len (.cons (.var 4) .nil)) (.int 1)))) (tdRo p s (.int x) (addS x f w) w .emp a1 b1) = some (.nx (tdRo p s (.int x) (addS x f w) w (.own (.list ((List.replicate (w.length + 1) (0 : Int)).map .int))) a1 b1)) := by
    have z1 : ev C (.bcall .len (.cons (.var 4) .nil)) (tdRo p s (.int x) (addS x f w) w .emp a1 b1) = some (.int w.length, .fresh, tdRo p s (.int x) (addS x f w) w .emp a1 b1) := ev_bi1 (d := .list (w.map .int)) (st := .loan 4) rfl (by simp [bi])
    have z2 := ev_bin (op := .Add) (b := .int 1) (y := .int 1) (sy := .fresh) (ρ2 := tdRo p s (.int x) (addS x f w) w .emp a1 b1) z1 (by simp only [ev]) rfl (d := .int ((w.length : Int) + 1)) rfl
    have n0 : ((w.length : Int) + 1).toNat = w.length + 1 := by omega
    have z3 : ev C (.bin .Mult (.lst (.cons (.int 0) .nil)) (.bin .Add (.bcall .len (.cons (.var 4) .nil)) (.int 1))) (tdRo p s (.int x) (addS x f w) w .emp a1 b1) = some (.list ((List.replicate (w.length + 1) (0 : Int)).map .int), .fresh, tdRo p s (.int x) (addS x f w) w .emp a1 b1) := by
      refine ev_bin (op := .Mult) (a := .lst (.cons (.int 0) .nil)) (x := .list [.int 0]) (sx := .fresh) rfl z2 rfl ?_
      simp only [binop, List.length_cons, List.length_nil, n0]
      rw [if_pos ⟨by simp [lim]; omega, by simp [lim]; omega, by simp [lim]; omega, rfl⟩, rep_flatI]
    exact x_asg z3 rfl rfl
  obtain ⟨a2, b2, e2⟩ := inner3 (turn := fun x ρ => (bindV (.t2 (.nm 6) (.nm 7)) x .froz ρ).bind (execs C td2)) (fun g a b => tdRo p s (.int x) (addS x f w) w (.own (.list (g.map .int))) a b) s (fun j y g a b h => ⟨_, _, td2_turn C p s x hs (addS x f w) w j y g a b h⟩) w [] 0 0 a1 b1 rfl
  simp only [List.nil_append] at e2
  have x3 := (x_for (C := C) (b := td2) (turn := fun x ρ => (bindV (.t2 (.nm 6) (.nm 7)) x .froz ρ).bind (execs C td2)) (ei (addS x f w) (.own (.list ((List.replicate (w.length + 1) (0 : Int)).map .int))) a1 b1) wk2 fun _ _ => rfl).trans e2
  refine ⟨a2, b2, ?_⟩
  unfold tdTurn
  rw [x_cons x1, x_cons x2, x_cons x3]
  exact x_last' (x_asg (d := .list ((conv [s, -1] [0] w).map .int)) (st := .take 5) (s' := .fresh) rfl rfl rfl)
/-- found, power after some terms -/
def tdF (s : Int) (st : List Int × List Int) (x : Int) : List Int × List Int := (addS x st.1 st.2, conv [s, -1] [0] st.2)
theorem tdF_E (s y : Int) : ∀ (ps : List Int) (f w : List Int), w.length + ps.length ≤ f.length + 1 → E (ps.foldl (tdF s) (f, w)).1 y = E f y + E w y * E ps (s - y)
  | [], f, w, _ => by simp [E]
  | a :: ps, f, w, h => by
    rw [List.foldl_cons]
    show E (ps.foldl (tdF s) (addS a f w, conv [s, -1] [0] w)).1 y = _
    have cl : (conv [s, -1] [0] w).length = w.length + 1 := by rw [conv_len _ _ _ rfl]; rfl
    rw [tdF_E s y ps _ _ (by rw [cl, addS_len]; simp at h; omega), E_addS' a y f w (by simp at h; omega), E_conv _ _ _ _ rfl]
    simp only [E, Int.mul_zero, Int.add_zero]
    rw [show s + y * -1 = s - y by omega, Int.mul_add, Int.mul_comm a, Int.mul_assoc]
    omega
theorem tdF_len (s : Int) : ∀ (ps : List Int) (f w : List Int), (ps.foldl (tdF s) (f, w)).1.length = f.length
  | [], f, w => rfl
  | a :: ps, f, w => by
    rw [List.foldl_cons]
    show (ps.foldl (tdF s) (addS a f w, conv [s, -1] [0] w)).1.length = _
    rw [tdF_len, addS_len]
theorem E_zeros (x : Int) : ∀ n, E (List.replicate n 0) x = 0
  | 0 => rfl
  | n + 1 => by simp [List.replicate_succ, E, E_zeros x n]
theorem tdF_turn (s : Int) (p : List Int) : (p.foldl (tdF s) (List.replicate p.length 0, [1])).1 = turnL s p :=
  E_ext _ _ 0 (by rw [tdF_len, turnL_len, List.length_replicate]) fun x _ => by
    rw [tdF_E s x p _ _ (by simp; omega), E_zeros, E_turnL]
    simp [E]
theorem td_loop (C : CallF) (p : List Int) (s : Int) (hs : s.natAbs < 2 ^ 64) : ∀ (ps f w : List Int) (t a b : D), (∀ x ∈ ps, x.natAbs < 2 ^ 64) → w.length + ps.length ≤ f.length + 1 → f.length < 900 → ∃ t' a' b' w', forGo (fun x ρ => (bindV (.nm 2) x .froz ρ).bind (execs C tdTurn)) (ps.map .int) (tdRo p s t f w .emp a b) = some (.nx (tdRo p s t' (ps.foldl (tdF s) (f, w)).1 w' .emp a' b'))
  | [], f, w, t, a, b, _, _, _ => ⟨t, a, b, w, rfl⟩
  | x :: ps, f, w, t, a, b, hx, hl, hf => by
    obtain ⟨a1, b1, e1⟩ := td_turn C p s x hs (hx x List.mem_cons_self) f w (by simp at hl; omega) (by simp at hl; omega) t a b
    have cl : (conv [s, -1] [0] w).length = w.length + 1 := by rw [conv_len _ _ _ rfl]; rfl
    obtain ⟨t2, a2, b2, w2, e2⟩ := td_loop C p s hs ps (addS x f w) (conv [s, -1] [0] w) (.int x) a1 b1 (fun y m => hx y (List.mem_cons_of_mem _ m)) (by rw [cl, addS_len]; simp at hl; omega) (by rw [addS_len]; omega)
    refine ⟨t2, a2, b2, w2, ?_⟩
    simp only [List.map_cons, forGo, e1, e2]
    rfl
theorem td_run (k : Nat) (p : List Int) (s : Int) (hs : s.natAbs < 2 ^ 64) (hp : ∀ x ∈ p, x.natAbs < 2 ^ 64) (h0 : 0 < p.length) (h1 : p.length ≤ 40) (hl : p.getLastD 0 ≠ 0) : run Ir.T (k + 1) 20 none [tupI p, .int s] = some (tupI (turnL s p), none) := by
  rw [run_at (T := Ir.T) (k := k) (d := Ir.f__law_turned) rfl ⟨rfl, rfl, by decide⟩]
  generalize run Ir.T k = C
  have s0 : startRo Ir.f__law_turned none [tupI p, .int s] = [.pur (tupI p), .pur (.int s), .emp, .emp, .emp, .emp, .emp, .emp] := by
    simp [startRo, Ir.f__law_turned, bindS, bind1, pur_tupI, pur, List.replicate]
  rw [s0]
  have x1 : exec C (.par [3, 4] (.cons (.bin .Mult (.lst (.cons (.int 0) .nil)) (.bcall .len (.cons (.var 0) .nil))) (.cons (.lst (.cons (.int 1) .nil)) .nil))) [.pur (tupI p), .pur (.int s), .emp, .emp, .emp, .emp, .emp, .emp] = some (.nx (tdRo p s .none (List.replicate p.length 0) [1] .emp .none .none)) := by
    have z1 : ev C (.bcall .len (.cons (.var 0) .nil)) [.pur (tupI p), .pur (.int s), .emp, .emp, .emp, .emp, .emp, .emp] = some (.int p.length, .fresh, [.pur (tupI p), .pur (.int s), .emp, .emp, .emp, .emp, .emp, .emp]) := ev_bi1 (d := tupI p) (st := .fresh) rfl (by simp [bi, tupI])
    have z3 : ev C (.bin .Mult (.lst (.cons (.int 0) .nil)) (.bcall .len (.cons (.var 0) .nil))) [.pur (tupI p), .pur (.int s), .emp, .emp, .emp, .emp, .emp, .emp] = some (.list ((List.replicate p.length (0 : Int)).map .int), .fresh, [.pur (tupI p), .pur (.int s), .emp, .emp, .emp, .emp, .emp, .emp]) := by
      refine ev_bin (op := .Mult) (a := .lst (.cons (.int 0) .nil)) (x := .list [.int 0]) (sx := .fresh) rfl z1 rfl ?_
      simp only [binop, List.length_cons, List.length_nil, Int.toNat_natCast]
      rw [if_pos ⟨by simp [lim]; omega, by simp [lim]; omega, by simp [lim]; omega, rfl⟩, rep_flatI]
    have z4 : evs C (.cons (.bin .Mult (.lst (.cons (.int 0) .nil)) (.bcall .len (.cons (.var 0) .nil))) (.cons (.lst (.cons (.int 1) .nil)) .nil)) [.pur (tupI p), .pur (.int s), .emp, .emp, .emp, .emp, .emp, .emp] = some ([(.list ((List.replicate p.length (0 : Int)).map .int), .fresh), (.list [.int 1], .fresh)], [.pur (tupI p), .pur (.int s), .emp, .emp, .emp, .emp, .emp, .emp]) := by
      have z5 : ev C (.lst (.cons (.int 1) .nil)) [.pur (tupI p), .pur (.int s), .emp, .emp, .emp, .emp, .emp, .emp] = some (.list [.int 1], .fresh, [.pur (tupI p), .pur (.int s), .emp, .emp, .emp, .emp, .emp, .emp]) := rfl
      simp only [evs, z3, z5]
      rfl
    simp only [exec, z4, settles, settle]
    rfl
  obtain ⟨t', a', b', w', e⟩ := td_loop C p s hs p (List.replicate p.length 0) [1] .none .none .none hp (by simp; omega) (by simp; omega)
  rw [tdF_turn] at e
  have ei : evI C (.seq (.var 0)) (tdRo p s .none (List.replicate p.length 0) [1] .emp .none .none) = some (p.map .int, [.fresh], tdRo p s .none (List.replicate p.length 0) [1] .emp .none .none) := rfl
  have x2 := (x_for (C := C) (b := tdTurn) (turn := fun x ρ => (bindV (.nm 2) x .froz ρ).bind (execs C tdTurn)) ei rfl fun _ _ => rfl).trans e
  have R : PopR (fun f => tdRo p s t' f w' .emp a' b') 3 := ⟨fun _ => rfl, fun _ _ => rfl⟩
  have x3 : exec C (.whl (popT 3) (popB 3)) (tdRo p s t' (turnL s p) w' .emp a' b') = some (.nx (tdRo p s t' (turnL s p) w' .emp a' b')) := by
    have e := pop_loop C R (turnL s p) (by rw [turnL_len]; exact h0) (turnL_last s p hl) 0 wf (by decide)
    simp only [List.replicate_zero, List.append_nil] at e
    simp only [exec]
    exact e
  have e2 : ev C (.bcall .tuple (.cons (.var 3) .nil)) (tdRo p s t' (turnL s p) w' .emp a' b') = some (tupI (turnL s p), .fresh, tdRo p s t' (turnL s p) w' .emp a' b') := ev_bi1 (d := .list ((turnL s p).map .int)) (st := .loan 3) rfl (bi_tuple (ints_purs _))
  have fin : execs C Ir.f__law_turned.body [.pur (tupI p), .pur (.int s), .emp, .emp, .emp, .emp, .emp, .emp] = some (.rt (tupI (turnL s p)) (tdRo p s t' (turnL s p) w' .emp a' b')) := (x_cons x1).trans ((x_cons x2).trans ((x_cons x3).trans (x_last (x_ret e2 rfl))))
  rw [fin]
  rfl
end Zr

set_option maxRecDepth 100000
set_option maxHeartbeats 0
namespace Zr
open PySem
theorem any73 (k : Nat) {h : D} (hh : isHand h) (xs : List D) (hp : purs xs = true) (h0 : 0 < xs.length) (h1 : xs.length < 1000000) : ∃ (x : D) (h' : D), x ∈ xs ∧ run Ir.T (k + 2) 17 (some h) [.list xs] = some (x, some h') ∧ isHand h' := by
  obtain ⟨r, h', e, a, b, hh'⟩ := draw k (xs.length : Int) hh (by omega) (by omega)
  have lt : r.toNat < xs.length := by omega
  refine ⟨xs[r.toNat], h', List.getElem_mem lt, ?_, hh'⟩
  have pp : pur xs[r.toNat] = true := purs_mem hp _ (List.getElem_mem lt)
  have ix : ixD (.list xs) (.int r) = some xs[r.toNat] := by
    simp [ixD, pixN, a, b, lt]
  rw [run_at (T := Ir.T) (k := k + 1) (d := Ir.f__law_any) rfl ⟨rfl, rfl, by decide⟩]
  generalize run Ir.T (k + 1) = C at e
  have pl : pur (.list xs) = false := rfl
  simp [Ir.f__law_any, startRo, bindS, bind1, pl, execs, exec, ev, evs, gv, bi, okSt, effE, effs, noScr, isOwn, e, ix, pp, settle, finish]
def gRo (h : D) : Ro := [.byr h, .emp, .emp, .emp, .emp, .emp, .emp, .emp, .emp, .emp, .emp, .emp, .emp]
def el73 : IE := .bin .Sub (.fref 16 0 (.cons (.int 41) .nil)) (.int 20)
theorem lc73 (k : Nat) {h : D} (hh : isHand h) : ∃ (rs : List Int) (h' : D), ev (run Ir.T (k + 2)) (.lc [11] el73 (.nm 11) (.rng1 (.fref 16 0 (.cons (.int 7) .nil))) .yes) (gRo h) = some (.list (rs.map .int), .fresh, gRo h') ∧ isHand h' ∧ rs.length < 7 ∧ ∀ r ∈ rs, r.natAbs ≤ 20 := by
  obtain ⟨m, h1, e1, m0, m1, hh1⟩ := draw (k + 1) 7 hh (by omega) (by omega)
  obtain ⟨n, rfl⟩ : ∃ n : Nat, m = n := ⟨m.toNat, by omega⟩
  have ei : evI (run Ir.T (k + 2)) (.rng1 (.fref 16 0 (.cons (.int 7) .nil))) (gRo h) = some (rangeD 0 n, [], gRo h1) := by
    generalize run Ir.T (k + 2) = C at e1
    have c : (n : Int) < 1000000 ∧ -1000000 < (n : Int) := by omega
    simp [evI, ev, evs, okSt, effs, noScr, isOwn, gRo, e1, lim, c]
  obtain ⟨acc, ρ3, e2, h', rfl, hh', rs, rfl, r1, r2⟩ := ev_lc_rel (C := run Ir.T (k + 2)) (own := [11]) (elt := el73) (g := .nm 11) (t := .yes) (ρ2 := gRo h1) (fun i acc ρ => ∃ h, ρ = gRo h ∧ isHand h ∧ ∃ rs : List Int, acc = rs.map .int ∧ rs.length = i ∧ ∀ r ∈ rs, r.natAbs ≤ 20) ei rfl rfl (fun i x ρ acc hx ⟨h, hr, hh, rs, ha, hl, hm⟩ => by
    subst hr
    subst ha
    obtain ⟨j, rfl⟩ : ∃ j : Int, x = .int j := by
      have := List.mem_of_getElem? hx
      obtain ⟨j, _, rfl⟩ := List.mem_map.mp this
      exact ⟨_, rfl⟩
    obtain ⟨y, h', e, y0, y1, hh'⟩ := draw (k + 1) 41 hh (by omega) (by omega)
    have il : i < n := by
      have := (List.getElem?_eq_some_iff.mp hx).1
      simpa [rangeD] using this
    refine ⟨[.byr h, .emp, .emp, .emp, .emp, .emp, .emp, .emp, .emp, .emp, .emp, .pur (.int j), .emp], [.byr h, .emp, .emp, .emp, .emp, .emp, .emp, .emp, .emp, .emp, .emp, .pur (.int j), .emp], .int (y - 20), .fresh, [.byr h', .emp, .emp, .emp, .emp, .emp, .emp, .emp, .emp, .emp, .emp, .pur (.int j), .emp], [.byr h', .emp, .emp, .emp, .emp, .emp, .emp, .emp, .emp, .emp, .emp, .pur (.int j), .emp], gRo h', rfl, rfl, ?_, rfl, rfl, by simp [lim]; omega, h', rfl, hh', (y - 20) :: rs, rfl, by simp [hl], fun r mr => ?_⟩
    · generalize run Ir.T (k + 2) = C at *
      simp [el73, ev, evs, okSt, effE, effs, noScr, isOwn, binop, e]
    · rcases List.mem_cons.mp mr with rfl | mr
      · omega
      · exact hm r mr) ⟨h1, rfl, hh1, [], rfl, rfl, fun r m => nomatch m⟩
  refine ⟨rs.reverse, h', ?_, hh', by simp [rangeD] at r1; simp; omega, fun r mr => r2 r (List.mem_reverse.mp mr)⟩
  rw [e2, ← List.map_reverse]
  rfl
theorem lrun73 (k : Nat) {h : D} (hh : isHand h) : ∃ (q : Int × Int) (h' : D), q ∈ runs ∧ run Ir.T (k + 2) 19 (some h) [] = some (.tuple [.int q.1, .int q.2], some h') ∧ isHand h' := by
  obtain ⟨a, h1, e1, a0, a1, hh1⟩ := draw k 4 hh (by omega) (by omega)
  obtain ⟨b, h2, e2, b0, b1, hh2⟩ := draw k 5 hh1 (by omega) (by omega)
  refine ⟨(1 - a, if b - 1 > 1 - a then b - 1 else 1 - a), h2, ?_, ?_, hh2⟩
  · have ha : a = 0 ∨ a = 1 ∨ a = 2 ∨ a = 3 := by omega
    have hb : b = 0 ∨ b = 1 ∨ b = 2 ∨ b = 3 ∨ b = 4 := by omega
    rcases ha with rfl | rfl | rfl | rfl <;> rcases hb with rfl | rfl | rfl | rfl | rfl <;> decide
  · rw [run_at (T := Ir.T) (k := k + 1) (d := Ir.f__law_run) rfl ⟨rfl, rfl, by decide⟩]
    have s0 : startRo Ir.f__law_run (some h) [] = [.byr h, .emp] := rfl
    rw [s0]
    generalize run Ir.T (k + 1) = C at *
    have mx : bi .max [.int (1 - a), .int (b - 1)] = some (.int (if b - 1 > 1 - a then b - 1 else 1 - a)) := rfl
    simp [Ir.f__law_run, execs, exec, ev, evs, gv, okSt, effE, effs, tks, tkE, noScr, isOwn, binop, e1, e2, mx, settles, settle, settleA, lim, bindV, noByr, pur, finish]
theorem plain_intsT (ts : List Int) : PyData.plainAll (ts.map .int) = true := by
  induction ts with
  | nil => rfl
  | cons t r ih => simp [PyData.plainAll, PyData.plain, ih]
theorem depth_intsT (ts : List Int) : PyData.depthAll (ts.map .int) = 0 := by
  induction ts with
  | nil => rfl
  | cons t r ih => simp [PyData.depthAll, PyData.depth, ih]
theorem eqv_intsT (ts : List Int) : PyData.eqvAll (ts.map .int) (ts.map .int) = true := by
  induction ts with
  | nil => rfl
  | cons t r ih => simp [PyData.eqvAll, PyData.eqv, ih]
theorem ne_tupI (ts : List Int) : cmpop .NotEq (tupI ts) (tupI ts) = some false := by
  simp [tupI, cmpop, eqD, PyData.plain, plain_intsT, PyData.depth, depth_intsT, PyData.eqv, eqv_intsT]
theorem log2_lt_of {n k : Nat} (h : n < 2 ^ k) (hk : 0 < k) : n.log2 < k := by
  by_cases z : n = 0
  · subst z
    simpa using hk
  · exact (Nat.log2_lt z).mpr h
def kRo (h : D) (p t : List Int) (q : Slot) (s : Int) : Ro := [.byr h, .pur (tupI p), .pur (tupI t), q, .emp, .emp, .emp, .emp, .pur (.int s), .emp, .emp, .emp, .emp]
theorem right73 {h : D} (hh : isHand h) : ∃ h', run Ir.T 39 21 (some h) [] = some (.bool true, some h') ∧ isHand h' := by
  obtain ⟨rs, h1, e1, q1, l1, m1⟩ := lc73 36 hh
  obtain ⟨x, h2, mx, e2, q2⟩ := any73 36 q1 [.int 1, .int (-1), .int 3, .int 7] rfl (by decide) (by decide)
  obtain ⟨c, rfl, hc0, hc1⟩ : ∃ c : Int, x = .int c ∧ c ≠ 0 ∧ c.natAbs ≤ 20 := by
    simp at mx
    rcases mx with rfl | rfl | rfl | rfl
    · exact ⟨1, rfl, by decide, by decide⟩
    · exact ⟨-1, rfl, by decide, by decide⟩
    · exact ⟨3, rfl, by decide, by decide⟩
    · exact ⟨7, rfl, by decide, by decide⟩
  obtain ⟨s0, h3, e3, s1, s2, q3⟩ := draw 37 41 q2 (by decide) (by decide)
  obtain ⟨y0, h4, e4, y1, y2, q4⟩ := draw 37 41 q3 (by decide) (by decide)
  obtain ⟨lh, h5, mlh, e5, q5⟩ := lrun73 36 q4
  obtain ⟨n, h6, e6, n1, n2, q6⟩ := draw 37 7 q5 (by decide) (by decide)
  obtain ⟨n, rfl⟩ : ∃ m : Nat, n = m := ⟨n.toNat, by omega⟩
  obtain ⟨s, hs⟩ : ∃ s, s = s0 - 20 := ⟨_, rfl⟩
  obtain ⟨y, hy⟩ : ∃ y, y = y0 - 20 := ⟨_, rfl⟩
  have bs : s.natAbs ≤ 20 := by omega
  have by' : y.natAbs ≤ 20 := by omega
  obtain ⟨p, hp⟩ : ∃ p, p = rs ++ [c] := ⟨_, rfl⟩
  have lp : p.length = rs.length + 1 := by rw [hp]; simp
  have lastp : p.getLastD 0 = c := by rw [hp]; simp [List.getLastD_eq_getLast?]
  have szp : szs 20 p := by
    rw [hp]
    intro x m
    rcases List.mem_append.mp m with m | m
    · exact m1 x m
    · rw [List.mem_singleton] at m
      subst m
      exact hc1
  have okp : PolyOk p := ⟨by omega, by omega, fun x m => Nat.lt_of_le_of_lt (szp x m) (by decide), by rw [lastp]; exact hc0⟩
  have szt : szs (20 * 21 ^ 7) (turnL s p) := fun x m => by
    have a1 := turnL_size s 20 p szp x m
    have a2 : (s.natAbs + 1) ^ p.length ≤ 21 ^ p.length := Nat.pow_le_pow_left (by omega) _
    have a3 : 21 ^ p.length ≤ 21 ^ 7 := Nat.pow_le_pow_right (by decide) (by omega)
    exact Nat.le_trans a1 (Nat.mul_le_mul_left 20 (Nat.le_trans a2 a3))
  have okt : PolyOk (turnL s p) := ⟨by rw [turnL_len]; omega, by rw [turnL_len]; omega, fun x m => Nat.lt_of_le_of_lt (szt x m) (by decide), turnL_last s p okp.last⟩
  have ta : ∀ r, PolyOk r → run Ir.T 38 13 none [tupI r, .int s] = some (tupI (turnL s r), none) := fun r ok => by
    have ip := ip_run (T := Ir.T) (i := 3) (j := 0) (fd := Ir.f_is_poly) (fe := Ir.f_is_integer) rfl rfl rfl rfl rfl rfl rfl rfl rfl rfl 34 _ ok
    have cp := cp_run (T := Ir.T) (i := 3) (c := 4) (fd := Ir.f_check_poly) rfl rfl rfl rfl rfl 36 _ ip
    exact ta_run (T := Ir.T) (c := 4) (w := 1) (i := 7) (tr := 2) (ta := 13) (fe := Ir.f_is_integer) (fw := Ir.f_is_within) (fi := Ir.f_terms_product) (ft := Ir.f_trimmed) (fa := Ir.f_turned_about) rfl rfl rfl rfl rfl rfl rfl rfl rfl rfl rfl rfl rfl rfl rfl rfl rfl rfl rfl rfl rfl rfl rfl rfl rfl 35 r s (by omega) cp ok.l0 ok.l1 ok.last
  have t1 := ta p okp
  have t2 := ta (turnL s p) okt
  rw [turnL_turnL] at t2
  have t3 := td_run 37 p s (by omega) (fun x m => Nat.lt_of_le_of_lt (szp x m) (by decide)) okp.l0 okp.l1 okp.last
  have v1 := vl_run (T := Ir.T) (i := 18) (fd := Ir.f__law_value) rfl rfl rfl rfl rfl 37 (turnL s p) y (by omega) okt.l1
  have v2 := vl_run (T := Ir.T) (i := 18) (fd := Ir.f__law_value) rfl rfl rfl rfl rfl 37 p (s - y) (by omega) okp.l1
  rw [E_turnL] at v1
  obtain ⟨z, ez, _⟩ := repr_ints (turnL s p) 36 (by decide) (fun x m => log2_lt_of (Nat.lt_of_le_of_lt (szt x m) (by decide)) (by decide)) (by rw [turnL_len]; simp [lim]; omega)
  obtain ⟨ρz, ze⟩ := okRet_eq (runN 17 (2 + n) h6 (.pur (tupI p)) (.pur (tupI (turnL s p))) (.pur (.int y)) (.pur (.int s)) (by omega) (by omega) lh mlh)
  rw [fxs_runJ J0_ok] at ze
  have ix6 : ((2 + n : Nat) : Int) = 2 + (n : Int) := by simp
  have ze' : execs (run Ir.T 38) (tlS 8 Ir.f__law_is_right.body) [.byr h6, .pur (tupI p), .pur (tupI (turnL s p)), .pur (.int y), .pur (.int (2 + (n : Int))), .emp, .emp, .emp, .pur (.int s), .pur (.int lh.1), .pur (.int lh.2), .emp, .emp] = some (.rt (.bool true) (.byr h6 :: ρz)) := by
    rw [← ix6]
    exact ze
  have tt := turnL_turnL s p
  generalize turnL s p = t at *
  refine ⟨h6, ?_, q6⟩
  rw [run_at (T := Ir.T) (k := 38) (d := Ir.f__law_is_right) rfl ⟨rfl, rfl, by decide⟩]
  have st : startRo Ir.f__law_is_right (some h) [] = gRo h := rfl
  rw [st]
  have pp := pur_tupI p
  have pt := pur_tupI t
  have pr := ints_purs rs
  have pi := ints_purs p
  generalize run Ir.T 38 = C at *
  have x1 : exec C (.asg (.nm 1) (.bin .Add (.lc [11] el73 (.nm 11) (.rng1 (.fref 16 0 (.cons (.int 7) .nil))) .yes) (.lst (.cons (.fref 17 0 (.cons (.lst (.cons (.int 1) (.cons (.neg (.int 1)) (.cons (.int 3) (.cons (.int 7) .nil))))) .nil)) .nil)))) (gRo h) = some (.nx [.byr h2, .own (.list (p.map .int)), .emp, .emp, .emp, .emp, .emp, .emp, .emp, .emp, .emp, .emp, .emp]) := by
    have w2 : ev C (.lst (.cons (.fref 17 0 (.cons (.lst (.cons (.int 1) (.cons (.neg (.int 1)) (.cons (.int 3) (.cons (.int 7) .nil))))) .nil)) .nil)) (gRo h1) = some (.list [.int c], .fresh, gRo h2) := by
      simp [ev, evs, okSt, effE, effs, tks, tkE, noScr, isOwn, gRo, settles, settle, lim, e2]
    have w3 := ev_bin (op := .Add) e1 w2 rfl (d := .list (p.map .int)) (by
      have l : rs.length + 1 ≤ 1000000 := by omega
      simp only [binop, List.length_map, List.length_cons, List.length_nil]
      rw [if_pos ⟨by simpa [lim] using l, pr, rfl⟩, hp]
      simp)
    exact x_asg w3 rfl rfl
  have x2 : exec C (.par [1, 8] (.cons (.bcall .tuple (.cons (.var 1) .nil)) (.cons (.bin .Sub (.fref 16 0 (.cons (.int 41) .nil)) (.int 20)) .nil))) [.byr h2, .own (.list (p.map .int)), .emp, .emp, .emp, .emp, .emp, .emp, .emp, .emp, .emp, .emp, .emp] = some (.nx [.byr h3, .pur (tupI p), .emp, .emp, .emp, .emp, .emp, .emp, .pur (.int s), .emp, .emp, .emp, .emp]) := by
    have w1 : ev C (.bcall .tuple (.cons (.var 1) .nil)) [.byr h2, .own (.list (p.map .int)), .emp, .emp, .emp, .emp, .emp, .emp, .emp, .emp, .emp, .emp, .emp] = some (tupI p, .fresh, [.byr h2, .own (.list (p.map .int)), .emp, .emp, .emp, .emp, .emp, .emp, .emp, .emp, .emp, .emp, .emp]) := ev_bi1 (d := .list (p.map .int)) (st := .loan 1) rfl (bi_tuple pi)
    have w2 : ev C (.bin .Sub (.fref 16 0 (.cons (.int 41) .nil)) (.int 20)) [.byr h2, .own (.list (p.map .int)), .emp, .emp, .emp, .emp, .emp, .emp, .emp, .emp, .emp, .emp, .emp] = some (.int s, .fresh, [.byr h3, .own (.list (p.map .int)), .emp, .emp, .emp, .emp, .emp, .emp, .emp, .emp, .emp, .emp, .emp]) := by
      simp [ev, evs, okSt, effE, effs, noScr, isOwn, binop, e3, hs]
    have w3 : evs C (.cons (.bcall .tuple (.cons (.var 1) .nil)) (.cons (.bin .Sub (.fref 16 0 (.cons (.int 41) .nil)) (.int 20)) .nil)) [.byr h2, .own (.list (p.map .int)), .emp, .emp, .emp, .emp, .emp, .emp, .emp, .emp, .emp, .emp, .emp] = some ([(tupI p, .fresh), (.int s, .fresh)], [.byr h3, .own (.list (p.map .int)), .emp, .emp, .emp, .emp, .emp, .emp, .emp, .emp, .emp, .emp, .emp]) := by
      simp only [evs, w1, w2]
      rfl
    simp only [exec, w3, settles, settle]
    simp [bindNs, bindV, noByr, pp, pur]
  have x3 : exec C (.asg (.nm 2) (.fcall 13 (.cons (.var 1) (.cons (.var 8) .nil)))) [.byr h3, .pur (tupI p), .emp, .emp, .emp, .emp, .emp, .emp, .pur (.int s), .emp, .emp, .emp, .emp] = some (.nx (kRo h3 p t .emp s)) := by
    simp [exec, ev, evs, gv, okSt, effE, effs, noScr, t1, settle, settleA, bindV, noByr, pt, kRo]
  have x4 : exec C (.ifs (.or (.cmp (.cmp .NotEq (.bcall .repr (.cons (.var 2) .nil)) (.bcall .repr (.cons (.fcall 20 (.cons (.var 1) (.cons (.var 8) .nil))) .nil)))) (.one (.cmp (.cmp .NotEq (.fcall 13 (.cons (.var 2) (.cons (.var 8) .nil))) (.var 1))))) (.cons (.ret (.bl false))
    .nil) .nil) (kRo h3 p t .emp s) = some (.nx (kRo h3 p t .emp s)) := by
    have g1 : ev C (.var 1) (kRo h3 p t .emp s) = some (tupI p, .fresh, kRo h3 p t .emp s) := rfl
    have g2 : ev C (.var 2) (kRo h3 p t .emp s) = some (tupI t, .fresh, kRo h3 p t .emp s) := rfl
    have w1 : ev C (.fcall 20 (.cons (.var 1) (.cons (.var 8) .nil))) (kRo h3 p t .emp s) = some (tupI t, .fresh, kRo h3 p t .emp s) := by
      simp [ev, evs, gv, okSt, effE, effs, noScr, t3, kRo]
    have w2 : ev C (.fcall 13 (.cons (.var 2) (.cons (.var 8) .nil))) (kRo h3 p t .emp s) = some (tupI p, .fresh, kRo h3 p t .emp s) := by
      simp [ev, evs, gv, okSt, effE, effs, noScr, t2, kRo]
    have q : cmpop .NotEq (.str z) (.str z) = some false := by
      have := eq_str z
      simp only [cmpop] at this ⊢
      rw [this]
      rfl
    have a1 := evT_cmp (op := .NotEq) (ev_bi1 g2 ez) (ev_bi1 w1 ez) rfl q
    have a2 := evT_cmp (op := .NotEq) w2 g1 rfl (ne_tupI p)
    have a3 : evT C (.or (.cmp (.cmp .NotEq (.bcall .repr (.cons (.var 2) .nil)) (.bcall .repr (.cons (.fcall 20 (.cons (.var 1) (.cons (.var 8) .nil))) .nil)))) (.one (.cmp (.cmp .NotEq (.fcall 13 (.cons (.var 2) (.cons (.var 8) .nil))) (.var 1))))) (kRo h3 p t .emp s) = some (false, kRo h3 p t .emp s) := by
      simp only [evT] at a1 a2 ⊢
      simp only [a1, a2]
    rw [x_ifs a3]
    rfl
  have x5 : exec C (.asg (.nm 3) (.bin .Sub (.fref 16 0 (.cons (.int 41) .nil)) (.int 20))) (kRo h3 p t .emp s) = some (.nx (kRo h4 p t (.pur (.int y)) s)) := by
    simp [exec, ev, evs, okSt, effE, effs, noScr, isOwn, binop, e4, hy, settle, settleA, bindV, noByr, pur, kRo]
  have x6 : exec C (.ifs (.cmp (.cmp .NotEq (.fcall 18 (.cons (.var 2) (.cons (.var 3) .nil))) (.fcall 18 (.cons (.var 1) (.cons (.bin .Sub (.var 8) (.var 3)) .nil))))) (.cons (.ret (.bl false))
    .nil) .nil) (kRo h4 p t (.pur (.int y)) s) = some (.nx (kRo h4 p t (.pur (.int y)) s)) := by
    have w1 : ev C (.fcall 18 (.cons (.var 2) (.cons (.var 3) .nil))) (kRo h4 p t (.pur (.int y)) s) = some (.int (E p (s - y)), .fresh, kRo h4 p t (.pur (.int y)) s) := by
      simp [ev, evs, gv, okSt, effE, effs, noScr, v1, kRo]
    have w2 : ev C (.fcall 18 (.cons (.var 1) (.cons (.bin .Sub (.var 8) (.var 3)) .nil))) (kRo h4 p t (.pur (.int y)) s) = some (.int (E p (s - y)), .fresh, kRo h4 p t (.pur (.int y)) s) := by
      simp [ev, evs, gv, okSt, effE, effs, noScr, binop, v2, kRo]
    have q : ∀ i : Int, cmpop .NotEq (.int i) (.int i) = some false := fun i => by simp [cmpop, eqD]
    rw [x_ifs (evT_cmp (op := .NotEq) w1 w2 rfl (q _))]
    rfl
  have x7 : exec C (.asg (.t2 (.nm 9) (.nm 10)) (.fref 19 0 .nil)) (kRo h4 p t (.pur (.int y)) s) = some (.nx [.byr h5, .pur (tupI p), .pur (tupI t), .pur (.int y), .emp, .emp, .emp, .emp, .pur (.int s), .pur (.int lh.1), .pur (.int lh.2), .emp, .emp]) := by
    simp [exec, ev, evs, noScr, isOwn, e5, settle, settleA, bindV, noByr, pur, kRo]
  have x8 : exec C (.asg (.nm 4) (.bin .Add (.int 2) (.fref 16 0 (.cons (.int 7) .nil)))) [.byr h5, .pur (tupI p), .pur (tupI t), .pur (.int y), .emp, .emp, .emp, .emp, .pur (.int s), .pur (.int lh.1), .pur (.int lh.2), .emp, .emp] = some (.nx [.byr h6, .pur (tupI p), .pur (tupI t), .pur (.int y), .pur (.int (2 + (n : Int))), .emp, .emp, .emp, .pur (.int s), .pur (.int lh.1), .pur (.int lh.2), .emp, .emp]) := by
    simp [exec, ev, evs, okSt, effE, effs, noScr, isOwn, binop, e6, settle, settleA, bindV, noByr, pur]
  have fin : execs C Ir.f__law_is_right.body (gRo h) = some (.rt (.bool true) (.byr h6 :: ρz)) := (x_cons x1).trans ((x_cons x2).trans ((x_cons x3).trans ((x_cons x4).trans ((x_cons x5).trans ((x_cons x6).trans ((x_cons x7).trans ((x_cons x8).trans ze')))))))
  rw [fin]
  rfl
theorem lawSt (k : Nat) (s h : D) : fxs (runJ Ir.T jNo 0 (k + 20)) (hdS 2 (tlS 1 Ir.f_law.body)) [.scr s, .own h, .emp] = some (.nx [.scr s, .own h, .emp]) := by kernel_rfl
theorem Ir.answers (ns : List Int) (hl : ns.length ≤ 63) : ∃ o, run Ir.T 40 22 none [.list (ns.map .int)] = some (.bool true, o) := by
  obtain ⟨h0, e0, q0⟩ := lawHand 38 ns hl
  obtain ⟨h1, e1, q1⟩ := right73 q0
  obtain ⟨h2, e2, q2⟩ := right73 q1
  obtain ⟨h3, e3, q3⟩ := right73 q2
  obtain ⟨h4, e4, q4⟩ := right73 q3
  obtain ⟨h5, e5, q5⟩ := right73 q4
  refine ⟨none, ?_⟩
  rw [run_at (T := Ir.T) (k := 39) (d := Ir.f_law) rfl ⟨rfl, rfl, by decide⟩]
  have s0 : startRo Ir.f_law none [.list (ns.map .int)] = [.scr (.list (ns.map .int)), .emp, .emp] := rfl
  rw [s0]
  generalize hs : PyData.list (ns.map .int) = s at *
  have p0 := hand_pur q0
  have p1 := hand_pur q1
  have p2 := hand_pur q2
  have p3 := hand_pur q3
  have p4 := hand_pur q4
  have st := lawSt 19 s h0
  rw [fxs_runJ (jNo_ok _ _)] at st
  have x1 : exec (run Ir.T 39) (.asg (.nm 1) (.fscr 15 (.cons (.var 0) .nil))) [.scr s, .emp, .emp] = some (.nx [.scr s, .own h0, .emp]) := by
    generalize run Ir.T 39 = C at *
    simp [exec, ev, evs, gv, okSt, effs, e0, settleA, settle, bindV, noByr, p0]
  have x2 : execs (run Ir.T 39) Ir.f_law.body [.scr s, .emp, .emp] = execs (run Ir.T 39) (tlS 3 Ir.f_law.body) [.scr s, .own h0, .emp] := (x_cons x1).trans (execs_hd (b := tlS 1 Ir.f_law.body) 2 st)
  rw [x2]
  generalize run Ir.T 39 = C at *
  have r4 : rangeD 0 5 = [.int 0, .int 1, .int 2, .int 3, .int 4] := rfl
  simp [Ir.f_law, tlS, execs, exec, evT, evC, evI, ev, evs, evO, gv, isOwn, okSt, noScr, effE, effs, effO, effT, effC, effI, tkE, tks, settle, settles, settleA, bindV, noByr, pur, purs, hide, unhide, lcGo, r4, walkOk, IG.slots, itemsOf, lim, p0, p1, p2, p3, p4, e1, e2, e3, e4, e5, truD, bi, toBls, finish]
end Zr

set_option maxRecDepth 100000
set_option maxHeartbeats 0
namespace Zr
open PySem PySem.Spec PyProof.Rows L2
namespace Ir
def row (i : Nat) : Stmt := PySem.Challenge.rw_cutrooms_k73_whole_polynomials_turned_ab.prog.main.body.getD i (.Pass ⟨0, 0, 0, 0⟩)
def tab : List (Stmt × List Str × List Str) := [(row 7, [(Str.ofString "thing")], [(Str.ofString "thing")]),
  (row 8, [(Str.ofString "thing"), (Str.ofString "low"), (Str.ofString "high")], [(Str.ofString "thing"), (Str.ofString "low"), (Str.ofString "high")]),
  (row 12, [(Str.ofString "terms"), (Str.ofString "found")], [(Str.ofString "terms")]),
  (row 13, [(Str.ofString "thing"), (Str.ofString "one")], [(Str.ofString "thing")]),
  (row 14, [(Str.ofString "thing")], [(Str.ofString "thing")]),
  (row 19, [(Str.ofString "low"), (Str.ofString "high")], [(Str.ofString "low"), (Str.ofString "high")]),
  (row 20, [(Str.ofString "n"), (Str.ofString "low"), (Str.ofString "high")], [(Str.ofString "n"), (Str.ofString "low"), (Str.ofString "high")]),
  (row 21, [(Str.ofString "one"), (Str.ofString "other"), (Str.ofString "found"), (Str.ofString "i"), (Str.ofString "first"), (Str.ofString "j"), (Str.ofString "last")], [(Str.ofString "one"), (Str.ofString "other")]),
  (row 22, [(Str.ofString "row"), (Str.ofString "power"), (Str.ofString "found"), (Str.ofString "turn")], [(Str.ofString "row"), (Str.ofString "power")]),
  (row 23, [(Str.ofString "n"), (Str.ofString "high"), (Str.ofString "found"), (Str.ofString "j")], [(Str.ofString "n"), (Str.ofString "high")]),
  (row 24, [(Str.ofString "n"), (Str.ofString "first"), (Str.ofString "last"), (Str.ofString "weights"), (Str.ofString "total"), (Str.ofString "by"), (Str.ofString "turn"), (Str.ofString "k"), (Str.ofString "weight"), (Str.ofString "row"), (Str.ofString "term"), (Str.ofString "mine"), (Str.ofString "its")], [(Str.ofString "n"), (Str.ofString "first"), (Str.ofString "last")]),
  (row 25, [(Str.ofString "n"), (Str.ofString "low"), (Str.ofString "high"), (Str.ofString "first"), (Str.ofString "last")], [(Str.ofString "n"), (Str.ofString "low"), (Str.ofString "high")]),
  (row 26, [(Str.ofString "n"), (Str.ofString "low"), (Str.ofString "high")], [(Str.ofString "n"), (Str.ofString "low"), (Str.ofString "high")]),
  (row 27, [(Str.ofString "poly"), (Str.ofString "s"), (Str.ofString "found"), (Str.ofString "term")], [(Str.ofString "poly"), (Str.ofString "s")]),
  (row 28, [(Str.ofString "n"), (Str.ofString "low"), (Str.ofString "high")], [(Str.ofString "n"), (Str.ofString "low"), (Str.ofString "high")]),
  (row 30, [(Str.ofString "script"), (Str.ofString "cells"), (Str.ofString "cell")], [(Str.ofString "script")]),
  (row 31, [(Str.ofString "hand"), (Str.ofString "below"), (Str.ofString "number"), (Str.ofString "cell"), (Str.ofString "digit")], [(Str.ofString "hand"), (Str.ofString "below")]),
  (row 32, [(Str.ofString "hand"), (Str.ofString "some")], [(Str.ofString "hand"), (Str.ofString "some")]),
  (row 33, [(Str.ofString "poly"), (Str.ofString "q"), (Str.ofString "found"), (Str.ofString "term")], [(Str.ofString "poly"), (Str.ofString "q")]),
  (row 34, [(Str.ofString "hand"), (Str.ofString "low")], [(Str.ofString "hand")]),
  (row 35, [(Str.ofString "poly"), (Str.ofString "s"), (Str.ofString "term"), (Str.ofString "found"), (Str.ofString "power"), (Str.ofString "longer"), (Str.ofString "at"), (Str.ofString "one")], [(Str.ofString "poly"), (Str.ofString "s")]),
  (row 36, [(Str.ofString "hand"), (Str.ofString "poly"), (Str.ofString "told"), (Str.ofString "q"), (Str.ofString "n"), (Str.ofString "middle"), (Str.ofString "by_q"), (Str.ofString "sign"), (Str.ofString "s"), (Str.ofString "low"), (Str.ofString "high"), (Str.ofString "at"), (Str.ofString "term")], [(Str.ofString "hand")]),
  (row 37, [(Str.ofString "script"), (Str.ofString "hand"), (Str.ofString "lap_on")], [(Str.ofString "script")])]
def G : Gx := ⟨T.map fun d => (d.name, d.nparams, d.mode), [((Str.ofString "MOST_X"), (.int 1000000000)), ((Str.ofString "MOST_SIZE"), (.int 1000000000000000000000000000000)), ((Str.ofString "LEAST_N"), (.int 2)), ((Str.ofString "MOST_N"), (.int 12)), ((Str.ofString "MOST_END"), (.int 20))], [(Str.ofString "bool"), (Str.ofString "len"), (Str.ofString "abs"), (Str.ofString "int"), (Str.ofString "max"), (Str.ofString "min"), (Str.ofString "all"), (Str.ofString "any"), (Str.ofString "tuple"), (Str.ofString "list"), (Str.ofString "repr"), (Str.ofString "isinstance"), (Str.ofString "range"), (Str.ofString "enumerate"), (Str.ofString "zip")], []⟩
theorem chk : (T.zip tab).all (fun p => fnC G p.1 p.2.1 p.2.2.1 p.2.2.2) = true := by decide +kernel
end Ir
namespace Ir
theorem stand {K : PySem.W.Frag} {h : Heap} {mg : Str → Option Value} {P : Program} {w : World} (X : K.In h) (B : h.Ns mainGlobals mg)
    {f0 : Addr} {od0 an0 : Option Addr} {sl0 : Array (Option Value)} {oc0 kV0 dc0 pm0 cd0 ct0 : Value} {f1 : Addr} {od1 an1 : Option Addr} {sl1 : Array (Option Value)} {oc1 kV1 dc1 pm1 cd1 ct1 : Value} {f2 : Addr} {od2 an2 : Option Addr} {sl2 : Array (Option Value)} {oc2 kV2 dc2 pm2 cd2 ct2 : Value} {f3 : Addr} {od3 an3 : Option Addr} {sl3 : Array (Option Value)} {oc3 kV3 dc3 pm3 cd3 ct3 : Value} {f4 : Addr} {od4 an4 : Option Addr} {sl4 : Array (Option Value)} {oc4 kV4 dc4 pm4 cd4 ct4 : Value} {f5 : Addr} {od5 an5 : Option Addr} {sl5 : Array (Option Value)} {oc5 kV5 dc5 pm5 cd5 ct5 : Value} {f6 : Addr} {od6 an6 : Option Addr} {sl6 : Array (Option Value)} {oc6 kV6 dc6 pm6 cd6 ct6 : Value} {f7 : Addr} {od7 an7 : Option Addr} {sl7 : Array (Option Value)} {oc7 kV7 dc7 pm7 cd7 ct7 : Value} {f8 : Addr} {od8 an8 : Option Addr} {sl8 : Array (Option Value)} {oc8 kV8 dc8 pm8 cd8 ct8 : Value} {f9 : Addr} {od9 an9 : Option Addr} {sl9 : Array (Option Value)} {oc9 kV9 dc9 pm9 cd9 ct9 : Value} {f10 : Addr} {od10 an10 : Option Addr} {sl10 : Array (Option Value)} {oc10 kV10 dc10 pm10 cd10 ct10 : Value} {f11 : Addr} {od11 an11 : Option Addr} {sl11 : Array (Option Value)} {oc11 kV11 dc11 pm11 cd11 ct11 : Value} {f12 : Addr} {od12 an12 : Option Addr} {sl12 : Array (Option Value)} {oc12 kV12 dc12 pm12 cd12 ct12 : Value} {f13 : Addr} {od13 an13 : Option Addr} {sl13 : Array (Option Value)} {oc13 kV13 dc13 pm13 cd13 ct13 : Value} {f14 : Addr} {od14 an14 : Option Addr} {sl14 : Array (Option Value)} {oc14 kV14 dc14 pm14 cd14 ct14 : Value} {f15 : Addr} {od15 an15 : Option Addr} {sl15 : Array (Option Value)} {oc15 kV15 dc15 pm15 cd15 ct15 : Value} {f16 : Addr} {od16 an16 : Option Addr} {sl16 : Array (Option Value)} {oc16 kV16 dc16 pm16 cd16 ct16 : Value} {f17 : Addr} {od17 an17 : Option Addr} {sl17 : Array (Option Value)} {oc17 kV17 dc17 pm17 cd17 ct17 : Value} {f18 : Addr} {od18 an18 : Option Addr} {sl18 : Array (Option Value)} {oc18 kV18 dc18 pm18 cd18 ct18 : Value} {f19 : Addr} {od19 an19 : Option Addr} {sl19 : Array (Option Value)} {oc19 kV19 dc19 pm19 cd19 ct19 : Value} {f20 : Addr} {od20 an20 : Option Addr} {sl20 : Array (Option Value)} {oc20 kV20 dc20 pm20 cd20 ct20 : Value} {f21 : Addr} {od21 an21 : Option Addr} {sl21 : Array (Option Value)} {oc21 kV21 dc21 pm21 cd21 ct21 : Value} {f22 : Addr} {od22 an22 : Option Addr} {sl22 : Array (Option Value)} {oc22 kV22 dc22 pm22 cd22 ct22 : Value} {g0t : Tok} {g1t : Tok} {g2t : Tok} {g3t : Tok} {g4t : Tok}
    (a0 : PySem.W.nsIn K mainGlobals (Str.ofString "is_integer") = some (some (.ref f0))) (l0 : K.lookup f0 = some ⟨oc0, od0, .func (PySem.W.fnOf (Str.ofString "is_integer") (Str.ofString "is_integer") (defArgs (row 7)) (defBody (row 7)) (defScope (row 7)) .none kV0 dc0 pm0 an0 cd0 ct0), sl0⟩) (c0 : PySem.W.codeIn K cd0 (Str.ofString "is_integer") = true) (k0 : PySem.W.keepIn K (.ref f0) = true)
    (a1 : PySem.W.nsIn K mainGlobals (Str.ofString "is_within") = some (some (.ref f1))) (l1 : K.lookup f1 = some ⟨oc1, od1, .func (PySem.W.fnOf (Str.ofString "is_within") (Str.ofString "is_within") (defArgs (row 8)) (defBody (row 8)) (defScope (row 8)) .none kV1 dc1 pm1 an1 cd1 ct1), sl1⟩) (c1 : PySem.W.codeIn K cd1 (Str.ofString "is_within") = true) (k1 : PySem.W.keepIn K (.ref f1) = true)
    (a2 : PySem.W.nsIn K mainGlobals (Str.ofString "trimmed") = some (some (.ref f2))) (l2 : K.lookup f2 = some ⟨oc2, od2, .func (PySem.W.fnOf (Str.ofString "trimmed") (Str.ofString "trimmed") (defArgs (row 12)) (defBody (row 12)) (defScope (row 12)) .none kV2 dc2 pm2 an2 cd2 ct2), sl2⟩) (c2 : PySem.W.codeIn K cd2 (Str.ofString "trimmed") = true) (k2 : PySem.W.keepIn K (.ref f2) = true)
    (a3 : PySem.W.nsIn K mainGlobals (Str.ofString "is_poly") = some (some (.ref f3))) (l3 : K.lookup f3 = some ⟨oc3, od3, .func (PySem.W.fnOf (Str.ofString "is_poly") (Str.ofString "is_poly") (defArgs (row 13)) (defBody (row 13)) (defScope (row 13)) .none kV3 dc3 pm3 an3 cd3 ct3), sl3⟩) (c3 : PySem.W.codeIn K cd3 (Str.ofString "is_poly") = true) (k3 : PySem.W.keepIn K (.ref f3) = true)
    (a4 : PySem.W.nsIn K mainGlobals (Str.ofString "check_poly") = some (some (.ref f4))) (l4 : K.lookup f4 = some ⟨oc4, od4, .func (PySem.W.fnOf (Str.ofString "check_poly") (Str.ofString "check_poly") (defArgs (row 14)) (defBody (row 14)) (defScope (row 14)) .none kV4 dc4 pm4 an4 cd4 ct4), sl4⟩) (c4 : PySem.W.codeIn K cd4 (Str.ofString "check_poly") = true) (k4 : PySem.W.keepIn K (.ref f4) = true)
    (a5 : PySem.W.nsIn K mainGlobals (Str.ofString "check_run") = some (some (.ref f5))) (l5 : K.lookup f5 = some ⟨oc5, od5, .func (PySem.W.fnOf (Str.ofString "check_run") (Str.ofString "check_run") (defArgs (row 19)) (defBody (row 19)) (defScope (row 19)) .none kV5 dc5 pm5 an5 cd5 ct5), sl5⟩) (c5 : PySem.W.codeIn K cd5 (Str.ofString "check_run") = true) (k5 : PySem.W.keepIn K (.ref f5) = true)
    (a6 : PySem.W.nsIn K mainGlobals (Str.ofString "check_ruled") = some (some (.ref f6))) (l6 : K.lookup f6 = some ⟨oc6, od6, .func (PySem.W.fnOf (Str.ofString "check_ruled") (Str.ofString "check_ruled") (defArgs (row 20)) (defBody (row 20)) (defScope (row 20)) .none kV6 dc6 pm6 an6 cd6 ct6), sl6⟩) (c6 : PySem.W.codeIn K cd6 (Str.ofString "check_ruled") = true) (k6 : PySem.W.keepIn K (.ref f6) = true)
    (a7 : PySem.W.nsIn K mainGlobals (Str.ofString "terms_product") = some (some (.ref f7))) (l7 : K.lookup f7 = some ⟨oc7, od7, .func (PySem.W.fnOf (Str.ofString "terms_product") (Str.ofString "terms_product") (defArgs (row 21)) (defBody (row 21)) (defScope (row 21)) .none kV7 dc7 pm7 an7 cd7 ct7), sl7⟩) (c7 : PySem.W.codeIn K cd7 (Str.ofString "terms_product") = true) (k7 : PySem.W.keepIn K (.ref f7) = true)
    (a8 : PySem.W.nsIn K mainGlobals (Str.ofString "raised_to") = some (some (.ref f8))) (l8 : K.lookup f8 = some ⟨oc8, od8, .func (PySem.W.fnOf (Str.ofString "raised_to") (Str.ofString "raised_to") (defArgs (row 22)) (defBody (row 22)) (defScope (row 22)) .none kV8 dc8 pm8 an8 cd8 ct8), sl8⟩) (c8 : PySem.W.codeIn K cd8 (Str.ofString "raised_to") = true) (k8 : PySem.W.keepIn K (.ref f8) = true)
    (a9 : PySem.W.nsIn K mainGlobals (Str.ofString "poly_of_like") = some (some (.ref f9))) (l9 : K.lookup f9 = some ⟨oc9, od9, .func (PySem.W.fnOf (Str.ofString "poly_of_like") (Str.ofString "poly_of_like") (defArgs (row 23)) (defBody (row 23)) (defScope (row 23)) .none kV9 dc9 pm9 an9 cd9 ct9), sl9⟩) (c9 : PySem.W.codeIn K cd9 (Str.ofString "poly_of_like") = true) (k9 : PySem.W.keepIn K (.ref f9) = true)
    (a10 : PySem.W.nsIn K mainGlobals (Str.ofString "poly_of_unlike") = some (some (.ref f10))) (l10 : K.lookup f10 = some ⟨oc10, od10, .func (PySem.W.fnOf (Str.ofString "poly_of_unlike") (Str.ofString "poly_of_unlike") (defArgs (row 24)) (defBody (row 24)) (defScope (row 24)) .none kV10 dc10 pm10 an10 cd10 ct10), sl10⟩) (c10 : PySem.W.codeIn K cd10 (Str.ofString "poly_of_unlike") = true) (k10 : PySem.W.keepIn K (.ref f10) = true)
    (a11 : PySem.W.nsIn K mainGlobals (Str.ofString "raw_run_poly") = some (some (.ref f11))) (l11 : K.lookup f11 = some ⟨oc11, od11, .func (PySem.W.fnOf (Str.ofString "raw_run_poly") (Str.ofString "raw_run_poly") (defArgs (row 25)) (defBody (row 25)) (defScope (row 25)) .none kV11 dc11 pm11 an11 cd11 ct11), sl11⟩) (c11 : PySem.W.codeIn K cd11 (Str.ofString "raw_run_poly") = true) (k11 : PySem.W.keepIn K (.ref f11) = true)
    (a12 : PySem.W.nsIn K mainGlobals (Str.ofString "run_poly") = some (some (.ref f12))) (l12 : K.lookup f12 = some ⟨oc12, od12, .func (PySem.W.fnOf (Str.ofString "run_poly") (Str.ofString "run_poly") (defArgs (row 26)) (defBody (row 26)) (defScope (row 26)) .none kV12 dc12 pm12 an12 cd12 ct12), sl12⟩) (c12 : PySem.W.codeIn K cd12 (Str.ofString "run_poly") = true) (k12 : PySem.W.keepIn K (.ref f12) = true)
    (a13 : PySem.W.nsIn K mainGlobals (Str.ofString "turned_about") = some (some (.ref f13))) (l13 : K.lookup f13 = some ⟨oc13, od13, .func (PySem.W.fnOf (Str.ofString "turned_about") (Str.ofString "turned_about") (defArgs (row 27)) (defBody (row 27)) (defScope (row 27)) .none kV13 dc13 pm13 an13 cd13 ct13), sl13⟩) (c13 : PySem.W.codeIn K cd13 (Str.ofString "turned_about") = true) (k13 : PySem.W.keepIn K (.ref f13) = true)
    (a14 : PySem.W.nsIn K mainGlobals (Str.ofString "run_middle") = some (some (.ref f14))) (l14 : K.lookup f14 = some ⟨oc14, od14, .func (PySem.W.fnOf (Str.ofString "run_middle") (Str.ofString "run_middle") (defArgs (row 28)) (defBody (row 28)) (defScope (row 28)) .none kV14 dc14 pm14 an14 cd14 ct14), sl14⟩) (c14 : PySem.W.codeIn K cd14 (Str.ofString "run_middle") = true) (k14 : PySem.W.keepIn K (.ref f14) = true)
    (a15 : PySem.W.nsIn K mainGlobals (Str.ofString "_law_hand") = some (some (.ref f15))) (l15 : K.lookup f15 = some ⟨oc15, od15, .func (PySem.W.fnOf (Str.ofString "_law_hand") (Str.ofString "_law_hand") (defArgs (row 30)) (defBody (row 30)) (defScope (row 30)) .none kV15 dc15 pm15 an15 cd15 ct15), sl15⟩) (c15 : PySem.W.codeIn K cd15 (Str.ofString "_law_hand") = true) (k15 : PySem.W.keepIn K (.ref f15) = true)
    (a16 : PySem.W.nsIn K mainGlobals (Str.ofString "_law_draw") = some (some (.ref f16))) (l16 : K.lookup f16 = some ⟨oc16, od16, .func (PySem.W.fnOf (Str.ofString "_law_draw") (Str.ofString "_law_draw") (defArgs (row 31)) (defBody (row 31)) (defScope (row 31)) .none kV16 dc16 pm16 an16 cd16 ct16), sl16⟩) (c16 : PySem.W.codeIn K cd16 (Str.ofString "_law_draw") = true) (k16 : PySem.W.keepIn K (.ref f16) = true)
    (a17 : PySem.W.nsIn K mainGlobals (Str.ofString "_law_any") = some (some (.ref f17))) (l17 : K.lookup f17 = some ⟨oc17, od17, .func (PySem.W.fnOf (Str.ofString "_law_any") (Str.ofString "_law_any") (defArgs (row 32)) (defBody (row 32)) (defScope (row 32)) .none kV17 dc17 pm17 an17 cd17 ct17), sl17⟩) (c17 : PySem.W.codeIn K cd17 (Str.ofString "_law_any") = true) (k17 : PySem.W.keepIn K (.ref f17) = true)
    (a18 : PySem.W.nsIn K mainGlobals (Str.ofString "_law_value") = some (some (.ref f18))) (l18 : K.lookup f18 = some ⟨oc18, od18, .func (PySem.W.fnOf (Str.ofString "_law_value") (Str.ofString "_law_value") (defArgs (row 33)) (defBody (row 33)) (defScope (row 33)) .none kV18 dc18 pm18 an18 cd18 ct18), sl18⟩) (c18 : PySem.W.codeIn K cd18 (Str.ofString "_law_value") = true) (k18 : PySem.W.keepIn K (.ref f18) = true)
    (a19 : PySem.W.nsIn K mainGlobals (Str.ofString "_law_run") = some (some (.ref f19))) (l19 : K.lookup f19 = some ⟨oc19, od19, .func (PySem.W.fnOf (Str.ofString "_law_run") (Str.ofString "_law_run") (defArgs (row 34)) (defBody (row 34)) (defScope (row 34)) .none kV19 dc19 pm19 an19 cd19 ct19), sl19⟩) (c19 : PySem.W.codeIn K cd19 (Str.ofString "_law_run") = true) (k19 : PySem.W.keepIn K (.ref f19) = true)
    (a20 : PySem.W.nsIn K mainGlobals (Str.ofString "_law_turned") = some (some (.ref f20))) (l20 : K.lookup f20 = some ⟨oc20, od20, .func (PySem.W.fnOf (Str.ofString "_law_turned") (Str.ofString "_law_turned") (defArgs (row 35)) (defBody (row 35)) (defScope (row 35)) .none kV20 dc20 pm20 an20 cd20 ct20), sl20⟩) (c20 : PySem.W.codeIn K cd20 (Str.ofString "_law_turned") = true) (k20 : PySem.W.keepIn K (.ref f20) = true)
    (a21 : PySem.W.nsIn K mainGlobals (Str.ofString "_law_is_right") = some (some (.ref f21))) (l21 : K.lookup f21 = some ⟨oc21, od21, .func (PySem.W.fnOf (Str.ofString "_law_is_right") (Str.ofString "_law_is_right") (defArgs (row 36)) (defBody (row 36)) (defScope (row 36)) .none kV21 dc21 pm21 an21 cd21 ct21), sl21⟩) (c21 : PySem.W.codeIn K cd21 (Str.ofString "_law_is_right") = true) (k21 : PySem.W.keepIn K (.ref f21) = true)
    (a22 : PySem.W.nsIn K mainGlobals (Str.ofString "law") = some (some (.ref f22))) (l22 : K.lookup f22 = some ⟨oc22, od22, .func (PySem.W.fnOf (Str.ofString "law") (Str.ofString "law") (defArgs (row 37)) (defBody (row 37)) (defScope (row 37)) .none kV22 dc22 pm22 an22 cd22 ct22), sl22⟩) (c22 : PySem.W.codeIn K cd22 (Str.ofString "law") = true) (k22 : PySem.W.keepIn K (.ref f22) = true)
    (b0 : PySem.W.nsIn K mainGlobals (Str.ofString "bool") = some none)
    (b1 : PySem.W.nsIn K mainGlobals (Str.ofString "len") = some none)
    (b2 : PySem.W.nsIn K mainGlobals (Str.ofString "abs") = some none)
    (b3 : PySem.W.nsIn K mainGlobals (Str.ofString "int") = some none)
    (b4 : PySem.W.nsIn K mainGlobals (Str.ofString "max") = some none)
    (b5 : PySem.W.nsIn K mainGlobals (Str.ofString "min") = some none)
    (b6 : PySem.W.nsIn K mainGlobals (Str.ofString "all") = some none)
    (b7 : PySem.W.nsIn K mainGlobals (Str.ofString "any") = some none)
    (b8 : PySem.W.nsIn K mainGlobals (Str.ofString "tuple") = some none)
    (b9 : PySem.W.nsIn K mainGlobals (Str.ofString "list") = some none)
    (b10 : PySem.W.nsIn K mainGlobals (Str.ofString "repr") = some none)
    (b11 : PySem.W.nsIn K mainGlobals (Str.ofString "isinstance") = some none)
    (b12 : PySem.W.nsIn K mainGlobals (Str.ofString "range") = some none)
    (b13 : PySem.W.nsIn K mainGlobals (Str.ofString "enumerate") = some none)
    (b14 : PySem.W.nsIn K mainGlobals (Str.ofString "zip") = some none)
    (con0 : PySem.W.nsIn K mainGlobals (Str.ofString "MOST_X") = some (some (.int 1000000000 g0t)))
    (con1 : PySem.W.nsIn K mainGlobals (Str.ofString "MOST_SIZE") = some (some (.int 1000000000000000000000000000000 g1t)))
    (con2 : PySem.W.nsIn K mainGlobals (Str.ofString "LEAST_N") = some (some (.int 2 g2t)))
    (con3 : PySem.W.nsIn K mainGlobals (Str.ofString "MOST_N") = some (some (.int 12 g3t)))
    (con4 : PySem.W.nsIn K mainGlobals (Str.ofString "MOST_END") = some (some (.int 20 g4t)))
    : Tab P w K mg G T tab := by
  refine tab_mk rfl rfl chk ?_ ?_ ?_ ?_
  · exact .cons ⟨f0, _, fun_mk l0 c0 k0, PySem.W.mg_of X B a0, (fun_mk (st := row 7) l0 c0 k0).binds fun _ _ _ _ _ _ us hl => match us, hl with | [_], _ => rfl⟩ (.cons ⟨f1, _, fun_mk l1 c1 k1, PySem.W.mg_of X B a1, (fun_mk (st := row 8) l1 c1 k1).binds fun _ _ _ _ _ _ us hl => match us, hl with | [_, _, _], _ => rfl⟩ (.cons ⟨f2, _, fun_mk l2 c2 k2, PySem.W.mg_of X B a2, (fun_mk (st := row 12) l2 c2 k2).binds fun _ _ _ _ _ _ us hl => match us, hl with | [_], _ => rfl⟩ (.cons ⟨f3, _, fun_mk l3 c3 k3, PySem.W.mg_of X B a3, (fun_mk (st := row 13) l3 c3 k3).binds fun _ _ _ _ _ _ us hl => match us, hl with | [_], _ => rfl⟩ (.cons ⟨f4, _, fun_mk l4 c4 k4, PySem.W.mg_of X B a4, (fun_mk (st := row 14) l4 c4 k4).binds fun _ _ _ _ _ _ us hl => match us, hl with | [_], _ => rfl⟩ (.cons ⟨f5, _, fun_mk l5 c5 k5, PySem.W.mg_of X B a5, (fun_mk (st := row 19) l5 c5 k5).binds fun _ _ _ _ _ _ us hl => match us, hl with | [_, _], _ => rfl⟩ (.cons ⟨f6, _, fun_mk l6 c6 k6, PySem.W.mg_of X B a6, (fun_mk (st := row 20) l6 c6 k6).binds fun _ _ _ _ _ _ us hl => match us, hl with | [_, _, _], _ => rfl⟩ (.cons ⟨f7, _, fun_mk l7 c7 k7, PySem.W.mg_of X B a7, (fun_mk (st := row 21) l7 c7 k7).binds fun _ _ _ _ _ _ us hl => match us, hl with | [_, _], _ => rfl⟩ (.cons ⟨f8, _, fun_mk l8 c8 k8, PySem.W.mg_of X B a8, (fun_mk (st := row 22) l8 c8 k8).binds fun _ _ _ _ _ _ us hl => match us, hl with | [_, _], _ => rfl⟩ (.cons ⟨f9, _, fun_mk l9 c9 k9, PySem.W.mg_of X B a9, (fun_mk (st := row 23) l9 c9 k9).binds fun _ _ _ _ _ _ us hl => match us, hl with | [_, _], _ => rfl⟩ (.cons ⟨f10, _, fun_mk l10 c10 k10, PySem.W.mg_of X B a10, (fun_mk (st := row 24) l10 c10 k10).binds fun _ _ _ _ _ _ us hl => match us, hl with | [_, _, _], _ => rfl⟩ (.cons ⟨f11, _, fun_mk l11 c11 k11, PySem.W.mg_of X B a11, (fun_mk (st := row 25) l11 c11 k11).binds fun _ _ _ _ _ _ us hl => match us, hl with | [_, _, _], _ => rfl⟩ (.cons ⟨f12, _, fun_mk l12 c12 k12, PySem.W.mg_of X B a12, (fun_mk (st := row 26) l12 c12 k12).binds fun _ _ _ _ _ _ us hl => match us, hl with | [_, _, _], _ => rfl⟩ (.cons ⟨f13, _, fun_mk l13 c13 k13, PySem.W.mg_of X B a13, (fun_mk (st := row 27) l13 c13 k13).binds fun _ _ _ _ _ _ us hl => match us, hl with | [_, _], _ => rfl⟩ (.cons ⟨f14, _, fun_mk l14 c14 k14, PySem.W.mg_of X B a14, (fun_mk (st := row 28) l14 c14 k14).binds fun _ _ _ _ _ _ us hl => match us, hl with | [_, _, _], _ => rfl⟩ (.cons ⟨f15, _, fun_mk l15 c15 k15, PySem.W.mg_of X B a15, (fun_mk (st := row 30) l15 c15 k15).binds fun _ _ _ _ _ _ us hl => match us, hl with | [_], _ => rfl⟩ (.cons ⟨f16, _, fun_mk l16 c16 k16, PySem.W.mg_of X B a16, (fun_mk (st := row 31) l16 c16 k16).binds fun _ _ _ _ _ _ us hl => match us, hl with | [_, _], _ => rfl⟩ (.cons ⟨f17, _, fun_mk l17 c17 k17, PySem.W.mg_of X B a17, (fun_mk (st := row 32) l17 c17 k17).binds fun _ _ _ _ _ _ us hl => match us, hl with | [_, _], _ => rfl⟩ (.cons ⟨f18, _, fun_mk l18 c18 k18, PySem.W.mg_of X B a18, (fun_mk (st := row 33) l18 c18 k18).binds fun _ _ _ _ _ _ us hl => match us, hl with | [_, _], _ => rfl⟩ (.cons ⟨f19, _, fun_mk l19 c19 k19, PySem.W.mg_of X B a19, (fun_mk (st := row 34) l19 c19 k19).binds fun _ _ _ _ _ _ us hl => match us, hl with | [_], _ => rfl⟩ (.cons ⟨f20, _, fun_mk l20 c20 k20, PySem.W.mg_of X B a20, (fun_mk (st := row 35) l20 c20 k20).binds fun _ _ _ _ _ _ us hl => match us, hl with | [_, _], _ => rfl⟩ (.cons ⟨f21, _, fun_mk l21 c21 k21, PySem.W.mg_of X B a21, (fun_mk (st := row 36) l21 c21 k21).binds fun _ _ _ _ _ _ us hl => match us, hl with | [_], _ => rfl⟩ (.cons ⟨f22, _, fun_mk l22 c22 k22, PySem.W.mg_of X B a22, (fun_mk (st := row 37) l22 c22 k22).binds fun _ _ _ _ _ _ us hl => match us, hl with | [_], _ => rfl⟩ (.nil)))))))))))))))))))))))
  · intro x m
    simp only [G, List.mem_cons, List.not_mem_nil, or_false] at m
    rcases m with rfl | rfl | rfl | rfl | rfl | rfl | rfl | rfl | rfl | rfl | rfl | rfl | rfl | rfl | rfl
    · exact PySem.W.mg_none_of X B b0
    · exact PySem.W.mg_none_of X B b1
    · exact PySem.W.mg_none_of X B b2
    · exact PySem.W.mg_none_of X B b3
    · exact PySem.W.mg_none_of X B b4
    · exact PySem.W.mg_none_of X B b5
    · exact PySem.W.mg_none_of X B b6
    · exact PySem.W.mg_none_of X B b7
    · exact PySem.W.mg_none_of X B b8
    · exact PySem.W.mg_none_of X B b9
    · exact PySem.W.mg_none_of X B b10
    · exact PySem.W.mg_none_of X B b11
    · exact PySem.W.mg_none_of X B b12
    · exact PySem.W.mg_none_of X B b13
    · exact PySem.W.mg_none_of X B b14
  · intro p m
    simp only [G, List.mem_cons, List.not_mem_nil, or_false] at m
    rcases m with rfl | rfl | rfl | rfl | rfl
    · exact ⟨_, .int 1000000000, PySem.W.mg_of X B con0, ⟨_, rfl⟩, fun _ => .int _⟩
    · exact ⟨_, .int 1000000000000000000000000000000, PySem.W.mg_of X B con1, ⟨_, rfl⟩, fun _ => .int _⟩
    · exact ⟨_, .int 2, PySem.W.mg_of X B con2, ⟨_, rfl⟩, fun _ => .int _⟩
    · exact ⟨_, .int 12, PySem.W.mg_of X B con3, ⟨_, rfl⟩, fun _ => .int _⟩
    · exact ⟨_, .int 20, PySem.W.mg_of X B con4, ⟨_, rfl⟩, fun _ => .int _⟩
  · intro p m
    exact nomatch m
end Ir
end Zr
open Zr
open PySem PySem.W PyProof.Rows in
set_option maxRecDepth 100000 in
set_option maxHeartbeats 0 in
theorem PySem.Challenge.cw_cutrooms_k73_whole_polynomials_turned_ab_holds : PySem.Challenge.rw_cutrooms_k73_whole_polynomials_turned_ab.Holds := by
  w_on; o_law; k_head; (case hw => w_witness2)
  k_fill
  refine Zr.walkZ (l := PySem.Challenge.rw_cutrooms_k73_whole_polynomials_turned_ab) (most := 63) (lv := 40) (T := Ir.T) (tab := Ir.tab) (G := Ir.G) (iL := 22) (x := "script") rfl (by decide) rfl ⟨rfl, by decide, by decide⟩ (fun w h Y => PySem.W.kIn_of Y) ?F ⟨_, _, rfl, rfl, rfl, rfl, rfl⟩ Ir.answers
  case F =>
    intro w mg h KX G
    refine' Ir.stand KX G ?a0 ?l0 ?c0 ?k0 ?a1 ?l1 ?c1 ?k1 ?a2 ?l2 ?c2 ?k2 ?a3 ?l3 ?c3 ?k3 ?a4 ?l4 ?c4 ?k4 ?a5 ?l5 ?c5 ?k5 ?a6 ?l6 ?c6 ?k6 ?a7 ?l7 ?c7 ?k7 ?a8 ?l8 ?c8 ?k8 ?a9 ?l9 ?c9 ?k9 ?a10 ?l10 ?c10 ?k10 ?a11 ?l11 ?c11 ?k11 ?a12 ?l12 ?c12 ?k12 ?a13 ?l13 ?c13 ?k13 ?a14 ?l14 ?c14 ?k14 ?a15 ?l15 ?c15 ?k15 ?a16 ?l16 ?c16 ?k16 ?a17 ?l17 ?c17 ?k17 ?a18 ?l18 ?c18 ?k18 ?a19 ?l19 ?c19 ?k19 ?a20 ?l20 ?c20 ?k20 ?a21 ?l21 ?c21 ?k21 ?a22 ?l22 ?c22 ?k22 ?b0 ?b1 ?b2 ?b3 ?b4 ?b5 ?b6 ?b7 ?b8 ?b9 ?b10 ?b11 ?b12 ?b13 ?b14 ?con0 ?con1 ?con2 ?con3 ?con4
    (case a0 => k_is)
    (case l0 => k_is)
    (case c0 => k_is)
    (case k0 => k_is)
    (case a1 => k_is)
    (case l1 => k_is)
    (case c1 => k_is)
    (case k1 => k_is)
    (case a2 => k_is)
    (case l2 => k_is)
    (case c2 => k_is)
    (case k2 => k_is)
    (case a3 => k_is)
    (case l3 => k_is)
    (case c3 => k_is)
    (case k3 => k_is)
    (case a4 => k_is)
    (case l4 => k_is)
    (case c4 => k_is)
    (case k4 => k_is)
    (case a5 => k_is)
    (case l5 => k_is)
    (case c5 => k_is)
    (case k5 => k_is)
    (case a6 => k_is)
    (case l6 => k_is)
    (case c6 => k_is)
    (case k6 => k_is)
    (case a7 => k_is)
    (case l7 => k_is)
    (case c7 => k_is)
    (case k7 => k_is)
    (case a8 => k_is)
    (case l8 => k_is)
    (case c8 => k_is)
    (case k8 => k_is)
    (case a9 => k_is)
    (case l9 => k_is)
    (case c9 => k_is)
    (case k9 => k_is)
    (case a10 => k_is)
    (case l10 => k_is)
    (case c10 => k_is)
    (case k10 => k_is)
    (case a11 => k_is)
    (case l11 => k_is)
    (case c11 => k_is)
    (case k11 => k_is)
    (case a12 => k_is)
    (case l12 => k_is)
    (case c12 => k_is)
    (case k12 => k_is)
    (case a13 => k_is)
    (case l13 => k_is)
    (case c13 => k_is)
    (case k13 => k_is)
    (case a14 => k_is)
    (case l14 => k_is)
    (case c14 => k_is)
    (case k14 => k_is)
    (case a15 => k_is)
    (case l15 => k_is)
    (case c15 => k_is)
    (case k15 => k_is)
    (case a16 => k_is)
    (case l16 => k_is)
    (case c16 => k_is)
    (case k16 => k_is)
    (case a17 => k_is)
    (case l17 => k_is)
    (case c17 => k_is)
    (case k17 => k_is)
    (case a18 => k_is)
    (case l18 => k_is)
    (case c18 => k_is)
    (case k18 => k_is)
    (case a19 => k_is)
    (case l19 => k_is)
    (case c19 => k_is)
    (case k19 => k_is)
    (case a20 => k_is)
    (case l20 => k_is)
    (case c20 => k_is)
    (case k20 => k_is)
    (case a21 => k_is)
    (case l21 => k_is)
    (case c21 => k_is)
    (case k21 => k_is)
    (case a22 => k_is)
    (case l22 => k_is)
    (case c22 => k_is)
    (case k22 => k_is)
    (case b0 => k_is)
    (case b1 => k_is)
    (case b2 => k_is)
    (case b3 => k_is)
    (case b4 => k_is)
    (case b5 => k_is)
    (case b6 => k_is)
    (case b7 => k_is)
    (case b8 => k_is)
    (case b9 => k_is)
    (case b10 => k_is)
    (case b11 => k_is)
    (case b12 => k_is)
    (case b13 => k_is)
    (case b14 => k_is)
    (case con0 => k_is)
    (case con1 => k_is)
    (case con2 => k_is)
    (case con3 => k_is)
    (case con4 => k_is)
