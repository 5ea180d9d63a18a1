import PyProof.Rows.All
import Wide.All
import OpenK.AllK
import Wide.FinOn
import HandS.ForMost
import KE.SortData
import HandS.TupSets
import HandS.SetFor
import KE.KeyNested
import KE.SortKeyHeap
import HandS.SortKw
import KE.KDictKeyed
import KE.KDictDisplayH
import HandS.TupAny
import HandS.TupMul
import HandS.Deep
import HandS.IsInst
import HandS.Conv
import HandS.Exc
import HandS.Dict
import HandS.TupLen
import KE.DataMinMax
import HandS.ExcOwn
import HandS.NoneIn
import HandS.Small
import HandS.Style
import HandS.TryOnly
import HandS.ExcIs
import HandS.ExcField
import KE.KExcIs
import HandS.Ends
import PyProof.ReprLen
import PySem.Challenge.RW_foldsflat_k16_fans_told
set_option autoImplicit false
set_option linter.all false
set_option Elab.async false
set_option maxRecDepth 10000
set_option maxHeartbeats 4000000
/-! PvA: the plain values D of the evaluator, their order, their equality. -/
namespace PV
open PySem

/-- a plain value; o: the object is owned (may be changed) -/
inductive D where
  | non | bl (b : Bool) | int (i : Int) | str (x : Str)
  | tup (l : List D) | lst (o : Bool) (l : List D) | scr (l : List Int)
  | dct (o : Bool) (ks vs : List D) | set (o : Bool) (l : List D) | ref (n : Nat)

instance : Inhabited D := ⟨.non⟩

/-! data, for == and < -/
mutual
def D.pd : D → PyData
  | .non => .none | .bl b => .bool b | .int i => .int i | .str x => .str x
  | .tup l => .tuple (D.pds l) | .lst _ l => .list (D.pds l)
  | .scr _ => .dict [] | .dct _ _ _ => .dict [] | .set _ _ => .dict [] | .ref _ => .dict []
def D.pds : List D → List PyData
  | [] => [] | x :: xs => D.pd x :: D.pds xs
end
theorem D.pds_map : ∀ l : List D, D.pds l = l.map D.pd
  | [] => rfl
  | x :: xs => by rw [D.pds, D.pds_map xs, List.map_cons]

/-! all is frozen -/
mutual
def D.fz : D → D
  | .tup l => .tup (D.fzs l) | .lst _ l => .lst false (D.fzs l)
  | .dct _ ks vs => .dct false ks (D.fzs vs) | .set _ l => .set false l
  | .non => .non | .bl b => .bl b | .int i => .int i | .str x => .str x | .scr l => .scr l | .ref n => .ref n
def D.fzs : List D → List D
  | [] => [] | x :: xs => D.fz x :: D.fzs xs
end

/-! nothing in it is owned -/
mutual
def D.isz : D → Bool
  | .tup l => D.iszs l | .lst o l => !o && D.iszs l
  | .dct o _ vs => !o && D.iszs vs | .set o _ => !o
  | .non => true | .bl _ => true | .int _ => true | .str _ => true | .scr _ => true | .ref _ => true
def D.iszs : List D → Bool
  | [] => true | x :: xs => D.isz x && D.iszs xs
end

/-! Python's == -/
mutual
def D.eqv : D → D → Bool
  | .non, .non => true
  | .bl a, .bl b => a == b
  | .bl a, .int j => (if a then 1 else 0) == j
  | .int i, .bl b => i == (if b then 1 else 0)
  | .int i, .int j => i == j
  | .str x, .str y => x == y
  | .tup l, .tup m => D.eqvs l m
  | .lst _ l, .lst _ m => D.eqvs l m
  | _, _ => false
def D.eqvs : List D → List D → Bool
  | [], [] => true
  | x :: xs, y :: ys => D.eqv x y && D.eqvs xs ys
  | _, _ => false
end
mutual
theorem D.eqv_pd : ∀ x y : D, PyData.eqv x.pd y.pd = D.eqv x y
  | .tup l, .tup m => by simp only [D.pd, D.eqv, PyData.eqv]; exact D.eqvs_pd l m
  | .lst _ l, .lst _ m => by simp only [D.pd, D.eqv, PyData.eqv]; exact D.eqvs_pd l m
  | .non, y => by cases y <;> simp [D.pd, D.eqv, PyData.eqv]
  | .bl a, y => by cases y <;> simp [D.pd, D.eqv, PyData.eqv]
  | .int a, y => by cases y <;> simp [D.pd, D.eqv, PyData.eqv]
  | .str a, y => by cases y <;> simp [D.pd, D.eqv, PyData.eqv]
  | .scr a, y => by cases y <;> simp [D.pd, D.eqv, PyData.eqv]
  | .dct _ _ a, y => by cases y <;> simp [D.pd, D.eqv, PyData.eqv]
  | .set _ a, y => by cases y <;> simp [D.pd, D.eqv, PyData.eqv]
  | .ref a, y => by cases y <;> simp [D.pd, D.eqv, PyData.eqv]
  | .tup l, .non => by simp [D.pd, D.eqv, PyData.eqv]
  | .tup l, .bl _ => by simp [D.pd, D.eqv, PyData.eqv]
  | .tup l, .int _ => by simp [D.pd, D.eqv, PyData.eqv]
  | .tup l, .str _ => by simp [D.pd, D.eqv, PyData.eqv]
  | .tup l, .lst _ _ => by simp [D.pd, D.eqv, PyData.eqv]
  | .tup l, .scr _ => by simp [D.pd, D.eqv, PyData.eqv]
  | .tup l, .dct _ _ _ => by simp [D.pd, D.eqv, PyData.eqv]
  | .tup l, .set _ _ => by simp [D.pd, D.eqv, PyData.eqv]
  | .tup l, .ref _ => by simp [D.pd, D.eqv, PyData.eqv]
  | .lst _ l, .non => by simp [D.pd, D.eqv, PyData.eqv]
  | .lst _ l, .bl _ => by simp [D.pd, D.eqv, PyData.eqv]
  | .lst _ l, .int _ => by simp [D.pd, D.eqv, PyData.eqv]
  | .lst _ l, .str _ => by simp [D.pd, D.eqv, PyData.eqv]
  | .lst _ l, .tup _ => by simp [D.pd, D.eqv, PyData.eqv]
  | .lst _ l, .scr _ => by simp [D.pd, D.eqv, PyData.eqv]
  | .lst _ l, .dct _ _ _ => by simp [D.pd, D.eqv, PyData.eqv]
  | .lst _ l, .set _ _ => by simp [D.pd, D.eqv, PyData.eqv]
  | .lst _ l, .ref _ => by simp [D.pd, D.eqv, PyData.eqv]
theorem D.eqvs_pd : ∀ l m : List D, PyData.eqvAll (D.pds l) (D.pds m) = D.eqvs l m
  | [], [] => rfl
  | [], y :: ys => by simp [D.pds, D.eqvs, PyData.eqvAll]
  | x :: xs, [] => by simp [D.pds, D.eqvs, PyData.eqvAll]
  | x :: xs, y :: ys => by
    simp only [D.pds, D.eqvs, PyData.eqvAll]
    rw [D.eqv_pd x y, D.eqvs_pd xs ys]
end

/-! data that == serves, at most n deep -/
mutual
def D.okd : Nat → D → Bool
  | _, .non => true | _, .bl _ => true | _, .int _ => true | _, .str x => PyData.strOk x
  | n + 1, .tup l => D.okds n l | n + 1, .lst _ l => D.okds n l
  | 0, .tup _ => false | 0, .lst _ _ => false | _, .scr _ => false | _, .dct _ _ _ => false | _, .set _ _ => false | _, .ref _ => false
def D.okds : Nat → List D → Bool
  | _, [] => true | n, x :: xs => D.okd n x && D.okds n xs
end
mutual
theorem D.okd_lay : ∀ (x : D) (n : Nat), D.okd n x = true → x.pd.canLay0 = true ∧ x.pd.depth ≤ n
  | .non, n, _ => by simp [D.pd, PyData.canLay0, PyData.depth]
  | .bl _, n, _ => by simp [D.pd, PyData.canLay0, PyData.depth]
  | .int _, n, _ => by simp [D.pd, PyData.canLay0, PyData.depth]
  | .str x, n, h => by simp only [D.okd] at h; simp [D.pd, PyData.canLay0, PyData.depth]; exact h
  | .tup l, n, h => by
    cases n with
    | zero => simp [D.okd] at h
    | succ n =>
      simp only [D.okd] at h
      obtain ⟨a, b⟩ := D.okds_lay l n h
      simp only [D.pd, PyData.canLay0, PyData.depth]
      exact ⟨a, by omega⟩
  | .lst _ l, n, h => by
    cases n with
    | zero => simp [D.okd] at h
    | succ n =>
      simp only [D.okd] at h
      obtain ⟨a, b⟩ := D.okds_lay l n h
      simp only [D.pd, PyData.canLay0, PyData.depth]
      exact ⟨a, by omega⟩
  | .scr _, n, h => by simp [D.okd] at h
  | .dct _ _ _, n, h => by simp [D.okd] at h
  | .set _ _, n, h => by simp [D.okd] at h
  | .ref _, n, h => by simp [D.okd] at h
theorem D.okds_lay : ∀ (l : List D) (n : Nat), D.okds n l = true → PyData.canLayAll0 (D.pds l) = true ∧ PyData.depthAll (D.pds l) ≤ n
  | [], n, _ => by simp [D.pds, PyData.canLayAll0, PyData.depthAll]
  | x :: xs, n, h => by
    simp only [D.okds, Bool.and_eq_true] at h
    obtain ⟨a, b⟩ := D.okd_lay x n h.1
    obtain ⟨c, d⟩ := D.okds_lay xs n h.2
    simp only [D.pds, PyData.canLayAll0, PyData.depthAll, a, c]
    exact ⟨rfl, by omega⟩
end
/-- may be compared by == -/
abbrev D.cmpb (x : D) : Bool := D.okd 60 x
theorem D.shaped {x : D} (h : x.cmpb = true) : SeqAt.shaped x.pd = true := by
  obtain ⟨a, b⟩ := D.okd_lay x 60 h
  unfold SeqAt.shaped
  rw [a, decide_eq_true (by omega)]
  rfl

/-! Python's < of data that are alike -/
mutual
def D.lt : D → D → Bool
  | .bl a, .bl b => !a && b
  | .int i, .int j => decide (i < j)
  | .str x, .str y => decide (x.cps.toList < y.cps.toList)
  | .tup l, .tup m => D.lts l m
  | .lst _ l, .lst _ m => D.lts l m
  | _, _ => false
def D.lts : List D → List D → Bool
  | _, [] => false
  | [], _ :: _ => true
  | x :: xs, y :: ys => if D.eqv x y then D.lts xs ys else D.lt x y
end
/-! may be compared by <: place by place of one kind -/
mutual
def D.ali : D → D → Bool
  | .non, .non => true
  | .bl _, .bl _ => true
  | .int _, .int _ => true
  | .str _, .str _ => true
  | .tup l, .tup m => D.alis l m
  | .lst _ l, .lst _ m => D.alis l m
  | _, _ => false
def D.alis : List D → List D → Bool
  | x :: xs, y :: ys => D.ali x y && D.alis xs ys
  | _, _ => true
end
mutual
theorem D.ali_pd : ∀ x y : D, D.ali x y = true → PySem.W.alike x.pd y.pd = true
  | .tup l, y, h => by
    cases y <;> simp only [D.ali, Bool.false_eq_true] at h
    simp only [D.pd, PySem.W.alike]; exact D.alis_pd _ _ h
  | .lst _ l, y, h => by
    cases y <;> simp only [D.ali, Bool.false_eq_true] at h
    simp only [D.pd, PySem.W.alike]; exact D.alis_pd _ _ h
  | .non, y, h => by cases y <;> simp_all [D.ali, D.pd, PySem.W.alike]
  | .bl _, y, h => by cases y <;> simp_all [D.ali, D.pd, PySem.W.alike]
  | .int _, y, h => by cases y <;> simp_all [D.ali, D.pd, PySem.W.alike]
  | .str _, y, h => by cases y <;> simp_all [D.ali, D.pd, PySem.W.alike]
  | .scr _, y, h => by cases y <;> simp_all [D.ali, D.pd, PySem.W.alike]
  | .dct _ _ _, y, h => by cases y <;> simp_all [D.ali, D.pd, PySem.W.alike]
  | .set _ _, y, h => by cases y <;> simp_all [D.ali, D.pd, PySem.W.alike]
  | .ref _, y, h => by cases y <;> simp_all [D.ali, D.pd, PySem.W.alike]
theorem D.alis_pd : ∀ l m : List D, D.alis l m = true → PySem.W.alikeAll (D.pds l) (D.pds m) = true
  | [], _, _ => by simp [D.pds, PySem.W.alikeAll]
  | x :: xs, [], _ => by simp [D.pds, PySem.W.alikeAll]
  | x :: xs, y :: ys, h => by
    simp only [D.alis, Bool.and_eq_true] at h
    simp only [D.pds, PySem.W.alikeAll, D.ali_pd x y h.1, D.alis_pd xs ys h.2, Bool.and_self]
end
mutual
theorem D.lt_pd : ∀ x y : D, D.ali x y = true → PySem.W.dataLt x.pd y.pd = D.lt x y
  | .tup l, y, h => by
    cases y <;> simp only [D.ali, Bool.false_eq_true] at h
    simp only [D.pd, D.lt]
    rw [PySem.W.dataLt_tuple]; exact D.lts_pd _ _ h
  | .lst _ l, y, h => by
    cases y <;> simp only [D.ali, Bool.false_eq_true] at h
    simp only [D.pd, D.lt]
    rw [PySem.W.dataLt_list]; exact D.lts_pd _ _ h
  | .non, y, h => by
    cases y <;> simp only [D.ali, Bool.false_eq_true] at h
    decide
  | .bl a, y, h => by
    cases y <;> simp only [D.ali, Bool.false_eq_true] at h
    rename_i b
    simp only [D.pd, D.lt]
    rw [PySem.W.dataLt_bool]
    cases a <;> cases b <;> decide
  | .int _, y, h => by
    cases y <;> simp only [D.ali, Bool.false_eq_true] at h
    simp only [D.pd, D.lt]
    rw [PySem.W.dataLt_int]
  | .str _, y, h => by
    cases y <;> simp only [D.ali, Bool.false_eq_true] at h
    simp only [D.pd, D.lt]
    rw [PySem.W.dataLt_str]
  | .scr _, y, h => by cases y <;> simp_all [D.ali]
  | .dct _ _ _, y, h => by cases y <;> simp_all [D.ali]
  | .set _ _, y, h => by cases y <;> simp_all [D.ali]
  | .ref _, y, h => by cases y <;> simp_all [D.ali]
theorem D.lts_pd : ∀ l m : List D, D.alis l m = true → PyProof.Rows.lexLt PyProof.Rows.itemOrd (PySem.W.keyToksAll (D.pds l)) (PySem.W.keyToksAll (D.pds m)) = D.lts l m
  | [], [], _ => by decide
  | [], y :: ys, _ => by
    simp only [D.pds, D.lts, PySem.W.keyToksAll]
    rw [PySem.W.lex_atom (by decide)]
    decide
  | x :: xs, [], _ => by
    simp only [D.pds, D.lts, PySem.W.keyToksAll]
    rw [PySem.W.lex_atom (by decide)]
    decide
  | x :: xs, y :: ys, h => by
    simp only [D.alis, Bool.and_eq_true] at h
    simp only [D.pds, D.lts]
    rw [PySem.W.dataLt_cons (D.ali_pd x y h.1), D.eqv_pd, D.lt_pd x y h.1, D.lts_pd xs ys h.2]
end
end PV

/-! PvA1: sets of nested tuples. -/
namespace PV
open PySem L2 PyProof.Rows
/-- the value at b is the key k, told by reference -/
def KIs (h : Heap) (k : NestedKey) (b : Addr) : Prop := NestedIs h k (.ref b) ∧ k.depth ≤ 8
theorem KIs.inj {h : Heap} {k j : NestedKey} {b : Addr} (x : KIs h k b) (y : KIs h j b) : k = j := NestedIs.inj _ _ _ x.1 y.1
theorem KIs.mono {h h' : Heap} {k : NestedKey} {b : Addr} (x : KIs h k b) (e : ∀ c o, h.get? c = some o → h'.get? c = some o) : KIs h' k b := ⟨NestedIs.at (fun c o _ _ hc _ => e c o hc) k _ x.1, x.2⟩
/-- a change of a set leaves it -/
theorem KIs.but {h h' : Heap} {k : NestedKey} {a b : Addr} {o : Obj} {es : Array (Int × Value)} {ep : Nat} {t : SetTable} (x : KIs h k b) (ho : h.get? a = some o) (hd : o.data = .set es ep t) (sb : Heap.SameBut a h h') : KIs h' k b := by
  refine ⟨NestedIs.at (fun c oc vs n hc he => ?_) k _ x.1, x.2⟩
  have hne : c ≠ a := fun e => by
    rw [e, ho] at hc
    rw [← Option.some.inj hc, hd] at he
    exact nomatch he
  rw [sb.2 c hne]; exact hc
section
variable {P : Program} {w : World}
mutual
theorem cls_key : ∀ (k : NestedKey) (v : Value) (n : Nat) (s : Shared) (A : Around) (E : Value → Shared → Prop) (Q : Bool → Shared → Prop), NestedIs s.heap k v → k.depth ≤ n → Q false s → wpAny (model P w) A (ofAClassStatement n v) Q E s
  | .none, _, n, s, A, E, Q, x, _, q => by cases x; cases n <;> exact wpAny_pure q
  | .num _, _, n, s, A, E, Q, x, _, q => by cases x <;> cases n <;> exact wpAny_pure q
  | .text _, _, n, s, A, E, Q, x, _, q => by cases x; cases n <;> exact wpAny_pure q
  | .tup ks, _, n, s, A, E, Q, x, hn, q => by
    cases x with
    | @tup b o vs m _ hg hc hd hk =>
      simp only [NestedKey.depth] at hn
      cases n with
      | zero => omega
      | succ n =>
        have ty : s.TypeIs (.ref b) "tuple" := ⟨o, hg, hc⟩
        unfold ofAClassStatement
        refine wpAny_bind (wpAny_typeOf ty ?_)
        simp only [show (("tuple" : String) == "tuple") = true from by decide, if_true, Bool.not_true, Bool.false_eq_true, if_false]
        try refine wpAny_bind (wpAny_pure ?_)
        try simp only [Bool.not_true, Bool.false_eq_true, if_false]
        refine wpAny_bind (wpAny_seqItems hg hd ?_)
        dsimp only
        refine wpAny_bind ?_
        rw [← Array.forIn_toList]
        refine wpAny_forIn_list _ (fun rest r s2 => r.1 = none ∧ s2 = s ∧ ∃ js, NestedAll s.heap js rest ∧ NestedKey.depthAll js ≤ n) _ ?_ ?_ _ _ ⟨rfl, rfl, ks, hk, by omega⟩
        · rintro v rest r s2 ⟨e1, rfl, js, e2, e3⟩
          cases e2 with
          | @cons j _ js _ a1 a2 =>
            simp only [NestedKey.depthAll] at e3
            refine wpAny_bind (clss_key (j :: js) (v :: rest) n s2 (.cons a1 a2) (by simp only [NestedKey.depthAll]; omega) v (List.mem_cons_self) A E _ ?_)
            rw [if_neg (show ¬ (false = true) by decide)]
            exact wpAny_pure ⟨rfl, rfl, js, a2, by omega⟩
        · rintro ⟨r1, r2⟩ s2 ⟨e1, rfl, _⟩
          obtain rfl : r1 = none := e1
          exact wpAny_pure q
theorem clss_key : ∀ (ks : List NestedKey) (vs : List Value) (n : Nat) (s : Shared), NestedAll s.heap ks vs → NestedKey.depthAll ks ≤ n → ∀ v ∈ vs, ∀ (A : Around) (E : Value → Shared → Prop) (Q : Bool → Shared → Prop), Q false s → wpAny (model P w) A (ofAClassStatement n v) Q E s
  | [], _, n, s, x, _, v, hv, A, E, Q, q => by cases x; cases hv
  | k :: ks, _, n, s, x, hn, v, hv, A, E, Q, q => by
    cases x with
    | cons a1 a2 =>
      simp only [NestedKey.depthAll] at hn
      rcases List.mem_cons.mp hv with e | hv
      · rw [e]; exact cls_key k _ n s A E Q a1 (by omega) q
      · exact clss_key ks _ n s a2 (by omega) v hv A E Q q
end
mutual
theorem hby_key : ∀ (k : NestedKey) (v : Value) (n : Nat) (s : Shared) (A : Around) (E : Value → Shared → Prop) (Q : Bool → Shared → Prop), NestedIs s.heap k v → k.depth ≤ n → (∀ b, Q b s) → wpAny (model P w) A (hashByValue n v) Q E s
  | .none, _, n, s, A, E, Q, x, _, q => by cases x; cases n <;> exact wpAny_pure (q _)
  | .num _, _, n, s, A, E, Q, x, _, q => by cases x <;> cases n <;> exact wpAny_pure (q _)
  | .text _, _, n, s, A, E, Q, x, _, q => by cases x; cases n <;> exact wpAny_pure (q _)
  | .tup ks, _, n, s, A, E, Q, x, hn, q => by
    cases x with
    | @tup b o vs m _ hg hc hd hk =>
      simp only [NestedKey.depth] at hn
      cases n with
      | zero => omega
      | succ n =>
        have ty : s.TypeIs (.ref b) "tuple" := ⟨o, hg, hc⟩
        unfold hashByValue
        refine wpAny_bind (wpAny_specialOf ty F.slot_tuple_hash.lookup ?_)
        dsimp only
        refine wpAny_bind (wpAny_seqItems hg hd ?_)
        dsimp only [Option.getD]
        refine wpAny_bind ?_
        rw [← Array.forIn_toList]
        refine wpAny_forIn_list _ (fun rest r s2 => r.1 = none ∧ s2 = s ∧ ∃ js, NestedAll s.heap js rest ∧ NestedKey.depthAll js ≤ n) _ ?_ ?_ _ _ ⟨rfl, rfl, ks, hk, by omega⟩
        · rintro v rest r s2 ⟨e1, rfl, js, e2, e3⟩
          cases e2 with
          | @cons j _ js _ a1 a2 =>
            simp only [NestedKey.depthAll] at e3
            refine wpAny_bind (hbys_key (j :: js) (v :: rest) n s2 (.cons a1 a2) (by simp only [NestedKey.depthAll]; omega) v (List.mem_cons_self) A E _ fun b => ?_)
            cases b
            · rw [if_pos (show (!false) = true by decide)]
              exact wpAny_pure (wpAny_pure (q _))
            · rw [if_neg (show ¬ ((!true) = true) by decide)]
              exact wpAny_pure ⟨rfl, rfl, js, a2, by omega⟩
        · rintro ⟨r1, r2⟩ s2 ⟨e1, rfl, _⟩
          obtain rfl : r1 = none := e1
          exact wpAny_pure (q _)
theorem hbys_key : ∀ (ks : List NestedKey) (vs : List Value) (n : Nat) (s : Shared), NestedAll s.heap ks vs → NestedKey.depthAll ks ≤ n → ∀ v ∈ vs, ∀ (A : Around) (E : Value → Shared → Prop) (Q : Bool → Shared → Prop), (∀ b, Q b s) → wpAny (model P w) A (hashByValue n v) Q E s
  | [], _, n, s, x, _, v, hv, A, E, Q, q => by cases x; cases hv
  | k :: ks, _, n, s, x, hn, v, hv, A, E, Q, q => by
    cases x with
    | cons a1 a2 =>
      simp only [NestedKey.depthAll] at hn
      rcases List.mem_cons.mp hv with e | hv
      · rw [e]; exact hby_key k _ n s A E Q a1 (by omega) q
      · exact hbys_key ks _ n s a2 (by omega) v hv A E Q q
end
/-- no search among keys is seen -/
theorem seen_key {k : NestedKey} {b : Addr} {s : Shared} {A : Around} {E : Value → Shared → Prop} {Q : Bool → Shared → Prop} (hk : KIs s.heap k b) {ys : List Value} (hy : ∀ y ∈ ys, ∃ j c, y = Value.ref c ∧ KIs s.heap j c) (q : Q false s) :
    wpAny (model P w) A (searchCouldBeSeen (.ref b) ys) Q E s := by
  unfold searchCouldBeSeen
  refine wpAny_bind (wpAny_forIn_list _ (fun rest r s2 => r.1 = none ∧ s2 = s ∧ ∀ y ∈ rest, ∃ j c, y = Value.ref c ∧ KIs s.heap j c) _ ?_ ?_ _ _ ⟨rfl, rfl, hy⟩)
  · rintro v rest r s2 ⟨e1, rfl, all⟩
    obtain ⟨j, c, rfl, hc⟩ := all v (by simp)
    have all2 : ∀ y ∈ rest, ∃ j c, y = Value.ref c ∧ KIs s2.heap j c := fun y h => all y (by simp [h])
    dsimp only
    by_cases hv : (b == c || (carriedByValue (.ref b) && carriedByValue (.ref c))) = true
    · exact wp_if_pos hv (wpAny_pure ⟨rfl, rfl, all2⟩)
    · refine wp_if_neg hv (wpAny_bind (quiet_key k _ 8 s2 hk.1 hk.2 A E _ ?_))
      simp only [Bool.not_true, Bool.false_eq_true, if_false]
      refine wpAny_bind (quiet_key j _ 8 s2 hc.1 hc.2 A E _ ?_)
      simp only [Bool.not_true, Bool.false_eq_true, if_false]
      refine wpAny_bind (cls_key k _ 8 s2 A E _ hk.1 hk.2 ?_)
      simp only [Bool.false_eq_true, if_false]
      refine wpAny_bind (cls_key j _ 8 s2 A E _ hc.1 hc.2 ?_)
      simp only [Bool.false_eq_true, if_false]
      exact wpAny_pure ⟨rfl, rfl, all2⟩
  · rintro ⟨r1, r2⟩ s2 ⟨e1, rfl, _⟩
    obtain rfl : r1 = none := e1
    exact wpAny_pure q
end
/-- what is stored for the members L -/
def rowsK (w : World) (L : List (Addr × NestedKey)) : List (Int × Value) := L.map fun p => (p.2.hash w, Value.ref p.1)
/-- the set at a without its members' tuples -/
structure KSet0 (w : World) (h : Heap) (a : Addr) (L : List (Addr × NestedKey)) (es : Array (Int × Value)) (ep : Nat) (t : SetTable) : Prop where
  ob : ∃ o, h.get? a = some o ∧ o.ExactSet ∧ o.data = .set es ep t
  rows : es.toList = rowsK w L
  tab : TabOk t (L.map fun p => p.2.hash w)
  nd : (L.map (·.2)).Nodup
  led : w.params.followText "set-order" = true ∨ t.led = true
  room : L.length * 5 < t.mask * 3
  few : L.length < 64
def KeysAt (h : Heap) (L : List (Addr × NestedKey)) : Prop := ∀ p ∈ L, KIs h p.2 p.1
section
variable {P : Program} {w : World} {h : Heap} {a : Addr} {L : List (Addr × NestedKey)} {es : Array (Int × Value)} {ep : Nat} {t : SetTable}
theorem rowsK_len {es : Array (Int × Value)} {L : List (Addr × NestedKey)} (e : es.toList = rowsK w L) : es.size = L.length := by
  rw [← Array.length_toList, e, rowsK, List.length_map]
theorem rowsK_at {es : Array (Int × Value)} {L : List (Addr × NestedKey)} (e : es.toList = rowsK w L) {i : Nat} {p : Addr × NestedKey} (hp : L[i]? = some p) : es[i]? = some (p.2.hash w, Value.ref p.1) := by
  rw [← Array.getElem?_toList, e, rowsK, List.getElem?_map, hp]; rfl
theorem KSet0.size (R : KSet0 w h a L es ep t) : es.size = L.length := rowsK_len R.rows
theorem KSet0.place (R : KSet0 w h a L es ep t) : t.place.size = L.length := by rw [R.tab.sz, List.length_map]
theorem KSet0.fits (R : KSet0 w h a L es ep t) : t.fits es.size = true := by
  have h1 := R.place; have h2 := R.size; have h3 := R.room
  simp only [SetTable.fits, SetTable.fill, R.tab.dm, Bool.and_eq_true, beq_iff_eq, decide_eq_true_eq]
  refine ⟨by omega, ?_⟩
  show t.place.size + 0 ≤ t.mask
  omega
theorem KSet0.stands (R : KSet0 w h a L es ep t) : ¬ t.gaveWay = true := by
  simp only [SetTable.gaveWay, mask_odd R.tab.mok]; decide
/-- the steps of a hash's way -/
abbrev stp (t : SetTable) (x : Int) (n : Nat) : SetTable.Probe := nth t.mask (runAt t.mask (SetTable.bits x % (t.mask + 1)) (SetTable.bits x)) n
theorem stp_add (t : SetTable) (x : Int) (c q : Nat) : nth t.mask (stp t x c) q = stp t x (c + q) := (nth_add t.mask c _ q).symm
theorem stp_j (t : SetTable) (x : Int) (c q : Nat) : (nth t.mask (stp t x c) q).j = way t.mask x (c + q) := congrArg SetTable.Probe.j (stp_add t x c q)
theorem stp_dummy (t : SetTable) (x : Int) (n : Nat) : (stp t x n).dummy = none := by
  have all : ∀ (n : Nat) (p : SetTable.Probe), p.dummy = none → (nth t.mask p n).dummy = none := by
    intro n
    induction n with
    | zero => exact fun p e => e
    | succ n ih => exact fun p e => ih _ (by unfold adv; split <;> exact e)
  exact all n _ rfl
/-- the answer of a search that hits -/
def hitOf (adding : Bool) (i : Nat) : SetFound := .there (if adding then none else some i)
/-- searching from the c-th step on -/
theorem find_from {s : Shared} {A : Around} {E : Value → Shared → Prop} {Q : SetFound → Shared → Prop} (adding : Bool) (R : KSet0 w s.heap a L es ep t) (hL : KeysAt s.heap L) {x : Addr} {k : NestedKey} (hx : KIs s.heap k x) (hu : A.units + 8 < cLine) {n : Nat} (hn : n < 10 * SetTable.turns t.mask)
    (free : way t.mask (k.hash w) n ∉ t.place.toList) (full : ∀ c, c < n → way t.mask (k.hash w) c ∈ t.place.toList) (yes : k ∈ L.map (·.2) → ∀ i, Q (hitOf adding i) s) (no : k ∉ L.map (·.2) → Q (.free (way t.mask (k.hash w) n) false) s) :
    ∀ (f c : Nat) (from' : Option SetTable.Probe), from'.getD (t.probeStart (k.hash w)) = stp t (k.hash w) c → c ≤ n → n - c < f →
      (∀ (i : Nat) p, L[i]? = some p → p.2 = k → ∃ d, c ≤ d ∧ d < n ∧ t.place.toList[i]? = some (way t.mask (k.hash w) d)) →
      wpAny (model P w) A (setSearchFrom a (.ref x) (k.hash w) adding f from') Q E s
  | 0, _, _, _, _, z, _ => absurd z (Nat.not_lt_zero _)
  | f + 1, c, from', hst, hc, hf, hre => by
    obtain ⟨o, ho, hex, hd⟩ := R.ob
    have hat : ∀ (i : Nat) p, L[i]? = some p → (es[i]?.map (·.1)).getD 0 = p.2.hash w := fun i p e => by rw [rowsK_at R.rows e]; rfl
    have G := go_spec t R.tab.ris R.tab.dm (fun i => (es[i]?.map (·.1)).getD 0) (k.hash w) (10 * SetTable.turns t.mask) (n - c) (stp t (k.hash w) c) (stp_dummy t _ c) (by omega)
      (fun q hq => by rw [stp_j]; exact full _ (by omega)) (by rw [stp_j, Nat.add_sub_cancel' hc]; exact free)
    rw [setSearchFrom_succ]
    refine wpAny_bind (wpAny_setState_of ho hd R.fits ?_)
    dsimp only
    refine wp_if_neg R.stands ?_
    try refine wpAny_bind (wpAny_pure ?_)
    rcases G with ⟨q, i, hq, hi, hh, miss, found⟩ | ⟨miss, found⟩
    · rw [stp_j] at hi
      have hil : i < L.length := by
        have := (List.getElem?_eq_some_iff.mp hi).1
        rw [Array.length_toList, R.place] at this
        exact this
      obtain ⟨p, hp⟩ : ∃ p, L[i]? = some p := ⟨_, List.getElem?_eq_getElem hil⟩
      have hm : p ∈ L := List.mem_of_getElem? hp
      have got : t.probe (fun i => (es[i]?.map (·.1)).getD 0) (k.hash w) (from'.getD (t.probeStart (k.hash w))) = some (.candidate (way t.mask (k.hash w) (c + q)) i (stp t (k.hash w) (c + (q + 1)))) := by
        rw [hst, ← stp_j, ← stp_add]; exact found
      rw [got]
      dsimp only
      have sl : t.slot (way t.mask (k.hash w) (c + q)) = .live i := slot_live R.tab.ris hi
      have rest : wpAny (model P w) A (searchRest a (.ref x) (k.hash w) adding f es t (way t.mask (k.hash w) (c + q)) i (stp t (k.hash w) (c + (q + 1)))) Q E s := by
        unfold searchRest
        rw [rowsK_at R.rows hp]
        dsimp only
        refine wpAny_bind (wpAny_holding ((nestedKind P w).eqBool (by exact hu) (hL p hm) hx ?_))
        refine wpAny_bind (wpAny_setState_of ho hd R.fits ?_)
        dsimp only
        by_cases e : p.2 = k
        · have hk : k ∈ L.map (·.2) := List.mem_map.mpr ⟨p, hm, e⟩
          cases adding with
          | true => exact wp_if_pos (by simp [e]) (wpAny_pure (yes hk 0))
          | false =>
            refine wp_if_neg (by simp) ?_
            try refine wpAny_bind (wpAny_pure ?_)
            rw [sameMem]
            dsimp only
            simp only [if_true, sl, rowsK_at R.rows hp]
            refine wpAny_bind (wpAny_isSame_ref_self (wpAny_bind (wpAny_pure ?_)))
            simp only [if_true]
            exact wp_if_pos (by simp [e]) (wpAny_pure (yes hk i))
        · refine wp_if_neg (by simp [e]) ?_
          try refine wpAny_bind (wpAny_pure ?_)
          rw [sameMem]
          dsimp only
          simp only [if_true, sl, rowsK_at R.rows hp]
          refine wpAny_bind (wpAny_isSame_ref_self (wpAny_bind (wpAny_pure ?_)))
          simp only [if_true]
          refine wp_if_neg (by simp [e]) (find_from adding R hL hx hu hn free full yes no f (c + (q + 1)) _ rfl (by omega) (by omega) fun i0 p0 h0 e0 => ?_)
          obtain ⟨d, d1, d2, d3⟩ := hre i0 p0 h0 e0
          refine ⟨d, ?_, d2, d3⟩
          by_cases lt : d < c + q
          · exact absurd ((hat i0 p0 h0).trans (congrArg (NestedKey.hash w) e0)) (miss (d - c) i0 (by omega) (by rw [stp_j, Nat.add_sub_cancel' d1]; exact d3))
          · by_cases eq : d = c + q
            · exfalso
              rw [eq] at d3
              have s0 := slot_live R.tab.ris d3
              rw [sl] at s0
              injection s0 with s0
              rw [← s0, hp] at h0
              exact e (by rw [Option.some.inj h0]; exact e0)
            · omega
      by_cases hl : t.led = true
      · refine wp_if_neg (by simp [hl]) ?_
        try refine wpAny_bind (wpAny_pure ?_)
        exact rest
      · refine wp_if_pos (by simp [hl]) (wpAny_bind (seen_key hx (fun y hy => ?_) ?_))
        · obtain ⟨e, he, ee⟩ := List.mem_map.mp hy
          have he2 : e ∈ es.toList := by
            have := (by simpa using he : e ∈ es ∧ e.1 = k.hash w).1
            simpa using this
          rw [R.rows] at he2
          obtain ⟨p2, hp2, e2⟩ := List.mem_map.mp he2
          exact ⟨p2.2, p2.1, by rw [← ee, ← e2], hL p2 hp2⟩
        · refine wp_if_neg (by decide) ?_
          try refine wpAny_bind (wpAny_pure ?_)
          exact rest
    · have got : t.probe (fun i => (es[i]?.map (·.1)).getD 0) (k.hash w) (from'.getD (t.probeStart (k.hash w))) = some (.empty (way t.mask (k.hash w) n) none) := by
        have e2 : way t.mask (k.hash w) n = (nth t.mask (stp t (k.hash w) c) (n - c)).j := by rw [stp_j, Nat.add_sub_cancel' hc]
        rw [hst, e2]; exact found
      rw [got]
      dsimp only
      refine wpAny_pure (no fun hm => ?_)
      obtain ⟨p0, h0, e0⟩ := List.mem_map.mp hm
      obtain ⟨i0, h00⟩ := List.mem_iff_getElem?.mp h0
      obtain ⟨d, d1, d2, d3⟩ := hre i0 p0 h00 e0
      exact miss (d - c) i0 (by omega) (by rw [stp_j, Nat.add_sub_cancel' d1]; exact d3) ((hat i0 p0 h00).trans (congrArg (NestedKey.hash w) e0))
theorem find_at {s : Shared} {A : Around} {E : Value → Shared → Prop} {Q : SetFound → Shared → Prop} (adding : Bool) (R : KSet0 w s.heap a L es ep t) (hL : KeysAt s.heap L) {x : Addr} {k : NestedKey} (hx : KIs s.heap k x) (hu : A.units + 8 < cLine)
    (yes : k ∈ L.map (·.2) → ∀ i, Q (hitOf adding i) s) (no : k ∉ L.map (·.2) → ∀ n, way t.mask (k.hash w) n ∉ t.place.toList → (∀ c, c < n → way t.mask (k.hash w) c ∈ t.place.toList) → Q (.free (way t.mask (k.hash w) n) false) s) :
    wpAny (model P w) A (setSearch a (.ref x) (k.hash w) adding) Q E s := by
  obtain ⟨n, hn, free, full⟩ := R.tab.first (by have := R.room; rw [List.length_map]; omega) (k.hash w)
  have small : 10 * SetTable.turns t.mask ≤ 1420 := by
    simp only [SetTable.turns]
    rcases R.tab.mok with e | e | e <;> rw [e] <;> decide
  unfold setSearch
  refine find_from adding R hL hx hu hn free full yes (fun z => no z n free full) 100000 0 none rfl (Nat.zero_le _) (by omega) fun i p hp e => ?_
  have hi : (L.map fun p => p.2.hash w)[i]? = some (k.hash w) := by rw [List.getElem?_map, hp, ← e]; rfl
  have hil : i < t.place.toList.length := by
    rw [Array.length_toList, R.place]; exact (List.getElem?_eq_some_iff.mp hp).1
  obtain ⟨d, hd, ed⟩ := R.tab.before free hi (List.getElem?_eq_getElem hil)
  exact ⟨d, Nat.zero_le _, hd, by rw [List.getElem?_eq_getElem hil, ed]⟩
/-! a table laid anew; adding -/
theorem KeysAt.but {h h' : Heap} {o : Obj} (x : KeysAt h L) (ho : h.get? a = some o) (hd : o.data = .set es ep t) (sb : Heap.SameBut a h h') : KeysAt h' L := fun p hp => (x p hp).but ho hd sb
/-- the rows in another order -/
theorem rows_order (w : World) {L : List (Addr × NestedKey)} {es : Array (Int × Value)} (e : es.toList = rowsK w L) (order : Array Nat) (hp : order.toList.Perm (List.range L.length)) :
    ∃ M, M.Perm L ∧ (order.filterMap (es[·]?)).toList = rowsK w M ∧ (M.map fun p => p.2.hash w) = order.toList.map fun i => (es.map (·.1)).getD i 0 := by
  have go : ∀ l : List Nat, (∀ i ∈ l, i < L.length) → l.filterMap (fun i => es[i]?) = rowsK w (l.filterMap fun i => L[i]?) ∧ ((l.filterMap fun i => L[i]?).map fun p => p.2.hash w) = l.map fun i => (es.map (·.1)).getD i 0 := by
    intro l
    induction l with
    | nil => exact fun _ => ⟨rfl, rfl⟩
    | cons i l ih =>
      intro hl
      have hi := List.getElem?_eq_getElem (hl i (by simp))
      obtain ⟨e1, e2⟩ := ih fun j hj => hl j (by simp [hj])
      have hr := rowsK_at e hi
      have hg : (es.map (·.1)).getD i 0 = (L[i]'(hl i (by simp))).2.hash w := by
        have : (es.map (·.1))[i]? = some ((L[i]'(hl i (by simp))).2.hash w) := by rw [Array.getElem?_map, hr]; rfl
        simp only [Array.getD_eq_getD_getElem?, this, Option.getD_some]
      rw [List.filterMap_cons_some hi, List.filterMap_cons_some hr, e1]
      exact ⟨rfl, by simp only [List.map_cons, e2, hg]⟩
  obtain ⟨e1, e2⟩ := go order.toList fun i hi => List.mem_range.mp (hp.mem_iff.mp hi)
  refine ⟨_, ?_, by rw [Array.toList_filterMap]; exact e1, e2⟩
  refine (hp.filterMap fun i => L[i]?).trans ?_
  have all : ∀ n, n ≤ L.length → (List.range n).filterMap (fun i => L[i]?) = L.take n := by
    intro n
    induction n with
    | zero => exact fun _ => rfl
    | succ n ih => exact fun hn => by rw [List.range_succ, List.filterMap_append, ih (by omega), take_next (List.getElem?_eq_getElem hn), List.filterMap_cons_some (List.getElem?_eq_getElem hn)]; rfl
  rw [all _ (Nat.le_refl _), List.take_length]
theorem relay_key {s : Shared} {A : Around} {E : Value → Shared → Prop} {Q : Unit → Shared → Prop} {o : Obj} (ho : s.heap.get? a = some o) (hex : o.ExactSet) (hd : o.data = .set es ep t) (e : es.toList = rowsK w L) (hsz : t.place.size = es.size) (hdm : t.dummies = #[]) (hfl : es.size ≤ t.mask)
    (nd : (L.map (·.2)).Nodup) (ld : w.params.followText "set-order" = true ∨ t.led = true) (few : L.length < 64) {wanted m : Nat} (hw : SetTable.sizeAbove wanted = m + 1) (hm : MaskOk m) (hn : L.length * 5 < m * 3)
    (q : ∀ h' M es' ep' t', Heap.SameBut a s.heap h' → KSet0 w h' a M es' ep' t' → M.Perm L → Q () { s with heap := h' }) : wpAny (model P w) A (setRelay a wanted) Q E s := by
  have hz := rowsK_len e
  have m127 : m ≤ 127 := by rcases hm with e | e | e <;> omega
  have fits : t.fits es.size = true := by
    simp only [SetTable.fits, SetTable.fill, hdm, Bool.and_eq_true, beq_iff_eq, decide_eq_true_eq]
    refine ⟨hsz, ?_⟩
    show t.place.size + 0 ≤ t.mask
    omega
  obtain ⟨t', order, e1, hp, T, em, el, ep', ed⟩ := relaid_ok t (hs := es.map (·.1)) (wanted := wanted) (M := m) (by omega) hm (by rw [Array.size_map]; omega)
  rw [Array.size_map, hz] at hp
  obtain ⟨M, pm, r1, r2⟩ := rows_order w e order hp
  rw [← r2] at T
  have hz2 : (order.filterMap (es[·]?)).size = es.size := by rw [rowsK_len r1, pm.length_eq, hz]
  rw [setRelay_eq]
  refine wpAny_bind (wpAny_setState_of ho hd fits ?_)
  dsimp only
  refine wp_if_neg (by rw [sizeLine_eq, hw]; omega) ?_
  try refine wpAny_bind (wpAny_pure ?_)
  rw [e1]
  dsimp only
  refine wpAny_bind (wp_if_neg (by simp [hz2]) ?_)
  try refine wpAny_bind (wpAny_pure ?_)
  refine wpAny_pure ?_
  dsimp only
  refine wpAny_storeSet_of ho hd ?_ (by rw [sizeLine_eq, hz2]; omega)
  refine q _ M _ (ep + 1) t' (Heap.SameBut.update ..) ⟨⟨_, store_at ho hd, ⟨hex.1, hex.2.1, hex.2.2⟩, rfl⟩, r1, T, (pm.map (·.2)).nodup_iff.mpr nd, by rw [el]; exact ld, by rw [pm.length_eq, em]; exact hn, by rw [pm.length_eq]; exact few⟩ pm
theorem add_key {s : Shared} {A : Around} {E : Value → Shared → Prop} {Q : Bool → Shared → Prop} (R : KSet0 w s.heap a L es ep t) (hL : KeysAt s.heap L) {x : Addr} {k : NestedKey} (hx : KIs s.heap k x) (hu : A.units + 8 < cLine) (few : L.length + 1 < 64)
    (q : ∀ b h' M es' ep' t', Heap.SameBut a s.heap h' → KSet0 w h' a M es' ep' t' → (k ∈ L.map (·.2) → M = L) → (k ∉ L.map (·.2) → M.Perm ((x, k) :: L)) → Q b { s with heap := h' }) :
    wpAny (model P w) A (setAddHashed a (.ref x) (k.hash w)) Q E s := by
  obtain ⟨o, ho, hex, hd⟩ := R.ob
  have hz := R.size
  have room := R.room
  unfold setAddHashed
  refine wpAny_holding ?_
  rw [show (100000 : Nat) = 99999 + 1 from rfl, setAddHashedIn_succ]
  refine wpAny_bind (wpAny_setState_of ho hd R.fits ?_)
  dsimp only
  refine wp_if_neg (by simp [byScan, Value.scannable]) ?_
  try refine wpAny_bind (wpAny_pure ?_)
  refine wpAny_bind (find_at true R hL hx hu (fun hm _ => ?_) fun hm n free full => ?_)
  · exact wpAny_pure (q false s.heap L es ep t (Heap.SameBut.refl a s.heap) R (fun _ => rfl) fun z => absurd hm z)
  · dsimp only
    refine wpAny_bind (wpAny_setState_of ho hd R.fits ?_)
    dsimp only
    obtain ⟨q1, q2, q3, q4, q5, q6, q7, q8, q9⟩ := R.tab.put free full
    generalize t.put (way t.mask (k.hash w) n) = pt at q1 q3 q4 q5 q6 q7 q8 q9 ⊢
    obtain ⟨t1, p⟩ := pt
    dsimp only at q1 q3 q4 q5 q6 q7 q8 q9 ⊢
    subst q1
    generalize SetTable.below t.place (way t.mask (k.hash w) n) = p at q2 q3 ⊢
    have hin : (SetTable.insertAt es p (k.hash w, Value.ref x)).toList = rowsK w (L.take p ++ (x, k) :: L.drop p) := by
      rw [SetTable.toList_insertAt, R.rows]; simp only [rowsK, List.map_append, List.map_cons, List.map_take, List.map_drop]
    have hhs : (L.take p ++ (x, k) :: L.drop p).map (fun p => p.2.hash w) = (L.map fun p => p.2.hash w).take p ++ k.hash w :: (L.map fun p => p.2.hash w).drop p := by simp only [List.map_append, List.map_cons, List.map_take, List.map_drop]
    rw [← hhs] at q3
    have pm := put_perm L p (x, k)
    generalize L.take p ++ (x, k) :: L.drop p = M at hin q3 pm
    have hlen : M.length = L.length + 1 := pm.length_eq
    have nd : (M.map (·.2)).Nodup := (pm.map (·.2)).nodup_iff.mpr (List.nodup_cons.mpr ⟨hm, R.nd⟩)
    -- what comes behind the marks
    have go : ∀ t2 : SetTable, t2 = t1 ∨ t2 = { t1 with plain := false } → wpAny (model P w) A (do
        storeSet a (SetTable.insertAt es p (k.hash w, Value.ref x)) t2
        if !false && t2.tooFull then setRelay a (SetTable.grown (es.size + 1))
        return true) Q E s := by
      intro t2 ht2
      have T2 : TabOk t2 (M.map fun p => p.2.hash w) := by rcases ht2 with rfl | rfl; exact q3; exact ⟨q3.ris, q3.dm, q3.sz, q3.mok, q3.bd, q3.reach⟩
      have m2 : t2.mask = t.mask := by rcases ht2 with rfl | rfl <;> exact q4
      have l2 : t2.led = t.led := by rcases ht2 with rfl | rfl <;> exact q5
      have f2 : t2.tooFull = decide ((L.length + 1) * 5 ≥ t.mask * 3) := by
        have : t1.tooFull = decide ((L.length + 1) * 5 ≥ t.mask * 3) := by
          unfold SetTable.tooFull; rw [q9, q4, List.length_map]
        rcases ht2 with rfl | rfl <;> exact this
      clear ht2 q3 q4 q5 q6 q7 q8 q9
      generalize SetTable.insertAt es p (k.hash w, Value.ref x) = es1 at hin ⊢
      have hz1 : es1.size = L.length + 1 := by rw [rowsK_len hin, hlen]
      refine wpAny_bind (wpAny_storeSet_of ho hd ?_ (by rw [hz1, sizeLine_eq]; omega))
      have sb : Heap.SameBut a s.heap (s.heap.update a (Obj.putSet es1 t2)) := Heap.SameBut.update ..
      have ho1 := store_at (es' := es1) (t' := t2) ho hd
      generalize s.heap.update a (Obj.putSet es1 t2) = h1 at sb ho1 ⊢
      by_cases hf : (L.length + 1) * 5 ≥ t.mask * 3
      · have big : (t.mask = 7 ∧ L.length = 4) ∨ (t.mask = 31 ∧ L.length = 18) := by
          rcases R.tab.mok with e | e | e <;> rw [e] at hf room
          · exact .inl ⟨e, by omega⟩
          · exact .inr ⟨e, by omega⟩
          · omega
        have lay : ∀ m, SetTable.sizeAbove (SetTable.grown (L.length + 1)) = m + 1 → MaskOk m → (L.length + 1) * 5 < m * 3 →
            wpAny (model P w) A (setRelay a (SetTable.grown (L.length + 1))) (fun _ s' => wpAny (model P w) A (pure true) Q E s') E { s with heap := h1 } := fun m b1 b2 b3 => by
          refine relay_key (s := { s with heap := h1 }) ho1 ⟨hex.1, hex.2.1, hex.2.2⟩ rfl hin (by rw [T2.sz, List.length_map, hlen, hz1]) T2.dm (by rw [hz1, m2]; rcases big with ⟨e, e2⟩ | ⟨e, e2⟩ <;> omega) nd (by rw [l2]; exact R.led) (by omega) b1 b2 (by rw [hlen]; exact b3) ?_
          intro h2 M2 es2 ep2 t3 sb2 R2 pm2
          exact wpAny_pure (q true h2 M2 es2 ep2 t3 (sb.trans sb2) R2 (fun z => absurd z hm) fun _ => pm2.trans pm)
        rw [hz]
        have go2 : wpAny (model P w) A (setRelay a (SetTable.grown (L.length + 1))) (fun _ s' => wpAny (model P w) A (pure true) Q E s') E { s with heap := h1 } := by
          rcases big with ⟨_, e2⟩ | ⟨_, e2⟩
          · exact lay 31 (by rw [e2]; exact size_20) (.inr (.inl rfl)) (by omega)
          · exact lay 127 (by rw [e2]; exact size_76) (.inr (.inr rfl)) (by omega)
        first
          | exact wp_if_pos (by rw [f2, decide_eq_true hf]; rfl) (wpAny_bind go2)
          | exact wpAny_bind (wp_if_pos (by rw [f2, decide_eq_true hf]; rfl) go2)
      · have last : wpAny (model P w) A (pure true) Q E { s with heap := h1 } :=
          wpAny_pure (q true h1 M es1 (ep + 1) t2 sb ⟨⟨_, ho1, ⟨hex.1, hex.2.1, hex.2.2⟩, rfl⟩, hin, T2, nd, by rw [l2]; exact R.led, by rw [hlen, m2]; omega, by omega⟩ (fun z => absurd z hm) fun _ => pm)
        first
          | exact wp_if_neg (by rw [f2, decide_eq_false hf]; decide) last
          | exact wpAny_bind (wp_if_neg (by rw [f2, decide_eq_false hf]; decide) (wpAny_pure last))
    have both : ∀ b : Bool, wpAny (model P w) A (do
        storeSet a (SetTable.insertAt es p (k.hash w, Value.ref x)) (if b = true then t1 else { t1 with plain := false })
        if !false && (if b = true then t1 else { t1 with plain := false }).tooFull then setRelay a (SetTable.grown (es.size + 1))
        return true) Q E s := fun b => by cases b; exact go _ (.inr rfl); exact go _ (.inl rfl)
    by_cases pl : t1.plain = true
    · first
        | exact wp_if_pos pl (wpAny_bind (hby_key k _ 8 s A E _ hx.1 hx.2 both))
        | exact wpAny_bind (wp_if_pos pl (hby_key k _ 8 s A E _ hx.1 hx.2 both))
    · first
        | exact wp_if_neg pl (wpAny_bind (wpAny_pure (both true)))
        | exact wpAny_bind (wp_if_neg pl (wpAny_pure (both true)))
/-! x in a set -/
theorem has_key {s : Shared} {A : Around} {E : Value → Shared → Prop} {Q : Bool → Shared → Prop} (R : KSet0 w s.heap a L es ep t) (hL : KeysAt s.heap L) {x : Addr} {k : NestedKey} (hx : KIs s.heap k x) (hu : A.units + 8 < cLine)
    (q : Q (decide (k ∈ L.map (·.2))) { s with toks := s.toks + k.draws }) : wpAny (model P w) A (setContains a (.ref x)) Q E s := by
  obtain ⟨o, ho, hex, hd⟩ := R.ob
  unfold setContains
  refine wpAny_holding (wpAny_bind ((nestedKind P w).pyHash (by exact hu) hx ?_))
  refine wpAny_bind ?_
  show wpAny (model P w) A (setFindIn a (.ref x) (k.hash w) 100000) _ E _
  rw [show (100000 : Nat) = 99999 + 1 from rfl]
  unfold setFindIn
  refine wpAny_bind (wpAny_setState_of (s := { s with toks := s.toks + k.draws }) ho hd R.fits ?_)
  dsimp only
  refine wp_if_neg (by simp [byScan, Value.scannable]) ?_
  try refine wpAny_bind (wpAny_pure ?_)
  refine wpAny_bind (find_at (s := { s with toks := s.toks + k.draws }) false R hL hx hu (fun hm i => ?_) fun hm n _ _ => ?_)
  · rw [decide_eq_true hm] at q
    exact wpAny_pure (wpAny_pure q)
  · rw [decide_eq_false hm] at q
    exact wpAny_pure (wpAny_pure q)
theorem KSet0.ty {s : Shared} (R : KSet0 w s.heap a L es ep t) : s.TypeIs (.ref a) "set" := by
  obtain ⟨o, ho, hex, hd⟩ := R.ob
  exact ⟨o, ho, hex.1⟩
theorem holds_key {s : Shared} {A : Around} {E : Value → Shared → Prop} {Q : Bool → Shared → Prop} (R : KSet0 w s.heap a L es ep t) (hL : KeysAt s.heap L) {x : Addr} {k : NestedKey} (hx : KIs s.heap k x) (hu : A.units + 16 < cLine)
    (q : Q (decide (k ∈ L.map (·.2))) { s with toks := s.toks + k.draws }) : wpAny (model P w) A (contains (.ref a) (.ref x)) Q E s := by
  unfold contains
  try with_reducible refine wpAny_holding ?_
  refine wpAny_bind (wpAny_specialOf R.ty F.slot_set_contains.lookup ?_)
  dsimp only
  refine wp_if_neg (by rw [beq_builtin_none]; decide) ?_
  refine wpAny_bind (wpAny_callSpecialUnlessNone?_slot (name := Str.ofString "__contains__") R.ty F.slot_set_contains
    (wpAny_call_entry F.slot_set_contains R.ty entry_set_contains ?_ (F.args_set_contains_2 _ _)))
  unfold Builtin.«frozenset.__contains__» Builtin.Frozenset.oneOther
  simp only [List.isEmpty_nil, bind_assoc]
  unfold Builtin.Frozenset.addrOf Builtin.Frozenset.withSetAsKey
  refine wpAny_bind (wpAny_pure ?_)
  try dsimp only
  refine wpAny_bind (wpAny_pure ?_)
  try dsimp only
  refine wpAny_bind (wpAny_tryCatch (has_key R hL hx (by simp only [Around.in1_units]; omega) ?_))
  show wpAny _ _ (ret (Value.bool _)) _ _ _
  exact wpAny_pure ⟨_, rfl, wpAny_truthy_bool q⟩
/-! set(x) -/
structure Got2 (ks : List (Addr × NestedKey)) (i : Nat) (L : List (Addr × NestedKey)) : Prop where
  sub : ∀ p ∈ L, p ∈ ks.take i
  all : ∀ p ∈ ks.take i, p.2 ∈ L.map (·.2)
  len : L.length ≤ i
theorem Got2.next {ks L M : List (Addr × NestedKey)} {i : Nat} {x : Addr × NestedKey} (g : Got2 ks i L) (e : ks[i]? = some x) (c1 : x.2 ∈ L.map (·.2) → M = L) (c2 : x.2 ∉ L.map (·.2) → M.Perm (x :: L)) : Got2 ks (i + 1) M := by
  have tk := take_next e
  rcases Classical.em (x.2 ∈ L.map (·.2)) with c | c
  · rw [c1 c]
    refine ⟨fun p hp => by rw [tk]; exact List.mem_append_left _ (g.sub p hp), fun p hp => ?_, Nat.le_succ_of_le g.len⟩
    rw [tk] at hp
    rcases List.mem_append.mp hp with z | z
    · exact g.all p z
    · rw [List.mem_singleton.mp z]; exact c
  · have pm := c2 c
    refine ⟨fun p hp => ?_, fun p hp => ?_, by rw [pm.length_eq, List.length_cons]; exact Nat.succ_le_succ g.len⟩
    · rw [tk]
      rcases List.mem_cons.mp (pm.mem_iff.mp hp) with rfl | z
      · exact List.mem_append_right _ (by simp)
      · exact List.mem_append_left _ (g.sub p z)
    · rw [(pm.map (·.2)).mem_iff, List.map_cons]
      rw [tk] at hp
      rcases List.mem_append.mp hp with z | z
      · exact List.mem_cons_of_mem _ (g.all p z)
      · rw [List.mem_singleton.mp z]; exact List.mem_cons_self
theorem KSet0.moved {h' : Heap} (R : KSet0 w h a L es ep t) (e : ∀ o, h.get? a = some o → h'.get? a = some o) : KSet0 w h' a L es ep t := by
  obtain ⟨o, ho, r⟩ := R.ob
  exact ⟨⟨o, e o ho, r⟩, R.rows, R.tab, R.nd, R.led, R.room, R.few⟩
/-- the set object that is new -/
abbrev newSetObj (w : World) : Obj := { cls := .type "set", dict := none, data := .set #[] 0 (.fresh 0 0 (!w.params.followText "set-order")) }
theorem kset_new {h : Heap} {a : Addr} (ho : h.get? a = some (newSetObj w)) : KSet0 w h a [] #[] 0 (.fresh 0 0 (!w.params.followText "set-order")) where
  ob := ⟨_, ho, ⟨rfl, rfl, rfl⟩, rfl⟩
  rows := rfl
  tab := ⟨.nil, rfl, rfl, .inl rfl, fun x hx => (by cases hx), fun i h j hi => (by simp at hi)⟩
  nd := .nil
  led := by
    show _ ∨ (!w.params.followText "set-order") = true
    cases w.params.followText "set-order" <;> simp
  room := by show 0 * 5 < 7 * 3; decide
  few := by show 0 < 64; decide
/-- the loop that fills a set -/
theorem fill_keys {A : Around} {I : Addr} {fp wr : List Addr} {G : Array GenState → Array GenState → Prop} {n : Nat} {Pv : Nat → Value → Prop} {St : Nat → Shared → Prop} {R : Result → Shared → Prop}
    (W : WalksS P w A.in1 I fp wr G n Pv St) (S : Addr) (hSf : S ∉ fp) (ks : List (Addr × NestedKey)) (hn : n = ks.length) (hfew : ks.length < 64) (hval : ∀ i v, Pv i v → ∃ p, ks[i]? = some p ∧ v = .ref p.1)
    (h0 : Heap) (hk : KeysAt h0 ks) (hS0 : h0.get? S = none) (hw0 : ∀ b ∈ wr, h0.get? b = none) (hu : A.in1.units + 8 < cLine) :
    ∀ (k i : Nat) (s : Shared), n - i = k → i ≤ n → St i s → (∀ b o, h0.get? b = some o → s.heap.get? b = some o) → (∃ L es ep t, KSet0 w s.heap S L es ep t ∧ Got2 ks i L) →
      (∀ s' L es ep t, Moved (S :: wr) G s s' → KSet0 w s'.heap S L es ep t → Got2 ks n L → (∀ b o, h0.get? b = some o → s'.heap.get? b = some o) → R (.ok (.ret .none)) s') →
      codeAny (model P w) A (.builtin "set.update.loop" ⟨[.ref S, .ref I], []⟩) R s := by
  have hSw : S ∉ wr := fun z => hSf (W.sub _ z)
  have wider : ∀ b ∈ wr, b ∈ S :: wr := fun b hb => List.mem_cons_of_mem _ hb
  have stay : ∀ {s s' : Shared}, Moved wr G s s' → (∀ b o, h0.get? b = some o → s.heap.get? b = some o) → ∀ b o, h0.get? b = some o → s'.heap.get? b = some o := fun hm kp b o e =>
    hm.heap b o (fun hb => by rw [hw0 b hb] at e; exact nomatch e) (kp b o e)
  have stands : ∀ {s : Shared} {L : List (Addr × NestedKey)} {i : Nat}, Got2 ks i L → (∀ b o, h0.get? b = some o → s.heap.get? b = some o) → KeysAt s.heap L := fun g kp p hp => (hk p (List.mem_of_mem_take (g.sub p hp))).mono kp
  intro k
  induction k with
  | zero =>
    intro i s e1 hi st kp ⟨L, es, ep, t, hS, g⟩ hR
    obtain rfl : i = n := by omega
    refine codeAny_builtin F.entry_set_update_loop ?_
    rw [Around.under_plainId F.plain_set_update_loop _]
    show wpAny _ A.in1 (pyNext (.ref I) >>= _) _ _ s
    refine wpAny_bind (W.done s _ _ st fun s' hm => ?_)
    show wpAny _ A.in1 (ret Value.none) _ _ s'
    exact wpAny_pure (hR s' L es ep t (hm.mono wider) (hS.moved fun o e => hm.heap S o hSw e) g (stay hm kp))
  | succ k ih =>
    intro i s e1 hi st kp ⟨L, es, ep, t, hS, g⟩ hR
    have lt : i < n := by omega
    refine codeAny_builtin F.entry_set_update_loop ?_
    rw [Around.under_plainId F.plain_set_update_loop _]
    show wpAny _ A.in1 (pyNext (.ref I) >>= _) _ _ s
    refine wpAny_bind (W.item i s _ _ lt st fun v s' hP st' hm => ?_)
    obtain ⟨p, hp, rfl⟩ := hval i v hP
    have kp' := stay hm kp
    have hS' : KSet0 w s'.heap S L es ep t := hS.moved fun o e => hm.heap S o hSw e
    have hx : KIs s'.heap p.2 p.1 := (hk p (List.mem_of_getElem? hp)).mono kp'
    show wpAny _ A.in1 (holding [Value.ref p.1] (setAdd S (.ref p.1)) >>= _) _ _ s'
    refine wpAny_bind (wpAny_holding ?_)
    unfold setAdd
    refine wpAny_holding (wpAny_bind ((nestedKind P w).pyHash (by exact hu) hx ?_))
    refine add_key (s := { s' with toks := s'.toks + p.2.draws }) hS' (stands g kp') hx hu (by have := g.len; omega) fun b h' M es' ep' t' sb hM c1 c2 => ?_
    have kp2 : ∀ b o, h0.get? b = some o → h'.get? b = some o := fun b o e => (sb.2 b fun z => by rw [z, hS0] at e; exact nomatch e).trans (kp' b o e)
    refine wpAny_pure ⟨plainId_quiet F.plain_set_update_loop _, ih (i + 1) _ (by omega) lt (W.frame _ s' _ _ st' (Nat.le_add_right _ _) fun b hb o e => ?_) kp2 ⟨M, es', ep', t', hM, g.next hp c1 c2⟩ fun s'' L2 es2 ep2 t2 hm2 hS2 g2 kp3 => ?_⟩
    · rw [sb.2 b fun z => hSf (by rw [← z]; exact hb)]; exact e
    · refine hR s'' L2 es2 ep2 t2 (Moved.trans W.gtrans ((hm.mono wider).then_heap (Nat.le_add_right _ _) fun b o hb e => ?_) hm2) hS2 g2 kp3
      rw [sb.2 b fun z => hb (by rw [z]; exact List.mem_cons_self)]; exact e
set_option maxRecDepth 100000 in
set_option maxHeartbeats 3200000 in
/-- set(x), x walked item by item -/
theorem set_of_walk {s : Shared} {A : Around} {E : Value → Shared → Prop} {Q : Value → Shared → Prop} {l : Addr} {T : String} {ol io : Obj} {n : Nat} {Pv : Nat → Value → Prop} (hh : A.handled = none) (hol : s.heap.get? l = some ol) (hcl : ol.cls = .type T)
    (sub1 : isSubtype (.type T) (.type "set") = pure false) (sub2 : isSubtype (.type T) (.type "frozenset") = pure false) (nd : (Value.type T == Value.type "dict") = false)
    (iter : ∀ (A' : Around) (E' : Value → Shared → Prop) (h' : Heap) (Q' : Value → Shared → Prop), (∀ b o, s.heap.get? b = some o → h'.get? b = some o) → Q' (.ref h'.objs.size) { s with heap := h'.push io } → wpAny (model P w) A' (pyIter (.ref l)) Q' E' { s with heap := h' })
    (walk : ∀ (A' : Around) (I : Addr), A'.handled = none → l ≠ I → ∃ St : Nat → Heap → Prop, Walks P w A' I [I, l] [I] n Pv St ∧ ∀ h', (∀ b o, s.heap.get? b = some o → h'.get? b = some o) → h'.get? I = some io → St 0 h')
    (put : ∀ (h : Heap), (h.push io).get? h.objs.size = some io)
    (ks : List (Addr × NestedKey)) (hn : n = ks.length) (hval : ∀ i v, Pv i v → ∃ p, ks[i]? = some p ∧ v = .ref p.1) (hk : KeysAt s.heap ks) (few : ks.length < 64) (hu : A.units + 30 < cLine)
    (q : ∀ (h' : Heap) (tk : Nat) L es ep t, KSet0 w h' s.heap.objs.size L es ep t → Got2 ks ks.length L → (∀ b o, s.heap.get? b = some o → h'.get? b = some o) → Q (.ref s.heap.objs.size) { s with heap := h', toks := tk }) :
    wpAny (model P w) A (call (.type "set") [.ref l]) Q E s := by
  obtain ⟨c, tl, hmro⟩ := F.called_set.mro
  have hmade := F.called_set.made
  have hsub := F.called_set.sub
  refine wpAny_call (codeAny_of_tree ?_)
  show wpAny _ _ (callAny (.type "set") _) _ _ _
  refine wpAny_pure ⟨Code.quiet_builtin _ (by decide +kernel), codeAny_builtin F.entry_type_call ?_⟩
  rw [Around.under_plain (weight_type_call_type "set" [.ref l] []) rfl]
  have nt := F.called_set.notType
  have cc := F.called_set.canCreate
  have tc := F.typeCall_set_1 (.ref l)
  repeat (any_goals (first | assumption | wp_step))
  refine codeAny_mono (code_set_led1 (.ref l) (E := E) (Q₁ := fun obj s₁ => obj = .ref s.heap.objs.size ∧ s₁ = { s with heap := s.heap.push (newSetObj w) }) ⟨rfl, rfl⟩) fun r s₁ hr => ?_
  cases r with
  | error e => exact hr
  | ok fl =>
    cases fl with
    | ret obj =>
      obtain ⟨rfl, rfl⟩ := hr
      have hS : (s.heap.push (newSetObj w)).get? s.heap.objs.size = some (newSetObj w) := Heap.get?_push_size _ rfl
      have hT : Shared.TypeIs { s with heap := s.heap.push (newSetObj w) } (.ref s.heap.objs.size) "set" := ⟨_, hS, rfl⟩
      have li := F.called_set.init.lookup
      have bi := F.called_set.init.bind (.ref s.heap.objs.size)
      repeat (any_goals (first | assumption | wp_step))
      refine codeAny_mono (codeAny_call_builtin (R := wants (fun r s₂ => r = .none ∧ ∃ h' tk L es ep t, s₂ = { s with heap := h', toks := tk } ∧ KSet0 w h' s.heap.objs.size L es ep t ∧ Got2 ks ks.length L ∧ (∀ b o, s.heap.get? b = some o → h'.get? b = some o)) E) F.called_set.init.plain F.entry_set_init (check_set_init_1 hT ?_)) fun r₂ s₂ hr₂ => ?_
      · have kept : ∀ b o, s.heap.get? b = some o → (s.heap.push (newSetObj w)).get? b = some o := fun b o e => Heap.get?_push_of_some _ e
        obtain ⟨ocls, odict, odata, oslots⟩ := ol
        simp only at hcl
        subst hcl
        have hol' := kept l _ hol
        unfold Builtin.«set.__init__» noKeywords Builtin.Frozenset.updateFrom
        generalize hPI : pyIter = PI
        wp_walk
        subst hPI
        refine iter _ _ (s.heap.push (newSetObj w)) _ kept ?_
        refine wpAny_bind (wpAny_runValue ?_)
        have lt : l < s.heap.objs.size := Heap.lt_size hol
        have z1 : (s.heap.push (newSetObj w)).objs.size = s.heap.objs.size + 1 := Heap.size_push ..
        obtain ⟨St, W, st0⟩ := walk A.in1.in1.in1 (s.heap.push (newSetObj w)).objs.size (by simp [hh]) (Nat.ne_of_lt (by rw [z1]; exact Nat.lt_succ_of_lt lt))
        have kept2 : ∀ b o, s.heap.get? b = some o → ((s.heap.push (newSetObj w)).push io).get? b = some o := fun b o e => Heap.get?_push_of_some _ (kept b o e)
        have gone : ∀ b, s.heap.objs.size ≤ b → s.heap.get? b = none := fun b hb => by
          cases q : s.heap.get? b with
          | none => rfl
          | some o => exact absurd (Heap.lt_size q) (Nat.not_lt.mpr hb)
        refine fill_keys W.toS s.heap.objs.size (by rw [z1]; simp only [List.mem_cons, List.not_mem_nil, or_false, not_or]; exact ⟨Nat.ne_of_lt (Nat.lt_succ_self _), Nat.ne_of_gt lt⟩) ks hn few hval s.heap hk (gone _ (Nat.le_refl _)) (fun b hb => gone b (by rw [List.mem_singleton.mp hb, z1]; exact Nat.le_succ _))
          (by simp only [Around.in1_units]; omega) (n - 0) 0 _ (by omega) (Nat.zero_le _) (st0 _ kept2 (put _)) kept2 ⟨[], #[], 0, _, kset_new (Heap.get?_push_of_some _ hS), ⟨fun p hp => (by cases hp), fun p hp => (by simp at hp), Nat.le_refl _⟩⟩ ?_
        intro s' L es ep t hm hS' g kp
        obtain ⟨h', g2, d', tk', os'⟩ := s'
        obtain rfl : g2 = s.gens := hm.gens
        obtain rfl : d' = s.drawn := hm.drawn
        obtain rfl : os' = s.os := hm.os
        show wpAny _ _ _ _ _ _
        refine wpAny_pure ?_
        show wpAny _ _ (ret Value.none) _ _ _
        rw [hn] at g
        exact wpAny_pure ⟨rfl, h', tk', L, es, ep, t, rfl, hS', g, kp⟩
      · cases r₂ with
        | error e => exact hr₂
        | ok fl₂ =>
          cases fl₂ with
          | ret r =>
            obtain ⟨rfl, h', tk, L, es, ep, t, rfl, hS', g, kp⟩ := hr₂
            repeat (any_goals (first | assumption | wp_step))
            exact q _ _ _ _ _ _ hS' g kp
          | _ => exact hr₂.elim
    | _ => exact hr.elim
end
end PV

/-! PvA2: set(x) of lists and tuples; sorted(set). -/
namespace PV
open PySem L2 PyProof.Rows
section
variable {P : Program} {w : World} {h : Heap} {a : Addr} {L : List (Addr × NestedKey)} {es : Array (Int × Value)} {ep : Nat} {t : SetTable}
theorem refs_at {ks : List (Addr × NestedKey)} {items : Array Value} (e : items.toList = ks.map fun p => Value.ref p.1) (i : Nat) (v : Value) (h : items[i]? = some v) : ∃ p, ks[i]? = some p ∧ v = .ref p.1 := by
  have q : items.toList[i]? = some v := by rw [Array.getElem?_toList]; exact h
  rw [e, List.getElem?_map] at q
  cases hq : ks[i]? with
  | none => rw [hq] at q; cases q
  | some p => rw [hq] at q; exact ⟨p, rfl, (Option.some.inj q).symm⟩
theorem refs_len {ks : List (Addr × NestedKey)} {items : Array Value} (e : items.toList = ks.map fun p => Value.ref p.1) : items.size = ks.length := by
  rw [← Array.length_toList, e, List.length_map]
theorem set_of_list {s : Shared} {A : Around} {E : Value → Shared → Prop} {Q : Value → Shared → Prop} {l : Addr} {items : Array Value} (hh : A.handled = none) (hl : s.heap.IsList l items) (ks : List (Addr × NestedKey)) (e : items.toList = ks.map fun p => Value.ref p.1) (hk : KeysAt s.heap ks) (few : ks.length < 64) (hu : A.units + 30 < cLine)
    (q : ∀ (h' : Heap) (tk : Nat) L es ep t, KSet0 w h' s.heap.objs.size L es ep t → Got2 ks ks.length L → (∀ b o, s.heap.get? b = some o → h'.get? b = some o) → Q (.ref s.heap.objs.size) { s with heap := h', toks := tk }) :
    wpAny (model P w) A (call (.type "set") [.ref l]) Q E s := by
  obtain ⟨o, ho, hc, n, hd⟩ := id hl
  refine set_of_walk (T := "list") (io := { cls := .type "list_iterator", data := .fields #[.ref l, .int 0 0] }) hh ho hc F.sub_list_set F.sub_list_frozenset (by decide) (fun A' E' h' Q' k q' => ?_) (fun A' I hh' ne => ⟨_, Walks.list hh' I l ne items, fun h' k e' => ⟨⟨_, e', rfl, rfl⟩, hl.at fun o e => k l o e⟩⟩) (fun h => Heap.get?_push_size _ rfl) ks (refs_len e) (refs_at e) hk few hu q
  exact wpAny_pyIter_list (s := { s with heap := h' }) (hl.at fun o e => k l o e) q'
theorem set_of_tuple {s : Shared} {A : Around} {E : Value → Shared → Prop} {Q : Value → Shared → Prop} {l : Addr} {items : Array Value} (hh : A.handled = none) (hl : s.heap.IsTuple l items) (ks : List (Addr × NestedKey)) (e : items.toList = ks.map fun p => Value.ref p.1) (hk : KeysAt s.heap ks) (few : ks.length < 64) (hu : A.units + 30 < cLine)
    (q : ∀ (h' : Heap) (tk : Nat) L es ep t, KSet0 w h' s.heap.objs.size L es ep t → Got2 ks ks.length L → (∀ b o, s.heap.get? b = some o → h'.get? b = some o) → Q (.ref s.heap.objs.size) { s with heap := h', toks := tk }) :
    wpAny (model P w) A (call (.type "set") [.ref l]) Q E s := by
  obtain ⟨o, ho, hc, n, hd⟩ := id hl
  refine set_of_walk (T := "tuple") (io := { cls := .type "tuple_iterator", data := .fields #[.ref l, .int 0 0] }) hh ho hc F.sub_tuple_set F.sub_tuple_frozenset (by decide) (fun A' E' h' Q' k q' => ?_) (fun A' I hh' ne => ⟨_, Walks.tuple hh' I l ne items, fun h' k e' => ⟨⟨_, e', rfl, rfl⟩, hl.at fun o e => k l o e⟩⟩) (fun h => Heap.get?_push_size _ rfl) ks (refs_len e) (refs_at e) hk few hu q
  exact wpAny_pyIter_tuple (s := { s with heap := h' }) (hl.at fun o e => k l o e) q'
/-- sorted(a set of tuples): bs tells what each member reads as -/
theorem sorted_kset {β : Type} {s : Shared} {A : Around} {E : Value → Shared → Prop} {Q : Value → Shared → Prop} (R : KSet0 w s.heap a L es ep t) (hh : A.handled = none) (enc : β → PyData) (Rv : Value → β → Prop)
    (bs : ∀ vs : List Value, vs.Perm (L.map fun p => Value.ref p.1) → ∃ bs : List β, PySem.W.EachIs Rv vs bs ∧ PySem.W.EachIs (fun v b => ∃ as, Reads s.heap v (enc b) as ∧ ∀ c ∈ as, c < s.heap.objs.size) vs bs ∧ PySem.W.AllAlike (bs.map enc) ∧ PySem.W.Sortable (bs.map enc) ∧ (∀ b ∈ bs, A.units + 10 + (enc b).depth < cLine) ∧
      ∀ s' (out : List Value) p c, (∀ b o, s.heap.get? b = some o → s'.heap.get? b = some o) → s'.gens = s.gens → s'.os = s.os → s.heap.objs.size ≤ p → s'.heap.get? p = some (seqObj "list" out.toArray c) → out.length = bs.length → PySem.W.EachIs Rv out (bs.mergeSort (PySem.W.dataLe false enc)) → Q (.ref p) s') :
    wpAny (model P w) A (call (.builtin "sorted") [.ref a]) Q E s := by
  obtain ⟨o, ho, hex, hd⟩ := R.ob
  have hsz := R.size
  have few := R.few
  refine Calls.call_function_entry kind_sorted plain_sorted entry_sorted (args_sorted1 _) ?_
  unfold Builtin.«sorted»
  refine wpAny_bind (m := checkCount "sorted" 1 1 _) (wpAny_pure ?_)
  refine wpAny_bind (collect_set (A := A.in1) hh ⟨o, ho, hex.1, hd⟩ R.fits (by unfold scanBound; omega) R.tab.ris R.led fun s1 vs k1 hz g1 o1 pm => ?_)
  have hes : es.toList.map (·.2) = L.map fun q => Value.ref q.1 := by rw [R.rows, rowsK, List.map_map]; rfl
  rw [hes] at pm
  obtain ⟨bs, b1, b2, b3, b4, b5, b6⟩ := bs vs pm
  have hvl : vs.length < 64 := by rw [pm.length_eq, List.length_map]; exact few
  have hbl : bs.length = vs.length := b1.length.symm
  refine wpAny_bind (wpAny_newList ?_ (by rw [sizeLine_eq]; omega))
  have hoL : (s1.heap.push (seqObj "list" vs.toArray 0)).get? s1.heap.objs.size = some (seqObj "list" vs.toArray 0) := Heap.get?_push_size _ rfl
  have b2' : PySem.W.EachIs (fun v b => ∃ as, Reads (s1.heap.push (seqObj "list" vs.toArray 0)) v (enc b) as ∧ s1.heap.objs.size ∉ as) vs bs := b2.mono fun v b ⟨as, r, lt⟩ => ⟨as, PyProof.Rows.Reads.keeps (fun b u e => Heap.get?_push_of_some _ (k1 b u e)) r, fun hm => Nat.lt_irrefl _ (Nat.lt_of_lt_of_le (lt _ hm) hz)⟩
  refine wpAny_bind (wpAny_holding ?_)
  refine PySem.W.list_sort_data (s := { s1 with heap := s1.heap.push (seqObj "list" vs.toArray 0) }) hoL b1 b2' b3 b4 (by rw [sizeLine_eq]; omega) (fun b hb => by have := b5 b hb; simp only [Around.in1_units]; omega) fun out h1 h2 => ?_
  obtain ⟨c, hc⟩ := sortedHeap_at (vs := vs) (out := out.toArray) hoL
  refine wpAny_pure ⟨_, rfl, b6 _ out s1.heap.objs.size c (fun b u e => ?_) g1 o1 hz hc h1 h2⟩
  have q := k1 b u e
  have lt := Heap.lt_size q
  show (sortedHeap (s1.heap.push (seqObj "list" vs.toArray 0)) s1.heap.objs.size vs out.toArray).get? b = some u
  rw [sortedHeap_old (Nat.ne_of_lt lt) (by rw [size_push']; exact Nat.lt_succ_of_lt lt)]
  exact Heap.get?_push_of_some _ q
/-- what is kept of a set of tuples -/
def SetNO (w : World) (a : Addr) (L : List (Addr × NestedKey)) : HO := .ext fun h => ∃ es ep t, KSet0 w h a L es ep t
theorem setNO_new {P : Program} {w : World} {H : Hp} {h : Heap} {a : Addr} {L : List (Addr × NestedKey)} {es : Array (Int × Value)} {ep : Nat} {t : SetTable} (R : KSet0 w h a L es ep t) : ObjOk P w H h a (SetNO w a L) := by
  obtain ⟨o, ho, r⟩ := R.ob
  exact ⟨⟨es, ep, t, R⟩, ⟨o, ho⟩, fun h1 h2 ⟨es, ep, t, R⟩ k => ⟨es, ep, t, R.moved fun o e => k o e⟩⟩
end
end PV

/-! PvA3: sorted(xs, key=f), f a def of the table: whole-number keys. -/
namespace PV
open PySem L2 PyProof.Rows
section
variable {prog : Program} {w : World} {A : Around} {E : Value → Shared → Prop}
/-- all but two objects stand -/
def But2 (a c : Addr) (h h' : Heap) : Prop := ∀ b o, b ≠ a → b ≠ c → h.get? b = some o → h'.get? b = some o
/-- a heap without the object at c -/
theorem freed_ex (h : Heap) (c : Addr) : ∃ g : Heap, g.get? c = none ∧ ∀ b, b ≠ c → g.get? b = h.get? b := by
  refine ⟨h.update c fun o => { o with data := .freed }, ?_, fun b hb => Heap.get?_update_ne _ _ _ _ hb⟩
  cases h with
  | mk objs life =>
    simp only [Heap.update, Heap.get?, Array.getElem?_modify, if_true]
    cases objs[c]? with
    | none => rfl
    | some o => rfl
structure KeyRun (prog : Program) (w : World) (A : Around) (f : Addr) (vs : List Value) (a c : Addr) (W : Nat → List Int → Shared → Prop) : Prop where
  upd : ∀ i ks s' h' tk, W i ks s' → But2 a c s'.heap h' → (∃ o, h'.get? a = some o) → (∃ o, h'.get? c = some o) → W i ks { s' with heap := h', toks := tk }
  turn : ∀ i v ks s', vs[i]? = some v → W i ks s' → wpAny (model prog w) A (call (.ref f) [v]) (fun u s'' => ∃ n tk, u = .int n tk ∧ (∀ o, s'.heap.get? a = some o → s''.heap.get? a = some o) ∧ (∀ o, s'.heap.get? c = some o → s''.heap.get? c = some o) ∧ W (i + 1) (ks ++ [n]) s'') (fun _ _ => False) s'
theorem ints_snoc {us : List Value} {ks : List Int} {n : Int} {tk : Tok} (h : IntsAre us ks) : IntsAre (us ++ [.int n tk]) (ks ++ [n]) := by
  induction h with
  | nil => exact .cons n tk .nil
  | cons k t _ ih => exact .cons k t ih
theorem ints_reads {h : Heap} {us : List Value} {ks : List Int} (x : IntsAre us ks) : PySem.W.EachIs (fun v d => ∃ as, Reads h v d as) us (ks.map PyData.int) := by
  induction x with
  | nil => exact .nil
  | cons k t _ ih => exact .cons ⟨[], .int k t⟩ ih
theorem srt_rest {s : Shared} {P : PySem.Fin → Shared → Prop} {f : Addr} {vs : List Value} {a c : Addr} {e1 : Nat} {W : Nat → List Int → Shared → Prop} (R : KeyRun prog w A f vs a c W) (hca : c ≠ a) (hZ : vs.length ≤ sizeLine) (hu : A.units < cLine) (start : W 0 [] s)
    (nk : s.heap.get? c = some (seqObj "list" #[] 0)) (na : s.heap.get? a = some (seqObj "list" #[] e1))
    (done : ∀ ks s' h' tk out e, W vs.length ks s' → ks.length = vs.length → But2 a c s'.heap h' → h'.get? a = some (seqObj "list" (List.toArray out) e) → PySem.W.KeyedOut false (ks.map .int) vs out → P (.done (.ret .none)) { s' with heap := h', toks := tk }) :
    wpAny (model prog w) A (ksk_rest a (.ref f) false vs.toArray e1 (.ref c)) P E s := by
  unfold ksk_rest
  refine wpAny_bind (wpAny_rule ?_)
  first
    | rw [List.forIn_toArray]
    | (rw [← Array.forIn_toList]; simp only [List.toList_toArray])
    | rw [← Array.forIn_toList]
  refine wpAny_bind (ksk_fold (fun i s' => ∃ ks kA e, W i ks s' ∧ ks.length = i ∧ s'.heap.get? c = some (seqObj "list" kA e) ∧ s'.heap.get? a = some (seqObj "list" #[] e1) ∧ IntsAre kA.toList ks) vs 0 s ⟨[], #[], 0, start, rfl, nk, na, .nil⟩ ?step ?fin)
  case step =>
    rintro j x s' hx ⟨ks, kA, e, hW, hl, hc, ha, hk⟩
    simp only [Nat.zero_add] at hW hl ⊢
    have hj : j < vs.length := (List.getElem?_eq_some_iff.mp hx).1
    have hz : kA.size ≤ vs.length := by
      have := hk.length
      rw [Array.length_toList] at this
      omega
    refine wpAny_bind (wpAny_attempt (wpAny_mono (R.turn j x ks s' hx hW) (fun u s'' he => ?_) fun _ _ z => z.elim))
    obtain ⟨n, tk, rfl, k1, k2, hW2⟩ := he
    try dsimp only
    have hc2 := k2 _ hc
    have ha2 := k1 _ ha
    obtain ⟨e2, he2⟩ : ∃ e2, (s''.heap.update c (Obj.mapSeq (·.push (Value.int n tk)))).get? c = some (seqObj "list" (kA.push (.int n tk)) e2) := ⟨_, get?_update_seq hc2 (·.push (Value.int n tk))⟩
    have sb := Heap.SameBut.update s''.heap c (Obj.mapSeq (·.push (Value.int n tk)))
    refine wpAny_bind (listUpdate_at hc2 rfl ?_ (Nat.le_trans hz hZ) (Nat.le_trans (Nat.le_of_eq (Array.size_push ..)) (Nat.succ_le_succ (Nat.le_trans hz hZ))))
    refine wpAny_pure ⟨rfl, ks ++ [n], kA.push (.int n tk), e2, R.upd (j + 1) (ks ++ [n]) s'' _ s''.toks hW2 (fun b o _ hb e => (sb.2 b hb).trans e) ⟨_, (sb.2 a hca.symm).trans ha2⟩ ⟨_, he2⟩, by simp [hl], he2, (sb.2 a hca.symm).trans ha2, ?_⟩
    rw [Array.toList_push]
    exact ints_snoc hk
  case fin =>
    rintro s' ⟨ks, kA, e, hW, hl, hc, ha, hk⟩
    rw [Nat.zero_add] at hW hl
    have hsz : kA.size = vs.length := by
      have := hk.length
      rw [Array.length_toList] at this
      omega
    obtain ⟨g, g1, g2⟩ := freed_ex s'.heap c
    have hal : PySem.W.AllAlike (ks.map PyData.int) := PySem.W.AllAlike.of (enc := PyData.int) (bs := ks) fun _ _ => rfl
    have hsk : PySem.W.Sortable (ks.map PyData.int) := PySem.W.Sortable.others (enc := PyData.int) (bs := ks) fun _ => ⟨by simp, by simp⟩
    try dsimp only
    refine wpAny_bind (listItems_at hc rfl ?_)
    refine PySem.W.keyH_end (κ := PySem.W.dataKind s'.heap (ks.map PyData.int)) (h₁ := g) (fun b o hb e => ?_) g1 hc ha hca (PySem.W.SortsAt.data (s := s') (ints_reads hk) hal hsk (fun d hd => ?_)) hsz hZ fun h3 tk3 c3 k3 n3 => done ks s' h3 tk3 _ c3 hW hl (fun b o h1 h2 e => k3 b o h1 ((g2 b h2).trans e)) n3 ⟨s'.heap, kA.toList, hal, rfl, ints_reads hk⟩
    · by_cases hbc : b = c
      · rw [hbc, g1] at e; cases e
      · rw [g2 b hbc] at e; exact e
    · obtain ⟨k, _, rfl⟩ := List.mem_map.mp hd
      show A.units + 0 < cLine
      omega
theorem srt_tree {s : Shared} {P : PySem.Fin → Shared → Prop} {f : Addr} {vs : List Value} {a n : Nat} {W : Addr → Nat → List Int → Shared → Prop} (hu : A.units < cLine) (ho : s.heap.get? a = some (seqObj "list" vs.toArray n)) (hZ : vs.length ≤ sizeLine)
    (R : ∀ c, s.heap.objs.size ≤ c → KeyRun prog w A f vs a c (W c)) (start : ∀ c h', s.heap.objs.size ≤ c → But2 a c s.heap h' → (∃ o, h'.get? a = some o) → (∃ o, h'.get? c = some o) → W c 0 [] { s with heap := h' })
    (done : ∀ c ks s' h' tk out e, s.heap.objs.size ≤ c → W c vs.length ks s' → ks.length = vs.length → But2 a c s'.heap h' → h'.get? a = some (seqObj "list" (List.toArray out) e) → PySem.W.KeyedOut false (ks.map .int) vs out → P (.done (.ret .none)) { s' with heap := h', toks := tk }) :
    wpAny (model prog w) A (ksk_tree a (.ref f) false) P E s := by
  have ha : a < s.heap.objs.size := Heap.lt_size ho
  obtain ⟨e1, ho1⟩ : ∃ e1, (s.heap.update a (Obj.mapSeq fun _ => (#[] : Array Value))).get? a = some (seqObj "list" #[] e1) := ⟨_, get?_update_seq ho fun _ => #[]⟩
  have hc : ((s.heap.update a (Obj.mapSeq fun _ => (#[] : Array Value))).push (seqObj "tuple" vs.toArray 0)).objs.size = s.heap.objs.size + 1 := by rw [size_push', Heap.size_update]
  unfold ksk_tree
  refine wpAny_bind (listItems_at ho rfl ?_)
  refine wpAny_bind (listUpdate_at ho rfl ?_ (by rw [List.size_toArray]; exact hZ) (Nat.zero_le _))
  refine wpAny_bind (seqEpoch_at ho1 rfl ?_)
  refine wpAny_bind (wpAny_newTuple ?_ (by show vs.length ≤ _; exact hZ))
  refine wpAny_bind (wpAny_newList ?_ (Nat.zero_le _))
  refine wpAny_holding ?_
  have kp : ∀ b o, b ≠ a → s.heap.get? b = some o → (((s.heap.update a (Obj.mapSeq fun _ => (#[] : Array Value))).push (seqObj "tuple" vs.toArray 0)).push (seqObj "list" #[] 0)).get? b = some o := fun b o hb q => PySem.W.sortingHeap_old hb q
  have hle : s.heap.objs.size ≤ ((s.heap.update a (Obj.mapSeq fun _ => (#[] : Array Value))).push (seqObj "tuple" vs.toArray 0)).objs.size := by rw [hc]; exact Nat.le_succ _
  refine srt_rest (s := { s with heap := ((s.heap.update a (Obj.mapSeq fun _ => (#[] : Array Value))).push (seqObj "tuple" vs.toArray 0)).push (seqObj "list" #[] 0) }) (R _ hle) (Nat.ne_of_gt (Nat.lt_of_lt_of_le ha hle)) hZ hu (start _ _ hle (fun b o hb _ q => kp b o hb q) ⟨_, Heap.get?_push_of_some _ (Heap.get?_push_of_some _ ho1)⟩ ⟨_, Heap.get?_push_size _ rfl⟩) (Heap.get?_push_size _ rfl) (Heap.get?_push_of_some _ (Heap.get?_push_of_some _ ho1)) fun ks s' h' tk out e h1 h2 h3 h4 h5 => done _ ks s' h' tk out e hle h1 h2 h3 h4 h5
/-- sorted(xs, key=f) -/
theorem sorted_key {s : Shared} {Q : Value → Shared → Prop} {l f : Addr} {vs : List Value} {W : Addr → Addr → Nat → List Int → Shared → Prop} (hu : A.units + 2 < cLine) (hl : s.heap.IsList l vs.toArray) (hZ : vs.length ≤ sizeLine)
    (R : ∀ a c, s.heap.objs.size ≤ a → s.heap.objs.size ≤ c → KeyRun prog w A.in1.in1 f vs a c (W a c))
    (start : ∀ a c h', s.heap.objs.size ≤ a → s.heap.objs.size ≤ c → (∀ b o, s.heap.get? b = some o → h'.get? b = some o) → (∃ o, h'.get? a = some o) → (∃ o, h'.get? c = some o) → W a c 0 [] { s with heap := h' })
    (done : ∀ a c ks s' h' tk out e, s.heap.objs.size ≤ a → s.heap.objs.size ≤ c → W a c vs.length ks s' → ks.length = vs.length → But2 a c s'.heap h' → h'.get? a = some (seqObj "list" (List.toArray out) e) → PySem.W.KeyedOut false (ks.map .int) vs out → Q (.ref a) { s' with heap := h', toks := tk }) :
    wpAny (model prog w) A (call (.builtin "sorted") [.ref l] [(Str.ofString "key", .ref f)]) Q E s := by
  refine PySem.W.sorted_of_sort hl hZ (ksk_s1 _ _) (fun x => ksk_l1 _ _) fun E' => ?_
  rw [ksk_t1]
  have hsz : (PySem.W.copyHeap s.heap vs).objs.size = s.heap.objs.size + 2 := by
    unfold PySem.W.copyHeap
    rw [size_push', Heap.size_update, size_push']
  have le : ∀ c, (PySem.W.copyHeap s.heap vs).objs.size ≤ c → s.heap.objs.size ≤ c := fun c h => by rw [hsz] at h; exact Nat.le_trans (Nat.le_add_right _ _) h
  have old : ∀ b o, s.heap.get? b = some o → (PySem.W.copyHeap s.heap vs).get? b = some o := fun b o e => PySem.W.copyHeap_old e
  refine srt_tree (s := { s with heap := PySem.W.copyHeap s.heap vs }) (W := fun c => W (s.heap.objs.size + 1) c) (by simp only [Around.in1_units]; omega) (PySem.W.copyHeap_at s.heap vs) hZ (fun c h => R _ c (Nat.le_succ _) (le c h)) (fun c h' hc kp x1 x2 => ?_) fun c ks s' h' tk out e hc h1 h2 h3 h4 h5 => ⟨rfl, done _ c ks s' h' tk out e (Nat.le_succ _) (le c hc) h1 h2 h3 h4 h5⟩
  refine start _ c h' (Nat.le_succ _) (le c hc) (fun b o e => ?_) x1 x2
  have lt := Heap.lt_size e
  exact kp b o (Nat.ne_of_lt (Nat.lt_succ_of_lt lt)) (Nat.ne_of_lt (Nat.lt_of_lt_of_le lt (le c hc))) (old b o e)
end
end PV

/-! PvB: the core language and its evaluator. -/
namespace PV
open PySem

/-- an exception: the number of its class, its fields -/
structure Exn where
  c : Nat
  fs : List (Str × D)
/-- what stands in the store -/
inductive Cell where
  | box (l : List D)
  | ins (c : Nat) (fs : List (Str × D))
structure S where
  r : List (Option D)
  m : List Cell
inductive Out (α : Type) where
  | ok (a : α) (s : S) | exc (x : Exn) (s : S) | bad
def Out.bind {α β : Type} (o : Out α) (f : α → S → Out β) : Out β := match o with
  | .ok a s => f a s | .exc x s => .exc x s | .bad => .bad
@[simp] theorem Out.bind_ok {α β : Type} (a : α) (s : S) (f : α → S → Out β) : (Out.ok a s).bind f = f a s := rfl
@[simp] theorem Out.bind_exc {α β : Type} (x : Exn) (s : S) (f : α → S → Out β) : (Out.exc x s : Out α).bind f = .exc x s := rfl
@[simp] theorem Out.bind_bad {α β : Type} (f : α → S → Out β) : (Out.bad : Out α).bind f = .bad := rfl
/-- a part of an operation that may be refused -/
def Out.of {α : Type} (o : Option α) (s : S) : Out α := match o with
  | some a => .ok a s | none => .bad
@[simp] theorem Out.of_some {α : Type} (a : α) (s : S) : Out.of (some a) s = .ok a s := rfl
@[simp] theorem Out.of_none {α : Type} (s : S) : Out.of (none : Option α) s = .bad := rfl

def gt {α : Type} : List (Option α) → Nat → Option α
  | [], _ => none
  | x :: _, 0 => x
  | _ :: l, n + 1 => gt l n

inductive Bop where
  | add | sub | mul | fdiv | mod
  deriving DecidableEq, Repr
inductive Cop where
  | lt | le | gt | ge | eq | ne | isin | notin
  deriving DecidableEq, Repr
inductive Ty where
  | int | bool | str | tuple | list | dict | set
  deriving DecidableEq, Repr
/-- a built-in, called with all its arguments evaluated -/
inductive Bi where
  | len | int | str | repr | all | any | sum | min | max | min2 | max2 | abs | sorted | tuple | list | set | dict
  deriving DecidableEq, Repr
/-- what a loop walks: one value, a range, two values side by side -/
inductive Ik where
  | seq | rng | zip
  deriving DecidableEq, Repr
inductive Tg where
  | name (i : Nat) | tup (ts : List Tg)

inductive C where
  | lit (d : D) | glob (n : Nat)
  | var (i : Nat) | bvar (i : Nat) | mvar (i : Nat)
  | tup (es : List C) | lst (es : List C) | box (es : List C) | dct (es : List C) | dctT (es : List C)
  | bin (op : Bop) (a b : C) | neg (a : C)
  | nt (a : C) | and (a b : C) | or (a b : C) | ite (c a b : C)
  | cmp (op : Cop) (a b : C) | chain (o1 o2 : Cop) (a b c : C)
  | isN (a : C) | notN (a : C)
  | ix (a i : C) | pix (n : Nat) (i : C) | slc (a lo hi : C) | rev (a : C)
  | call (f : Nat) (es : List C)
  | bi (b : Bi) (es : List C) | bib (b : Bi) (n : Nat)
  | isi (a : C) (t : Ty)
  | lc (e : C) (tg : Tg) (k : Ik) (its : List C) (cs : List C) (vs : List Nat)
  | idx (a b : C) | pop (n : Nat) | abs
  | srt (f : Nat) (a : C)
/-- what an except suite says: tests of the caught exception's class, its fields -/
inductive HB where
  | isi (cl : List Nat) | and (a b : HB) | nt (a : HB)
inductive HA where
  | lit (d : D) | fld (f : Str)
inductive HE where
  | at (a : HA) | tup (es : List HA) | ite (c : HB) (a b : HE)
inductive HS where
  | ret (e : HE) | two (j : Nat) (c : HB) (a b : HE)
inductive K where
  | rai (c : Nat) (fs : List Str) (es : List C) | tri (b : List K) (fl : List (List Str)) (cl : List Nat) (i : Option Nat) (h : HS)
  | skip | ex (e : C)
  | set (i : Nat) (e : C) | bset (i : Nat) (e : C) | unp (tg : Tg) (e : C) | par (i j : Nat) (a b : C)
  | app (n : Nat) (e : C) | ext (n : Nat) (e : C) | seti (n : Nat) (i e : C)
  | ite (c : C) (a b : List K) | forr (tg : Tg) (k : Ik) (its : List C) (b : List K) | whl (c : C) (b : List K)
  | ret (e : C) | brk | cont

inductive Fl where
  | next | ret (d : D) | brk | cont

/-! the operations on values -/
def small64 (i : Int) : Bool := decide (i.natAbs < 18446744073709551616)
def bop : Bop → D → D → Option D
  | .add, .int i, .int j => some (.int (i + j))
  | .add, .str x, .str y => if x.length + y.length ≤ sizeLine then some (.str (x ++ y)) else none
  | .add, .tup l, .tup m => if l.length + m.length ≤ sizeLine then some (.tup (l ++ m)) else none
  | .add, .lst _ l, .lst _ m => if l.length + m.length ≤ sizeLine then some (.lst true (l ++ m)) else none
  | .sub, .int i, .int j => some (.int (i - j))
  | .mul, .int i, .int j => if small64 i || small64 j then some (.int (i * j)) else none
  | .mul, .tup l, .int k => if l ≠ [] ∧ 2 ≤ k ∧ k ≤ 1000 ∧ l.length ≤ 1000 ∧ D.iszs l = true then some (.tup (List.replicate k.toNat l).flatten) else none
  | .fdiv, .int i, .int j => if j ≠ 0 ∧ j.natAbs < 1073741824 then some (.int (i.fdiv j)) else none
  | .mod, .int i, .int j => if j ≠ 0 then some (.int (i.fmod j)) else none
  | _, _, _ => none
def isData : D → Bool
  | .tup _ => true | .lst _ _ => true | .str _ => true | .bl _ => true | .int _ => true | _ => false
def seqOf : D → Option (List D)
  | .tup l => some l | .lst _ l => some l | _ => none
def icmp (f : Int → Int → Bool) : D → D → Option Bool
  | .int i, .int j => some (f i j) | _, _ => none
def ltD : D → D → Option Bool
  | .int i, .int j => some (decide (i < j))
  | .tup l, .tup m => if D.alis l m && D.okds 59 l && D.okds 59 m then some (D.lts l m) else none
  | _, _ => none
/-- the place of an index, from the end where it is negative -/
def ixn (n : Nat) (i : Int) : Option Nat := if 0 ≤ i then (if i < n then some i.toNat else none) else if -(n : Int) ≤ i then some (i + n).toNat else none
def atD {α : Type} (l : List α) (i : Int) : Option α := (ixn l.length i).bind fun j => l[j]?
/-- a dict's key: a whole number or a text -/
def kof : D → Option L2.Key
  | .int i => some (.inl i) | .str x => some (.inr x) | _ => none
def kD : L2.Key → D
  | .inl i => .int i | .inr x => .str x
/-! keys that are tuples: of whole numbers, texts, None, such tuples -/
mutual
def D.kb : Nat → D → Bool
  | _, .int _ => true | _, .str _ => true | _, .non => true
  | n + 1, .tup l => D.kbs n l
  | 0, .tup _ => false | _, .bl _ => false | _, .lst _ _ => false | _, .scr _ => false | _, .dct _ _ _ => false | _, .set _ _ => false | _, .ref _ => false
def D.kbs : Nat → List D → Bool
  | _, [] => true | n, x :: xs => D.kb n x && D.kbs n xs
end
mutual
def D.nk : D → NestedKey
  | .int i => .num i | .str x => .text x | .tup l => .tup (D.nks l)
  | .non => .none | .bl _ => .none | .lst _ _ => .none | .scr _ => .none | .dct _ _ _ => .none | .set _ _ => .none | .ref _ => .none
def D.nks : List D → List NestedKey
  | [] => [] | x :: xs => D.nk x :: D.nks xs
end
theorem D.nks_map : ∀ l : List D, D.nks l = l.map D.nk
  | [] => rfl
  | x :: xs => by rw [D.nks, D.nks_map xs, List.map_cons]
mutual
theorem D.kb_depth : ∀ (x : D) (n : Nat), D.kb n x = true → x.nk.depth ≤ n
  | .int _, n, _ => Nat.zero_le _ | .str _, n, _ => Nat.zero_le _ | .non, n, _ => Nat.zero_le _
  | .tup l, n, h => by
    cases n with
    | zero => simp [D.kb] at h
    | succ n =>
      simp only [D.kb] at h
      have := D.kbs_depth l n h
      simp only [D.nk, NestedKey.depth]; omega
  | .bl _, n, h => by cases n <;> simp [D.kb] at h
  | .lst _ _, n, h => by cases n <;> simp [D.kb] at h
  | .scr _, n, h => by cases n <;> simp [D.kb] at h
  | .dct _ _ _, n, h => by cases n <;> simp [D.kb] at h
  | .set _ _, n, h => by cases n <;> simp [D.kb] at h
  | .ref _, n, h => by cases n <;> simp [D.kb] at h
theorem D.kbs_depth : ∀ (l : List D) (n : Nat), D.kbs n l = true → NestedKey.depthAll (D.nks l) ≤ n
  | [], n, _ => Nat.zero_le _
  | x :: xs, n, h => by
    simp only [D.kbs, Bool.and_eq_true] at h
    have := D.kb_depth x n h.1; have := D.kbs_depth xs n h.2
    simp only [D.nks, NestedKey.depthAll]; omega
end
mutual
theorem D.kb_eqv : ∀ (x y : D) (n m : Nat), D.kb n x = true → D.kb m y = true → D.eqv x y = NestedKey.beq x.nk y.nk
  | .tup l, .tup k, n, m, h, g => by
    cases n with
    | zero => simp [D.kb] at h
    | succ n =>
      cases m with
      | zero => simp [D.kb] at g
      | succ m =>
        simp only [D.kb] at h g
        simp only [D.eqv, D.nk, NestedKey.beq]
        exact D.kbs_eqv l k n m h g
  | .int i, y, n, m, _, g => by
    cases y <;> first | (cases m <;> simp [D.kb] at g; done) | simp [D.eqv, D.nk, NestedKey.beq] | skip
    rw [Bool.eq_iff_iff]; simp [D.eqv, D.nk, NestedKey.beq]
  | .str i, y, n, m, _, g => by
    cases y <;> first | (cases m <;> simp [D.kb] at g; done) | simp [D.eqv, D.nk, NestedKey.beq] | skip
    rw [Bool.eq_iff_iff]; simp [D.eqv, D.nk, NestedKey.beq]
  | .non, y, n, m, _, g => by
    cases y <;> first | (cases m <;> simp [D.kb] at g; done) | simp [D.eqv, D.nk, NestedKey.beq]
  | .tup l, .int _, n, m, h, g => by simp [D.eqv, D.nk, NestedKey.beq]
  | .tup l, .str _, n, m, h, g => by simp [D.eqv, D.nk, NestedKey.beq]
  | .tup l, .non, n, m, h, g => by simp [D.eqv, D.nk, NestedKey.beq]
  | _, .bl _, n, m, _, h => by cases m <;> simp [D.kb] at h
  | _, .lst _ _, n, m, _, h => by cases m <;> simp [D.kb] at h
  | _, .scr _, n, m, _, h => by cases m <;> simp [D.kb] at h
  | _, .dct _ _ _, n, m, _, h => by cases m <;> simp [D.kb] at h
  | _, .set _ _, n, m, _, h => by cases m <;> simp [D.kb] at h
  | _, .ref _, n, m, _, h => by cases m <;> simp [D.kb] at h
  | .bl _, _, n, m, h, _ => by cases n <;> simp [D.kb] at h
  | .lst _ _, _, n, m, h, _ => by cases n <;> simp [D.kb] at h
  | .scr _, _, n, m, h, _ => by cases n <;> simp [D.kb] at h
  | .dct _ _ _, _, n, m, h, _ => by cases n <;> simp [D.kb] at h
  | .set _ _, _, n, m, h, _ => by cases n <;> simp [D.kb] at h
  | .ref _, _, n, m, h, _ => by cases n <;> simp [D.kb] at h
theorem D.kbs_eqv : ∀ (l k : List D) (n m : Nat), D.kbs n l = true → D.kbs m k = true → D.eqvs l k = NestedKey.beqAll (D.nks l) (D.nks k)
  | [], [], _, _, _, _ => rfl
  | [], y :: ys, _, _, _, _ => by simp [D.eqvs, D.nks, NestedKey.beqAll]
  | x :: xs, [], _, _, _, _ => by simp [D.eqvs, D.nks, NestedKey.beqAll]
  | x :: xs, y :: ys, n, m, h, g => by
    simp only [D.kbs, Bool.and_eq_true] at h g
    simp only [D.eqvs, D.nks, NestedKey.beqAll]
    rw [D.kb_eqv x y n m h.1 g.1, D.kbs_eqv xs ys n m h.2 g.2]
end
/-- a tuple that may be a key -/
def tkey : D → Bool
  | .tup l => D.kbs 7 l
  | _ => false
/-- keys that are tuples, all different -/
def tdis : List D → Bool
  | [] => true
  | k :: ks => tkey k && ks.all (fun j => !D.eqv k j) && tdis ks
/-- a key is asked of a dict with the keys ks: it is of their kind -/
def kask (ks : List D) (k : D) : Bool := if tkey k then ks.all tkey else (kof k).isSome && ks.all fun j => (kof j).isSome
/-- a value is put at a key -/
def dput : List D → List D → D → D → List D × List D
  | k' :: ks, v' :: vs, k, v => if D.eqv k' k then (k' :: ks, v :: vs) else ((dput ks vs k v).1.cons k', (dput ks vs k v).2.cons v')
  | _, _, k, v => ([k], [v])
/-- keys that are served, all different -/
def kdis : List D → Bool
  | [] => true
  | k :: ks => (kof k).isSome && ks.all (fun j => !D.eqv k j) && kdis ks
/-- keys and values that stand in turn -/
def evens {α : Type} : List α → List α
  | k :: _ :: l => k :: evens l
  | _ => []
def odds {α : Type} : List α → List α
  | _ :: v :: l => v :: odds l
  | _ => []
/-- the value at a key -/
def dget : List D → List D → D → Option D
  | k' :: ks, v :: vs, k => if D.eqv k' k then some v else dget ks vs k
  | _, _, _ => none
def inD (x c : D) : Option Bool := match c with
  | .dct _ ks _ => if kask ks x then some (ks.any fun z => D.eqv z x) else none
  | .set _ l => if tkey x && l.all tkey then some (l.any fun z => D.eqv z x) else none
  | c => match seqOf c with
    | some l => if D.cmpb x && D.okds 59 l then some (l.any fun z => D.eqv z x) else none
    | none => none
def eqD (x y : D) : Option Bool := match x, y with
  | .str a, .str b => some (a == b)
  | x, y => if D.cmpb x && D.cmpb y then some (D.eqv x y) else none
def cop : Cop → D → D → Option Bool
  | .lt, x, y => ltD x y
  | .le, x, y => icmp (fun i j => decide (i ≤ j)) x y
  | .gt, x, y => icmp (fun i j => decide (j < i)) x y
  | .ge, x, y => icmp (fun i j => decide (j ≤ i)) x y
  | .eq, x, y => eqD x y
  | .ne, x, y => (eqD x y).map not
  | .isin, x, c => inD x c
  | .notin, x, c => (inD x c).map not
def box (m : List Cell) (n : Nat) : Option (List D) := match m[n]? with
  | some (.box l) => some l | _ => none
/-- the first place of an equal one -/
def idxD (x y : D) : Option D := match x with
  | .lst _ l => if D.okds 59 l && D.cmpb y then (l.findIdx? fun z => D.eqv z y).map fun n => .int (n : Nat) else none
  | _ => none
/-- x[::-1] -/
def revD : D → Option D
  | .lst _ l => some (.lst true l.reverse)
  | .tup l => some (.tup l.reverse)
  | _ => none
/-- a[i] -/
def ixo (m : List Cell) : D → D → Option D
  | .tup l, .int i => atD l i
  | .lst _ l, .int i => atD l i
  | .str x, .int i => if x.length ≤ sizeLine then (atD x.cps.toList i).map fun c => .str ⟨#[c]⟩ else none
  | .dct _ ks vs, k => if (kof k).isSome || tkey k then dget ks vs k else none
  | .ref n, .int i => (box m n).bind fun l => atD l i
  | _, _ => none
def sxn (n d : Nat) : Option Int → Nat
  | none => d
  | some i => if i < 0 then (i + n).toNat else min i.toNat n
def cut {α : Type} (l : List α) (lo hi : Option Int) : List α := (l.drop (sxn l.length 0 lo)).take (sxn l.length l.length hi - sxn l.length 0 lo)
/-- a slice's part: left out, or a whole number -/
def part : C → D → Option (Option Int)
  | .abs, _ => some none
  | _, .int i => some (some i)
  | _, _ => none
def slo (a : D) (l h : Option Int) : Option D := match a with
  | .tup x => some (.tup (cut x l h))
  | .lst _ x => some (.lst true (cut x l h))
  | .scr x => some (.lst true ((cut x l h).map .int))
  | .str x => if x.length ≤ sizeLine then some (.str ⟨(cut x.cps.toList l h).toArray⟩) else none
  | _ => none
def isT : Ty → D → Bool
  | .int, .int _ => true | .int, .bl _ => true | .bool, .bl _ => true | .str, .str _ => true | .tuple, .tup _ => true
  | .list, .lst _ _ => true | .list, .scr _ => true | .dict, .dct _ _ _ => true | .set, .set _ _ => true | _, _ => false
/-- isinstance is served -/
def tyOk : D → Bool
  | .ref _ => false | .set _ _ => false | .dct _ _ _ => false | _ => true
def toInts : List D → Option (List Int)
  | [] => some []
  | .int i :: l => (toInts l).map (i :: ·)
  | _ => none
def toBls : List D → Option (List Bool)
  | [] => some []
  | .bl i :: l => (toBls l).map (i :: ·)
  | _ => none
def alist : List D → Bool
  | [] => true
  | x :: xs => D.ali x x && xs.all (fun y => D.ali x y && D.ali y x) && alist xs
/-- all are tuples with an item, or none is a tuple or None -/
def sortable (l : List D) : Bool := (l.all fun | .tup (_ :: _) => true | _ => false) || (l.all fun | .tup _ => false | .non => false | _ => true)
def insD (x : D) : List D → List D
  | [] => [x]
  | y :: ys => if D.lt y x then y :: insD x ys else x :: y :: ys
/-- sorted, equals in their order -/
def sortD : List D → List D
  | [] => []
  | x :: xs => insD x (sortD xs)
def minI : Int → List Int → Int
  | m, [] => m
  | m, x :: xs => minI (if x < m then x else m) xs
def maxI : Int → List Int → Int
  | m, [] => m
  | m, x :: xs => maxI (if m < x then x else m) xs
def bLen : List D → Option D
  | [.tup l] => some (.int l.length)
  | [.lst _ l] => some (.int l.length)
  | [.str x] => if x.length ≤ sizeLine then some (.int x.length) else none
  | [.set _ l] => if l.length ≤ 1000 then some (.int l.length) else none
  | [.dct _ ks _] => if ks.length ≤ 1000 then some (.int ks.length) else none
  | _ => none
def bInt : List D → Option D
  | [.int i] => some (.int i)
  | [.bl b] => some (.int (if b then 1 else 0))
  | _ => none
def bAll : List D → Option D
  | [.lst _ l] => (toBls l).map fun bs => .bl (bs.all id)
  | _ => none
def bAny : List D → Option D
  | [.lst _ l] => (toBls l).map fun bs => .bl (bs.any id)
  | _ => none
def bSum : List D → Option D
  | [.lst _ l] => (toInts l).map fun ns => .int ns.sum
  | _ => none
/-! no list within -/
mutual
def D.flat : D → Bool
  | .tup l => D.flats l | .non => true | .bl _ => true | .int _ => true | .str _ => true
  | .lst _ _ => false | .scr _ => false | .dct _ _ _ => false | .set _ _ => false | .ref _ => false
def D.flats : List D → Bool
  | [] => true
  | x :: xs => D.flat x && D.flats xs
end
def minDD : D → List D → D
  | m, [] => m
  | m, x :: xs => minDD (if D.lt x m then x else m) xs
def isNon : D → Bool
  | .non => true | _ => false
/-- the least of data that are alike -/
def minData : List D → Option D
  | [] => none
  | x :: xs => if alist (x :: xs) && D.okds 50 (x :: xs) && D.flats (x :: xs) && !isNon x then some (minDD x xs) else none
def bMin : List D → Option D
  | [.lst _ l] => match toInts l with
    | some [] => none
    | some (n :: ns) => some (.int (minI n ns))
    | none => minData l
  | _ => none
def bMax : List D → Option D
  | [.lst _ l] => (toInts l).bind fun | [] => none | n :: ns => some (.int (maxI n ns))
  | _ => none
def bMin2 : List D → Option D
  | [.int i, .int j] => some (.int (if j < i then j else i))
  | _ => none
def bMax2 : List D → Option D
  | [.int i, .int j] => some (.int (if i < j then j else i))
  | _ => none
def bAbs : List D → Option D
  | [.int i] => some (.int (if i < 0 then -i else i))
  | _ => none
def bSorted : List D → Option D
  | [.lst _ l] => if alist l && sortable l && D.okds 59 l && decide (l.length ≤ sizeLine) then some (.lst true (sortD l)) else none
  | [.set _ l] => if alist l && sortable l && D.okds 59 l && l.all tkey then some (.lst true (sortD l)) else none
  | _ => none
def dedupI (ns : List Int) : List Int := ns.foldl (fun σ k => if σ.any (· == k) then σ else σ ++ [k]) []
/-- each once, as first met -/
def dedupD (l : List D) : List D := l.foldl (fun σ k => if σ.any (fun z => D.eqv z k) then σ else σ ++ [k]) []
def bSet : List D → Option D
  | [.tup l] => if l.all tkey && decide (l.length < 64) then some (.set true (dedupD l)) else none
  | [.lst _ l] => if l.all tkey then (if l.length < 64 then some (.set true (dedupD l)) else none) else (toInts l).bind fun ns => if ns.length < 1000 then some (.set true ((dedupI ns).map .int)) else none
  | _ => none
def bTuple : List D → Option D
  | [.tup l] => some (.tup l)
  | [.lst _ l] => some (.tup l)
  | _ => none
def bList : List D → Option D
  | [.tup l] => some (.lst true l)
  | [.lst _ l] => some (.lst true l)
  | [.scr l] => some (.lst true (l.map .int))
  | _ => none
def bRepr : List D → Option D
  | [x] => if D.cmpb x && x.pd.showable && decide (x.pd.shown.length + 64 ≤ sizeLine) then some (.str x.pd.shown) else none
  | _ => none
def bapp : Bi → List D → Option D
  | .len, l => bLen l | .int, l => bInt l | .all, l => bAll l | .any, l => bAny l | .sum, l => bSum l | .min, l => bMin l | .max, l => bMax l
  | .min2, l => bMin2 l | .max2, l => bMax2 l | .abs, l => bAbs l | .sorted, l => bSorted l | .tuple, l => bTuple l | .list, l => bList l | .set, l => bSet l | .repr, l => bRepr l
  | _, _ => none
/-- what a loop walks, item by item -/
def itm : Ik → List D → Option (List D)
  | .seq, [.tup l] => some (D.fzs l)
  | .seq, [.lst _ l] => some (D.fzs l)
  | .rng, [.int n] => if n.natAbs < 4611686018427387904 then some ((List.range n.toNat).map fun k => .int (k : Nat)) else none
  | .rng, [.int a, .int b, .int c] => if Builtin.Range.small a b c = true ∧ c ≠ 0 ∧ c.natAbs < 1073741824 ∧ 0 ≤ Builtin.Range.rangeSize a b c then some ((List.range (Builtin.Range.rangeSize a b c).toNat).map fun k => .int (a + (k : Nat) * c)) else none
  | .rng, [.int a, .int b] => if a.natAbs < 4611686018427387904 ∧ b.natAbs < 4611686018427387904 then some ((List.range (b - a).toNat).map fun k => .int (a + (k : Nat))) else none
  | _, _ => none
mutual
def setTg : Tg → D → List (Option D) → Option (List (Option D))
  | .name i, d, r => some (r.set i (some d))
  | .tup ts, .tup l, r => setTgs ts l r
  | .tup ts, .lst _ l, r => setTgs ts l r
  | .tup _, _, _ => none
def setTgs : List Tg → List D → List (Option D) → Option (List (Option D))
  | [], [], r => some r
  | t :: ts, x :: xs, r => (setTg t x r).bind fun r' => setTgs ts xs r'
  | _, _, _ => none
end
def wipeD (r : List (Option D)) : List Nat → List (Option D)
  | [] => r
  | v :: vs => (wipeD r vs).set v none
/-- the slots vs as they stand in r0, all others as in r -/
def backD (r0 r : List (Option D)) : List Nat → List (Option D)
  | [] => r
  | v :: vs => (backD r0 r vs).set v (gt r0 v)

/-- a comprehension's loop: each item is stored, tested, its element reckoned -/
def lcL (tg : D → List (Option D) → Option (List (Option D))) (ts : S → Out Bool) (e : S → Out D) (vs : List Nat) : List D → List D → S → Out (List D)
  | [], acc, s => .ok acc s
  | x :: xs, acc, s => (Out.of (tg x (wipeD s.r vs)) s).bind fun r s1 => (ts { s1 with r := r }).bind fun b s2 =>
    if b then (e s2).bind fun d s3 => if acc.length < sizeLine then lcL tg ts e vs xs (acc ++ [d]) s3 else .bad
    else lcL tg ts e vs xs acc s2
def forL (f : D → S → Out Fl) : List D → S → Out Fl
  | [], s => .ok .next s
  | x :: xs, s => (f x s).bind fun fl s' => match fl with
    | .next => forL f xs s' | .cont => forL f xs s' | .brk => .ok .next s' | .ret d => .ok (.ret d) s'
def whlL (t : S → Out Bool) (f : S → Out Fl) : Nat → S → Out Fl
  | 0, _ => .bad
  | n + 1, s => (t s).bind fun b s1 => if b then (f s1).bind fun fl s' => match fl with
      | .next => whlL t f n s' | .cont => whlL t f n s' | .brk => .ok .next s' | .ret d => .ok (.ret d) s'
    else .ok .next s1
def noExc {α : Type} : Out α → Out α
  | .exc _ _ => .bad
  | o => o
def tobl : D → Option Bool
  | .bl b => some b | _ => none

/-- what is called, what stands at the top -/
structure Env where
  cl : Nat → List D → List Cell → Out D
  gl : Nat → Option D
  w : Nat

/-- a list whose items are frozen, or a frozen value -/
def kidz : D → Bool
  | .lst _ l => D.iszs l
  | .dct _ _ l => D.iszs l
  | .set _ _ => true
  | x => x.isz
/-- behind a call: the slots as they were, the store as the callee leaves it -/
def cback (o : Out D) (s : S) : Out D := match o with
  | .ok d s' => .ok d { s with m := s'.m } | .exc x s' => .exc x { s with m := s'.m } | .bad => .bad
/-- sorting by insertion -/
def insB {α : Type} (le : α → α → Bool) (x : α) : List α → List α
  | [] => [x]
  | y :: ys => if le x y then x :: y :: ys else y :: insB le x ys
def sortB {α : Type} (le : α → α → Bool) : List α → List α
  | [] => []
  | x :: xs => insB le x (sortB le xs)
/-- the keys of a row's items -/
def keysL (E : Env) (f : Nat) : List D → List Int → S → Out (List Int)
  | [], acc, s => .ok acc s
  | x :: l, acc, s => (noExc (cback (E.cl f (D.fzs [x]) s.m) s)).bind fun d s => match d with
    | .int i => keysL E f l (acc ++ [i]) s
    | _ => .bad
def sortK (ks : List Int) (l : List D) : List D := (sortB (fun p q : Int × D => decide (p.1 ≤ q.1)) (ks.zip l)).map Prod.snd
/-- sorted(x, key=f) -/
def srtD (E : Env) (f : Nat) (x : D) (s : S) : Out D := match x with
  | .lst _ l => if l.length ≤ 1000 ∧ D.flats l = true then (keysL E f l [] s).bind fun ks s => .ok (.lst true (sortK ks l)) s else .bad
  | _ => .bad
@[simp] theorem cback_ok (d : D) (s s' : S) : cback (.ok d s') s = .ok d { s with m := s'.m } := rfl
def isL : Option D → Bool
  | some (.lst _ _) => true | _ => false
mutual
def ev (E : Env) : C → S → Out D
  | .lit d, s => .ok d s
  | .glob n, s => Out.of (E.gl n) s
  | .var i, s => Out.of (gt s.r i) s
  | .bvar i, s => (Out.of (gt s.r i) s).bind fun d s => .ok d.fz { s with r := s.r.set i (some d.fz) }
  | .mvar i, s => (Out.of (gt s.r i) s).bind fun d s => .ok d { s with r := s.r.set i none }
  | .tup es, s => (evs E es s).bind fun ds s => if ds.length ≤ sizeLine then .ok (.tup ds) s else .bad
  | .lst es, s => (evs E es s).bind fun ds s => if ds.length ≤ sizeLine then .ok (.lst true ds) s else .bad
  | .box es, s => (evs E es s).bind fun ds s => if ds.length ≤ sizeLine then .ok (.ref s.m.length) { s with m := s.m ++ [.box (D.fzs ds)] } else .bad
  | .dct es, s => (evs E es s).bind fun ds s => if (evens ds).length ≤ 15 ∧ kdis (evens ds) = true then .ok (.dct true (evens ds) (odds ds)) s else .bad
  | .dctT es, s => (evs E es s).bind fun ds s => if evens ds ≠ [] ∧ (evens ds).length ≤ 15 ∧ tdis (evens ds) = true then .ok (.dct true (evens ds) (odds ds)) s else .bad
  | .bin op a b, s => (ev E a s).bind fun x s => (ev E b s).bind fun y s => Out.of (bop op x y) s
  | .neg a, s => (ev E a s).bind fun x s => match x with
    | .int i => .ok (.int (-i)) s | _ => .bad
  | .nt a, s => (ev E a s).bind fun x s => (Out.of (tobl x) s).bind fun b s => .ok (.bl (!b)) s
  | .and a b, s => (ev E a s).bind fun x s => (Out.of (tobl x) s).bind fun k s => if k then (ev E b s).bind fun y s => (Out.of (tobl y) s).bind fun j s => .ok (.bl j) s else .ok (.bl false) s
  | .or a b, s => (ev E a s).bind fun x s => (Out.of (tobl x) s).bind fun k s => if k then .ok (.bl true) s else (ev E b s).bind fun y s => (Out.of (tobl y) s).bind fun j s => .ok (.bl j) s
  | .ite c a b, s => (ev E c s).bind fun x s => (Out.of (tobl x) s).bind fun k s => if k then ev E a s else ev E b s
  | .cmp op a b, s => (ev E a s).bind fun x s => (ev E b s).bind fun y s => (Out.of (cop op x y) s).bind fun k s => .ok (.bl k) s
  | .chain o1 o2 a b c, s => (ev E a s).bind fun x s => (ev E b s).bind fun y s => (Out.of (cop o1 x y) s).bind fun k s =>
      if k then (ev E c s).bind fun z s => (Out.of (cop o2 y z) s).bind fun j s => .ok (.bl j) s else .ok (.bl false) s
  | .isN a, s => (ev E a s).bind fun x s => .ok (.bl (match x with | .non => true | _ => false)) s
  | .notN a, s => (ev E a s).bind fun x s => .ok (.bl (match x with | .non => false | _ => true)) s
  | .ix a i, s => (ev E a s).bind fun x s => (ev E i s).bind fun y s => Out.of (ixo s.m x y) s
  | .pix n i, s => (Out.of (gt s.r n) s).bind fun _ s => (ev E i s).bind fun y s => (Out.of (gt s.r n) s).bind fun x s => (Out.of (ixo s.m x y) s).bind fun d s => if d.isz then .ok d s else .bad
  | .slc a lo hi, s => (ev E a s).bind fun x s => (ev E lo s).bind fun y s => (Out.of (part lo y) s).bind fun l s => (ev E hi s).bind fun z s => (Out.of (part hi z) s).bind fun h s => Out.of (slo x l h) s
  | .abs, s => .ok .non s
  | .rev a, s => (ev E a s).bind fun x s => Out.of (revD x) s
  | .srt f a, s => (ev E a s).bind fun x s => srtD E f x s
  | .call f es, s => (evs E es s).bind fun ds s => cback (E.cl f (D.fzs ds) s.m) s
  | .bi b es, s => (evs E es s).bind fun ds s => Out.of (bapp b ds) s
  | .bib b n, s => (Out.of (gt s.r n) s).bind fun x s => if kidz x then Out.of (bapp b [x.fz]) s else .bad
  | .isi a t, s => (ev E a s).bind fun x s => if tyOk x then .ok (.bl (isT t x)) s else .bad
  | .lc e tg k its cs vs, s => (evs E its s).bind fun ds s => (Out.of (itm k ds) s).bind fun l s =>
      (lcL (setTg tg) (fun s => noExc (evt E cs s)) (fun s => noExc (ev E e s)) vs l [] s).bind fun acc s' => .ok (.lst true acc) { s' with r := backD s.r s'.r vs }
  | .idx a b, s => (ev E a s).bind fun x s => if isL (some x) then (ev E b s).bind fun y s => Out.of (idxD x y) s else .bad
  | .pop _, _ => .bad
def evs (E : Env) : List C → S → Out (List D)
  | [], s => .ok [] s
  | e :: es, s => (ev E e s).bind fun d s => (evs E es s).bind fun ds s => .ok (d :: ds) s
/-- a comprehension's test, at most one -/
def evt (E : Env) : List C → S → Out Bool
  | [], s => .ok true s
  | c :: _, s => (ev E c s).bind fun x s => Out.of (tobl x) s
end
/-- a class is one of cl, told by its number; a field that is a scalar -/
def hbS : HB → Nat → Bool
  | .isi cl, c => cl.contains c
  | .and a b, c => hbS a c && hbS b c
  | .nt a, c => !hbS a c
def scal : D → Bool
  | .int _ => true | .str _ => true | .bl _ => true | .non => true | _ => false
def haS : HA → Exn → Option D
  | .lit d, _ => if scal d then some d else none
  | .fld f, x => (x.fs.lookup f).bind fun d => if scal d then some d else none
def hasS : List HA → Exn → Option (List D)
  | [], _ => some []
  | e :: es, x => (haS e x).bind fun d => (hasS es x).map fun ds => d :: ds
def heS : HE → Exn → Option D
  | .at a, x => haS a x
  | .tup es, x => (hasS es x).bind fun l => if l.length ≤ 1000 then some (.tup l) else none
  | .ite c a b, x => if hbS c x.c then heS a x else heS b x
def hsS : HS → Exn → Option D
  | .ret e, x => heS e x
  | .two _ c a b, x => if hbS c x.c then heS a x else heS b x
def hdS (x : Exn) (s : S) (h : HS) : Out Fl := (Out.of (hsS h x) s).bind fun d s => .ok (.ret d) s
def evb (E : Env) (c : C) (s : S) : Out Bool := (ev E c s).bind fun x s => Out.of (tobl x) s
/-- x[i] = d -/
def stix (n : Nat) (i d : D) (s : S) : Option S := (gt s.r n).bind fun x => match x, i with
  | .lst true l, .int k => (ixn l.length k).map fun j => { s with r := s.r.set n (some (.lst true (l.set j d))) }
  | .ref a, .int k => (box s.m a).bind fun l => (ixn l.length k).map fun j => { s with m := s.m.set a (.box (l.set j d.fz)) }
  | _, _ => none
/-- what is raised: its class, its fields -/
def raiS (c : Nat) (fs : List Str) (ds : List D) (s : S) : Out Fl := if fs = [] then .exc ⟨c, []⟩ s else if fs.length = ds.length ∧ ds.all scal = true then .exc ⟨c, fs.zip ds⟩ s else .bad
def tryS (o : Out Fl) (fl : List (List Str)) (cl : List Nat) (h : HS) : Out Fl := match o with
  | .exc x s => if fl[x.c]? = some (x.fs.map Prod.fst) then (if cl.contains x.c then hdS x s h else .exc x s) else .bad
  | o => o
mutual
def exec (E : Env) : K → S → Out Fl
  | .rai c fs es, s => (evs E es s).bind fun ds s => if ds.length ≤ sizeLine then raiS c fs ds s else .bad
  | .tri b fl cl i h, s => tryS (execs E b s) fl cl h
  | .skip, s => .ok .next s
  | .ex e, s => (ev E e s).bind fun _ s => .ok .next s
  | .set i e, s => (ev E e s).bind fun d s => .ok .next { s with r := s.r.set i (some d.fz) }
  | .bset i e, s => (ev E e s).bind fun d s => .ok .next { s with r := s.r.set i (some d) }
  | .unp tg e, s => (ev E e s).bind fun d s => (Out.of (setTg tg d.fz s.r) s).bind fun r s => .ok .next { s with r := r }
  | .par i j a b, s => (ev E a s).bind fun x s => (ev E b s).bind fun y s => .ok .next { s with r := (s.r.set i (some x.fz)).set j (some y.fz) }
  | .app n e, s => if isL (gt s.r n) then (ev E e s).bind fun d s => match gt s.r n with
      | some (.lst true l) => if l.length < sizeLine then .ok .next { s with r := s.r.set n (some (.lst true (l ++ [d]))) } else .bad
      | _ => .bad
    else .bad
  | .ext n e, s => if isL (gt s.r n) then (ev E e s).bind fun d s => match gt s.r n, d with
      | some (.lst true l), .lst _ m => if l.length + m.length ≤ sizeLine then .ok .next { s with r := s.r.set n (some (.lst true (l ++ m))) } else .bad
      | _, _ => .bad
    else .bad
  | .seti n i e, s => (ev E e s).bind fun d s => (Out.of (gt s.r n) s).bind fun _ s => (ev E i s).bind fun k s => (Out.of (stix n k d s) s).bind fun s' _ => .ok .next s'
  | .ite c a b, s => (evb E c s).bind fun k s => if k then execs E a s else execs E b s
  | .forr tg k its b, s => (evs E its s).bind fun ds s => (Out.of (itm k ds) s).bind fun l s =>
      forL (fun x s => (Out.of (setTg tg x s.r) s).bind fun r s => execs E b { s with r := r }) l s
  | .whl c b, s => whlL (fun s => evb E c s) (fun s => execs E b s) E.w s
  | .ret e, s => (ev E e s).bind fun d s => .ok (.ret d) s
  | .brk, s => .ok .brk s
  | .cont, s => .ok .cont s
def execs (E : Env) : List K → S → Out Fl
  | [], s => .ok .next s
  | k :: ks, s => (exec E k s).bind fun fl s => match fl with
    | .next => execs E ks s | fl => .ok fl s
end
/-- a def: how many parameters, how many names, its body -/
structure Fn where
  ps : Nat
  n : Nat
  b : List K
def call (F : Nat → Option Fn) (gl : Nat → Option D) (w : Nat) : Nat → Nat → List D → List Cell → Out D
  | 0, _, _, _ => .bad
  | k + 1, f, ds, m => match F f with
    | none => .bad
    | some fn => if ds.length = fn.ps then
        (execs ⟨call F gl w k, gl, w⟩ fn.b ⟨ds.map some ++ List.replicate (fn.n - ds.length) none, m⟩).bind fun fl s => match fl with
          | .ret d => .ok d s | .next => .ok .non s | _ => .bad
      else .bad
end PV

/-! PvC: ghosts: values with the addresses of their objects; what is kept of the heap. -/
namespace PV
open PySem L2

inductive T where
  | non | bl (b : Bool) | int (i : Int) | str (x : Str)
  | tup (a : Addr) (l : List T) | lst (o : Bool) (a : Addr) (l : List T) | scr (a : Addr) (l : List Int)
  | dct (o : Bool) (a : Addr) (ks : List T) (vs : List T) | set (o : Bool) (a : Addr) (l : List D) | ref (n : Nat) (a : Addr)
instance : Inhabited T := ⟨.non⟩

mutual
def T.er : T → D
  | .non => .non | .bl b => .bl b | .int i => .int i | .str x => .str x
  | .tup _ l => .tup (T.ers l) | .lst o _ l => .lst o (T.ers l) | .scr _ l => .scr l
  | .dct o _ ks l => .dct o (T.ers ks) (T.ers l) | .set o _ l => .set o l | .ref n _ => .ref n
def T.ers : List T → List D
  | [] => [] | x :: xs => T.er x :: T.ers xs
end
theorem T.ers_map : ∀ l : List T, T.ers l = l.map T.er
  | [] => rfl
  | x :: xs => by rw [T.ers, T.ers_map xs, List.map_cons]
def T.val : T → V
  | .non => .non | .bl b => .bl b | .int i => .int i | .str x => .str x
  | .tup a _ => .ref a | .lst _ a _ => .ref a | .scr a _ => .ref a | .dct _ a _ _ => .ref a | .set _ a _ => .ref a | .ref _ a => .ref a
def one (a b : Addr) : Nat := if a = b then 1 else 0
/-! owned places, frozen places: how often each address stands there -/
mutual
def T.ex : T → Addr → Nat
  | .tup _ l, b => T.exs l b | .lst o a l, b => (if o then one a b else 0) + T.exs l b
  | .dct o a _ l, b => (if o then one a b else 0) + T.exs l b | .set o a _, b => (if o then one a b else 0)
  | .non, _ => 0 | .bl _, _ => 0 | .int _, _ => 0 | .str _, _ => 0 | .scr _ _, _ => 0 | .ref _ _, _ => 0
def T.exs : List T → Addr → Nat
  | [], _ => 0 | x :: xs, b => T.ex x b + T.exs xs b
end
mutual
def T.sh : T → Addr → Nat
  | .tup _ l, b => T.shs l b | .lst o a l, b => (if o then 0 else one a b) + T.shs l b
  | .dct o a _ l, b => (if o then 0 else one a b) + T.shs l b | .set o a _, b => (if o then 0 else one a b)
  | .non, _ => 0 | .bl _, _ => 0 | .int _, _ => 0 | .str _, _ => 0 | .scr _ _, _ => 0 | .ref _ _, _ => 0
def T.shs : List T → Addr → Nat
  | [], _ => 0 | x :: xs, b => T.sh x b + T.shs xs b
end
mutual
def T.fz : T → T
  | .tup a l => .tup a (T.fzs l) | .lst _ a l => .lst false a (T.fzs l)
  | .dct _ a ks l => .dct false a ks (T.fzs l) | .set _ a l => .set false a l
  | .non => .non | .bl b => .bl b | .int i => .int i | .str x => .str x | .scr a l => .scr a l | .ref n a => .ref n a
def T.fzs : List T → List T
  | [] => [] | x :: xs => T.fz x :: T.fzs xs
end
/-- the written part, the program, the world -/
structure KW where
  f : PySem.W.Frag
  p : Program
  w : World
/-- a list that is locked or written -/
def ScL (K : PySem.W.Frag) (H : Hp) (a : Addr) (xs : List V) : Prop :=
  (∃ o, H a = some (.frz o (.lst xs))) ∨
    ∃ (o : Obj) (its : Array Value) (n : Nat), K.lookup a = some o ∧ o.cls = .type "list" ∧ o.dict = none ∧ o.data = .seq its n ∧ its.size ≤ sizeLine ∧ Vals xs its.toList
theorem ScL.sq {K : PySem.W.Frag} {H : Hp} {a : Addr} {xs : List V} (h : ScL K H a xs) : SqL K H a xs := by
  rcases h with h | h
  · exact .inl (.inr h)
  · exact .inr h
def T.adr : T → Addr
  | .tup a _ => a | .lst _ a _ => a | .scr a _ => a | .dct _ a _ _ => a | .set _ a _ => a | .ref _ a => a
  | .non => 0 | .bl _ => 0 | .int _ => 0 | .str _ => 0
/-- a raw dict's entries: key, where it stands, value -/
def zip3 {α : Type} : List NestedKey → List Addr → List α → List (NestedKey × Addr × α)
  | k :: ks, a :: as, v :: vs => (k, a, v) :: zip3 ks as vs
  | _, _, _ => []
/-- the dict at a with the keys ks, tuples that stand at ads, and the values vs -/
def RawO (p : Program) (w : World) (a : Addr) (ks : List NestedKey) (ads : List Addr) (vs : List V) : HO := .ext fun h =>
  vs.length ≤ sizeLine ∧ (a == sysModules) = false ∧ ∃ (us : List Value) (o : Obj) (es : Array DictEntry) (ep : Nat), Vals vs us ∧ h.get? a = some o ∧ o.ExactDict ∧ o.data = .dict es ep ∧ es.toList = (zip3 ks ads us).map (entryOfKey (nestedKind p w))
/-- the dict at a has the keys ks, the values vs -/
def DkO (K : KW) (H : Hp) (a : Addr) (ks : List T) (vs : List V) : Prop :=
  (∃ kl : List Key, T.ers ks = kl.map kD ∧ kl.length = vs.length ∧ H a = some (.dK (kl.zip vs))) ∨
  (ks ≠ [] ∧ ks.length = vs.length ∧ (T.ers ks).all tkey = true ∧ ((T.ers ks).map D.nk).Nodup ∧ H a = some (RawO K.p K.w a ((T.ers ks).map D.nk) (ks.map T.adr) vs))
/-! trees that stand and have no place that may change -/
mutual
def T.okF (f : PySem.W.Frag) (H : Hp) : T → Prop
  | .tup a l => SqT f H a (l.map T.val) ∧ T.okFs f H l
  | .non => True | .bl _ => True | .int _ => True | .str _ => True
  | .lst _ _ _ => False | .scr _ _ => False | .dct _ _ _ _ => False | .set _ _ _ => False | .ref _ _ => False
def T.okFs (f : PySem.W.Frag) (H : Hp) : List T → Prop
  | [] => True | x :: xs => T.okF f H x ∧ T.okFs f H xs
end
/-- the set at a has the members l -/
def StO (K : KW) (H : Hp) (a : Addr) (l : List D) : Prop :=
  (∃ il : List Int, il ≠ [] ∧ l = il.map D.int ∧ ∃ S, H a = some (.set S il.length) ∧ ∀ i, S i = true ↔ i ∈ il) ∨
  ∃ ts : List T, (T.ers ts).Perm l ∧ T.okFs K.f H ts ∧ l.all tkey = true ∧ H a = some (SetNO K.w a (ts.map fun t => (t.adr, t.er.nk)))
mutual
def T.ok (K : KW) (H : Hp) (ad : List Addr) : T → Prop
  | .tup a l => SqT K.f H a (l.map T.val) ∧ T.oks K H ad l
  | .lst _ a l => H a = some (.lst (l.map T.val)) ∧ T.oks K H ad l
  | .scr a l => ScL K.f H a (l.map V.int)
  | .dct _ a ks vs => DkO K H a ks (vs.map T.val) ∧ T.oks K H ad vs ∧ T.oks K H ad ks ∧ D.flats (T.ers ks) = true | .set _ a l => StO K H a l
  | .ref n a => ad[n]? = some a
  | .non => True | .bl _ => True | .int _ => True | .str _ => True
def T.oks (K : KW) (H : Hp) (ad : List Addr) : List T → Prop
  | [] => True | x :: xs => T.ok K H ad x ∧ T.oks K H ad xs
end

/-! what is flat has no place that may change -/
mutual
theorem T.flat_z : ∀ (t : T) (a : Addr), t.er.flat = true → t.ex a = 0 ∧ t.sh a = 0
  | .tup _ l, a, h => by simp only [T.er, D.flat] at h; simp only [T.ex, T.sh]; exact T.flats_z l a h
  | .lst _ _ _, _, h => by simp [T.er, D.flat] at h
  | .scr _ _, _, h => by simp [T.er, D.flat] at h
  | .dct _ _ _ _, _, h => by simp [T.er, D.flat] at h
  | .set _ _ _, _, h => by simp [T.er, D.flat] at h
  | .ref _ _, _, h => by simp [T.er, D.flat] at h
  | .non, _, _ => ⟨rfl, rfl⟩ | .bl _, _, _ => ⟨rfl, rfl⟩ | .int _, _, _ => ⟨rfl, rfl⟩ | .str _, _, _ => ⟨rfl, rfl⟩
theorem T.flats_z : ∀ (l : List T) (a : Addr), D.flats (T.ers l) = true → T.exs l a = 0 ∧ T.shs l a = 0
  | [], _, _ => ⟨rfl, rfl⟩
  | x :: xs, a, h => by
    simp only [T.ers, D.flats, Bool.and_eq_true] at h
    have h1 := T.flat_z x a h.1; have h2 := T.flats_z xs a h.2
    simp only [T.exs, T.shs]; omega
end
/-- may change -/
def isMut : HO → Bool
  | .tup _ => false | .frz _ _ => false | .own _ => false | .rng _ _ => false | .tbl _ => false | .met _ _ => false | .xd _ => false | _ => true

mutual
theorem T.okF_keep {f : PySem.W.Frag} {H H' : Hp} : ∀ (t : T), T.okF f H t → (∀ a o, H a = some o → isMut o = false → H' a = some o) → T.okF f H' t
  | .tup a l, h, k => by
    refine ⟨?_, T.okFs_keep l h.2 k⟩
    rcases h.1 with (e | ⟨o, e⟩) | e
    · exact .inl (.inl (k a _ e rfl))
    · exact .inl (.inr ⟨o, k a _ e rfl⟩)
    · exact .inr e
  | .non, _, _ => trivial | .bl _, _, _ => trivial | .int _, _, _ => trivial | .str _, _, _ => trivial
  | .lst _ _ _, h, _ => h.elim | .scr _ _, h, _ => h.elim | .dct _ _ _ _, h, _ => h.elim | .set _ _ _, h, _ => h.elim | .ref _ _, h, _ => h.elim
theorem T.okFs_keep {f : PySem.W.Frag} {H H' : Hp} : ∀ (l : List T), T.okFs f H l → (∀ a o, H a = some o → isMut o = false → H' a = some o) → T.okFs f H' l
  | [], _, _ => trivial
  | x :: xs, h, k => ⟨T.okF_keep x h.1 k, T.okFs_keep xs h.2 k⟩
end
section
variable {K : KW} {H H' : Hp} {ad ad' : List Addr}
mutual
theorem T.ok_keep : ∀ (t : T), T.ok K H ad t → (∀ a o, H a = some o → (isMut o = true → 0 < T.ex t a + T.sh t a) → H' a = some o) → (∀ (n : Nat) (a : Addr), ad[n]? = some a → ad'[n]? = some a) → T.ok K H' ad' t
  | .tup a l, h, k, g => by
    refine ⟨?_, T.oks_keep l h.2 k g⟩
    rcases h.1 with (e | ⟨o, e⟩) | e
    · exact .inl (.inl (k a _ e fun z => by cases z))
    · exact .inl (.inr ⟨o, k a _ e fun z => by cases z⟩)
    · exact .inr e
  | .lst o a l, h, k, g => by
    refine ⟨k a _ h.1 fun _ => ?_, T.oks_keep l h.2 (fun b ob e m => k b ob e fun z => ?_) g⟩
    · cases o <;> simp [T.ex, T.sh, one] <;> omega
    · have := m z
      simp only [T.ex, T.sh] at *
      omega
  | .scr a l, h, k, g => by
    rcases h with ⟨o, e⟩ | e
    · exact .inl ⟨o, k a _ e fun z => by cases z⟩
    · exact .inr e
  | .dct o a ks l, h, k, g => by
    obtain ⟨h1, h2, h3, h4⟩ := h
    refine ⟨?_, T.oks_keep l h2 (fun b ob e m => k b ob e fun z => ?_) g, T.oks_keep ks h3 (fun b ob e m => k b ob e fun z => ?_) g, h4⟩
    · rcases h1 with ⟨kl, e1, e2, e3⟩ | ⟨e0, e1, e2, e3, e4⟩
      · exact .inl ⟨kl, e1, e2, k a _ e3 fun _ => by cases o <;> simp [T.ex, T.sh, one] <;> omega⟩
      · exact .inr ⟨e0, e1, e2, e3, k a _ e4 fun _ => by cases o <;> simp [T.ex, T.sh, one] <;> omega⟩
    · have := m z
      simp only [T.ex, T.sh] at *
      omega
    · have := m z
      have := T.flats_z ks b h4
      omega
  | .set o a l, h, k, g => by
    rcases h with ⟨il, e0, e1, S, e2, e3⟩ | ⟨ts, e1, e2, e3, e4⟩
    · exact .inl ⟨il, e0, e1, S, k a _ e2 fun _ => by cases o <;> simp [T.ex, T.sh, one], e3⟩
    · exact .inr ⟨ts, e1, T.okFs_keep ts e2 fun b ob e z => k b ob e fun z' => (by rw [z] at z'; cases z'), e3, k a _ e4 fun _ => (by cases o <;> simp [T.ex, T.sh, one])⟩
  | .ref n a, h, _, g => g n a h
  | .non, _, _, _ => trivial | .bl _, _, _, _ => trivial | .int _, _, _, _ => trivial | .str _, _, _, _ => trivial
theorem T.oks_keep : ∀ (l : List T), T.oks K H ad l → (∀ a o, H a = some o → (isMut o = true → 0 < T.exs l a + T.shs l a) → H' a = some o) → (∀ (n : Nat) (a : Addr), ad[n]? = some a → ad'[n]? = some a) → T.oks K H' ad' l
  | [], _, _, _ => trivial
  | x :: xs, h, k, g => by
    refine ⟨T.ok_keep x h.1 (fun b ob e m => k b ob e fun z => ?_) g, T.oks_keep xs h.2 (fun b ob e m => k b ob e fun z => ?_) g⟩
    · have := m z
      simp only [T.exs, T.shs]
      omega
    · have := m z
      simp only [T.exs, T.shs]
      omega
end
end

/-! sums over lists -/
@[simp] theorem T.exs_append (l m : List T) (a : Addr) : T.exs (l ++ m) a = T.exs l a + T.exs m a := by
  induction l with
  | nil => simp [T.exs]
  | cons x xs ih => simp only [List.cons_append, T.exs, ih]; omega
@[simp] theorem T.shs_append (l m : List T) (a : Addr) : T.shs (l ++ m) a = T.shs l a + T.shs m a := by
  induction l with
  | nil => simp [T.shs]
  | cons x xs ih => simp only [List.cons_append, T.shs, ih]; omega
theorem T.oks_append {K : KW} {H : Hp} {ad : List Addr} {l m : List T} : T.oks K H ad (l ++ m) ↔ T.oks K H ad l ∧ T.oks K H ad m := by
  induction l with
  | nil => simp [T.oks]
  | cons x xs ih => simp only [List.cons_append, T.oks, ih, and_assoc]
theorem T.oks_iff {K : KW} {H : Hp} {ad : List Addr} {l : List T} : T.oks K H ad l ↔ ∀ t ∈ l, t.ok K H ad := by
  induction l with
  | nil => simp [T.oks]
  | cons x xs ih => simp [T.oks, ih]
theorem T.ex_le_exs {l : List T} {t : T} (h : t ∈ l) (a : Addr) : t.ex a ≤ T.exs l a := by
  induction l with
  | nil => cases h
  | cons x xs ih =>
    rcases List.mem_cons.mp h with rfl | h
    · simp only [T.exs]; omega
    · have := ih h; simp only [T.exs]; omega
theorem T.sh_le_shs {l : List T} {t : T} (h : t ∈ l) (a : Addr) : t.sh a ≤ T.shs l a := by
  induction l with
  | nil => cases h
  | cons x xs ih =>
    rcases List.mem_cons.mp h with rfl | h
    · simp only [T.shs]; omega
    · have := ih h; simp only [T.shs]; omega
theorem T.exs_perm {l m : List T} (h : l.Perm m) (a : Addr) : T.exs l a = T.exs m a := by
  induction h with
  | nil => rfl
  | cons x _ ih => simp only [T.exs, ih]
  | swap x y l => simp only [T.exs]; omega
  | trans _ _ i j => exact i.trans j
theorem T.shs_perm {l m : List T} (h : l.Perm m) (a : Addr) : T.shs l a = T.shs m a := by
  induction h with
  | nil => rfl
  | cons x _ ih => simp only [T.shs, ih]
  | swap x y l => simp only [T.shs]; omega
  | trans _ _ i j => exact i.trans j
theorem T.exs_sub {l m : List T} (h : l.Sublist m) (a : Addr) : T.exs l a ≤ T.exs m a := by
  induction h with
  | slnil => exact Nat.le_refl _
  | cons x _ ih => simp only [T.exs]; omega
  | cons_cons x _ ih => simp only [T.exs]; omega
theorem T.shs_sub {l m : List T} (h : l.Sublist m) (a : Addr) : T.shs l a ≤ T.shs m a := by
  induction h with
  | slnil => exact Nat.le_refl _
  | cons x _ ih => simp only [T.shs]; omega
  | cons_cons x _ ih => simp only [T.shs]; omega
@[simp] theorem T.ers_append (l m : List T) : T.ers (l ++ m) = T.ers l ++ T.ers m := by
  simp [T.ers_map]
@[simp] theorem T.ers_length (l : List T) : (T.ers l).length = l.length := by simp [T.ers_map]
theorem T.ers_get (l : List T) (i : Nat) : (T.ers l)[i]? = (l[i]?).map T.er := by simp [T.ers_map]
/-! freezing -/
mutual
theorem T.er_fz : ∀ t : T, t.fz.er = t.er.fz
  | .tup a l => by simp only [T.fz, T.er, D.fz]; rw [T.ers_fzs l]
  | .lst _ a l => by simp only [T.fz, T.er, D.fz]; rw [T.ers_fzs l]
  | .dct _ a _ l => by simp only [T.fz, T.er, D.fz]; rw [T.ers_fzs l]
  | .set _ a l => by simp only [T.fz, T.er, D.fz]
  | .non => rfl | .bl _ => rfl | .int _ => rfl | .str _ => rfl | .scr _ _ => rfl | .ref _ _ => rfl
theorem T.ers_fzs : ∀ l : List T, T.ers (T.fzs l) = D.fzs (T.ers l)
  | [] => rfl
  | x :: xs => by simp only [T.fzs, T.ers, D.fzs]; rw [T.er_fz x, T.ers_fzs xs]
end
@[simp] theorem T.val_fz (t : T) : t.fz.val = t.val := by cases t <;> rfl
theorem T.vals_fzs (l : List T) : (T.fzs l).map T.val = l.map T.val := by
  induction l with
  | nil => rfl
  | cons x xs ih => simp only [T.fzs, List.map_cons, T.val_fz, ih]
mutual
theorem T.ex_fz : ∀ (t : T) (a : Addr), t.fz.ex a = 0
  | .tup _ l, a => by simp only [T.fz, T.ex]; exact T.exs_fzs l a
  | .lst _ _ l, a => by simp only [T.fz, T.ex]; rw [T.exs_fzs l a]; rfl
  | .dct _ _ _ l, a => by simp only [T.fz, T.ex]; rw [T.exs_fzs l a]; rfl
  | .set _ _ l, a => by simp only [T.fz, T.ex]; rfl
  | .non, _ => rfl | .bl _, _ => rfl | .int _, _ => rfl | .str _, _ => rfl | .scr _ _, _ => rfl | .ref _ _, _ => rfl
theorem T.exs_fzs : ∀ (l : List T) (a : Addr), T.exs (T.fzs l) a = 0
  | [], _ => rfl
  | x :: xs, a => by simp only [T.fzs, T.exs]; rw [T.ex_fz x a, T.exs_fzs xs a]
end
mutual
theorem T.sh_fz : ∀ (t : T) (a : Addr), t.fz.sh a = t.ex a + t.sh a
  | .tup _ l, a => by simp only [T.fz, T.sh, T.ex]; exact T.shs_fzs l a
  | .lst o _ l, a => by simp only [T.fz, T.sh, T.ex]; rw [T.shs_fzs l a]; cases o <;> simp <;> omega
  | .dct o _ _ l, a => by simp only [T.fz, T.sh, T.ex]; rw [T.shs_fzs l a]; cases o <;> simp <;> omega
  | .set o _ l, a => by simp only [T.fz, T.sh, T.ex]; cases o <;> simp
  | .non, _ => rfl | .bl _, _ => rfl | .int _, _ => rfl | .str _, _ => rfl | .scr _ _, _ => rfl | .ref _ _, _ => rfl
theorem T.shs_fzs : ∀ (l : List T) (a : Addr), T.shs (T.fzs l) a = T.exs l a + T.shs l a
  | [], _ => rfl
  | x :: xs, a => by simp only [T.fzs, T.shs, T.exs]; rw [T.sh_fz x a, T.shs_fzs xs a]; omega
end
section
variable {K : KW} {H H' : Hp} {ad ad' : List Addr}
mutual
theorem T.ok_fz : ∀ (t : T), t.ok K H ad → t.fz.ok K H ad
  | .tup a l, h => by simp only [T.fz, T.ok] at *; rw [T.vals_fzs]; exact ⟨h.1, T.oks_fzs l h.2⟩
  | .lst _ a l, h => by simp only [T.fz, T.ok] at *; rw [T.vals_fzs]; exact ⟨h.1, T.oks_fzs l h.2⟩
  | .dct _ a ks l, h => by simp only [T.fz, T.ok] at *; rw [T.vals_fzs]; exact ⟨h.1, T.oks_fzs l h.2.1, h.2.2⟩
  | .set _ a l, h => h
  | .non, _ => trivial | .bl _, _ => trivial | .int _, _ => trivial | .str _, _ => trivial | .scr _ _, h => h | .ref _ _, h => h
theorem T.oks_fzs : ∀ (l : List T), T.oks K H ad l → T.oks K H ad (T.fzs l)
  | [], _ => trivial
  | x :: xs, h => ⟨T.ok_fz x h.1, T.oks_fzs xs h.2⟩
end
/-! what is frozen -/
mutual
theorem T.ex_isz : ∀ (t : T) (a : Addr), t.er.isz = true → t.ex a = 0
  | .tup _ l, a, h => by simp only [T.er, D.isz] at h; simp only [T.ex]; exact T.exs_isz l a h
  | .lst o _ l, a, h => by
    simp only [T.er, D.isz, Bool.and_eq_true, Bool.not_eq_true'] at h
    simp only [T.ex]; rw [T.exs_isz l a h.2, h.1]; rfl
  | .dct o _ _ l, a, h => by
    simp only [T.er, D.isz, Bool.and_eq_true, Bool.not_eq_true'] at h
    simp only [T.ex]; rw [T.exs_isz l a h.2, h.1]; rfl
  | .set o _ l, a, h => by
    simp only [T.er, D.isz, Bool.not_eq_true'] at h
    simp only [T.ex]; rw [h]; rfl
  | .non, _, _ => rfl | .bl _, _, _ => rfl | .int _, _, _ => rfl | .str _, _, _ => rfl | .scr _ _, _, _ => rfl | .ref _ _, _, _ => rfl
theorem T.exs_isz : ∀ (l : List T) (a : Addr), D.iszs (T.ers l) = true → T.exs l a = 0
  | [], _, _ => rfl
  | x :: xs, a, h => by
    simp only [T.ers, D.iszs, Bool.and_eq_true] at h
    simp only [T.exs]; rw [T.ex_isz x a h.1, T.exs_isz xs a h.2]
end
mutual
theorem T.fz_isz : ∀ (t : T), t.er.isz = true → t.fz = t
  | .tup _ l, h => by simp only [T.er, D.isz] at h; simp only [T.fz]; rw [T.fzs_isz l h]
  | .lst o _ l, h => by
    simp only [T.er, D.isz, Bool.and_eq_true, Bool.not_eq_true'] at h
    simp only [T.fz]; rw [T.fzs_isz l h.2, h.1]
  | .dct o _ _ l, h => by
    simp only [T.er, D.isz, Bool.and_eq_true, Bool.not_eq_true'] at h
    simp only [T.fz]; rw [T.fzs_isz l h.2, h.1]
  | .set o _ l, h => by
    simp only [T.er, D.isz, Bool.not_eq_true'] at h
    simp only [T.fz]; rw [h]
  | .non, _ => rfl | .bl _, _ => rfl | .int _, _ => rfl | .str _, _ => rfl | .scr _ _, _ => rfl | .ref _ _, _ => rfl
theorem T.fzs_isz : ∀ (l : List T), D.iszs (T.ers l) = true → T.fzs l = l
  | [], _ => rfl
  | x :: xs, h => by
    simp only [T.ers, D.iszs, Bool.and_eq_true] at h
    simp only [T.fzs]; rw [T.fz_isz x h.1, T.fzs_isz xs h.2]
end
mutual
theorem D.isz_fz : ∀ (d : D), d.fz.isz = true
  | .tup l => by simp only [D.fz, D.isz]; exact D.iszs_fzs l
  | .lst _ l => by simp only [D.fz, D.isz]; rw [D.iszs_fzs l]; rfl
  | .dct _ _ l => by simp only [D.fz, D.isz]; rw [D.iszs_fzs l]; rfl
  | .set _ l => rfl
  | .non => rfl | .bl _ => rfl | .int _ => rfl | .str _ => rfl | .scr _ => rfl | .ref _ => rfl
theorem D.iszs_fzs : ∀ (l : List D), D.iszs (D.fzs l) = true
  | [] => rfl
  | x :: xs => by simp only [D.fzs, D.iszs]; rw [D.isz_fz x, D.iszs_fzs xs]; rfl
end
theorem D.iszs_iff {l : List D} : D.iszs l = true ↔ ∀ d ∈ l, d.isz = true := by
  induction l with
  | nil => simp [D.iszs]
  | cons x xs ih => simp [D.iszs, ih]
/-! a place that is told is there -/
mutual
theorem T.there : ∀ (t : T) (a : Addr), t.ok K H ad → 0 < t.ex a + t.sh a → ∃ o, H a = some o ∧ isMut o = true
  | .tup _ l, a, h, p => T.theres l a h.2 p
  | .lst o b l, a, h, p => by
    simp only [T.ex, T.sh, one] at p
    by_cases e : b = a
    · subst e; exact ⟨_, h.1, rfl⟩
    · refine T.theres l a h.2 ?_
      cases o <;> simp [e] at p <;> omega
  | .dct o b _ l, a, h, p => by
    simp only [T.ex, T.sh, one] at p
    by_cases e : b = a
    · subst e
      rcases h.1 with ⟨kl, _, _, e3⟩ | ⟨_, _, _, _, e3⟩
      · exact ⟨_, e3, rfl⟩
      · exact ⟨_, e3, rfl⟩
    · refine T.theres l a h.2.1 ?_
      cases o <;> simp [e] at p <;> omega
  | .set o b l, a, h, p => by
    simp only [T.ex, T.sh, one] at p
    by_cases e : b = a
    · subst e
      rcases h with ⟨il, _, _, S, e3, _⟩ | ⟨ts, _, _, _, e3⟩
      · exact ⟨_, e3, rfl⟩
      · exact ⟨_, e3, rfl⟩
    · cases o <;> simp [e] at p
  | .non, _, _, p => by simp [T.ex, T.sh] at p
  | .bl _, _, _, p => by simp [T.ex, T.sh] at p
  | .int _, _, _, p => by simp [T.ex, T.sh] at p
  | .str _, _, _, p => by simp [T.ex, T.sh] at p
  | .scr _ _, _, _, p => by simp [T.ex, T.sh] at p
  | .ref _ _, _, _, p => by simp [T.ex, T.sh] at p
theorem T.theres : ∀ (l : List T) (a : Addr), T.oks K H ad l → 0 < T.exs l a + T.shs l a → ∃ o, H a = some o ∧ isMut o = true
  | [], _, _, p => by simp [T.exs, T.shs] at p
  | x :: xs, a, h, p => by
    simp only [T.exs, T.shs] at p
    by_cases q : 0 < x.ex a + x.sh a
    · exact T.there x a h.1 q
    · exact T.theres xs a h.2 (by omega)
end
end
end PV

/-! PvD: the state: frame, store, slots, and their steps. -/
namespace PV
open PySem L2

/-- a box: where it stands, what it holds -/
structure G where
  a : Addr
  l : List T
def G.er (g : G) : Cell := .box (T.ers g.l)
def G.ok (K : KW) (H : Hp) (ad : List Addr) (g : G) : Prop := H g.a = some (.lst (g.l.map T.val)) ∧ T.oks K H ad g.l ∧ D.iszs (T.ers g.l) = true
def exg : List G → Addr → Nat
  | [], _ => 0 | g :: gs, b => one g.a b + exg gs b
def shg : List G → Addr → Nat
  | [], _ => 0 | g :: gs, b => T.shs g.l b + shg gs b
def ex1 : Option T → Addr → Nat
  | none, _ => 0 | some t, b => t.ex b
def sh1 : Option T → Addr → Nat
  | none, _ => 0 | some t, b => t.sh b
def exo : List (Option T) → Addr → Nat
  | [], _ => 0 | x :: xs, b => ex1 x b + exo xs b
def sho : List (Option T) → Addr → Nat
  | [], _ => 0 | x :: xs, b => sh1 x b + sho xs b
def ads (cs : List G) : List Addr := cs.map G.a
def erc (cs : List G) : List Cell := cs.map G.er
def ero (τ : List (Option T)) : List (Option D) := τ.map (Option.map T.er)

@[simp] theorem exg_append (l m : List G) (a : Addr) : exg (l ++ m) a = exg l a + exg m a := by
  induction l with
  | nil => simp [exg]
  | cons x xs ih => simp only [List.cons_append, exg, ih]; omega
@[simp] theorem shg_append (l m : List G) (a : Addr) : shg (l ++ m) a = shg l a + shg m a := by
  induction l with
  | nil => simp [shg]
  | cons x xs ih => simp only [List.cons_append, shg, ih]; omega
theorem exo_set (x : Option T) (a : Addr) : ∀ (τ : List (Option T)) (i : Nat), i < τ.length → exo (τ.set i x) a + ex1 (gt τ i) a = exo τ a + ex1 x a
  | [], _, h => by simp at h
  | y :: ys, 0, _ => by simp only [List.set, exo, gt]; omega
  | y :: ys, i + 1, h => by
    have := exo_set x a ys i (by simpa using h)
    simp only [List.set, exo, gt]; omega
theorem sho_set (x : Option T) (a : Addr) : ∀ (τ : List (Option T)) (i : Nat), i < τ.length → sho (τ.set i x) a + sh1 (gt τ i) a = sho τ a + sh1 x a
  | [], _, h => by simp at h
  | y :: ys, 0, _ => by simp only [List.set, sho, gt]; omega
  | y :: ys, i + 1, h => by
    have := sho_set x a ys i (by simpa using h)
    simp only [List.set, sho, gt]; omega
theorem ex1_le (a : Addr) : ∀ (τ : List (Option T)) (i : Nat), ex1 (gt τ i) a ≤ exo τ a
  | [], _ => by simp [gt, ex1]
  | y :: ys, 0 => by simp only [exo, gt]; omega
  | y :: ys, i + 1 => by have := ex1_le a ys i; simp only [exo, gt]; omega
theorem sh1_le (a : Addr) : ∀ (τ : List (Option T)) (i : Nat), sh1 (gt τ i) a ≤ sho τ a
  | [], _ => by simp [gt, sh1]
  | y :: ys, 0 => by simp only [sho, gt]; omega
  | y :: ys, i + 1 => by have := sh1_le a ys i; simp only [sho, gt]; omega
theorem gt_lt {α : Type} {x : α} : ∀ {τ : List (Option α)} {i : Nat}, gt τ i = some x → i < τ.length
  | [], _, h => by simp [gt] at h
  | _ :: _, 0, _ => by simp
  | _ :: ys, i + 1, h => by have := gt_lt (τ := ys) (i := i) (by simpa [gt] using h); simpa using this
theorem gt_mem {α : Type} {x : α} : ∀ {τ : List (Option α)} {i : Nat}, gt τ i = some x → some x ∈ τ
  | [], _, h => by simp [gt] at h
  | y :: _, 0, h => by simp only [gt] at h; simp [h]
  | _ :: ys, i + 1, h => List.mem_cons_of_mem _ (gt_mem (τ := ys) (i := i) (by simpa [gt] using h))
theorem mem_gt {α : Type} {x : α} : ∀ {τ : List (Option α)}, some x ∈ τ → ∃ i, gt τ i = some x
  | y :: ys, h => by
    rcases List.mem_cons.mp h with e | h
    · exact ⟨0, by simp [gt, ← e]⟩
    · obtain ⟨i, e⟩ := mem_gt h; exact ⟨i + 1, by simpa [gt] using e⟩
theorem gt_set {α : Type} (x : Option α) : ∀ (τ : List (Option α)) (i j : Nat), gt (τ.set i x) j = if i = j ∧ i < τ.length then x else gt τ j
  | [], i, j => by simp [gt]
  | y :: ys, 0, 0 => by simp [gt]
  | y :: ys, 0, j + 1 => by simp [gt]
  | y :: ys, i + 1, 0 => by simp [gt]
  | y :: ys, i + 1, j + 1 => by
    have := gt_set x ys i j
    simp only [List.set, gt, this]
    by_cases h : i = j <;> simp [h]
theorem gt_map {α β : Type} (f : α → β) : ∀ (τ : List (Option α)) (i : Nat), gt (τ.map (Option.map f)) i = (gt τ i).map f
  | [], _ => rfl
  | _ :: _, 0 => rfl
  | _ :: ys, i + 1 => gt_map f ys i
theorem gt_ero (τ : List (Option T)) (i : Nat) : gt (ero τ) i = (gt τ i).map T.er := gt_map _ _ _
theorem ero_set (τ : List (Option T)) (i : Nat) (x : Option T) : ero (τ.set i x) = (ero τ).set i (x.map T.er) := by
  unfold ero; rw [List.map_set]

structure Sat (K : KW) (H : Hp) (fr : List T) (cs : List G) (τ : List (Option T)) : Prop where
  ofr : T.oks K H (ads cs) fr
  ocs : ∀ g ∈ cs, g.ok K H (ads cs)
  osl : ∀ t, some t ∈ τ → t.ok K H (ads cs)
  uni : ∀ a, T.exs fr a + exg cs a + exo τ a ≤ 1
  sep : ∀ a, T.exs fr a + exg cs a + exo τ a = 0 ∨ T.shs fr a + shg cs a + sho τ a = 0

theorem exg_ok {K : KW} {H : Hp} {ad : List Addr} {a : Addr} : ∀ {cs : List G}, (∀ g ∈ cs, g.ok K H ad) → 0 < exg cs a + shg cs a → ∃ o, H a = some o ∧ isMut o = true
  | [], _, p => by simp [exg, shg] at p
  | g :: gs, h, p => by
    have hg := h g (by simp)
    by_cases e : g.a = a
    · subst e; exact ⟨_, hg.1, rfl⟩
    · by_cases q : 0 < T.shs g.l a
      · exact T.theres g.l a hg.2.1 (by omega)
      · exact exg_ok (fun g' hg' => h g' (List.mem_cons_of_mem _ hg')) (by simp only [exg, shg, one, e] at p; simp at p; omega)
theorem exo_ok {K : KW} {H : Hp} {ad : List Addr} {a : Addr} : ∀ {τ : List (Option T)}, (∀ t, some t ∈ τ → t.ok K H ad) → 0 < exo τ a + sho τ a → ∃ o, H a = some o ∧ isMut o = true
  | [], _, p => by simp [exo, sho] at p
  | none :: ys, h, p => exo_ok (τ := ys) (fun t ht => h t (List.mem_cons_of_mem _ ht)) (by simpa [exo, sho, ex1, sh1] using p)
  | some t :: ys, h, p => by
    by_cases q : 0 < t.ex a + t.sh a
    · exact T.there t a (h t (by simp)) q
    · exact exo_ok (τ := ys) (fun t ht => h t (List.mem_cons_of_mem _ ht)) (by simp only [exo, sho, ex1, sh1] at p; omega)
section
variable {K : KW} {H H' : Hp} {fr fr' : List T} {cs cs' : List G} {τ τ' : List (Option T)}
/-- what stands nowhere yet -/
theorem Sat.fresh (S : Sat K H fr cs τ) {p : Addr} (h : H p = none) : T.exs fr p = 0 ∧ exg cs p = 0 ∧ exo τ p = 0 ∧ T.shs fr p = 0 ∧ shg cs p = 0 ∧ sho τ p = 0 := by
  have f1 : ¬ 0 < T.exs fr p + T.shs fr p := fun z => by obtain ⟨xs, e, _⟩ := T.theres fr p S.ofr z; rw [h] at e; cases e
  have f2 : ¬ 0 < exg cs p + shg cs p := fun z => by obtain ⟨xs, e, _⟩ := exg_ok S.ocs z; rw [h] at e; cases e
  have f3 : ¬ 0 < exo τ p + sho τ p := fun z => by obtain ⟨xs, e, _⟩ := exo_ok S.osl z; rw [h] at e; cases e
  omega
theorem G.ok_keep {ad ad' : List Addr} {g : G} (h : g.ok K H ad) (k : ∀ a o, H a = some o → (isMut o = true → 0 < one g.a a + T.shs g.l a) → H' a = some o) (q : ∀ (n : Nat) (a : Addr), ad[n]? = some a → ad'[n]? = some a) : g.ok K H' ad' := by
  refine ⟨k g.a _ h.1 fun _ => by simp [one]; omega, T.oks_keep g.l h.2.1 (fun b o e m => k b o e fun z => ?_) q, h.2.2⟩
  have := m z
  rw [T.exs_isz _ _ h.2.2] at this
  omega
theorem mem_exg {g : G} : ∀ {cs : List G}, g ∈ cs → ∀ a, one g.a a ≤ exg cs a ∧ T.shs g.l a ≤ shg cs a
  | x :: xs, h, a => by
    rcases List.mem_cons.mp h with rfl | h
    · simp only [exg, shg]; omega
    · have := mem_exg h a; simp only [exg, shg]; omega
theorem mem_exo {t : T} : ∀ {τ : List (Option T)}, some t ∈ τ → ∀ a, t.ex a ≤ exo τ a ∧ t.sh a ≤ sho τ a
  | x :: xs, h, a => by
    rcases List.mem_cons.mp h with e | h
    · subst e; simp only [exo, sho, ex1, sh1]; omega
    · have := mem_exo h a; simp only [exo, sho]; omega
/-- the heap has changed elsewhere -/
theorem Sat.keep (S : Sat K H fr cs τ) (k : ∀ a o, H a = some o → (isMut o = true → 0 < T.exs fr a + T.shs fr a ∨ 0 < exg cs a + shg cs a ∨ 0 < exo τ a + sho τ a) → H' a = some o) : Sat K H' fr cs τ := by
  refine ⟨T.oks_keep fr S.ofr (fun a o e m => k a o e fun z => .inl (m z)) fun _ _ z => z, fun g hg => G.ok_keep (S.ocs g hg) (fun a o e m => k a o e fun z => .inr (.inl ?_)) fun _ _ z => z,
    fun t ht => T.ok_keep t (S.osl t ht) (fun a o e m => k a o e fun z => .inr (.inr ?_)) fun _ _ z => z, S.uni, S.sep⟩
  · have := mem_exg hg a; have := m z; omega
  · have := mem_exo ht a; have := m z; omega
/-- other roots, out of the old ones -/
theorem Sat.reroot (S : Sat K H fr cs τ) (h1 : T.oks K H (ads cs) fr') (h2 : ∀ t, some t ∈ τ' → t.ok K H (ads cs))
    (h3 : ∀ a, T.exs fr' a + exo τ' a ≤ T.exs fr a + exo τ a)
    (h4 : ∀ a, T.exs fr' a + exo τ' a + exg cs a = 0 ∨ (T.shs fr' a + sho τ' a = 0 ∧ shg cs a = 0)) : Sat K H fr' cs τ' := by
  refine ⟨h1, S.ocs, h2, fun a => ?_, fun a => ?_⟩
  · have := S.uni a; have := h3 a; omega
  · rcases h4 a with e | e
    · exact .inl (by omega)
    · exact .inr (by omega)
theorem Sat.perm (S : Sat K H fr cs τ) (p : fr.Perm fr') : Sat K H fr' cs τ := by
  refine S.reroot (T.oks_iff.mpr fun t ht => T.oks_iff.mp S.ofr t (p.mem_iff.mpr ht)) S.osl (fun a => by rw [T.exs_perm p]; omega) fun a => ?_
  have := S.sep a
  rw [← T.exs_perm p, ← T.shs_perm p]
  omega
/-- fewer roots, or parts of them -/
theorem Sat.less (S : Sat K H fr cs τ) (h1 : T.oks K H (ads cs) fr') (h3 : ∀ a, T.exs fr' a ≤ T.exs fr a ∧ T.shs fr' a ≤ T.shs fr a) : Sat K H fr' cs τ := by
  refine S.reroot h1 S.osl (fun a => by have := h3 a; omega) fun a => ?_
  have := S.sep a; have := h3 a
  omega
theorem Sat.drop {t : T} (S : Sat K H (t :: fr) cs τ) : Sat K H fr cs τ := S.less S.ofr.2 fun a => by simp only [T.exs, T.shs]; omega
theorem Sat.drops {ts : List T} (S : Sat K H (ts ++ fr) cs τ) : Sat K H fr cs τ := S.less (T.oks_append.mp S.ofr).2 fun a => by simp only [T.exs_append, T.shs_append]; omega
/-- a scalar -/
theorem Sat.push {t : T} (S : Sat K H fr cs τ) (h : t.ok K H (ads cs)) (h1 : ∀ a, t.ex a = 0) (h2 : ∀ a, t.sh a = 0) : Sat K H (t :: fr) cs τ :=
  S.less ⟨h, S.ofr⟩ fun a => by simp only [T.exs, T.shs, h1 a, h2 a]; omega
/-- a frozen slot is read -/
theorem Sat.dup {t : T} {i : Nat} (S : Sat K H fr cs τ) (h : gt τ i = some t) (z : ∀ a, t.ex a = 0) : Sat K H (t :: fr) cs τ := by
  refine S.reroot ⟨S.osl t (gt_mem h), S.ofr⟩ S.osl (fun a => by simp only [T.exs, z a]; omega) fun a => ?_
  have h1 := S.sep a
  have h2 := mem_exo (gt_mem h) a
  simp only [T.exs, T.shs, z a]
  omega
/-- a frozen part of a root, beside it -/
theorem Sat.dupPart {t : T} (S : Sat K H fr cs τ) (ok : t.ok K H (ads cs)) (z : ∀ a, t.ex a = 0) (le : ∀ a, t.sh a ≤ T.shs fr a + shg cs a + sho τ a) : Sat K H (t :: fr) cs τ := by
  refine S.reroot ⟨ok, S.ofr⟩ S.osl (fun a => by simp only [T.exs, z a]; omega) fun a => ?_
  have h1 := S.sep a
  have h2 := le a
  simp only [T.exs, T.shs, z a]
  omega
theorem Sat.freeze {t : T} (S : Sat K H (t :: fr) cs τ) : Sat K H (t.fz :: fr) cs τ := by
  refine S.reroot ⟨T.ok_fz t S.ofr.1, S.ofr.2⟩ S.osl (fun a => by simp only [T.exs, T.ex_fz]; omega) fun a => ?_
  have h1 := S.sep a; have h2 := S.uni a
  simp only [T.exs, T.shs, T.ex_fz, T.sh_fz] at *
  omega
theorem Sat.freezes {ts : List T} (S : Sat K H (ts ++ fr) cs τ) : Sat K H (T.fzs ts ++ fr) cs τ := by
  have o := T.oks_append.mp S.ofr
  refine S.reroot (T.oks_append.mpr ⟨T.oks_fzs ts o.1, o.2⟩) S.osl (fun a => by simp only [T.exs_append, T.exs_fzs]; omega) fun a => ?_
  have h1 := S.sep a; have h2 := S.uni a
  simp only [T.exs_append, T.shs_append, T.exs_fzs, T.shs_fzs] at *
  omega
/-- a root goes into a slot -/
theorem Sat.store {t : T} {i : Nat} (S : Sat K H (t :: fr) cs τ) (hi : i < τ.length) : Sat K H fr cs (τ.set i (some t)) := by
  refine S.reroot S.ofr.2 (fun u hu => ?_) (fun a => ?_) fun a => ?_
  · obtain ⟨j, e⟩ := mem_gt hu
    rw [gt_set] at e
    split at e
    · cases e; exact S.ofr.1
    · exact S.osl u (gt_mem e)
  · have h1 := exo_set (some t) a τ i hi
    simp only [T.exs, ex1] at *
    omega
  · have h1 := exo_set (some t) a τ i hi
    have h2 := sho_set (some t) a τ i hi
    have h3 := S.sep a
    have h4 := ex1_le a τ i
    have h5 := sh1_le a τ i
    simp only [T.exs, T.shs, ex1, sh1] at *
    omega
/-- a slot is forgotten -/
theorem Sat.forget (S : Sat K H fr cs τ) (i : Nat) : Sat K H fr cs (τ.set i none) := by
  by_cases hi : i < τ.length
  · refine S.reroot S.ofr (fun u hu => ?_) (fun a => ?_) fun a => ?_
    · obtain ⟨j, e⟩ := mem_gt hu
      rw [gt_set] at e
      split at e
      · cases e
      · exact S.osl u (gt_mem e)
    · have h1 := exo_set none a τ i hi
      simp only [ex1] at *
      omega
    · have h1 := exo_set none a τ i hi
      have h2 := sho_set none a τ i hi
      have h3 := S.sep a
      simp only [ex1, sh1] at *
      omega
  · rw [List.set_eq_of_length_le (by omega)]; exact S
/-- a slot's value goes out -/
theorem Sat.take {t : T} {i : Nat} (S : Sat K H fr cs τ) (h : gt τ i = some t) : Sat K H (t :: fr) cs (τ.set i none) := by
  have hi := gt_lt h
  refine S.reroot ⟨S.osl t (gt_mem h), S.ofr⟩ (fun u hu => ?_) (fun a => ?_) fun a => ?_
  · obtain ⟨j, e⟩ := mem_gt hu
    rw [gt_set] at e
    split at e
    · cases e
    · exact S.osl u (gt_mem e)
  · have h1 := exo_set none a τ i hi
    rw [h] at h1
    simp only [T.exs, ex1] at *
    omega
  · have h1 := exo_set none a τ i hi
    have h2 := sho_set none a τ i hi
    rw [h] at h1 h2
    have h3 := S.sep a
    simp only [T.exs, T.shs, ex1, sh1] at *
    omega
/-- a new object: a tuple, a list -/
theorem Sat.alloc {ts : List T} {t : T} {p : Addr} {o : HO} (S : Sat K H (ts ++ fr) cs τ) (h : H p = none) (ok : t.ok K (upd H p o) (ads cs)) (e1 : ∀ a, t.ex a ≤ one p a + T.exs ts a) (e2 : ∀ a, t.sh a ≤ T.shs ts a) :
    Sat K (upd H p o) (t :: fr) cs τ := by
  have k : ∀ a ob, H a = some ob → (upd H p o) a = some ob := fun a ob e => by rw [upd_ne (ne_of_none e h)]; exact e
  have S' : Sat K (upd H p o) (ts ++ fr) cs τ := S.keep fun a ob e _ => k a ob e
  have f := S.fresh h
  refine ⟨⟨ok, (T.oks_append.mp S'.ofr).2⟩, S'.ocs, S'.osl, fun a => ?_, fun a => ?_⟩
  · have h1 := S.uni a; have h2 := e1 a
    by_cases q : p = a
    · subst q; simp only [T.exs, T.exs_append, one] at *; simp at *; omega
    · simp only [T.exs, T.exs_append, one, if_neg q] at *; omega
  · have h1 := S.sep a; have h2 := e1 a; have h3 := e2 a
    by_cases q : p = a
    · subst q; simp only [T.exs, T.shs, T.exs_append, T.shs_append, one] at *; simp at *; omega
    · simp only [T.exs, T.shs, T.exs_append, T.shs_append, one, if_neg q] at *; omega
/-- an owned list in a slot is changed: its new items come out of the old ones and of roots -/
theorem Sat.change {ts l l' : List T} {i : Nat} {p : Addr} (S : Sat K H (ts ++ fr) cs τ) (h : gt τ i = some (.lst true p l)) (hl : T.oks K H (ads cs) l') (e1 : ∀ a, T.exs l' a ≤ T.exs l a + T.exs ts a) (e2 : ∀ a, T.shs l' a ≤ T.shs l a + T.shs ts a) :
    Sat K (upd H p (.lst (l'.map T.val))) fr cs (τ.set i (some (.lst true p l'))) := by
  have hi := gt_lt h
  have S1 := S.take h
  have o1 := S1.ofr
  have hp : H p = some (.lst (l.map T.val)) := o1.1.1
  -- p stands in no other root
  have own : ∀ a, a = p → T.exs (ts ++ fr) a + T.shs (ts ++ fr) a = 0 ∧ exg cs a + shg cs a = 0 ∧ exo (τ.set i none) a + sho (τ.set i none) a = 0 ∧ T.exs l a + T.shs l a = 0 := fun a e => by
    subst e
    have h1 := S1.uni a; have h2 := S1.sep a
    simp only [T.exs, T.shs, T.ex, T.sh, one, ↓reduceIte] at h1 h2
    omega
  have keep : ∀ a o, H a = some o → a ≠ p → (upd H p (.lst (l'.map T.val))) a = some o := fun a o e n => by rw [upd_ne n]; exact e
  have dropL : Sat K H (l ++ (ts ++ fr)) cs (τ.set i none) := S1.less (T.oks_append.mpr ⟨o1.1.2, o1.2⟩) fun a => by simp only [T.exs, T.shs, T.exs_append, T.shs_append, T.ex, T.sh]; omega
  have S2 : Sat K (upd H p (.lst (l'.map T.val))) (l ++ (ts ++ fr)) cs (τ.set i none) := dropL.keep fun a o e m => by
    by_cases n : a = p
    · subst n
      rw [hp] at e; cases e
      have := own a rfl
      have := m rfl
      simp only [T.exs_append, T.shs_append] at *
      omega
    · exact keep a o e n
  have hl' : T.oks K (upd H p (.lst (l'.map T.val))) (ads cs) l' := T.oks_keep l' hl (fun a o e m => by
    by_cases n : a = p
    · subst n
      rw [hp] at e; cases e
      have := own a rfl
      have h1 := m rfl
      have := e1 a; have := e2 a
      simp only [T.exs_append, T.shs_append] at *
      omega
    · exact keep a o e n) fun _ _ z => z
  refine ⟨(T.oks_append.mp (T.oks_append.mp S2.ofr).2).2, S2.ocs, fun u hu => ?_, fun a => ?_, fun a => ?_⟩
  · obtain ⟨j, e⟩ := mem_gt hu
    rw [gt_set] at e
    split at e
    · cases e; exact ⟨upd_same, hl'⟩
    · rename_i hn
      refine S2.osl u (gt_mem (i := j) ?_)
      rw [gt_set, if_neg hn]; exact e
  · have h1 := S.uni a; have h3 := e1 a
    have h2 := exo_set (some (.lst true p l')) a τ i hi
    rw [h] at h2
    simp only [T.exs_append, ex1, T.ex] at *
    simp at *
    omega
  · have h1 := S.sep a; have h3 := e1 a; have h4 := e2 a
    have h2 := exo_set (some (.lst true p l')) a τ i hi
    have h5 := sho_set (some (.lst true p l')) a τ i hi
    rw [h] at h2 h5
    simp only [T.exs_append, T.shs_append, ex1, sh1, T.ex, T.sh] at *
    simp at *
    omega
end
end PV

/-! PvE: what is kept of a state (Rel), the readings, the operators. -/
namespace PV
open PySem L2

/-! boxes -/
theorem exg_set {g' : G} (a : Addr) : ∀ {cs : List G} {n : Nat} {g : G}, cs[n]? = some g → g'.a = g.a → exg (cs.set n g') a = exg cs a
  | [], n, g, h, _ => by simp at h
  | x :: xs, 0, g, h, e => by simp at h; subst h; simp only [List.set, exg, e]
  | x :: xs, n + 1, g, h, e => by
    have := exg_set a (cs := xs) (n := n) (by simpa using h) e
    simp only [List.set, exg, this]
theorem shg_set {g' : G} (a : Addr) : ∀ {cs : List G} {n : Nat} {g : G}, cs[n]? = some g → shg (cs.set n g') a + T.shs g.l a = shg cs a + T.shs g'.l a
  | [], n, g, h => by simp at h
  | x :: xs, 0, g, h => by simp at h; subst h; simp only [List.set, shg]; omega
  | x :: xs, n + 1, g, h => by
    have := shg_set (g' := g') a (cs := xs) (n := n) (by simpa using h)
    simp only [List.set, shg]; omega
theorem ads_set {g' : G} : ∀ {cs : List G} {n : Nat} {g : G}, cs[n]? = some g → g'.a = g.a → ads (cs.set n g') = ads cs
  | [], n, g, h, _ => by simp at h
  | x :: xs, 0, g, h, e => by simp at h; subst h; simp only [List.set, ads, List.map_cons, e]
  | x :: xs, n + 1, g, h, e => by
    have := ads_set (cs := xs) (n := n) (by simpa using h) e
    simp only [ads] at this
    simp only [List.set, ads, List.map_cons, this]
theorem shs_set {t : T} (a : Addr) : ∀ {l : List T} {j : Nat}, j < l.length → T.shs (l.set j t) a ≤ T.shs l a + t.sh a
  | [], j, h => by simp at h
  | x :: xs, 0, h => by simp only [List.set, T.shs]; omega
  | x :: xs, j + 1, h => by
    have := shs_set (t := t) a (l := xs) (j := j) (by simpa using h)
    simp only [List.set, T.shs]; omega
theorem exs_set {t : T} (a : Addr) : ∀ {l : List T} {j : Nat}, j < l.length → T.exs (l.set j t) a ≤ T.exs l a + t.ex a
  | [], j, h => by simp at h
  | x :: xs, 0, h => by simp only [List.set, T.exs]; omega
  | x :: xs, j + 1, h => by
    have := exs_set (t := t) a (l := xs) (j := j) (by simpa using h)
    simp only [List.set, T.exs]; omega
theorem oks_set {K : KW} {H : Hp} {ad : List Addr} {t : T} : ∀ {l : List T} {j : Nat}, T.oks K H ad l → t.ok K H ad → T.oks K H ad (l.set j t)
  | [], j, h, _ => by simpa using h
  | x :: xs, 0, h, h' => ⟨h', h.2⟩
  | x :: xs, j + 1, h, h' => ⟨h.1, oks_set h.2 h'⟩
theorem vals_set {t : T} (l : List T) (j : Nat) : (l.set j t).map T.val = (l.map T.val).set j t.val := by rw [List.map_set]
theorem ers_set {t : T} (l : List T) (j : Nat) : T.ers (l.set j t) = (T.ers l).set j t.er := by simp [T.ers_map, List.map_set]
theorem iszs_set {d : D} : ∀ {l : List D} {j : Nat}, D.iszs l = true → d.isz = true → D.iszs (l.set j d) = true
  | [], j, h, _ => by simpa using h
  | x :: xs, 0, h, h' => by simp only [List.set, D.iszs, Bool.and_eq_true] at *; exact ⟨h', h.2⟩
  | x :: xs, j + 1, h, h' => by simp only [List.set, D.iszs, Bool.and_eq_true] at *; exact ⟨h.1, iszs_set h.2 h'⟩
section
variable {K : KW} {H H' : Hp} {fr fr' : List T} {cs cs' : List G} {τ τ' : List (Option T)}
theorem Sat.mkBox {ts : List T} {p : Addr} (S : Sat K H (ts ++ fr) cs τ) (h : H p = none) (z : D.iszs (T.ers ts) = true) :
    Sat K (upd H p (.lst (ts.map T.val))) (T.ref cs.length p :: fr) (cs ++ [⟨p, ts⟩]) τ := by
  have k : ∀ a ob, H a = some ob → (upd H p (.lst (ts.map T.val))) a = some ob := fun a ob e => by rw [upd_ne (ne_of_none e h)]; exact e
  have hg : ∀ (n : Nat) (a : Addr), (ads cs)[n]? = some a → (ads (cs ++ [⟨p, ts⟩]))[n]? = some a := fun n a e => by
    unfold ads at *
    rw [List.map_append, List.getElem?_append_left (List.getElem?_eq_some_iff.mp e).1]; exact e
  have f := S.fresh h
  have o := T.oks_append.mp S.ofr
  have zt := T.exs_isz ts
  refine ⟨⟨?_, T.oks_keep fr o.2 (fun a ob e _ => k a ob e) hg⟩, fun g hgm => ?_, fun t ht => T.ok_keep t (S.osl t ht) (fun a ob e _ => k a ob e) hg, fun a => ?_, fun a => ?_⟩
  · show (ads (cs ++ [⟨p, ts⟩]))[cs.length]? = some p
    unfold ads
    simp
  · rcases List.mem_append.mp hgm with hm | hm
    · exact G.ok_keep (S.ocs g hm) (fun a ob e _ => k a ob e) hg
    · have e : g = ⟨p, ts⟩ := by simpa using hm
      subst e
      exact ⟨upd_same, T.oks_keep ts o.1 (fun a ob e _ => k a ob e) hg, z⟩
  · have h1 := S.uni a
    have h2 := zt a z
    by_cases q : p = a
    · subst q; simp only [T.exs, T.ex, T.exs_append, exg_append, exg, one, ↓reduceIte] at *; omega
    · simp only [T.exs, T.ex, T.exs_append, exg_append, exg, one, if_neg q] at *; omega
  · have h1 := S.sep a
    have h2 := zt a z
    by_cases q : p = a
    · subst q; simp only [T.exs, T.ex, T.shs, T.sh, T.exs_append, T.shs_append, exg_append, exg, shg_append, shg, one, ↓reduceIte] at *; omega
    · simp only [T.exs, T.ex, T.shs, T.sh, T.exs_append, T.shs_append, exg_append, exg, shg_append, shg, one, if_neg q] at *; omega
theorem Sat.setBox {t : T} {g : G} {n j : Nat} (S : Sat K H (t :: fr) cs τ) (h : cs[n]? = some g) (hj : j < g.l.length) (z : t.er.isz = true) :
    Sat K (upd H g.a (.lst ((g.l.set j t).map T.val))) fr (cs.set n ⟨g.a, g.l.set j t⟩) τ := by
  have hgm : g ∈ cs := List.mem_of_getElem? h
  have hg := S.ocs g hgm
  have ea : ads (cs.set n ⟨g.a, g.l.set j t⟩) = ads cs := ads_set h rfl
  have own : ∀ a, a = g.a → T.exs (t :: fr) a = 0 ∧ T.shs (t :: fr) a = 0 ∧ shg cs a = 0 ∧ exo τ a = 0 ∧ sho τ a = 0 ∧ exg cs a = 1 := fun a e => by
    subst e
    have h1 := S.uni g.a; have h2 := S.sep g.a
    have h3 := mem_exg hgm g.a
    simp only [one, ↓reduceIte] at h3
    omega
  have keep : ∀ a o, H a = some o → a ≠ g.a → (upd H g.a (.lst ((g.l.set j t).map T.val))) a = some o := fun a o e q => by rw [upd_ne q]; exact e
  have kp : ∀ (t' : T), t'.ok K H (ads cs) → (t'.ex g.a + t'.sh g.a = 0) → t'.ok K (upd H g.a (.lst ((g.l.set j t).map T.val))) (ads cs) := fun t' h' q => T.ok_keep t' h' (fun a o e m => by
    by_cases c : a = g.a
    · subst c; rw [hg.1] at e; cases e; have := m rfl; omega
    · exact keep a o e c) fun _ _ z => z
  have kps : ∀ (l : List T), T.oks K H (ads cs) l → (T.exs l g.a + T.shs l g.a = 0) → T.oks K (upd H g.a (.lst ((g.l.set j t).map T.val))) (ads cs) l := fun l h' q => T.oks_keep l h' (fun a o e m => by
    by_cases c : a = g.a
    · subst c; rw [hg.1] at e; cases e; have := m rfl; omega
    · exact keep a o e c) fun _ _ z => z
  have o1 := own g.a rfl
  simp only [T.exs, T.shs] at o1
  have hl : T.oks K (upd H g.a (.lst ((g.l.set j t).map T.val))) (ads cs) (g.l.set j t) := oks_set (kps g.l hg.2.1 (by
    have := mem_exg hgm g.a; have := T.exs_isz _ g.a hg.2.2; omega)) (kp t S.ofr.1 (by omega))
  refine ⟨by rw [ea]; exact kps fr S.ofr.2 (by omega), fun g' hg' => ?_, fun u hu => by rw [ea]; exact kp u (S.osl u hu) (by have := mem_exo hu g.a; omega), fun a => ?_, fun a => ?_⟩
  · rw [ea]
    obtain ⟨i, hi⟩ := List.mem_iff_getElem?.mp hg'
    rw [List.getElem?_set] at hi
    split at hi
    · split at hi
      · cases hi; exact ⟨upd_same, hl, by rw [ers_set]; exact iszs_set hg.2.2 z⟩
      · cases hi
    · rename_i hne
      have hm : g' ∈ cs := List.mem_of_getElem? hi
      have h1 := S.ocs g' hm
      by_cases c : g'.a = g.a
      · -- two boxes at one place
        exfalso
        have hn : n < cs.length := (List.getElem?_eq_some_iff.mp h).1
        have e2 : ∀ (cs : List G) (n i : Nat) (g g' : G), cs[n]? = some g → cs[i]? = some g' → n ≠ i → g'.a = g.a → 2 ≤ exg cs g.a := by
          intro cs
          induction cs with
          | nil => intro n i g g' h1 h2; simp at h1
          | cons x xs ih =>
            intro n i g g' h1 h2 ne e
            match n, i with
            | 0, 0 => exact absurd rfl ne
            | 0, i + 1 =>
              simp at h1 h2; subst h1
              have := mem_exg (List.mem_of_getElem? h2) x.a
              simp only [exg, one, ↓reduceIte, e] at *; omega
            | n + 1, 0 =>
              simp at h1 h2; subst h2
              have := mem_exg (List.mem_of_getElem? h1) g.a
              simp only [exg, one, ↓reduceIte, e] at *; omega
            | n + 1, i + 1 =>
              have := ih n i g g' (by simpa using h1) (by simpa using h2) (by omega) e
              simp only [exg]; omega
        have := e2 cs n i g g' h hi hne c
        omega
      · refine G.ok_keep h1 (fun a o e m => ?_) fun _ _ z => z
        by_cases c2 : a = g.a
        · subst c2; rw [hg.1] at e; cases e
          have h3 := m rfl
          have h4 := mem_exg hm g.a
          simp only [one, if_neg c] at h3
          omega
        · exact keep a o e c2
  · have h1 := S.uni a
    rw [exg_set (g' := ⟨g.a, g.l.set j t⟩) a h rfl]
    simp only [T.exs] at *
    omega
  · have h1 := S.sep a
    have h2 := shg_set (g' := ⟨g.a, g.l.set j t⟩) a h
    have h3 := shs_set (t := t) a hj
    have h4 := mem_exg hgm a
    rw [exg_set (g' := ⟨g.a, g.l.set j t⟩) a h rfl]
    simp only [T.exs, T.shs] at *
    omega
end

/-- what is fixed in a def's body: what is called, the written part, the plain slots, the callers' roots, what is wanted of an exception -/
structure Par where
  env : Env
  K : KW
  pl : Nat → Bool
  fr : List T
  ca : Nat → Addr
  wx : WX
/-- a scalar's value -/
def sV : D → V
  | .int i => .int i | .str x => .str x | .bl b => .bl b | _ => .non
/-- at d: the dict of an exception -/
def ExD (x : Exn) (d : Option Addr) (H : Hp) : Prop := (x.fs = [] ∧ d = none) ∨ (x.fs ≠ [] ∧ ∃ dd, d = some dd ∧ H dd = some (.xd (x.fs.map fun p => (p.1, sV p.2))))
/-- what is wanted of an exception, told by its evaluated form -/
def Par.wish (P : Par) (x : Exn) (σ : St) (H : Hp) : Prop := ∀ d, ExD x d H → P.wx (.ref (P.ca x.c)) d σ H
structure Rel (P : Par) (σ : St) (H : Hp) (ts : List T) (cs : List G) (τ : List (Option T)) : Prop where
  sat : Sat P.K H (ts ++ P.fr) cs τ
  len : τ.length = σ.length
  val : ∀ i t, gt τ i = some t → σ[i]? = some (some t.val)
  pla : ∀ i t, gt τ i = some t → P.pl i = true → t.er.isz = true
section
variable {P : Par} {σ : St} {H H' : Hp} {t : T} {ts ts' : List T} {cs cs' : List G} {τ τ' : List (Option T)}
theorem Rel.with (R : Rel P σ H ts cs τ) (S : Sat P.K H' (ts' ++ P.fr) cs' τ) : Rel P σ H' ts' cs' τ := ⟨S, R.len, R.val, R.pla⟩
theorem Rel.drop (R : Rel P σ H (t :: ts) cs τ) : Rel P σ H ts cs τ := R.with R.sat.drop
theorem Rel.okh (R : Rel P σ H (t :: ts) cs τ) : t.ok P.K H (ads cs) := R.sat.ofr.1
theorem Rel.perm (R : Rel P σ H ts cs τ) (p : ts.Perm ts') : Rel P σ H ts' cs τ := R.with (R.sat.perm (p.append_right _))
theorem Rel.push (R : Rel P σ H ts cs τ) (h : t.ok P.K H (ads cs)) (h1 : ∀ a, t.ex a = 0) (h2 : ∀ a, t.sh a = 0) : Rel P σ H (t :: ts) cs τ := R.with (R.sat.push h h1 h2)
theorem Rel.int (R : Rel P σ H ts cs τ) (i : Int) : Rel P σ H (.int i :: ts) cs τ := R.push trivial (fun _ => rfl) fun _ => rfl
theorem Rel.bl (R : Rel P σ H ts cs τ) (i : Bool) : Rel P σ H (.bl i :: ts) cs τ := R.push trivial (fun _ => rfl) fun _ => rfl
theorem Rel.str (R : Rel P σ H ts cs τ) (i : Str) : Rel P σ H (.str i :: ts) cs τ := R.push trivial (fun _ => rfl) fun _ => rfl
theorem Rel.non (R : Rel P σ H ts cs τ) : Rel P σ H (.non :: ts) cs τ := R.push trivial (fun _ => rfl) fun _ => rfl
theorem Rel.freeze (R : Rel P σ H (t :: ts) cs τ) : Rel P σ H (t.fz :: ts) cs τ := R.with R.sat.freeze
theorem Rel.less (R : Rel P σ H ts cs τ) (h1 : T.oks P.K H (ads cs) ts') (h3 : ∀ a, T.exs ts' a ≤ T.exs ts a ∧ T.shs ts' a ≤ T.shs ts a) : Rel P σ H ts' cs τ := by
  refine R.with (R.sat.less (T.oks_append.mpr ⟨h1, (T.oks_append.mp R.sat.ofr).2⟩) fun a => ?_)
  have := h3 a
  simp only [T.exs_append, T.shs_append]; omega
end

/-- an outcome -/
def Res {α : Type} (o : Out α) (k : α → S → Prop) (x : Exn → S → Prop) : Prop := match o with
  | .ok a s => k a s | .exc e s => x e s | .bad => False
theorem Res.bind {α β : Type} {o : Out α} {f : α → S → Out β} {k : β → S → Prop} {x : Exn → S → Prop} : Res (o.bind f) k x ↔ Res o (fun a s => Res (f a s) k x) x := by
  cases o <;> exact Iff.rfl
theorem Res.of {α : Type} {o : Option α} {s : S} {k : α → S → Prop} {x : Exn → S → Prop} : Res (Out.of o s) k x ↔ ∃ a, o = some a ∧ k a s := by
  cases o <;> simp [Res, Out.of]
theorem Res.mono {α : Type} {o : Out α} {k k' : α → S → Prop} {x x' : Exn → S → Prop} (h : Res o k x) (hk : ∀ a s, k a s → k' a s) (hx : ∀ e s, x e s → x' e s) : Res o k' x' := by
  cases o with
  | ok a s => exact hk _ _ h
  | exc e s => exact hx _ _ h
  | bad => exact h
def stt (cs : List G) (τ : List (Option T)) : S := ⟨ero τ, erc cs⟩
/-- an exception leaves the part that runs -/
def Bad (P : Par) (ts : List T) (x : Exn) (s : S) : Prop := ∀ σ cs' τ' H', s = stt cs' τ' → Rel P σ H' ts cs' τ' → P.wish x σ H'
theorem Bad.push {P : Par} {t : T} {ts : List T} {x : Exn} {s : S} (h : Bad P ts x s) : Bad P (t :: ts) x s := fun σ cs' τ' H' e R => h σ cs' τ' H' e R.drop
def tE (P : Par) (c : C) : TE := fun σ H Q => ∃ ts cs τ, Rel P σ H ts cs τ ∧
  Res (ev P.env c (stt cs τ)) (fun d s' => ∀ t cs' τ' H', t.er = d → s' = stt cs' τ' → Rel P σ H' (t :: ts) cs' τ' → Q t.val H') (Bad P ts)
def tA (P : Par) (es : List C) : TA := fun σ H Q => ∃ ts cs τ, Rel P σ H ts cs τ ∧
  Res (evs P.env es (stt cs τ)) (fun ds s' => ∀ us cs' τ' H', T.ers us = ds → s' = stt cs' τ' → Rel P σ H' (us ++ ts) cs' τ' → Q (us.map T.val) H') (Bad P ts)
def tT (P : Par) (c : C) : TT := fun σ H Q => ∃ ts cs τ, Rel P σ H ts cs τ ∧
  Res (evb P.env c (stt cs τ)) (fun b s' => ∀ cs' τ' H', s' = stt cs' τ' → Rel P σ H' ts cs' τ' → Q b H') (Bad P ts)

/-- a weaker reading -/
theorem PE_imp {X : Cx} {e : Expr} {t t' : TE} (h : PE X e t) (i : ∀ σ H Q, t' σ H Q → t σ H Q) : PE X e t' := ⟨fun pins s σ H Q I q => h.run pins s σ H Q I (i σ H Q q)⟩
theorem PT_imp {X : Cx} {e : Expr} {t t' : TT} (h : PT X e t) (i : ∀ σ H Q, t' σ H Q → t σ H Q) : PT X e t' := ⟨fun pins s σ H Q I q => h.run pins s σ H Q I (i σ H Q q)⟩
theorem PA_imp {X : Cx} {e : List Expr} {t t' : TA} (h : PA X e t) (i : ∀ σ H Q, t' σ H Q → t σ H Q) : PA X e t' := ⟨fun pos pins s σ H Q I q => h.run pos pins s σ H Q I (i σ H Q q)⟩
end PV

/-! PvW: dicts whose keys are tuples. -/
namespace PV
open PySem L2

theorem T.er_dct {t : T} {o : Bool} {ks l : List D} (h : t.er = .dct o ks l) : ∃ a kts ts, t = .dct o a kts ts ∧ T.ers kts = ks ∧ T.ers ts = l := by
  cases t <;> simp_all [T.er]
  exact ⟨_, _, _, ⟨rfl, rfl, rfl⟩, h.2.1, h.2.2⟩
theorem tkey_kb {d : D} (h : tkey d = true) : D.kb 8 d = true := by
  cases d <;> simp [tkey] at h
  simpa [D.kb] using h
theorem tkey_tup {t : T} (h : tkey t.er = true) : ∃ a l, t = .tup a l := by
  cases t <;> simp [T.er, tkey] at h
  exact ⟨_, _, rfl⟩
theorem tkey_eqv {x y : D} (h : tkey x = true) (g : tkey y = true) : D.eqv x y = decide (x.nk = y.nk) := by
  rw [D.kb_eqv x y 8 8 (tkey_kb h) (tkey_kb g), NestedKey.decide_eq]
section
variable {X : Cx} {P : Par} {K : KW} {pins : List (Addr × Obj)} {σ : St} {H : Hp} {s : Shared} {ad : List Addr} {A : Around} {E : Value → Shared → Prop}
mutual
/-- a tree's value is its key -/
theorem nest_of (hK : X.K = K.f) (I : Inv X pins σ H s) : ∀ (t : T) (n : Nat) (u : Value), t.ok K H ad → D.kb n t.er = true → RelV t.val u → NestedIs s.heap t.er.nk u
  | .non, _, u, _, _, r => by cases (show u = .none from r); exact .none
  | .int i, _, u, _, _, r => by obtain ⟨tk, rfl⟩ := r; exact .int _ _
  | .str x, _, u, _, _, r => by obtain ⟨tk, rfl⟩ := r; exact .text _ _
  | .tup a l, n, u, o, k, r => by
    cases n with
    | zero => simp [T.er, D.kb] at k
    | succ n =>
      simp only [T.er, D.kb] at k
      obtain ⟨its, rv, ⟨ob, e1, e2, m, e3⟩, _⟩ := I.tuple (hK ▸ o.1)
      cases (show u = .ref a from r)
      simp only [T.er, D.nk]
      exact .tup e1 e2 e3 (by simpa using nests_of hK I l n its o.2 k rv)
  | .bl _, n, _, _, k, _ => by cases n <;> simp [T.er, D.kb] at k
  | .lst _ _ _, n, _, _, k, _ => by cases n <;> simp [T.er, D.kb] at k
  | .scr _ _, n, _, _, k, _ => by cases n <;> simp [T.er, D.kb] at k
  | .dct _ _ _ _, n, _, _, k, _ => by cases n <;> simp [T.er, D.kb] at k
  | .set _ _ _, n, _, _, k, _ => by cases n <;> simp [T.er, D.kb] at k
  | .ref _ _, n, _, _, k, _ => by cases n <;> simp [T.er, D.kb] at k
theorem nests_of (hK : X.K = K.f) (I : Inv X pins σ H s) : ∀ (l : List T) (n : Nat) (us : List Value), T.oks K H ad l → D.kbs n (T.ers l) = true → Vals (l.map T.val) us → NestedAll s.heap (D.nks (T.ers l)) us
  | [], _, us, _, _, r => by cases r; exact .nil
  | x :: xs, n, us, o, k, r => by
    simp only [T.ers, D.kbs, Bool.and_eq_true] at k
    cases r with
    | cons r1 r2 => exact .cons (nest_of hK I x n _ o.1 k.1 r1) (nests_of hK I xs n _ o.2 k.2 r2)
end
theorem tkey_is (hK : X.K = K.f) (I : Inv X pins σ H s) {t : T} (o : t.ok K H ad) (k : tkey t.er = true) : (nestedKind X.prog X.w).is s.heap t.er.nk t.adr := by
  obtain ⟨a, l, rfl⟩ := tkey_tup k
  exact ⟨nest_of hK I _ 8 _ o (tkey_kb k) rfl, D.kb_depth _ 8 (tkey_kb k)⟩
theorem tkey_val {t : T} (k : tkey t.er = true) : t.val = .ref t.adr := by
  obtain ⟨a, l, rfl⟩ := tkey_tup k; rfl
theorem zip3_keys {α : Type} : ∀ (ks : List T) (us : List α), ks.length = us.length → (zip3 ((T.ers ks).map D.nk) (ks.map T.adr) us).map (·.1) = (T.ers ks).map D.nk
  | [], [], _ => rfl
  | [], _ :: _, h => by simp at h
  | _ :: _, [], h => by simp at h
  | k :: ks, u :: us, h => by
    simp only [T.ers, List.map_cons, zip3, zip3_keys ks us (by simpa using h)]
theorem zip3_mem {α : Type} {x : NestedKey × Addr × α} : ∀ (ks : List T) (us : List α), x ∈ zip3 ((T.ers ks).map D.nk) (ks.map T.adr) us → ∃ t ∈ ks, x.1 = t.er.nk ∧ x.2.1 = t.adr
  | [], us, h => by simp [zip3, T.ers] at h
  | k :: ks, [], h => by simp [zip3, T.ers] at h
  | k :: ks, u :: us, h => by
    simp only [T.ers, List.map_cons, zip3, List.mem_cons] at h
    rcases h with rfl | h
    · exact ⟨k, by simp, rfl, rfl⟩
    · obtain ⟨t, h1, h2⟩ := zip3_mem ks us h
      exact ⟨t, by simp [h1], h2⟩
theorem zip3_len {α : Type} : ∀ (ks : List T) (us : List α), ks.length = us.length → (zip3 ((T.ers ks).map D.nk) (ks.map T.adr) us).length = us.length
  | [], [], _ => rfl
  | [], _ :: _, h => by simp at h
  | _ :: _, [], h => by simp at h
  | k :: ks, u :: us, h => by
    simp only [T.ers, List.map_cons, zip3, List.length_cons, zip3_len ks us (by simpa using h)]
/-- the dict as the kit tells it -/
theorem raw_of (hK : X.K = K.f) (hW : X.prog = K.p ∧ X.w = K.w) (I : Inv X pins σ H s) {a : Addr} {ks : List T} {vs : List V} (o : T.oks K H ad ks) (hl : ks.length = vs.length) (tk : (T.ers ks).all tkey = true) (nd : ((T.ers ks).map D.nk).Nodup)
    (e : H a = some (RawO K.p K.w a ((T.ers ks).map D.nk) (ks.map T.adr) vs)) :
    vs.length ≤ sizeLine ∧ (a == sysModules) = false ∧ ∃ us, Vals vs us ∧ s.heap.DictOfH (nestedKind X.prog X.w) a (zip3 ((T.ers ks).map D.nk) (ks.map T.adr) us) := by
  rw [← hW.1, ← hW.2] at e
  obtain ⟨⟨z, hd, us, ob, es, ep, rv, e1, e2, e3, e4⟩, _⟩ := I.hok a _ e
  have hl' : ks.length = us.length := hl.trans rv.length
  refine ⟨z, hd, us, rv, ob, es, ep, e1, e2, e3, e4, fun x hx => ?_, by rw [zip3_keys ks us hl']; exact nd⟩
  obtain ⟨t, ht, h1, h2⟩ := zip3_mem ks us hx
  rw [h1, h2]
  refine tkey_is hK I (T.oks_iff.mp o t ht) (List.all_eq_true.mp tk _ ?_)
  rw [T.ers_map]; exact List.mem_map_of_mem ht
theorem raw_new {p : Program} {w : World} {H' : Hp} {h' : Heap} {a : Addr} {ks : List NestedKey} {as : List Addr} {vs : List V} {us : List Value} (z : vs.length ≤ sizeLine) (hd : (a == sysModules) = false) (rv : Vals vs us)
    (dd : h'.DictOfH (nestedKind p w) a (zip3 ks as us)) : ObjOk p w H' h' a (RawO p w a ks as vs) := by
  obtain ⟨o, es, ep, e1, e2, e3, e4, _, _⟩ := dd
  exact ⟨⟨z, hd, us, o, es, ep, rv, e1, e2, e3, e4⟩, ⟨o, e1⟩, fun h1 h2 ⟨z, hd, us, o, es, ep, rv, e, r⟩ k => ⟨z, hd, us, o, es, ep, rv, k _ e, r⟩⟩
theorem tk_ne_k {y : D} (h : tkey y = true) : kof y = none := by
  cases y <;> simp [tkey] at h; rfl
theorem kD_ne_t {a : Key} {y : D} (h : tkey y = true) : D.eqv (kD a) y = false := by
  cases y <;> simp [tkey] at h
  cases a <;> simp [kD, D.eqv]
theorem t_ne_k {x y : D} {k : Key} (h : tkey x = true) (g : kof y = some k) : D.eqv x y = false := by
  cases x <;> simp [tkey] at h
  cases y <;> simp [kof] at g <;> simp [D.eqv]
theorem dget_kt {y : D} (h : tkey y = true) : ∀ (kl : List Key) (vs : List D), dget (kl.map kD) vs y = none
  | [], _ => by simp [dget]
  | _ :: _, [] => by simp [dget]
  | k :: kl, v :: vs => by simp only [List.map_cons, dget, kD_ne_t h, Bool.false_eq_true, if_false]; exact dget_kt h kl vs
theorem dget_tk {y : D} {k : Key} (g : kof y = some k) : ∀ (kl : List D) (vs : List D), kl.all tkey = true → dget kl vs y = none
  | [], _, _ => by simp [dget]
  | _ :: _, [], _ => by simp [dget]
  | x :: kl, v :: vs, h => by
    simp only [List.all_cons, Bool.and_eq_true] at h
    simp only [dget, t_ne_k h.1 g, Bool.false_eq_true, if_false]; exact dget_tk g kl vs h.2
theorem atKey_cons {α : Type} [DecidableEq α] {x : α × Addr × Value} {xs : List (α × Addr × Value)} {k : α} : atKey (x :: xs) k = if x.1 = k then some x.2 else atKey xs k := by
  by_cases h : x.1 = k <;> simp [atKey, h]
theorem dget_t {y d : D} (h : tkey y = true) : ∀ (ks vs : List T) (us : List Value), (T.ers ks).all tkey = true → Vals (vs.map T.val) us → dget (T.ers ks) (T.ers vs) y = some d →
    ∃ t ∈ vs, t.er = d ∧ ∃ p, atKey (zip3 ((T.ers ks).map D.nk) (ks.map T.adr) us) y.nk = some p ∧ RelV t.val p.2
  | [], _, _, _, _, e => by simp [dget, T.ers] at e
  | _ :: _, [], _, _, _, e => by simp [dget, T.ers] at e
  | k :: ks, v :: vs, us, hk, rv, e => by
    simp only [T.ers, List.all_cons, Bool.and_eq_true] at hk
    simp only [T.ers, dget, tkey_eqv hk.1 h, decide_eq_true_eq] at e
    cases rv with
    | cons r1 r2 =>
      simp only [T.ers, List.map_cons, zip3, atKey_cons]
      by_cases q : k.er.nk = y.nk
      · rw [if_pos q] at e ⊢
        cases e
        exact ⟨v, by simp, rfl, _, rfl, r1⟩
      · rw [if_neg q] at e ⊢
        obtain ⟨t, h1, h2, h3⟩ := dget_t h ks vs _ hk.2 r2 e
        exact ⟨t, by simp [h1], h2, h3⟩
theorem any_t {y : D} (h : tkey y = true) : ∀ (ks : List T) (us : List Value), ks.length = us.length → (T.ers ks).all tkey = true → (atKey (zip3 ((T.ers ks).map D.nk) (ks.map T.adr) us) y.nk).isSome = (T.ers ks).any fun z => D.eqv z y
  | [], [], _, _ => rfl
  | [], _ :: _, h, _ => by simp at h
  | _ :: _, [], h, _ => by simp at h
  | k :: ks, u :: us, hl, hk => by
    simp only [T.ers, List.all_cons, Bool.and_eq_true] at hk
    simp only [T.ers, List.map_cons, zip3, atKey_cons, List.any_cons, tkey_eqv hk.1 h]
    by_cases q : k.er.nk = y.nk
    · rw [if_pos q, decide_eq_true q]; rfl
    · rw [if_neg q, decide_eq_false q, Bool.false_or]; exact any_t h ks us (by simpa using hl) hk.2
theorem nroom (hu : A.units + 10 < cLine) : (nestedKind X.prog X.w).room A.in1 := by
  show A.in1.units + 8 < cLine
  have : A.in1.units = A.units + 1 := rfl
  omega
theorem any_k {y : D} {k : Key} (g : kof y = some k) : ∀ (kl : List Key) (vs : List V), kl.length = vs.length → (valV (kl.zip vs) k).isSome = (kl.map kD).any fun z => D.eqv z y
  | [], [], _ => rfl
  | [], _ :: _, h => by simp at h
  | _ :: _, [], h => by simp at h
  | a :: kl, v :: vs, hl => by
    have e : D.eqv (kD a) y = decide (a = k) := by
      unfold kof at g
      split at g
      · cases g
        cases a with
        | inl i => simp only [kD, D.eqv]; rw [Bool.eq_iff_iff]; simp
        | inr x => simp [kD, D.eqv]
      · cases g
        cases a with
        | inl i => simp [kD, D.eqv]
        | inr x => simp only [kD, D.eqv]; rw [Bool.eq_iff_iff]; simp
      · cases g
    rw [List.map_cons, List.any_cons, e, List.zip_cons_cons]
    by_cases q : a = k
    · rw [valV_pos (p := (a, v)) q, decide_eq_true q]; rfl
    · rw [valV_neg (p := (a, v)) q, decide_eq_false q, Bool.false_or]; exact any_k g kl vs (by simpa using hl)
/-- y in d -/
theorem inD_both (hK : X.K = P.K.f) (hW : X.prog = P.K.p ∧ X.w = P.K.w) (hu : A.units + 10 < cLine) (I : Inv X pins σ H s) {o : Bool} {a : Addr} {ks l : List T} {ad' : List Addr} {t : T} {v : Value} (o2 : (T.dct o a ks l).ok P.K H ad) (o1 : t.ok P.K H ad')
    (hk : kask (T.ers ks) t.er = true) (rx : RelV t.val v) :
    (∃ kvs k, H a = some (.dK kvs) ∧ t.val = kV k ∧ (valV kvs k).isSome = (T.ers ks).any fun z => D.eqv z t.er) ∨
    ((a == sysModules) = false ∧ ∃ xs, v = .ref t.adr ∧ (nestedKind X.prog X.w).is s.heap t.er.nk t.adr ∧ s.heap.DictOfH (nestedKind X.prog X.w) a xs ∧ (atKey xs t.er.nk).isSome = (T.ers ks).any fun z => D.eqv z t.er) := by
  obtain ⟨hd, _, ok, _⟩ := o2
  unfold kask at hk
  split at hk
  · rename_i ht
    rcases hd with ⟨kl, e1, e2, e3⟩ | ⟨e0, e1, e2, e3, e4⟩
    · rw [e1] at hk
      cases kl with
      | nil =>
        cases l <;> simp at e2
        have e0 : T.ers ks = [] := by simpa using e1
        have ek : ks = [] := by cases ks <;> simp [T.ers] at e0; rfl
        subst ek
        obtain ⟨z, hs, vs, rel, ob, es, ep, g1, g2, g3, _, g4, _⟩ := dk_of I.hok e3
        simp at rel
        cases rel
        have g4' : es.toList = [] := by generalize es.toList = l at g4; cases g4; rfl
        refine .inr ⟨hs, [], ?_, tkey_is hK I o1 ht, ⟨ob, es, ep, g1, g2, g3, g4', fun x hx => (by cases hx), List.nodup_nil⟩, rfl⟩
        rw [tkey_val ht] at rx; exact rx
      | cons k kl => cases k <;> simp [kD, tkey] at hk
    · obtain ⟨z, hs, us, rv, dd⟩ := raw_of hK hW I ok (by simpa using e1) e2 e3 e4
      rw [tkey_val ht] at rx
      have hl : ks.length = us.length := by have := rv.length; simp at this e1; omega
      exact .inr ⟨hs, _, rx, tkey_is hK I o1 ht, dd, any_t ht ks us hl e2⟩
  · rename_i ht
    simp only [Bool.and_eq_true] at hk
    obtain ⟨kk, hkk⟩ := Option.isSome_iff_exists.mp hk.1
    rcases hd with ⟨kl, e1, e2, e3⟩ | ⟨e0, e1, e2, e3, e4⟩
    · have hv : t.val = kV kk := by
        cases t <;> simp [T.er, kof] at hkk <;> subst hkk <;> rfl
      refine .inl ⟨_, kk, e3, hv, ?_⟩
      rw [any_k hkk kl _ e2, e1]
    · cases ks with
      | nil => exact absurd rfl e0
      | cons k ks =>
        simp only [T.ers, List.all_cons, Bool.and_eq_true] at e2 hk
        obtain ⟨a, l, rfl⟩ := tkey_tup e2.1
        simp [T.er, kof] at hk
theorem d_inD {Q : Value → Shared → Prop} (hK : X.K = P.K.f) (hW : X.prog = P.K.p ∧ X.w = P.K.w) (hu : A.units + 10 < cLine) (I : Inv X pins σ H s) {o : Bool} {a : Addr} {ks l : List T} {ad' : List Addr} {t : T} {v : Value} (o2 : (T.dct o a ks l).ok P.K H ad) (o1 : t.ok P.K H ad')
    (hk : kask (T.ers ks) t.er = true) (rx : RelV t.val v) (h : ∀ s', Inv X pins σ H s' → Q (.bool ((T.ers ks).any fun z => D.eqv z t.er)) s') : wpAny (model X.prog X.w) A (compareOp .In v (.ref a)) Q E s := by
  rcases inD_both hK hW hu I o2 o1 hk rx with ⟨kvs, k, e, ev, ek⟩ | ⟨hs, xs, rfl, hkey, dd, ek⟩
  · exact d_in (o := valV kvs k) (by omega) I (.inl ⟨kvs, k, .inl e, ev, rfl⟩) rx fun s' I' => by rw [ek]; exact h s' I'
  · refine wpAny_in_heap (nroom hu) hkey hs dd ?_
    rw [ek]; exact h _ (I.tok _)
theorem d_notInD {Q : Value → Shared → Prop} (hK : X.K = P.K.f) (hW : X.prog = P.K.p ∧ X.w = P.K.w) (hu : A.units + 10 < cLine) (I : Inv X pins σ H s) {o : Bool} {a : Addr} {ks l : List T} {ad' : List Addr} {t : T} {v : Value} (o2 : (T.dct o a ks l).ok P.K H ad) (o1 : t.ok P.K H ad')
    (hk : kask (T.ers ks) t.er = true) (rx : RelV t.val v) (h : ∀ s', Inv X pins σ H s' → Q (.bool (!((T.ers ks).any fun z => D.eqv z t.er))) s') : wpAny (model X.prog X.w) A (compareOp .NotIn v (.ref a)) Q E s := by
  rcases inD_both hK hW hu I o2 o1 hk rx with ⟨kvs, k, e, ev, ek⟩ | ⟨hs, xs, rfl, hkey, dd, ek⟩
  · exact d_notIn (o := valV kvs k) (by omega) I (.inl ⟨kvs, k, .inl e, ev, rfl⟩) rx fun s' I' => by rw [ek]; exact h s' I'
  · refine wpAny_bind (m := contains _ _) (wpAny_contains_heap (nroom hu) hkey hs dd ?_)
    rw [ek]; exact wpAny_pure (h _ (I.tok _))
theorem kD_eqv {a kk : Key} {y : D} (h : kof y = some kk) : D.eqv (kD a) y = decide (a = kk) := by
  unfold kof at h
  split at h
  · cases h
    cases a with
    | inl i => simp only [kD, D.eqv]; rw [Bool.eq_iff_iff]; simp
    | inr x => simp [kD, D.eqv]
  · cases h
    cases a with
    | inl i => simp [kD, D.eqv]
    | inr x => simp only [kD, D.eqv]; rw [Bool.eq_iff_iff]; simp
  · cases h
theorem kof_val {t2 : T} {kk : Key} (h : kof t2.er = some kk) : t2.val = kV kk := by
  cases t2 <;> simp [T.er, kof] at h <;> subst h <;> rfl
theorem dget_val {kk : Key} {y d : D} (h : kof y = some kk) : ∀ {kl : List Key} {vs : List T}, kl.length = vs.length → dget (kl.map kD) (T.ers vs) y = some d → ∃ t ∈ vs, T.er t = d ∧ valV (kl.zip (vs.map T.val)) kk = some t.val
  | [], [], _, e => by simp [dget, T.ers] at e
  | a :: kl, t :: vs, hl, e => by
    simp only [List.map_cons, T.ers, dget, kD_eqv h, decide_eq_true_eq] at e
    by_cases q : a = kk
    · rw [if_pos q] at e
      cases e
      exact ⟨t, by simp, rfl, by rw [List.map_cons, List.zip_cons_cons, valV_pos q]⟩
    · rw [if_neg q] at e
      obtain ⟨t', h1, h2, h3⟩ := dget_val h (by simpa using hl) e
      exact ⟨t', by simp [h1], h2, by rw [List.map_cons, List.zip_cons_cons, valV_neg q]; exact h3⟩
/-- d[y] -/
theorem d_getD (hK : X.K = P.K.f) (hW : X.prog = P.K.p ∧ X.w = P.K.w) (hu : A.units + 10 < cLine) (I : Inv X pins σ H s) {o : Bool} {a : Addr} {ks l : List T} {ad' : List Addr} {t : T} {v : Value} {d : D} (o2 : (T.dct o a ks l).ok P.K H ad) (o1 : t.ok P.K H ad')
    (hk : ((kof t.er).isSome || tkey t.er) = true) (hd : dget (T.ers ks) (T.ers l) t.er = some d) (rx : RelV t.val v) :
    ∃ t' ∈ l, t'.er = d ∧ s.TypeIs (.ref a) "dict" ∧ ∀ (Q : Value → Shared → Prop), (∀ w' s', Inv X pins σ H s' → RelV t'.val w' → Q w' s') → wpAny (model X.prog X.w) A (getItem (.ref a) v) Q E s := by
  obtain ⟨hdk, _, ok, _⟩ := o2
  rcases hdk with ⟨kl, e1, e2, e3⟩ | ⟨e0, e1, e2, e3, e4⟩
  · rw [e1] at hd
    cases hkk : kof t.er with
    | none =>
      rw [hkk] at hk
      rw [dget_kt (by simpa using hk)] at hd
      cases hd
    | some kk =>
      obtain ⟨t', hm, et, hv⟩ := dget_val hkk (by simpa using e2) hd
      have g : DGet H a t.val (some t'.val) := by rw [kof_val hkk, ← hv]; exact .k e3
      exact ⟨t', hm, et, dict_typeIs I g, fun Q q => d_getItem (by omega) I g rx q⟩
  · cases hkk : kof t.er with
    | some kk => rw [dget_tk hkk _ _ e2] at hd; cases hd
    | none =>
      rw [hkk] at hk
      have ht : tkey t.er = true := by simpa using hk
      obtain ⟨z, hs, us, rv, dd⟩ := raw_of hK hW I ok (by simpa using e1) e2 e3 e4
      obtain ⟨t', hm, et, p, hp, rp⟩ := dget_t ht ks l us e2 rv hd
      rw [tkey_val ht] at rx
      cases (show v = Value.ref _ from rx)
      exact ⟨t', hm, et, dd.typeIs, fun Q q => wpAny_getItem_heap (nroom hu) (tkey_is hK I o1 ht) dd hp (q _ _ (I.tok _) rp)⟩
theorem dk_nilH {K' : Type} [DecidableEq K'] {knd : HeapKind X.prog X.w K'} {a : Addr} (I : Inv X pins σ H s) (e : H a = some (.dK [])) : (a == sysModules) = false ∧ s.heap.DictOfH knd a [] := by
  obtain ⟨z, hs, vs, rel, ob, es, ep, g1, g2, g3, _, g4, _⟩ := dk_of I.hok e
  cases rel
  have g4' : es.toList = [] := by generalize es.toList = l at g4; cases g4; rfl
  exact ⟨hs, ob, es, ep, g1, g2, g3, g4', fun x hx => (by cases hx), List.nodup_nil⟩
theorem storedAllH_new {K' : Type} [DecidableEq K'] : ∀ (ps acc : List (K' × Addr × Value)), (∀ k ∈ ps.map (·.1), k ∉ acc.map (·.1)) → (ps.map (·.1)).Nodup → storedAllH acc ps = acc ++ ps
  | [], acc, _, _ => by simp [storedAllH]
  | p :: r, acc, h, hn => by
    have hn := List.nodup_cons.mp hn
    have h0 : atKey acc p.1 = none := by
      have := h p.1 (by simp)
      unfold atKey
      rw [Option.map_eq_none_iff, List.find?_eq_none]
      intro x hx
      simp only [decide_eq_true_eq]
      rintro e
      exact this (e ▸ List.mem_map_of_mem hx)
    show storedAllH (storedH acc p.1 p.2.1 p.2.2) r = _
    rw [storedH_new h0, storedAllH_new r _ (fun k hk => ?_) hn.2]
    · simp
    · rw [List.map_append, List.mem_append]
      rintro (q | q)
      · exact h k (by simp only [List.map_cons, List.mem_cons]; exact .inr hk) q
      · simp at q
        subst q; exact hn.1 hk
theorem carriesT (hK : X.K = K.f) (I : Inv X pins σ H s) : ∀ (ks : List T) (vs : List V) (ws : List (Value × Value)), ks.length = vs.length → T.oks K H ad ks → (T.ers ks).all tkey = true → VV ((ks.map T.val).zip vs) ws →
    ∃ us, Vals vs us ∧ CarriesH (nestedKind X.prog X.w) s.heap ws (zip3 ((T.ers ks).map D.nk) (ks.map T.adr) us)
  | [], [], ws, _, _, _, r => by cases r; exact ⟨[], .nil, trivial⟩
  | [], _ :: _, _, h, _, _, _ => by simp at h
  | _ :: _, [], _, h, _, _, _ => by simp at h
  | k :: ks, v :: vs, ws, hl, o, tk, r => by
    simp only [T.ers, List.all_cons, Bool.and_eq_true] at tk
    rw [List.map_cons, List.zip_cons_cons] at r
    cases r with
    | @cons _ q _ qs r1 r2 =>
      obtain ⟨us, rv, c⟩ := carriesT hK I ks vs qs (by simpa using hl) o.2 tk.2 r2
      have r11 := r1.1
      rw [tkey_val tk.1] at r11
      refine ⟨q.2 :: us, .cons r1.2 rv, ?_⟩
      simp only [T.ers, List.map_cons, zip3]
      exact ⟨r11, rfl, tkey_is hK I o.1 tk.1, c⟩
/-- {k: v, ..} with keys that are tuples -/
def tDispT (K : KW) (trs : List (TE × TE)) : TE := fun σ H Q => ∀ p, H p = none → tPairs trs σ (upd H p (.dK [])) fun ps H2 => H2 p = some (.dK []) ∧ ∃ (ks : List T) (vs : List V) (ad : List Addr), ps = (ks.map T.val).zip vs ∧ ks.length = vs.length ∧ vs.length ≤ 15 ∧
  T.oks K H2 ad ks ∧ (T.ers ks).all tkey = true ∧ ((T.ers ks).map D.nk).Nodup ∧ Q (.ref p) (upd H2 p (RawO K.p K.w p ((T.ers ks).map D.nk) (ks.map T.adr) vs))
theorem pe_dispT {pos : Pos} {keys : List (Option Expr)} {values : List Expr} {trs : List (TE × TE)} (hK : X.K = K.f) (hW : X.prog = K.p ∧ X.w = K.w) (hu : X.A.units + 10 < cLine) (h : PPs X pos keys values trs) (hall : keys.all (·.isSome) = true) (hl : keys.length = values.length) (h0 : keys ≠ [])
    (h15 : keys.length ≤ 15) : PE X (.Dict keys values pos) (tDispT K trs) := by
  refine ⟨fun pins s σ H Q I q => ?_⟩
  have hn := I.hok.fresh (Nat.le_refl s.heap.objs.size)
  have I1 := I.laid (a := s.heap.objs.size) (o := .dK []) (h' := s.heap.push { cls := .type "dict", data := .dict #[] }) (t' := s.toks) (fun _ _ q => Heap.get?_push_of_some _ q) (Nat.le_refl _) (dk_empty s.heap I.big)
  have hp := pairTrees_length keys values X.env pos hall hl
  have hp0 : pairTrees keys values X.env pos ≠ [] := by
    intro he
    rw [he] at hp
    exact h0 (List.length_eq_zero_iff.mp hp.symm)
  rw [arm_eval_Dict, zip_pairTrees keys values X.env pos hall hl, dictDisplay_pairs _ hp0 (by omega)]
  refine wpAny_bind (wpAny_standAt (wpAny_bind (wpAny_subDictH (knd := nestedKind X.prog X.w) (Q := fun d s' => wpAny (model X.prog X.w) X.A (pure (Value.ref d)) _ X.xe s') (show X.A.units + 8 < cLine by omega) (by omega)
    (thn (h.run pins _ σ _ _ I1 (q _ hn)) fun ws s2 ⟨ps, H2, I2, rel, e, ks, vs, ad, ep, h1, h2, o, tk, nd, q2⟩ => ?_))))
  subst ep
  obtain ⟨us, rv, c⟩ := carriesT hK I2 ks vs ws h1 o tk rel
  have hlu : ks.length = us.length := h1.trans rv.length
  obtain ⟨hs, dd⟩ := dk_nilH (knd := nestedKind X.prog X.w) I2 e
  refine ⟨_, c, dd, fun h' tk' dd' hsb => wpAny_pure ⟨.ref s.heap.objs.size, _, ?_, rfl, q2⟩⟩
  rw [storedAllH_new _ [] (fun _ _ z => by cases z) (by rw [zip3_keys ks us hlu]; exact nd), List.nil_append] at dd'
  have he : ∃ q, h'.get? s.heap.objs.size = some q := let ⟨q, _, _, hq, _⟩ := dd'; ⟨q, hq⟩
  rw [← hW.1, ← hW.2]
  exact d_write I2 (by rw [e]; exact True.intro) hsb he (raw_new (by rw [sizeLine_eq]; omega) hs rv dd')
end
end PV

/-! PvW1: sets of tuples. -/
namespace PV
open PySem L2
mutual
theorem nk_inj : ∀ (x y : D) (n m : Nat), D.kb n x = true → D.kb m y = true → x.nk = y.nk → x = y
  | .tup l, y, n, m, h, g, e => by
    cases y with
    | tup k =>
      cases n with
      | zero => simp [D.kb] at h
      | succ n =>
        cases m with
        | zero => simp [D.kb] at g
        | succ m =>
          simp only [D.kb] at h g
          simp only [D.nk, NestedKey.tup.injEq] at e
          rw [nks_inj l k n m h g e]
    | int _ => simp [D.nk] at e
    | str _ => simp [D.nk] at e
    | non => simp [D.nk] at e
    | _ => cases m <;> simp [D.kb] at g
  | .int i, y, n, m, h, g, e => by cases y <;> simp_all [D.nk]
  | .str i, y, n, m, h, g, e => by cases y <;> simp_all [D.nk]
  | .non, y, n, m, h, g, e => by cases y <;> first | rfl | (simp [D.nk] at e; done) | (cases m <;> simp [D.kb] at g)
  | .bl _, _, n, _, h, _, _ => by cases n <;> simp [D.kb] at h
  | .lst _ _, _, n, _, h, _, _ => by cases n <;> simp [D.kb] at h
  | .scr _, _, n, _, h, _, _ => by cases n <;> simp [D.kb] at h
  | .dct _ _ _, _, n, _, h, _, _ => by cases n <;> simp [D.kb] at h
  | .set _ _, _, n, _, h, _, _ => by cases n <;> simp [D.kb] at h
  | .ref _, _, n, _, h, _, _ => by cases n <;> simp [D.kb] at h
theorem nks_inj : ∀ (l k : List D) (n m : Nat), D.kbs n l = true → D.kbs m k = true → D.nks l = D.nks k → l = k
  | [], [], _, _, _, _, _ => rfl
  | [], _ :: _, _, _, _, _, e => by simp [D.nks] at e
  | _ :: _, [], _, _, _, _, e => by simp [D.nks] at e
  | x :: xs, y :: ys, n, m, h, g, e => by
    simp only [D.kbs, Bool.and_eq_true] at h g
    simp only [D.nks, List.cons.injEq] at e
    rw [nk_inj x y n m h.1 g.1 e.1, nks_inj xs ys n m h.2 g.2 e.2]
end
theorem tkey_inj {x y : D} (h : tkey x = true) (g : tkey y = true) (e : x.nk = y.nk) : x = y := nk_inj x y 8 8 (tkey_kb h) (tkey_kb g) e
mutual
theorem okF_of {K : KW} {H : Hp} {ad : List Addr} : ∀ (t : T) (n : Nat), t.ok K H ad → D.kb n t.er = true → T.okF K.f H t
  | .tup a l, n, o, h => by
    cases n with
    | zero => simp [T.er, D.kb] at h
    | succ n => simp only [T.er, D.kb] at h; exact ⟨o.1, okFs_of l n o.2 h⟩
  | .non, _, _, _ => trivial | .int _, _, _, _ => trivial | .str _, _, _, _ => trivial | .bl _, _, _, _ => trivial
  | .lst _ _ _, n, _, h => by cases n <;> simp [T.er, D.kb] at h
  | .scr _ _, n, _, h => by cases n <;> simp [T.er, D.kb] at h
  | .dct _ _ _ _, n, _, h => by cases n <;> simp [T.er, D.kb] at h
  | .set _ _ _, n, _, h => by cases n <;> simp [T.er, D.kb] at h
  | .ref _ _, n, _, h => by cases n <;> simp [T.er, D.kb] at h
theorem okFs_of {K : KW} {H : Hp} {ad : List Addr} : ∀ (l : List T) (n : Nat), T.oks K H ad l → D.kbs n (T.ers l) = true → T.okFs K.f H l
  | [], _, _, _ => trivial
  | x :: xs, n, o, h => by
    simp only [T.ers, D.kbs, Bool.and_eq_true] at h
    exact ⟨okF_of x n o.1 h.1, okFs_of xs n o.2 h.2⟩
end
mutual
theorem okF_ok {K : KW} {H : Hp} (ad : List Addr) : ∀ (t : T), T.okF K.f H t → t.ok K H ad
  | .tup a l, o => ⟨o.1, okFs_ok ad l o.2⟩
  | .non, _ => trivial | .int _, _ => trivial | .str _, _ => trivial | .bl _, _ => trivial
  | .lst _ _ _, o => o.elim | .scr _ _, o => o.elim | .dct _ _ _ _, o => o.elim | .set _ _ _, o => o.elim | .ref _ _, o => o.elim
theorem okFs_ok {K : KW} {H : Hp} (ad : List Addr) : ∀ (l : List T), T.okFs K.f H l → T.oks K H ad l
  | [], _ => trivial
  | x :: xs, o => ⟨okF_ok ad x o.1, okFs_ok ad xs o.2⟩
end
theorem okFs_iff {f : PySem.W.Frag} {H : Hp} {l : List T} : T.okFs f H l ↔ ∀ t ∈ l, T.okF f H t := by
  induction l with
  | nil => simp [T.okFs]
  | cons x xs ih => simp [T.okFs, ih]
mutual
theorem okF_z : ∀ (t : T) {f : PySem.W.Frag} {H : Hp} (a : Addr), T.okF f H t → t.ex a = 0 ∧ t.sh a = 0
  | .tup _ l, f, H, a, o => by simp only [T.ex, T.sh]; exact okFs_z l a o.2
  | .non, _, _, _, _ => ⟨rfl, rfl⟩ | .int _, _, _, _, _ => ⟨rfl, rfl⟩ | .str _, _, _, _, _ => ⟨rfl, rfl⟩ | .bl _, _, _, _, _ => ⟨rfl, rfl⟩
  | .lst _ _ _, _, _, _, o => o.elim | .scr _ _, _, _, _, o => o.elim | .dct _ _ _ _, _, _, _, o => o.elim | .set _ _ _, _, _, _, o => o.elim | .ref _ _, _, _, _, o => o.elim
theorem okFs_z : ∀ (l : List T) {f : PySem.W.Frag} {H : Hp} (a : Addr), T.okFs f H l → T.exs l a = 0 ∧ T.shs l a = 0
  | [], _, _, _, _ => ⟨rfl, rfl⟩
  | x :: xs, f, H, a, o => by
    have h1 := okF_z x a o.1; have h2 := okFs_z xs a o.2
    simp only [T.exs, T.shs]; omega
end
/-! each once -/
def ddStep (σ : List D) (k : D) : List D := if σ.any (fun z => D.eqv z k) then σ else σ ++ [k]
theorem dd_step (σ : List D) (k : D) : (∀ x ∈ ddStep σ k, x ∈ σ ∨ x = k) ∧ (∀ x ∈ σ, x ∈ ddStep σ k) ∧ (∃ x ∈ ddStep σ k, x = k ∨ D.eqv x k = true) := by
  unfold ddStep
  split
  · rename_i h
    obtain ⟨x, hx, e⟩ := List.any_eq_true.mp h
    exact ⟨fun x hx => .inl hx, fun x hx => hx, x, hx, .inr e⟩
  · exact ⟨fun x hx => by simpa using hx, fun x hx => by simp [hx], k, by simp, .inl rfl⟩
theorem dd_fold : ∀ (l σ : List D), (∀ x ∈ l.foldl ddStep σ, x ∈ σ ∨ x ∈ l) ∧ (∀ x ∈ σ, x ∈ l.foldl ddStep σ) ∧ ∀ k ∈ l, ∃ x ∈ l.foldl ddStep σ, x = k ∨ D.eqv x k = true
  | [], σ => ⟨fun x hx => .inl hx, fun x hx => hx, fun k hk => by cases hk⟩
  | k :: l, σ => by
    obtain ⟨h1, h2, x, hx, e⟩ := dd_step σ k
    obtain ⟨g1, g2, g3⟩ := dd_fold l (ddStep σ k)
    refine ⟨fun x hx => ?_, fun x hx => g2 x (h2 x hx), fun j hj => ?_⟩
    · rcases g1 x hx with h | h
      · rcases h1 x h with h | h
        · exact .inl h
        · exact .inr (by simp [h])
      · exact .inr (by simp [h])
    · rcases List.mem_cons.mp hj with rfl | hj
      · exact ⟨x, g2 x hx, e⟩
      · exact g3 j hj
theorem dd_nodup : ∀ (l σ : List D), (∀ x ∈ l, tkey x = true) → (∀ x ∈ σ, tkey x = true) → (σ.map D.nk).Nodup → ((l.foldl ddStep σ).map D.nk).Nodup
  | [], σ, _, _, h => h
  | k :: l, σ, hl, hs, h => by
    refine dd_nodup l (ddStep σ k) (fun x hx => hl x (by simp [hx])) (fun x hx => ?_) ?_
    · rcases (dd_step σ k).1 x hx with h | h
      · exact hs x h
      · rw [h]; exact hl k (by simp)
    · unfold ddStep
      split
      · exact h
      · rename_i hn
        rw [List.map_append, List.nodup_append]
        refine ⟨h, by simp, fun a ha b hb => ?_⟩
        rw [List.map_cons, List.map_nil, List.mem_singleton] at hb
        rintro rfl
        obtain ⟨x, hx, e⟩ := List.mem_map.mp ha
        refine hn (List.any_eq_true.mpr ⟨x, hx, ?_⟩)
        rw [tkey_eqv (hs x hx) (hl k (by simp)), decide_eq_true_eq, e, hb]
theorem dedup_fold (l : List D) : dedupD l = l.foldl ddStep [] := rfl
theorem dedup_mem {l : List D} (hl : ∀ x ∈ l, tkey x = true) {x : D} : x ∈ dedupD l ↔ x ∈ l := by
  rw [dedup_fold]
  obtain ⟨h1, _, h3⟩ := dd_fold l []
  constructor
  · intro h
    rcases h1 x h with h | h
    · cases h
    · exact h
  · intro h
    obtain ⟨y, hy, e⟩ := h3 x h
    rcases e with rfl | e
    · exact hy
    · have ty : tkey y = true := by
        rcases h1 y hy with h | h
        · cases h
        · exact hl y h
      rw [tkey_eqv ty (hl x h), decide_eq_true_eq] at e
      rw [← tkey_inj ty (hl x h) e]; exact hy
theorem dedup_nodup {l : List D} (hl : ∀ x ∈ l, tkey x = true) : ((dedupD l).map D.nk).Nodup := dd_nodup l [] hl (by simp) (by simp)
theorem nodup_map {α β : Type} {f : α → β} {l : List α} (h : (l.map f).Nodup) : l.Nodup := List.Pairwise.of_map f (fun _ _ hne e => hne (congrArg f e)) h
section
variable {X : Cx} {P : Par} {K : KW} {pins : List (Addr × Obj)} {σ : St} {H : Hp} {s : Shared} {ad : List Addr} {A : Around} {E : Value → Shared → Prop}
theorem keys_at (hK : X.K = K.f) (I : Inv X pins σ H s) {ts : List T} (o : T.okFs K.f H ts) (tk : (T.ers ts).all tkey = true) : KeysAt s.heap (ts.map fun t => (t.adr, t.er.nk)) := by
  intro p hp
  obtain ⟨t, ht, rfl⟩ := List.mem_map.mp hp
  exact tkey_is (ad := []) hK I (okF_ok [] t (okFs_iff.mp o t ht)) (List.all_eq_true.mp tk _ (by rw [T.ers_map]; exact List.mem_map_of_mem ht))
/-- the set as PvA1 tells it -/
theorem kset_of (hK : X.K = K.f) (hW : X.prog = K.p ∧ X.w = K.w) (I : Inv X pins σ H s) {a : Addr} {l : List D} (o : StO K H a l) (tk : l.all tkey = true) :
    (∃ ts : List T, (T.ers ts).Perm l ∧ T.okFs K.f H ts ∧ (T.ers ts).all tkey = true ∧ H a = some (SetNO X.w a (ts.map fun t => (t.adr, t.er.nk))) ∧ (∃ es ep t, KSet0 X.w s.heap a (ts.map fun t => (t.adr, t.er.nk)) es ep t) ∧ KeysAt s.heap (ts.map fun t => (t.adr, t.er.nk))) := by
  rcases o with ⟨il, e0, rfl, _⟩ | ⟨ts, e1, e2, e3, e4⟩
  · cases il with
    | nil => exact absurd rfl e0
    | cons i il => simp [tkey] at tk
  · have tk' : (T.ers ts).all tkey = true := by
      rw [List.all_eq_true] at tk ⊢
      exact fun x hx => tk x (e1.mem_iff.mp hx)
    rw [← hW.2] at e4
    exact ⟨ts, e1, e2, tk', e4, (I.hok a _ e4).1, keys_at hK I e2 tk'⟩
theorem s_has (hK : X.K = P.K.f) (hW : X.prog = P.K.p ∧ X.w = P.K.w) (hu : A.units + 20 < cLine) (I : Inv X pins σ H s) {a : Addr} {l : List D} {ad' : List Addr} {t : T} {v : Value} {Q : Bool → Shared → Prop} (o2 : StO P.K H a l) (o1 : t.ok P.K H ad')
    (h1 : tkey t.er = true) (h2 : l.all tkey = true) (rx : RelV t.val v) (h : ∀ s', Inv X pins σ H s' → Q (l.any fun z => D.eqv z t.er) s') : wpAny (model X.prog X.w) A (contains (.ref a) v) Q E s := by
  obtain ⟨ts, e1, e2, e3, e4, ⟨es, ep, tt, R⟩, hL⟩ := kset_of hK hW I o2 h2
  rw [tkey_val h1] at rx
  cases (show v = Value.ref t.adr from rx)
  refine holds_key R hL (tkey_is hK I o1 h1) (by omega) ?_
  have : decide (t.er.nk ∈ (ts.map fun t => (t.adr, t.er.nk)).map (·.2)) = l.any fun z => D.eqv z t.er := by
    rw [Bool.eq_iff_iff, decide_eq_true_eq, List.any_eq_true, List.map_map]
    constructor
    · intro hm
      obtain ⟨u, hu, e⟩ := List.mem_map.mp hm
      have hm : u.er ∈ T.ers ts := by rw [T.ers_map]; exact List.mem_map_of_mem hu
      refine ⟨u.er, e1.mem_iff.mp hm, ?_⟩
      rw [tkey_eqv (List.all_eq_true.mp e3 _ hm) h1, decide_eq_true_eq]; exact e
    · rintro ⟨z, hz, e⟩
      have hm := e1.mem_iff.mpr hz
      rw [tkey_eqv (List.all_eq_true.mp e3 _ hm) h1, decide_eq_true_eq] at e
      rw [T.ers_map] at hm
      obtain ⟨u, hu, rfl⟩ := List.mem_map.mp hm
      exact List.mem_map.mpr ⟨u, hu, e⟩
  rw [this]
  exact h _ (I.tok _)
theorem s_in {Q : Value → Shared → Prop} (hK : X.K = P.K.f) (hW : X.prog = P.K.p ∧ X.w = P.K.w) (hu : A.units + 20 < cLine) (I : Inv X pins σ H s) {a : Addr} {l : List D} {ad' : List Addr} {t : T} {v : Value} (o2 : StO P.K H a l) (o1 : t.ok P.K H ad')
    (h1 : tkey t.er = true) (h2 : l.all tkey = true) (rx : RelV t.val v) (h : ∀ s', Inv X pins σ H s' → Q (.bool (l.any fun z => D.eqv z t.er)) s') : wpAny (model X.prog X.w) A (compareOp .In v (.ref a)) Q E s :=
  wpAny_bind (m := contains _ _) (s_has hK hW hu I o2 o1 h1 h2 rx fun s' I' => wpAny_pure (h s' I'))
theorem s_notIn {Q : Value → Shared → Prop} (hK : X.K = P.K.f) (hW : X.prog = P.K.p ∧ X.w = P.K.w) (hu : A.units + 20 < cLine) (I : Inv X pins σ H s) {a : Addr} {l : List D} {ad' : List Addr} {t : T} {v : Value} (o2 : StO P.K H a l) (o1 : t.ok P.K H ad')
    (h1 : tkey t.er = true) (h2 : l.all tkey = true) (rx : RelV t.val v) (h : ∀ s', Inv X pins σ H s' → Q (.bool (!l.any fun z => D.eqv z t.er)) s') : wpAny (model X.prog X.w) A (compareOp .NotIn v (.ref a)) Q E s :=
  wpAny_bind (m := contains _ _) (s_has hK hW hu I o2 o1 h1 h2 rx fun s' I' => wpAny_pure (h s' I'))
end
/-! the order is told -/
mutual
theorem tri : ∀ (x y : D) (n m : Nat), D.ali x y = true → D.kb n x = true → D.kb m y = true → D.lt x y = false → D.lt y x = false → x = y
  | .tup l, y, n, m, a, h, g, e, f => by
    cases y <;> simp only [D.ali, Bool.false_eq_true] at a
    rename_i k
    cases n with
    | zero => simp [D.kb] at h
    | succ n =>
      cases m with
      | zero => simp [D.kb] at g
      | succ m =>
        simp only [D.kb] at h g
        simp only [D.lt] at e f
        rw [tris l k n m a h g e f]
  | .int i, y, n, m, a, h, g, e, f => by
    cases y <;> simp only [D.ali, Bool.false_eq_true] at a
    simp only [D.lt, decide_eq_false_iff_not] at e f
    rename_i j
    have : i = j := by omega
    rw [this]
  | .str i, y, n, m, a, h, g, e, f => by
    cases y <;> simp only [D.ali, Bool.false_eq_true] at a
    rename_i j
    simp only [D.lt, decide_eq_false_iff_not] at e f
    have := List.le_antisymm f e
    cases i; cases j
    simp only [D.str.injEq, Str.mk.injEq]
    exact Array.toList_inj.mp this
  | .non, y, n, m, a, h, g, e, f => by cases y <;> simp_all [D.ali]
  | .bl _, _, n, _, _, h, _, _, _ => by cases n <;> simp [D.kb] at h
  | .lst _ _, _, n, _, _, h, _, _, _ => by cases n <;> simp [D.kb] at h
  | .scr _, _, n, _, _, h, _, _, _ => by cases n <;> simp [D.kb] at h
  | .dct _ _ _, _, n, _, _, h, _, _, _ => by cases n <;> simp [D.kb] at h
  | .set _ _, _, n, _, _, h, _, _, _ => by cases n <;> simp [D.kb] at h
  | .ref _, _, n, _, _, h, _, _, _ => by cases n <;> simp [D.kb] at h
theorem tris : ∀ (l k : List D) (n m : Nat), D.alis l k = true → D.kbs n l = true → D.kbs m k = true → D.lts l k = false → D.lts k l = false → l = k
  | [], [], _, _, _, _, _, _, _ => rfl
  | [], _ :: _, _, _, _, _, _, e, _ => by simp [D.lts] at e
  | _ :: _, [], _, _, _, _, _, _, f => by simp [D.lts] at f
  | x :: xs, y :: ys, n, m, a, h, g, e, f => by
    simp only [D.kbs, Bool.and_eq_true] at h g
    simp only [D.alis, Bool.and_eq_true] at a
    simp only [D.lts] at e f
    have q1 := D.kb_eqv x y n m h.1 g.1
    have q2 := D.kb_eqv y x m n g.1 h.1
    rw [← NestedKey.decide_eq] at q1 q2
    by_cases z : x.nk = y.nk
    · rw [q1, decide_eq_true z, if_pos rfl] at e
      rw [q2, decide_eq_true z.symm, if_pos rfl] at f
      rw [nk_inj x y n m h.1 g.1 z, tris xs ys n m a.2 h.2 g.2 e f]
    · rw [q1, decide_eq_false z, if_neg Bool.false_ne_true] at e
      rw [q2, decide_eq_false fun w => z w.symm, if_neg Bool.false_ne_true] at f
      exact absurd (congrArg D.nk (tri x y n m a.1 h.1 g.1 e f)) z
end
end PV

/-! PvF: operators and comparisons. -/
namespace PV
open PySem L2

/-! a value's form -/
theorem T.er_int {t : T} {i : Int} (h : t.er = .int i) : t = .int i := by cases t <;> simp_all [T.er]
theorem T.er_bl {t : T} {i : Bool} (h : t.er = .bl i) : t = .bl i := by cases t <;> simp_all [T.er]
theorem T.er_str {t : T} {i : Str} (h : t.er = .str i) : t = .str i := by cases t <;> simp_all [T.er]
theorem T.er_non {t : T} (h : t.er = .non) : t = .non := by cases t <;> simp_all [T.er]
theorem T.er_tup {t : T} {l : List D} (h : t.er = .tup l) : ∃ a ts, t = .tup a ts ∧ T.ers ts = l := by cases t <;> simp_all [T.er]; exact ⟨_, _, ⟨rfl, rfl⟩, h⟩
theorem T.er_lst {t : T} {o : Bool} {l : List D} (h : t.er = .lst o l) : ∃ a ts, t = .lst o a ts ∧ T.ers ts = l := by
  cases t <;> simp_all [T.er]
  exact ⟨_, _, ⟨rfl, rfl⟩, h.2⟩
theorem T.er_scr {t : T} {l : List Int} (h : t.er = .scr l) : ∃ a, t = .scr a l := by cases t <;> simp_all [T.er]
theorem T.er_set {t : T} {o : Bool} {l : List D} (h : t.er = .set o l) : ∃ a, t = .set o a l := by
  cases t <;> simp_all [T.er]
theorem T.er_ref {t : T} {n : Nat} (h : t.er = .ref n) : ∃ a, t = .ref n a := by cases t <;> simp_all [T.er]

/-- two values' operation, as the evaluator has it -/
def rB (P : Par) (f : D → D → Option D) : R2 := fun x y H Q => ∃ σ t1 t2 ts cs τ d, x = T.val t1 ∧ y = T.val t2 ∧ Rel P σ H (t2 :: t1 :: ts) cs τ ∧ f t1.er t2.er = some d ∧
  ∀ t H', T.er t = d → Rel P σ H' (t :: ts) cs τ → Q t.val H'
section
variable {X : Cx} {P : Par} {a b c : Expr} {ca cb cc : C} {pos : Pos}
theorem e_bin {op' : Operator} {op : Bop} (ho : OpR X (binaryOp op') (rB P (bop op))) (ha : PE X a (tE P ca)) (hb : PE X b (tE P cb)) : PE X (.BinOp a op' b pos) (tE P (.bin op ca cb)) := by
  refine PE_imp (pe_op ho ha hb) fun σ H Q ⟨ts, cs, τ, R, r⟩ => ⟨ts, cs, τ, R, ?_⟩
  simp only [ev, Res.bind] at r
  refine Res.mono r (fun d s1 r1 t1 cs1 τ1 H1 e1 e2 R1 => ⟨t1 :: ts, cs1, τ1, R1, ?_⟩) fun _ _ z => z
  subst e2
  refine Res.mono r1 (fun d2 s2 r2 t2 cs2 τ2 H2 e3 e4 R2 => ?_) fun _ _ z => z.push
  obtain ⟨d', hd, r3⟩ := Res.of.mp r2
  exact ⟨σ, t1, t2, ts, cs2, τ2, d', rfl, rfl, R2, by rw [e1, e3]; exact hd, fun t H' et R' => r3 t cs2 τ2 H' et e4 R'⟩

variable {σ : St} {H : Hp} {ts : List T} {cs : List G} {τ : List (Option T)} {t1 t2 : T} {d : D}
theorem Rel.pop2i (R : Rel P σ H (t2 :: t1 :: ts) cs τ) (i : Int) : Rel P σ H (.int i :: ts) cs τ := R.drop.drop.int i
theorem Rel.tup {us : List T} {p : Addr} (R : Rel P σ H (us ++ ts) cs τ) (h : H p = none) : Rel P σ (upd H p (.tup (us.map T.val))) (.tup p us :: ts) cs τ := by
  have S := R.sat
  rw [List.append_assoc] at S
  have k : ∀ a ob, H a = some ob → (upd H p (.tup (us.map T.val))) a = some ob := fun a ob e => by rw [upd_ne (ne_of_none e h)]; exact e
  refine R.with (S.alloc h ⟨.of upd_same, T.oks_keep us (T.oks_append.mp S.ofr).1 (fun a ob e _ => k a ob e) fun _ _ z => z⟩ (fun a => ?_) fun a => ?_)
  · simp only [T.ex]; omega
  · simp only [T.sh]; omega
theorem Rel.lst {us : List T} {p : Addr} (R : Rel P σ H (us ++ ts) cs τ) (h : H p = none) : Rel P σ (upd H p (.lst (us.map T.val))) (.lst true p us :: ts) cs τ := by
  have S := R.sat
  rw [List.append_assoc] at S
  have k : ∀ a ob, H a = some ob → (upd H p (.lst (us.map T.val))) a = some ob := fun a ob e => by rw [upd_ne (ne_of_none e h)]; exact e
  refine R.with (S.alloc h ⟨upd_same, T.oks_keep us (T.oks_append.mp S.ofr).1 (fun a ob e _ => k a ob e) fun _ _ z => z⟩ (fun a => ?_) fun a => ?_)
  · simp only [T.ex, ↓reduceIte]; omega
  · simp only [T.sh, ↓reduceIte]; omega
/-- parts of the two newest roots -/
theorem Rel.parts2 {us : List T} (R : Rel P σ H (t2 :: t1 :: ts) cs τ) (o : T.oks P.K H (ads cs) us) (h : ∀ a, T.exs us a ≤ t1.ex a + t2.ex a ∧ T.shs us a ≤ t1.sh a + t2.sh a) : Rel P σ H (us ++ ts) cs τ :=
  R.less (T.oks_append.mpr ⟨o, (T.oks_append.mp R.sat.ofr.2.2).1⟩) fun a => by have := h a; simp only [T.exs_append, T.shs_append, T.exs, T.shs]; omega
theorem Rel.parts1 {t : T} {us : List T} (R : Rel P σ H (t :: ts) cs τ) (o : T.oks P.K H (ads cs) us) (h : ∀ a, T.exs us a ≤ t.ex a ∧ T.shs us a ≤ t.sh a) : Rel P σ H (us ++ ts) cs τ :=
  R.less (T.oks_append.mpr ⟨o, (T.oks_append.mp R.sat.ofr.2).1⟩) fun a => by have := h a; simp only [T.exs_append, T.shs_append, T.exs, T.shs]; omega
theorem Rel.part1 {t u : T} (R : Rel P σ H (t :: ts) cs τ) (o : u.ok P.K H (ads cs)) (h : ∀ a, u.ex a ≤ t.ex a ∧ u.sh a ≤ t.sh a) : Rel P σ H (u :: ts) cs τ :=
  R.parts1 (us := [u]) ⟨o, trivial⟩ fun a => by have := h a; simp only [T.exs, T.shs]; omega

theorem bop_add {x y d : D} (h : bop .add x y = some d) : (∃ i j, x = .int i ∧ y = .int j ∧ d = .int (i + j)) ∨ (∃ i j, x = .str i ∧ y = .str j ∧ i.length + j.length ≤ sizeLine ∧ d = .str (i ++ j)) ∨
    (∃ l m, x = .tup l ∧ y = .tup m ∧ l.length + m.length ≤ sizeLine ∧ d = .tup (l ++ m)) ∨ (∃ o l o' m, x = .lst o l ∧ y = .lst o' m ∧ l.length + m.length ≤ sizeLine ∧ d = .lst true (l ++ m)) := by
  unfold bop at h
  split at h <;> try (simp at h; done)
  all_goals rename_i he
  all_goals first | (cases he; done) | skip
  · cases h; exact .inl ⟨_, _, rfl, rfl, rfl⟩
  · split at h
    · cases h; exact .inr (.inl ⟨_, _, rfl, rfl, by assumption, rfl⟩)
    · cases h
  · split at h
    · cases h; exact .inr (.inr (.inl ⟨_, _, rfl, rfl, by assumption, rfl⟩))
    · cases h
  · split at h
    · cases h; exact .inr (.inr (.inr ⟨_, _, _, _, rfl, rfl, by assumption, rfl⟩))
    · cases h
end
section
variable {X : Cx} {P : Par}
theorem op_addS (hK : X.K = P.K.f) : OpR X (binaryOp .Add) (rB P (bop .add)) := by
  intro pins s σ' H x y v u Q I rx ry ⟨σ, t1, t2, ts, cs, τ, d, e1, e2, R, hd, q⟩
  subst e1 e2
  rcases bop_add hd with ⟨i, j, h1, h2, rfl⟩ | ⟨i, j, h1, h2, hz, rfl⟩ | ⟨l, m, h1, h2, hz, rfl⟩ | ⟨o, l, o', m, h1, h2, hz, rfl⟩
  · obtain rfl := T.er_int h1
    obtain rfl := T.er_int h2
    exact op_add pins s σ' H _ _ v u Q I rx ry ⟨i, j, rfl, rfl, q (.int _) H rfl (R.pop2i _)⟩
  · obtain rfl := T.er_str h1
    obtain rfl := T.er_str h2
    exact op_add_str pins s σ' H _ _ v u Q I rx ry ⟨i, j, rfl, rfl, hz, q (.str _) H rfl (R.drop.drop.str _)⟩
  · obtain ⟨a, l, rfl, rfl⟩ := T.er_tup h1
    obtain ⟨b, m, rfl, rfl⟩ := T.er_tup h2
    have o1 := R.sat.ofr.2.1
    have o2 := R.sat.ofr.1
    refine op_catA pins s σ' H _ _ v u Q I rx ry ⟨a, b, l.map T.val, m.map T.val, rfl, rfl, hK ▸ o1.1, hK ▸ o2.1, by simpa using hz, fun e => ?_, fun _ e => ?_, fun _ _ p hp => ?_⟩
    · have e : l = [] := by simpa using e
      subst e
      exact q (.tup b m) H (by simp [T.er, T.ers]) (R.perm (List.Perm.swap _ _ _)).drop
    · have e : m = [] := by simpa using e
      subst e
      exact q (.tup a l) H (by simp [T.er, T.ers]) R.drop
    · have R2 := (R.parts2 (us := l ++ m) (T.oks_append.mpr ⟨o1.2, o2.2⟩) fun a => by simp only [T.exs_append, T.shs_append, T.ex, T.sh]; omega).tup hp
      rw [List.map_append] at R2
      exact q (.tup p (l ++ m)) _ (by simp [T.er]) R2
  · obtain ⟨a, l, rfl, rfl⟩ := T.er_lst h1
    obtain ⟨b, m, rfl, rfl⟩ := T.er_lst h2
    have o1 := R.sat.ofr.2.1
    have o2 := R.sat.ofr.1
    refine op_cat pins s σ' H _ _ v u Q I rx ry ⟨a, b, l.map T.val, m.map T.val, rfl, rfl, o1.1, o2.1, by simpa using hz, fun p hp => ?_⟩
    have R2 := (R.parts2 (us := l ++ m) (T.oks_append.mpr ⟨o1.2, o2.2⟩) fun a => by simp only [T.exs_append, T.shs_append, T.ex, T.sh]; omega).lst hp
    rw [List.map_append] at R2
    exact q (.lst true p (l ++ m)) _ (by simp [T.er]) R2
theorem bop_sub {x y d : D} (h : bop .sub x y = some d) : ∃ i j, x = .int i ∧ y = .int j ∧ d = .int (i - j) := by
  unfold bop at h
  split at h <;> try (simp at h; done)
  all_goals rename_i he
  all_goals first | (cases he; done) | skip
  cases h; exact ⟨_, _, rfl, rfl, rfl⟩
theorem bop_fdiv {x y d : D} (h : bop .fdiv x y = some d) : ∃ i j, x = .int i ∧ y = .int j ∧ (j ≠ 0 ∧ j.natAbs < 1073741824) ∧ d = .int (i.fdiv j) := by
  unfold bop at h
  split at h <;> try (simp at h; done)
  all_goals rename_i he
  all_goals first | (cases he; done) | skip
  split at h
  · cases h; exact ⟨_, _, rfl, rfl, by assumption, rfl⟩
  · cases h
theorem bop_mod {x y d : D} (h : bop .mod x y = some d) : ∃ i j, x = .int i ∧ y = .int j ∧ j ≠ 0 ∧ d = .int (i.fmod j) := by
  unfold bop at h
  split at h <;> try (simp at h; done)
  all_goals rename_i he
  all_goals first | (cases he; done) | skip
  split at h
  · cases h; exact ⟨_, _, rfl, rfl, by assumption, rfl⟩
  · cases h
theorem small64_of {i : Int} (h : small64 i = true) : -(2 ^ 64) < i ∧ i < 2 ^ 64 := by
  simp only [small64, decide_eq_true_eq] at h; omega
theorem bop_mul {x y d : D} (h : bop .mul x y = some d) : (∃ i j, x = .int i ∧ y = .int j ∧ CMul i j ∧ d = .int (i * j)) ∨
    (∃ l k, x = .tup l ∧ y = .int k ∧ l ≠ [] ∧ 2 ≤ k ∧ k ≤ 1000 ∧ l.length ≤ 1000 ∧ D.iszs l = true ∧ d = .tup (List.replicate k.toNat l).flatten) := by
  unfold bop at h
  split at h <;> try (simp at h; done)
  all_goals rename_i he
  all_goals first | (cases he; done) | skip
  · split at h
    · rename_i hc
      rw [Bool.or_eq_true] at hc
      cases h; exact .inl ⟨_, _, rfl, rfl, hc.elim (fun z => .inl (small64_of z)) fun z => .inr (small64_of z), rfl⟩
    · cases h
  · split at h
    · rename_i hc
      cases h; exact .inr ⟨_, _, rfl, rfl, hc.1, hc.2.1, hc.2.2.1, hc.2.2.2.1, hc.2.2.2.2, rfl⟩
    · cases h
theorem op_subS (hK : X.K = P.K.f) : OpR X (binaryOp .Sub) (rB P (bop .sub)) := by
  intro pins s σ' H x y v u Q I rx ry ⟨σ, t1, t2, ts, cs, τ, d, e1, e2, R, hd, q⟩
  subst e1 e2
  obtain ⟨i, j, h1, h2, rfl⟩ := bop_sub hd
  obtain rfl := T.er_int h1
  obtain rfl := T.er_int h2
  exact op_sub pins s σ' H _ _ v u Q I rx ry ⟨i, j, rfl, rfl, q (.int _) H rfl (R.pop2i _)⟩
theorem op_fdivS (hK : X.K = P.K.f) : OpR X (binaryOp .FloorDiv) (rB P (bop .fdiv)) := by
  intro pins s σ' H x y v u Q I rx ry ⟨σ, t1, t2, ts, cs, τ, d, e1, e2, R, hd, q⟩
  subst e1 e2
  obtain ⟨i, j, h1, h2, hc, rfl⟩ := bop_fdiv hd
  obtain rfl := T.er_int h1
  obtain rfl := T.er_int h2
  exact op_fdivN pins s σ' H _ _ v u Q I rx ry ⟨i, j, rfl, rfl, hc, q (.int _) H rfl (R.pop2i _)⟩
theorem op_modS (hK : X.K = P.K.f) : OpR X (binaryOp .Mod) (rB P (bop .mod)) := by
  intro pins s σ' H x y v u Q I rx ry ⟨σ, t1, t2, ts, cs, τ, d, e1, e2, R, hd, q⟩
  subst e1 e2
  obtain ⟨i, j, h1, h2, hc, rfl⟩ := bop_mod hd
  obtain rfl := T.er_int h1
  obtain rfl := T.er_int h2
  exact op_modN pins s σ' H _ _ v u Q I rx ry ⟨i, j, rfl, rfl, hc, q (.int _) H rfl (R.pop2i _)⟩
theorem exs_rep (l : List T) (h : ∀ a, T.exs l a = 0) (a : Addr) : ∀ k : Nat, T.exs (List.replicate k l).flatten a = 0
  | 0 => rfl
  | k + 1 => by rw [List.replicate_succ, List.flatten_cons, T.exs_append, h a, exs_rep l h a k]
theorem shs_rep (l : List T) (a : Addr) : ∀ k : Nat, T.shs (List.replicate k l).flatten a = k * T.shs l a
  | 0 => by simp [T.shs]
  | k + 1 => by rw [List.replicate_succ, List.flatten_cons, T.shs_append, shs_rep l a k, Nat.succ_mul]; omega
theorem oks_rep {K : KW} {H : Hp} {ad : List Addr} (l : List T) (h : T.oks K H ad l) : ∀ k : Nat, T.oks K H ad (List.replicate k l).flatten
  | 0 => trivial
  | k + 1 => by rw [List.replicate_succ, List.flatten_cons]; exact T.oks_append.mpr ⟨h, oks_rep l h k⟩
theorem map_rep {α β : Type} (f : α → β) (l : List α) : ∀ k : Nat, (List.replicate k l).flatten.map f = (List.replicate k (l.map f)).flatten
  | 0 => rfl
  | k + 1 => by rw [List.replicate_succ, List.flatten_cons, List.map_append, map_rep f l k, List.replicate_succ, List.flatten_cons]
theorem op_mulS (hK : X.K = P.K.f) : OpR X (binaryOp .Mult) (rB P (bop .mul)) := by
  intro pins s σ' H x y v u Q I rx ry ⟨σ, t1, t2, ts, cs, τ, d, e1, e2, R, hd, q⟩
  subst e1 e2
  rcases bop_mul hd with ⟨i, j, h1, h2, hc, rfl⟩ | ⟨l, k, h1, h2, c1, c2, c3, c4, c5, rfl⟩
  · obtain rfl := T.er_int h1
    obtain rfl := T.er_int h2
    exact op_mul pins s σ' H _ _ v u Q I rx ry ⟨i, j, rfl, rfl, hc, q (.int _) H rfl (R.pop2i _)⟩
  · obtain ⟨a, l, rfl, rfl⟩ := T.er_tup h1
    obtain rfl := T.er_int h2
    have o1 := R.sat.ofr.2.1
    refine op_repT pins s σ' H _ _ v u Q I rx ry ⟨a, k, l.map T.val, rfl, rfl, hK ▸ o1.1, fun e => c1 (by rw [show l = [] by simpa using e]; rfl), c2, c3, by simpa using c4, fun p hp => ?_⟩
    have z := T.exs_isz l
    have R1 := R.drop
    have R2 : Rel P σ H ((List.replicate k.toNat l).flatten ++ ts) cs τ := R1.with (by
      refine R1.sat.reroot (T.oks_append.mpr ⟨T.oks_append.mpr ⟨oks_rep l o1.2 _, (T.oks_append.mp R1.sat.ofr.2).1⟩, (T.oks_append.mp R1.sat.ofr.2).2⟩) R1.sat.osl (fun b => ?_) fun b => ?_
      · have := exs_rep l (fun a => z a c5) b k.toNat
        simp only [List.cons_append, T.exs_append, T.exs, this]; omega
      · have := exs_rep l (fun a => z a c5) b k.toNat
        have h2 := shs_rep l b k.toNat
        have h3 := R1.sat.sep b
        have h4 : T.shs l b = 0 → k.toNat * T.shs l b = 0 := fun e => by rw [e]; rfl
        simp only [List.cons_append, T.exs_append, T.shs_append, T.exs, T.shs, T.ex, T.sh, this, h2] at *
        omega)
    have R3 := R2.tup hp
    rw [map_rep] at R3
    exact q (.tup p (List.replicate k.toNat l).flatten) _ (by simp only [T.er, T.ers_map]; rw [map_rep]) R3
end
end PV

/-! PvG: comparisons. -/
namespace PV
open PySem L2

mutual
/-- a value of the kinds that == serves reads as its datum -/
theorem T.dp {K : KW} {H : Hp} {ad : List Addr} : ∀ (t : T) (n : Nat), t.ok K H ad → D.okd n t.er = true → Dp K.f H t.val t.er.pd
  | .non, _, _, _ => .non
  | .bl b, _, _, _ => .bl b
  | .int i, _, _, _ => .int i
  | .str x, _, _, _ => .str x
  | .tup a l, n, h, k => by
    cases n with
    | zero => simp [T.er, D.okd] at k
    | succ n =>
      simp only [T.er, D.okd] at k
      simp only [T.er, D.pd]
      exact .tup h.1 (T.dps l n h.2 k)
  | .lst _ a l, n, h, k => by
    cases n with
    | zero => simp [T.er, D.okd] at k
    | succ n =>
      simp only [T.er, D.okd] at k
      simp only [T.er, D.pd]
      exact .lst (SqL.of h.1) (T.dps l n h.2 k)
  | .scr _ _, _, _, k => by simp [T.er, D.okd] at k
  | .dct _ _ _ _, _, _, k => by simp [T.er, D.okd] at k
  | .set _ _ _, _, _, k => by simp [T.er, D.okd] at k
  | .ref _ _, _, _, k => by simp [T.er, D.okd] at k
theorem T.dps {K : KW} {H : Hp} {ad : List Addr} : ∀ (l : List T) (n : Nat), T.oks K H ad l → D.okds n (T.ers l) = true → DpAll K.f H (l.map T.val) (D.pds (T.ers l))
  | [], _, _, _ => .nil
  | x :: xs, n, h, k => by
    simp only [T.ers, D.okds, Bool.and_eq_true] at k
    simp only [T.ers, D.pds, List.map_cons]
    exact .cons (T.dp x n h.1 k.1) (T.dps xs n h.2 k.2)
end
theorem eqv_any (l : List D) (x : D) : (D.pds l).any (fun z => PyData.eqv z x.pd) = l.any fun z => D.eqv z x := by
  induction l with
  | nil => rfl
  | cons y ys ih => simp only [D.pds, List.any_cons, ih, D.eqv_pd]
/-- a comparison of two values -/
def rC (P : Par) (f : D → D → Option Bool) : R2 := fun x y H Q => ∃ t1 t2 ad k, x = T.val t1 ∧ y = T.val t2 ∧ t1.ok P.K H ad ∧ t2.ok P.K H ad ∧ f t1.er t2.er = some k ∧ Q (.bl k) H
theorem icmp_inv {f : Int → Int → Bool} {x y : D} {k : Bool} (h : icmp f x y = some k) : ∃ i j, x = .int i ∧ y = .int j ∧ k = f i j := by
  unfold icmp at h
  split at h
  · cases h; exact ⟨_, _, rfl, rfl, rfl⟩
  · cases h
theorem ltD_inv {x y : D} {k : Bool} (h : ltD x y = some k) : (∃ i j, x = .int i ∧ y = .int j ∧ k = decide (i < j)) ∨ ∃ l m, x = .tup l ∧ y = .tup m ∧ D.alis l m = true ∧ D.okds 59 l = true ∧ D.okds 59 m = true ∧ k = D.lts l m := by
  unfold ltD at h
  split at h
  · cases h; exact .inl ⟨_, _, rfl, rfl, rfl⟩
  · split at h
    · rename_i hc
      simp only [Bool.and_eq_true] at hc
      cases h; exact .inr ⟨_, _, rfl, rfl, hc.1.1, hc.1.2, hc.2, rfl⟩
    · cases h
  · cases h
theorem inD_inv {x c : D} {k : Bool} (h : inD x c = some k) : (∃ l, ((∃ o, c = .lst o l) ∨ c = .tup l) ∧ D.cmpb x = true ∧ D.okds 59 l = true ∧ k = l.any fun z => D.eqv z x) ∨ (∃ o ks vs, c = .dct o ks vs ∧ kask ks x = true ∧ k = ks.any fun z => D.eqv z x) ∨ ∃ o l, c = .set o l ∧ tkey x = true ∧ l.all tkey = true ∧ k = l.any fun z => D.eqv z x := by
  unfold inD at h
  split at h
  · split at h
    · cases h; exact .inr (.inl ⟨_, _, _, rfl, by assumption, rfl⟩)
    · cases h
  · split at h
    · rename_i hc
      rw [Bool.and_eq_true] at hc
      cases h; exact .inr (.inr ⟨_, _, rfl, hc.1, hc.2, rfl⟩)
    · cases h
  · split at h
    · rename_i l hs
      split at h
      · rename_i hc
        simp only [Bool.and_eq_true] at hc
        cases h
        refine .inl ⟨l, ?_, hc.1, hc.2, rfl⟩
        unfold seqOf at hs
        split at hs
        · cases hs; exact .inr rfl
        · cases hs; exact .inl ⟨_, rfl⟩
        · cases hs
      · cases h
    · cases h
section
variable {X : Cx} {P : Par} {f : D → D → Option Bool}
theorem op_ltS (hK : X.K = P.K.f) (hu : X.A.units + 150 < cLine) : OpR X (compareOp .Lt) (rC P (cop .lt)) := by
  intro pins s σ' H x y v u Q I rx ry ⟨t1, t2, ad, k, e1, e2, o1, o2, hk, q'⟩
  subst e1 e2
  rcases ltD_inv hk with ⟨i, j, h1, h2, rfl⟩ | ⟨l, m, h1, h2, c1, c2, c3, rfl⟩
  · obtain rfl := T.er_int h1
    obtain rfl := T.er_int h2
    exact op_lt pins s σ' H _ _ v u Q I rx ry ⟨i, j, rfl, rfl, q'⟩
  · have c2' : D.okd 60 t1.er = true := by rw [h1]; simpa [D.okd] using c2
    have c3' : D.okd 60 t2.er = true := by rw [h2]; simpa [D.okd] using c3
    have c1' : D.ali t1.er t2.er = true := by rw [h1, h2]; simpa [D.ali] using c1
    obtain ⟨as, r1⟩ := Dp.reads I _ _ v (hK ▸ T.dp t1 60 o1 c2') rx
    obtain ⟨bs, r2⟩ := Dp.reads I _ _ u (hK ▸ T.dp t2 60 o2 c3') ry
    have d1 := (D.okd_lay _ _ c2').2
    refine PySem.W.rcLt_alike _ _ X.A s v u as bs r1 r2 (D.ali_pd _ _ c1') (by rw [h1]; intro z; simp [D.pd] at z) (by have := Nat.min_le_left t1.er.pd.depth t2.er.pd.depth; omega) _ _ _ _ ?_
    rw [D.lt_pd _ _ c1', h1, h2]
    exact ⟨.bl _, H, I, rfl, q'⟩
theorem op_icS {op : CmpOp} {f : Int → Int → Bool} (ho : OpR X (compareOp op) (rI0 fun i j => .bl (f i j))) : OpR X (compareOp op) (rC P (icmp f)) := by
  intro pins s σ' H x y v u Q I rx ry ⟨t1, t2, ad, k, e1, e2, o1, o2, hk, q'⟩
  subst e1 e2
  obtain ⟨i, j, h1, h2, rfl⟩ := icmp_inv hk
  obtain rfl := T.er_int h1
  obtain rfl := T.er_int h2
  exact ho pins s σ' H _ _ v u Q I rx ry ⟨i, j, rfl, rfl, q'⟩
theorem eqD_inv {x y : D} {k : Bool} (h : eqD x y = some k) : (∃ a b, x = .str a ∧ y = .str b ∧ k = (a == b)) ∨ (x.cmpb = true ∧ y.cmpb = true ∧ k = D.eqv x y) := by
  unfold eqD at h
  split at h
  · cases h; exact .inl ⟨_, _, rfl, rfl, rfl⟩
  · split at h
    · rename_i hc
      rw [Bool.and_eq_true] at hc
      cases h; exact .inr ⟨hc.1, hc.2, rfl⟩
    · cases h
theorem op_eqS (hK : X.K = P.K.f) (hu : X.A.units + 150 < cLine) : OpR X (compareOp .Eq) (rC P (cop .eq)) := by
  intro pins s σ' H x y v u Q I rx ry ⟨t1, t2, ad, k, e1, e2, o1, o2, hk, q'⟩
  subst e1 e2
  rcases eqD_inv hk with ⟨a, b, h1, h2, rfl⟩ | ⟨c1, c2, rfl⟩
  · obtain rfl := T.er_str h1
    obtain rfl := T.er_str h2
    obtain ⟨t, rfl⟩ := rx
    obtain ⟨t', rfl⟩ := ry
    exact PyProof.Rows.eq_str ⟨.bl _, H, I, rfl, q'⟩
  · refine op_eqD (by omega) pins s σ' H _ _ v u Q I rx ry ⟨_, _, hK ▸ T.dp t1 60 o1 c1, hK ▸ T.dp t2 60 o2 c2, D.shaped c1, D.shaped c2, ?_⟩
    rw [D.eqv_pd]; exact q'
theorem op_neS (hK : X.K = P.K.f) (hu : X.A.units + 150 < cLine) : OpR X (compareOp .NotEq) (rC P (cop .ne)) := by
  intro pins s σ' H x y v u Q I rx ry ⟨t1, t2, ad, k, e1, e2, o1, o2, hk, q'⟩
  subst e1 e2
  obtain ⟨k, hk2, rfl⟩ := Option.map_eq_some_iff.mp hk
  rcases eqD_inv hk2 with ⟨a, b, h1, h2, rfl⟩ | ⟨c1, c2, rfl⟩
  · obtain rfl := T.er_str h1
    obtain rfl := T.er_str h2
    obtain ⟨t, rfl⟩ := rx
    obtain ⟨t', rfl⟩ := ry
    exact PyProof.Rows.ne_str ⟨.bl _, H, I, rfl, q'⟩
  · refine op_neD (by omega) pins s σ' H _ _ v u Q I rx ry ⟨_, _, hK ▸ T.dp t1 60 o1 c1, hK ▸ T.dp t2 60 o2 c2, D.shaped c1, D.shaped c2, ?_⟩
    rw [D.eqv_pd]; exact q'
theorem room_in {A : Around} {n m : Nat} (hu : A.units + 150 < cLine) (h : m ≤ 60) : A.units + 1 + min n m < cLine := by
  have := Nat.min_le_right n m
  omega
theorem op_inS (hK : X.K = P.K.f) (hW : X.prog = P.K.p ∧ X.w = P.K.w) (hu : X.A.units + 150 < cLine) : OpR X (compareOp .In) (rC P (cop .isin)) := by
  intro pins s σ' H x y v u Q I rx ry ⟨t1, t2, ad, k, e1, e2, o1, o2, hk, q'⟩
  subst e1 e2
  rcases inD_inv hk with ⟨l, hc, c1, c2, rfl⟩ | ⟨o, ks, vs, h1, h2, rfl⟩ | ⟨o, l, h1, h2, h3, rfl⟩
  case inr.inl =>
    obtain ⟨a, kts, ts, rfl, rfl, rfl⟩ := T.er_dct h1
    cases (show u = Value.ref a from ry)
    exact d_inD hK hW (by omega) I o2 o1 h2 rx fun s' I' => ⟨.bl _, H, I', rfl, q'⟩
  case inr.inr =>
    obtain ⟨a, rfl⟩ := T.er_set h1
    cases (show u = Value.ref a from ry)
    exact s_in hK hW (by omega) I o2 o1 h2 h3 rx fun s' I' => ⟨.bl _, H, I', rfl, q'⟩
  obtain ⟨as, r1⟩ := Dp.reads I _ _ v (hK ▸ T.dp t1 60 o1 c1) rx
  obtain ⟨y1, y2⟩ := D.okd_lay _ _ c1
  obtain ⟨z1, z2⟩ := D.okds_lay _ _ c2
  rw [← eqv_any] at q'
  rcases hc with ⟨o, hc⟩ | hc
  · have c3 : D.okd 60 t2.er = true := by rw [hc]; simpa [D.okd] using c2
    obtain ⟨bs, r2⟩ := Dp.reads I _ _ u (hK ▸ T.dp t2 60 o2 c3) ry
    rw [hc, D.pd] at r2
    exact SeqAt.in_list_reads r2 r1 z1 y1 (room_in hu y2) ⟨.bl _, H, I, rfl, q'⟩
  · have c3 : D.okd 60 t2.er = true := by rw [hc]; simpa [D.okd] using c2
    obtain ⟨bs, r2⟩ := Dp.reads I _ _ u (hK ▸ T.dp t2 60 o2 c3) ry
    rw [hc, D.pd] at r2
    exact SeqAt.in_tuple_reads r2 r1 z1 y1 (room_in hu y2) ⟨.bl _, H, I, rfl, q'⟩
theorem op_notinS (hK : X.K = P.K.f) (hW : X.prog = P.K.p ∧ X.w = P.K.w) (hu : X.A.units + 150 < cLine) : OpR X (compareOp .NotIn) (rC P (cop .notin)) := by
  intro pins s σ' H x y v u Q I rx ry ⟨t1, t2, ad, k, e1, e2, o1, o2, hk, q'⟩
  subst e1 e2
  obtain ⟨k, hk2, rfl⟩ := Option.map_eq_some_iff.mp hk
  rcases inD_inv hk2 with ⟨l, hc, c1, c2, rfl⟩ | ⟨o, ks, vs, h1, h2, rfl⟩ | ⟨o, l, h1, h2, h3, rfl⟩
  case inr.inl =>
    obtain ⟨a, kts, ts, rfl, rfl, rfl⟩ := T.er_dct h1
    cases (show u = Value.ref a from ry)
    exact d_notInD hK hW (by omega) I o2 o1 h2 rx fun s' I' => ⟨.bl _, H, I', rfl, q'⟩
  case inr.inr =>
    obtain ⟨a, rfl⟩ := T.er_set h1
    cases (show u = Value.ref a from ry)
    exact s_notIn hK hW (by omega) I o2 o1 h2 h3 rx fun s' I' => ⟨.bl _, H, I', rfl, q'⟩
  obtain ⟨as, r1⟩ := Dp.reads I _ _ v (hK ▸ T.dp t1 60 o1 c1) rx
  obtain ⟨y1, y2⟩ := D.okd_lay _ _ c1
  obtain ⟨z1, z2⟩ := D.okds_lay _ _ c2
  rw [← eqv_any] at q'
  rcases hc with ⟨o, hc⟩ | hc
  · have c3 : D.okd 60 t2.er = true := by rw [hc]; simpa [D.okd] using c2
    obtain ⟨bs, r2⟩ := Dp.reads I _ _ u (hK ▸ T.dp t2 60 o2 c3) ry
    rw [hc, D.pd] at r2
    exact SeqAt.notIn_list_reads r2 r1 z1 y1 (room_in hu y2) ⟨.bl _, H, I, rfl, q'⟩
  · have c3 : D.okd 60 t2.er = true := by rw [hc]; simpa [D.okd] using c2
    obtain ⟨bs, r2⟩ := Dp.reads I _ _ u (hK ▸ T.dp t2 60 o2 c3) ry
    rw [hc, D.pd] at r2
    exact SeqAt.notIn_tuple_reads r2 r1 z1 y1 (room_in hu y2) ⟨.bl _, H, I, rfl, q'⟩
def cpy : Cop → CmpOp
  | .lt => .Lt | .le => .LtE | .gt => .Gt | .ge => .GtE | .eq => .Eq | .ne => .NotEq | .isin => .In | .notin => .NotIn
theorem op_copS (hK : X.K = P.K.f) (hW : X.prog = P.K.p ∧ X.w = P.K.w) (hu : X.A.units + 150 < cLine) (op : Cop) : OpR X (compareOp (cpy op)) (rC P (cop op)) := by
  cases op
  · exact op_ltS hK hu
  · exact op_icS op_le
  · exact op_icS op_gt
  · exact op_icS op_ge
  · exact op_eqS hK hu
  · exact op_neS hK hu
  · exact op_inS hK hW hu
  · exact op_notinS hK hW hu
def bpy : Bop → Operator
  | .add => .Add | .sub => .Sub | .mul => .Mult | .fdiv => .FloorDiv | .mod => .Mod
theorem op_bopS (hK : X.K = P.K.f) (op : Bop) : OpR X (binaryOp (bpy op)) (rB P (bop op)) := by
  cases op
  · exact op_addS hK
  · exact op_subS hK
  · exact op_mulS hK
  · exact op_fdivS hK
  · exact op_modS hK
end
end PV

/-! PvH: expressions. -/
namespace PV
open PySem L2

section
variable {X : Cx} {P : Par} {a b c e : Expr} {es : List Expr} {ca cb cc ce : C} {ces : List C} {pos : Pos} {σ : St} {H : Hp} {ts : List T} {cs : List G} {τ : List (Option T)} {t t1 t2 : T}
/-! constants, names -/
theorem e_int {i : Int} {j : Nat} : PE X (.Constant (.int i) j pos) (tE P (.lit (.int i))) := PE_imp pe_int fun σ H Q ⟨ts, cs, τ, R, r⟩ => r (.int i) cs τ H rfl rfl (R.int i)
theorem e_bl {i : Bool} {j : Nat} : PE X (.Constant (.bool i) j pos) (tE P (.lit (.bl i))) := PE_imp pe_bl fun σ H Q ⟨ts, cs, τ, R, r⟩ => r (.bl i) cs τ H rfl rfl (R.bl i)
theorem e_str {i : Str} {j : Nat} : PE X (.Constant (.str i) j pos) (tE P (.lit (.str i))) := PE_imp pe_str fun σ H Q ⟨ts, cs, τ, R, r⟩ => r (.str i) cs τ H rfl rfl (R.str i)
theorem e_non {j : Nat} : PE X (.Constant .none j pos) (tE P (.lit .non)) := PE_imp pe_non fun σ H Q ⟨ts, cs, τ, R, r⟩ => r .non cs τ H rfl rfl R.non
theorem e_var {i : Nat} {x : Str} (hN : X.N[i]? = some x) (hv : Vis X.env.scope x) (hd : (x == ("__debug__" : Str)) = false) (hcd : (x == ("__classdict__" : Str)) = false) (hp : P.pl i = true) : PE X (.Name x pos) (tE P (.var i)) := by
  refine PE_imp (pe_var hN hv hd hcd) fun σ H Q ⟨ts, cs, τ, R, r⟩ => ?_
  simp only [ev] at r
  obtain ⟨d, hd, r⟩ := Res.of.mp r
  rw [show (stt cs τ).r = ero τ from rfl, gt_ero] at hd
  obtain ⟨t, ht, rfl⟩ := Option.map_eq_some_iff.mp hd
  refine ⟨t.val, R.val i t ht, r t cs τ H rfl rfl (R.with ?_)⟩
  exact R.sat.dup ht fun a => T.ex_isz t a (R.pla i t ht hp)
theorem Rel.setSlot {i : Nat} {o : Option T} (R : Rel P σ H ts cs τ) (S : Sat P.K H (ts ++ P.fr) cs (τ.set i o)) (hv : ∀ t, o = some t → σ[i]? = some (some t.val)) (hp : ∀ t, o = some t → P.pl i = true → t.er.isz = true) : Rel P σ H ts cs (τ.set i o) := by
  refine ⟨S, by rw [List.length_set]; exact R.len, fun j u hj => ?_, fun j u hj hpl => ?_⟩
  · rw [gt_set] at hj
    split at hj
    · rename_i hc; obtain ⟨rfl, _⟩ := hc; exact hv u hj
    · exact R.val j u hj
  · rw [gt_set] at hj
    split at hj
    · rename_i hc; obtain ⟨rfl, _⟩ := hc; exact hp u hj hpl
    · exact R.pla j u hj hpl
theorem e_bvar {i : Nat} {x : Str} (hN : X.N[i]? = some x) (hv : Vis X.env.scope x) (hd : (x == ("__debug__" : Str)) = false) (hcd : (x == ("__classdict__" : Str)) = false) : PE X (.Name x pos) (tE P (.bvar i)) := by
  refine PE_imp (pe_var hN hv hd hcd) fun σ H Q ⟨ts, cs, τ, R, r⟩ => ?_
  simp only [ev, Res.bind] at r
  obtain ⟨d, hd, r⟩ := Res.of.mp r
  rw [show (stt cs τ).r = ero τ from rfl, gt_ero] at hd
  obtain ⟨t, ht, rfl⟩ := Option.map_eq_some_iff.mp hd
  have hi := gt_lt ht
  refine ⟨t.val, R.val i t ht, ?_⟩
  rw [← T.val_fz t]
  refine r t.fz cs (τ.set i (some t.fz)) H (T.er_fz t) ?_ ?_
  · simp only [stt, ero_set, Option.map_some, T.er_fz]
  · -- taken out, frozen, put back, read
    have S1 := (R.sat.take ht).freeze
    have S2 : Sat P.K H (t.fz :: t.fz :: (ts ++ P.fr)) cs (τ.set i none) := S1.dupPart S1.ofr.1 (fun a => T.ex_fz t a) fun a => by simp only [T.shs]; omega
    have S3 := S2.store (i := i) (by rw [List.length_set]; exact hi)
    rw [List.set_set] at S3
    refine (Rel.setSlot R S3.drop (fun u hu => ?_) fun u hu _ => ?_).with S3
    · cases hu; rw [T.val_fz]; exact R.val i t ht
    · cases hu; rw [T.er_fz]; exact D.isz_fz _
theorem e_mvar {i : Nat} {x : Str} (hN : X.N[i]? = some x) (hv : Vis X.env.scope x) (hd : (x == ("__debug__" : Str)) = false) (hcd : (x == ("__classdict__" : Str)) = false) : PE X (.Name x pos) (tE P (.mvar i)) := by
  refine PE_imp (pe_var hN hv hd hcd) fun σ H Q ⟨ts, cs, τ, R, r⟩ => ?_
  simp only [ev, Res.bind] at r
  obtain ⟨d, hd, r⟩ := Res.of.mp r
  rw [show (stt cs τ).r = ero τ from rfl, gt_ero] at hd
  obtain ⟨t, ht, rfl⟩ := Option.map_eq_some_iff.mp hd
  have S1 := R.sat.take ht
  refine ⟨t.val, R.val i t ht, r t cs (τ.set i none) H rfl ?_ ?_⟩
  · simp only [stt, ero_set, Option.map_none]
  · exact (Rel.setSlot R S1.drop (fun u hu => by cases hu) fun u hu => by cases hu).with S1
/-! argument lists, displays -/
theorem a_nil : PA X [] (tA P []) := PA_imp pa_nil fun σ H Q ⟨ts, cs, τ, R, r⟩ => r [] cs τ H rfl rfl R
theorem a_cons (ha : PE X e (tE P ce)) (hr : PA X es (tA P ces)) (hs : starEach (e :: es) X.env = (false, eval e X.env) :: starEach es X.env) : PA X (e :: es) (tA P (ce :: ces)) := by
  refine PA_imp (pa_cons ha hr hs) fun σ H Q ⟨ts, cs, τ, R, r⟩ => ⟨ts, cs, τ, R, ?_⟩
  simp only [evs, Res.bind] at r
  refine Res.mono r (fun d s1 r1 t1 cs1 τ1 H1 e1 e2 R1 => ⟨t1 :: ts, cs1, τ1, R1, ?_⟩) fun _ _ z => z
  subst e2
  refine Res.mono r1 (fun ds s2 r2 us cs2 τ2 H2 e3 e4 R2 => ?_) fun _ _ z => z.push
  refine r2 (t1 :: us) cs2 τ2 H2 (by rw [T.ers, e1, e3]) e4 ?_
  refine R2.perm ?_
  exact List.perm_middle
theorem e_tup {k : Nat} (h : PA X es (tA P ces)) : PE X (.Tuple es k pos) (tE P (.tup ces)) := by
  refine PE_imp (pe_tup h) fun σ H Q ⟨ts, cs, τ, R, r⟩ => ⟨ts, cs, τ, R, ?_⟩
  simp only [ev, Res.bind] at r
  refine Res.mono r (fun ds s1 r1 us cs1 τ1 H1 e1 e2 R1 => ?_) fun _ _ z => z
  split at r1
  · rename_i hz
    refine ⟨by rw [List.length_map, ← T.ers_length us, e1]; exact hz, fun p hp => ?_⟩
    exact r1 (.tup p us) cs1 τ1 _ (by rw [T.er, e1]) e2 (R1.tup hp)
  · exact r1.elim
theorem e_lst (h : PA X es (tA P ces)) : PE X (.List es pos) (tE P (.lst ces)) := by
  refine PE_imp (pe_lst h) fun σ H Q ⟨ts, cs, τ, R, r⟩ => ⟨ts, cs, τ, R, ?_⟩
  simp only [ev, Res.bind] at r
  refine Res.mono r (fun ds s1 r1 us cs1 τ1 H1 e1 e2 R1 => ?_) fun _ _ z => z
  split at r1
  · rename_i hz
    refine ⟨by rw [List.length_map, ← T.ers_length us, e1]; exact hz, fun p hp => ?_⟩
    exact r1 (.lst true p us) cs1 τ1 _ (by rw [T.er, e1]) e2 (R1.lst hp)
  · exact r1.elim
theorem Rel.freezes {us : List T} (R : Rel P σ H (us ++ ts) cs τ) : Rel P σ H (T.fzs us ++ ts) cs τ := by
  have S := R.sat
  rw [List.append_assoc] at S
  refine R.with ?_
  rw [List.append_assoc]; exact S.freezes
theorem e_box (h : PA X es (tA P ces)) : PE X (.List es pos) (tE P (.box ces)) := by
  refine PE_imp (pe_lst h) fun σ H Q ⟨ts, cs, τ, R, r⟩ => ⟨ts, cs, τ, R, ?_⟩
  simp only [ev, Res.bind] at r
  refine Res.mono r (fun ds s1 r1 us cs1 τ1 H1 e1 e2 R1 => ?_) fun _ _ z => z
  split at r1
  · rename_i hz
    refine ⟨by rw [List.length_map, ← T.ers_length us, e1]; exact hz, fun p hp => ?_⟩
    have S := R1.freezes.sat
    rw [List.append_assoc] at S
    have S2 := S.mkBox hp (by rw [T.ers_fzs]; exact D.iszs_fzs _)
    rw [T.vals_fzs] at S2
    refine r1 (.ref cs1.length p) (cs1 ++ [(⟨p, T.fzs us⟩ : G)]) τ1 _ ?_ ?_ (R1.with S2)
    · subst e2; simp [T.er, stt, erc]
    · subst e2; simp [stt, erc, G.er, T.ers_fzs, e1]
  · exact r1.elim
/-! tests -/
theorem evb_bl {s : S} {k : Bool → S → Prop} {x : Exn → S → Prop} : Res (evb P.env ce s) k x ↔ Res (ev P.env ce s) (fun d s => ∃ b, tobl d = some b ∧ k b s) x := by
  unfold evb
  rw [Res.bind]
  constructor
  · exact fun h => Res.mono h (fun _ _ z => Res.of.mp z) fun _ _ z => z
  · exact fun h => Res.mono h (fun _ _ z => Res.of.mpr z) fun _ _ z => z
theorem tobl_inv {d : D} {b : Bool} (h : tobl d = some b) : d = .bl b := by cases d <;> simp_all [tobl]
/-- a test out of a value -/
theorem t_val (h : PE X e (tE P ce)) (he : ∀ whole, isTrue e X.env whole = (do let v ← whole; standAt e.pos; holding [v] (truthy v))) : PT X e (tT P ce) := by
  refine PT_imp (pt_val h he) fun σ H Q ⟨ts, cs, τ, R, r⟩ => ⟨ts, cs, τ, R, ?_⟩
  refine Res.mono (evb_bl.mp r) (fun d s1 ⟨b, hb, r1⟩ t cs1 τ1 H1 e1 e2 R1 => ⟨b, ?_, r1 cs1 τ1 H1 e2 R1.drop⟩) fun _ _ z => z
  have := tobl_inv hb
  rw [← e1] at this
  rw [T.er_bl this]; rfl
theorem e_nt (ha : PE X a (tE P ca)) : PE X (.UnaryOp .Not a pos) (tE P (.nt ca)) := by
  refine PE_imp (pe_not ha) fun σ H Q ⟨ts, cs, τ, R, r⟩ => ⟨ts, cs, τ, R, ?_⟩
  simp only [ev, Res.bind] at r
  refine Res.mono r (fun d s1 r1 t cs1 τ1 H1 e1 e2 R1 => ?_) fun _ _ z => z
  obtain ⟨b, hb, r1⟩ := Res.of.mp r1
  have := tobl_inv hb
  rw [← e1] at this
  obtain rfl := T.er_bl this
  exact ⟨b, rfl, r1 (.bl (!b)) cs1 τ1 H1 rfl e2 (R1.drop.bl _)⟩
theorem t_nt (ha : PT X a (tT P ca)) : PT X (.UnaryOp .Not a pos) (tT P (.nt ca)) := by
  refine PT_imp (pt_not ha) fun σ H Q ⟨ts, cs, τ, R, r⟩ => ⟨ts, cs, τ, R, ?_⟩
  have r := evb_bl.mp r
  simp only [ev, Res.bind] at r
  refine evb_bl.mpr (Res.mono r (fun d s1 r1 => ?_) fun _ _ z => z)
  obtain ⟨b, hb, ⟨b', hb', r1⟩⟩ := Res.of.mp r1
  have := tobl_inv hb'
  cases this
  exact ⟨b, hb, r1⟩
theorem e_and {rest : List Expr} (ha : PE X a (tE P ca)) (hb : PE X (.BoolOp .And (b :: rest) pos) (tE P cb)) : PE X (.BoolOp .And (a :: b :: rest) pos) (tE P (.and ca cb)) := by
  refine PE_imp (pe_and ha hb) fun σ H Q ⟨ts, cs, τ, R, r⟩ => ⟨ts, cs, τ, R, ?_⟩
  simp only [ev, Res.bind] at r
  refine Res.mono r (fun d s1 r1 t cs1 τ1 H1 e1 e2 R1 => ?_) fun _ _ z => z
  obtain ⟨k, hk, r1⟩ := Res.of.mp r1
  have := tobl_inv hk
  rw [← e1] at this
  obtain rfl := T.er_bl this
  refine ⟨k, rfl, ?_⟩
  subst e2
  cases k with
  | true =>
    rw [if_pos rfl] at r1 ⊢
    rw [Res.bind] at r1
    refine ⟨ts, cs1, τ1, R1.drop, Res.mono r1 (fun d2 s2 r2 t2 cs2 τ2 H2 e3 e4 R2 => ?_) fun _ _ z => z⟩
    obtain ⟨j, hj, r2⟩ := Res.of.mp (Res.bind.mp r2)
    have := tobl_inv hj
    exact r2 t2 cs2 τ2 H2 (by rw [e3, this]) e4 R2
  | false =>
    rw [if_neg Bool.false_ne_true] at r1 ⊢
    exact r1 (.bl false) cs1 τ1 H1 rfl rfl R1
theorem e_or {rest : List Expr} (ha : PE X a (tE P ca)) (hb : PE X (.BoolOp .Or (b :: rest) pos) (tE P cb)) : PE X (.BoolOp .Or (a :: b :: rest) pos) (tE P (.or ca cb)) := by
  refine PE_imp (pe_or ha hb) fun σ H Q ⟨ts, cs, τ, R, r⟩ => ⟨ts, cs, τ, R, ?_⟩
  simp only [ev, Res.bind] at r
  refine Res.mono r (fun d s1 r1 t cs1 τ1 H1 e1 e2 R1 => ?_) fun _ _ z => z
  obtain ⟨k, hk, r1⟩ := Res.of.mp r1
  have := tobl_inv hk
  rw [← e1] at this
  obtain rfl := T.er_bl this
  refine ⟨k, rfl, ?_⟩
  subst e2
  cases k with
  | false =>
    rw [if_neg Bool.false_ne_true] at r1 ⊢
    rw [Res.bind] at r1
    refine ⟨ts, cs1, τ1, R1.drop, Res.mono r1 (fun d2 s2 r2 t2 cs2 τ2 H2 e3 e4 R2 => ?_) fun _ _ z => z⟩
    obtain ⟨j, hj, r2⟩ := Res.of.mp (Res.bind.mp r2)
    have := tobl_inv hj
    exact r2 t2 cs2 τ2 H2 (by rw [e3, this]) e4 R2
  | true =>
    rw [if_pos rfl] at r1 ⊢
    exact r1 (.bl true) cs1 τ1 H1 rfl rfl R1
theorem e_one {op : BoolOp} (h : PE X a (tE P ca)) : PE X (.BoolOp op [a] pos) (tE P ca) := pe_one h
theorem w_and {rest : List Expr} (ha : PT X a (tT P ca)) (hb : PW X (.BoolOp .And (b :: rest) pos) (tT P cb)) : PW X (.BoolOp .And (a :: b :: rest) pos) (tT P (.and ca cb)) := by
  refine ⟨fun wh pins s σ H Q I h => (pw_and ha hb).run wh pins s σ H Q I ?_⟩
  obtain ⟨ts, cs, τ, R, r⟩ := h
  refine ⟨ts, cs, τ, R, ?_⟩
  have r := evb_bl.mp r
  simp only [ev, Res.bind] at r
  refine evb_bl.mpr (Res.mono r (fun d s1 r1 => ?_) fun _ _ z => z)
  obtain ⟨k, hk, r1⟩ := Res.of.mp r1
  refine ⟨k, hk, fun cs1 τ1 H1 e2 R1 => ?_⟩
  subst e2
  cases k with
  | true =>
    rw [if_pos rfl] at r1 ⊢
    rw [Res.bind] at r1
    refine ⟨ts, cs1, τ1, R1, evb_bl.mpr (Res.mono r1 (fun d2 s2 r2 => ?_) fun _ _ z => z)⟩
    obtain ⟨j, hj, ⟨j', hj', r2⟩⟩ := Res.of.mp (Res.bind.mp r2)
    cases tobl_inv hj'
    exact ⟨j, hj, r2⟩
  | false =>
    rw [if_neg Bool.false_ne_true] at r1 ⊢
    obtain ⟨j, hj, r1⟩ := r1
    cases tobl_inv hj
    exact r1 cs1 τ1 H1 rfl R1
theorem w_or {rest : List Expr} (ha : PT X a (tT P ca)) (hb : PW X (.BoolOp .Or (b :: rest) pos) (tT P cb)) : PW X (.BoolOp .Or (a :: b :: rest) pos) (tT P (.or ca cb)) := by
  refine ⟨fun wh pins s σ H Q I h => (pw_or ha hb).run wh pins s σ H Q I ?_⟩
  obtain ⟨ts, cs, τ, R, r⟩ := h
  refine ⟨ts, cs, τ, R, ?_⟩
  have r := evb_bl.mp r
  simp only [ev, Res.bind] at r
  refine evb_bl.mpr (Res.mono r (fun d s1 r1 => ?_) fun _ _ z => z)
  obtain ⟨k, hk, r1⟩ := Res.of.mp r1
  refine ⟨k, hk, fun cs1 τ1 H1 e2 R1 => ?_⟩
  subst e2
  cases k with
  | false =>
    rw [if_neg Bool.false_ne_true] at r1 ⊢
    rw [Res.bind] at r1
    refine ⟨ts, cs1, τ1, R1, evb_bl.mpr (Res.mono r1 (fun d2 s2 r2 => ?_) fun _ _ z => z)⟩
    obtain ⟨j, hj, ⟨j', hj', r2⟩⟩ := Res.of.mp (Res.bind.mp r2)
    cases tobl_inv hj'
    exact ⟨j, hj, r2⟩
  | true =>
    rw [if_pos rfl] at r1 ⊢
    obtain ⟨j, hj, r1⟩ := r1
    cases tobl_inv hj
    exact r1 cs1 τ1 H1 rfl R1
theorem w_and1 (ha : PT X a (tT P ca)) : PW X (.BoolOp .And [a] pos) (tT P ca) := pw_and1 ha
theorem w_or1 (ha : PT X a (tT P ca)) : PW X (.BoolOp .Or [a] pos) (tT P ca) := pw_or1 ha
theorem e_ite (hc : PT X c (tT P cc)) (ha : PE X a (tE P ca)) (hb : PE X b (tE P cb)) : PE X (.IfExp c a b pos) (tE P (.ite cc ca cb)) := by
  refine PE_imp (pe_ifExp hc ha hb) fun σ H Q ⟨ts, cs, τ, R, r⟩ => ⟨ts, cs, τ, R, ?_⟩
  simp only [ev, Res.bind] at r
  refine evb_bl.mpr (Res.mono r (fun d s1 r1 => ?_) fun _ _ z => z)
  obtain ⟨k, hk, r1⟩ := Res.of.mp r1
  refine ⟨k, hk, fun cs1 τ1 H1 e2 R1 => ?_⟩
  subst e2
  cases k with
  | true => rw [if_pos rfl] at r1 ⊢; exact ⟨ts, cs1, τ1, R1, r1⟩
  | false => rw [if_neg Bool.false_ne_true] at r1 ⊢; exact ⟨ts, cs1, τ1, R1, r1⟩
theorem e_neg (ha : PE X a (tE P ca)) : PE X (.UnaryOp .USub a pos) (tE P (.neg ca)) := by
  refine PE_imp (pe_un un_neg ha) fun σ H Q ⟨ts, cs, τ, R, r⟩ => ⟨ts, cs, τ, R, ?_⟩
  simp only [ev, Res.bind] at r
  refine Res.mono r (fun d s1 r1 t cs1 τ1 H1 e1 e2 R1 => ?_) fun _ _ z => z
  split at r1
  · rename_i i
    obtain rfl := T.er_int e1
    exact ⟨i, rfl, r1 (.int (-i)) cs1 τ1 H1 rfl e2 (R1.drop.int _)⟩
  · exact r1.elim
/-! comparisons -/
theorem e_cmp (hK : X.K = P.K.f) (hW : X.prog = P.K.p ∧ X.w = P.K.w) (hu : X.A.units + 150 < cLine) (op : Cop) (ha : PE X a (tE P ca)) (hb : PE X b (tE P cb)) (hm : behindInMarks (cpy op) b = false) : PE X (.Compare a [cpy op] [b] pos) (tE P (.cmp op ca cb)) := by
  refine PE_imp (pe_cmpR (op_copS hK hW hu op) ha hb hm) fun σ H Q ⟨ts, cs, τ, R, r⟩ => ⟨ts, cs, τ, R, ?_⟩
  simp only [ev, Res.bind] at r
  refine Res.mono r (fun d s1 r1 t1 cs1 τ1 H1 e1 e2 R1 => ⟨t1 :: ts, cs1, τ1, R1, ?_⟩) fun _ _ z => z
  subst e2
  refine Res.mono r1 (fun d2 s2 r2 t2 cs2 τ2 H2 e3 e4 R2 => ?_) fun _ _ z => z.push
  obtain ⟨k, hk, r3⟩ := Res.of.mp r2
  exact ⟨t1, t2, _, k, rfl, rfl, R2.sat.ofr.2.1, R2.sat.ofr.1, by rw [e1, e3]; exact hk, r3 (.bl k) cs2 τ2 H2 rfl e4 (R2.drop.drop.bl k)⟩
theorem t_cmp (hK : X.K = P.K.f) (hW : X.prog = P.K.p ∧ X.w = P.K.w) (hu : X.A.units + 150 < cLine) (op : Cop) (ha : PE X a (tE P ca)) (hb : PE X b (tE P cb)) (hm : behindInMarks (cpy op) b = false) : PT X (.Compare a [cpy op] [b] pos) (tT P (.cmp op ca cb)) := by
  refine PT_imp (pt_cmpR (op_copS hK hW hu op) ha hb hm) fun σ H Q ⟨ts, cs, τ, R, r⟩ => ⟨ts, cs, τ, R, ?_⟩
  have r := evb_bl.mp r
  simp only [ev, Res.bind] at r
  refine Res.mono r (fun d s1 r1 t1 cs1 τ1 H1 e1 e2 R1 => ⟨t1 :: ts, cs1, τ1, R1, ?_⟩) fun _ _ z => z
  subst e2
  refine Res.mono r1 (fun d2 s2 r2 t2 cs2 τ2 H2 e3 e4 R2 => ?_) fun _ _ z => z.push
  obtain ⟨k, hk, k', hk', r3⟩ := Res.of.mp r2
  cases tobl_inv hk'
  exact ⟨t1, t2, _, k, rfl, rfl, R2.sat.ofr.2.1, R2.sat.ofr.1, by rw [e1, e3]; exact hk, k, rfl, r3 cs2 τ2 H2 e4 R2.drop.drop⟩
theorem e_isN {j : Nat} {pos' : Pos} (ha : PE X a (tE P ca)) : PE X (.Compare a [.Is] [.Constant .none j pos'] pos) (tE P (.isN ca)) := by
  refine PE_imp (pe_cmp (pc_isN ha) (nobehind _ (by decide) (by decide))) fun σ H Q ⟨ts, cs, τ, R, r⟩ => ⟨ts, cs, τ, R, ?_⟩
  simp only [ev, Res.bind] at r
  refine Res.mono r (fun d s1 r1 t cs1 τ1 H1 e1 e2 R1 => ?_) fun _ _ z => z
  have := r1 (.bl (decide (t.val = .non))) cs1 τ1 H1 (by subst e1; cases t <;> simp [T.er, T.val]) e2 (R1.drop.bl _)
  exact this
theorem e_notN {j : Nat} {pos' : Pos} (ha : PE X a (tE P ca)) : PE X (.Compare a [.IsNot] [.Constant .none j pos'] pos) (tE P (.notN ca)) := by
  refine PE_imp (pe_cmp (pc_notN ha) (nobehind _ (by decide) (by decide))) fun σ H Q ⟨ts, cs, τ, R, r⟩ => ⟨ts, cs, τ, R, ?_⟩
  simp only [ev, Res.bind] at r
  refine Res.mono r (fun d s1 r1 t cs1 τ1 H1 e1 e2 R1 => ?_) fun _ _ z => z
  have := r1 (.bl (!decide (t.val = .non))) cs1 τ1 H1 (by subst e1; cases t <;> simp [T.er, T.val]) e2 (R1.drop.bl _)
  exact this
theorem tT_of_bl {f : D → Bool} {t : TE} (h : PT X e (tB t)) (hv : ∀ σ H Q, tE P ce σ H Q → t σ H Q) : PT X e (tT P ce) := by
  refine PT_imp h fun σ H Q ⟨ts, cs, τ, R, r⟩ => hv σ H _ ⟨ts, cs, τ, R, ?_⟩
  refine Res.mono (evb_bl.mp r) (fun d s1 ⟨b, hb, r1⟩ t cs1 τ1 H1 e1 e2 R1 => ⟨b, ?_, r1 cs1 τ1 H1 e2 R1.drop⟩) fun _ _ z => z
  have := tobl_inv hb
  rw [← e1] at this
  rw [T.er_bl this]; rfl
theorem t_isN {j : Nat} {pos' : Pos} (ha : PE X a (tE P ca)) : PT X (.Compare a [.Is] [.Constant .none j pos'] pos) (tT P (.isN ca)) := by
  refine tT_of_bl (f := fun _ => true) (pt_cmp (pc_isN ha) (nobehind _ (by decide) (by decide))) fun σ H Q ⟨ts, cs, τ, R, r⟩ => ⟨ts, cs, τ, R, ?_⟩
  simp only [ev, Res.bind] at r
  refine Res.mono r (fun d s1 r1 t cs1 τ1 H1 e1 e2 R1 => ?_) fun _ _ z => z
  exact r1 (.bl (decide (t.val = .non))) cs1 τ1 H1 (by subst e1; cases t <;> simp [T.er, T.val]) e2 (R1.drop.bl _)
theorem t_notN {j : Nat} {pos' : Pos} (ha : PE X a (tE P ca)) : PT X (.Compare a [.IsNot] [.Constant .none j pos'] pos) (tT P (.notN ca)) := by
  refine tT_of_bl (f := fun _ => true) (pt_cmp (pc_notN ha) (nobehind _ (by decide) (by decide))) fun σ H Q ⟨ts, cs, τ, R, r⟩ => ⟨ts, cs, τ, R, ?_⟩
  simp only [ev, Res.bind] at r
  refine Res.mono r (fun d s1 r1 t cs1 τ1 H1 e1 e2 R1 => ?_) fun _ _ z => z
  exact r1 (.bl (!decide (t.val = .non))) cs1 τ1 H1 (by subst e1; cases t <;> simp [T.er, T.val]) e2 (R1.drop.bl _)
end
end PV

/-! PvI: subscripts, slices, built-ins. -/
namespace PV
open PySem L2

theorem atD_map {α β : Type} (f : α → β) (l : List α) (i : Int) : atD (l.map f) i = (atD l i).map f := by
  unfold atD
  rw [List.length_map]
  cases ixn l.length i <;> simp
theorem atI_map {α β : Type} (f : α → β) (l : List α) (i : Int) {x : α} (h : atD l i = some x) : atI (l.map f) i = some (f x) := by
  have : atD (l.map f) i = some (f x) := by rw [atD_map, h]; rfl
  exact this
theorem atD_mem {α : Type} {l : List α} {i : Int} {x : α} (h : atD l i = some x) : x ∈ l := by
  unfold atD at h
  obtain ⟨j, _, h2⟩ := Option.bind_eq_some_iff.mp h
  exact List.mem_of_getElem? h2
theorem box_inv {cs : List G} {n : Nat} {l : List D} (h : box (erc cs) n = some l) : ∃ g, cs[n]? = some g ∧ l = T.ers g.l := by
  unfold box at h
  split at h
  · rename_i l' hs
    cases h
    unfold erc at hs
    rw [List.getElem?_map] at hs
    obtain ⟨g, hg, e⟩ := Option.map_eq_some_iff.mp hs
    simp only [G.er, Cell.box.injEq] at e
    exact ⟨g, hg, e.symm⟩
  · cases h
theorem ads_get {cs : List G} {n : Nat} {g : G} {a : Addr} (h : cs[n]? = some g) (e : (ads cs)[n]? = some a) : g.a = a := by
  unfold ads at e
  rw [List.getElem?_map, h] at e
  exact Option.some.inj e
/-- what an item is to its container: a part of it, or a frozen part of a box -/
def PartOf (cs : List G) (t1 t : T) : Prop := (∀ a, t.ex a ≤ t1.ex a ∧ t.sh a ≤ t1.sh a) ∨ ((∀ a, t.ex a = 0) ∧ ∀ a, t.sh a ≤ shg cs a)
/-- an item that is read -/
def rX (P : Par) : R2 := fun x y H Q => ∃ t1 t2 cs d, x = T.val t1 ∧ y = T.val t2 ∧ t1.ok P.K H (ads cs) ∧ t2.ok P.K H (ads cs) ∧ (∀ g ∈ cs, g.ok P.K H (ads cs)) ∧ ixo (erc cs) t1.er t2.er = some d ∧
  ∀ t, T.er t = d → t.ok P.K H (ads cs) → PartOf cs t1 t → Q t.val H
/-- what is read, over any state: the item's tree -/
theorem ixo_inv {cs : List G} {x y d : D} (h : ixo (erc cs) x y = some d) : (∃ l i, x = .tup l ∧ y = .int i ∧ atD l i = some d) ∨ (∃ o l i, x = .lst o l ∧ y = .int i ∧ atD l i = some d) ∨
    (∃ z i c, x = .str z ∧ y = .int i ∧ z.length ≤ sizeLine ∧ atD z.cps.toList i = some c ∧ d = .str ⟨#[c]⟩) ∨ (∃ n i g, x = .ref n ∧ y = .int i ∧ cs[n]? = some g ∧ atD (T.ers g.l) i = some d) ∨ ∃ o ks vs, x = .dct o ks vs ∧ ((kof y).isSome || tkey y) = true ∧ dget ks vs y = some d := by
  unfold ixo at h
  split at h
  · exact .inl ⟨_, _, rfl, rfl, h⟩
  · exact .inr (.inl ⟨_, _, _, rfl, rfl, h⟩)
  · split at h
    · obtain ⟨c, hc, rfl⟩ := Option.map_eq_some_iff.mp h
      exact .inr (.inr (.inl ⟨_, _, _, rfl, rfl, by assumption, hc, rfl⟩))
    · cases h
  · split at h
    · exact .inr (.inr (.inr (.inr ⟨_, _, _, rfl, by assumption, h⟩)))
    · cases h
  · obtain ⟨l, h1, h2⟩ := Option.bind_eq_some_iff.mp h
    obtain ⟨g, hg, rfl⟩ := box_inv h1
    exact .inr (.inr (.inr (.inl ⟨_, _, _, rfl, rfl, hg, h2⟩)))
  · cases h
section
variable {X : Cx} {P : Par} {a b c e : Expr} {es : List Expr} {ca cb cc ce : C} {ces : List C} {pos : Pos} {σ : St} {H : Hp} {ts : List T} {cs : List G} {τ : List (Option T)} {t t1 t2 : T}
theorem atD_er {l : List T} {i : Int} {d : D} (h : atD (T.ers l) i = some d) : ∃ t, atD l i = some t ∧ t.er = d := by
  rw [T.ers_map, atD_map] at h
  exact Option.map_eq_some_iff.mp h
theorem ix_S (hK : X.K = P.K.f) (hW : X.prog = P.K.p ∧ X.w = P.K.w) (hu : X.A.units + 150 < cLine) : IxR X (rX P) := by
  intro value slice pins s σ' H x y v u Q I rx ry ⟨t1, t2, cs, d, e1, e2, o1, o2, oc, hd, q⟩ hs
  subst e1 e2
  rcases ixo_inv hd with ⟨l, i, h1, h2, h3⟩ | ⟨o, l, i, h1, h2, h3⟩ | ⟨z, i, c, h1, h2, hz, h3, rfl⟩ | ⟨n, i, g, h1, h2, hg, h3⟩ | ⟨o, ks, vs, h1, h2, h3⟩
  · obtain ⟨p, l, rfl, rfl⟩ := T.er_tup h1
    obtain rfl := T.er_int h2
    obtain ⟨t, ht, rfl⟩ := atD_er h3
    have hm := atD_mem ht
    exact ix_tup value slice pins s σ' H _ _ v u Q I rx ry ⟨p, _, i, t.val, rfl, rfl, hK ▸ o1.1, atI_map T.val l i ht, q t rfl (T.oks_iff.mp o1.2 t hm) (.inl fun a => ⟨T.ex_le_exs hm a, T.sh_le_shs hm a⟩)⟩ hs
  · obtain ⟨p, l, rfl, rfl⟩ := T.er_lst h1
    obtain rfl := T.er_int h2
    obtain ⟨t, ht, rfl⟩ := atD_er h3
    have hm := atD_mem ht
    refine ix_list value slice pins s σ' H _ _ v u Q I rx ry ⟨p, _, i, t.val, rfl, rfl, SqL.of o1.1, atI_map T.val l i ht, q t rfl (T.oks_iff.mp o1.2 t hm) (.inl fun a => ?_)⟩ hs
    have := T.ex_le_exs hm a; have := T.sh_le_shs hm a
    simp only [T.ex, T.sh]; omega
  · obtain rfl := T.er_str h1
    obtain rfl := T.er_int h2
    exact ix_str value slice pins s σ' H _ _ v u Q I rx ry ⟨z, i, c, rfl, rfl, hz, h3, q (.str ⟨#[c]⟩) rfl trivial (.inl fun a => ⟨Nat.le_refl _, Nat.le_refl _⟩)⟩ hs
  · obtain ⟨p, rfl⟩ := T.er_ref h1
    obtain rfl := T.er_int h2
    have ea := ads_get hg o1
    have og := oc g (List.mem_of_getElem? hg)
    obtain ⟨t, ht, rfl⟩ := atD_er h3
    have hm := atD_mem ht
    refine ix_list value slice pins s σ' H _ _ v u Q I rx ry ⟨p, _, i, t.val, rfl, rfl, SqL.of (ea ▸ og.1), atI_map T.val g.l i ht, q t rfl (T.oks_iff.mp og.2.1 t hm) (.inr ⟨fun a => ?_, fun a => ?_⟩)⟩ hs
    · exact T.ex_isz t a (D.iszs_iff.mp og.2.2 _ (by rw [T.ers_map]; exact List.mem_map_of_mem hm))
    · exact Nat.le_trans (T.sh_le_shs hm a) (mem_exg (List.mem_of_getElem? hg) a).2
  · obtain ⟨p, kts, l, rfl, rfl, rfl⟩ := T.er_dct h1
    cases (show v = Value.ref p from rx)
    obtain ⟨t, hm, et, ty, rule⟩ := d_getD (A := X.A) (E := X.xe) hK hW (by omega) I o1 o2 h2 h3 ry
    refine PyProof.Rows.tail_any ty PySem.F.slot_dict_getitem.lookup (rule _ fun w' s' I' rw' => ⟨t.val, H, I', rw', q t et (T.oks_iff.mp o1.2.1 t hm) (.inl fun a => ?_)⟩) hs
    have := T.ex_le_exs hm a; have := T.sh_le_shs hm a
    simp only [T.ex, T.sh]; omega
theorem Rel.ofPart (R : Rel P σ H (t2 :: t1 :: ts) cs τ) (o : t.ok P.K H (ads cs)) (p : PartOf cs t1 t) : Rel P σ H (t :: ts) cs τ := by
  rcases p with p | ⟨p1, p2⟩
  · exact R.parts2 (us := [t]) ⟨o, trivial⟩ fun a => by have := p a; simp only [T.exs, T.shs]; omega
  · have R' := R.drop.drop
    exact R'.with (R'.sat.dupPart o p1 fun a => by have := p2 a; omega)
def isSlice : Expr → Bool
  | .Slice _ _ _ _ => true | _ => false
theorem plainIx_of {b : Expr} (h : isSlice b = false) : PlainIx b := by
  intro o i
  cases b <;> first | rfl | (simp [isSlice] at h)
theorem e_ix (hK : X.K = P.K.f) (hW : X.prog = P.K.p ∧ X.w = P.K.w) (hu : X.A.units + 150 < cLine) (ha : PE X a (tE P ca)) (hb : PE X b (tE P cb)) (hs : isSlice b = false) : PE X (.Subscript a b pos) (tE P (.ix ca cb)) := by
  refine PE_imp (pe_ix (ix_S hK hW hu) ha hb (plainIx_of hs)) fun σ H Q ⟨ts, cs, τ, R, r⟩ => ⟨ts, cs, τ, R, ?_⟩
  simp only [ev, Res.bind] at r
  refine Res.mono r (fun d s1 r1 t1 cs1 τ1 H1 e1 e2 R1 => ⟨t1 :: ts, cs1, τ1, R1, ?_⟩) fun _ _ z => z
  subst e2
  refine Res.mono r1 (fun d2 s2 r2 t2 cs2 τ2 H2 e3 e4 R2 => ?_) fun _ _ z => z.push
  subst e4
  obtain ⟨d', hd, r3⟩ := Res.of.mp r2
  exact ⟨t1, t2, cs2, d', rfl, rfl, R2.sat.ofr.2.1, R2.sat.ofr.1, R2.sat.ocs, by rw [e1, e3]; exact hd, fun t et ot pt => r3 t cs2 τ2 H2 et rfl (R2.ofPart ot pt)⟩
theorem e_pix (hK : X.K = P.K.f) (hW : X.prog = P.K.p ∧ X.w = P.K.w) (hu : X.A.units + 150 < cLine) {n : Nat} {x : Str} {p : Pos} (hN : X.N[n]? = some x) (hv : Vis X.env.scope x) (hd : (x == ("__debug__" : Str)) = false) (hcd : (x == ("__classdict__" : Str)) = false) (hb : PE X b (tE P cb)) (hs : isSlice b = false) : PE X (.Subscript (.Name x p) b pos) (tE P (.pix n cb)) := by
  refine PE_imp (pe_ix (ix_S hK hW hu) (pe_var hN hv hd hcd) hb (plainIx_of hs)) fun σ H Q ⟨ts, cs, τ, R, r⟩ => ?_
  simp only [ev, Res.bind] at r
  obtain ⟨d0, hd0, r⟩ := Res.of.mp r
  rw [show (stt cs τ).r = ero τ from rfl, gt_ero] at hd0
  obtain ⟨t0, ht0, rfl⟩ := Option.map_eq_some_iff.mp hd0
  have v0 := R.val n t0 ht0
  refine ⟨t0.val, v0, ts, cs, τ, R, ?_⟩
  refine Res.mono r (fun d1 s1 r1 t2 cs1 τ1 H1 e1 e2 R1 => ?_) fun _ _ z => z
  subst e2
  obtain ⟨d2, hd2, r2⟩ := Res.of.mp r1
  rw [show (stt cs1 τ1).r = ero τ1 from rfl, gt_ero] at hd2
  obtain ⟨t1, ht1, rfl⟩ := Option.map_eq_some_iff.mp hd2
  have v1 := R1.val n t1 ht1
  rw [v0] at v1
  have ev1 : t0.val = t1.val := by simpa using v1
  obtain ⟨d3, hd3, r3⟩ := Res.of.mp r2
  split at r3
  · rename_i hz
    refine ⟨t1, t2, cs1, d3, ev1, rfl, R1.sat.osl t1 (gt_mem ht1), R1.sat.ofr.1, R1.sat.ocs, by rw [e1]; exact hd3, fun t et ot pt => r3 t cs1 τ1 H1 et rfl ?_⟩
    have R2 := R1.drop
    refine R2.with (R2.sat.dupPart ot (fun a => T.ex_isz t a (by rw [et]; exact hz)) fun a => ?_)
    rcases pt with pt | pt
    · have := mem_exo (gt_mem ht1) a; have := pt a; omega
    · have := pt.2 a; omega
  · exact r3.elim
/-! slices -/
theorem cut_cutV (l : List V) (lo hi : Option Int) : cut l lo hi = cutV l lo hi := rfl
theorem cut_map {α β : Type} (f : α → β) (l : List α) (lo hi : Option Int) : (cut l lo hi).map f = cut (l.map f) lo hi := by
  unfold cut
  rw [List.map_take, List.map_drop, List.length_map]
theorem cut_sub {α : Type} (l : List α) (lo hi : Option Int) : (cut l lo hi).Sublist l := (List.take_sublist _ _).trans (List.drop_sublist _ _)
theorem slo_inv {x d : D} {l u : Option Int} (h : slo x l u = some d) : (∃ m, x = .tup m ∧ d = .tup (cut m l u)) ∨ (∃ o m, x = .lst o m ∧ d = .lst true (cut m l u)) ∨
    (∃ m, x = .scr m ∧ d = .lst true ((cut m l u).map .int)) ∨ ∃ z, x = .str z ∧ z.length ≤ sizeLine ∧ d = .str ⟨(cut z.cps.toList l u).toArray⟩ := by
  unfold slo at h
  split at h
  · cases h; exact .inl ⟨_, rfl, rfl⟩
  · cases h; exact .inr (.inl ⟨_, _, rfl, rfl⟩)
  · cases h; exact .inr (.inr (.inl ⟨_, rfl, rfl⟩))
  · split at h
    · cases h; exact .inr (.inr (.inr ⟨_, rfl, by assumption, rfl⟩))
    · cases h
  · cases h
theorem sub_oks {K : KW} {ad : List Addr} {l m : List T} (h : T.oks K H ad m) (s : l.Sublist m) : T.oks K H ad l := T.oks_iff.mpr fun t ht => T.oks_iff.mp h t (s.subset ht)
theorem Rel.ints {p : Addr} (R : Rel P σ H ts cs τ) (l : List Int) (h : H p = none) : Rel P σ (upd H p (.lst (l.map V.int))) (.lst true p (l.map T.int) :: ts) cs τ := by
  have z : ∀ l : List Int, (∀ a, T.exs (l.map T.int) a = 0) ∧ (∀ a, T.shs (l.map T.int) a = 0) ∧ ∀ K H ad, T.oks K H ad (l.map T.int) := by
    intro l
    induction l with
    | nil => exact ⟨fun _ => rfl, fun _ => rfl, fun _ _ _ => trivial⟩
    | cons i l ih => exact ⟨fun a => by simp only [List.map_cons, T.exs, T.ex, ih.1 a], fun a => by simp only [List.map_cons, T.shs, T.sh, ih.2.1 a], fun K H ad => ⟨trivial, ih.2.2 K H ad⟩⟩
  obtain ⟨z1, z2, z3⟩ := z l
  have R2 : Rel P σ H (l.map T.int ++ ts) cs τ := R.less (T.oks_append.mpr ⟨z3 _ _ _, (T.oks_append.mp R.sat.ofr).1⟩) fun a => by simp only [T.exs_append, T.shs_append, z1 a, z2 a]; omega
  have R3 := R2.lst h
  rw [List.map_map] at R3
  exact R3
/-- a slice of a value by values: the tree of the value is the newest root -/
def rSl (P : Par) : V → Option Int → Option Int → Hp → VK → Prop := fun x l u H Q => ∃ σ t1 ts cs τ d, x = T.val t1 ∧ Rel P σ H (t1 :: ts) cs τ ∧ slo t1.er l u = some d ∧
  ∀ t H', T.er t = d → Rel P σ H' (t :: ts) cs τ → Q t.val H'
theorem sl_S (hK : X.K = P.K.f) : SlR X (rSl P) := by
  intro pins s σ' H x v vl vu l u sl Q I rx hs pl pu ⟨σ, t1, ts, cs, τ, d, e1, R, hd, q⟩
  subst e1
  have hc := slo_inv hd
  rcases hc with ⟨m, hx, rfl⟩ | ⟨o, m, hx, rfl⟩ | ⟨m, hx, rfl⟩ | ⟨z, hx, hz, rfl⟩
  · obtain ⟨p, m, rfl, rfl⟩ := T.er_tup hx
    have o1 := R.okh
    refine sl_tupA pins s σ' H _ v vl vu l u sl Q I rx hs pl pu ⟨p, _, rfl, hK ▸ o1.1, fun hw => ?_, fun _ n hn => ?_⟩
    · refine q (.tup p m) H ?_ R
      simp only [T.er]
      have e : cut (T.ers m) l u = T.ers m := by
        unfold cut
        have e1 : sxn (T.ers m).length 0 l = 0 := by have := hw.1; rw [List.length_map] at this; rw [T.ers_length]; exact this
        have e2 : sxn (T.ers m).length (T.ers m).length u = (T.ers m).length := by have := hw.2; rw [List.length_map] at this; rw [T.ers_length]; exact this
        rw [e1, e2, List.drop_zero, Nat.sub_zero, List.take_of_length_le (Nat.le_refl _)]
      rw [e]
    · have sb := cut_sub m l u
      have R2 := (R.parts1 (us := cut m l u) (sub_oks o1.2 sb) fun a => by have := T.exs_sub sb a; have := T.shs_sub sb a; simp only [T.ex, T.sh]; omega).tup hn
      rw [cut_map] at R2
      exact q (.tup n (cut m l u)) _ (by simp only [T.er, T.ers_map]; rw [cut_map]) R2
  · obtain ⟨p, m, rfl, rfl⟩ := T.er_lst hx
    have o1 := R.okh
    refine sl_list pins s σ' H _ v vl vu l u sl Q I rx hs pl pu ⟨p, _, rfl, SqL.of o1.1, fun n hn => ?_⟩
    have sb := cut_sub m l u
    have R2 := (R.parts1 (us := cut m l u) (sub_oks o1.2 sb) fun a => by have := T.exs_sub sb a; have := T.shs_sub sb a; simp only [T.ex, T.sh]; omega).lst hn
    rw [cut_map] at R2
    exact q (.lst true n (cut m l u)) _ (by simp only [T.er, T.ers_map]; rw [cut_map]) R2
  · obtain ⟨p, rfl⟩ := T.er_scr hx
    have o1 := R.okh
    refine sl_list pins s σ' H _ v vl vu l u sl Q I rx hs pl pu ⟨p, _, rfl, hK ▸ ScL.sq o1, fun n hn => ?_⟩
    have R2 := R.drop.ints (cut m l u) hn
    rw [cut_map] at R2
    exact q (.lst true n ((cut m l u).map T.int)) _ (by simp [T.er, T.ers_map]) R2
  · obtain rfl := T.er_str hx
    exact sl_str pins s σ' H _ v vl vu l u sl Q I rx hs pl pu ⟨z, rfl, hz, q (.str _) H (by rfl) (R.drop.str _)⟩
/-- a slice's part that is left out, or an expression -/
def PB (X : Cx) (P : Par) (e : Option Expr) (c : C) : Prop := (e = none ∧ c = .abs) ∨ ∃ e', e = some e' ∧ c ≠ .abs ∧ PE X e' (tE P c)
def tO (P : Par) (c : C) : TO := fun σ H Q => ∃ ts cs τ, Rel P σ H ts cs τ ∧
  Res (ev P.env c (stt cs τ)) (fun d s' => ∃ o, part c d = some o ∧ ∀ cs' τ' H', s' = stt cs' τ' → Rel P σ H' ts cs' τ' → Q o H') (Bad P ts)
theorem po_of {e : Option Expr} {c : C} (h : PB X P e c) : PO X e (tO P c) := by
  rcases h with ⟨rfl, rfl⟩ | ⟨e', rfl, hc, he⟩
  · refine ⟨fun pins s σ H Q I ⟨ts, cs, τ, R, r⟩ => po_none.run pins s σ H Q I ?_⟩
    obtain ⟨o, ho, q⟩ := r
    cases ho
    exact q cs τ H rfl R
  · refine ⟨fun pins s σ H Q I ⟨ts, cs, τ, R, r⟩ => (po_some he).run pins s σ H Q I ⟨ts, cs, τ, R, Res.mono r (fun d s1 ⟨o, ho, q⟩ t cs1 τ1 H1 e1 e2 R1 => ?_) fun _ _ z => z⟩⟩
    have : ∃ i, d = .int i ∧ o = some i := by
      unfold part at ho
      split at ho
      · exact absurd rfl hc
      · cases ho; exact ⟨_, rfl, rfl⟩
      · cases ho
    obtain ⟨i, rfl, rfl⟩ := this
    obtain rfl := T.er_int e1
    exact ⟨i, rfl, q cs1 τ1 H1 e2 R1.drop⟩
theorem e_slc (hK : X.K = P.K.f) {lo hi : Option Expr} {cl ch : C} {p2 : Pos} (ha : PE X a (tE P ca)) (hl : PB X P lo cl) (hh : PB X P hi ch) : PE X (.Subscript a (.Slice lo hi none p2) pos) (tE P (.slc ca cl ch)) := by
  refine PE_imp (pe_slice (sl_S hK) ha (po_of hl) (po_of hh)) fun σ H Q ⟨ts, cs, τ, R, r⟩ => ⟨ts, cs, τ, R, ?_⟩
  simp only [ev, Res.bind] at r
  refine Res.mono r (fun d s1 r1 t1 cs1 τ1 H1 e1 e2 R1 => ⟨t1 :: ts, cs1, τ1, R1, ?_⟩) fun _ _ z => z
  subst e2
  refine Res.mono r1 (fun d2 s2 r2 => ?_) fun _ _ z => z.push
  obtain ⟨l, hl, r3⟩ := Res.of.mp r2
  refine ⟨l, hl, fun cs2 τ2 H2 e3 R2 => ⟨t1 :: ts, cs2, τ2, R2, ?_⟩⟩
  subst e3
  refine Res.mono r3 (fun d3 s3 r4 => ?_) fun _ _ z => z.push
  obtain ⟨u, hu, r5⟩ := Res.of.mp r4
  refine ⟨u, hu, fun cs3 τ3 H3 e4 R3 => ?_⟩
  obtain ⟨d', hd, r6⟩ := Res.of.mp r5
  exact ⟨σ, t1, ts, cs3, τ3, d', rfl, R3, by rw [e1]; exact hd, fun t H' et R' => r6 t cs3 τ3 H' et e4 R'⟩
/-! a < b < c -/
theorem chain_run (hK : X.K = P.K.f) (o1 o2 : Cop) {Q : V → Hp → Prop} (R : Rel P σ H ts cs τ)
    (r : Res (ev P.env (.chain o1 o2 ca cb cc) (stt cs τ)) (fun d s' => ∀ b, d = .bl b → ∀ cs' τ' H', s' = stt cs' τ' → Rel P σ H' ts cs' τ' → Q (.bl b) H') (Bad P ts)) :
    tChain (rC P (cop o1)) (rC P (cop o2)) (tE P ca) (tE P cb) (tE P cc) σ H Q := by
  refine ⟨ts, cs, τ, R, ?_⟩
  simp only [ev, Res.bind] at r
  refine Res.mono r (fun d s1 r1 t1 cs1 τ1 H1 e1 e2 R1 => ⟨t1 :: ts, cs1, τ1, R1, ?_⟩) fun _ _ z => z
  subst e2
  refine Res.mono r1 (fun d2 s2 r2 t2 cs2 τ2 H2 e3 e4 R2 => ?_) fun _ _ z => z.push
  subst e4
  obtain ⟨k, hk, r3⟩ := Res.of.mp r2
  refine ⟨t1, t2, _, k, rfl, rfl, R2.sat.ofr.2.1, R2.sat.ofr.1, by rw [e1, e3]; exact hk, k, rfl, ?_⟩
  cases k with
  | true =>
    rw [if_pos rfl] at r3 ⊢
    rw [Res.bind] at r3
    refine ⟨t2 :: t1 :: ts, cs2, τ2, R2, Res.mono r3 (fun d3 s3 r4 t3 cs3 τ3 H3 e5 e6 R3 => ?_) fun _ _ z => z.push.push⟩
    obtain ⟨j, hj, r5⟩ := Res.of.mp (Res.bind.mp r4)
    exact ⟨t2, t3, _, j, rfl, rfl, R3.sat.ofr.2.1, R3.sat.ofr.1, by rw [e3, e5]; exact hj, r5 j rfl cs3 τ3 H3 e6 R3.drop.drop.drop⟩
  | false =>
    rw [if_neg Bool.false_ne_true] at r3 ⊢
    exact r3 false rfl cs2 τ2 H2 rfl R2.drop.drop
theorem chain_bl {o1 o2 : Cop} {E : PV.Env} {s : S} {k : D → S → Prop} {x : Exn → S → Prop} (h : Res (ev E (.chain o1 o2 ca cb cc) s) k x) : Res (ev E (.chain o1 o2 ca cb cc) s) (fun d s => k d s ∧ ∃ b, d = .bl b) x := by
  simp only [ev, Res.bind] at h ⊢
  refine Res.mono h (fun d s1 r1 => Res.mono r1 (fun d2 s2 r2 => ?_) fun _ _ z => z) fun _ _ z => z
  obtain ⟨a, ha, r3⟩ := Res.of.mp r2
  refine Res.of.mpr ⟨a, ha, ?_⟩
  cases a with
  | true =>
    rw [if_pos rfl] at r3 ⊢
    rw [Res.bind] at r3 ⊢
    refine Res.mono r3 (fun d3 s3 r4 => ?_) fun _ _ z => z
    obtain ⟨j, hj, r5⟩ := Res.of.mp (Res.bind.mp r4)
    exact Res.bind.mpr (Res.of.mpr ⟨j, hj, r5, j, rfl⟩)
  | false =>
    rw [if_neg Bool.false_ne_true] at r3 ⊢
    exact ⟨r3, false, rfl⟩
theorem e_chain (hK : X.K = P.K.f) (hW : X.prog = P.K.p ∧ X.w = P.K.w) (hu : X.A.units + 150 < cLine) (o1 o2 : Cop) (ha : PE X a (tE P ca)) (hb : PE X b (tE P cb)) (hc : PE X c (tE P cc)) (hm : lastMarks [cpy o1, cpy o2] [b, c] = false) : PE X (.Compare a [cpy o1, cpy o2] [b, c] pos) (tE P (.chain o1 o2 ca cb cc)) := by
  refine PE_imp (pe_chain (op_copS hK hW hu o1) (op_copS hK hW hu o2) ha hb hc hm) fun σ H Q ⟨ts, cs, τ, R, r⟩ => chain_run hK o1 o2 R (Res.mono r (fun d s1 r1 b e cs1 τ1 H1 e2 R1 => ?_) fun _ _ z => z)
  exact r1 (.bl b) cs1 τ1 H1 (by rw [e]; rfl) e2 (R1.bl b)
theorem t_chain (hK : X.K = P.K.f) (hW : X.prog = P.K.p ∧ X.w = P.K.w) (hu : X.A.units + 150 < cLine) (o1 o2 : Cop) (ha : PE X a (tE P ca)) (hb : PE X b (tE P cb)) (hc : PE X c (tE P cc)) (hm : lastMarks [cpy o1, cpy o2] [b, c] = false) : PT X (.Compare a [cpy o1, cpy o2] [b, c] pos) (tT P (.chain o1 o2 ca cb cc)) := by
  refine PT_imp (pt_chain (op_copS hK hW hu o1) (op_copS hK hW hu o2) ha hb hc hm) fun σ H Q ⟨ts, cs, τ, R, r⟩ => chain_run hK o1 o2 R (Res.mono (evb_bl.mp r) (fun d s1 ⟨b', hb', r1⟩ b e cs1 τ1 H1 e2 R1 => ?_) fun _ _ z => z)
  rw [e] at hb'
  cases hb'
  exact ⟨b, rfl, r1 cs1 τ1 H1 e2 R1⟩
end
end PV

/-! PvJ: built-ins, isinstance. -/
namespace PV
open PySem L2

/-- how often an address stands in a value's items -/
def T.kx : T → Addr → Nat
  | .lst _ _ l, a => T.exs l a
  | .dct _ _ _ l, a => T.exs l a
  | .set _ _ _, _ => 0
  | t, a => t.ex a
def T.ks : T → Addr → Nat
  | .lst _ _ l, a => T.shs l a
  | .dct _ _ _ l, a => T.shs l a
  | .set _ _ _, _ => 0
  | t, a => t.sh a
def kxs : List T → Addr → Nat
  | [], _ => 0 | t :: l, a => t.kx a + kxs l a
def kss : List T → Addr → Nat
  | [], _ => 0 | t :: l, a => t.ks a + kss l a
/-- a value's items, as roots -/
def T.kid : T → List T
  | .lst _ _ l => l
  | .dct _ _ _ l => l
  | .set _ _ _ => []
  | t => [t]
theorem T.kid_ex (t : T) (a : Addr) : T.exs t.kid a = t.kx a := by cases t <;> simp [T.kid, T.kx, T.exs]
theorem T.kid_sh (t : T) (a : Addr) : T.shs t.kid a = t.ks a := by cases t <;> simp [T.kid, T.ks, T.shs]
theorem T.kid_ok {K : KW} {H : Hp} {ad : List Addr} (t : T) (h : t.ok K H ad) : T.oks K H ad t.kid := by
  cases t <;> first | exact trivial | exact ⟨h, trivial⟩ | exact h.2 | exact h.2.1
theorem kxs_le (a : Addr) : ∀ l : List T, kxs l a ≤ T.exs l a
  | [] => Nat.le_refl _
  | t :: l => by
    have := kxs_le a l
    simp only [kxs, T.exs]
    cases t <;> simp only [T.kx, T.ex] <;> omega
theorem kss_le (a : Addr) : ∀ l : List T, kss l a ≤ T.shs l a
  | [] => Nat.le_refl _
  | t :: l => by
    have := kss_le a l
    simp only [kss, T.shs]
    cases t <;> simp only [T.ks, T.sh] <;> omega
/-- a built-in's call by values: the arguments' trees, what may come of them -/
def rBi (P : Par) (b : Bi) : List V → Hp → VK → Prop := fun xs H Q => ∃ us ad d, xs = us.map T.val ∧ T.oks P.K H ad us ∧ bapp b (T.ers us) = some d ∧
  (∀ t : T, t.er = d → t.ok P.K H ad → (∀ a, t.ex a ≤ kxs us a ∧ t.sh a ≤ kss us a) → Q t.val H) ∧
  (∀ (l : List T) (p : Addr), d = .lst true (T.ers l) → T.oks P.K H ad l → (∀ a, T.exs l a ≤ kxs us a ∧ T.shs l a ≤ kss us a) → H p = none → Q (.ref p) (upd H p (.lst (l.map T.val)))) ∧
  (∀ (l : List T) (p : Addr), d = .tup (T.ers l) → T.oks P.K H ad l → (∀ a, T.exs l a ≤ kxs us a ∧ T.shs l a ≤ kss us a) → H p = none → Q (.ref p) (upd H p (.tup (l.map T.val)))) ∧
  (∀ (t : T) (p : Addr) (ob : HO), t.er = d → H p = none → t.ok P.K (upd H p ob) ad → (∀ a, t.ex a ≤ one p a + kxs us a ∧ t.sh a ≤ kss us a) → Q t.val (upd H p ob))
theorem ers_one {us : List T} {d : D} (h : T.ers us = [d]) : ∃ t, us = [t] ∧ t.er = d := by
  match us, h with
  | [t], h => simp only [T.ers, List.cons.injEq, and_true] at h; exact ⟨t, rfl, h⟩
theorem ers_two {us : List T} {d e : D} (h : T.ers us = [d, e]) : ∃ t u, us = [t, u] ∧ t.er = d ∧ u.er = e := by
  match us, h with
  | [t, u], h => simp only [T.ers, List.cons.injEq, and_true] at h; exact ⟨t, u, rfl, h.1, h.2⟩
theorem toInts_inv : ∀ {l : List T} {ns : List Int}, toInts (T.ers l) = some ns → l = ns.map T.int
  | [], ns, h => by simp [T.ers, toInts] at h; subst h; rfl
  | x :: xs, ns, h => by
    simp only [T.ers] at h
    cases hx : x.er with
    | int i =>
      rw [hx, toInts] at h
      obtain ⟨ms, hm, rfl⟩ := Option.map_eq_some_iff.mp h
      rw [List.map_cons, ← toInts_inv hm, T.er_int hx]
    | _ => rw [hx] at h; simp [toInts] at h
theorem toBls_inv : ∀ {l : List T} {ns : List Bool}, toBls (T.ers l) = some ns → l = ns.map T.bl
  | [], ns, h => by simp [T.ers, toBls] at h; subst h; rfl
  | x :: xs, ns, h => by
    simp only [T.ers] at h
    cases hx : x.er with
    | bl i =>
      rw [hx, toBls] at h
      obtain ⟨ms, hm, rfl⟩ := Option.map_eq_some_iff.mp h
      rw [List.map_cons, ← toBls_inv hm, T.er_bl hx]
    | _ => rw [hx] at h; simp [toBls] at h
theorem val_ints (ns : List Int) : (ns.map T.int).map T.val = ns.map V.int := by rw [List.map_map]; rfl
theorem val_bls (ns : List Bool) : (ns.map T.bl).map T.val = ns.map V.bl := by rw [List.map_map]; rfl
theorem ers_ints (ns : List Int) : T.ers (ns.map T.int) = ns.map D.int := by rw [T.ers_map, List.map_map]; rfl
theorem ints_sums : ∀ ns : List Int, (∀ a, T.exs (ns.map T.int) a = 0) ∧ (∀ a, T.shs (ns.map T.int) a = 0) ∧ ∀ K H ad, T.oks K H ad (ns.map T.int)
  | [] => ⟨fun _ => rfl, fun _ => rfl, fun _ _ _ => trivial⟩
  | i :: l => ⟨fun a => by simp only [List.map_cons, T.exs, T.ex, (ints_sums l).1 a], fun a => by simp only [List.map_cons, T.shs, T.sh, (ints_sums l).2.1 a], fun K H ad => ⟨trivial, (ints_sums l).2.2 K H ad⟩⟩
theorem minI_spec : ∀ (ns : List Int) (m : Int), minI m ns ∈ m :: ns ∧ ∀ y ∈ m :: ns, minI m ns ≤ y
  | [], m => by simp [minI]
  | x :: xs, m => by
    have h := minI_spec xs (if x < m then x else m)
    simp only [minI]
    by_cases c : x < m
    · rw [if_pos c] at h ⊢
      refine ⟨List.mem_cons_of_mem _ h.1, fun y hy => ?_⟩
      rcases List.mem_cons.mp hy with rfl | hy
      · have := h.2 x List.mem_cons_self; omega
      · exact h.2 y hy
    · rw [if_neg c] at h ⊢
      refine ⟨?_, fun y hy => ?_⟩
      · rcases List.mem_cons.mp h.1 with e | e
        · rw [e]; exact List.mem_cons_self
        · exact List.mem_cons_of_mem _ (List.mem_cons_of_mem _ e)
      · rcases List.mem_cons.mp hy with rfl | hy
        · exact h.2 _ List.mem_cons_self
        · rcases List.mem_cons.mp hy with rfl | hy
          · have := h.2 m List.mem_cons_self; omega
          · exact h.2 y (List.mem_cons_of_mem _ hy)
theorem maxI_spec : ∀ (ns : List Int) (m : Int), maxI m ns ∈ m :: ns ∧ ∀ y ∈ m :: ns, y ≤ maxI m ns
  | [], m => by simp [maxI]
  | x :: xs, m => by
    have h := maxI_spec xs (if m < x then x else m)
    simp only [maxI]
    by_cases c : m < x
    · rw [if_pos c] at h ⊢
      refine ⟨List.mem_cons_of_mem _ h.1, fun y hy => ?_⟩
      rcases List.mem_cons.mp hy with rfl | hy
      · have := h.2 x List.mem_cons_self; omega
      · exact h.2 y hy
    · rw [if_neg c] at h ⊢
      refine ⟨?_, fun y hy => ?_⟩
      · rcases List.mem_cons.mp h.1 with e | e
        · rw [e]; exact List.mem_cons_self
        · exact List.mem_cons_of_mem _ (List.mem_cons_of_mem _ e)
      · rcases List.mem_cons.mp hy with rfl | hy
        · exact h.2 _ List.mem_cons_self
        · rcases List.mem_cons.mp hy with rfl | hy
          · have := h.2 m List.mem_cons_self; omega
          · exact h.2 y (List.mem_cons_of_mem _ hy)
section
variable {X : Cx} {P : Par}
theorem sc_int {us : List T} {H : Hp} {ad : List Addr} {i : Int} {Q : VK} (q : ∀ t : T, t.er = .int i → t.ok P.K H ad → (∀ a, t.ex a ≤ kxs us a ∧ t.sh a ≤ kss us a) → Q t.val H) : Q (.int i) H :=
  q (.int i) rfl trivial fun a => ⟨Nat.zero_le _, Nat.zero_le _⟩
theorem sc_bl {us : List T} {H : Hp} {ad : List Addr} {i : Bool} {Q : VK} (q : ∀ t : T, t.er = .bl i → t.ok P.K H ad → (∀ a, t.ex a ≤ kxs us a ∧ t.sh a ≤ kss us a) → Q t.val H) : Q (.bl i) H :=
  q (.bl i) rfl trivial fun a => ⟨Nat.zero_le _, Nat.zero_le _⟩
theorem bi_len (hK : X.K = P.K.f) (hW : X.prog = P.K.p ∧ X.w = P.K.w) : CallR X (.builtin "len") (rBi P .len) := by
  intro pins s σ' H xs vs Q I r ⟨us, ad, d, e, o, h, q1, q2, q3, q4⟩
  subst e
  simp only [bapp, bLen] at h
  split at h
  · rename_i l hu
    cases h
    obtain ⟨t, rfl, hx⟩ := ers_one hu
    obtain ⟨a, l, rfl, rfl⟩ := T.er_tup hx
    rw [T.ers_length] at q1
    exact call_len pins s σ' H _ vs Q I r ⟨_, l.length, rfl, .inr ⟨_, hK ▸ o.1.1, by simp⟩, sc_int q1⟩
  · rename_i b l hu
    cases h
    obtain ⟨t, rfl, hx⟩ := ers_one hu
    obtain ⟨a, l, rfl, rfl⟩ := T.er_lst hx
    rw [T.ers_length] at q1
    exact call_len pins s σ' H _ vs Q I r ⟨_, l.length, rfl, .inl ⟨_, SqL.of o.1.1, by simp⟩, sc_int q1⟩
  · rename_i x hu
    split at h
    · rename_i hz
      cases h
      obtain ⟨t, rfl, hx⟩ := ers_one hu
      obtain rfl := T.er_str hx
      exact call_len pins s σ' H _ vs Q I r ⟨_, x.length, rfl, ⟨hz, rfl⟩, sc_int q1⟩
    · cases h
  · rename_i b l hu
    split at h
    · rename_i hz
      cases h
      obtain ⟨t, rfl, hx⟩ := ers_one hu
      obtain ⟨a, rfl⟩ := T.er_set hx
      rcases o.1 with ⟨il, _, rfl, S, e2, _⟩ | ⟨ts, e1, _, _, e4⟩
      · rw [Vals.ref1 r]
        obtain ⟨ob, es, ep, t, ho, hex, hd, _, _, _, hf, hn⟩ := (I.hok a _ e2 : _)
        rw [List.length_map] at hz q1
        refine PySem.call_len_set ho hex hd hf (by rw [hn]; omega) ⟨.int il.length, H, I.tok _, ⟨_, by rw [hn]⟩, sc_int q1⟩
      · rw [Vals.ref1 r]
        obtain ⟨⟨es, ep, t, R⟩, _⟩ := I.hok a _ e4
        obtain ⟨ob, ho, hex, hd⟩ := R.ob
        have hl : es.size = l.length := by rw [R.size, List.length_map, ← T.ers_length, e1.length_eq]
        refine PySem.call_len_set ho hex hd R.fits (by rw [hl]; omega) ⟨.int l.length, H, I.tok _, ⟨_, by rw [hl]⟩, sc_int q1⟩
    · cases h
  · rename_i b ks vs' hu
    split at h
    · rename_i hz
      cases h
      obtain ⟨t, rfl, hx⟩ := ers_one hu
      obtain ⟨a, kts, l, rfl, rfl, rfl⟩ := T.er_dct hx
      rcases o.1.1 with ⟨kl, e1, e2, e3⟩ | ⟨e0, e1, e2, e3, e4⟩
      · rw [Vals.ref1 r]
        refine d_len I (.inl e3) fun tk s' I' => ⟨.int kl.length, H, I', ⟨tk, by rw [List.length_zip, ← e2, Nat.min_self]⟩, ?_⟩
        rw [e1, List.length_map] at q1
        exact sc_int q1
      · obtain ⟨z, hs, us, rv, dd⟩ := raw_of hK hW I o.1.2.2.1 (by simpa using e1) e2 e3 e4
        have hlu : kts.length = us.length := by have := rv.length; simp at this e1; omega
        rw [Vals.ref1 r]
        refine call_len_dictH hs dd (by rw [zip3_len kts us hlu]; have := rv.length; rw [sizeLine_eq] at z; omega) ⟨.int us.length, H, I.tok _, ⟨_, by rw [zip3_len kts us hlu]⟩, ?_⟩
        rw [T.ers_length, hlu] at q1
        exact sc_int q1
    · cases h
  · cases h
theorem sc_str {us : List T} {H : Hp} {ad : List Addr} {i : Str} {Q : VK} (q : ∀ t : T, t.er = .str i → t.ok P.K H ad → (∀ a, t.ex a ≤ kxs us a ∧ t.sh a ≤ kss us a) → Q t.val H) : Q (.str i) H :=
  q (.str i) rfl trivial fun a => ⟨Nat.zero_le _, Nat.zero_le _⟩
theorem bi_repr (hK : X.K = P.K.f) (hgd : X.A.guards = some []) (hu : X.A.units + 150 < cLine) : CallR X (.builtin "repr") (rBi P .repr) := by
  intro pins s σ' H xs vs Q I r ⟨us, ad, d, e, o, h, q1, q2, q3, q4⟩
  subst e
  simp only [bapp, bRepr] at h
  split at h
  · rename_i x hu'
    split at h
    · rename_i hc
      simp only [Bool.and_eq_true, decide_eq_true_eq] at hc
      obtain ⟨⟨c1, c2⟩, c3⟩ := hc
      cases h
      obtain ⟨t, rfl, hx⟩ := ers_one hu'
      subst hx
      obtain ⟨u, rfl, rx⟩ := vals1 r
      have hlay := D.okd_lay _ _ c1
      have hnd := PyData.noDict_hsm (as := []) (PyData.hasDict_of_canLay _ hlay.1)
      have dp := T.dp t 60 o.1 c1
      have viaRef : ∀ a : Addr, t.val = .ref a → wpAny (model X.prog X.w) X.A (PySem.call (.builtin "repr") [u]) (EP X pins σ' Q) X.xe s := by
        intro a ea
        obtain ⟨as, rd⟩ := Dp.reads I _ _ u (hK ▸ dp) rx
        rw [ea] at rx
        cases (show u = Value.ref a from rx)
        exact repr_of_reads' rd c2 (PyData.noDict_hsm (PyData.hasDict_of_canLay _ hlay.1)) hgd (by omega) (fun _ _ e => e) (fun h' u tk hk => ⟨.str _, H, I.kept hk, ⟨u, rfl⟩, sc_str q1⟩) (by omega)
      cases t with
      | non =>
        cases (show u = Value.none from rx)
        exact PySem.P.repr_of_none ⟨.str _, H, I.tok _, ⟨_, rfl⟩, sc_str q1⟩
      | bl b =>
        cases (show u = Value.bool b from rx)
        exact PySem.P.repr_of_bool ⟨.str _, H, I.tok _, ⟨_, rfl⟩, sc_str q1⟩
      | int i =>
        obtain ⟨tk, rfl⟩ := rx
        have hz : i.natAbs.log2 < 1920 := by simpa [T.er, D.pd, PyData.showable] using c2
        exact PySem.P.repr_of_int hz ⟨.str _, H, I.tok _, ⟨_, rfl⟩, sc_str q1⟩
      | str x =>
        obtain ⟨tk, rfl⟩ := rx
        have hz : (reprText x).length + 64 ≤ sizeLine := c3
        exact PySem.P.repr_of_str ⟨.str _, H, I.tok _, ⟨_, rfl⟩, sc_str q1⟩ (by omega)
      | tup a l => exact viaRef a rfl
      | lst o' a l => exact viaRef a rfl
      | _ => simp [T.er, D.cmpb, D.okd] at c1
    · cases h
  · cases h
theorem bi_int : CallR X (.type "int") (rBi P .int) := by
  intro pins s σ' H xs vs Q I r ⟨us, ad, d, e, o, h, q1, q2, q3, q4⟩
  subst e
  simp only [bapp, bInt] at h
  split at h
  · rename_i i hu
    cases h
    obtain ⟨t, rfl, hx⟩ := ers_one hu
    obtain rfl := T.er_int hx
    exact call_int1 pins s σ' H _ vs Q I r (.inl ⟨i, rfl, sc_int q1⟩)
  · rename_i i hu
    cases h
    obtain ⟨t, rfl, hx⟩ := ers_one hu
    obtain rfl := T.er_bl hx
    exact call_int1 pins s σ' H _ vs Q I r (.inr ⟨i, rfl, sc_int q1⟩)
  · cases h
theorem bi_all (hc : X.calm = true) : CallR X (.builtin "all") (rBi P .all) := by
  intro pins s σ' H xs vs Q I r ⟨us, ad, d, e, o, h, q1, q2, q3, q4⟩
  subst e
  simp only [bapp, bAll] at h
  split at h
  · rename_i b l hu
    obtain ⟨bs, hb, rfl⟩ := Option.map_eq_some_iff.mp h
    obtain ⟨t, rfl, hx⟩ := ers_one hu
    obtain ⟨a, l, rfl, rfl⟩ := T.er_lst hx
    obtain rfl := toBls_inv hb
    exact cr_all hc pins s σ' H _ vs Q I r ⟨a, bs, rfl, by rw [← val_bls]; exact SqL.of o.1.1, sc_bl q1⟩
  · cases h
theorem bi_any (hc : X.calm = true) : CallR X (.builtin "any") (rBi P .any) := by
  intro pins s σ' H xs vs Q I r ⟨us, ad, d, e, o, h, q1, q2, q3, q4⟩
  subst e
  simp only [bapp, bAny] at h
  split at h
  · rename_i b l hu
    obtain ⟨bs, hb, rfl⟩ := Option.map_eq_some_iff.mp h
    obtain ⟨t, rfl, hx⟩ := ers_one hu
    obtain ⟨a, l, rfl, rfl⟩ := T.er_lst hx
    obtain rfl := toBls_inv hb
    exact cr_any hc pins s σ' H _ vs Q I r ⟨a, bs, rfl, by rw [← val_bls]; exact SqL.of o.1.1, sc_bl q1⟩
  · cases h
theorem bi_sum (hc : X.calm = true) : CallR X (.builtin "sum") (rBi P .sum) := by
  intro pins s σ' H xs vs Q I r ⟨us, ad, d, e, o, h, q1, q2, q3, q4⟩
  subst e
  simp only [bapp, bSum] at h
  split at h
  · rename_i b l hu
    obtain ⟨bs, hb, rfl⟩ := Option.map_eq_some_iff.mp h
    obtain ⟨t, rfl, hx⟩ := ers_one hu
    obtain ⟨a, l, rfl, rfl⟩ := T.er_lst hx
    obtain rfl := toInts_inv hb
    exact cr_sum hc pins s σ' H _ vs Q I r ⟨a, bs, rfl, by rw [← val_ints]; exact SqL.of o.1.1, sc_int q1⟩
  · cases h
theorem bi_max (hc : X.calm = true) : CallR X (.builtin "max") (rBi P .max) := by
  intro pins s σ' H xs vs Q I r ⟨us, ad, d, e, o, h, q1, q2, q3, q4⟩
  subst e
  simp only [bapp, bMax] at h
  split at h
  · rename_i b l hu
    obtain ⟨bs, hb, h⟩ := Option.bind_eq_some_iff.mp h
    split at h
    · cases h
    · rename_i n ns
      cases h
      obtain ⟨t, rfl, hx⟩ := ers_one hu
      obtain ⟨a, l, rfl, rfl⟩ := T.er_lst hx
      obtain rfl := toInts_inv hb
      refine cr_max hc pins s σ' H _ vs Q I r ⟨a, n :: ns, rfl, by rw [← val_ints]; exact SqL.of o.1.1, by simp, fun m hm hl => ?_⟩
      have sp := maxI_spec ns n
      have : m = maxI n ns := by have := hl _ sp.1; have := sp.2 m hm; omega
      subst this
      exact sc_int q1
  · cases h
theorem bi_min2 (hc : X.calm = true) : CallR X (.builtin "min") (rBi P .min2) := by
  intro pins s σ' H xs vs Q I r ⟨us, ad, d, e, o, h, q1, q2, q3, q4⟩
  subst e
  simp only [bapp, bMin2] at h
  split at h
  · rename_i i j hu
    cases h
    obtain ⟨t, u, rfl, h1, h2⟩ := ers_two hu
    obtain rfl := T.er_int h1
    obtain rfl := T.er_int h2
    exact call_min2 hc pins s σ' H _ vs Q I r ⟨i, j, rfl, sc_int q1⟩
  · cases h
theorem bi_max2 (hc : X.calm = true) : CallR X (.builtin "max") (rBi P .max2) := by
  intro pins s σ' H xs vs Q I r ⟨us, ad, d, e, o, h, q1, q2, q3, q4⟩
  subst e
  simp only [bapp, bMax2] at h
  split at h
  · rename_i i j hu
    cases h
    obtain ⟨t, u, rfl, h1, h2⟩ := ers_two hu
    obtain rfl := T.er_int h1
    obtain rfl := T.er_int h2
    exact call_max2 hc pins s σ' H _ vs Q I r ⟨i, j, rfl, sc_int q1⟩
  · cases h
theorem bi_abs : CallR X (.builtin "abs") (rBi P .abs) := by
  intro pins s σ' H xs vs Q I r ⟨us, ad, d, e, o, h, q1, q2, q3, q4⟩
  subst e
  simp only [bapp, bAbs] at h
  split at h
  · rename_i i hu
    cases h
    obtain ⟨t, rfl, hx⟩ := ers_one hu
    obtain rfl := T.er_int hx
    exact call_abs pins s σ' H _ vs Q I r ⟨i, rfl, sc_int q1⟩
  · cases h
theorem bi_tuple (hK : X.K = P.K.f) : CallR X (.type "tuple") (rBi P .tuple) := by
  intro pins s σ' H xs vs Q I r ⟨us, ad, d, e, o, h, q1, q2, q3, q4⟩
  subst e
  simp only [bapp, bTuple] at h
  split at h
  · rename_i l hu
    cases h
    obtain ⟨t, rfl, hx⟩ := ers_one hu
    obtain ⟨a, l, rfl, rfl⟩ := T.er_tup hx
    exact call_tuple_of pins s σ' H _ vs Q I r ⟨a, _, rfl, .inr ⟨hK ▸ o.1.1, q1 (.tup a l) rfl o.1 fun a => by simp only [kxs, kss, T.kx, T.ks]; omega⟩⟩
  · rename_i b l hu
    cases h
    obtain ⟨t, rfl, hx⟩ := ers_one hu
    obtain ⟨a, l, rfl, rfl⟩ := T.er_lst hx
    exact call_tuple_of pins s σ' H _ vs Q I r ⟨a, _, rfl, .inl ⟨SqL.of o.1.1, fun p hp => q3 l p rfl o.1.2 (fun a => by simp only [kxs, kss, T.kx, T.ks, T.ex, T.sh]; omega) hp⟩⟩
  · cases h
theorem bi_list (hK : X.K = P.K.f) : CallR X (.type "list") (rBi P .list) := by
  intro pins s σ' H xs vs Q I r ⟨us, ad, d, e, o, h, q1, q2, q3, q4⟩
  subst e
  simp only [bapp, bList] at h
  split at h
  · rename_i l hu
    cases h
    obtain ⟨t, rfl, hx⟩ := ers_one hu
    obtain ⟨a, l, rfl, rfl⟩ := T.er_tup hx
    exact call_list_of pins s σ' H _ vs Q I r ⟨a, _, rfl, .inr (hK ▸ o.1.1), fun p hp => q2 l p rfl o.1.2 (fun a => by simp only [kxs, kss, T.kx, T.ks, T.ex, T.sh]; omega) hp⟩
  · rename_i b l hu
    cases h
    obtain ⟨t, rfl, hx⟩ := ers_one hu
    obtain ⟨a, l, rfl, rfl⟩ := T.er_lst hx
    exact call_list_of pins s σ' H _ vs Q I r ⟨a, _, rfl, .inl (SqL.of o.1.1), fun p hp => q2 l p rfl o.1.2 (fun a => by simp only [kxs, kss, T.kx, T.ks, T.ex, T.sh]; omega) hp⟩
  · rename_i l hu
    cases h
    obtain ⟨t, rfl, hx⟩ := ers_one hu
    obtain ⟨a, rfl⟩ := T.er_scr hx
    obtain ⟨z1, z2, z3⟩ := ints_sums l
    refine call_list_of pins s σ' H _ vs Q I r ⟨a, _, rfl, .inl (hK ▸ ScL.sq o.1), fun p hp => ?_⟩
    rw [← val_ints]
    exact q2 (l.map T.int) p (by rw [ers_ints]) (z3 _ _ _) (fun a => by rw [z1 a, z2 a]; omega) hp
  · cases h
/-- set(a list of whole numbers) -/
theorem firstMet_dedup (ns : List Int) : ∀ i, i ≤ ns.length → PyProof.Rows.firstMet (fun i => ns.getD i 0) i = (ns.take i).foldl (fun σ k => if σ.any (· == k) then σ else σ ++ [k]) []
  | 0, _ => rfl
  | i + 1, hi => by
    have hlt : i < ns.length := hi
    have e : ns.getD i 0 = ns[i] := by rw [List.getD_eq_getElem?_getD, List.getElem?_eq_getElem hlt] <;> rfl
    rw [PyProof.Rows.firstMet_succ, firstMet_dedup ns i (Nat.le_of_lt hlt), List.take_succ, List.getElem?_eq_getElem hlt, Option.toList_some, List.foldl_append, e]
    rfl
theorem bi_set (hK : X.K = P.K.f) (hW : X.prog = P.K.p ∧ X.w = P.K.w) (hc : X.calm = true) (hu : X.A.units + 150 < cLine) : CallR X (.type "set") (rBi P .set) := by
  intro pins s σ' H xs vs Q I r ⟨us, ad, d, e, o, h, q1, q2, q3, q4⟩
  subst e
  -- what comes of a set of tuples
  have fin : ∀ (l : List T) (h' : Heap) (tk : Nat) L es ep t, T.oks P.K H ad l → (T.ers l).all tkey = true → d = .set true (dedupD (T.ers l)) → KSet0 X.w h' s.heap.objs.size L es ep t → Got2 (l.map fun t => (t.adr, t.er.nk)) (l.map fun t => (t.adr, t.er.nk)).length L → (∀ b o, s.heap.get? b = some o → h'.get? b = some o) →
      EP X pins σ' Q (.ref s.heap.objs.size) { s with heap := h', toks := tk } := by
    intro l h' tk L es ep t ol all hd R g k
    have hn := I.hok.fresh (Nat.le_refl s.heap.objs.size)
    have allm : ∀ x ∈ T.ers l, tkey x = true := fun x hx => List.all_eq_true.mp all x hx
    have ofl : ∀ u ∈ l, tkey u.er = true := fun u hu => allm _ (by rw [T.ers_map]; exact List.mem_map_of_mem hu)
    have sub : ∀ p ∈ L, p ∈ l.map fun t => (t.adr, t.er.nk) := fun p hp => List.mem_of_mem_take (g.sub p hp)
    obtain ⟨ts, e1, e2⟩ : ∃ ts : List T, (ts.map fun t => (t.adr, t.er.nk)) = L ∧ ∀ u ∈ ts, u ∈ l := by
      clear R g
      induction L with
      | nil => exact ⟨[], rfl, by simp⟩
      | cons p L ih =>
        obtain ⟨u, hu, rfl⟩ := List.mem_map.mp (sub p (by simp))
        obtain ⟨ts, e1, e2⟩ := ih fun q hq => sub q (by simp [hq])
        refine ⟨u :: ts, by rw [List.map_cons, e1], fun v hv => ?_⟩
        rcases List.mem_cons.mp hv with rfl | hv
        · exact hu
        · exact e2 v hv
    subst e1
    have nd : ((T.ers ts).map D.nk).Nodup := by
      have := R.nd
      rw [List.map_map] at this
      rw [T.ers_map, List.map_map]
      exact this
    have pm : (T.ers ts).Perm (dedupD (T.ers l)) := by
      refine (List.perm_ext_iff_of_nodup (nodup_map nd) (nodup_map (dedup_nodup allm))).mpr fun x => ?_
      rw [dedup_mem allm, T.ers_map, T.ers_map]
      constructor
      · intro hx
        obtain ⟨u, hu, rfl⟩ := List.mem_map.mp hx
        exact List.mem_map_of_mem (e2 u hu)
      · intro hx
        obtain ⟨u, hu, rfl⟩ := List.mem_map.mp hx
        have hm := g.all (u.adr, u.er.nk) (by rw [List.take_length]; exact List.mem_map.mpr ⟨u, hu, rfl⟩)
        rw [List.map_map] at hm
        obtain ⟨v, hv, e⟩ := List.mem_map.mp hm
        refine List.mem_map.mpr ⟨v, hv, ?_⟩
        exact tkey_inj (ofl v (e2 v hv)) (ofl u hu) e
    have okts : T.okFs P.K.f H ts := okFs_iff.mpr fun u hu => okF_of u 8 (T.oks_iff.mp ol u (e2 u hu)) (tkey_kb (ofl u (e2 u hu)))
    refine ⟨.ref _, upd H s.heap.objs.size (SetNO X.w s.heap.objs.size (ts.map fun t => (t.adr, t.er.nk))), I.laid (t' := tk) k (Nat.le_refl _) (setNO_new R), rfl, ?_⟩
    refine q4 (.set true s.heap.objs.size (dedupD (T.ers l))) _ _ (by rw [hd]; rfl) hn (.inr ⟨ts, pm, T.okFs_keep ts okts fun b ob e _ => ?_, ?_, ?_⟩) fun a => ?_
    · rw [upd_ne]
      · exact e
      · rintro rfl; rw [hn] at e; cases e
    · exact List.all_eq_true.mpr fun x hx => allm x ((dedup_mem allm).mp hx)
    · rw [← hW.2]; exact upd_same
    · simp only [T.ex, T.sh, ↓reduceIte]; omega
  simp only [bapp, bSet] at h
  split at h
  · rename_i l0 hu0
    split at h
    · rename_i hz
      rw [Bool.and_eq_true, decide_eq_true_eq] at hz
      cases h
      obtain ⟨t, rfl, hx⟩ := ers_one hu0
      obtain ⟨a, l, rfl, rfl⟩ := T.er_tup hx
      obtain ⟨its, rv, ht, _⟩ := I.tuple (hK ▸ o.1.1)
      rw [Vals.ref1 r]
      have refs : its.toArray.toList = (l.map fun t => (t.adr, t.er.nk)).map fun p => Value.ref p.1 := by
        have : ∀ (l : List T) (its : List Value), (T.ers l).all tkey = true → Vals (l.map T.val) its → its = (l.map fun t => (t.adr, t.er.nk)).map fun p => Value.ref p.1 := by
          intro l
          induction l with
          | nil => intro its _ rv; cases rv; rfl
          | cons x xs ih =>
            intro its h rv
            simp only [T.ers, List.all_cons, Bool.and_eq_true] at h
            cases rv with
            | cons r1 r2 =>
              rw [tkey_val h.1] at r1
              rw [List.map_cons, List.map_cons, ← ih _ h.2 r2]
              exact congrArg (· :: _) r1
        exact this l its hz.1 rv
      exact set_of_tuple (I.ok.hd hc) ht _ refs (keys_at hK I (okFs_iff.mpr fun u hu => okF_of u 8 (T.oks_iff.mp o.1.2 u hu) (tkey_kb (List.all_eq_true.mp hz.1 _ (by rw [T.ers_map]; exact List.mem_map_of_mem hu)))) hz.1) (by rw [List.length_map, ← T.ers_length]; exact hz.2) (by omega)
        fun h' tk L es ep t R g k => fin l h' tk L es ep t o.1.2 hz.1 rfl R g k
    · cases h
  · rename_i b l0 hu0
    split at h
    · rename_i hall
      split at h
      · rename_i hz
        cases h
        obtain ⟨t, rfl, hx⟩ := ers_one hu0
        obtain ⟨a, l, rfl, rfl⟩ := T.er_lst hx
        obtain ⟨its, rv, pl, _⟩ := I.list (SqL.of o.1.1)
        rw [Vals.ref1 r]
        have refs : its.toArray.toList = (l.map fun t => (t.adr, t.er.nk)).map fun p => Value.ref p.1 := by
          have : ∀ (l : List T) (its : List Value), (T.ers l).all tkey = true → Vals (l.map T.val) its → its = (l.map fun t => (t.adr, t.er.nk)).map fun p => Value.ref p.1 := by
            intro l
            induction l with
            | nil => intro its _ rv; cases rv; rfl
            | cons x xs ih =>
              intro its h rv
              simp only [T.ers, List.all_cons, Bool.and_eq_true] at h
              cases rv with
              | cons r1 r2 =>
                rw [tkey_val h.1] at r1
                rw [List.map_cons, List.map_cons, ← ih _ h.2 r2]
                exact congrArg (· :: _) r1
          exact this l its hall rv
        exact set_of_list (I.ok.hd hc) pl.isList _ refs (keys_at hK I (okFs_iff.mpr fun u hu => okF_of u 8 (T.oks_iff.mp o.1.2 u hu) (tkey_kb (List.all_eq_true.mp hall _ (by rw [T.ers_map]; exact List.mem_map_of_mem hu)))) hall) (by rw [List.length_map, ← T.ers_length]; exact hz) (by omega)
          fun h' tk L es ep t R g k => fin l h' tk L es ep t o.1.2 hall rfl R g k
      · cases h
    · rename_i hall
      obtain ⟨ns, h1, h2⟩ := Option.bind_eq_some_iff.mp h
      split at h2
      · rename_i hz
        cases h2
        obtain ⟨t, rfl, hx⟩ := ers_one hu0
        obtain ⟨a, l, rfl, rfl⟩ := T.er_lst hx
        obtain rfl := toInts_inv h1
        obtain ⟨its, rv, pl, _⟩ := I.list (SqL.of o.1.1)
        rw [val_ints] at rv
        rw [Vals.ref1 r]
        have hl : its.toArray.size = ns.length := by rw [List.size_toArray, ← rv.length, List.length_map]
        refine PySem.call_set_list (I.ok.hd hc) pl.isList (ns := ns) (by simpa using rv.ints) (by rw [hl]; unfold scanBound; omega) fun h' tk hS hk => ?_
        rw [hl, firstMet_dedup ns ns.length (Nat.le_refl _), List.take_length] at hS
        have hn := I.hok.fresh (Nat.le_refl s.heap.objs.size)
        have hne : dedupI ns ≠ [] := by
          cases ns with
          | nil => exact absurd rfl hall
          | cons n ns =>
            intro z
            have grow : ∀ (l σ : List Int), σ ≠ [] → l.foldl (fun σ k => if σ.any (· == k) then σ else σ ++ [k]) σ ≠ [] := by
              intro l
              induction l with
              | nil => exact fun σ h => h
              | cons k l ih =>
                intro σ h
                refine ih _ ?_
                show (if σ.any (· == k) = true then σ else σ ++ [k]) ≠ []
                split
                · exact h
                · simp
            exact grow ns [n] (by simp) z
        refine ⟨.ref _, upd H s.heap.objs.size (.set _ _), I.laid (t' := tk) (fun b o e => hk b o (Heap.lt_size e) e) (Nat.le_refl _) hS, rfl, ?_⟩
        refine q4 (.set true s.heap.objs.size ((dedupI ns).map D.int)) _ _ rfl hn (.inl ⟨dedupI ns, hne, rfl, _, upd_same, fun i => ?_⟩) fun a => ?_
        · rw [List.any_eq_true]
          exact ⟨fun ⟨x, hx, e⟩ => by rw [← beq_iff_eq.mp e]; exact hx, fun hx => ⟨i, hx, beq_self_eq_true i⟩⟩
        · simp only [T.ex, T.sh, ↓reduceIte]; omega
      · cases h2
  · cases h
/-! sorted -/
theorem alist_inv : ∀ {l : List D}, alist l = true → ∀ x ∈ l, ∀ y ∈ l, D.ali x y = true
  | [], _, x, hx, _, _ => by simp at hx
  | z :: zs, h, x, hx, y, hy => by
    simp only [alist, Bool.and_eq_true, List.all_eq_true] at h
    obtain ⟨⟨h1, h2⟩, h3⟩ := h
    rcases List.mem_cons.mp hx with e1 | hx' <;> rcases List.mem_cons.mp hy with e2 | hy'
    · subst e1; subst e2; exact h1
    · subst e1; exact (h2 y hy').1
    · subst e2; exact (h2 x hx').2
    · exact alist_inv h3 x hx' y hy'
theorem okds_mem : ∀ {l : List D} {n : Nat}, D.okds n l = true → ∀ x ∈ l, D.okd n x = true
  | [], _, _, x, hx => by simp at hx
  | z :: zs, n, h, x, hx => by
    simp only [D.okds, Bool.and_eq_true] at h
    rcases List.mem_cons.mp hx with rfl | hx
    · exact h.1
    · exact okds_mem h.2 x hx
theorem vals_each : ∀ {l : List T} {vs : List Value}, Vals (l.map T.val) vs → PySem.W.EachIs (fun v t => RelV (T.val t) v) vs l
  | [], _, h => by cases h; exact .nil
  | x :: xs, _, h => by
    cases h with
    | cons h1 h2 => exact .cons h1 (vals_each h2)
theorem each_vals : ∀ {l : List T} {vs : List Value}, PySem.W.EachIs (fun v t => RelV (T.val t) v) vs l → Vals (l.map T.val) vs
  | _, _, .nil => .nil
  | _, _, .cons h1 h2 => .cons h1 (each_vals h2)
theorem each_reads {pins : List (Addr × Obj)} {s : Shared} {σ : St} {H : Hp} {ad : List Addr} (hK : X.K = P.K.f) (I : L2.Inv X pins σ H s) : ∀ {l : List T} {vs : List Value}, T.oks P.K H ad l → (∀ t ∈ l, D.okd 59 t.er = true) → Vals (l.map T.val) vs → PySem.W.EachIs (fun v t => ∃ as, Reads s.heap v (T.er t).pd as) vs l
  | [], _, _, _, h => by cases h; exact .nil
  | x :: xs, _, o, k, h => by
    cases h with
    | cons h1 h2 => exact .cons (Dp.reads I _ _ _ (hK ▸ T.dp x 59 o.1 (k x List.mem_cons_self)) h1) (each_reads hK I o.2 (fun t ht => k t (List.mem_cons_of_mem _ ht)) h2)
theorem insB_at {α : Type} {le : α → α → Bool} (x : α) : ∀ (l1 l2 : List α), (∀ b ∈ l1, (!le x b) = true) → (∀ b ∈ l2, le x b = true) → insB le x (l1 ++ l2) = l1 ++ x :: l2
  | [], [], _, _ => rfl
  | [], y :: ys, _, h => by
    show (if le x y then _ else _) = _
    rw [if_pos (h y (by simp))]; rfl
  | y :: ys, l2, h1, h2 => by
    have : le x y = false := by have := h1 y (by simp); simpa using this
    show (if le x y then _ else y :: insB le x (ys ++ l2)) = _
    rw [this, if_neg Bool.false_ne_true, insB_at x ys l2 (fun b hb => h1 b (by simp [hb])) h2]; rfl
theorem merge_sortB {α : Type} {le : α → α → Bool} (tr : ∀ a b c, le a b = true → le b c = true → le a c = true) (to : ∀ a b, (le a b || le b a) = true) : ∀ l : List α, l.mergeSort le = sortB le l
  | [] => by simp [sortB]
  | x :: xs => by
    obtain ⟨l1, l2, e1, e2, h⟩ := List.mergeSort_cons tr to x xs
    have pw := List.pairwise_mergeSort tr to (x :: xs)
    rw [e1] at pw ⊢
    have h2 : ∀ b ∈ l2, le x b = true := fun b hb => (List.pairwise_cons.mp (List.pairwise_append.mp pw).2.1).1 b hb
    rw [sortB, ← merge_sortB tr to xs, e2, insB_at x l1 l2 h h2]
theorem insB_map {α : Type} {le : α → α → Bool} (f : α → D) (x : α) : ∀ l : List α, (∀ y ∈ l, le x y = !D.lt (f y) (f x)) → (insB le x l).map f = insD (f x) (l.map f)
  | [], _ => rfl
  | y :: ys, h => by
    have h1 := h y (by simp)
    have h2 := insB_map f x ys fun z hz => h z (by simp [hz])
    simp only [insB, List.map_cons, insD, h1]
    cases D.lt (f y) (f x)
    · simp
    · simp [h2]
theorem insB_mem {α : Type} {le : α → α → Bool} {x z : α} : ∀ {l : List α}, z ∈ insB le x l → z = x ∨ z ∈ l
  | [], h => by simp [insB] at h; exact .inl h
  | y :: ys, h => by
    simp only [insB] at h
    split at h
    · simpa using h
    · rcases List.mem_cons.mp h with rfl | h
      · exact .inr (by simp)
      · rcases insB_mem h with h | h
        · exact .inl h
        · exact .inr (by simp [h])
theorem sortB_mem {α : Type} {le : α → α → Bool} {z : α} : ∀ {l : List α}, z ∈ sortB le l → z ∈ l
  | [], h => h
  | y :: ys, h => by
    rcases insB_mem h with rfl | h
    · simp
    · exact List.mem_cons_of_mem _ (sortB_mem h)
theorem sortB_map {α : Type} {le : α → α → Bool} (f : α → D) : ∀ l : List α, (∀ x ∈ l, ∀ y ∈ l, le x y = !D.lt (f y) (f x)) → (sortB le l).map f = sortD (l.map f)
  | [], _ => rfl
  | x :: xs, h => by
    rw [sortB, insB_map f x _ fun y hy => h x (by simp) y (List.mem_cons_of_mem _ (sortB_mem hy)), sortB_map f xs fun a ha b hb => h a (by simp [ha]) b (by simp [hb])]
    rfl
theorem perm_map {α β : Type} {f : α → β} {l : List α} {vs : List β} (h : vs.Perm (l.map f)) : ∃ bs : List α, bs.Perm l ∧ vs = bs.map f := by
  generalize hm : l.map f = ws at h
  induction h generalizing l with
  | nil => exact ⟨l, .refl _, hm.symm⟩
  | cons x p ih =>
    cases l with
    | nil => cases hm
    | cons a l =>
      simp only [List.map_cons, List.cons.injEq] at hm
      obtain ⟨bs, b1, b2⟩ := ih hm.2
      exact ⟨a :: bs, b1.cons a, by rw [List.map_cons, ← b2, hm.1]⟩
  | swap x y l' =>
    match l, hm with
    | a :: b :: l, hm =>
      simp only [List.map_cons, List.cons.injEq] at hm
      obtain ⟨h1, h2, h3⟩ := hm
      exact ⟨b :: a :: l, .swap a b l, by simp only [List.map_cons, h1, h2, h3]⟩
  | trans p q ih1 ih2 =>
    obtain ⟨bs, b1, b2⟩ := ih2 hm
    obtain ⟨cs, c1, c2⟩ := ih1 b2.symm
    exact ⟨cs, c1.trans b1, c2⟩
/-- the order doesn't matter to sorting what is all different -/
theorem sortD_merge {l : List D} (al : ∀ x ∈ l, ∀ y ∈ l, D.ali x y = true) : sortD l = l.mergeSort (PySem.W.dataLe false D.pd) := by
  have tl := PySem.W.sortLe_total (PyProof.Rows.listOrd PyProof.Rows.itemOrd) false fun d : D => PySem.W.keyToks d.pd
  rw [merge_sortB (le := PySem.W.dataLe false D.pd) tl.trans (fun a b => (Bool.or_eq_true _ _).mpr (tl.total a b))]
  have := sortB_map (le := PySem.W.dataLe false D.pd) id l fun x hx y hy => by
    rw [PySem.W.dataLe_eq]
    show (!PySem.W.dataLt y.pd x.pd) = _
    rw [D.lt_pd _ _ (al y hy x hx)]; rfl
  simpa using this.symm
theorem sortD_perm {l m : List D} (p : l.Perm m) (am : alist m = true) (kb : ∀ x ∈ m, D.kb 8 x = true) : sortD l = sortD m := by
  have alm : ∀ x ∈ m, ∀ y ∈ m, D.ali x y = true := fun x hx y hy => alist_inv am x hx y hy
  have all : ∀ x ∈ l, ∀ y ∈ l, D.ali x y = true := fun x hx y hy => alm x (p.mem_iff.mp hx) y (p.mem_iff.mp hy)
  have tl := PySem.W.sortLe_total (PyProof.Rows.listOrd PyProof.Rows.itemOrd) false fun d : D => PySem.W.keyToks d.pd
  have tr : ∀ a b c : D, PySem.W.dataLe false D.pd a b = true → PySem.W.dataLe false D.pd b c = true → PySem.W.dataLe false D.pd a c = true := tl.trans
  have to : ∀ a b : D, (PySem.W.dataLe false D.pd a b || PySem.W.dataLe false D.pd b a) = true := fun a b => (Bool.or_eq_true _ _).mpr (tl.total a b)
  rw [sortD_merge all, sortD_merge alm]
  refine List.Perm.eq_of_pairwise (le := fun a b => PySem.W.dataLe false D.pd a b = true) (fun x y hx hy h1 h2 => ?_) (List.pairwise_mergeSort tr to l) (List.pairwise_mergeSort tr to m) (((List.mergeSort_perm l _).trans p).trans (List.mergeSort_perm m _).symm)
  have hx' := p.mem_iff.mp ((List.mergeSort_perm l _).mem_iff.mp hx)
  have hy' := (List.mergeSort_perm m _).mem_iff.mp hy
  rw [PySem.W.dataLe_eq] at h1 h2
  have g1 : (!PySem.W.dataLt y.pd x.pd) = true := h1
  have g2 : (!PySem.W.dataLt x.pd y.pd) = true := h2
  rw [D.lt_pd _ _ (alm y hy' x hx'), Bool.not_eq_true'] at g1
  rw [D.lt_pd _ _ (alm x hx' y hy'), Bool.not_eq_true'] at g2
  exact tri x y 8 8 (alm x hx' y hy') (kb x hx') (kb y hy') g2 g1
mutual
theorem reads_kb {pins : List (Addr × Obj)} {s : Shared} {σ : St} {H : Hp} {K : KW} {ad : List Addr} (hK : X.K = K.f) (I : L2.Inv X pins σ H s) : ∀ (t : T) (n : Nat) (u : Value), t.ok K H ad → D.kb n t.er = true → RelV t.val u → Reads s.heap u t.er.pd []
  | .non, _, u, _, _, r => by cases (show u = .none from r); exact .none
  | .int i, _, u, _, _, r => by obtain ⟨tk, rfl⟩ := r; exact .int _ _
  | .str x, _, u, _, _, r => by obtain ⟨tk, rfl⟩ := r; exact .str _ _
  | .tup a l, n, u, o, k, r => by
    cases n with
    | zero => simp [T.er, D.kb] at k
    | succ n =>
      simp only [T.er, D.kb] at k
      obtain ⟨its, rv, ⟨ob, e1, e2, m, e3⟩, _⟩ := I.tuple (hK ▸ o.1)
      cases (show u = .ref a from r)
      simp only [T.er, D.pd]
      exact .tuple e1 e2 e3 (by simpa using reads_kbs hK I l n its o.2 k rv)
  | .bl _, n, _, _, k, _ => by cases n <;> simp [T.er, D.kb] at k
  | .lst _ _ _, n, _, _, k, _ => by cases n <;> simp [T.er, D.kb] at k
  | .scr _ _, n, _, _, k, _ => by cases n <;> simp [T.er, D.kb] at k
  | .dct _ _ _ _, n, _, _, k, _ => by cases n <;> simp [T.er, D.kb] at k
  | .set _ _ _, n, _, _, k, _ => by cases n <;> simp [T.er, D.kb] at k
  | .ref _ _, n, _, _, k, _ => by cases n <;> simp [T.er, D.kb] at k
theorem reads_kbs {pins : List (Addr × Obj)} {s : Shared} {σ : St} {H : Hp} {K : KW} {ad : List Addr} (hK : X.K = K.f) (I : L2.Inv X pins σ H s) : ∀ (l : List T) (n : Nat) (us : List Value), T.oks K H ad l → D.kbs n (T.ers l) = true → Vals (l.map T.val) us → ReadsAll s.heap us (D.pds (T.ers l)) []
  | [], _, us, _, _, r => by cases r; exact .nil
  | x :: xs, n, us, o, k, r => by
    simp only [T.ers, D.kbs, Bool.and_eq_true] at k
    cases r with
    | cons r1 r2 => exact .cons (as := []) (bs := []) (reads_kb hK I x n _ o.1 k.1 r1) (reads_kbs hK I xs n _ o.2 k.2 r2)
end
theorem each_lt {pins : List (Addr × Obj)} {s : Shared} {σ : St} {H : Hp} {K : KW} {ad : List Addr} (hK : X.K = K.f) (I : L2.Inv X pins σ H s) : ∀ {l : List T} {vs : List Value}, (∀ t ∈ l, t.ok K H ad ∧ D.kb 8 t.er = true) → Vals (l.map T.val) vs → PySem.W.EachIs (fun v t => ∃ as, Reads s.heap v (T.er t).pd as ∧ ∀ c ∈ as, c < s.heap.objs.size) vs l
  | [], _, _, h => by cases h; exact .nil
  | x :: xs, _, k, h => by
    cases h with
    | cons h1 h2 => exact .cons ⟨[], reads_kb hK I x 8 _ (k x (by simp)).1 (k x (by simp)).2 h1, fun c hc => by cases hc⟩ (each_lt hK I (fun t ht => k t (by simp [ht])) h2)
theorem bi_sorted (hK : X.K = P.K.f) (hW : X.prog = P.K.p ∧ X.w = P.K.w) (hc : X.calm = true) (hu : X.A.units + 150 < cLine) : CallR X (.builtin "sorted") (rBi P .sorted) := by
  intro pins s σ' H xs vs Q I r ⟨us, ad, d, e, o, h, q1, q2, q3, q4⟩
  subst e
  simp only [bapp, bSorted] at h
  split at h
  · rename_i b l hux
    split at h
    · rename_i hc
      simp only [Bool.and_eq_true, decide_eq_true_eq] at hc
      obtain ⟨⟨⟨c1, c2⟩, c3⟩, c4⟩ := hc
      cases h
      obtain ⟨t, rfl, hx⟩ := ers_one hux
      obtain ⟨a, l, rfl, rfl⟩ := T.er_lst hx
      obtain ⟨its, rv, hl, hz⟩ := I.list (SqL.of o.1.1)
      have hev : vs = [Value.ref a] := Vals.ref1 r
      subst hev
      have mem : ∀ t ∈ l, t.er ∈ T.ers l := fun t ht => by rw [T.ers_map]; exact List.mem_map_of_mem ht
      have al : ∀ x ∈ l, ∀ y ∈ l, D.ali x.er y.er = true := fun x hx y hy => alist_inv c1 _ (mem x hx) _ (mem y hy)
      have ok : ∀ t ∈ l, D.okd 59 t.er = true := fun t ht => okds_mem c3 _ (mem t ht)
      refine PySem.W.sorted_data (β := T) (enc := fun t => t.er.pd) (R := fun v t => RelV (T.val t) v) (bs := l) (vs := its) hl.isList (vals_each rv) (each_reads hK I o.1.2 ok rv) ?_ ?_ ?_ ?_ fun out ho he => ?_
      · intro d hd d' hd'
        obtain ⟨x, hx, rfl⟩ := List.mem_map.mp hd
        obtain ⟨y, hy, rfl⟩ := List.mem_map.mp hd'
        exact D.ali_pd _ _ (al x hx y hy)
      · simp only [sortable, Bool.or_eq_true, List.all_eq_true] at c2
        rcases c2 with c2 | c2
        · refine .inl fun d hd => ?_
          obtain ⟨x, hx, rfl⟩ := List.mem_map.mp hd
          have := c2 _ (mem x hx)
          split at this
          · rename_i y ys e; rw [e]; exact ⟨_, _, by simp only [D.pd, D.pds]; rfl⟩
          · cases this
        · refine .inr fun d hd => ?_
          obtain ⟨x, hx, rfl⟩ := List.mem_map.mp hd
          have := c2 _ (mem x hx)
          split at this
          · cases this
          · cases this
          · rename_i n1 n2
            cases hxe : x.er <;> simp_all [D.pd]
      · rw [T.ers_length] at c4; exact c4
      · intro t ht
        have := (D.okd_lay _ _ (ok t ht)).2
        omega
      · obtain ⟨ep, he'⟩ := PyProof.Rows.sortedAll_at s.heap its out.toArray
        have hv := each_vals he
        have hlen : ((l.mergeSort (PySem.W.dataLe false fun t => t.er.pd)).map T.val).length ≤ sizeLine := by
          rw [List.length_map, List.length_mergeSort, ← T.ers_length l]; exact c4
        have pm := List.mergeSort_perm l (PySem.W.dataLe false fun t => t.er.pd)
        have e1 : T.ers (l.mergeSort (PySem.W.dataLe false fun t => t.er.pd)) = sortD (T.ers l) := by
          have tl := PySem.W.sortLe_total (PyProof.Rows.listOrd PyProof.Rows.itemOrd) false fun t : T => PySem.W.keyToks t.er.pd
          rw [T.ers_map, T.ers_map, merge_sortB (le := PySem.W.dataLe false fun t : T => t.er.pd) tl.trans (fun a b => (Bool.or_eq_true _ _).mpr (tl.total a b))]
          refine sortB_map T.er l fun x hx y hy => ?_
          rw [PySem.W.dataLe_eq]
          show (!PySem.W.dataLt y.er.pd x.er.pd) = _
          rw [D.lt_pd _ _ (al y hy x hx)]
        refine ⟨.ref _, upd H (s.heap.objs.size + 1) (.lst ((l.mergeSort (PySem.W.dataLe false fun t => t.er.pd)).map T.val)), I.laid (t' := s.toks) (fun _ _ => PyProof.Rows.sortedAll_old) (Nat.le_succ _) ⟨hlen, out, ep, hv, he'⟩, rfl, ?_⟩
        refine q2 _ _ (by rw [e1]) (T.oks_iff.mpr fun t ht => T.oks_iff.mp o.1.2 t (pm.mem_iff.mp ht)) (fun a => ?_) (I.hok.fresh (Nat.le_succ _))
        rw [T.exs_perm pm, T.shs_perm pm]
        simp only [kxs, kss, T.kx, T.ks, T.ex, T.sh]; omega
    · cases h
  · rename_i b l0 hux
    split at h
    · rename_i hq
      simp only [Bool.and_eq_true] at hq
      obtain ⟨⟨⟨c1, c2⟩, c3⟩, c4⟩ := hq
      cases h
      obtain ⟨t, rfl, hx⟩ := ers_one hux
      obtain ⟨a, rfl⟩ := T.er_set hx
      obtain ⟨ts, e1, e2, e3, e4, ⟨es, ep, tt, R⟩, hL⟩ := kset_of hK hW I o.1 c4
      obtain rfl : vs = [Value.ref a] := Vals.ref1 r
      refine sorted_kset R (I.ok.hd hc) (fun t : T => t.er.pd) (fun v t => RelV (T.val t) v) fun vs pm => ?_
      rw [List.map_map] at pm
      obtain ⟨bs, b1, rfl⟩ := perm_map pm
      have mem : ∀ t ∈ bs, t.er ∈ l0 := fun t ht => e1.mem_iff.mp (by rw [T.ers_map]; exact List.mem_map_of_mem (b1.mem_iff.mp ht))
      have ok : ∀ t ∈ bs, T.okF P.K.f H t := fun t ht => okFs_iff.mp e2 t (b1.mem_iff.mp ht)
      have tk : ∀ t ∈ bs, tkey t.er = true := fun t ht => List.all_eq_true.mp c4 _ (mem t ht)
      have al : ∀ x ∈ bs, ∀ y ∈ bs, D.ali x.er y.er = true := fun x hx y hy => alist_inv c1 _ (mem x hx) _ (mem y hy)
      have vals : Vals (bs.map T.val) (bs.map ((fun p : Addr × NestedKey => Value.ref p.1) ∘ fun t => (t.adr, t.er.nk))) := by
        clear pm b1 mem ok al
        induction bs with
        | nil => exact .nil
        | cons x xs ih => exact .cons (by rw [tkey_val (tk x (by simp))]; rfl) (ih fun t ht => tk t (by simp [ht]))
      have srt : sortD (T.ers bs) = sortD l0 := sortD_perm ((by rw [T.ers_map, T.ers_map]; exact b1.map T.er : (T.ers bs).Perm (T.ers ts)).trans e1) c1 (fun x hx => tkey_kb (List.all_eq_true.mp c4 x hx))
      have hlay : ∀ t ∈ bs, (t.er.pd).depth ≤ 59 := fun t ht => (D.okd_lay _ _ (okds_mem c3 _ (mem t ht))).2
      refine ⟨bs, vals_each vals, ?_, ?_, ?_, fun t ht => by have := hlay t ht; omega, fun s' out p c k hg ho hp hgp hlen he => ?_⟩
      · refine (each_lt hK I (fun t ht => ⟨okF_ok ad t (ok t ht), tkey_kb (tk t ht)⟩) vals)
      · intro d hd d' hd'
        obtain ⟨x, hx, rfl⟩ := List.mem_map.mp hd
        obtain ⟨y, hy, rfl⟩ := List.mem_map.mp hd'
        exact D.ali_pd _ _ (al x hx y hy)
      · simp only [sortable, Bool.or_eq_true, List.all_eq_true] at c2
        rcases c2 with c2 | c2
        · refine .inl fun d hd => ?_
          obtain ⟨x, hx, rfl⟩ := List.mem_map.mp hd
          have := c2 _ (mem x hx)
          split at this
          · rename_i y ys e; rw [e]; exact ⟨_, _, by simp only [D.pd, D.pds]; rfl⟩
          · cases this
        · refine .inr fun d hd => ?_
          obtain ⟨x, hx, rfl⟩ := List.mem_map.mp hd
          have := c2 _ (mem x hx)
          split at this
          · cases this
          · cases this
          · rename_i n1 n2
            cases hxe : x.er <;> simp_all [D.pd]
      · have hv := each_vals he
        have few : ts.length < 64 := by have := R.few; rwa [List.length_map] at this
        have hlen2 : ((bs.mergeSort (PySem.W.dataLe false fun t => t.er.pd)).map T.val).length ≤ sizeLine := by
          rw [List.length_map, List.length_mergeSort, b1.length_eq, sizeLine_eq]; omega
        have pm2 := List.mergeSort_perm bs (PySem.W.dataLe false fun t => t.er.pd)
        have e1' : T.ers (bs.mergeSort (PySem.W.dataLe false fun t => t.er.pd)) = sortD (T.ers bs) := by
          have tl := PySem.W.sortLe_total (PyProof.Rows.listOrd PyProof.Rows.itemOrd) false fun t : T => PySem.W.keyToks t.er.pd
          rw [T.ers_map, T.ers_map, merge_sortB (le := PySem.W.dataLe false fun t : T => t.er.pd) tl.trans (fun a b => (Bool.or_eq_true _ _).mpr (tl.total a b))]
          refine sortB_map T.er bs fun x hx y hy => ?_
          rw [PySem.W.dataLe_eq]
          show (!PySem.W.dataLt y.er.pd x.er.pd) = _
          rw [D.lt_pd _ _ (al y hy x hx)]
        have hn : H p = none := I.hok.fresh hp
        have J : L2.Inv X pins σ' (upd H p (.lst ((bs.mergeSort (PySem.W.dataLe false fun t => t.er.pd)).map T.val))) { s with heap := s'.heap, gens := s'.gens, drawn := s'.drawn, toks := s'.toks } :=
          I.call (ch := []) (Un.laid k hp hn) (I.hok.laid k hp ⟨hlen2, out, c, hv, hgp⟩) (by rw [hg]; exact I.bare) (fun _ z => nomatch z)
        have es' : s' = { s with heap := s'.heap, gens := s'.gens, drawn := s'.drawn, toks := s'.toks } := by
          cases s'; cases s; cases ho; rfl
        rw [es']
        refine ⟨.ref p, _, J, rfl, q2 _ p (by rw [e1', srt]) (T.oks_iff.mpr fun t ht => okF_ok ad t (ok t (pm2.mem_iff.mp ht))) (fun a => ?_) hn⟩
        have z := okFs_z (bs.mergeSort (PySem.W.dataLe false fun t => t.er.pd)) a (okFs_iff.mpr fun t ht => ok t (pm2.mem_iff.mp ht))
        omega
    · cases h
  · cases h
theorem okds_deep : ∀ {l : List T} {n : Nat}, D.okds n (T.ers l) = true → PyData.depthAll (D.pds (T.ers l)) ≤ n := fun {l n} h => (D.okds_lay _ n h).2
/-! data without lists are told by their form -/
mutual
theorem flat_inj : ∀ (x y : D), D.flat x = true → D.flat y = true → x.pd = y.pd → x = y
  | .tup l, y, h1, h2, e => by
    cases y <;> simp only [D.flat, Bool.false_eq_true] at h2 <;> simp only [D.pd, PyData.tuple.injEq, reduceCtorEq] at e
    simp only [D.flat] at h1
    rw [flats_inj l _ h1 h2 e]
  | .non, y, _, h2, e => by cases y <;> simp_all [D.flat, D.pd]
  | .bl _, y, _, h2, e => by cases y <;> simp_all [D.flat, D.pd]
  | .int _, y, _, h2, e => by cases y <;> simp_all [D.flat, D.pd]
  | .str _, y, _, h2, e => by cases y <;> simp_all [D.flat, D.pd]
  | .lst _ _, y, h1, _, _ => by simp [D.flat] at h1
  | .scr _, y, h1, _, _ => by simp [D.flat] at h1
  | .dct _ _ _, y, h1, _, _ => by simp [D.flat] at h1
  | .set _ _, y, h1, _, _ => by simp [D.flat] at h1
  | .ref _, y, h1, _, _ => by simp [D.flat] at h1
theorem flats_inj : ∀ (l m : List D), D.flats l = true → D.flats m = true → D.pds l = D.pds m → l = m
  | [], [], _, _, _ => rfl
  | [], y :: ys, _, _, e => by simp [D.pds] at e
  | x :: xs, [], _, _, e => by simp [D.pds] at e
  | x :: xs, y :: ys, h1, h2, e => by
    simp only [D.pds, List.cons.injEq] at e
    simp only [D.flats, Bool.and_eq_true] at h1 h2
    rw [flat_inj x y h1.1 h2.1 e.1, flats_inj xs ys h1.2 h2.2 e.2]
end
theorem flats_mem : ∀ {l : List D}, D.flats l = true → ∀ x ∈ l, D.flat x = true
  | y :: ys, h, x, hx => by
    simp only [D.flats, Bool.and_eq_true] at h
    rcases List.mem_cons.mp hx with rfl | hx
    · exact h.1
    · exact flats_mem h.2 x hx
theorem minDD_mem : ∀ (l : List D) (m : D), minDD m l ∈ m :: l
  | [], m => by simp [minDD]
  | x :: xs, m => by
    have := minDD_mem xs (if D.lt x m then x else m)
    simp only [minDD]
    rcases List.mem_cons.mp this with e | e
    · rw [e]; split <;> simp
    · simp [e]
theorem minDD_pd : ∀ (l : List D) (m : D), (∀ x ∈ m :: l, ∀ y ∈ m :: l, D.ali x y = true) → (minDD m l).pd = PySem.W.minD m.pd (D.pds l)
  | [], m, _ => rfl
  | x :: xs, m, h => by
    have h1 : PySem.W.dataLt x.pd m.pd = D.lt x m := D.lt_pd x m (h x (by simp) m (by simp))
    have ih := minDD_pd xs (if D.lt x m then x else m) (fun a ha b hb => h a (by
      rcases List.mem_cons.mp ha with rfl | ha
      · split <;> simp
      · simp [ha]) b (by
      rcases List.mem_cons.mp hb with rfl | hb
      · split <;> simp
      · simp [hb]))
    simp only [minDD, D.pds]
    rw [ih]
    unfold PySem.W.minD
    rw [List.foldl_cons, h1]
    cases D.lt x m <;> rfl
theorem bi_min (hK : X.K = P.K.f) (hc : X.calm = true) (hu : X.A.units + 150 < cLine) : CallR X (.builtin "min") (rBi P .min) := by
  intro pins s σ' H xs vs Q I r ⟨us, ad, d, e, o, h, q1, q2, q3, q4⟩
  subst e
  simp only [bapp, bMin] at h
  split at h
  · rename_i b l hu'
    obtain ⟨t, rfl, hx⟩ := ers_one hu'
    obtain ⟨a, l, rfl, rfl⟩ := T.er_lst hx
    split at h
    · cases h
    · rename_i n ns hb
      cases h
      obtain rfl := toInts_inv hb
      refine cr_min hc pins s σ' H _ vs Q I r ⟨a, n :: ns, rfl, by rw [← val_ints]; exact SqL.of o.1.1, by simp, fun m hm hl => ?_⟩
      have sp := minI_spec ns n
      have : m = minI n ns := by have := hl _ sp.1; have := sp.2 m hm; omega
      subst this
      exact sc_int q1
    · cases l with
      | nil => simp [T.ers, minData] at h
      | cons x xs =>
        simp only [T.ers, minData] at h
        split at h
        · rename_i hcc
          simp only [Bool.and_eq_true, Bool.not_eq_true'] at hcc
          obtain ⟨⟨⟨c1, c2⟩, c3⟩, c4⟩ := hcc
          cases h
          have al := alist_inv c1
          obtain ⟨its, rv, hl, hz⟩ := I.list (SqL.of o.1.1)
          rw [Vals.ref1 r]
          have c2' : D.okds 50 (T.ers (x :: xs)) = true := c2
          obtain ⟨as, ra⟩ := Dp.readsAll I _ _ its (hK ▸ T.dps (x :: xs) 50 o.1.2 c2') rv
          have hlay := (D.okds_lay _ 50 c2').1
          have hdep := (D.okds_lay _ 50 c2').2
          have nn : x.er ≠ .non := by intro e; rw [e] at c4; cases c4
          have ala : PySem.W.AlikeAll (D.pds (T.ers (x :: xs))) := by
            refine ⟨fun p hp q hq => ?_, fun p hp e => ?_⟩
            · rw [D.pds_map] at hp hq
              obtain ⟨p, hp2, rfl⟩ := List.mem_map.mp hp
              obtain ⟨q, hq2, rfl⟩ := List.mem_map.mp hq
              exact D.ali_pd p q (al p hp2 q hq2)
            · rw [D.pds_map] at hp
              obtain ⟨p, hp2, rfl⟩ := List.mem_map.mp hp
              have := al x.er (by simp) p hp2
              cases p <;> simp [D.pd] at e
              cases hxe : x.er <;> simp_all [D.ali]
          refine PySem.W.min_list_data (I.ok.hd hc) hl.isList ra ala (by have : PyData.depthAll (D.pds (T.ers (x :: xs))) ≤ 50 := hdep; show _ + PyData.depthAll (D.pds (T.ers (x :: xs))) < _; omega) fun i v h' tk bs hv rd kp => ?_
          have I' : L2.Inv X pins σ' H { s with heap := h', toks := tk } := I.kept kp
          have hv' : its[i]? = some v := by simpa using hv
          obtain ⟨t, ht, rvt⟩ : ∃ t, (x :: xs)[i]? = some t ∧ RelV t.val v := by
            have hl := rv.length
            have hi := (List.getElem?_eq_some_iff.mp hv').1
            have hi2 : i < (x :: xs).length := by rw [List.length_map] at hl; omega
            obtain ⟨u, hu1, hu2⟩ := rv.get (i := i) (x := (x :: xs)[i].val) (by rw [List.getElem?_map, List.getElem?_eq_getElem hi2]; rfl)
            rw [hv'] at hu1; cases hu1
            exact ⟨_, List.getElem?_eq_getElem hi2, hu2⟩
          have hm := List.mem_of_getElem? ht
          have hme : t.er ∈ T.ers (x :: xs) := by rw [T.ers_map]; exact List.mem_map_of_mem hm
          have okt := okds_mem c2' _ hme
          obtain ⟨as2, r2⟩ := Dp.reads I' _ _ v (hK ▸ T.dp t 50 (T.oks_iff.mp o.1.2 t hm) okt) rvt
          have mm := minDD_mem (T.ers xs) x.er
          have okm := okds_mem c2' _ mm
          have epd : t.er.pd = (minDD x.er (T.ers xs)).pd := by
            have e1 := minDD_pd (T.ers xs) x.er al
            have e2 := SeqAt.readOf_eq (D.okd_lay _ _ okt).1 r2
            have e3 := SeqAt.readOf_eq (by rw [← e1]; exact (D.okd_lay _ _ okm).1) rd
            rw [e1, ← e2, ← e3]
          have eer : t.er = minDD x.er (T.ers xs) := flat_inj _ _ (flats_mem c3 _ hme) (flats_mem c3 _ mm) epd
          exact ⟨t.val, H, I', rvt, q1 t eer (T.oks_iff.mp o.1.2 t hm) fun a => by
            have := T.ex_le_exs hm a; have := T.sh_le_shs hm a
            simp only [kxs, kss, T.kx, T.ks]; omega⟩
        · cases h
  · cases h
end
end PV

/-! PvK: calls. -/
namespace PV
open PySem L2

def isStar : Expr → Bool
  | .Starred _ _ => true | _ => false
theorem star_of {e : Expr} {es : List Expr} {env : PySem.Env} (h : isStar e = false) : starEach (e :: es) env = (false, eval e env) :: starEach es env := by
  cases e <;> first | rfl | (simp [isStar] at h)
theorem nostar {env : PySem.Env} {pos : Pos} : ∀ {es : List Expr}, (es.any isStar) = false → (backTo pos (starEach es env)).any (·.1) = false
  | [], _ => rfl
  | e :: es, h => by
    rw [List.any_cons, Bool.or_eq_false_iff] at h
    rw [star_of h.1]
    show (false || (backTo pos (starEach es env)).any (·.1)) = false
    rw [nostar h.2]; rfl
section
variable {X : Cx} {P : Par} {a b c e : Expr} {es : List Expr} {ca cb cc ce : C} {ces : List C} {pos p : Pos} {x : Str} {σ : St} {H : Hp} {ts us : List T} {cs cs' : List G} {τ : List (Option T)} {t t1 t2 : T}
theorem Rel.sub {us us' : List T} (R : Rel P σ H (us ++ ts) cs τ) (o : T.oks P.K H (ads cs) us') (h : ∀ a, T.exs us' a ≤ T.exs us a ∧ T.shs us' a ≤ T.shs us a) : Rel P σ H (us' ++ ts) cs τ :=
  R.less (T.oks_append.mpr ⟨o, (T.oks_append.mp (T.oks_append.mp R.sat.ofr).1).2⟩) fun a => by have := h a; simp only [T.exs_append, T.shs_append]; omega
theorem tbi {b : Bi} (σ : St) (H : Hp) (Q : VK) : tE P (.bi b ces) σ H Q → tCB (rBi P b) (tA P ces) σ H Q := fun ⟨ts, cs, τ, R, r⟩ => ⟨ts, cs, τ, R, by
  simp only [ev, Res.bind] at r
  refine Res.mono r (fun ds s1 r1 us cs1 τ1 H1 e1 e2 R1 => ?_) fun _ _ z => z
  obtain ⟨d, hd, r2⟩ := Res.of.mp r1
  refine ⟨us, ads cs1, d, rfl, (T.oks_append.mp (T.oks_append.mp R1.sat.ofr).1).1, by rw [e1]; exact hd, fun t et ot le => ?_, fun l p el ol le hp => ?_, fun l p el ol le hp => ?_, fun t p ob et hp ot le => ?_⟩
  rotate_right 1
  · refine r2 t cs1 τ1 _ et e2 (R1.with (Sat.alloc (ts := us) (by have := R1.sat; rw [List.append_assoc] at this; exact this) hp ot (fun a => ?_) fun a => ?_))
    · have := le a; have := kxs_le a us; omega
    · have := le a; have := kss_le a us; omega
  all_goals have le : ∀ a, _ := fun a => (⟨Nat.le_trans (le a).1 (kxs_le a us), Nat.le_trans (le a).2 (kss_le a us)⟩ : _ ∧ _)
  · exact r2 t cs1 τ1 H1 et e2 (R1.sub (us' := [t]) ⟨ot, trivial⟩ fun a => by have := le a; simp only [T.exs, T.shs]; omega)
  · exact r2 (.lst true p l) cs1 τ1 _ (by rw [T.er, el]) e2 ((R1.sub ol le).lst hp)
  · exact r2 (.tup p l) cs1 τ1 _ (by rw [T.er, el]) e2 ((R1.sub ol le).tup hp)⟩
theorem e_biB {id : String} {b : Bi} (hc : CallR X (.builtin id) (rBi P b)) (hg : Gl X x) (hm : X.mg x = none) (hv : bootBuiltins x = some (.builtin id)) (hn : x ≠ "__name__") (hdb : (x == ("__debug__" : Str)) = false) (ha : PA X (e :: es) (tA P ces)) (hs : ((e :: es).any isStar) = false) :
    PE X (.Call (.Name x p) (e :: es) [] pos) (tE P (.bi b ces)) := by
  rw [List.any_cons, Bool.or_eq_false_iff] at hs
  exact PE_imp (pe_callB hc hg hm hv ha hn hdb (star_of hs.1) (nostar hs.2)) tbi
theorem e_biT {id : String} {b : Bi} (hc : CallR X (.type id) (rBi P b)) (hg : Gl X x) (hm : X.mg x = none) (hv : bootBuiltins x = some (.type id)) (hn : x ≠ "__name__") (hdb : (x == ("__debug__" : Str)) = false) (ha : PA X (e :: es) (tA P ces)) (hs : ((e :: es).any isStar) = false) :
    PE X (.Call (.Name x p) (e :: es) [] pos) (tE P (.bi b ces)) := by
  rw [List.any_cons, Bool.or_eq_false_iff] at hs
  exact PE_imp (pe_callTy hc hg hm hv ha hn hdb (star_of hs.1) (nostar hs.2)) tbi
theorem kid_fz (t : T) (a : Addr) (h : kidz t.er = true) : t.fz.kx a = 0 ∧ t.fz.ks a ≤ t.sh a := by
  cases t with
  | lst o p l =>
    have hz : D.iszs (T.ers l) = true := by simpa [T.er, kidz] using h
    have := T.exs_isz l a hz
    have := T.exs_fzs l a
    have := T.shs_fzs l a
    simp only [T.fz, T.kx, T.ks, T.sh]
    omega
  | dct o p ks l =>
    have hz : D.iszs (T.ers l) = true := by simpa [T.er, kidz] using h
    have := T.exs_isz l a hz
    have := T.exs_fzs l a
    have := T.shs_fzs l a
    simp only [T.fz, T.kx, T.ks, T.sh]
    omega
  | set o p l => exact ⟨rfl, Nat.zero_le _⟩
  | tup p l =>
    have hz : D.iszs (T.ers l) = true := by simpa [T.er, kidz, D.isz] using h
    rw [T.fz_isz _ (by simpa [T.er, D.isz] using hz)]
    exact ⟨T.exs_isz l a hz, Nat.le_refl _⟩
  | _ => exact ⟨rfl, Nat.le_refl _⟩
/-- a built-in of one name of the def, its slot lent -/
theorem tbib {b : Bi} {n : Nat} (σ : St) (H : Hp) (Q : VK) : tE P (.bib b n) σ H Q → tCB (rBi P b) (tCons (tVar n) tNil) σ H Q := fun ⟨ts, cs, τ, R, r⟩ => by
  simp only [ev, Res.bind] at r
  obtain ⟨d, hd, r1⟩ := Res.of.mp r
  rw [show (stt cs τ).r = ero τ from rfl, gt_ero] at hd
  obtain ⟨t, ht, rfl⟩ := Option.map_eq_some_iff.mp hd
  split at r1
  · rename_i hz
    obtain ⟨d, hd, r2⟩ := Res.of.mp r1
    have ok := T.ok_fz t (R.sat.osl t (gt_mem ht))
    -- what the slot's value lends
    have kz := fun a => kid_fz t a hz
    have lend : ∀ (l : List T), T.oks P.K H (ads cs) l → (∀ a, T.exs l a ≤ kxs [t.fz] a ∧ T.shs l a ≤ kss [t.fz] a) → Rel P σ H (l ++ ts) cs τ := fun l ol le => R.with (by
      have z : ∀ a, T.exs l a = 0 ∧ T.shs l a ≤ t.sh a := fun a => by have := le a; have := kz a; simp only [kxs, kss] at *; omega
      rw [List.append_assoc]
      refine R.sat.reroot (T.oks_append.mpr ⟨ol, R.sat.ofr⟩) R.sat.osl (fun a => by have := z a; rw [T.exs_append]; omega) fun a => ?_
      have h1 := R.sat.sep a
      have h2 := mem_exo (gt_mem ht) a
      have h3 := z a
      rw [T.exs_append, T.shs_append]; omega)
    refine ⟨t.val, R.val n t ht, [t.fz], ads cs, d, by simp, ⟨ok, trivial⟩, by rw [T.ers, T.ers, T.er_fz]; exact hd, fun u eu ou le => ?_, fun l p el ol le hp => ?_, fun l p el ol le hp => ?_, fun u p ob eu hp ou le => ?_⟩
    · exact r2 u cs τ H eu rfl (lend [u] ⟨ou, trivial⟩ fun a => by have := le a; simp only [T.exs, T.shs]; omega)
    · exact r2 (.lst true p l) cs τ _ (by rw [T.er, el]) rfl ((lend l ol le).lst hp)
    · exact r2 (.tup p l) cs τ _ (by rw [T.er, el]) rfl ((lend l ol le).tup hp)
    · have L := lend t.fz.kid (T.kid_ok _ ok) fun a => by rw [T.kid_ex, T.kid_sh]; simp only [kxs, kss]; omega
      refine r2 u cs τ _ eu rfl (R.with (Sat.alloc (ts := t.fz.kid) (by have := L.sat; rw [List.append_assoc] at this; exact this) hp ou (fun a => ?_) fun a => ?_))
      · have := le a; rw [T.kid_ex]; simp only [kxs] at this; omega
      · have := le a; rw [T.kid_sh]; simp only [kss] at this; omega
  · exact r1.elim
theorem e_bibB {id : String} {b : Bi} {n : Nat} {y : Str} {p2 : Pos} (hc : CallR X (.builtin id) (rBi P b)) (hg : Gl X x) (hm : X.mg x = none) (hv : bootBuiltins x = some (.builtin id)) (hn : x ≠ "__name__") (hdb : (x == ("__debug__" : Str)) = false)
    (hN : X.N[n]? = some y) (hvi : Vis X.env.scope y) (hd : (y == ("__debug__" : Str)) = false) (hcd : (y == ("__classdict__" : Str)) = false) :
    PE X (.Call (.Name x p) [.Name y p2] [] pos) (tE P (.bib b n)) :=
  PE_imp (pe_callB hc hg hm hv (pa_cons (pe_var hN hvi hd hcd) pa_nil rfl) hn hdb rfl rfl) tbib
theorem e_bibT {id : String} {b : Bi} {n : Nat} {y : Str} {p2 : Pos} (hc : CallR X (.type id) (rBi P b)) (hg : Gl X x) (hm : X.mg x = none) (hv : bootBuiltins x = some (.type id)) (hn : x ≠ "__name__") (hdb : (x == ("__debug__" : Str)) = false)
    (hN : X.N[n]? = some y) (hvi : Vis X.env.scope y) (hd : (y == ("__debug__" : Str)) = false) (hcd : (y == ("__classdict__" : Str)) = false) :
    PE X (.Call (.Name x p) [.Name y p2] [] pos) (tE P (.bib b n)) :=
  PE_imp (pe_callTy hc hg hm hv (pa_cons (pe_var hN hvi hd hcd) pa_nil rfl) hn hdb rfl rfl) tbib
/-! isinstance -/
def tyName : Ty → String
  | .int => "int" | .bool => "bool" | .str => "str" | .tuple => "tuple" | .list => "list" | .dict => "dict" | .set => "set"
theorem ty_of {H : Hp} {ad : List Addr} (t : T) (o : t.ok P.K H ad) (k : tyOk t.er = true) : ∃ n, TyX P.K.f H t.val (.type n) ∧ ∀ ty, kitB n (tyName ty) = some (isT ty t.er) := by
  cases t with
  | non => exact ⟨_, .base .non, fun ty => by cases ty <;> decide +kernel⟩
  | bl b =>
    have h : ∀ ty, kitB "bool" (tyName ty) = some (isT ty (D.bl true)) := fun ty => by cases ty <;> decide +kernel
    have h' : ∀ ty, isT ty (D.bl true) = isT ty (T.bl b).er := fun ty => by cases ty <;> rfl
    exact ⟨_, .base (.bl b), fun ty => by rw [← h']; exact h ty⟩
  | int i =>
    have h : ∀ ty, kitB "int" (tyName ty) = some (isT ty (D.int 0)) := fun ty => by cases ty <;> decide +kernel
    have h' : ∀ ty, isT ty (D.int 0) = isT ty (T.int i).er := fun ty => by cases ty <;> rfl
    exact ⟨_, .base (.int i), fun ty => by rw [← h']; exact h ty⟩
  | str x =>
    have h : ∀ ty, kitB "str" (tyName ty) = some (isT ty (D.str ⟨#[]⟩)) := fun ty => by cases ty <;> decide +kernel
    have h' : ∀ ty, isT ty (D.str ⟨#[]⟩) = isT ty (T.str x).er := fun ty => by cases ty <;> rfl
    exact ⟨_, .base (.str x), fun ty => by rw [← h']; exact h ty⟩
  | tup a l =>
    have h : ∀ ty, kitB "tuple" (tyName ty) = some (isT ty (D.tup [])) := fun ty => by cases ty <;> decide +kernel
    have h' : ∀ ty, isT ty (D.tup []) = isT ty (T.tup a l).er := fun ty => by cases ty <;> rfl
    rcases o.1 with (e | ⟨ob, e⟩) | ⟨ob, its, n, e, c, _⟩
    · exact ⟨_, .base (.tup e), fun ty => by rw [← h']; exact h ty⟩
    · exact ⟨_, .fTuple e, fun ty => by rw [← h']; exact h ty⟩
    · exact ⟨_, .kTuple e c, fun ty => by rw [← h']; exact h ty⟩
  | lst b a l =>
    have h : ∀ ty, kitB "list" (tyName ty) = some (isT ty (D.lst true [])) := fun ty => by cases ty <;> decide +kernel
    have h' : ∀ ty, isT ty (D.lst true []) = isT ty (T.lst b a l).er := fun ty => by cases ty <;> rfl
    exact ⟨_, .base (.lst o.1), fun ty => by rw [← h']; exact h ty⟩
  | scr a l =>
    have h : ∀ ty, kitB "list" (tyName ty) = some (isT ty (D.scr [])) := fun ty => by cases ty <;> decide +kernel
    have h' : ∀ ty, isT ty (D.scr []) = isT ty (T.scr a l).er := fun ty => by cases ty <;> rfl
    rcases o with ⟨ob, e⟩ | ⟨ob, its, n, e, c, _⟩
    · exact ⟨_, .base (.frz e), fun ty => by rw [← h']; exact h ty⟩
    · exact ⟨_, .kList e c, fun ty => by rw [← h']; exact h ty⟩
  | dct _ _ _ _ => simp [T.er, tyOk] at k
  | set _ _ _ => simp [T.er, tyOk] at k
  | ref _ _ => simp [T.er, tyOk] at k
theorem e_isi (hK : X.K = P.K.f) {y : Str} {p1 p2 : Pos} (ty : Ty) (hg : Gl X "isinstance") (hm : X.mg "isinstance" = none) (hgy : Gl X y) (hmy : X.mg y = none) (hv : bootBuiltins y = some (.type (tyName ty))) (hn : y ≠ "__name__") (hd : (y == ("__debug__" : Str)) = false)
    (ha : PE X a (tE P ca)) (hs : isStar a = false) : PE X (.Call (.Name "isinstance" p1) [a, .Name y p2] [] pos) (tE P (.isi ca ty)) := by
  refine PE_imp (pe_callB call_isi hg hm (by decide +kernel) (pa_cons ha (pa_cons (pe_bltn (v := .ty (tyName ty)) hgy hmy hv rfl hn hd) pa_nil rfl) (star_of hs)) (by decide) (by decide) (star_of hs) rfl) fun σ H Q ⟨ts, cs, τ, R, r⟩ => ⟨ts, cs, τ, R, ?_⟩
  simp only [ev, Res.bind] at r
  refine Res.mono r (fun d s1 r1 t cs1 τ1 H1 e1 e2 R1 => ?_) fun _ _ z => z
  split at r1
  · rename_i hk
    obtain ⟨n, h1, h2⟩ := ty_of t R1.okh (by rw [e1]; exact hk)
    refine ⟨t.val, .ty (tyName ty), .type n, .type (tyName ty), isT ty t.er, rfl, .ty _, hK ▸ h1, kit_ty (h2 ty), ?_⟩
    exact r1 (.bl (isT ty t.er)) cs1 τ1 H1 (by rw [e1]; rfl) e2 (R1.drop.bl _)
  · exact r1.elim
/-! a def's promise, as the evaluator has it -/
def slotsOf (τ : List (Option T)) : List T := τ.filterMap id
theorem exs_slots (a : Addr) : ∀ τ : List (Option T), T.exs (slotsOf τ) a = exo τ a
  | [] => rfl
  | none :: τ => by have := exs_slots a τ; simp only [slotsOf, List.filterMap_cons, id, exo, ex1] at *; omega
  | some t :: τ => by have := exs_slots a τ; simp only [slotsOf, List.filterMap_cons, id, exo, ex1, T.exs] at *; omega
theorem shs_slots (a : Addr) : ∀ τ : List (Option T), T.shs (slotsOf τ) a = sho τ a
  | [] => rfl
  | none :: τ => by have := shs_slots a τ; simp only [slotsOf, List.filterMap_cons, id, sho, sh1] at *; omega
  | some t :: τ => by have := shs_slots a τ; simp only [slotsOf, List.filterMap_cons, id, sho, sh1, T.shs] at *; omega
theorem mem_slots {t : T} {τ : List (Option T)} : t ∈ slotsOf τ ↔ some t ∈ τ := by simp [slotsOf]
theorem Sat.toRoots {K : KW} {H : Hp} {fr : List T} {cs : List G} {τ : List (Option T)} (S : Sat K H fr cs τ) : Sat K H (fr ++ slotsOf τ) cs [] := by
  refine ⟨T.oks_append.mpr ⟨S.ofr, T.oks_iff.mpr fun t ht => S.osl t (mem_slots.mp ht)⟩, S.ocs, (fun t ht => by cases ht), fun a => ?_, fun a => ?_⟩
  · have := S.uni a; rw [T.exs_append, exs_slots]; simp only [exo]; omega
  · have := S.sep a; rw [T.exs_append, T.shs_append, exs_slots, shs_slots]; simp only [exo, sho]; omega
theorem Sat.toSlots {K : KW} {H : Hp} {fr : List T} {cs : List G} {τ : List (Option T)} (S : Sat K H (fr ++ slotsOf τ) cs []) : Sat K H fr cs τ := by
  have o := T.oks_append.mp S.ofr
  refine ⟨o.1, S.ocs, fun t ht => T.oks_iff.mp o.2 t (mem_slots.mpr ht), fun a => ?_, fun a => ?_⟩
  · have := S.uni a; rw [T.exs_append, exs_slots] at this; simp only [exo] at this; omega
  · have := S.sep a; rw [T.exs_append, T.shs_append, exs_slots, shs_slots] at this; simp only [exo, sho] at this; omega
/-- what is wanted where an exception leaves a def: by its evaluated form, the store and the heap behind it -/
abbrev XW := Exn → List G → Hp → XK → Prop
/-- .. by the class's address and the fields' dict -/
abbrev W1 (ca : Nat → Addr) : XW := fun y _ H E => ∀ d, ExD y d H → E (.ref (ca y.c)) d H
def spF (K : KW) (cl : List D → List Cell → Out D) (n : Nat) (W : XW) : Sp := fun vs H Q E => ∃ us fr cs, vs = us.map T.val ∧ us.length = n ∧ Sat K H (us ++ fr) cs [] ∧ D.iszs (T.ers us) = true ∧
  Res (cl (T.ers us) (erc cs)) (fun d s' => ∀ t cs' H', T.er t = d → s'.m = erc cs' → Sat K H' (t :: fr) cs' [] → Q t.val H') (fun x s' => ∀ cs' H', s'.m = erc cs' → Sat K H' fr cs' [] → W x cs' H' E)
/-- a def keeps its promise, called where no repr runs -/
structure GOk (Pr : Program) (w : World) (K : PySem.W.Frag) (mg : Str → Option Value) (base : Heap) (CX : CXT) (k : Nat) (f : Addr) (fd : FuncData) (ps : List Str) (sp : Sp) : Prop where
  len : ∀ vs H Q E, sp vs H Q E → vs.length = ps.length
  run : ∀ (A : Around) (outer : List PySem.Env) (s : Shared) (H : Hp) (args : Args) (us : List Value) (vs : List V) (Q : VK) (E : XK), Room k A → A.guards = some [] → Env0 Pr w K mg base A outer s H → BindsTo s fd args (ps.zip us) → Vals vs us → sp vs H Q E →
    codeAny (model Pr w) A (.call (.ref f) args) (CR CX outer Pr w H s Q E) s
theorem GOk.mono {Pr : Program} {w : World} {K : PySem.W.Frag} {mg : Str → Option Value} {base : Heap} {CX : CXT} {j k : Nat} {f : Addr} {fd : FuncData} {ps : List Str} {sp : Sp} (F : GOk Pr w K mg base CX j f fd ps sp) (h : j ≤ k) : GOk Pr w K mg base CX k f fd ps sp :=
  ⟨F.len, fun A o s H args us vs Q E hr => F.run A o s H args us vs Q E (hr.mono h)⟩
section
variable {CX : CXT} {k : Nat} {f C : Addr} {fd : FuncData} {ps : List Str} {sp : Sp} {E : XK}
theorem g_run (F : GOk X.prog X.w X.K X.mg X.base CX k f fd ps sp) (hr : Room k X.A) (hgd : X.A.guards = some []) (hb : Binds X.K fd ps []) {E : St → XK} (hx : PassesAt CX X σ (E σ)) {pins : List (Addr × Obj)} {s : Shared} {Q : VK} {us : List Value} {vs : List V}
    (I : L2.Inv X pins σ H s) (r : Vals vs us) (h : sp vs H Q (E σ)) : wpAny (model X.prog X.w) X.A (PySem.call (.ref f) us) (EP X pins σ Q) X.xe s := by
  have hl : us.length = ps.length := by rw [← r.length]; exact F.len _ _ _ _ h
  have hb' : BindsTo s fd ⟨us, []⟩ (ps.zip us) := by
    have := hb s us I.kIn (by rw [List.append_nil]; exact hl)
    rwa [List.append_nil] at this
  refine wpAny_call (codeAny_mono (F.run X.A X.stack s H _ us vs Q (E σ) hr hgd I.env0 hb' r h) ?_)
  rintro (e | fl) s' hq
  · exact hx pins H s e s' I hq
  · cases fl <;> first | exact I.after hq | exact False.elim hq
theorem cback_res {o : Out D} {s : S} {k : D → S → Prop} {y : Exn → S → Prop} : Res (cback o s) k y ↔ Res o (fun d s' => k d { s with m := s'.m }) fun z s' => y z { s with m := s'.m } := by
  cases o <;> exact Iff.rfl
/-- a call's arguments are there: what is asked of the callee -/
theorem call_sp {W : XW} {E : St → XK} {i n : Nat} {Q : VK} (hW : ∀ y cs' H', P.wish y σ H' → W y cs' H' (E σ)) (hlen : ∀ ds m, ds.length ≠ n → P.env.cl i ds m = .bad) (R : Rel P σ H (us ++ ts) cs τ)
    (r : Res (cback (P.env.cl i (D.fzs (T.ers us)) (erc cs)) (stt cs τ)) (fun d s' => ∀ t cs' τ' H', T.er t = d → s' = stt cs' τ' → Rel P σ H' (t :: ts) cs' τ' → Q t.val H') (Bad P ts)) :
    spF P.K (P.env.cl i) n W (us.map T.val) H Q (E σ) := by
  have rz := cback_res.mp r
  rw [← T.ers_fzs] at rz
  have S := R.freezes.sat
  rw [List.append_assoc] at S
  have S2 := S.toRoots
  rw [List.append_assoc] at S2
  refine ⟨T.fzs us, (ts ++ P.fr) ++ slotsOf τ, cs, (T.vals_fzs us).symm, ?_, S2, by rw [T.ers_fzs]; exact D.iszs_fzs _, Res.mono rz (fun d s' q t cs' H' e1 e2 S' => ?_) fun y s' q cs' H' e2 S' => ?_⟩
  · by_cases hl : (T.ers (T.fzs us)).length = n
    · rwa [T.ers_length] at hl
    · rw [hlen _ _ hl] at rz; exact rz.elim
  · refine q t cs' τ H' e1 (by rw [e2]; rfl) (R.with ?_)
    exact Sat.toSlots (fr := t :: (ts ++ P.fr)) S'
  · exact hW y cs' H' (q σ cs' τ H' (by rw [e2]; rfl) (R.with S'.toSlots))
theorem e_call {W : XW} {E : St → XK} {i n : Nat} (hK : X.K = P.K.f) (F : GOk X.prog X.w X.K X.mg X.base CX k f fd ps (spF P.K (P.env.cl i) n W)) (hr : Room k X.A) (hgd : X.A.guards = some []) (hg : Gl X x) (hm : X.mg x = some (.ref f)) (hk : PySem.W.keepIn X.K (.ref f) = true) (hb : Binds X.K fd ps []) (hx : ∀ σ, PassesAt CX X σ (E σ))
    (hW : ∀ y σ cs' H', P.wish y σ H' → W y cs' H' (E σ)) (hlen : ∀ ds m, ds.length ≠ n → P.env.cl i ds m = .bad) (hdb : (x == ("__debug__" : Str)) = false) (ha : PA X (e :: es) (tA P ces)) (hs : ((e :: es).any isStar) = false) :
    PE X (.Call (.Name x p) (e :: es) [] pos) (tE P (.call i ces)) := by
  rw [List.any_cons, Bool.or_eq_false_iff] at hs
  refine ⟨fun pins s σ H Q I ⟨ts, cs, τ, R, r⟩ => wpAny_Call_Name_kw (ld_glob I hg hm ?_ hdb)⟩
  simp only [ev, Res.bind] at r
  have ha' := ha.run pos pins s σ H (fun vs H1 => spF P.K (P.env.cl i) n W vs H1 Q (E σ)) I ⟨ts, cs, τ, R, Res.mono r (fun ds s1 r1 us cs1 τ1 H1 e1 e2 R1 => ?_) fun _ _ z => z⟩
  · exact PySem.W.callWith_K (h₀ := X.base) I.ok.mod.kin hk (thn ha' fun us s1 ⟨vs, H1, I1, rv, q⟩ => ⟨I1.kIn, g_run (E := E) F hr hgd hb (hx σ) I1 rv q⟩) (star_of hs.1) (nostar hs.2)
  · subst e1 e2
    exact call_sp (fun y => hW y σ) hlen R1 r1
theorem e_call0 {W : XW} {E : St → XK} {i n : Nat} (hK : X.K = P.K.f) (F : GOk X.prog X.w X.K X.mg X.base CX k f fd ps (spF P.K (P.env.cl i) n W)) (hr : Room k X.A) (hgd : X.A.guards = some []) (hg : Gl X x) (hm : X.mg x = some (.ref f)) (hk : PySem.W.keepIn X.K (.ref f) = true) (hb : Binds X.K fd ps []) (hx : ∀ σ, PassesAt CX X σ (E σ))
    (hW : ∀ y σ cs' H', P.wish y σ H' → W y cs' H' (E σ)) (hlen : ∀ ds m, ds.length ≠ n → P.env.cl i ds m = .bad) (hdb : (x == ("__debug__" : Str)) = false) :
    PE X (.Call (.Name x p) [] [] pos) (tE P (.call i [])) := by
  refine ⟨fun pins s σ H Q I ⟨ts, cs, τ, R, r⟩ => wpAny_Call_Name_kw (ld_glob I hg hm ?_ hdb)⟩
  simp only [ev, evs, Out.bind_ok] at r
  exact PySem.W.callWith_K0 I.kIn hk (g_run (us := []) (E := E) F hr hgd hb (hx σ) I .nil (call_sp (us := []) (fun y => hW y σ) hlen R r))
/-- a name of the top -/
theorem e_glob {n : Nat} {u : Value} (hg : Gl X x) (hm : X.mg x = some u) (t : T) (ht : RelV t.val u) (hok : ∀ H ad, t.ok P.K H ad) (hz : ∀ a, t.ex a = 0 ∧ t.sh a = 0) (hgl : P.env.gl n = some t.er) (hdb : (x == ("__debug__" : Str)) = false) : PE X (.Name x p) (tE P (.glob n)) := by
  refine PE_imp (pe_glob hg hm ht hdb) fun σ H Q ⟨ts, cs, τ, R, r⟩ => ?_
  simp only [ev, hgl, Out.of_some] at r
  exact r t cs τ H rfl rfl (R.push (hok _ _) (fun a => (hz a).1) fun a => (hz a).2)
end
end
end PV

/-! PvK1: sorted(xs, key=f) is sound. -/
namespace PV
open PySem L2
/-- an object of ours that stands is taken up -/
theorem adopt {X : Cx} {pins : List (Addr × Obj)} {σ : St} {H : Hp} {s : Shared} {T : Addr} {ob : HO} (I : Inv X pins σ H s) (hf : FpOk X pins H T) (new : ObjOk X.prog X.w (upd H T ob) s.heap T ob) : Inv X pins σ (upd H T ob) s := by
  have hn : H T = none := hf.1
  have J : Inv X pins σ (upd H T ob) { s with heap := s.heap, gens := s.gens, drawn := s.drawn, toks := s.toks } := by
    refine I.step (h' := s.heap) (g' := s.gens) (d' := s.drawn) (t' := s.toks) (ch := [T]) (fun b hb => ?_) (fun b o _ _ _ e _ => e) (fun b o _ _ _ e _ => ⟨o.slots, e⟩)
      (fun b o hc e n => ?_) (fun b o _ e => ⟨o, e⟩) (fun b xs e => ?_) (fun b o u e => ?_) (fun b ps e => ⟨#[], ?_⟩) (fun m hm => hm) (fun b u e => ?_) I.bare
    · rw [List.mem_singleton.mp hb]; exact ⟨hf.2.2.2.1, hf.2.1, hf.2.2.2.2.1, hf.2.2.2.2.2⟩
    · rw [upd_ne (fun z => hc (by simp [z]))]; exact n
    · rw [upd_ne (ne_of_none e hn)]; exact e
    · rw [upd_ne (ne_of_none e hn)]; exact e
    · rw [upd_ne (ne_of_none e hn), e]; simp
    · by_cases hb : b = T
      · subst hb
        rw [upd_same] at e
        cases e
        exact new
      · rw [upd_ne hb] at e
        exact (I.hok b u e).stay (fun c v _ q => q) (fun c q => by rw [upd_ne (ne_of_none q hn)]; exact q) fun c xs q => by rw [upd_ne (ne_of_none q hn)]; exact q
  exact J
theorem sortB_nat {α β : Type} {le : α → α → Bool} {le' : β → β → Bool} (f : α → β) (h : ∀ x y, le x y = le' (f x) (f y)) : ∀ l : List α, (sortB le l).map f = sortB le' (l.map f)
  | [] => rfl
  | x :: xs => by
    have ins : ∀ l : List α, (insB le x l).map f = insB le' (f x) (l.map f) := by
      intro l
      induction l with
      | nil => rfl
      | cons y ys ih =>
        simp only [insB, List.map_cons, h]
        split
        · rfl
        · rw [List.map_cons, ih]
    rw [sortB, ins, sortB_nat f h xs]; rfl
theorem vals_zip {ks : List Int} : ∀ {l : List T} {vs : List Value}, ks.length = l.length → Vals (l.map T.val) vs → PySem.W.EachIs (fun v (p : Int × T) => RelV p.2.val v) vs (ks.zip l) := by
  induction ks with
  | nil =>
    intro l vs hl r
    cases l with
    | nil => cases r; exact .nil
    | cons x xs => simp at hl
  | cons k ks ih =>
    intro l vs hl r
    cases l with
    | nil => simp at hl
    | cons x xs =>
      cases r with
      | cons r1 r2 => exact .cons r1 (ih (by simpa using hl) r2)
theorem each_valsP : ∀ {l : List (Int × T)} {vs : List Value}, PySem.W.EachIs (fun v (p : Int × T) => RelV p.2.val v) vs l → Vals ((l.map Prod.snd).map T.val) vs
  | _, _, .nil => .nil
  | _, _, .cons h1 h2 => .cons h1 (each_valsP h2)
section
variable {CX : CXT} {X : Cx} {P : Par} {k : Nat} {f : Addr} {fd : FuncData} {ps : List Str} {E : XK}
def rSrt (P : Par) (i : Nat) (f : Addr) : List V → List V → Hp → VK → Prop := fun xs zs H Q => ∃ t ts cs τ σ', xs = [T.val t] ∧ zs = [V.ref f] ∧ Rel P σ' H (t :: ts) cs τ ∧
  Res (srtD P.env i t.er (stt cs τ)) (fun d s' => ∀ t' cs' τ' H', t'.er = d → s' = stt cs' τ' → Rel P σ' H' (t' :: ts) cs' τ' → Q t'.val H') (Bad P ts)
/-- no exception is wanted -/
def Par.calm (P : Par) : Par := { P with wx := fun _ _ _ _ => False }
/-- what is known while the keys are asked for -/
def SrtW (X : Cx) (P : Par) (pins : List (Addr × Obj)) (σ σ' : St) (i : Nat) (t : T) (ts l : List T) (fin : List Int → S → Prop) (a c : Addr) (j : Nat) (ks : List Int) (s : Shared) : Prop :=
  ∃ H cs τ, Inv X pins σ H s ∧ (∃ o, s.heap.get? a = some o) ∧ (∃ o, s.heap.get? c = some o) ∧ FpOk X pins H a ∧ FpOk X pins H c ∧ Rel P σ' H (t :: ts) cs τ ∧ ks.length = j ∧ Res (keysL P.env i ((T.ers l).drop j) ks (stt cs τ)) fin fun _ _ => False
theorem res_noExc {α : Type} {o : Out α} {k : α → S → Prop} {x : Exn → S → Prop} (h : Res (noExc o) k x) : Res o k fun _ _ => False := by
  cases o <;> first | exact h | exact h.elim
theorem keys_noExc (env : Env) (i : Nat) {fin : List Int → S → Prop} {x : Exn → S → Prop} : ∀ (l : List D) (ks : List Int) (s : S), Res (keysL env i l ks s) fin x → Res (keysL env i l ks s) fin fun _ _ => False
  | [], ks, s, h => h
  | y :: l, ks, s, h => by
    simp only [keysL, Res.bind] at h ⊢
    have h1 := res_noExc h
    cases q : noExc (cback (env.cl i (D.fzs [y]) s.m) s) with
    | ok d s' =>
      rw [q] at h
      cases d with
      | int n => exact keys_noExc env i l _ s' h
      | _ => exact h.elim
    | exc y' s' => cases hc : cback (env.cl i (D.fzs [y]) s.m) s <;> rw [hc] at q <;> cases q
    | bad => rw [q] at h; exact h
theorem cr_srt {i : Nat} (hK : X.K = P.K.f) (F : GOk X.prog X.w X.K X.mg X.base CX k f fd ps (spF P.K (P.env.cl i) 1 (W1 P.ca))) (hr : Room k X.A.in1.in1) (hgd : X.A.guards = some []) (hb : Binds X.K fd ps []) (hu : X.A.units + 150 < cLine)
    (cx0 : ∀ o H s e s', CX o H s (fun _ _ _ => False) e s' → False) (hlen : ∀ ds m, ds.length ≠ 1 → P.env.cl i ds m = .bad) : CallRK X (.builtin "sorted") [Str.ofString "key"] (rSrt P i f) := by
  intro pins s σ H xs zs us ws Q I rv rz ⟨t, ts, cs, τ, σ', e1, e2, R, r⟩
  subst e1 e2
  -- the list
  unfold srtD at r
  split at r
  · rename_i b l0 hx
    split at r
    · rename_i hc
      obtain ⟨a0, l, rfl, rfl⟩ := T.er_lst hx
      obtain ⟨its, rl, pl, hz⟩ := I.list (SqL.of R.okh.1)
      obtain rfl : us = [Value.ref a0] := Vals.ref1 rv
      obtain rfl : ws = [Value.ref f] := Vals.ref1 rz
      have hlen2 : l.length ≤ 1000 := by have := hc.1; rwa [T.ers_length] at this
      have hil : its.length = l.length := by rw [← rl.length, List.length_map]
      simp only [Res.bind] at r
      have r0 := keys_noExc P.env i (T.ers l) [] (stt cs τ) r
      have fl : ∀ x ∈ l, x.er.flat = true := fun x hx' => flats_mem hc.2 _ (by rw [T.ers_map]; exact List.mem_map_of_mem hx')
      show wpAny (model X.prog X.w) X.A (PySem.call (.builtin "sorted") [Value.ref a0] [(Str.ofString "key", Value.ref f)]) _ _ s
      refine sorted_key (W := SrtW X P pins σ σ' i (.lst b a0 l) ts l fun ks s' => Res (.ok (D.lst true (sortK ks (T.ers l))) s') (fun d s' => ∀ t' cs' τ' H', t'.er = d → s' = stt cs' τ' → Rel P σ' H' (t' :: ts) cs' τ' → Q t'.val H') (Bad P ts))
        (by omega) pl.isList (by rw [hil, sizeLine_eq]; omega) (fun a c ha hc' => ⟨?_, ?_⟩) (fun a c h' ha hc' kp x1 x2 => ?_) fun a c ks s' h' tk out e ha hc' hW hkl kp hg ho => ?_
      · rintro j ks s' h' tk ⟨H1, cs1, τ1, I1, _, _, f1, f2, R1, hl1, r1⟩ kp x1 x2
        exact ⟨H1, cs1, τ1, I1.turnedL (ch := [a, c]) (fun b o hb e => kp b o (fun z => hb (by simp [z])) (fun z => hb (by simp [z])) e) (fun b hb => by
          rcases List.mem_cons.mp hb with rfl | hb
          · exact f1
          · rw [List.mem_singleton.mp hb]; exact f2), x1, x2, f1, f2, R1, hl1, r1⟩
      · rintro j v ks s' hv ⟨H1, cs1, τ1, I1, ⟨oa, xa⟩, ⟨oc, xc⟩, f1, f2, R1, hl1, r1⟩
        have hj : j < l.length := by rw [← hil]; exact (List.getElem?_eq_some_iff.mp hv).1
        have hjl : l[j]? = some l[j] := List.getElem?_eq_getElem hj
        have hm : l[j] ∈ l := List.getElem_mem hj
        -- the item
        have okj : (l[j]).ok P.K H1 (ads cs1) := T.oks_iff.mp R1.okh.2 _ hm
        have zj := fun b => T.flat_z l[j] b (fl _ hm)
        have R2 : Rel P σ' H1 ([l[j]] ++ (T.lst b a0 l :: ts)) cs1 τ1 := R1.push okj (fun b => (zj b).1) fun b => (zj b).2
        have rj : RelV (l[j]).val v := by
          have := rl.get (i := j) (x := (l[j]).val) (by rw [List.getElem?_map, hjl]; rfl)
          obtain ⟨u, hu1, hu2⟩ := this
          rw [hv] at hu1
          cases hu1
          exact hu2
        have hdrop : (T.ers l).drop j = (l[j]).er :: (T.ers l).drop (j + 1) := by
          have hj' : j < (T.ers l).length := by rw [T.ers_length]; exact hj
          rw [List.drop_eq_getElem_cons hj']
          congr 1
          have : (T.ers l)[j]? = some (l[j]).er := by rw [T.ers_get, hjl]; rfl
          rw [List.getElem?_eq_getElem hj'] at this
          exact Option.some.inj this
        rw [hdrop] at r1
        simp only [keysL, Res.bind] at r1
        have r2 := res_noExc r1
        have sp := call_sp (P := P.calm) (W := W1 P.ca) (E := fun _ _ _ _ => False) (i := i) (n := 1) (us := [l[j]]) (ts := T.lst b a0 l :: ts) (H := H1) (cs := cs1) (τ := τ1) (σ := σ')
          (Q := fun v H2 => ∃ n cs2 τ2, v = .int n ∧ Rel P σ' H2 (T.lst b a0 l :: ts) cs2 τ2 ∧ Res (keysL P.env i ((T.ers l).drop (j + 1)) (ks ++ [n]) (stt cs2 τ2)) (fun ks s' => Res (.ok (D.lst true (sortK ks (T.ers l))) s') (fun d s' => ∀ t' cs' τ' H', t'.er = d → s' = stt cs' τ' → Rel P σ' H' (t' :: ts) cs' τ' → Q t'.val H') (Bad P ts)) fun _ _ => False)
          (fun _ _ _ z => z) hlen ⟨R2.sat, R2.len, R2.val, R2.pla⟩ (Res.mono r2 (fun d s2 q t' cs2 τ2 H2 e1 e2 R3 => ?_) fun _ _ z => z.elim)
        · have hb' : BindsTo s' fd ⟨[v], []⟩ (ps.zip [v]) := by
            have hpl : ps.length = 1 := by have := F.len _ _ _ _ sp; simpa using this.symm
            have := hb s' [v] I1.kIn (by rw [List.append_nil]; simp [hpl])
            rwa [List.append_nil] at this
          have e0 := I1.env0
          refine wpAny_call (codeAny_mono (F.run X.A.in1.in1 X.stack s' H1 ⟨[v], []⟩ [v] [(l[j]).val] _ (fun _ _ _ => False) hr hgd ⟨e0.frames, e0.mod, e0.bs, e0.bsz, e0.funs, e0.frf, e0.hok, e0.bare⟩ hb' (.cons rj .nil) sp) ?_)
          rintro (er | fl') s2 hq
          · exact (cx0 _ _ _ _ _ hq).elim
          · cases fl' with
            | ret u =>
              obtain ⟨v2, H2, os, bare, un, hok, rr, n, cs2, τ2, rfl, R3, r3⟩ := hq
              obtain ⟨tk, rfl⟩ := rr
              have nf : ∀ b, FpOk X pins H1 b → b ∉ frs X.stack := fun b hf hb => by
                rcases List.mem_cons.mp (I1.stkSub b hb) with z | z
                · exact hf.2.1 z
                · exact hf.2.2.1 z
              have hg2 : ∀ b, FpOk X pins H1 b → ∀ o, s'.heap.get? b = some o → s2.heap.get? b = some o := fun b hf o e => un.keep b o e hf.1 (nf b hf) (by simp)
              have ff : ∀ b, FpOk X pins H1 b → (∃ o, s'.heap.get? b = some o) → FpOk X pins H2 b := fun b hf ⟨o, e⟩ => ⟨un.free b o e hf.1 (by simp), hf.2⟩
              exact ⟨n, tk, rfl, hg2 a f1, hg2 c f2, H2, cs2, τ2, I1.call' (ch := []) os un hok bare fun b z => absurd z (by simp), ⟨_, hg2 a f1 _ xa⟩, ⟨_, hg2 c f2 _ xc⟩, ff a f1 ⟨_, xa⟩, ff c f2 ⟨_, xc⟩, R3, by simp [hl1], r3⟩
            | _ => exact hq.elim
        · subst e1 e2
          cases t' with
          | int n => exact ⟨n, cs2, τ2, rfl, ⟨R3.drop.sat, R3.len, R3.val, R3.pla⟩, q⟩
          | _ => exact q.elim
      · exact ⟨H, cs, τ, I.kept (t' := s.toks) kp, x1, x2, I.fpOk ha (I.hok.fresh ha), I.fpOk hc' (I.hok.fresh hc'), R, rfl, r0⟩
      · obtain ⟨H1, cs1, τ1, I1, _, _, f1, f2, R1, hl1, r1⟩ := hW
        have hks : ks.length = l.length := by rw [hkl, hil]
        have hd : (T.ers l).drop its.length = [] := by rw [List.drop_eq_nil_iff, T.ers_length, hil]; exact Nat.le_refl _
        rw [hd] at r1
        -- the sorted row
        have bsl : (ks.zip l).map (fun p : Int × T => PyData.int p.1) = ks.map PyData.int := by
          have : (ks.zip l).map Prod.fst = ks := by rw [List.map_fst_zip (Nat.le_of_eq hks)]
          have e : (ks.zip l).map (fun p : Int × T => PyData.int p.1) = ((ks.zip l).map Prod.fst).map PyData.int := by rw [List.map_map]; rfl
          rw [e, this]
        rw [← bsl] at ho
        have he := PySem.W.keyedOut_each (R := fun v (p : Int × T) => RelV p.2.val v) (fun p : Int × T => PyData.int p.1) ho (vals_zip hks rl)
        have le : PySem.W.dataLe false (fun p : Int × T => PyData.int p.1) = fun p q => decide (p.1 ≤ q.1) := PySem.W.dataLe_int _
        rw [le, merge_sortB (fun x y z h1 h2 => by simp only [decide_eq_true_eq] at *; omega) (fun x y => by simp only [Bool.or_eq_true, decide_eq_true_eq]; omega)] at he
        have hv := each_valsP he
        have hlen3 : out.length = l.length := by
          rw [ho.length (by rw [List.length_map, List.length_zip, hks, Nat.min_self, hil]), hil]
        have mem : ∀ t ∈ (sortB (fun p q : Int × T => decide (p.1 ≤ q.1)) (ks.zip l)).map Prod.snd, t ∈ l := fun t ht => by
          obtain ⟨p, hp, rfl⟩ := List.mem_map.mp ht
          exact (List.of_mem_zip (a := p.1) (b := p.2) (sortB_mem hp)).2
        have ers : T.ers ((sortB (fun p q : Int × T => decide (p.1 ≤ q.1)) (ks.zip l)).map Prod.snd) = sortK ks (T.ers l) := by
          unfold sortK
          rw [T.ers_map, List.map_map, T.ers_map]
          have n := sortB_nat (le := fun p q : Int × T => decide (p.1 ≤ q.1)) (le' := fun p q : Int × D => decide (p.1 ≤ q.1)) (fun p => (p.1, p.2.er)) (fun _ _ => rfl) (ks.zip l)
          have z : (ks.zip l).map (fun p : Int × T => (p.1, p.2.er)) = ks.zip (l.map T.er) := by
            rw [List.zip_map_right]; rfl
          rw [z] at n
          rw [← n, List.map_map]; rfl
        generalize (sortB (fun p q : Int × T => decide (p.1 ≤ q.1)) (ks.zip l)).map Prod.snd = l2 at hv mem ers
        have hl2 : l2.length = l.length := by
          have := hv.length
          rw [List.length_map] at this
          rw [this, hlen3]
        have I2 : Inv X pins σ H1 { s' with heap := h', toks := tk } := I1.turnedL (ch := [a, c]) (fun b o hb e => kp b o (fun z => hb (by simp [z])) (fun z => hb (by simp [z])) e) (fun b hb => by
          rcases List.mem_cons.mp hb with rfl | hb
          · exact f1
          · rw [List.mem_singleton.mp hb]; exact f2)
        have I3 := adopt (T := a) (ob := .lst (l2.map T.val)) I2 f1 ⟨by rw [List.length_map, hl2, sizeLine_eq]; omega, out, e, hv, hg⟩
        have ol : T.oks P.K H1 (ads cs1) l2 := T.oks_iff.mpr fun t ht => T.oks_iff.mp R1.okh.2 t (mem t ht)
        have zl : ∀ b, T.exs l2 b = 0 ∧ T.shs l2 b = 0 := fun b => T.flats_z l2 b (by
          have : ∀ l2 : List T, (∀ t ∈ l2, t ∈ l) → D.flats (T.ers l2) = true := by
            intro l2
            induction l2 with
            | nil => exact fun _ => rfl
            | cons x xs ih => exact fun h => by simp only [T.ers, D.flats, Bool.and_eq_true]; exact ⟨fl x (h x (by simp)), ih fun t ht => h t (by simp [ht])⟩
          exact this l2 mem)
        have R4 : Rel P σ' (upd H1 a (.lst (l2.map T.val))) (.lst true a l2 :: ts) cs1 τ1 := Rel.lst (us := l2) (R1.parts1 ol fun b => by rw [(zl b).1, (zl b).2]; exact ⟨Nat.zero_le _, Nat.zero_le _⟩) f1.1
        exact ⟨.ref a, _, I3, rfl, r1 (.lst true a l2) cs1 τ1 _ (by simp only [T.er, ers]) rfl R4⟩
    · exact r.elim
  · exact r.elim
theorem e_srt {i : Nat} {e : Expr} {ce : C} {x : Str} {p px kpos pos : Pos} (hK : X.K = P.K.f) (F : GOk X.prog X.w X.K X.mg X.base CX k f fd ps (spF P.K (P.env.cl i) 1 (W1 P.ca))) (hr : Room k X.A.in1.in1) (hgd : X.A.guards = some []) (hb : Binds X.K fd ps []) (hu : X.A.units + 150 < cLine)
    (cx0 : ∀ o H s e s', CX o H s (fun _ _ _ => False) e s' → False) (hlen : ∀ ds m, ds.length ≠ 1 → P.env.cl i ds m = .bad) (hg : Gl X "sorted") (hm0 : X.mg "sorted" = none) (hgx : Gl X x) (hm : X.mg x = some (.ref f)) (hdb : (x == ("__debug__" : Str)) = false)
    (he : PE X e (tE P ce)) (hs : isStar e = false) : PE X (.Call (.Name "sorted" p) [e] [⟨some "key", .Name x px, kpos⟩] pos) (tE P (.srt i ce)) := by
  have ha : PA X [e] (tA P [ce]) := a_cons he a_nil (star_of hs)
  have hk : PK X [⟨some "key", .Name x px, kpos⟩] (tCons (tC (.ref f)) tNil) := pk_cons (pe_glob hgx hm rfl hdb) pk_nil
  refine PE_imp (pe_callBK (cr_srt hK F hr hgd hb hu cx0 hlen) hg hm0 PyProof.Rows.boot_sorted ha hk (by decide) (by decide) ?_ ?_ rfl rfl rfl) fun σ H Q ⟨ts, cs, τ, R, r⟩ => ?_
  · rw [star_of hs]; rfl
  · exact nostar (by rw [List.any_cons, hs]; rfl)
  · refine ⟨ts, cs, τ, R, ?_⟩
    simp only [ev, Res.bind] at r
    simp only [evs, Res.bind]
    refine Res.mono r (fun d s1 r1 => ?_) fun _ _ z => z
    intro us cs1 τ1 H1 e1 e2 R1
    obtain ⟨t, rfl, rfl⟩ := ers_one e1
    subst e2
    exact ⟨t, ts, cs1, τ1, σ, rfl, rfl, R1, r1⟩
end
end PV

/-! PvL: targets, loops, statements. -/
namespace PV
open PySem L2

def isSetE : Expr → Bool
  | .Set _ _ _ => true | _ => false
theorem foldSet {e : Expr} {env : PySem.Env} (h : isSetE e = false) (x : Value) : foldedSetIterable e env x = pure x := by
  cases e <;> first | rfl | (simp [isSetE] at h)
section
variable {X : Cx} {P : Par} {a b c e tg : Expr} {es : List Expr} {ca cb cc ce : C} {ces : List C} {pos p : Pos} {x : Str} {σ : St} {H : Hp} {ts us : List T} {cs cs' : List G} {τ : List (Option T)} {t t1 t2 : T}
/-! what a loop walks -/
/-- the iterator J walks the items l, as long as the roots con stand -/
def Walk (P : Par) (J : It) (con : List T) (l : List D) : Prop := ∀ i σ H ts cs τ, Rel P σ H (con ++ ts) cs τ →
  (l.length ≤ i → J.stop i H) ∧ ∀ d, l[i]? = some d → J.go i H ∧ ∀ x H', J.yld i H x H' → ∃ t, x = T.val t ∧ t.er = d ∧ d.isz = true ∧ Rel P σ H' (t :: (con ++ ts)) cs τ
def tI (P : Par) (k : Ik) (ces : List C) : TI := fun σ H R => ∃ ts cs τ, Rel P σ H ts cs τ ∧
  Res (evs P.env ces (stt cs τ)) (fun ds s' => ∃ l, itm k ds = some l ∧ ∀ con J cs' τ' H', s' = stt cs' τ' → Rel P σ H' (con ++ ts) cs' τ' → Walk P J con l → R J H') (Bad P ts)
theorem fzs_get (l : List T) (i : Nat) : (T.fzs l)[i]? = (l[i]?).map T.fz := by
  induction l generalizing i with
  | nil => simp [T.fzs]
  | cons x xs ih => cases i <;> simp [T.fzs, ih]
theorem dfzs_get (l : List D) (i : Nat) : (D.fzs l)[i]? = (l[i]?).map D.fz := by
  induction l generalizing i with
  | nil => simp [D.fzs]
  | cons x xs ih => cases i <;> simp [D.fzs, ih]
theorem dfzs_length (l : List D) : (D.fzs l).length = l.length := by
  induction l with
  | nil => rfl
  | cons x xs ih => simp [D.fzs, ih]
/-- a frozen item of a frozen container, beside it -/
theorem Rel.item {con : List T} {l : List T} {i : Nat} {u : T} (R : Rel P σ H (con ++ ts) cs τ) (ol : T.oks P.K H (ads cs) l) (le : ∀ a, T.shs l a ≤ T.shs con a) (h : l[i]? = some u) (z : u.er.isz = true) : Rel P σ H (u :: (con ++ ts)) cs τ := by
  have hm := List.mem_of_getElem? h
  refine R.with (R.sat.dupPart (T.oks_iff.mp ol u hm) (fun a => T.ex_isz u a z) fun a => ?_)
  have h1 := T.sh_le_shs hm a
  have h2 := le a
  simp only [T.shs_append]; omega
theorem walk_tup {q : Addr} {l : List T} (hK : X.K = P.K.f) (z : D.iszs (T.ers l) = true) : Walk P (Itt X.K q) [.tup q l] (T.ers l) := by
  intro i σ H ts cs τ R
  have o := R.okh
  refine ⟨fun hi => ⟨_, hK ▸ o.1, by rw [List.length_map, ← T.ers_length l]; exact hi⟩, fun d hd => ?_⟩
  rw [T.ers_get] at hd
  obtain ⟨u, hu, rfl⟩ := Option.map_eq_some_iff.mp hd
  have zu := D.iszs_iff.mp z _ (by rw [T.ers_map]; exact List.mem_map_of_mem (List.mem_of_getElem? hu))
  refine ⟨⟨_, u.val, hK ▸ o.1, by rw [List.getElem?_map, hu]; rfl⟩, fun x H' hy => ?_⟩
  obtain ⟨rfl, hx⟩ := hy
  have := hx _ (hK ▸ o.1)
  rw [List.getElem?_map, hu] at this
  exact ⟨u, (Option.some.inj this).symm, rfl, zu, Rel.item (con := [.tup q l]) R o.2 (fun a => by simp only [T.shs, T.sh]; omega) hu zu⟩
theorem walk_lst {q : Addr} {l : List T} (z : D.iszs (T.ers l) = true) : Walk P (Itl X.K q) [.lst false q l] (T.ers l) := by
  intro i σ H ts cs τ R
  have o := R.okh
  refine ⟨fun hi => ⟨_, SqL.of o.1, by rw [List.length_map, ← T.ers_length l]; exact hi⟩, fun d hd => ?_⟩
  rw [T.ers_get] at hd
  obtain ⟨u, hu, rfl⟩ := Option.map_eq_some_iff.mp hd
  have zu := D.iszs_iff.mp z _ (by rw [T.ers_map]; exact List.mem_map_of_mem (List.mem_of_getElem? hu))
  refine ⟨⟨_, u.val, SqL.of o.1, by rw [List.getElem?_map, hu]; rfl⟩, fun x H' hy => ?_⟩
  obtain ⟨rfl, hx⟩ := hy
  have := hx _ (SqL.of o.1)
  rw [List.getElem?_map, hu] at this
  exact ⟨u, (Option.some.inj this).symm, rfl, zu, Rel.item (con := [.lst false q l]) R o.2 (fun a => by simp only [T.shs, T.sh]; omega) hu zu⟩
theorem walk_rng (lo : Int) (n : Nat) : Walk P (Itr lo n) [] ((List.range n).map fun k => .int (lo + (k : Nat))) := by
  intro i σ H ts cs τ R
  refine ⟨fun hi => (by simpa using hi : n ≤ i), fun d hd => ?_⟩
  rw [List.getElem?_map] at hd
  obtain ⟨k, hk, rfl⟩ := Option.map_eq_some_iff.mp hd
  obtain ⟨hk1, hk2⟩ := List.getElem?_eq_some_iff.mp hk
  rw [List.length_range] at hk1
  have hk2 : i = k := by rw [← hk2]; simp
  subst hk2
  refine ⟨hk1, fun x H' hy => ?_⟩
  obtain ⟨rfl, rfl⟩ := hy
  exact ⟨.int (lo + (i : Nat)), rfl, rfl, rfl, R.int _⟩
theorem i_seq (hK : X.K = P.K.f) (he : PE X e (tE P ce)) : PI X tg e (tI P .seq [ce]) := by
  refine ⟨fun pins s σ H R0 I ⟨ts, cs, τ, R, r⟩ => ?_⟩
  simp only [evs, Res.bind] at r
  -- what comes, told by the evaluator ahead of the run
  cases ho : ev P.env ce (stt cs τ) with
  | bad => rw [ho] at r; exact r.elim
  | exc y s' =>
    rw [ho] at r
    exact (pi_list he).run pins s σ H R0 I ⟨ts, cs, τ, R, by rw [ho]; exact r⟩
  | ok d s' =>
    rw [ho] at r
    obtain ⟨l, hl, q⟩ := r
    cases d with
    | tup m =>
      cases hl
      refine (pi_tup he).run pins s σ H R0 I ⟨ts, cs, τ, R, ?_⟩
      rw [ho]
      intro t cs1 τ1 H1 e1 e2 R1
      obtain ⟨q1, m, rfl, rfl⟩ := T.er_tup e1
      have R2 := R1.freeze
      refine ⟨q1, rfl, ⟨_, hK ▸ R1.okh.1⟩, q [.tup q1 (T.fzs m)] (Itt X.K q1) cs1 τ1 H1 e2 R2 ?_⟩
      rw [← T.ers_fzs]
      exact walk_tup hK (by rw [T.ers_fzs]; exact D.iszs_fzs _)
    | lst o m =>
      cases hl
      refine (pi_list he).run pins s σ H R0 I ⟨ts, cs, τ, R, ?_⟩
      rw [ho]
      intro t cs1 τ1 H1 e1 e2 R1
      obtain ⟨q1, m, rfl, rfl⟩ := T.er_lst e1
      have R2 := R1.freeze
      refine ⟨q1, rfl, ⟨_, SqL.of R1.okh.1⟩, q [.lst false q1 (T.fzs m)] (Itl X.K q1) cs1 τ1 H1 e2 R2 ?_⟩
      rw [← T.ers_fzs]
      exact walk_lst (by rw [T.ers_fzs]; exact D.iszs_fzs _)
    | _ => cases hl
theorem itm_rng1 {d : D} {l : List D} (h : itm .rng [d] = some l) : ∃ n : Int, d = .int n ∧ -(2 ^ 62) ≤ n ∧ n < 2 ^ 62 ∧ l = (List.range n.toNat).map fun k => .int ((0 : Int) + (k : Nat)) := by
  cases d <;> simp only [itm] at h <;> try (cases h; done)
  split at h
  · rename_i n hc
    cases h
    exact ⟨n, rfl, by omega, by omega, by simp⟩
  · cases h
theorem itm_rng2 {d d2 : D} {l : List D} (h : itm .rng [d, d2] = some l) : ∃ n m : Int, d = .int n ∧ d2 = .int m ∧ (-(2 ^ 62) ≤ n ∧ n < 2 ^ 62 ∧ -(2 ^ 62) ≤ m ∧ m < 2 ^ 62) ∧ l = (List.range (m - n).toNat).map fun k => .int (n + (k : Nat)) := by
  cases d <;> simp only [itm] at h <;> try (cases h; done)
  cases d2 <;> simp only [itm] at h <;> try (cases h; done)
  split at h
  · rename_i n m hc
    cases h
    exact ⟨n, m, rfl, rfl, by omega, rfl⟩
  · cases h
theorem evs_one {E : PV.Env} {s : S} {k : List D → S → Prop} {y : Exn → S → Prop} : Res (evs E [ca] s) k y ↔ Res (ev E ca s) (fun d s => k [d] s) y := by
  simp only [evs, Res.bind]; exact Iff.rfl
theorem evs_two {E : PV.Env} {s : S} {k : List D → S → Prop} {y : Exn → S → Prop} : Res (evs E [ca, cb] s) k y ↔ Res (ev E ca s) (fun d s => Res (ev E cb s) (fun d2 s => k [d, d2] s) y) y := by
  simp only [evs, Res.bind]; exact Iff.rfl
theorem i_rng1 (hg : Gl X "range") (hm : X.mg "range" = none) (ha : PA X [a] (tA P [ca])) (hs : isStar a = false) : PI X tg (.Call (.Name "range" p) [a] [] pos) (tI P .rng [ca]) := by
  refine ⟨fun pins s σ H R0 I ⟨ts, cs, τ, R, r⟩ => (pi_range1 hg hm ha (star_of hs)).run pins s σ H R0 I ⟨ts, cs, τ, R, evs_one.mpr (Res.mono (evs_one.mp r) (fun d s1 ⟨l, hl, q⟩ us cs1 τ1 H1 e0 e2 R1 => ?_) fun _ _ z => z)⟩⟩
  obtain ⟨u, rfl, e1⟩ := ers_one e0
  obtain ⟨n, rfl, c1, c2, rfl⟩ := itm_rng1 hl
  obtain rfl := T.er_int e1
  exact ⟨n, rfl, c1, c2, q [] (Itr 0 n.toNat) cs1 τ1 H1 e2 (R1.drop) (walk_rng 0 n.toNat)⟩
theorem i_rng2 (hg : Gl X "range") (hm : X.mg "range" = none) (ha : PA X [a, b] (tA P [ca, cb])) (hs : isStar a = false) (hs2 : isStar b = false) : PI X tg (.Call (.Name "range" p) [a, b] [] pos) (tI P .rng [ca, cb]) := by
  refine ⟨fun pins s σ H R0 I ⟨ts, cs, τ, R, r⟩ => (pi_range2 hg hm ha (by rw [star_of hs, star_of hs2]; rfl) (star_of hs2)).run pins s σ H R0 I ⟨ts, cs, τ, R, evs_two.mpr (Res.mono (evs_two.mp r) (fun d s1 r1 => Res.mono r1 (fun d2 s2 ⟨l, hl, q⟩ us cs1 τ1 H1 e0 e2 R1 => ?_) fun _ _ z => z) fun _ _ z => z)⟩⟩
  obtain ⟨u, u2, rfl, e1, e3⟩ := ers_two e0
  obtain ⟨n, m, rfl, rfl, c1, rfl⟩ := itm_rng2 hl
  obtain rfl := T.er_int e1
  obtain rfl := T.er_int e3
  exact ⟨n, m, rfl, c1, q [] (Itr n (m - n).toNat) cs1 τ1 H1 e2 (R1.drop.drop) (walk_rng n (m - n).toNat)⟩
theorem evs_three {E : PV.Env} {s : S} {k : List D → S → Prop} {y : Exn → S → Prop} : Res (evs E [ca, cb, cc] s) k y ↔ Res (ev E ca s) (fun d s => Res (ev E cb s) (fun d2 s => Res (ev E cc s) (fun d3 s => k [d, d2, d3] s) y) y) y := by
  simp only [evs, Res.bind]; exact Iff.rfl
theorem ers_three {us : List T} {d e f : D} (h : T.ers us = [d, e, f]) : ∃ t u v, us = [t, u, v] ∧ t.er = d ∧ u.er = e ∧ v.er = f := by
  match us, h with
  | [t, u, v], h => simp only [T.ers, List.cons.injEq, and_true] at h; exact ⟨t, u, v, rfl, h.1, h.2.1, h.2.2⟩
theorem itm_rng3 {d d2 d3 : D} {l : List D} (h : itm .rng [d, d2, d3] = some l) : ∃ i j c : Int, d = .int i ∧ d2 = .int j ∧ d3 = .int c ∧ (Builtin.Range.small i j c = true ∧ c ≠ 0 ∧ c.natAbs < 1073741824 ∧ 0 ≤ Builtin.Range.rangeSize i j c) ∧ l = (List.range (Builtin.Range.rangeSize i j c).toNat).map fun k => .int (i + (k : Nat) * c) := by
  cases d <;> cases d2 <;> cases d3 <;> simp only [itm, reduceCtorEq] at h
  split at h
  · rename_i i j c hc
    cases h
    exact ⟨i, j, c, rfl, rfl, rfl, hc, rfl⟩
  · cases h
theorem walk_rngC (lo c : Int) (n : Nat) : Walk P (Itc lo c n) [] ((List.range n).map fun k => .int (lo + (k : Nat) * c)) := by
  intro i σ H ts cs τ R
  refine ⟨fun hi => (by simpa using hi : n ≤ i), fun d hd => ?_⟩
  rw [List.getElem?_map] at hd
  obtain ⟨k, hk, rfl⟩ := Option.map_eq_some_iff.mp hd
  obtain ⟨hk1, hk2⟩ := List.getElem?_eq_some_iff.mp hk
  rw [List.length_range] at hk1
  have hk2 : i = k := by rw [← hk2]; simp
  subst hk2
  refine ⟨hk1, fun x H' hy => ?_⟩
  obtain ⟨rfl, rfl⟩ := hy
  exact ⟨.int (lo + (i : Nat) * c), rfl, rfl, rfl, R.int _⟩
theorem i_rng3 (hg : Gl X "range") (hm : X.mg "range" = none) (ha : PA X [a, b, c] (tA P [ca, cb, cc])) (hs : isStar a = false) (hs2 : isStar b = false) (hs3 : isStar c = false) : PI X tg (.Call (.Name "range" p) [a, b, c] [] pos) (tI P .rng [ca, cb, cc]) := by
  refine ⟨fun pins s σ H R0 I ⟨ts, cs, τ, R, r⟩ => (pi_range3 hg hm ha (star_of hs) (by rw [star_of hs2, star_of hs3]; rfl)).run pins s σ H R0 I ⟨ts, cs, τ, R, evs_three.mpr (Res.mono (evs_three.mp r) (fun d s1 r1 => Res.mono r1 (fun d2 s2 r2 => Res.mono r2 (fun d3 s3 ⟨l, hl, q⟩ us cs1 τ1 H1 e0 e2 R1 => ?_) fun _ _ z => z) fun _ _ z => z) fun _ _ z => z)⟩⟩
  obtain ⟨u, u2, u3, rfl, e1, e3, e4⟩ := ers_three e0
  obtain ⟨i, j, c, rfl, rfl, rfl, ⟨h1, h2, h3, h4⟩, rfl⟩ := itm_rng3 hl
  obtain rfl := T.er_int e1
  obtain rfl := T.er_int e3
  obtain rfl := T.er_int e4
  exact ⟨i, j, c, _, rfl, ⟨h2, h3, h1, (Int.toNat_of_nonneg h4).symm⟩, q [] (Itc i c _) cs1 τ1 H1 e2 (R1.drop.drop.drop) (walk_rngC i c _)⟩
/-! targets -/
mutual
/-- the slots of a target -/
def Tg.sl : Tg → List Nat
  | .name i => [i]
  | .tup ts => Tg.sls ts
def Tg.sls : List Tg → List Nat
  | [] => []
  | t :: ts => t.sl ++ Tg.sls ts
end
/-- the slots that are not of vs stand -/
def Same (vs : List Nat) (σ σ' : St) : Prop := σ'.length = σ.length ∧ ∀ j, j ∉ vs → σ'[j]? = σ[j]?
theorem Same.refl (vs : List Nat) (σ : St) : Same vs σ σ := ⟨rfl, fun _ _ => rfl⟩
theorem Same.trans {vs ws : List Nat} {σ σ1 σ2 : St} (h : Same vs σ σ1) (h2 : Same ws σ1 σ2) : Same (vs ++ ws) σ σ2 := ⟨h2.1.trans h.1, fun j hj => by
  simp only [List.mem_append, not_or] at hj
  exact (h2.2 j hj.2).trans (h.2 j hj.1)⟩
/-- a value's tree is stored into a target -/
def gT (P : Par) (tg : Tg) : TG := fun v σ H Q => ∃ t ts cs τ r, v = T.val t ∧ Rel P σ H (t :: ts) cs τ ∧ t.er.isz = true ∧ setTg tg t.er (ero τ) = some r ∧
  ∀ σ' τ', r = ero τ' → Rel P σ' H ts cs τ' → Same tg.sl σ σ' → Q σ' H
/-- several -/
def gTs (P : Par) (tg : List Tg) : TGs := fun vs σ H Q => ∃ us ts cs τ r, vs = us.map T.val ∧ Rel P σ H (us ++ ts) cs τ ∧ D.iszs (T.ers us) = true ∧ setTgs tg (T.ers us) (ero τ) = some r ∧
  ∀ σ' τ', r = ero τ' → Rel P σ' H ts cs τ' → Same (Tg.sls tg) σ σ' → Q σ' H
theorem PG_imp {e : Expr} {t t' : TG} (h : PG X e t) (i : ∀ v σ H Q, t' v σ H Q → t v σ H Q) : PG X e t' := ⟨fun pins s σ H v u Q I r q => h.run pins s σ H v u Q I r (i v σ H Q q)⟩
theorem PGs_imp {e : List Expr} {t t' : TGs} (h : PGs X e t) (i : ∀ v σ H Q, t' v σ H Q → t v σ H Q) : PGs X e t' := ⟨fun pins s σ H v u Q I r q => h.run pins s σ H v u Q I r (i v σ H Q q)⟩
/-- a root goes into a slot -/
theorem Rel.put {i : Nat} (R : Rel P σ H (t :: ts) cs τ) (hi : i < τ.length) (z : P.pl i = true → t.er.isz = true) : Rel P (σ.set i (some t.val)) H ts cs (τ.set i (some t)) := by
  have S : Sat P.K H (t :: (ts ++ P.fr)) cs τ := R.sat
  refine ⟨S.store hi, by rw [List.length_set, List.length_set]; exact R.len, fun j u hj => ?_, fun j u hj hp => ?_⟩
  · rw [gt_set] at hj
    split at hj
    · rename_i hc
      obtain ⟨rfl, _⟩ := hc
      cases hj
      rw [List.getElem?_set_self (by rw [← R.len]; exact hi)]
    · rename_i hc
      by_cases e : i = j
      · exact absurd ⟨e, hi⟩ hc
      · rw [List.getElem?_set_ne e]; exact R.val j u hj
  · rw [gt_set] at hj
    split at hj
    · rename_i hc
      obtain ⟨rfl, _⟩ := hc
      cases hj
      exact z hp
    · exact R.pla j u hj hp
theorem g_name {i : Nat} {x : Str} (hN : X.N.Nodup) (hi : X.N[i]? = some x) (hx : Loc X.env.scope x) (hf : X.fn x = true ∨ X.env.scope.names.lookup x = some .local) : PG X (.Name x pos) (gT P (.name i)) := by
  refine ⟨fun pins s σ H v u Q I r ⟨t, ts, cs, τ, r', e, R, z, hs, q⟩ => (pg_name hN hi hx hf).run pins s σ H v u Q I r ?_⟩
  subst e
  simp only [setTg, Option.some.injEq] at hs
  subst hs
  have hlt : i < τ.length := by rw [R.len, I.len]; exact (List.getElem?_eq_some_iff.mp hi).1
  exact q _ (τ.set i (some t)) (by rw [ero_set]; rfl) (R.put hlt fun _ => z) ⟨List.length_set .., fun j hj => by rw [List.getElem?_set_ne]; simpa [Tg.sl, eq_comm] using hj⟩
theorem g_nil : PGs X [] (gTs P []) := PGs_imp pgs_nil fun vs σ H Q ⟨us, ts, cs, τ, r, e, R, z, hs, q⟩ => by
  cases us with
  | nil =>
    simp only [T.ers, setTgs, Option.some.injEq] at hs
    exact ⟨e, q σ τ hs.symm R (.refl _ _)⟩
  | cons u us => simp [T.ers, setTgs] at hs
theorem g_cons {tgs : List Tg} {tg' : Tg} (h1 : PG X e (gT P tg')) (h2 : PGs X es (gTs P tgs)) (hs : (assignEach (e :: es) X.env).map (·.2) = assign e X.env :: (assignEach es X.env).map (·.2)) : PGs X (e :: es) (gTs P (tg' :: tgs)) := by
  refine PGs_imp (pgs_cons h1 h2 hs) fun vs σ H Q ⟨us, ts, cs, τ, r, ev, R, z, hr, q⟩ => ?_
  cases us with
  | nil => simp [T.ers, setTgs] at hr
  | cons u us =>
    simp only [T.ers, setTgs] at hr
    obtain ⟨r1, hr1, hr2⟩ := Option.bind_eq_some_iff.mp hr
    simp only [T.ers, D.iszs, Bool.and_eq_true] at z
    refine ⟨u.val, us.map T.val, ev, u, us ++ ts, cs, τ, r1, rfl, R, z.1, hr1, fun σ1 τ1 e1 R1 m1 => ?_⟩
    subst e1
    exact ⟨us, ts, cs, τ1, r, rfl, R1, z.2, hr2, fun σ2 τ2 e2 R2 m2 => q σ2 τ2 e2 R2 (m1.trans m2)⟩
theorem setTgs_len : ∀ (tgs : List Tg) (l : List D) (r0 r : List (Option D)), setTgs tgs l r0 = some r → l.length = tgs.length
  | [], l, r0, r, h => by cases l <;> simp [setTgs] at h ⊢
  | tg :: tgs, [], r0, r, h => by simp [setTgs] at h
  | tg :: tgs, x :: xs, r0, r, h => by
    simp only [setTgs] at h
    obtain ⟨r1, _, h2⟩ := Option.bind_eq_some_iff.mp h
    simp [setTgs_len tgs xs r1 r h2]
theorem g_tup (hK : X.K = P.K.f) {tgs : List Tg} {k n : Nat} (hc : X.calm = true) (h : PGs X es (gTs P tgs)) (hn : (assignEach es X.env).length = n) (hst : (assignEach es X.env).findIdx? (·.1) = none) (hl : tgs.length = n) : PG X (.Tuple es k pos) (gT P (.tup tgs)) := by
  refine ⟨fun pins s σ H v u Q I rv ⟨t, ts, cs, τ, r, e, R, z, hr, q⟩ => ?_⟩
  subst e
  cases ht : t.er with
  | tup l =>
    obtain ⟨a, l, rfl, rfl⟩ := T.er_tup ht
    rw [ht] at hr z
    simp only [setTg] at hr
    have hlen := setTgs_len _ _ _ _ hr
    rw [T.ers_length] at hlen
    refine (pg_tup hc h hn hst).run pins s σ H _ u Q I rv ⟨a, l.map T.val, rfl, hK ▸ R.okh.1, by rw [List.length_map, hlen, hl], l, ts, cs, τ, r, rfl, ?_, z, hr, q⟩
    exact R.parts1 R.okh.2 fun a => by simp only [T.ex, T.sh]; omega
  | lst o l =>
    obtain ⟨a, l, rfl, rfl⟩ := T.er_lst ht
    rw [ht] at hr z
    simp only [setTg] at hr
    simp only [D.isz, Bool.and_eq_true] at z
    have hlen := setTgs_len _ _ _ _ hr
    rw [T.ers_length] at hlen
    refine (pg_unl hc h hn hst).run pins s σ H _ u Q I rv ⟨a, l.map T.val, rfl, SqL.of R.okh.1, by rw [List.length_map, hlen, hl], l, ts, cs, τ, r, rfl, ?_, z.2, hr, q⟩
    exact R.parts1 R.okh.2 fun a => by simp only [T.ex, T.sh]; omega
  | _ => rw [ht] at hr; simp [setTg] at hr
/-! statements -/
def tS (P : Par) (k : K) : TS := fun D σ H => ∃ ts cs τ, Rel P σ H ts cs τ ∧
  Res (exec P.env k (stt cs τ)) (fun fl s' => match fl with
    | .next => ∀ σ' cs' τ' H', s' = stt cs' τ' → Rel P σ' H' ts cs' τ' → D.nx σ' H'
    | .brk => ∀ σ' cs' τ' H', s' = stt cs' τ' → Rel P σ' H' ts cs' τ' → D.bk σ' H'
    | .cont => ∀ σ' cs' τ' H', s' = stt cs' τ' → Rel P σ' H' ts cs' τ' → D.ct σ' H'
    | .ret d => ∀ t σ' cs' τ' H', T.er t = d → s' = stt cs' τ' → Rel P σ' H' (t :: ts) cs' τ' → D.rt t.val H') (Bad P ts)
def tSs (P : Par) (k : List K) : TS := fun D σ H => ∃ ts cs τ, Rel P σ H ts cs τ ∧
  Res (execs P.env k (stt cs τ)) (fun fl s' => match fl with
    | .next => ∀ σ' cs' τ' H', s' = stt cs' τ' → Rel P σ' H' ts cs' τ' → D.nx σ' H'
    | .brk => ∀ σ' cs' τ' H', s' = stt cs' τ' → Rel P σ' H' ts cs' τ' → D.bk σ' H'
    | .cont => ∀ σ' cs' τ' H', s' = stt cs' τ' → Rel P σ' H' ts cs' τ' → D.ct σ' H'
    | .ret d => ∀ t σ' cs' τ' H', T.er t = d → s' = stt cs' τ' → Rel P σ' H' (t :: ts) cs' τ' → D.rt t.val H') (Bad P ts)
theorem PS_imp {st : Stmt} {t t' : TS} (h : PS X st t) (i : ∀ D σ H, t' D σ H → t D σ H) : PS X st t' := ⟨fun pins s σ H D I q => h.run pins s σ H D I (i D σ H q)⟩
theorem PSs_imp {st : List Stmt} {t t' : TS} (h : PSs X st t) (i : ∀ D σ H, t' D σ H → t D σ H) : PSs X st t' := ⟨fun pins s σ H D I q => h.run pins s σ H D I (i D σ H q)⟩
theorem ss_nil : PSs X [] (tSs P []) := PSs_imp pss_nil fun D σ H ⟨ts, cs, τ, R, r⟩ => r σ cs τ H rfl R
theorem ss_cons {st : Stmt} {rest : List Stmt} {k : K} {ks : List K} (h1 : PS X st (tS P k)) (h2 : PSs X rest (tSs P ks)) : PSs X (st :: rest) (tSs P (k :: ks)) := by
  refine PSs_imp (pss_cons h1 h2) fun D σ H ⟨ts, cs, τ, R, r⟩ => ⟨ts, cs, τ, R, ?_⟩
  simp only [execs, Res.bind] at r
  refine Res.mono r (fun fl s1 r1 => ?_) fun _ _ z => z
  cases fl with
  | next => exact fun σ' cs' τ' H' e R' => ⟨ts, cs', τ', R', by subst e; exact r1⟩
  | brk => exact r1
  | cont => exact r1
  | ret d => exact r1
theorem s_doc {y : Str} {j : Nat} {p2 : Pos} : PS X (.Expr (.Constant (.str y) j p2) pos) (tS P .skip) := PS_imp ps_doc fun D σ H ⟨ts, cs, τ, R, r⟩ => r σ cs τ H rfl R
theorem s_pass : PS X (.Pass pos) (tS P .skip) := PS_imp ps_pass fun D σ H ⟨ts, cs, τ, R, r⟩ => r σ cs τ H rfl R
theorem s_brk : PS X (.Break pos) (tS P .brk) := PS_imp ps_break fun D σ H ⟨ts, cs, τ, R, r⟩ => r σ cs τ H rfl R
theorem s_cont : PS X (.Continue pos) (tS P .cont) := PS_imp ps_continue fun D σ H ⟨ts, cs, τ, R, r⟩ => r σ cs τ H rfl R
theorem s_ex (he : PE X e (tE P ce)) (hs : swapsWith e none pos.line X.env = pure false) : PS X (.Expr e pos) (tS P (.ex ce)) := by
  refine PS_imp (ps_expr he hs) fun D σ H ⟨ts, cs, τ, R, r⟩ => ⟨ts, cs, τ, R, ?_⟩
  simp only [exec, Res.bind] at r
  exact Res.mono r (fun d s1 r1 t cs1 τ1 H1 e1 e2 R1 => r1 σ cs1 τ1 H1 e2 R1.drop) fun _ _ z => z
theorem s_ret (he : PE X e (tE P ce)) : PS X (.Return (some e) pos) (tS P (.ret ce)) := by
  refine PS_imp (ps_ret he) fun D σ H ⟨ts, cs, τ, R, r⟩ => ⟨ts, cs, τ, R, ?_⟩
  simp only [exec, Res.bind] at r
  exact Res.mono r (fun d s1 r1 t cs1 τ1 H1 e1 e2 R1 => r1 t σ cs1 τ1 H1 e1 e2 R1) fun _ _ z => z
theorem s_retN : PS X (.Return none pos) (tS P (.ret (.lit .non))) := by
  refine PS_imp ps_retN fun D σ H ⟨ts, cs, τ, R, r⟩ => ?_
  simp only [exec, ev] at r
  exact r .non σ cs τ H rfl rfl R.non
theorem s_ite {A B : List Stmt} {ka kb : List K} (hc : PT X c (tT P cc)) (ha : PSs X A (tSs P ka)) (hb : PSs X B (tSs P kb)) : PS X (.If c A B pos) (tS P (.ite cc ka kb)) := by
  refine PS_imp (ps_if hc ha hb) fun D σ H ⟨ts, cs, τ, R, r⟩ => ⟨ts, cs, τ, R, ?_⟩
  simp only [exec, Res.bind] at r
  refine Res.mono r (fun k s1 r1 cs1 τ1 H1 e R1 => ?_) fun _ _ z => z
  subst e
  cases k with
  | true => rw [if_pos rfl] at r1 ⊢; exact ⟨ts, cs1, τ1, R1, r1⟩
  | false => rw [if_neg Bool.false_ne_true] at r1 ⊢; exact ⟨ts, cs1, τ1, R1, r1⟩
theorem PS_impI {st : Stmt} {t t' : TS} (h : PS X st t) (i : ∀ D σ H, σ.length = X.N.length → t' D σ H → t D σ H) : PS X st t' := ⟨fun pins s σ H D I q => h.run pins s σ H D I (i D σ H I.len q)⟩
theorem n_lt {i : Nat} {y : Str} (hi : X.N[i]? = some y) (hl : σ.length = X.N.length) (R : Rel P σ H ts cs τ) : i < τ.length := by
  rw [R.len, hl]; exact (List.getElem?_eq_some_iff.mp hi).1
/-- a name's assignment, by the machine's rule for it -/
theorem set_of {st : Stmt} {i : Nat} {y : Str} {te : TE} (hi : X.N[i]? = some y) (h : PS X st (tAsg te (gName i))) (hv : ∀ σ H Q, tE P ce σ H Q → te σ H Q) : PS X st (tS P (.set i ce)) := by
  refine PS_impI h fun F σ H hlen ⟨ts, cs, τ, R, r⟩ => hv σ H _ ⟨ts, cs, τ, R, ?_⟩
  simp only [exec, Res.bind] at r
  refine Res.mono r (fun d s1 r1 t cs1 τ1 H1 e1 e2 R1 => ?_) fun _ _ z => z
  have R2 := R1.freeze.put (i := i) (n_lt hi hlen R1) fun _ => by rw [T.er_fz]; exact D.isz_fz _
  rw [T.val_fz] at R2
  exact r1 _ cs1 (τ1.set i (some t.fz)) H1 (by subst e1 e2; simp [stt, ero_set, T.er_fz]) R2
theorem bset_of {st : Stmt} {i : Nat} {y : Str} {te : TE} (hi : X.N[i]? = some y) (h : PS X st (tAsg te (gName i))) (hp : P.pl i = false) (hv : ∀ σ H Q, tE P ce σ H Q → te σ H Q) : PS X st (tS P (.bset i ce)) := by
  refine PS_impI h fun F σ H hlen ⟨ts, cs, τ, R, r⟩ => hv σ H _ ⟨ts, cs, τ, R, ?_⟩
  simp only [exec, Res.bind] at r
  refine Res.mono r (fun d s1 r1 t cs1 τ1 H1 e1 e2 R1 => ?_) fun _ _ z => z
  have R2 := R1.put (i := i) (n_lt hi hlen R1) fun z => by rw [hp] at z; cases z
  exact r1 _ cs1 (τ1.set i (some t)) H1 (by subst e1 e2; simp [stt, ero_set]) R2
theorem s_set {i : Nat} {y : Str} {p2 : Pos} (hN : X.N.Nodup) (hi : X.N[i]? = some y) (hx : Loc X.env.scope y) (he : PE X e (tE P ce)) (hs : swapsWith e (some (.Name y p2)) pos.line X.env = pure false) (hf : X.fn y = true ∨ X.env.scope.names.lookup y = some .local) :
    PS X (.Assign [.Name y p2] e pos) (tS P (.set i ce)) := set_of hi (ps_set hN hi hx he hs hf) fun _ _ _ z => z
theorem s_bset {i : Nat} {y : Str} {p2 : Pos} (hN : X.N.Nodup) (hi : X.N[i]? = some y) (hx : Loc X.env.scope y) (he : PE X e (tE P ce)) (hs : swapsWith e (some (.Name y p2)) pos.line X.env = pure false) (hf : X.fn y = true ∨ X.env.scope.names.lookup y = some .local) (hp : P.pl i = false) :
    PS X (.Assign [.Name y p2] e pos) (tS P (.bset i ce)) := bset_of hi (ps_set hN hi hx he hs hf) hp fun _ _ _ z => z
theorem s_unp {tg' : Tg} (he : PE X e (tE P ce)) (hg : PG X tg (gT P tg')) (hs : swapsWithSole [tg] e pos.line X.env = pure false) (hw : swappedStores [tg] e X.env = pure none) (h1 : (assignEach [tg] X.env).map (·.2) = [assign tg X.env]) :
    PS X (.Assign [tg] e pos) (tS P (.unp tg' ce)) := by
  refine PS_imp (ps_asg he hg hs hw h1) fun F σ H ⟨ts, cs, τ, R, r⟩ => ⟨ts, cs, τ, R, ?_⟩
  simp only [exec, Res.bind] at r
  refine Res.mono r (fun d s1 r1 t cs1 τ1 H1 e1 e2 R1 => ?_) fun _ _ z => z
  obtain ⟨r', hr, r2⟩ := Res.of.mp r1
  subst e1 e2
  refine ⟨t.fz, ts, cs1, τ1, r', (T.val_fz t).symm, R1.freeze, by rw [T.er_fz]; exact D.isz_fz _, by rw [T.er_fz]; exact hr, fun σ2 τ2 e2 R2 _ => ?_⟩
  exact r2 σ2 cs1 τ2 H1 (by rw [e2]; rfl) R2
theorem s_par {i j : Nat} {y z : Str} {py pz pt : Pos} {kt k2 : Nat} {pt2 : Pos} (hc : X.calm = true) (hN : X.N.Nodup) (hi : X.N[i]? = some y) (hj : X.N[j]? = some z) (hij : i ≠ j) (hx : X.env.scope.names.lookup y = some .local) (hy : X.env.scope.names.lookup z = some .local) (ha : PA X [a, b] (tA P [ca, cb]))
    (hw : swappedStores [.Tuple [.Name y py, .Name z pz] kt pt] (.Tuple [a, b] k2 pt2) X.env = pure (some [y, z])) (hs : swapsWithSole [.Tuple [.Name y py, .Name z pz] kt pt] (.Tuple [a, b] k2 pt2) pos.line X.env = pure false) :
    PS X (.Assign [.Tuple [.Name y py, .Name z pz] kt pt] (.Tuple [a, b] k2 pt2) pos) (tS P (.par i j ca cb)) := by
  refine PS_impI (ps_par hc hN hi hj hij hx hy ha hw hs) fun F σ H hlen ⟨ts, cs, τ, R, r⟩ => ⟨ts, cs, τ, R, evs_two.mpr ?_⟩
  simp only [exec, Res.bind] at r
  refine Res.mono r (fun d s1 r1 => Res.mono r1 (fun d2 s2 r2 us cs1 τ1 H1 e0 e2 R1 => ?_) fun _ _ z => z) fun _ _ z => z
  obtain ⟨u, u2, rfl, e1, e3⟩ := ers_two e0
  refine ⟨u.val, u2.val, rfl, ?_⟩
  have R2 := R1.freeze.put (i := i) (n_lt hi hlen R1) fun _ => by rw [T.er_fz]; exact D.isz_fz _
  have R3 := R2.freeze.put (i := j) (by rw [List.length_set]; exact n_lt hj hlen R1) fun _ => by rw [T.er_fz]; exact D.isz_fz _
  rw [T.val_fz, T.val_fz] at R3
  exact r2 _ cs1 _ H1 (by subst e1 e2 e3; simp [stt, ero_set, T.er_fz]) R3
/-! loops -/
/-- for: what holds between two turns -/
theorem s_for {k : Ik} {its : List C} {body : List Stmt} {tg' : Tg} {kb : List K} {iter : Expr} (hp : PassesOwn (model X.prog X.w) X.A X.env X.xe) (hc : X.calm = true) (hi : PI X tg iter (tI P k its)) (hg : PG X tg (gT P tg')) (hb : PSs X body (tSs P kb)) (hs : isSetE iter = false) :
    PS X (.For tg iter body [] pos) (tS P (.forr tg' k its kb)) := by
  refine PS_imp (ps_for hp hc hi hg hb (foldSet hs)) fun F σ H ⟨ts, cs, τ, R, r⟩ => ⟨ts, cs, τ, R, ?_⟩
  simp only [exec, Res.bind] at r
  refine Res.mono r (fun ds s1 r1 => ?_) fun _ _ z => z
  obtain ⟨l, hl, r2⟩ := Res.of.mp r1
  refine ⟨l, hl, fun con J cs1 τ1 H1 e1 R1 wk => ?_⟩
  subst e1
  refine ⟨fun i m σ H => m = l.length - i ∧ i ≤ l.length ∧ ∃ cs τ, Rel P σ H (con ++ ts) cs τ ∧ Res (forL (fun x s => (Out.of (setTg tg' x s.r) s).bind fun r s => execs P.env kb { s with r := r }) (l.drop i) (stt cs τ)) (fun fl s' => match fl with
      | .next => ∀ σ' cs' τ' H', s' = stt cs' τ' → Rel P σ' H' ts cs' τ' → F.nx σ' H'
      | .brk => ∀ σ' cs' τ' H', s' = stt cs' τ' → Rel P σ' H' ts cs' τ' → F.bk σ' H'
      | .cont => ∀ σ' cs' τ' H', s' = stt cs' τ' → Rel P σ' H' ts cs' τ' → F.ct σ' H'
      | .ret d => ∀ t σ' cs' τ' H', T.er t = d → s' = stt cs' τ' → Rel P σ' H' (t :: ts) cs' τ' → F.rt t.val H') (Bad P ts), ⟨l.length, by simp, Nat.zero_le _, cs1, τ1, R1, by simpa using r2⟩, ?_⟩
  rintro i m σ2 H2 ⟨rfl, hi, cs2, τ2, R2, r3⟩
  have w := wk i σ2 H2 ts cs2 τ2 R2
  have dropc : ∀ {σ' : St} {H' : Hp} {cs' : List G} {τ' : List (Option T)}, Rel P σ' H' (con ++ ts) cs' τ' → Rel P σ' H' ts cs' τ' := fun R' => R'.less (T.oks_append.mp (T.oks_append.mp R'.sat.ofr).1).2 fun a => by simp only [T.exs_append, T.shs_append]; omega
  by_cases hlt : i < l.length
  · have hd : l[i]? = some l[i] := List.getElem?_eq_getElem hlt
    obtain ⟨go, yl⟩ := w.2 _ hd
    rw [List.drop_eq_getElem_cons hlt, forL, Res.bind] at r3
    refine .inr ⟨go, fun σ' H' => ∃ cs' τ', Rel P σ' H' (con ++ ts) cs' τ' ∧ Res (forL (fun x s => (Out.of (setTg tg' x s.r) s).bind fun r s => execs P.env kb { s with r := r }) (l.drop (i + 1)) (stt cs' τ')) (fun fl s' => match fl with
      | .next => ∀ σ' cs' τ' H', s' = stt cs' τ' → Rel P σ' H' ts cs' τ' → F.nx σ' H'
      | .brk => ∀ σ' cs' τ' H', s' = stt cs' τ' → Rel P σ' H' ts cs' τ' → F.bk σ' H'
      | .cont => ∀ σ' cs' τ' H', s' = stt cs' τ' → Rel P σ' H' ts cs' τ' → F.ct σ' H'
      | .ret d => ∀ t σ' cs' τ' H', T.er t = d → s' = stt cs' τ' → Rel P σ' H' (t :: ts) cs' τ' → F.rt t.val H') (Bad P ts), fun σ' H' ⟨cs', τ', R', r'⟩ => ⟨l.length - (i + 1), by omega, rfl, hlt, cs', τ', R', r'⟩, fun x H' hy => ?_⟩
    obtain ⟨t, rfl, et, zt, R3⟩ := yl x H' hy
    rw [Res.bind] at r3
    obtain ⟨r', hr', r4⟩ := Res.of.mp r3
    refine ⟨t, con ++ ts, cs2, τ2, r', rfl, R3, by rw [et]; exact zt, by rw [et]; exact hr', fun σ3 τ3 e3 R4 _ => ⟨con ++ ts, cs2, τ3, R4, ?_⟩⟩
    have : ({ stt cs2 τ2 with r := r' } : S) = stt cs2 τ3 := by rw [e3]; rfl
    rw [this] at r4
    refine Res.mono r4 (fun fl s5 r5 => ?_) fun y s5 z => fun σ' cs' τ' H' e R' => z σ' cs' τ' H' e (dropc R')
    cases fl with
    | next => intro σ' cs' τ' H' e R'; subst e; exact ⟨cs', τ', R', r5⟩
    | cont => intro σ' cs' τ' H' e R'; subst e; exact ⟨cs', τ', R', r5⟩
    | brk => exact fun σ' cs' τ' H' e R' => r5 σ' cs' τ' H' e (dropc R')
    | ret d => exact fun t' σ' cs' τ' H' e1 e2 R' => r5 t' σ' cs' τ' H' e1 e2 (R'.less ⟨R'.okh, (T.oks_append.mp (T.oks_append.mp R'.sat.ofr.2).1).2⟩ fun a => by simp only [T.exs, T.shs, T.exs_append, T.shs_append]; omega)
  · have e : i = l.length := by omega
    subst e
    rw [List.drop_length, forL] at r3
    exact .inl ⟨w.1 (Nat.le_refl _), r3 σ2 cs2 τ2 H2 rfl (dropc R2)⟩
theorem s_whl {body : List Stmt} {kb : List K} (hp : PassesOwn (model X.prog X.w) X.A X.env X.xe) (hc : PT X c (tT P cc)) (hb : PSs X body (tSs P kb)) : PS X (.While c body [] pos) (tS P (.whl cc kb)) := by
  refine PS_imp (ps_while hp hc hb) fun F σ H ⟨ts, cs, τ, R, r⟩ => ?_
  simp only [exec] at r
  refine ⟨fun m σ H => ∃ cs τ, Rel P σ H ts cs τ ∧ Res (whlL (fun s => evb P.env cc s) (fun s => execs P.env kb s) m (stt cs τ)) (fun fl s' => match fl with
      | .next => ∀ σ' cs' τ' H', s' = stt cs' τ' → Rel P σ' H' ts cs' τ' → F.nx σ' H'
      | .brk => ∀ σ' cs' τ' H', s' = stt cs' τ' → Rel P σ' H' ts cs' τ' → F.bk σ' H'
      | .cont => ∀ σ' cs' τ' H', s' = stt cs' τ' → Rel P σ' H' ts cs' τ' → F.ct σ' H'
      | .ret d => ∀ t σ' cs' τ' H', T.er t = d → s' = stt cs' τ' → Rel P σ' H' (t :: ts) cs' τ' → F.rt t.val H') (Bad P ts), ⟨P.env.w, cs, τ, R, r⟩, ?_⟩
  rintro m σ2 H2 ⟨cs2, τ2, R2, r2⟩
  cases m with
  | zero => exact r2.elim
  | succ m =>
    rw [whlL, Res.bind] at r2
    refine ⟨ts, cs2, τ2, R2, Res.mono r2 (fun k s3 r3 cs3 τ3 H3 e3 R3 => ?_) fun _ _ z => z⟩
    subst e3
    cases k with
    | false =>
      rw [if_neg Bool.false_ne_true] at r3 ⊢
      exact r3 σ2 cs3 τ3 H3 rfl R3
    | true =>
      rw [if_pos rfl] at r3 ⊢
      rw [Res.bind] at r3
      refine ⟨fun σ' H' => ∃ cs τ, Rel P σ' H' ts cs τ ∧ Res (whlL (fun s => evb P.env cc s) (fun s => execs P.env kb s) m (stt cs τ)) (fun fl s' => match fl with
      | .next => ∀ σ' cs' τ' H', s' = stt cs' τ' → Rel P σ' H' ts cs' τ' → F.nx σ' H'
      | .brk => ∀ σ' cs' τ' H', s' = stt cs' τ' → Rel P σ' H' ts cs' τ' → F.bk σ' H'
      | .cont => ∀ σ' cs' τ' H', s' = stt cs' τ' → Rel P σ' H' ts cs' τ' → F.ct σ' H'
      | .ret d => ∀ t σ' cs' τ' H', T.er t = d → s' = stt cs' τ' → Rel P σ' H' (t :: ts) cs' τ' → F.rt t.val H') (Bad P ts), fun σ' H' h => ⟨m, by omega, h⟩, ts, cs3, τ3, R3, Res.mono r3 (fun fl s5 r5 => ?_) fun _ _ z => z⟩
      cases fl with
      | next => intro σ' cs' τ' H' e R'; subst e; exact ⟨cs', τ', R', r5⟩
      | cont => intro σ' cs' τ' H' e R'; subst e; exact ⟨cs', τ', R', r5⟩
      | brk => exact r5
      | ret d => exact r5
end
end PV

/-! PvM: list comprehensions. -/
namespace PV
open PySem L2

/-- the slots vs forgotten -/
def wipeT (τ : List (Option T)) : List Nat → List (Option T)
  | [] => τ
  | v :: vs => (wipeT τ vs).set v none
def backT (τ0 τ : List (Option T)) : List Nat → List (Option T)
  | [] => τ
  | v :: vs => (backT τ0 τ vs).set v (gt τ0 v)
/-- what the slots vs hold -/
def heldT (τ : List (Option T)) : List Nat → List T
  | [] => []
  | v :: vs => (match gt τ v with | some t => [t] | none => []) ++ heldT τ vs
theorem wipeT_length (τ : List (Option T)) : ∀ vs, (wipeT τ vs).length = τ.length
  | [] => rfl
  | v :: vs => by rw [wipeT, List.length_set, wipeT_length τ vs]
theorem backT_length (τ0 τ : List (Option T)) : ∀ vs, (backT τ0 τ vs).length = τ.length
  | [] => rfl
  | v :: vs => by rw [backT, List.length_set, backT_length τ0 τ vs]
theorem ero_setO (τ : List (Option T)) (i : Nat) (o : Option T) : ero (τ.set i o) = (ero τ).set i (o.map T.er) := by
  unfold ero; rw [List.map_set]
theorem ero_wipe (τ : List (Option T)) : ∀ vs, ero (wipeT τ vs) = wipeD (ero τ) vs
  | [] => rfl
  | v :: vs => by rw [wipeT, wipeD, ero_setO, ero_wipe τ vs]; rfl
theorem ero_back (τ0 τ : List (Option T)) : ∀ vs, ero (backT τ0 τ vs) = backD (ero τ0) (ero τ) vs
  | [] => rfl
  | v :: vs => by rw [backT, backD, ero_setO, ero_back τ0 τ vs, gt_ero]
theorem gt_setO {α : Type} (o : Option α) : ∀ (l : List (Option α)) (i j : Nat), gt (l.set i o) j = if i = j ∧ i < l.length then o else gt l j
  | [], i, j => by simp [gt]
  | x :: xs, 0, 0 => by simp [gt]
  | x :: xs, 0, j + 1 => by simp [gt]
  | x :: xs, i + 1, 0 => by simp [gt]
  | x :: xs, i + 1, j + 1 => by simp only [List.set, gt, gt_setO o xs i j, Nat.add_right_cancel_iff, List.length_cons, Nat.add_lt_add_iff_right]
theorem gt_wipe (τ : List (Option T)) (j : Nat) : ∀ vs, gt (wipeT τ vs) j = if j ∈ vs then none else gt τ j
  | [] => by simp [wipeT]
  | v :: vs => by
    rw [wipeT, gt_setO, wipeT_length, gt_wipe τ j vs]
    by_cases e : v = j
    · subst e
      by_cases h : v < τ.length
      · simp [h]
      · have : gt τ v = none := by
          have : ∀ (τ : List (Option T)) (v : Nat), ¬ v < τ.length → gt τ v = none := by
            intro τ
            induction τ with
            | nil => intro v _; rfl
            | cons x xs ih => intro v hv; cases v with
              | zero => simp at hv
              | succ v => exact ih v (by simpa using hv)
          exact this τ v h
        simp [h, this]
    · have e' : ¬ j = v := fun h => e h.symm
      simp [e, e']
theorem gt_ge {α : Type} : ∀ {τ : List (Option α)} {v : Nat}, τ.length ≤ v → gt τ v = none
  | [], _, _ => rfl
  | x :: xs, 0, h => by simp at h
  | x :: xs, v + 1, h => gt_ge (τ := xs) (v := v) (by simpa using h)
theorem gt_back (τ0 τ : List (Option T)) (hl : τ.length = τ0.length) (j : Nat) : ∀ vs, gt (backT τ0 τ vs) j = if j ∈ vs then gt τ0 j else gt τ j
  | [] => by simp [backT]
  | v :: vs => by
    rw [backT, gt_setO, backT_length, gt_back τ0 τ hl j vs]
    by_cases e : v = j
    · subst e
      by_cases h : v < τ.length
      · simp [h]
      · have h1 : gt τ0 v = none := gt_ge (by omega)
        have h2 : gt τ v = none := gt_ge (by omega)
        simp [h, h1, h2]
    · have e' : ¬ j = v := fun h => e h.symm
      simp [e, e']
section
variable {K : KW} {H H' : Hp} {fr fr' : List T} {cs cs' : List G} {τ τ0 τ' : List (Option T)}
theorem Sat.hold : ∀ {vs : List Nat}, Sat K H fr cs τ → vs.Nodup → Sat K H (heldT τ vs ++ fr) cs (wipeT τ vs)
  | [], S, _ => S
  | v :: vs, S, hn => by
    have hn := List.nodup_cons.mp hn
    have S1 := Sat.hold (vs := vs) S hn.2
    cases h : gt τ v with
    | none => simp only [heldT, h, wipeT]; exact S1.forget v
    | some t =>
      simp only [heldT, h, wipeT]
      exact S1.take (by rw [gt_wipe, if_neg hn.1]; exact h)
theorem Sat.unhold (hl : τ.length = τ0.length) : ∀ {vs : List Nat} {fr : List T}, vs.Nodup → Sat K H (heldT τ0 vs ++ fr) cs τ → Sat K H fr cs (backT τ0 τ vs)
  | [], _, _, S => S
  | v :: vs, fr, hn, S => by
    have hn := List.nodup_cons.mp hn
    cases h : gt τ0 v with
    | none =>
      simp only [heldT, h, backT] at S ⊢
      exact (Sat.unhold hl hn.2 S).forget v
    | some t =>
      simp only [heldT, h, backT, List.cons_append, List.nil_append] at S ⊢
      have S2 : Sat K H (heldT τ0 vs ++ (t :: fr)) cs τ := S.perm List.perm_middle.symm
      refine (Sat.unhold hl hn.2 S2).store ?_
      rw [backT_length, hl]
      exact Nat.lt_of_not_le fun hle => by rw [gt_ge hle] at h; cases h
/-- a root list is added to -/
theorem Sat.grow {t : T} {l : List T} {p : Addr} (S : Sat K H (t :: .lst true p l :: fr) cs τ) : Sat K (upd H p (.lst ((l ++ [t]).map T.val))) (.lst true p (l ++ [t]) :: fr) cs τ := by
  have ou : ∀ a, a = p → T.exs (t :: fr) a + T.exs l a = 0 ∧ T.shs (t :: fr) a + T.shs l a = 0 ∧ exg cs a = 0 ∧ shg cs a = 0 ∧ exo τ a = 0 ∧ sho τ a = 0 := fun a e => by
    subst e
    have h1 := S.uni a; have h2 := S.sep a
    simp only [T.exs, T.ex, T.shs, T.sh, one, ↓reduceIte] at *
    omega
  have o1 := ou p rfl
  simp only [T.exs, T.shs] at o1
  have keep : ∀ a o, H a = some o → a ≠ p → (upd H p (.lst ((l ++ [t]).map T.val))) a = some o := fun a o e q => by rw [upd_ne q]; exact e
  have kps : ∀ (l' : List T), T.oks K H (ads cs) l' → (T.exs l' p + T.shs l' p = 0) → T.oks K (upd H p (.lst ((l ++ [t]).map T.val))) (ads cs) l' := fun l' h' q => T.oks_keep l' h' (fun a o e m => by
    by_cases c : a = p
    · subst c; rw [S.ofr.2.1.1] at e; cases e; have := m rfl; omega
    · exact keep a o e c) fun _ _ z => z
  have ol := kps l S.ofr.2.1.2 (by omega)
  have ot := kps [t] ⟨S.ofr.1, trivial⟩ (by simp only [T.exs, T.shs]; omega)
  refine ⟨⟨⟨upd_same, T.oks_append.mpr ⟨ol, ot⟩⟩, kps fr S.ofr.2.2 (by omega)⟩, fun g hg => ?_, fun u hu => ?_, fun a => ?_, fun a => ?_⟩
  · have h1 := S.ocs g hg
    have m1 := mem_exg hg p
    refine G.ok_keep h1 (fun a o e m => ?_) fun _ _ z => z
    by_cases c : a = p
    · subst c
      rw [S.ofr.2.1.1] at e; cases e
      have := m rfl
      omega
    · exact keep a o e c
  · have := mem_exo hu p
    exact T.ok_keep u (S.osl u hu) (fun a o e m => by
      by_cases c : a = p
      · subst c; rw [S.ofr.2.1.1] at e; cases e; have := m rfl; omega
      · exact keep a o e c) fun _ _ z => z
  · have h1 := S.uni a
    simp only [T.exs, T.ex, T.exs_append] at *
    omega
  · have h1 := S.sep a
    simp only [T.exs, T.ex, T.shs, T.sh, T.exs_append, T.shs_append] at *
    omega
end
section
variable {X : Cx} {P : Par} {a b c e tg iter : Expr} {es : List Expr} {ca cb cc ce : C} {ces : List C} {pos p : Pos} {x : Str} {σ σ' : St} {H : Hp} {ts us : List T} {cs cs' : List G} {τ τ' : List (Option T)} {t t1 t2 : T}
/-- within a comprehension's block no exception is wanted -/
def Par.blk (P : Par) : Par := { P with wx := fun _ _ _ _ => False }
def tTs (P : Par) (ces : List C) : TT := fun σ H Q => ∃ ts cs τ, Rel P σ H ts cs τ ∧
  Res (evt P.env ces (stt cs τ)) (fun b s' => ∀ cs' τ' H', s' = stt cs' τ' → Rel P σ H' ts cs' τ' → Q b H') (Bad P ts)
theorem PTs_imp {e : List Expr} {t t' : TT} (h : PTs X e t) (i : ∀ σ H Q, t' σ H Q → t σ H Q) : PTs X e t' := ⟨fun pins s σ H Q I q => h.run pins s σ H Q I (i σ H Q q)⟩
theorem ts_nil : PTs X [] (tTs P []) := PTs_imp pts_nil fun σ H Q ⟨ts, cs, τ, R, r⟩ => by
  simp only [evt] at r
  exact r cs τ H rfl R
theorem ts_one (hc : PT X c (tT P cc)) : PTs X [c] (tTs P [cc]) := PTs_imp (pts_one hc) fun σ H Q ⟨ts, cs, τ, R, r⟩ => ⟨ts, cs, τ, R, by
  simp only [evt, evb] at r ⊢
  exact r⟩
theorem noExc_res {α : Type} {o : Out α} {k : α → S → Prop} {y y' : Exn → S → Prop} (h : Res (noExc o) k y) : Res o k y' := by
  cases o with
  | ok a s => exact h
  | exc x s => exact h.elim
  | bad => exact h
theorem same_wipe {vs ws : List Nat} (h : Same ws σ σ') (hs : ∀ i ∈ ws, i ∈ vs) : wipe σ' vs = wipe σ vs := by
  have get : ∀ (vs : List Nat) (σ : St) (j : Nat), (wipe σ vs)[j]? = if j ∈ vs ∧ j < σ.length then some none else σ[j]? := by
    intro vs
    induction vs with
    | nil => intro σ j; simp [wipe]
    | cons v vs ih =>
      intro σ j
      rw [wipe]
      by_cases e : v = j
      · subst e
        by_cases hl : v < σ.length
        · rw [List.getElem?_set_self (by rw [wipe_length]; exact hl), if_pos ⟨by simp, hl⟩]
        · rw [List.getElem?_eq_none (by rw [List.length_set, wipe_length]; omega), if_neg (fun z => hl z.2), List.getElem?_eq_none (by omega)]
      · rw [List.getElem?_set_ne e, ih σ j]
        have e' : ¬ j = v := fun h => e h.symm
        simp [e']
  apply List.ext_getElem?
  intro j
  rw [get, get, h.1]
  by_cases hj : j ∈ vs
  · by_cases hl : j < σ.length
    · rw [if_pos ⟨hj, hl⟩, if_pos ⟨hj, hl⟩]
    · rw [if_neg fun z => hl z.2, if_neg fun z => hl z.2, List.getElem?_eq_none (by rw [h.1]; omega), List.getElem?_eq_none (by omega)]
  · rw [if_neg fun z => hj z.1, if_neg fun z => hj z.1]
    exact h.2 j fun z => hj (hs j z)
theorem same_wipe2 {vs ws : List Nat} (h : Same ws (wipe σ vs) σ') (hs : ∀ i ∈ ws, i ∈ vs) : wipe σ' vs = wipe σ vs := by
  rw [same_wipe h hs]
  have get : ∀ (vs : List Nat) (σ : St) (j : Nat), (wipe σ vs)[j]? = if j ∈ vs ∧ j < σ.length then some none else σ[j]? := by
    intro vs
    induction vs with
    | nil => intro σ j; simp [wipe]
    | cons v vs ih =>
      intro σ j
      rw [wipe]
      by_cases e : v = j
      · subst e
        by_cases hl : v < σ.length
        · rw [List.getElem?_set_self (by rw [wipe_length]; exact hl), if_pos ⟨by simp, hl⟩]
        · rw [List.getElem?_eq_none (by rw [List.length_set, wipe_length]; omega), if_neg (fun z => hl z.2), List.getElem?_eq_none (by omega)]
      · rw [List.getElem?_set_ne e, ih σ j]
        have e' : ¬ j = v := fun h => e h.symm
        simp [e']
  apply List.ext_getElem?
  intro j
  rw [get, get, wipe_length]
  by_cases hj : j ∈ vs ∧ j < σ.length
  · rw [if_pos hj, if_pos hj]
  · rw [if_neg hj]
/-- the state behind a turn, its own names forgotten -/
theorem Rel.wipe {vs : List Nat} (R : Rel P σ' H ts cs τ) (hw : L2.wipe σ' vs = L2.wipe σ vs) : Rel P (L2.wipe σ vs) H ts cs (wipeT τ vs) := by
  have hl : σ'.length = σ.length := by rw [← wipe_length σ' vs, hw, wipe_length]
  refine ⟨?_, by rw [wipeT_length, wipe_length, R.len, hl], fun i u h => ?_, fun i u h hp => ?_⟩
  · have : ∀ vs : List Nat, Sat P.K H (ts ++ P.fr) cs (wipeT τ vs) := by
      intro vs
      induction vs with
      | nil => exact R.sat
      | cons v vs ih => exact ih.forget v
    exact this vs
  · rw [gt_wipe] at h
    split at h
    · cases h
    · rename_i hn
      have h1 := R.val i u h
      rw [← hw]
      have get : ∀ (vs : List Nat), i ∉ vs → (L2.wipe σ' vs)[i]? = σ'[i]? := by
        intro vs
        induction vs with
        | nil => intro _; rfl
        | cons v vs ih =>
          intro hm
          simp only [List.mem_cons, not_or] at hm
          rw [L2.wipe, List.getElem?_set_ne (fun e => hm.1 e.symm)]
          exact ih hm.2
      rw [get vs hn]; exact h1
  · rw [gt_wipe] at h
    split at h
    · cases h
    · exact R.pla i u h hp
theorem lcE {k : Ik} {its : List C} {tg' : Tg} {vs : List Nat} (hK : X.K = P.K.f) (hvs : vs.Nodup) (hsl : ∀ i ∈ tg'.sl, i ∈ vs) (σ : St) (H : Hp) (Q : VK) :
    tE P (.lc ce tg' k its ces vs) σ H Q → tLc (tI P k its) (gT P.blk tg') (tTs P.blk ces) (tE P.blk ce) vs σ H Q := by
  rintro ⟨ts, cs, τ, R, r⟩
  refine ⟨ts, cs, τ, R, ?_⟩
  simp only [ev, Res.bind] at r
  refine Res.mono r (fun ds s1 r1 => ?_) fun _ _ z => z
  obtain ⟨l, hl, r2⟩ := Res.of.mp r1
  refine ⟨l, hl, fun con J cs1 τ1 H1 e1 R1 wk q hD => ?_⟩
  subst e1
  -- the new list, the held slots
  have R2 : Sat P.K (upd H1 q (.lst [])) (.lst true q [] :: (con ++ (heldT τ1 vs ++ ts)) ++ P.fr) cs1 (wipeT τ1 vs) := by
    have S1 : Sat P.K (upd H1 q (.lst [])) (T.lst true q [] :: (con ++ ts ++ P.fr)) cs1 τ1 :=
      Sat.alloc (ts := []) (t := .lst true q []) R1.sat hD ⟨upd_same, trivial⟩ (fun a => by simp [T.ex, T.exs]) fun a => by simp [T.sh, T.shs]
    have S2 := S1.hold hvs
    refine S2.perm ?_
    simp only [List.cons_append, List.append_assoc]
    refine List.perm_middle.trans (List.Perm.cons _ ?_)
    rw [← List.append_assoc, ← List.append_assoc con]
    exact List.Perm.append_right _ List.perm_append_comm
  let k0 : List D → S → Prop := fun acc s' => ∀ t cs' τ' H', t.er = .lst true acc → ({ s' with r := backD (ero τ1) s'.r vs } : S) = stt cs' τ' → Rel P σ H' (t :: ts) cs' τ' → Q t.val H'
  refine ⟨fun i m H => m = l.length - i ∧ i ≤ l.length ∧ ∃ acc cs τ', Rel P.blk (L2.wipe σ vs) H (.lst true q acc :: (con ++ (heldT τ1 vs ++ ts))) cs (wipeT τ' vs) ∧ τ'.length = τ1.length ∧
    Res (lcL (setTg tg') (fun s => noExc (evt P.env ces s)) (fun s => noExc (ev P.env ce s)) vs (l.drop i) (T.ers acc) (stt cs τ')) k0 (fun _ _ => True), ⟨l.length, by simp, Nat.zero_le _, [], cs1, τ1, ?_, rfl, ?_⟩, ?_⟩
  · refine ⟨R2, by rw [wipeT_length, wipe_length, R1.len], fun i u h => ?_, fun i u h hp => ?_⟩
    · rw [gt_wipe] at h
      split at h
      · cases h
      · rename_i hn
        have h1 := R1.val i u h
        have get : ∀ (vs : List Nat), i ∉ vs → (L2.wipe σ vs)[i]? = σ[i]? := by
          intro vs
          induction vs with
          | nil => intro _; rfl
          | cons v vs ih =>
            intro hm
            simp only [List.mem_cons, not_or] at hm
            rw [L2.wipe, List.getElem?_set_ne (fun e => hm.1 e.symm)]
            exact ih hm.2
        rw [get vs hn]; exact h1
    · rw [gt_wipe] at h
      split at h
      · cases h
      · exact R1.pla i u h hp
  · rw [List.drop_zero]
    refine Res.mono r2 (fun acc s' h => ?_) fun _ _ _ => trivial
    exact h
  rintro i m H2 ⟨rfl, hi, acc, cs2, τ2, R3, hlen, r3⟩
  have w := wk i (L2.wipe σ vs) H2 (T.lst true q acc :: (heldT τ1 vs ++ ts)) cs2 (wipeT τ2 vs) (by
    have := R3.perm (ts' := con ++ (T.lst true q acc :: (heldT τ1 vs ++ ts))) List.perm_middle.symm
    exact ⟨this.sat, this.len, this.val, this.pla⟩)
  by_cases hlt : i < l.length
  · have hd : l[i]? = some l[i] := List.getElem?_eq_getElem hlt
    obtain ⟨go, yl⟩ := w.2 _ hd
    rw [List.drop_eq_getElem_cons hlt, lcL, Res.bind] at r3
    obtain ⟨r', hr', r4⟩ := Res.of.mp r3
    rw [Res.bind] at r4
    refine .inr ⟨go, fun H' => ∃ acc cs τ', Rel P.blk (L2.wipe σ vs) H' (.lst true q acc :: (con ++ (heldT τ1 vs ++ ts))) cs (wipeT τ' vs) ∧ τ'.length = τ1.length ∧
      Res (lcL (setTg tg') (fun s => noExc (evt P.env ces s)) (fun s => noExc (ev P.env ce s)) vs (l.drop (i + 1)) (T.ers acc) (stt cs τ')) k0 (fun _ _ => True), fun H' h => ⟨l.length - (i + 1), by omega, rfl, hlt, h⟩, fun x H' hy => ?_⟩
    obtain ⟨t, rfl, et, zt, R4⟩ := yl x H' hy
    have R5 : Rel P.blk (L2.wipe σ vs) H' (t :: (T.lst true q acc :: (con ++ (heldT τ1 vs ++ ts)))) cs2 (wipeT τ2 vs) := by
      have := R4.perm (ts' := t :: (T.lst true q acc :: (con ++ (heldT τ1 vs ++ ts)))) (List.Perm.cons _ List.perm_middle)
      exact ⟨this.sat, this.len, this.val, this.pla⟩
    rw [show (stt cs2 τ2).r = ero τ2 from rfl, ← ero_wipe] at hr'
    refine ⟨t, _, cs2, wipeT τ2 vs, r', rfl, R5, by rw [et]; exact zt, by rw [et]; exact hr', fun σ3 τ3 e3 R6 m3 => ?_⟩
    have hw3 : L2.wipe σ3 vs = L2.wipe σ vs := same_wipe2 m3 hsl
    have hl3 : σ3.length = σ.length := by rw [m3.1, wipe_length]
    refine ⟨hw3, _, cs2, τ3, R6, ?_⟩
    have : ({ stt cs2 τ2 with r := r' } : S) = stt cs2 τ3 := by rw [e3]; rfl
    rw [this] at r4
    refine noExc_res (Res.mono r4 (fun b s5 r5 cs5 τ5 H5 e5 R7 => ?_) fun _ _ z => z)
    subst e5
    have hl1 : τ1.length = σ.length := R1.len
    cases b with
    | false =>
      simp only [Bool.false_eq_true, if_false] at r5 ⊢
      exact ⟨acc, cs5, τ5, R7.wipe hw3, by rw [R7.len, hl3, hl1], r5⟩
    | true =>
      simp only [if_true, Res.bind] at r5 ⊢
      refine ⟨_, cs5, τ5, R7, noExc_res (Res.mono r5 (fun d s6 r6 u cs6 τ6 H6 e6 e7 R8 => ?_) fun _ _ z => z)⟩
      subst e6 e7
      split at r6
      · rename_i hz
        rw [T.ers_length] at hz
        refine ⟨acc.map T.val, R8.sat.ofr.2.1.1, by rw [List.length_map]; exact hz, acc ++ [u], cs6, τ6, ?_, by rw [R8.len, hl3, hl1], ?_⟩
        · have R9 := (R8.with (ts' := .lst true q (acc ++ [u]) :: (con ++ (heldT τ1 vs ++ ts))) (Sat.grow R8.sat)).wipe hw3
          rw [List.map_append] at R9
          exact R9
        · rw [T.ers_append]
          exact r6
      · exact r6.elim
  · have e : i = l.length := by omega
    subst e
    rw [List.drop_length, lcL] at r3
    refine .inl ⟨w.1 (Nat.le_refl _), ?_⟩
    refine r3 (.lst true q acc) cs2 (backT τ1 τ2 vs) H2 rfl (by simp [stt, ero_back]) ?_
    -- the held slots come back
    have hb : backT τ1 (wipeT τ2 vs) vs = backT τ1 τ2 vs := by
      apply List.ext_getElem?
      intro j
      have : ∀ (a b : List (Option T)), a.length = b.length → gt a j = gt b j → a[j]? = b[j]? := by
        have gg : ∀ (a : List (Option T)) (j : Nat), a[j]? = if j < a.length then some (gt a j) else none := by
          intro a
          induction a with
          | nil => intro j; simp
          | cons x xs ih => intro j; cases j with
            | zero => simp [gt]
            | succ j => simp [gt, ih]
        intro a b h1 h2
        rw [gg, gg, h1, h2]
      refine this _ _ (by simp [backT_length, wipeT_length]) ?_
      rw [gt_back _ _ (by rw [wipeT_length, hlen]), gt_back _ _ hlen]
      split
      · rfl
      · rename_i hj; rw [gt_wipe, if_neg hj]
    have S := R3.sat
    have S1 : Sat P.K H2 (heldT τ1 vs ++ (.lst true q acc :: ts ++ P.fr)) cs2 (wipeT τ2 vs) := by
      have S0 : Sat P.K H2 ((T.lst true q acc :: (con ++ (heldT τ1 vs ++ ts))) ++ P.fr) cs2 (wipeT τ2 vs) := S
      have o := T.oks_append.mp S0.ofr
      have S3 : Sat P.K H2 (T.lst true q acc :: (heldT τ1 vs ++ (ts ++ P.fr))) cs2 (wipeT τ2 vs) := S0.less ⟨o.1.1, by
          have o2 := T.oks_append.mp (T.oks_append.mp o.1.2).2
          exact T.oks_append.mpr ⟨o2.1, T.oks_append.mpr ⟨o2.2, o.2⟩⟩⟩ fun a => by
        simp only [T.exs, T.shs, T.exs_append, T.shs_append, List.cons_append]; omega
      exact S3.perm List.perm_middle.symm
    have S2 := Sat.unhold (by rw [wipeT_length, hlen]) hvs S1
    rw [hb] at S2
    refine ⟨S2, by rw [backT_length, hlen, R1.len], fun j u h => ?_, fun j u h hp => ?_⟩
    · rw [gt_back _ _ hlen] at h
      split at h
      · exact R1.val j u h
      · rename_i hj
        have := R3.val j u (by rw [gt_wipe, if_neg hj]; exact h)
        exact (wipe_some this).1
    · rw [gt_back _ _ hlen] at h
      split at h
      · exact R1.pla j u h hp
      · rename_i hj
        exact R3.pla j u (by rw [gt_wipe, if_neg hj]; exact h) hp
end
end PV

/-! PvN: dict displays, list statements, names of the top. -/
namespace PV
open PySem L2

section
variable {K : KW} {H H' : Hp} {fr fr' ts : List T} {cs cs' : List G} {τ τ' : List (Option T)}
/-- an owned root's object is rewritten: what stands elsewhere stays -/
theorem Sat.aside {t0 : T} {p : Addr} (ob : HO) (S : Sat K H (ts ++ (t0 :: fr)) cs τ) (hp : 1 ≤ t0.ex p) {l0 l : List T} (h0 : ∀ a, one p a + T.exs l0 a ≤ t0.ex a ∧ T.shs l0 a ≤ t0.sh a) (ol : T.oks K H (ads cs) l)
    (h : ∀ a, T.exs l a ≤ T.exs ts a + T.exs l0 a ∧ T.shs l a ≤ T.shs ts a + T.shs l0 a) : T.oks K (upd H p ob) (ads cs) l := by
  have z : T.exs l p + T.shs l p = 0 := by
    have h1 := S.uni p; have h2 := S.sep p; have h3 := h p; have h4 := h0 p
    simp only [T.exs_append, T.shs_append, T.exs, T.shs, one, ↓reduceIte] at *
    omega
  exact T.oks_keep l ol (fun a o e m => by
    by_cases c : a = p
    · subst c
      obtain ⟨o2, e2, e3⟩ : ∃ o, H a = some o ∧ isMut o = true := by
        have o1 := (T.oks_append.mp S.ofr).2.1
        exact T.there t0 a o1 (by omega)
      rw [e2] at e; cases e
      have := m e3; omega
    · rw [upd_ne c]; exact e) fun _ _ z => z
theorem Sat.redo {t0 t1 : T} {p : Addr} {ob : HO} (S : Sat K H (ts ++ (t0 :: fr)) cs τ) (hp : 1 ≤ t0.ex p) (ok : t1.ok K (upd H p ob) (ads cs)) (h : ∀ a, t1.ex a ≤ T.exs ts a + t0.ex a ∧ t1.sh a ≤ T.shs ts a + t0.sh a) :
    Sat K (upd H p ob) (t1 :: fr) cs τ := by
  have o := T.oks_append.mp S.ofr
  have own : T.exs ts p + T.shs ts p = 0 ∧ T.exs fr p + T.shs fr p = 0 ∧ exg cs p + shg cs p = 0 ∧ exo τ p + sho τ p = 0 := by
    have h1 := S.uni p; have h2 := S.sep p
    simp only [T.exs_append, T.shs_append, T.exs, T.shs] at *
    omega
  obtain ⟨o2, e2, e3⟩ : ∃ o, H p = some o ∧ isMut o = true := T.there t0 p o.2.1 (by omega)
  have keep : ∀ a o, H a = some o → a ≠ p → (upd H p ob) a = some o := fun a o e n => by rw [upd_ne n]; exact e
  refine ⟨⟨ok, T.oks_keep fr o.2.2 (fun a o e m => ?_) fun _ _ z => z⟩, fun g hg => ?_, fun u hu => ?_, fun a => ?_, fun a => ?_⟩
  · by_cases c : a = p
    · subst c; rw [e2] at e; cases e; have := m e3; omega
    · exact keep a o e c
  · have m1 := mem_exg hg p
    refine G.ok_keep (S.ocs g hg) (fun a o e m => ?_) fun _ _ z => z
    by_cases c : a = p
    · subst c; rw [e2] at e; cases e; have := m e3; omega
    · exact keep a o e c
  · have := mem_exo hu p
    exact T.ok_keep u (S.osl u hu) (fun a o e m => by
      by_cases c : a = p
      · subst c; rw [e2] at e; cases e; have := m e3; omega
      · exact keep a o e c) fun _ _ z => z
  · have h1 := S.uni a; have h3 := h a
    simp only [T.exs_append, T.exs] at *
    omega
  · have h1 := S.sep a; have h3 := h a
    simp only [T.exs_append, T.shs_append, T.exs, T.shs] at *
    omega
end
section
variable {X : Cx} {P : Par} {a b c e tg iter : Expr} {es : List Expr} {ca cb cc ce : C} {ces : List C} {pos p : Pos} {x : Str} {σ σ' : St} {H : Hp} {ts us : List T} {cs cs' : List G} {τ τ' : List (Option T)} {t t1 t2 : T}
/-! {k: v, ..} -/
def trsOf (P : Par) : List C → List (TE × TE)
  | k :: v :: l => (tE P k, tE P v) :: trsOf P l
  | _ => []
def pairsV : List T → List (V × V)
  | k :: v :: l => (k.val, v.val) :: pairsV l
  | _ => []
def evenB : List C → Bool
  | [] => true
  | _ :: _ :: l => evenB l
  | _ => false
theorem tpairs_of (σ : St) : ∀ (ces : List C) (H : Hp) (ts : List T) (cs : List G) (τ : List (Option T)) (Q : List (V × V) → Hp → Prop), evenB ces = true → Rel P σ H ts cs τ →
    Res (evs P.env ces (stt cs τ)) (fun ds s' => ∀ us cs' τ' H', T.ers us = ds → s' = stt cs' τ' → Rel P σ H' (us ++ ts) cs' τ' → Q (pairsV us) H') (Bad P ts) → tPairs (trsOf P ces) σ H Q
  | [], H, ts, cs, τ, Q, _, R, r => by
    simp only [evs] at r
    exact r [] cs τ H rfl rfl R
  | [_], H, ts, cs, τ, Q, h, R, r => by simp [evenB] at h
  | k :: v :: l, H, ts, cs, τ, Q, h, R, r => by
    simp only [evs, Res.bind] at r
    refine ⟨ts, cs, τ, R, Res.mono r (fun d s1 r1 t cs1 τ1 H1 e1 e2 R1 => ⟨t :: ts, cs1, τ1, R1, ?_⟩) fun _ _ z => z⟩
    subst e1 e2
    refine Res.mono r1 (fun d2 s2 r2 t2 cs2 τ2 H2 e3 e4 R2 => ?_) fun _ _ z => z.push
    subst e3 e4
    refine tpairs_of σ l H2 (t2 :: t :: ts) cs2 τ2 _ (by simpa [evenB] using h) R2 (Res.mono r2 (fun ds s3 r3 us cs3 τ3 H3 e5 e6 R3 => ?_) fun _ _ z => z.push.push)
    refine r3 (t :: t2 :: us) cs3 τ3 H3 (by rw [T.ers, T.ers, e5]) e6 (R3.perm ?_)
    have : (us ++ (t2 :: t :: ts)).Perm (t2 :: t :: (us ++ ts)) := by
      refine List.perm_middle.trans (List.Perm.cons _ List.perm_middle)
    exact this.trans (List.Perm.swap _ _ _)
theorem evens_er : ∀ us : List T, evens (T.ers us) = (evens us).map T.er
  | [] => rfl
  | [_] => rfl
  | k :: v :: l => by simp only [T.ers, evens, List.map_cons, evens_er l]
theorem odds_er : ∀ us : List T, odds (T.ers us) = T.ers (odds us)
  | [] => rfl
  | [_] => rfl
  | k :: v :: l => by simp only [T.ers, odds, odds_er l]
theorem kof_kD {k : Key} : kof (kD k) = some k := by cases k <;> rfl
theorem kdis_inv : ∀ {l : List D}, kdis l = true → ∃ kl : List Key, l = kl.map kD ∧ kl.Nodup
  | [], _ => ⟨[], rfl, .nil⟩
  | k :: ks, h => by
    simp only [kdis, Bool.and_eq_true] at h
    obtain ⟨kl, rfl, hn⟩ := kdis_inv h.2
    obtain ⟨kk, hk⟩ := Option.isSome_iff_exists.mp h.1.1
    have ek : k = kD kk := by
      cases k <;> simp [kof] at hk <;> subst hk <;> rfl
    subst ek
    refine ⟨kk :: kl, rfl, List.nodup_cons.mpr ⟨fun hm => ?_, hn⟩⟩
    have := List.all_eq_true.mp h.1.2 (kD kk) (List.mem_map_of_mem hm)
    rw [kD_eqv kof_kD] at this
    simp at this
theorem evens_odds_len {α : Type} : ∀ l : List α, (evens l).length = (odds l).length
  | [] => rfl
  | [_] => rfl
  | k :: v :: l => by simp only [evens, odds, List.length_cons, evens_odds_len l]
theorem er_kD {t : T} {k : Key} (h : t.er = kD k) : t.val = kV k := by
  cases k with
  | inl i => rw [T.er_int h]; rfl
  | inr x => rw [T.er_str h]; rfl
theorem pairs_kvs : ∀ (us : List T) (kl : List Key), (evens us).map T.er = kl.map kD → pairsV us = (kl.zip ((odds us).map T.val)).map fun kv => (kV kv.1, kv.2)
  | [], kl, h => by cases kl <;> simp [evens] at h; rfl
  | [_], kl, h => by cases kl <;> simp [evens] at h; rfl
  | k :: v :: l, kl, h => by
    cases kl with
    | nil => simp [evens] at h
    | cons kk kl =>
      simp only [evens, List.map_cons, List.cons.injEq] at h
      simp only [pairsV, odds, List.map_cons, List.zip_cons_cons, pairs_kvs l kl h.2, er_kD h.1]
theorem merge_new : ∀ (kvs acc : List (Key × V)), (∀ k ∈ kvs.map (·.1), valV acc k = none) → (kvs.map (·.1)).Nodup → mergeK acc kvs = acc ++ kvs
  | [], acc, _, _ => by simp [mergeK]
  | p :: r, acc, h, hn => by
    have hn := List.nodup_cons.mp hn
    show mergeK (putK acc p.1 p.2) r = _
    rw [putK_new p.2 (h p.1 (by simp)), merge_new r _ (fun k hk => ?_) hn.2]
    · simp
    · rw [valV_snoc p.1 k p.2 acc (h p.1 (by simp)), if_neg]
      · exact h k (by simp only [List.map_cons, List.mem_cons]; exact .inr hk)
      · intro e; subst e; exact hn.1 hk
theorem odds_sums (a : Addr) : ∀ us : List T, T.exs (odds us) a ≤ T.exs us a ∧ T.shs (odds us) a ≤ T.shs us a
  | [] => ⟨Nat.le_refl _, Nat.le_refl _⟩
  | [_] => ⟨Nat.zero_le _, Nat.zero_le _⟩
  | k :: v :: l => by
    have := odds_sums a l
    simp only [odds, T.exs, T.shs]; omega
theorem evens_sums (a : Addr) : ∀ us : List T, T.exs (evens us) a ≤ T.exs us a ∧ T.shs (evens us) a ≤ T.shs us a
  | [] => ⟨Nat.le_refl _, Nat.le_refl _⟩
  | [_] => ⟨Nat.zero_le _, Nat.zero_le _⟩
  | k :: v :: l => by
    have := evens_sums a l
    simp only [evens, T.exs, T.shs]; omega
theorem odds_oks {K : KW} {H : Hp} {ad : List Addr} : ∀ us : List T, T.oks K H ad us → T.oks K H ad (odds us)
  | [], _ => trivial
  | [_], _ => trivial
  | k :: v :: l, h => ⟨h.2.1, odds_oks l h.2.2⟩
theorem evens_oks {K : KW} {H : Hp} {ad : List Addr} : ∀ us : List T, T.oks K H ad us → T.oks K H ad (evens us)
  | [], _ => trivial
  | [_], _ => trivial
  | k :: v :: l, h => ⟨h.1, evens_oks l h.2.2⟩
theorem flats_kD (kl : List Key) : D.flats (kl.map kD) = true := by
  induction kl with
  | nil => rfl
  | cons k kl ih => cases k <;> simp [kD, D.flats, D.flat, ih]
mutual
theorem D.kb_flat : ∀ (x : D) (n : Nat), D.kb n x = true → x.flat = true
  | .int _, n, _ => rfl | .str _, n, _ => rfl | .non, n, _ => rfl
  | .tup l, n, h => by
    cases n with
    | zero => simp [D.kb] at h
    | succ n => simp only [D.kb] at h; simp only [D.flat]; exact D.kbs_flat l n h
  | .bl _, n, h => rfl
  | .lst _ _, n, h => by cases n <;> simp [D.kb] at h
  | .scr _, n, h => by cases n <;> simp [D.kb] at h
  | .dct _ _ _, n, h => by cases n <;> simp [D.kb] at h
  | .set _ _, n, h => by cases n <;> simp [D.kb] at h
  | .ref _, n, h => by cases n <;> simp [D.kb] at h
theorem D.kbs_flat : ∀ (l : List D) (n : Nat), D.kbs n l = true → D.flats l = true
  | [], n, _ => rfl
  | x :: xs, n, h => by
    simp only [D.kbs, Bool.and_eq_true] at h
    simp only [D.flats, D.kb_flat x n h.1, D.kbs_flat xs n h.2, Bool.and_self]
end
theorem flats_t : ∀ (l : List D), l.all tkey = true → D.flats l = true
  | [], _ => rfl
  | x :: xs, h => by
    simp only [List.all_cons, Bool.and_eq_true] at h
    simp only [D.flats, D.kb_flat x 8 (tkey_kb h.1), flats_t xs h.2, Bool.and_self]
theorem tdis_inv : ∀ {l : List D}, tdis l = true → l.all tkey = true ∧ (l.map D.nk).Nodup
  | [], _ => ⟨rfl, .nil⟩
  | k :: ks, h => by
    simp only [tdis, Bool.and_eq_true] at h
    obtain ⟨h1, h2⟩ := tdis_inv h.2
    refine ⟨by simp only [List.all_cons, h.1.1, h1, Bool.and_self], List.nodup_cons.mpr ⟨fun hm => ?_, h2⟩⟩
    obtain ⟨j, hj, e⟩ := List.mem_map.mp hm
    have z := List.all_eq_true.mp h.1.2 j hj
    rw [tkey_eqv h.1.1 (List.all_eq_true.mp h1 j hj)] at z
    simp [e] at z
theorem e_dct {keys : List (Option Expr)} {values : List Expr} (h : PPs X pos keys values (trsOf P ces)) (hall : keys.all (·.isSome) = true) (hl : keys.length = values.length) (h0 : keys ≠ []) (h15 : keys.length ≤ 15) (he : evenB ces = true) :
    PE X (.Dict keys values pos) (tE P (.dct ces)) := by
  refine PE_imp (pe_disp h hall hl h0 h15) fun σ H Q ⟨ts, cs, τ, R, r⟩ p hp => ?_
  simp only [ev, Res.bind] at r
  have R1 : Rel P σ (upd H p (.dK [])) (.dct true p [] [] :: ts) cs τ := R.with (Sat.alloc (ts := []) (t := .dct true p [] []) R.sat hp ⟨.inl ⟨[], rfl, rfl, upd_same⟩, trivial, trivial, rfl⟩ (fun a => by simp [T.ex, T.exs]) fun a => by simp [T.sh, T.shs])
  refine tpairs_of σ ces _ _ cs τ _ he R1 (Res.mono r (fun ds s1 r1 us cs1 τ1 H1 e1 e2 R2 => ?_) fun _ _ z => z.push)
  subst e1 e2
  split at r1
  · rename_i hc
    obtain ⟨c1, c2⟩ := hc
    rw [evens_er] at c1 c2 r1
    obtain ⟨kl, ek, kn⟩ := kdis_inv c2
    have S2 := R2.sat
    rw [List.append_assoc] at S2
    have o := T.oks_append.mp S2.ofr
    have f3 : H1 p = some (.dK []) := by
      rcases o.2.1.1 with ⟨kl0, f1, f2, f3⟩ | ⟨f1, _⟩
      · obtain rfl : kl0 = [] := by cases kl0 <;> simp at f2; rfl
        exact f3
      · exact absurd rfl f1
    have hlen : kl.length = (odds us).length := by
      have : kl.length = ((evens us).map T.er).length := by rw [ek, List.length_map]
      rw [this, List.length_map, evens_odds_len]
    have hk1 : (kl.zip ((odds us).map T.val)).map (·.1) = kl := by
      rw [List.map_fst_zip]; simp [hlen]
    refine ⟨f3, _, pairs_kvs us kl ek, ?_, ?_⟩
    · rw [List.length_zip]
      have : kl.length ≤ 15 := by rw [ek, List.length_map] at c1; exact c1
      omega
    · rw [merge_new _ [] (fun _ _ => rfl) (by rw [hk1]; exact kn), List.nil_append]
      have hc0 : ∀ a, one p a + T.exs [] a ≤ (T.dct true p [] []).ex a ∧ T.shs [] a ≤ (T.dct true p [] []).sh a := fun a => by simp only [T.ex, T.exs, T.shs, T.sh, ↓reduceIte]; omega
      have oo := Sat.aside (p := p) (t0 := .dct true p [] []) (l0 := []) (l := odds us) (.dK (kl.zip ((odds us).map T.val))) S2 (by simp [T.ex, one]) hc0 (odds_oks us o.1) fun a => by
        have := odds_sums a us; simp only [T.exs, T.shs]; omega
      have ok := Sat.aside (p := p) (t0 := .dct true p [] []) (l0 := []) (l := evens us) (.dK (kl.zip ((odds us).map T.val))) S2 (by simp [T.ex, one]) hc0 (evens_oks us o.1) fun a => by
        have := evens_sums a us; simp only [T.exs, T.shs]; omega
      have ek' : T.ers (evens us) = kl.map kD := by rw [T.ers_map]; exact ek
      refine r1 (.dct true p (evens us) (odds us)) cs1 τ1 _ ?_ rfl (R2.with (Sat.redo (t1 := .dct true p (evens us) (odds us)) S2 (by simp [T.ex, one]) ⟨.inl ⟨kl, ek', by rw [List.length_map, hlen], upd_same⟩, oo, ok, by rw [ek']; exact flats_kD kl⟩ fun a => ?_))
      · rw [T.er, ← T.ers_map, odds_er]
      · have := odds_sums a us; simp only [T.ex, T.exs, T.sh, T.shs, ↓reduceIte]; omega
  · exact r1.elim
theorem pairs_t : ∀ us : List T, pairsV us = ((evens us).map T.val).zip ((odds us).map T.val)
  | [] => rfl
  | [_] => rfl
  | k :: v :: l => by simp only [pairsV, evens, odds, List.map_cons, List.zip_cons_cons, pairs_t l]
theorem e_dctT {keys : List (Option Expr)} {values : List Expr} (hK : X.K = P.K.f) (hW : X.prog = P.K.p ∧ X.w = P.K.w) (hu : X.A.units + 10 < cLine) (h : PPs X pos keys values (trsOf P ces)) (hall : keys.all (·.isSome) = true) (hl : keys.length = values.length) (h0 : keys ≠ []) (h15 : keys.length ≤ 15) (he : evenB ces = true) :
    PE X (.Dict keys values pos) (tE P (.dctT ces)) := by
  refine PE_imp (pe_dispT hK hW hu h hall hl h0 h15) fun σ H Q ⟨ts, cs, τ, R, r⟩ p hp => ?_
  simp only [ev, Res.bind] at r
  have R1 : Rel P σ (upd H p (.dK [])) (.dct true p [] [] :: ts) cs τ := R.with (Sat.alloc (ts := []) (t := .dct true p [] []) R.sat hp ⟨.inl ⟨[], rfl, rfl, upd_same⟩, trivial, trivial, rfl⟩ (fun a => by simp [T.ex, T.exs]) fun a => by simp [T.sh, T.shs])
  refine tpairs_of σ ces _ _ cs τ _ he R1 (Res.mono r (fun ds s1 r1 us cs1 τ1 H1 e1 e2 R2 => ?_) fun _ _ z => z.push)
  subst e1 e2
  split at r1
  · rename_i hc
    obtain ⟨c1, c2, c3⟩ := hc
    rw [evens_er, ← T.ers_map] at c1 c2 c3 r1
    obtain ⟨tk, nd⟩ := tdis_inv c3
    have S2 := R2.sat
    rw [List.append_assoc] at S2
    have o := T.oks_append.mp S2.ofr
    have f3 : H1 p = some (.dK []) := by
      rcases o.2.1.1 with ⟨kl0, f1, f2, f3⟩ | ⟨f1, _⟩
      · obtain rfl : kl0 = [] := by cases kl0 <;> simp at f2; rfl
        exact f3
      · exact absurd rfl f1
    have hlen : (evens us).length = ((odds us).map T.val).length := by rw [List.length_map, evens_odds_len]
    have h15' : ((odds us).map T.val).length ≤ 15 := by rw [← hlen]; simpa using c2
    refine ⟨f3, evens us, (odds us).map T.val, ads cs1, pairs_t us, hlen, h15', evens_oks us o.1, tk, nd, ?_⟩
    have hc0 : ∀ a, one p a + T.exs [] a ≤ (T.dct true p [] []).ex a ∧ T.shs [] a ≤ (T.dct true p [] []).sh a := fun a => by simp only [T.ex, T.exs, T.shs, T.sh, ↓reduceIte]; omega
    have oo := Sat.aside (p := p) (t0 := .dct true p [] []) (l0 := []) (l := odds us) (RawO P.K.p P.K.w p ((T.ers (evens us)).map D.nk) ((evens us).map T.adr) ((odds us).map T.val)) S2 (by simp [T.ex, one]) hc0 (odds_oks us o.1) fun a => by
      have := odds_sums a us; simp only [T.exs, T.shs]; omega
    have ok := Sat.aside (p := p) (t0 := .dct true p [] []) (l0 := []) (l := evens us) (RawO P.K.p P.K.w p ((T.ers (evens us)).map D.nk) ((evens us).map T.adr) ((odds us).map T.val)) S2 (by simp [T.ex, one]) hc0 (evens_oks us o.1) fun a => by
      have := evens_sums a us; simp only [T.exs, T.shs]; omega
    refine r1 (.dct true p (evens us) (odds us)) cs1 τ1 _ ?_ rfl (R2.with (Sat.redo (t1 := .dct true p (evens us) (odds us)) S2 (by simp [T.ex, one]) ⟨.inr ⟨?_, hlen, tk, nd, upd_same⟩, oo, ok, flats_t _ tk⟩ fun a => ?_))
    · rw [T.er, odds_er]
    · intro z; rw [z] at c1; simp [T.ers] at c1
    · have := odds_sums a us; simp only [T.ex, T.exs, T.sh, T.shs, ↓reduceIte]; omega
  · exact r1.elim
theorem pp_nil : PPs X pos [] [] (trsOf P []) := pps_nil
theorem pp_cons {ks : List (Option Expr)} {vs : List Expr} (ha : PE X a (tE P ca)) (hb : PE X b (tE P cb)) (h : PPs X pos ks vs (trsOf P ces)) : PPs X pos (some a :: ks) (b :: vs) (trsOf P (ca :: cb :: ces)) := pps_cons ha hb h
/-! x.append(e), x.extend(e), x[i] = e -/
theorem isL_inv {d : Option D} (h : isL d = true) : ∃ o l, d = some (.lst o l) := by
  unfold isL at h
  split at h
  · exact ⟨_, _, rfl⟩
  · cases h
theorem s_app {n : Nat} {y : Str} {p2 apos cpos : Pos} (hN : X.N[n]? = some y) (hv : Vis X.env.scope y) (hd : (y == ("__debug__" : Str)) = false) (hcd : (y == ("__classdict__" : Str)) = false) (he : PE X e (tE P ce)) (hst : isStar e = false)
    (hline : (apos.endLine == cpos.line) = true) (hbase : attributeBase (.Name y p2) "append" X.env (eval (.Name y p2) X.env) = eval (.Name y p2) X.env)
    (hfew : ((backTo cpos (starEach [e] X.env)).all (fun x => !x.1) && (backToKw cpos (keywordEach [] X.env)).all (fun x => x.1.isSome)
      && decide ([e].length + ([] : List Keyword).length + (if ([] : List Keyword).isEmpty then 0 else 1) < 30)) = true)
    (hs : swapsWith (.Call (.Attribute (.Name y p2) "append" apos) [e] [] cpos) none pos.line X.env = pure false) :
    PS X (.Expr (.Call (.Attribute (.Name y p2) "append" apos) [e] [] cpos) pos) (tS P (.app n ce)) := by
  refine PS_imp (ps_expr (pe_bm PySem.F.plainAttrs_list PySem.F.slot_list_append (by first | rfl | exact typeOf_builtin _) mt_append (pe_var hN hv hd hcd) (pa_cons he pa_nil (star_of hst)) hbase hfew hline (star_of hst) rfl) hs) fun F σ H ⟨ts, cs, τ, R, r⟩ => ?_
  simp only [exec] at r
  split at r
  · rename_i hL
    obtain ⟨o0, l0, h0⟩ := isL_inv hL
    rw [show (stt cs τ).r = ero τ from rfl, gt_ero] at h0
    obtain ⟨t0, ht0, et0⟩ := Option.map_eq_some_iff.mp h0
    obtain ⟨p0, m0, rfl, _⟩ := T.er_lst et0
    have v0 := R.val n _ ht0
    have k0 := R.sat.osl _ (gt_mem ht0)
    refine ⟨_, v0, .inl ⟨rfl, _, SqL.of k0.1⟩, ts, cs, τ, R, ?_⟩
    rw [Res.bind] at r
    refine Res.mono r (fun d s1 r1 t cs1 τ1 H1 e1 e2 R1 => ?_) fun _ _ z => z
    subst e1 e2
    rw [show (stt cs1 τ1).r = ero τ1 from rfl, gt_ero] at r1
    cases ht : gt τ1 n with
    | none => rw [ht] at r1; exact r1.elim
    | some t1 =>
      rw [ht] at r1
      simp only [Option.map_some] at r1
      split at r1
      · rename_i l hl
        obtain ⟨p1, l1, rfl, rfl⟩ := T.er_lst (Option.some.inj hl)
        split at r1
        · rename_i hz
          rw [T.ers_length] at hz
          have v1 := R1.val n _ ht
          rw [v0] at v1
          have ep : p0 = p1 := by simpa [T.val] using v1
          subst ep
          have k1 := R1.sat.osl _ (gt_mem ht)
          refine ⟨p0, l1.map T.val, t.val, rfl, rfl, k1.1, by rw [List.length_map]; exact hz, ?_⟩
          have S := Sat.change (ts := [t]) (l' := l1 ++ [t]) R1.sat ht (T.oks_append.mpr ⟨k1.2, R1.okh, trivial⟩) (fun a => by simp only [T.exs_append, T.exs]; omega) fun a => by simp only [T.shs_append, T.shs]; omega
          rw [List.map_append] at S
          refine r1 σ cs1 (τ1.set n (some (.lst true p0 (l1 ++ [t])))) _ (by simp [stt, ero_set, T.er, T.ers_append, T.ers]) ⟨S, by rw [List.length_set]; exact R1.len, fun j u hj => ?_, fun j u hj hp => ?_⟩
          · rw [gt_set] at hj
            split at hj
            · rename_i hc
              cases hj
              rw [← hc.1]
              exact v0
            · exact R1.val j u hj
          · rw [gt_set] at hj
            split at hj
            · rename_i hc
              have := R1.pla n _ ht (hc.1 ▸ hp)
              simp [T.er, D.isz] at this
            · exact R1.pla j u hj hp
        · exact r1.elim
      · exact r1.elim
  · exact r.elim
theorem s_ext {n : Nat} {y : Str} {p2 apos cpos : Pos} (hN : X.N[n]? = some y) (hv : Vis X.env.scope y) (hd : (y == ("__debug__" : Str)) = false) (hcd : (y == ("__classdict__" : Str)) = false) (he : PE X e (tE P ce)) (hst : isStar e = false)
    (hline : (apos.endLine == cpos.line) = true) (hbase : attributeBase (.Name y p2) "extend" X.env (eval (.Name y p2) X.env) = eval (.Name y p2) X.env)
    (hfew : ((backTo cpos (starEach [e] X.env)).all (fun x => !x.1) && (backToKw cpos (keywordEach [] X.env)).all (fun x => x.1.isSome)
      && decide ([e].length + ([] : List Keyword).length + (if ([] : List Keyword).isEmpty then 0 else 1) < 30)) = true)
    (hs : swapsWith (.Call (.Attribute (.Name y p2) "extend" apos) [e] [] cpos) none pos.line X.env = pure false) :
    PS X (.Expr (.Call (.Attribute (.Name y p2) "extend" apos) [e] [] cpos) pos) (tS P (.ext n ce)) := by
  refine PS_imp (ps_expr (pe_bm PySem.F.plainAttrs_list PySem.F.slot_list_extend (by first | rfl | exact typeOf_builtin _) mt_extend (pe_var hN hv hd hcd) (pa_cons he pa_nil (star_of hst)) hbase hfew hline (star_of hst) rfl) hs) fun F σ H ⟨ts, cs, τ, R, r⟩ => ?_
  simp only [exec] at r
  split at r
  · rename_i hL
    obtain ⟨o0, l0, h0⟩ := isL_inv hL
    rw [show (stt cs τ).r = ero τ from rfl, gt_ero] at h0
    obtain ⟨t0, ht0, et0⟩ := Option.map_eq_some_iff.mp h0
    obtain ⟨p0, m0, rfl, _⟩ := T.er_lst et0
    have v0 := R.val n _ ht0
    have k0 := R.sat.osl _ (gt_mem ht0)
    refine ⟨_, v0, .inl ⟨rfl, _, SqL.of k0.1⟩, ts, cs, τ, R, ?_⟩
    rw [Res.bind] at r
    refine Res.mono r (fun d s1 r1 t cs1 τ1 H1 e1 e2 R1 => ?_) fun _ _ z => z
    subst e2
    rw [show (stt cs1 τ1).r = ero τ1 from rfl, gt_ero] at r1
    cases ht : gt τ1 n with
    | none => rw [ht] at r1; exact r1.elim
    | some t1 =>
      rw [ht] at r1
      simp only [Option.map_some] at r1
      split at r1
      · rename_i l o2 l2 hl
        obtain ⟨p1, l1, rfl, rfl⟩ := T.er_lst (Option.some.inj hl)
        obtain ⟨p2, m2, rfl, rfl⟩ := T.er_lst e1
        split at r1
        · rename_i hz
          rw [T.ers_length, T.ers_length] at hz
          have v1 := R1.val n _ ht
          rw [v0] at v1
          have ep : p0 = p1 := by simpa [T.val] using v1
          subst ep
          have k1 := R1.sat.osl _ (gt_mem ht)
          refine ⟨p0, p2, l1.map T.val, m2.map T.val, rfl, rfl, k1.1, R1.okh.1, by rw [List.length_map, List.length_map]; exact hz, ?_⟩
          have S := Sat.change (ts := [.lst o2 p2 m2]) (l' := l1 ++ m2) R1.sat ht (T.oks_append.mpr ⟨k1.2, R1.okh.2⟩) (fun a => by simp only [T.exs_append, T.exs, T.ex]; omega) fun a => by simp only [T.shs_append, T.shs, T.sh]; omega
          rw [List.map_append] at S
          refine r1 σ cs1 (τ1.set n (some (.lst true p0 (l1 ++ m2)))) _ (by simp [stt, ero_set, T.er, T.ers_append]) ⟨S, by rw [List.length_set]; exact R1.len, fun j u hj => ?_, fun j u hj hp => ?_⟩
          · rw [gt_set] at hj
            split at hj
            · rename_i hc
              cases hj
              rw [← hc.1]
              exact v0
            · exact R1.val j u hj
          · rw [gt_set] at hj
            split at hj
            · rename_i hc
              have := R1.pla n _ ht (hc.1 ▸ hp)
              simp [T.er, D.isz] at this
            · exact R1.pla j u hj hp
        · exact r1.elim
      · exact r1.elim
  · exact r.elim
/-- x[i] = e, x a name of the def: an owned list of it, or a box -/
theorem ixn_ixN {n : Nat} {i : Int} : ixn n i = ixN n i := rfl
theorem s_seti {n : Nat} {y : Str} {p2 tpos : Pos} (hN : X.N[n]? = some y) (hv : Vis X.env.scope y) (hd : (y == ("__debug__" : Str)) = false) (hcd : (y == ("__classdict__" : Str)) = false) (hi : PE X a (tE P ca)) (he : PE X e (tE P ce))
    (ha : ∀ v, assign (.Subscript (.Name y p2) a tpos) X.env v = (do
      let ov ← holding [v] (eval (.Name y p2) X.env)
      let iv ← holding [v, ov] (eval a X.env)
      standAt tpos
      holding [v, ov, iv] (setItem ov iv v)
      release [v, ov, iv] []))
    (hs : swapsWithSole [.Subscript (.Name y p2) a tpos] e pos.line X.env = pure false) (hw : swappedStores [.Subscript (.Name y p2) a tpos] e X.env = pure none) (h1 : (assignEach [.Subscript (.Name y p2) a tpos] X.env).map (·.2) = [assign (.Subscript (.Name y p2) a tpos) X.env]) :
    PS X (.Assign [.Subscript (.Name y p2) a tpos] e pos) (tS P (.seti n ca ce)) := by
  refine PS_imp (ps_asg he (pg_sub (pe_var hN hv hd hcd) hi set_list ha) hs hw h1) fun F σ H ⟨ts, cs, τ, R, r⟩ => ⟨ts, cs, τ, R, ?_⟩
  simp only [exec, Res.bind] at r
  refine Res.mono r (fun d s1 r1 t cs1 τ1 H1 e1 e2 R1 => ?_) fun _ _ z => z
  subst e1 e2
  obtain ⟨d0, h0, r2⟩ := Res.of.mp r1
  rw [show (stt cs1 τ1).r = ero τ1 from rfl, gt_ero] at h0
  obtain ⟨t0, ht0, rfl⟩ := Option.map_eq_some_iff.mp h0
  have v0 := R1.val n _ ht0
  refine ⟨_, v0, t :: ts, cs1, τ1, R1, Res.mono r2 (fun k s2 r3 t2 cs2 τ2 H2 e3 e4 R2 => ?_) fun _ _ z => z.push⟩
  subst e3 e4
  obtain ⟨s3, hs3, r4⟩ := Res.of.mp r3
  unfold stix at hs3
  obtain ⟨d1, hd1, hs4⟩ := Option.bind_eq_some_iff.mp hs3
  rw [show (stt cs2 τ2).r = ero τ2 from rfl, gt_ero] at hd1
  obtain ⟨t1, ht1, rfl⟩ := Option.map_eq_some_iff.mp hd1
  have v1 := R2.val n _ ht1
  rw [v0] at v1
  have ev1 : t0.val = t1.val := by simpa using v1
  have R3 := R2.drop
  split at hs4
  · rename_i l kk hl hk
    obtain ⟨p1, l1, rfl, rfl⟩ := T.er_lst hl
    obtain rfl := T.er_int hk
    obtain ⟨j, hj, rfl⟩ := Option.map_eq_some_iff.mp hs4
    rw [T.ers_length] at hj
    have k1 := R2.sat.osl _ (gt_mem ht1)
    have hjl : j < l1.length := (ixN_seq (show ixN l1.length kk = some j from hj)).2.1
    refine ⟨p1, l1.map T.val, kk, j, ev1, rfl, k1.1, by rw [List.length_map]; exact hj, ?_⟩
    have S := Sat.change (ts := [t]) (l' := l1.set j t) R3.sat ht1 (oks_set k1.2 R3.okh) (fun a => by have := exs_set (t := t) a hjl; simp only [T.exs]; omega) fun a => by have := shs_set (t := t) a hjl; simp only [T.shs]; omega
    rw [vals_set] at S
    refine r4 σ cs2 (τ2.set n (some (.lst true p1 (l1.set j t)))) _ (by simp [stt, ero_set, T.er, ers_set]) ⟨S, by rw [List.length_set]; exact R3.len, fun i u hi => ?_, fun i u hi hp => ?_⟩
    · rw [gt_set] at hi
      split at hi
      · rename_i hc
        cases hi
        rw [← hc.1, v0, ev1]; rfl
      · exact R3.val i u hi
    · rw [gt_set] at hi
      split at hi
      · rename_i hc
        have := R3.pla n _ ht1 (hc.1 ▸ hp)
        simp [T.er, D.isz] at this
      · exact R3.pla i u hi hp
  · rename_i b kk hb hk
    obtain ⟨p1, rfl⟩ := T.er_ref hb
    obtain rfl := T.er_int hk
    obtain ⟨l, hl, hs5⟩ := Option.bind_eq_some_iff.mp hs4
    obtain ⟨j, hj, rfl⟩ := Option.map_eq_some_iff.mp hs5
    obtain ⟨g, hg, rfl⟩ := box_inv hl
    rw [T.ers_length] at hj
    have hjl : j < g.l.length := (ixN_seq (show ixN g.l.length kk = some j from hj)).2.1
    have k1 := R2.sat.osl _ (gt_mem ht1)
    have ea := ads_get hg k1
    have og := R2.sat.ocs g (List.mem_of_getElem? hg)
    refine ⟨p1, g.l.map T.val, kk, j, ev1, rfl, ea ▸ og.1, by rw [List.length_map]; exact hj, ?_⟩
    have R4 := R3.freeze
    have S := Sat.setBox (t := t.fz) (j := j) R4.sat hg hjl (by rw [T.er_fz]; exact D.isz_fz _)
    rw [vals_set, T.val_fz, ea] at S
    refine r4 σ _ τ2 _ ?_ (R4.with S)
    simp only [stt, erc, List.map_set, G.er, ers_set, T.er_fz]
  · cases hs4
/-! x.index(y) -/
theorem idxD_inv {x y d : D} (h : idxD x y = some d) : ∃ o l n, x = .lst o l ∧ D.okds 59 l = true ∧ D.cmpb y = true ∧ d = .int (n : Nat) ∧ (∃ z, l[n]? = some z ∧ D.eqv z y = true) ∧ ∀ m z, m < n → l[m]? = some z → D.eqv z y = false := by
  unfold idxD at h
  split at h
  · rename_i o l
    split at h
    · rename_i hc
      simp only [Bool.and_eq_true] at hc
      obtain ⟨n, hn, rfl⟩ := Option.map_eq_some_iff.mp h
      obtain ⟨h1, h2, h3⟩ := List.findIdx?_eq_some_iff_getElem.mp hn
      refine ⟨o, l, n, rfl, hc.1, hc.2, rfl, ⟨_, List.getElem?_eq_getElem h1, h2⟩, fun m z hm hz => ?_⟩
      obtain ⟨hm2, rfl⟩ := List.getElem?_eq_some_iff.mp hz
      have := h3 m hm
      simpa using this
    · cases h
  · cases h
theorem pds_get (l : List D) (i : Nat) : (D.pds l)[i]? = (l[i]?).map D.pd := by rw [D.pds_map, List.getElem?_map]
theorem e_idx (hK : X.K = P.K.f) (hu : X.A.units + 150 < cLine) {apos cpos : Pos} (ha : PE X a (tE P ca)) (he : PE X e (tE P ce)) (hst : isStar e = false)
    (hline : (apos.endLine == cpos.line) = true) (hbase : attributeBase a "index" X.env (eval a X.env) = eval a X.env)
    (hfew : ((backTo cpos (starEach [e] X.env)).all (fun x => !x.1) && (backToKw cpos (keywordEach [] X.env)).all (fun x => x.1.isSome)
      && decide ([e].length + ([] : List Keyword).length + (if ([] : List Keyword).isEmpty then 0 else 1) < 30)) = true) :
    PE X (.Call (.Attribute a "index" apos) [e] [] cpos) (tE P (.idx ca ce)) := by
  refine PE_imp (pe_bm PySem.F.plainAttrs_list PySem.F.slot_list_index (by first | rfl | exact typeOf_builtin _) (mt_indexD (by omega)) ha (pa_cons he pa_nil (star_of hst)) hbase hfew hline (star_of hst) rfl) fun σ H Q ⟨ts, cs, τ, R, r⟩ => ⟨ts, cs, τ, R, ?_⟩
  simp only [ev, Res.bind] at r
  refine Res.mono r (fun d s1 r1 t cs1 τ1 H1 e1 e2 R1 => ?_) fun _ _ z => z
  subst e1 e2
  split at r1
  · rename_i hL
    obtain ⟨o0, l0, h0⟩ := isL_inv hL
    obtain ⟨p, l, rfl, _⟩ := T.er_lst (Option.some.inj h0)
    refine ⟨.inl ⟨rfl, _, SqL.of R1.okh.1⟩, _, cs1, τ1, R1, ?_⟩
    rw [Res.bind] at r1
    refine Res.mono r1 (fun d2 s2 r2 t2 cs2 τ2 H2 e3 e4 R2 => ?_) fun _ _ z => z.push
    subst e3 e4
    obtain ⟨dn, hd, r3⟩ := Res.of.mp r2
    obtain ⟨o, l', n, hl, c1, c2, rfl, ⟨z, hz, hz2⟩, hno⟩ := idxD_inv hd
    simp only [T.er, D.lst.injEq] at hl
    obtain ⟨_, rfl⟩ := hl
    have o1 := R2.drop.okh
    have sh : SeqAt.shaped (.list (D.pds (T.ers l))) = true := by
      have : D.cmpb (.lst true (T.ers l)) = true := by simpa [D.cmpb, D.okd] using c1
      exact D.shaped (x := .lst true (T.ers l)) this
    refine ⟨p, t2.val, t2.er.pd, D.pds (T.ers l), n, z.pd, rfl, rfl, .lst (SqL.of o1.1) (hK ▸ T.dps l 59 o1.2 c1), hK ▸ T.dp t2 60 R2.okh c2, sh, D.shaped c2, by rw [pds_get, hz]; rfl, by rw [D.eqv_pd]; exact hz2, fun m z' hm hz' => ?_, ?_⟩
    · rw [pds_get] at hz'
      obtain ⟨w, hw, rfl⟩ := Option.map_eq_some_iff.mp hz'
      rw [D.eqv_pd]
      exact hno m w hm hw
    · exact r3 (.int n) cs2 τ2 H2 rfl rfl (R2.drop.drop.int _)
  · exact r1.elim
/-! x[::-1] -/
theorem revs_sum (a : Addr) : ∀ l : List T, T.exs l.reverse a = T.exs l a ∧ T.shs l.reverse a = T.shs l a
  | [] => ⟨rfl, rfl⟩
  | x :: xs => by
    have := revs_sum a xs
    simp only [List.reverse_cons, T.exs_append, T.shs_append, T.exs, T.shs]; omega
theorem rev_pick (xs : Array Value) : ((List.range xs.size).filterMap fun (k : Nat) => xs[(((xs.size : Int) - 1) + (k : Int) * (-1)).toNat]?).toArray = xs.toList.reverse.toArray := by
  have e : (List.range xs.size).filterMap (fun (k : Nat) => xs[(((xs.size : Int) - 1) + (k : Int) * (-1)).toNat]?) = ((List.range xs.size).map fun k => xs.size - 1 - k).filterMap (xs[·]?) := by
    rw [List.filterMap_map]
    have cg : ∀ (l : List Nat) (f g : Nat → Option Value), (∀ k ∈ l, f k = g k) → l.filterMap f = l.filterMap g := fun l f g h => by
      induction l with
      | nil => rfl
      | cons x l ih => rw [List.filterMap_cons, List.filterMap_cons, h x (by simp), ih fun k hk => h k (by simp [hk])]
    refine cg _ _ _ fun k hk => ?_
    have := List.mem_range.mp hk
    have e2 : (((xs.size : Int) - 1) + (k : Int) * (-1)).toNat = xs.size - 1 - k := by omega
    rw [e2]; rfl
  rw [e, PySem.W.krv_range, List.filterMap_reverse, PySem.W.krv_all]
theorem getItem_tuple_rev {A : Around} {E : Value → Shared → Prop} {prog : Program} {w : World} {s : Shared} {t sl : Addr} {items : Array Value} {vl vu vs : Value} {Q : Value → Shared → Prop} (ht : PyProof.Rows.IsTup s.heap t items) (hs : s.heap.IsSliceOf sl vl vu vs) (pl : IsPart vl none) (pu : IsPart vu none) (ps : IsPart vs (some (-1)))
    (h : Q (.ref s.heap.objs.size) { s with heap := s.heap.push { cls := .type "tuple", data := .seq items.toList.reverse.toArray } }) (hsz : items.size ≤ sizeLine) :
    wpAny (model prog w) A (getItem (.ref t) (.ref sl)) Q E s := by
  have htake : sizeOk (.seq items.toList.reverse.toArray) := by
    show items.toList.reverse.toArray.size ≤ sizeLine
    simpa using hsz
  obtain ⟨os, hos, hcs, hds⟩ := id hs
  have hTs : s.TypeIs (.ref sl) "slice" := ⟨os, hos, hcs⟩
  unfold getItem
  refine wpAny_holding ?_
  refine wpAny_bind (wpAny_sequenceKey ht.typeIs (by decide) (wpAny_bind (wpAny_callSpecial?_slot (name := Str.ofString "__getitem__") ht.typeIs PyProof.Rows.slot_tuple_getitem (wpAny_call_entry PyProof.Rows.slot_tuple_getitem ht.typeIs PyProof.Rows.entry_tuple_getitem ?_ (PyProof.Rows.args_tuple_getitem _ _)))))
  show wpAny _ _ (Builtin.Tuple.tupleItemsOf (.ref t) >>= _) _ _ s
  refine wpAny_bind (PyProof.Rows.tupleItemsOf_ ht (wpAny_bind (wpAny_typeOf hTs ?_)))
  rw [if_pos (by decide)]
  refine wpAny_bind ?_
  unfold Builtin.Slice.sliceApplied Builtin.Slice.sliceFields
  refine wpAny_bind (wpAny_bind (wpAny_field hos hds (x := vl) rfl (wpAny_bind (wpAny_field hos hds (x := vu) rfl (wpAny_bind (wpAny_field hos hds (x := vs) rfl (wpAny_pure ?_)))))))
  refine wpAny_bind (HT.slicePart_ ps ?_)
  show wpAny _ _ (if ((-1 : Int) == 0) = true then _ else _) _ _ s
  rw [if_neg (by decide)]
  refine wpAny_bind (HT.slicePart_ pl (wpAny_bind (HT.slicePart_ pu (wpAny_bind (wpAny_pure ?_)))))
  have e1 : Builtin.Slice.sliceAdjust none none (-1) (items.size : Int) = ((items.size : Int) - 1, -1) := rfl
  have e2 : Builtin.Slice.slicePlaces ((items.size : Int) - 1) (-1) (-1) = items.size := by
    unfold Builtin.Slice.slicePlaces
    rw [if_neg (by decide), show (-(-1) : Int) = 1 by decide, Int.ediv_one]
    split <;> omega
  show wpAny _ _ (match Builtin.Slice.sliceAdjust none none (-1) (items.size : Int) with | (lo, hi) => pure (lo, (-1 : Int), Builtin.Slice.slicePlaces lo hi (-1))) _ _ s
  rw [e1]
  show wpAny _ _ (pure ((items.size : Int) - 1, (-1 : Int), Builtin.Slice.slicePlaces ((items.size : Int) - 1) (-1) (-1))) _ _ s
  rw [e2]
  refine wpAny_pure ?_
  show wpAny _ _ (if (((items.size : Int) - 1 == 0 && (-1 : Int) == 1) && items.size == items.size) = true then _ else _) _ _ s
  rw [if_neg (by simp), rev_pick]
  first
    | exact wpAny_bind (m := Builtin.Tuple.tupleExact _) (wpAny_newObj_type (wpAny_pure ⟨_, rfl, wpAny_pure h⟩) htake)
    | exact wpAny_bind (m := Builtin.Tuple.tupleExact _) (wpAny_newObj_type (wpAny_bind (wpAny_pure (wpAny_pure ⟨_, rfl, wpAny_pure h⟩))) htake)
    | exact wpAny_bind (wpAny_bind (m := Builtin.Tuple.tupleExact _) (wpAny_newObj_type (wpAny_pure (wpAny_pure ⟨_, rfl, wpAny_pure h⟩)) htake))
    | exact wpAny_bind (wpAny_bind (m := Builtin.Tuple.tupleExact _) (wpAny_newObj_type (wpAny_pure ⟨_, rfl, wpAny_pure h⟩) htake))
/-- x[::-1] of a list, of a tuple -/
def tRevB (K : PySem.W.Frag) (te : TE) : TE := fun σ H Q => te σ H fun x H1 => (∃ a xs, x = .ref a ∧ SqL K H1 a xs ∧ ∀ p, H1 p = none → Q (.ref p) (upd H1 p (.lst xs.reverse))) ∨ ∃ a xs, x = .ref a ∧ SqT K H1 a xs ∧ ∀ p, H1 p = none → Q (.ref p) (upd H1 p (.tup xs.reverse))
theorem pe_revB {e : Expr} {te : TE} {k : Nat} {p1 p2 p3 pos : Pos} (he : PE X e te) : PE X (.Subscript e (.Slice none none (some (.UnaryOp .USub (.Constant (.int 1) k p1) p2)) p3) pos) (tRevB X.K te) := by
  refine ⟨fun pins s σ H Q I h => ?_⟩
  refine PyProof.Rows.Subscript_ (thn (he.run pins s σ H _ I h) fun v s1 ⟨x, H1, I1, r1, q1⟩ => ?_)
  have hst : PO X (some (.UnaryOp .USub (.Constant (.int 1) k p1) p2)) (tPart (tUn (rU fun i => .int (-i)) (tC (.int 1)))) := po_some (pe_un un_neg pe_int)
  have sl : ∃ a : Addr, v = .ref a := by
    rcases q1 with ⟨a, xs, ex, _⟩ | ⟨a, xs, ex, _⟩ <;> (subst ex; exact ⟨a, r1⟩)
  refine wpAny_Slice (thn (po_none.run pins s1 σ H1 (fun o H2 => o = none ∧ H2 = H1) I1 ⟨rfl, rfl⟩) fun vl s2 ⟨l, H2, I2, pl, el, e2⟩ => ?_)
  subst el e2
  refine thn (po_none.run pins s2 σ H2 (fun o H3 => o = none ∧ H3 = H2) I2 ⟨rfl, rfl⟩) fun vu s3 ⟨u, H3, I3, pu, eu, e3⟩ => ?_
  subst eu e3
  refine thn (hst.run pins s3 σ H3 (fun o H4 => o = some (-1) ∧ H4 = H3) I3 ⟨1, rfl, -1, rfl, rfl, rfl⟩) fun vs s4 ⟨o, H4, I4, ps, eo, e4⟩ => ?_
  subst eo e4
  have I5 : Inv X pins σ H4 { s4 with heap := s4.heap.push { cls := .type "slice", data := .fields #[vl, vu, vs] } } := I4.kept (t' := s4.toks) fun b ob q => Heap.get?_push_of_some _ q
  rcases q1 with ⟨a, xs, ex, hx, q⟩ | ⟨a, xs, ex, hx, q⟩
  · subst ex
    cases r1
    obtain ⟨its, r, ht, hz⟩ := I5.list hx
    have hlen := r.length
    show wpAny (model X.prog X.w) X.A (PyProof.Rows.subscriptTail e (.Slice none none (some (.UnaryOp .USub (.Constant (.int 1) k p1) p2)) p3) (.ref a) (.ref s4.heap.objs.size)) (EP X pins σ Q) X.xe { s4 with heap := s4.heap.push { cls := .type "slice", data := .fields #[vl, vu, vs] } }
    refine PyProof.Rows.tail_any (ops := [.ref a, .ref s4.heap.objs.size]) ht.isList.typeIs (PySem.slot_list_getitem.lookup) ?_ (by with_unfolding_all rfl)
    refine wpAny_getItem_list_slice ht.isList (Heap.IsSliceOf.new _ vl vu vs) pl pu ps (by decide) ?_ (by rw [List.size_toArray]; omega)
    rw [PySem.W.krv_pick]
    exact ⟨.ref _, _, I5.laid (t' := s4.toks) (o := .lst xs.reverse) (fun b ob q => Heap.get?_push_of_some _ q) (Nat.le_refl _) ⟨by rw [List.length_reverse]; exact hz, _, 0, r.reverse, Heap.get?_push_size _ rfl⟩, rfl, q _ (I5.hok.fresh (Nat.le_refl _))⟩
  · subst ex
    cases r1
    obtain ⟨its, r, ht, hz⟩ := I5.tuple hx
    have hlen := r.length
    show wpAny (model X.prog X.w) X.A (PyProof.Rows.subscriptTail e (.Slice none none (some (.UnaryOp .USub (.Constant (.int 1) k p1) p2)) p3) (.ref a) (.ref s4.heap.objs.size)) (EP X pins σ Q) X.xe { s4 with heap := s4.heap.push { cls := .type "slice", data := .fields #[vl, vu, vs] } }
    refine PyProof.Rows.tail_any (ops := [.ref a, .ref s4.heap.objs.size]) ht.typeIs (PyProof.Rows.slot_tuple_getitem.lookup) ?_ (by with_unfolding_all rfl)
    refine getItem_tuple_rev ht (Heap.IsSliceOf.new _ vl vu vs) pl pu ps ?_ (by rw [List.size_toArray]; omega)
    exact ⟨.ref _, _, I5.laid (t' := s4.toks) (o := .tup xs.reverse) (fun b ob q => Heap.get?_push_of_some _ q) (Nat.le_refl _) ⟨by rw [List.length_reverse]; exact hz, _, r.reverse, PyProof.Rows.IsTup.new _ _⟩, rfl, q _ (I5.hok.fresh (Nat.le_refl _))⟩
theorem e_rev (hK : X.K = P.K.f) {k : Nat} {p1 p2 p3 : Pos} (he : PE X e (tE P ce)) : PE X (.Subscript e (.Slice none none (some (.UnaryOp .USub (.Constant (.int 1) k p1) p2)) p3) pos) (tE P (.rev ce)) := by
  refine PE_imp (pe_revB he) fun σ H Q ⟨ts, cs, τ, R, r⟩ => ⟨ts, cs, τ, R, ?_⟩
  simp only [ev, Res.bind] at r
  refine Res.mono r (fun d s1 r1 t cs1 τ1 H1 e1 e2 R1 => ?_) fun _ _ z => z
  subst e1 e2
  obtain ⟨d2, hd, r2⟩ := Res.of.mp r1
  cases t with
  | lst o p l =>
    cases hd
    refine .inl ⟨p, l.map T.val, rfl, SqL.of R1.okh.1, fun q hq => ?_⟩
    rw [← List.map_reverse]
    refine r2 (.lst true q l.reverse) cs1 τ1 _ (by simp [T.er, T.ers_map, List.map_reverse]) rfl (Rel.lst (us := l.reverse) (R1.less (T.oks_append.mpr ⟨T.oks_iff.mpr fun t ht => T.oks_iff.mp R1.okh.2 t (List.mem_reverse.mp ht), R1.drop.sat.ofr |> fun z => (T.oks_append.mp z).1⟩) fun a => ?_) hq)
    have := revs_sum a l
    simp only [T.exs_append, T.shs_append, T.exs, T.shs, T.ex, T.sh]; omega
  | tup p l =>
    cases hd
    refine .inr ⟨p, l.map T.val, rfl, hK ▸ R1.okh.1, fun q hq => ?_⟩
    rw [← List.map_reverse]
    refine r2 (.tup q l.reverse) cs1 τ1 _ (by simp [T.er, T.ers_map, List.map_reverse]) rfl (Rel.tup (us := l.reverse) (R1.less (T.oks_append.mpr ⟨T.oks_iff.mpr fun t ht => T.oks_iff.mp R1.okh.2 t (List.mem_reverse.mp ht), R1.drop.sat.ofr |> fun z => (T.oks_append.mp z).1⟩) fun a => ?_) hq)
    have := revs_sum a l
    simp only [T.exs_append, T.shs_append, T.exs, T.shs, T.ex, T.sh]; omega
  | _ => cases hd
end
end PV

/-! PvO: the check that a core term is a text's. -/
namespace PV
open PySem L2

/-- the classes of errors: which may be raised (their numbers), which may be asked for (the numbers of their subclasses), the fields of each -/
structure Xs where
  ex : List (Str × Nat)
  ec : List (Str × List Nat)
  fl : List (List Str)
/-- what is known of a def's text: its block's scope, the names of its slots, which slots are plain, the defs and values of the top -/
structure Gm where
  sc : Scope
  own : Option Scope
  N : List Str
  pl : List Nat
  fn : List (Str × Nat × Nat)
  gl : List (Str × Nat)
  xs : Xs
def visB (sc : Scope) (x : Str) : Bool := decide (sc.names.lookup x = some .local) || decide (sc.names.lookup x = some .cell) || decide (sc.names.lookup x = some .free)
def locB (sc : Scope) (x : Str) : Bool := decide (sc.names.lookup x = some .local) || decide (sc.names.lookup x = some .cell)
def glB (sc : Scope) (x : Str) : Bool := decide (sc.names.lookup x = some .globalImplicit)
def okName (x : Str) : Bool := !(x == ("__debug__" : Str)) && !(x == ("__classdict__" : Str)) && !decide (x = ("__name__" : Str))
def slotB (Γ : Gm) (i : Nat) (x : Str) : Bool := decide (Γ.N[i]? = some x) && visB Γ.sc x && okName x
def ownB (Γ : Gm) (x : Str) : Bool := decide (Γ.sc.names.lookup x = some .local) || (match Γ.own with | none => true | some s => s.names.lookup x == some .cell)
def tgtB (Γ : Gm) (i : Nat) (x : Str) : Bool := decide (Γ.N[i]? = some x) && locB Γ.sc x && ownB Γ x
def Gm.blk (Γ : Gm) (scope : Scope) : Gm := { Γ with sc := relS scope Γ.sc, own := some scope }
/-- a value's test is its truth -/
def plainT : Expr → Bool
  | .UnaryOp .Not _ _ => false | .BoolOp _ _ _ => false | .IfExp _ _ _ _ => false | .Compare _ _ _ _ => false | _ => true
theorem plain_of {e : Expr} {env : PySem.Env} (h : plainT e = true) (whole : Sem Value) : isTrue e env whole = (do let v ← whole; standAt e.pos; holding [v] (truthy v)) := by
  cases e <;> first | rfl | (simp [plainT] at h; done) | skip
  rename_i op a p
  cases op <;> first | rfl | (simp [plainT] at h)
def biName : Bi → String
  | .len => "len" | .int => "int" | .str => "str" | .repr => "repr" | .all => "all" | .any => "any" | .sum => "sum" | .min => "min" | .max => "max" | .min2 => "min" | .max2 => "max" | .abs => "abs" | .sorted => "sorted" | .tuple => "tuple" | .list => "list" | .set => "set" | .dict => "dict"
def biTy : Bi → Bool
  | .int => true | .str => true | .tuple => true | .list => true | .set => true | .dict => true | _ => false
def biSrv : Bi → Bool
  | .str => false | .dict => false | _ => true
def biVal (b : Bi) : Value := if biTy b then .type (biName b) else .builtin (biName b)
/-- the built-in names that the check knows -/
def bNames : List Str := ["len", "int", "all", "any", "sum", "min", "max", "abs", "sorted", "tuple", "list", "set", "range", "zip", "isinstance", "bool", "str", "dict", "repr"]
def inter : List (Option Expr) → List Expr → List Expr
  | some k :: ks, v :: vs => k :: v :: inter ks vs
  | _, _ => []
def ownOf (N : List Str) (vs : List Nat) : List (Str × Nat) := vs.filterMap fun i => (N[i]?).map fun x => (x, i)
mutual
def chTg (Γ : Gm) : Tg → Expr → Bool
  | .name i, e => match e with | .Name x _ => tgtB Γ i x | _ => false
  | .tup ts, e => match e with | .Tuple es _ _ => chTgs Γ ts es | _ => false
def chTgs (Γ : Gm) : List Tg → List Expr → Bool
  | [], es => es.isEmpty
  | t :: ts, es => match es with | e :: es => !isStar e && chTg Γ t e && chTgs Γ ts es | [] => false
end
/-- no call: an attribute's base is its value -/
def notCall : Expr → Bool
  | .Call _ _ _ _ => false | _ => true
theorem base_of {e : Expr} {m : Str} {env : PySem.Env} (h : notCall e = true) : attributeBase e m env (eval e env) = eval e env := by
  cases e <;> first | rfl | (simp [notCall] at h)
mutual
/-- c is the core term of e; t: as a test -/
def ch (Γ : Gm) (t : Bool) : C → Expr → Bool
  | .lit d, e => (!t || plainT e) && (match d, e with
    | .int i, .Constant (.int j) _ _ => decide (i = j) | .bl b, .Constant (.bool c) _ _ => b == c | .str x, .Constant (.str y) _ _ => decide (x = y) | .non, .Constant .none _ _ => true | _, _ => false)
  | .glob n, e => (!t || plainT e) && (match e with | .Name x _ => decide (Γ.gl.lookup x = some n) && glB Γ.sc x && okName x | _ => false)
  | .var i, e => (!t || plainT e) && (match e with | .Name x _ => slotB Γ i x && Γ.pl.contains i | _ => false)
  | .bvar i, e => (!t || plainT e) && (match e with | .Name x _ => slotB Γ i x | _ => false)
  | .mvar i, e => (!t || plainT e) && (match e with | .Name x _ => slotB Γ i x | _ => false)
  | .tup es, e => (!t || plainT e) && (match e with | .Tuple xs _ _ => chs Γ es xs | _ => false)
  | .lst es, e => (!t || plainT e) && (match e with | .List xs _ => chs Γ es xs | _ => false)
  | .box es, e => (!t || plainT e) && (match e with | .List xs _ => chs Γ es xs | _ => false)
  | .dct es, e => (!t || plainT e) && (match e with | .Dict ks vs _ => ks.all (·.isSome) && decide (ks.length = vs.length) && !ks.isEmpty && decide (ks.length ≤ 15) && chs Γ es (inter ks vs) | _ => false)
  | .dctT es, e => (!t || plainT e) && (match e with | .Dict ks vs _ => ks.all (·.isSome) && decide (ks.length = vs.length) && !ks.isEmpty && decide (ks.length ≤ 15) && chs Γ es (inter ks vs) | _ => false)
  | .bin op a b, e => (!t || plainT e) && (match e with | .BinOp x o y _ => decide (o = bpy op) && ch Γ false a x && ch Γ false b y | _ => false)
  | .neg a, e => (!t || plainT e) && (match e with | .UnaryOp .USub x _ => ch Γ false a x | _ => false)
  | .nt a, e => match e with | .UnaryOp .Not x _ => ch Γ t a x | _ => false
  | .and a b, e => match e with
    | .BoolOp .And [x, y] _ => ch Γ t a x && ch Γ t b y
    | .BoolOp .And (x :: y :: z :: r) p => ch Γ t a x && ch Γ t b (.BoolOp .And (y :: z :: r) p)
    | _ => false
  | .or a b, e => match e with
    | .BoolOp .Or [x, y] _ => ch Γ t a x && ch Γ t b y
    | .BoolOp .Or (x :: y :: z :: r) p => ch Γ t a x && ch Γ t b (.BoolOp .Or (y :: z :: r) p)
    | _ => false
  | .ite c a b, e => !t && (match e with | .IfExp x y z _ => ch Γ true c x && ch Γ false a y && ch Γ false b z | _ => false)
  | .cmp op a b, e => match e with | .Compare x [o] [y] _ => decide (o = cpy op) && !behindInMarks o y && ch Γ false a x && ch Γ false b y | _ => false
  | .chain o1 o2 a b c, e => match e with | .Compare x [p1, p2] [y, z] _ => decide (p1 = cpy o1) && decide (p2 = cpy o2) && !lastMarks [p1, p2] [y, z] && ch Γ false a x && ch Γ false b y && ch Γ false c z | _ => false
  | .isN a, e => match e with | .Compare x [.Is] [.Constant .none _ _] _ => ch Γ false a x | _ => false
  | .notN a, e => match e with | .Compare x [.IsNot] [.Constant .none _ _] _ => ch Γ false a x | _ => false
  | .ix a i, e => (!t || plainT e) && (match e with | .Subscript x y _ => !isSlice y && ch Γ false a x && ch Γ false i y | _ => false)
  | .pix n i, e => (!t || plainT e) && (match e with | .Subscript (.Name x _) y _ => slotB Γ n x && !isSlice y && ch Γ false i y | _ => false)
  | .slc a lo hi, e => (!t || plainT e) && (match e with | .Subscript x (.Slice l h none _) _ => ch Γ false a x && (match l with | none => chAbs lo | some y => !chAbs lo && ch Γ false lo y) && (match h with | none => chAbs hi | some y => !chAbs hi && ch Γ false hi y) | _ => false)
  | .call f es, e => (!t || plainT e) && (match e with | .Call (.Name x _) xs [] _ => (match Γ.fn.lookup x with | some (g, _) => decide (g = f) | none => false) && glB Γ.sc x && okName x && chs Γ es xs | _ => false)
  | .bi b es, e => (!t || plainT e) && (match e with | .Call (.Name x _) xs [] _ => decide (x = Str.ofString (biName b)) && biSrv b && glB Γ.sc x && okName x && !xs.isEmpty && chs Γ es xs | _ => false)
  | .bib b n, e => (!t || plainT e) && (match e with | .Call (.Name x _) [.Name y _] [] _ => decide (x = Str.ofString (biName b)) && biSrv b && glB Γ.sc x && okName x && slotB Γ n y | _ => false)
  | .isi a ty, e => (!t || plainT e) && (match e with | .Call (.Name x _) [y, .Name z _] [] _ => decide (x = ("isinstance" : Str)) && decide (z = Str.ofString (tyName ty)) && glB Γ.sc x && glB Γ.sc z && okName z && !isStar y && ch Γ false a y | _ => false)
  | .lc c tg k its cs vs, e => (!t || plainT e) && (match e with
    | .ListComp elt [⟨tgt, iter, ifs, 0⟩] scope _ => !isSetE iter && blkC Γ.N Γ.sc scope (ownOf Γ.N vs) && decide ((ownOf Γ.N vs).map (·.2) = vs) && decide vs.Nodup && decide (∀ i ∈ tg.sl, i ∈ vs) &&
      (match k with
        | .seq => chs Γ its [iter]
        | .rng => (match iter with | .Call (.Name x _) xs [] _ => decide (x = ("range" : Str)) && glB Γ.sc x && (decide (xs.length = 1) || decide (xs.length = 2) || decide (xs.length = 3)) && chs Γ its xs | _ => false)
        | .zip => false) && chTg (Γ.blk scope) tg tgt && cht (Γ.blk scope) cs ifs && ch (Γ.blk scope) false c elt
    | _ => false)
  | .rev a, e => (!t || plainT e) && (match e with | .Subscript x (.Slice none none (some (.UnaryOp .USub (.Constant (.int n) _ _) _)) _) _ => decide (n = 1) && ch Γ false a x | _ => false)
  | .idx a b, e => (!t || plainT e) && (match e with | .Call (.Attribute x m apos) [y] [] cpos => decide (m = ("index" : Str)) && notCall x && (apos.endLine == cpos.line) && !isStar y && ch Γ false a x && ch Γ false b y | _ => false)
  | .srt f a, e => (!t || plainT e) && (match e with | .Call (.Name x _) [y] [⟨some kn, .Name g _, _⟩] _ => decide (x = ("sorted" : Str)) && decide (kn = ("key" : Str)) && (match Γ.fn.lookup g with | some (i, n) => decide (i = f) && decide (n = 1) | none => false) && glB Γ.sc x && glB Γ.sc g && okName g && !isStar y && ch Γ false a y | _ => false)
  | .pop _, _ => false
  | .abs, _ => false
def chs (Γ : Gm) : List C → List Expr → Bool
  | [], es => es.isEmpty
  | c :: cs, es => match es with | e :: es => !isStar e && ch Γ false c e && chs Γ cs es | [] => false
def cht (Γ : Gm) : List C → List Expr → Bool
  | [], es => es.isEmpty
  | c :: _, es => match es with | [e] => ch Γ true c e | _ => false
def chAbs : C → Bool
  | .abs => true | _ => false
end
end PV

/-! PvP: the check is sound. -/
namespace PV
open PySem L2

/-- a def that is called: its place among the table, how many parameters -/
structure Callee (CX : CXT) (W : XW) (k : Nat) (X : Cx) (P : Par) (x : Str) (i n : Nat) : Prop where
  ex : ∃ (f : Addr) (fd : FuncData) (ps : List Str), GOk X.prog X.w X.K X.mg X.base CX k f fd ps (spF P.K (P.env.cl i) n W) ∧ X.mg x = some (.ref f) ∧ PySem.W.keepIn X.K (.ref f) = true ∧ Binds X.K fd ps []
  len : ∀ ds m, ds.length ≠ n → P.env.cl i ds m = .bad
/-- the machine's context is what the check knows of it -/
structure Fit (CX : CXT) (W : XW) (k : Nat) (Γ : Gm) (X : Cx) (P : Par) : Prop where
  K : X.K = P.K.f
  PW : X.prog = P.K.p ∧ X.w = P.K.w
  sc : X.env.scope = Γ.sc
  kind : Γ.sc.kind = .function
  N : X.N = Γ.N
  nd : Γ.N.Nodup
  calm : X.calm = true
  room : Room k X.A
  room2 : Room k X.A.in1.in1
  gd : X.A.guards = some []
  pl : ∀ i, P.pl i = Γ.pl.contains i
  mg0 : ∀ x ∈ bNames, X.mg x = none
  own : ∀ x, ownB Γ x = true → X.fn x = true ∨ X.env.scope.names.lookup x = some .local
  fns : ∀ x i n, Γ.fn.lookup x = some (i, n) → Callee CX W k X P x i n
  gls : ∀ x n, Γ.gl.lookup x = some n → ∃ (u : Value) (t : T), X.mg x = some u ∧ RelV t.val u ∧ (∀ H ad, t.ok P.K H ad) ∧ (∀ a, t.ex a = 0 ∧ t.sh a = 0) ∧ P.env.gl n = some t.er
  W1 : W = W1 P.ca
  E : ∀ σ, PassesAt CX X σ fun cls d H => P.wx cls d σ H
  cx0 : ∀ o H s e s', CX o H s (fun _ _ _ => False) e s' → False
section
variable {CX : CXT} {W : XW} {k : Nat} {Γ : Gm} {X : Cx} {P : Par}
theorem Fit.blk (F : Fit CX W k Γ X P) {scope : Scope} (hk : scope.kind = .function) (s : Shared) (H : Hp) (C : Addr) (cl : List (Str × Addr)) (fp : List Addr) : Fit CX W k (Γ.blk scope) (X.blk s H scope (compEnvC scope cl C X.env) fp) P.blk where
  K := F.K
  PW := F.PW
  sc := by show relS scope X.env.scope = relS scope Γ.sc; rw [F.sc]
  kind := hk
  N := F.N
  nd := F.nd
  calm := F.calm
  room := F.room
  room2 := F.room2
  gd := F.gd
  pl := F.pl
  mg0 := F.mg0
  own := fun x h => by
    unfold ownB at h
    rcases (Bool.or_eq_true _ _).mp h with h | h
    · refine .inr ?_
      show (relS scope X.env.scope).names.lookup x = _
      rw [F.sc]; exact of_decide_eq_true h
    · exact .inl h
  fns := fun x i n h => ⟨(F.fns x i n h).ex, (F.fns x i n h).len⟩
  gls := F.gls
  W1 := F.W1
  E := fun σ pins H s e s' _ h => (F.cx0 _ _ _ _ _ h).elim
  cx0 := F.cx0
theorem Fit.gl {x : Str} (F : Fit CX W k Γ X P) (h : glB Γ.sc x = true) : Gl X x := by
  show X.env.scope.names.lookup x = _
  rw [F.sc]; exact of_decide_eq_true h
theorem Fit.vis {x : Str} (F : Fit CX W k Γ X P) (h : visB Γ.sc x = true) : Vis X.env.scope x := by
  rw [F.sc]
  unfold visB at h
  simp only [Bool.or_eq_true, decide_eq_true_eq] at h
  rcases h with (h | h) | h
  · exact .inl h
  · exact .inr (.inl h)
  · exact .inr (.inr h)
theorem Fit.loc {x : Str} (F : Fit CX W k Γ X P) (h : locB Γ.sc x = true) : Loc X.env.scope x := by
  rw [F.sc]
  unfold locB at h
  simp only [Bool.or_eq_true, decide_eq_true_eq] at h
  exact h
theorem okName_inv {x : Str} (h : okName x = true) : (x == ("__debug__" : Str)) = false ∧ (x == ("__classdict__" : Str)) = false ∧ x ≠ ("__name__" : Str) := by
  unfold okName at h
  simp only [Bool.and_eq_true, Bool.not_eq_true', decide_eq_false_iff_not] at h
  exact ⟨h.1.1, h.1.2, h.2⟩
theorem Fit.slot {i : Nat} {x : Str} (F : Fit CX W k Γ X P) (h : slotB Γ i x = true) : X.N[i]? = some x ∧ Vis X.env.scope x ∧ (x == ("__debug__" : Str)) = false ∧ (x == ("__classdict__" : Str)) = false := by
  unfold slotB at h
  simp only [Bool.and_eq_true, decide_eq_true_eq] at h
  obtain ⟨h1, h2, _⟩ := okName_inv h.2
  exact ⟨by rw [F.N]; exact h.1.1, F.vis h.1.2, h1, h2⟩
theorem Fit.hu (F : Fit CX W k Γ X P) : X.A.units + 150 < cLine := by have := F.room.un; omega
theorem Fit.hu1 (F : Fit CX W k Γ X P) : X.A.units + 1 < cLine := by have := F.room.un; omega
theorem Fit.bi (F : Fit CX W k Γ X P) {b : Bi} (h : biSrv b = true) : CallR X (biVal b) (rBi P b) := by
  cases b <;> first | (simp [biSrv] at h; done) | skip
  · exact bi_len F.K F.PW
  · exact bi_int
  · exact bi_repr F.K F.gd F.hu
  · exact bi_all F.calm
  · exact bi_any F.calm
  · exact bi_sum F.calm
  · exact bi_min F.K F.calm F.hu
  · exact bi_max F.calm
  · exact bi_min2 F.calm
  · exact bi_max2 F.calm
  · exact bi_abs
  · exact bi_sorted F.K F.PW F.calm F.hu
  · exact bi_tuple F.K
  · exact bi_list F.K
  · exact bi_set F.K F.PW F.calm F.hu
theorem boot_of {b : Bi} (h : biSrv b = true) : bootBuiltins (Str.ofString (biName b)) = some (biVal b) := by
  cases b <;> first | (simp [biSrv] at h; done) | decide +kernel
theorem bName_mem {b : Bi} : Str.ofString (biName b) ∈ bNames := by cases b <;> decide +kernel
/-! targets -/
mutual
theorem chTg_sound (F : Fit CX W k Γ X P) : ∀ (tg : Tg) (e : Expr), chTg Γ tg e = true → PG X e (gT P tg)
  | .name i, e, h => by
    cases e <;> simp only [chTg, Bool.false_eq_true] at h
    unfold tgtB at h
    simp only [Bool.and_eq_true, decide_eq_true_eq] at h
    exact g_name (by rw [F.N]; exact F.nd) (by rw [F.N]; exact h.1.1) (F.loc h.1.2) (F.own _ h.2)
  | .tup ts, e, h => by
    cases e <;> simp only [chTg, Bool.false_eq_true] at h
    obtain ⟨h1, h2, h3, h4⟩ := chTgs_sound F ts _ h
    exact g_tup F.K F.calm h1 h2 h3 h4
theorem chTgs_sound (F : Fit CX W k Γ X P) : ∀ (ts : List Tg) (es : List Expr), chTgs Γ ts es = true →
    PGs X es (gTs P ts) ∧ (assignEach es X.env).length = es.length ∧ (assignEach es X.env).findIdx? (·.1) = none ∧ ts.length = es.length
  | [], es, h => by
    cases es with
    | nil => exact ⟨g_nil, rfl, rfl, rfl⟩
    | cons e es => simp [chTgs] at h
  | t :: ts, es, h => by
    cases es with
    | nil => simp [chTgs] at h
    | cons e es =>
      simp only [chTgs, Bool.and_eq_true, Bool.not_eq_true'] at h
      obtain ⟨h1, h2, h3, h4⟩ := chTgs_sound F ts es h.2
      have ea : assignEach (e :: es) X.env = (false, assign e X.env) :: assignEach es X.env := by
        cases e <;> first | rfl | (simp [isStar] at h)
      refine ⟨g_cons (chTg_sound F t e h.1.2) h1 (by rw [ea]; rfl), by rw [ea, List.length_cons, h2, List.length_cons], ?_, by simp [h4]⟩
      rw [ea, List.findIdx?_cons]
      simp [h3]
end
/-! expressions -/
def isBO : Expr → Bool
  | .BoolOp _ _ _ => true | _ => false
def Snd (X : Cx) (P : Par) (c : C) (e : Expr) (t : Bool) : Prop := (t = false → PE X e (tE P c)) ∧ (t = true → PT X e (tT P c) ∧ (isBO e = true → PW X e (tT P c)))
theorem both {c : C} {e : Expr} {t : Bool} (h : PE X e (tE P c)) (hp : (!t || plainT e) = true) : Snd X P c e t := by
  refine ⟨fun _ => h, fun ht => ?_⟩
  subst ht
  have hp : plainT e = true := by simpa using hp
  refine ⟨t_val h fun w => plain_of hp w, fun hb => ?_⟩
  cases e <;> simp_all [plainT, isBO]
def All2 (X : Cx) (P : Par) : List C → List Expr → Prop
  | [], [] => True
  | c :: cs, e :: es => isStar e = false ∧ PE X e (tE P c) ∧ All2 X P cs es
  | _, _ => False
theorem All2.pa : ∀ {cs : List C} {es : List Expr}, All2 X P cs es → PA X es (tA P cs)
  | [], [], _ => a_nil
  | c :: cs, e :: es, h => a_cons h.2.1 (All2.pa h.2.2) (star_of h.1)
  | [], _ :: _, h => h.elim
  | _ :: _, [], h => h.elim
theorem All2.nost : ∀ {cs : List C} {es : List Expr}, All2 X P cs es → (es.any isStar) = false
  | [], [], _ => rfl
  | c :: cs, e :: es, h => by rw [List.any_cons, h.1, All2.nost h.2.2]; rfl
  | [], _ :: _, h => h.elim
  | _ :: _, [], h => h.elim
theorem All2.pp : ∀ {ks : List (Option Expr)} {vs : List Expr} {cs : List C} {pos : Pos}, ks.all (·.isSome) = true → ks.length = vs.length → All2 X P cs (inter ks vs) → PPs X pos ks vs (trsOf P cs) ∧ evenB cs = true
  | [], [], cs, pos, _, _, h => by
    cases cs with
    | nil => exact ⟨pp_nil, rfl⟩
    | cons c cs => exact h.elim
  | none :: ks, vs, cs, pos, h, _, _ => by simp at h
  | some k :: ks, v :: vs, cs, pos, h, hl, a => by
    simp only [inter] at a
    match cs, a with
    | c1 :: c2 :: cs, a =>
      obtain ⟨_, h1, _, h2, h3⟩ := a
      obtain ⟨p, q⟩ := All2.pp (pos := pos) (by simpa using h) (by simpa using hl) h3
      exact ⟨pp_cons h1 h2 p, q⟩
    | [_], a => exact a.2.2.elim
    | [], a => exact a.elim
  | [], _ :: _, _, _, _, hl, _ => by simp at hl
  | some _ :: _, [], _, _, _, hl, _ => by simp at hl
theorem abs_of {c : C} (h : chAbs c = false) : c ≠ .abs := by rintro rfl; simp [chAbs] at h
theorem abs_is {c : C} (h : chAbs c = true) : c = .abs := by cases c <;> simp_all [chAbs]
theorem e_bi (F : Fit CX W k Γ X P) {b : Bi} {es : List Expr} {ces : List C} {x : Str} {p pos : Pos} (hx : x = Str.ofString (biName b)) (hs : biSrv b = true) (hg : glB Γ.sc x = true) (ho : okName x = true) (hne : es.isEmpty = false) (a : All2 X P ces es) : PE X (.Call (.Name x p) es [] pos) (tE P (.bi b ces)) := by
  obtain ⟨h1, h2, h3⟩ := okName_inv ho
  have hm := F.mg0 x (by rw [hx]; exact bName_mem)
  have hb := boot_of hs
  rw [← hx] at hb
  have hc := F.bi hs
  unfold biVal at hb hc
  cases es with
  | nil => simp at hne
  | cons e es =>
    cases hty : biTy b with
    | true => rw [hty, if_pos rfl] at hb hc; exact e_biT hc (F.gl hg) hm hb h3 h1 a.pa a.nost
    | false => rw [hty, if_neg Bool.false_ne_true] at hb hc; exact e_biB hc (F.gl hg) hm hb h3 h1 a.pa a.nost
theorem e_bib (F : Fit CX W k Γ X P) {b : Bi} {n : Nat} {x y : Str} {p p2 pos : Pos} (hx : x = Str.ofString (biName b)) (hs : biSrv b = true) (hg : glB Γ.sc x = true) (ho : okName x = true) (hy : slotB Γ n y = true) : PE X (.Call (.Name x p) [.Name y p2] [] pos) (tE P (.bib b n)) := by
  obtain ⟨h1, h2, h3⟩ := okName_inv ho
  obtain ⟨q1, q2, q3, q4⟩ := F.slot hy
  have hm := F.mg0 x (by rw [hx]; exact bName_mem)
  have hb := boot_of hs
  rw [← hx] at hb
  have hc := F.bi hs
  unfold biVal at hb hc
  cases hty : biTy b with
  | true => rw [hty, if_pos rfl] at hb hc; exact e_bibT hc (F.gl hg) hm hb h3 h1 q1 q2 q3 q4
  | false => rw [hty, if_neg Bool.false_ne_true] at hb hc; exact e_bibB hc (F.gl hg) hm hb h3 h1 q1 q2 q3 q4
theorem e_srts (F : Fit CX W k Γ X P) {i : Nat} {e : Expr} {ce : C} {x : Str} {p px kpos pos : Pos} (hf : Γ.fn.lookup x = some (i, 1)) (hg0 : glB Γ.sc "sorted" = true) (hg : glB Γ.sc x = true) (ho : okName x = true) (he : PE X e (tE P ce)) (hs : isStar e = false) :
    PE X (.Call (.Name "sorted" p) [e] [⟨some "key", .Name x px, kpos⟩] pos) (tE P (.srt i ce)) := by
  obtain ⟨h1, h2, h3⟩ := okName_inv ho
  obtain ⟨⟨f, fd, ps, g, m, kp, b⟩, hl⟩ := F.fns x i 1 hf
  exact e_srt F.K (F.W1 ▸ g) F.room2 F.gd b F.hu F.cx0 hl (F.gl hg0) (F.mg0 _ (by decide +kernel)) (F.gl hg) m h1 he hs
theorem e_calls (F : Fit CX W k Γ X P) {i n : Nat} {es : List Expr} {ces : List C} {x : Str} {p pos : Pos} (hf : Γ.fn.lookup x = some (i, n)) (hg : glB Γ.sc x = true) (ho : okName x = true) (a : All2 X P ces es) : PE X (.Call (.Name x p) es [] pos) (tE P (.call i ces)) := by
  obtain ⟨h1, h2, h3⟩ := okName_inv ho
  obtain ⟨⟨f, fd, ps, g, m, kp, b⟩, hl⟩ := F.fns x i n hf
  have hx := F.E
  have hW : ∀ y σ cs' H', P.wish y σ H' → W y cs' H' (fun cls d H => P.wx cls d σ H) := fun y σ cs' H' h => by rw [F.W1]; exact h
  cases es with
  | nil =>
    cases ces with
    | nil => exact e_call0 F.K g F.room F.gd (F.gl hg) m kp b hx hW hl h1
    | cons _ _ => exact a.elim
  | cons e es => exact e_call F.K g F.room F.gd (F.gl hg) m kp b hx hW hl h1 a.pa a.nost
theorem e_glb (F : Fit CX W k Γ X P) {n : Nat} {x : Str} {p : Pos} (hx : Γ.gl.lookup x = some n) (hg : glB Γ.sc x = true) (ho : okName x = true) : PE X (.Name x p) (tE P (.glob n)) := by
  obtain ⟨h1, h2, h3⟩ := okName_inv ho
  obtain ⟨u, t, m, r, o, z, g⟩ := F.gls x n hx
  exact e_glob (F.gl hg) m t r o z g h1
theorem e_idxs (F : Fit CX W k Γ X P) {a e : Expr} {ca ce : C} {m : Str} {apos cpos : Pos} (hm : m = "index") (hb : notCall a = true) (hl : (apos.endLine == cpos.line) = true) (hs : isStar e = false) (ha : PE X a (tE P ca)) (he : PE X e (tE P ce)) : PE X (.Call (.Attribute a m apos) [e] [] cpos) (tE P (.idx ca ce)) := by
  subst hm
  exact e_idx F.K F.hu ha he hs hl (base_of hb) (by rw [star_of hs]; rfl)
theorem e_isis (F : Fit CX W k Γ X P) {a : Expr} {ca : C} {ty : Ty} {x z : Str} {p p2 pos : Pos} (hx : x = "isinstance") (hz : z = Str.ofString (tyName ty)) (hg : glB Γ.sc x = true) (hg2 : glB Γ.sc z = true) (ho : okName z = true) (ha : PE X a (tE P ca)) (hs : isStar a = false) :
    PE X (.Call (.Name x p) [a, .Name z p2] [] pos) (tE P (.isi ca ty)) := by
  obtain ⟨h1, h2, h3⟩ := okName_inv ho
  subst hx
  refine e_isi F.K ty (F.gl hg) (F.mg0 _ (by decide +kernel)) (F.gl hg2) (F.mg0 _ (by rw [hz]; cases ty <;> decide +kernel)) (by rw [hz]; cases ty <;> decide +kernel) h3 h1 ha hs
theorem i_any (F : Fit CX W k Γ X P) {ki : Ik} {its : List C} {tgt iter : Expr} (h : (match ki with
        | .seq => All2 X P its [iter]
        | .rng => ∃ x p xs pos, iter = .Call (.Name x p) xs [] pos ∧ x = ("range" : Str) ∧ glB Γ.sc x = true ∧ ((xs.length = 1 ∨ xs.length = 2) ∨ xs.length = 3) ∧ All2 X P its xs
        | .zip => False)) : PI X tgt iter (tI P ki its) := by
  cases ki with
  | seq =>
    match its, h with
    | [c], h => exact i_seq F.K h.2.1
    | [], h => exact h.elim
    | _ :: _ :: _, h => exact h.2.2.elim
  | rng =>
    obtain ⟨x, p, xs, pos, rfl, rfl, hg, hl, a⟩ := h
    have hm := F.mg0 "range" (by decide +kernel)
    rcases hl with (hl | hl) | hl
    · match xs, its, hl, a with
      | [e], [c], _, a => exact i_rng1 (F.gl hg) hm a.pa a.1
      | [e], [], _, a => exact a.elim
      | [e], _ :: _ :: _, _, a => exact a.2.2.elim
    · match xs, its, hl, a with
      | [e, e2], [c, c2], _, a => exact i_rng2 (F.gl hg) hm a.pa a.1 a.2.2.1
      | [e, e2], [], _, a => exact a.elim
      | [e, e2], [_], _, a => exact a.2.2.elim
      | [e, e2], _ :: _ :: _ :: _, _, a => exact a.2.2.2.2.elim
    · match xs, its, hl, a with
      | [e, e2, e3], [c, c2, c3], _, a => exact i_rng3 (F.gl hg) hm a.pa a.1 a.2.2.1 a.2.2.2.2.1
      | [e, e2, e3], [], _, a => exact a.elim
      | [e, e2, e3], [_], _, a => exact a.2.2.elim
      | [e, e2, e3], [_, _], _, a => exact a.2.2.2.2.elim
      | [e, e2, e3], _ :: _ :: _ :: _ :: _, _, a => exact a.2.2.2.2.2.2.elim
  | zip => exact h.elim
end
end PV

/-! PvQ: the check of expressions is sound. -/
namespace PV
open PySem L2

section
variable {CX : CXT} {W : XW} {k : Nat}
/-- a comprehension's parts -/
structure LcOk (X : Cx) (P : Par) (c : C) (tg : Tg) (ki : Ik) (its cs : List C) (vs : List Nat) (elt tgt iter : Expr) (ifs : List Expr) (scope : Scope) : Prop where
  it : PI X tgt iter (tI P ki its)
  ok : BlkOk X.N X.env.scope scope (ownOf X.N vs)
  g : ∀ (s : Shared) (H : Hp) (C : Addr) (cl : List (Str × Addr)) (fp : List Addr), PG (X.blk s H scope (compEnvC scope cl C X.env) fp) tgt (gT P.blk tg)
  t : ∀ (s : Shared) (H : Hp) (C : Addr) (cl : List (Str × Addr)) (fp : List Addr), PTs (X.blk s H scope (compEnvC scope cl C X.env) fp) ifs (tTs P.blk cs)
  e : ∀ (s : Shared) (H : Hp) (C : Addr) (cl : List (Str × Addr)) (fp : List Addr), PE (X.blk s H scope (compEnvC scope cl C X.env) fp) elt (tE P.blk c)
  s : isSetE iter = false
  vv : (ownOf X.N vs).map (·.2) = vs
  nd : vs.Nodup
  sl : ∀ i ∈ tg.sl, i ∈ vs
theorem LcOk.pe {X : Cx} {P : Par} {c : C} {tg : Tg} {ki : Ik} {its cs : List C} {vs : List Nat} {elt tgt iter : Expr} {ifs : List Expr} {scope : Scope} {pos : Pos} (L : LcOk X P c tg ki its cs vs elt tgt iter ifs scope) (hK : X.K = P.K.f) (hc : X.calm = true) (hN : X.N.Nodup) :
    PE X (.ListComp elt [⟨tgt, iter, ifs, 0⟩] scope pos) (tE P (.lc c tg ki its cs vs)) := by
  refine PE_imp (pe_lc hc hN L.it L.ok L.g L.t L.e (foldSet L.s)) fun σ H Q h => ?_
  rw [L.vv]
  exact lcE hK L.nd L.sl σ H Q h
theorem and_three {a b c : Bool} (h : (a && b && c) = true) : a = true ∧ b = true ∧ c = true := by
  simp only [Bool.and_eq_true] at h; exact ⟨h.1.1, h.1.2, h.2⟩
mutual
theorem ch_sound : ∀ (c : C) (Γ : Gm) (X : Cx) (P : Par) (t : Bool) (e : Expr), Fit CX W k Γ X P → ch Γ t c e = true → Snd X P c e t
  | .lit d, Γ, X, P, t, e, F, h => by
    simp only [ch, Bool.and_eq_true] at h
    refine both ?_ h.1
    have h2 := h.2
    split at h2
    · obtain rfl := of_decide_eq_true h2; exact e_int
    · obtain rfl := beq_iff_eq.mp h2; exact e_bl
    · obtain rfl := of_decide_eq_true h2; exact e_str
    · exact e_non
    · cases h2
  | .glob n, Γ, X, P, t, e, F, h => by
    simp only [ch, Bool.and_eq_true] at h
    refine both ?_ h.1
    have h2 := h.2
    split at h2
    · obtain ⟨h3, h4, h5⟩ := and_three h2
      exact e_glb F (of_decide_eq_true h3) h4 h5
    · cases h2
  | .var i, Γ, X, P, t, e, F, h => by
    simp only [ch, Bool.and_eq_true] at h
    refine both ?_ h.1
    have h2 := h.2
    split at h2
    · obtain ⟨h3, h4⟩ := (Bool.and_eq_true _ _).mp h2
      obtain ⟨a, b, c, d⟩ := F.slot h3
      exact e_var a b c d (by rw [F.pl]; exact h4)
    · cases h2
  | .bvar i, Γ, X, P, t, e, F, h => by
    simp only [ch, Bool.and_eq_true] at h
    refine both ?_ h.1
    have h2 := h.2
    split at h2
    · obtain ⟨a, b, c, d⟩ := F.slot h2
      exact e_bvar a b c d
    · cases h2
  | .mvar i, Γ, X, P, t, e, F, h => by
    simp only [ch, Bool.and_eq_true] at h
    refine both ?_ h.1
    have h2 := h.2
    split at h2
    · obtain ⟨a, b, c, d⟩ := F.slot h2
      exact e_mvar a b c d
    · cases h2
  | .tup es, Γ, X, P, t, e, F, h => by
    simp only [ch, Bool.and_eq_true] at h
    refine both ?_ h.1
    have h2 := h.2
    split at h2
    · exact e_tup (chs_sound es Γ X P _ F h2).pa
    · cases h2
  | .lst es, Γ, X, P, t, e, F, h => by
    simp only [ch, Bool.and_eq_true] at h
    refine both ?_ h.1
    have h2 := h.2
    split at h2
    · exact e_lst (chs_sound es Γ X P _ F h2).pa
    · cases h2
  | .box es, Γ, X, P, t, e, F, h => by
    simp only [ch, Bool.and_eq_true] at h
    refine both ?_ h.1
    have h2 := h.2
    split at h2
    · exact e_box (chs_sound es Γ X P _ F h2).pa
    · cases h2
  | .dct es, Γ, X, P, t, e, F, h => by
    simp only [ch, Bool.and_eq_true] at h
    refine both ?_ h.1
    have h2 := h.2
    split at h2
    · simp only [Bool.and_eq_true, decide_eq_true_eq, Bool.not_eq_true'] at h2
      obtain ⟨⟨⟨⟨a1, a2⟩, a3⟩, a4⟩, a5⟩ := h2
      obtain ⟨p, q⟩ := (chs_sound es Γ X P _ F a5).pp a1 a2
      exact e_dct p a1 a2 (by rintro rfl; simp at a3) a4 q
    · cases h2
  | .dctT es, Γ, X, P, t, e, F, h => by
    simp only [ch, Bool.and_eq_true] at h
    refine both ?_ h.1
    have h2 := h.2
    split at h2
    · simp only [Bool.and_eq_true, decide_eq_true_eq, Bool.not_eq_true'] at h2
      obtain ⟨⟨⟨⟨a1, a2⟩, a3⟩, a4⟩, a5⟩ := h2
      obtain ⟨p, q⟩ := (chs_sound es Γ X P _ F a5).pp a1 a2
      exact e_dctT F.K F.PW (by have := F.hu; omega) p a1 a2 (by rintro rfl; simp at a3) a4 q
    · cases h2
  | .bin op a b, Γ, X, P, t, e, F, h => by
    simp only [ch, Bool.and_eq_true] at h
    refine both ?_ h.1
    have h2 := h.2
    split at h2
    · obtain ⟨h3, h4, h5⟩ := and_three h2
      obtain rfl := of_decide_eq_true h3
      exact e_bin (op_bopS F.K op) ((ch_sound a Γ X P false _ F h4).1 rfl) ((ch_sound b Γ X P false _ F h5).1 rfl)
    · cases h2
  | .neg a, Γ, X, P, t, e, F, h => by
    simp only [ch, Bool.and_eq_true] at h
    refine both ?_ h.1
    have h2 := h.2
    split at h2
    · exact e_neg ((ch_sound a Γ X P false _ F h2).1 rfl)
    · cases h2
  | .nt a, Γ, X, P, t, e, F, h => by
    simp only [ch] at h
    split at h
    · obtain ⟨h1, h2⟩ := ch_sound a Γ X P t _ F h
      exact ⟨fun ht => e_nt (h1 ht), fun ht => ⟨t_nt (h2 ht).1, fun hb => by simp [isBO] at hb⟩⟩
    · cases h
  | .and a b, Γ, X, P, t, e, F, h => by
    simp only [ch] at h
    split at h
    · obtain ⟨h1, h2⟩ := (Bool.and_eq_true _ _).mp h
      have s1 := ch_sound a Γ X P t _ F h1
      have s2 := ch_sound b Γ X P t _ F h2
      refine ⟨fun ht => e_and (s1.1 ht) (e_one (s2.1 ht)), fun ht => ?_⟩
      exact ⟨(w_and (s1.2 ht).1 (w_and1 (s2.2 ht).1)).pt, fun _ => w_and (s1.2 ht).1 (w_and1 (s2.2 ht).1)⟩
    · obtain ⟨h1, h2⟩ := (Bool.and_eq_true _ _).mp h
      have s1 := ch_sound a Γ X P t _ F h1
      have s2 := ch_sound b Γ X P t _ F h2
      refine ⟨fun ht => e_and (s1.1 ht) (s2.1 ht), fun ht => ?_⟩
      exact ⟨(w_and (s1.2 ht).1 ((s2.2 ht).2 rfl)).pt, fun _ => w_and (s1.2 ht).1 ((s2.2 ht).2 rfl)⟩
    · cases h
  | .or a b, Γ, X, P, t, e, F, h => by
    simp only [ch] at h
    split at h
    · obtain ⟨h1, h2⟩ := (Bool.and_eq_true _ _).mp h
      have s1 := ch_sound a Γ X P t _ F h1
      have s2 := ch_sound b Γ X P t _ F h2
      refine ⟨fun ht => e_or (s1.1 ht) (e_one (s2.1 ht)), fun ht => ?_⟩
      exact ⟨(w_or (s1.2 ht).1 (w_or1 (s2.2 ht).1)).pt, fun _ => w_or (s1.2 ht).1 (w_or1 (s2.2 ht).1)⟩
    · obtain ⟨h1, h2⟩ := (Bool.and_eq_true _ _).mp h
      have s1 := ch_sound a Γ X P t _ F h1
      have s2 := ch_sound b Γ X P t _ F h2
      refine ⟨fun ht => e_or (s1.1 ht) (s2.1 ht), fun ht => ?_⟩
      exact ⟨(w_or (s1.2 ht).1 ((s2.2 ht).2 rfl)).pt, fun _ => w_or (s1.2 ht).1 ((s2.2 ht).2 rfl)⟩
    · cases h
  | .ite c a b, Γ, X, P, t, e, F, h => by
    simp only [ch, Bool.and_eq_true, Bool.not_eq_true'] at h
    obtain ⟨ht, h2⟩ := h
    subst ht
    refine ⟨fun _ => ?_, fun z => by cases z⟩
    split at h2
    · obtain ⟨h3, h4, h5⟩ := and_three h2
      exact e_ite ((ch_sound c Γ X P true _ F h3).2 rfl).1 ((ch_sound a Γ X P false _ F h4).1 rfl) ((ch_sound b Γ X P false _ F h5).1 rfl)
    · cases h2
  | .cmp op a b, Γ, X, P, t, e, F, h => by
    simp only [ch] at h
    split at h
    · simp only [Bool.and_eq_true, decide_eq_true_eq, Bool.not_eq_true'] at h
      obtain ⟨⟨⟨rfl, hm⟩, h1⟩, h2⟩ := h
      have s1 := (ch_sound a Γ X P false _ F h1).1 rfl
      have s2 := (ch_sound b Γ X P false _ F h2).1 rfl
      exact ⟨fun _ => e_cmp F.K F.PW F.hu op s1 s2 hm, fun _ => ⟨t_cmp F.K F.PW F.hu op s1 s2 hm, fun hb => by simp [isBO] at hb⟩⟩
    · cases h
  | .chain o1 o2 a b c, Γ, X, P, t, e, F, h => by
    simp only [ch] at h
    split at h
    · simp only [Bool.and_eq_true, decide_eq_true_eq, Bool.not_eq_true'] at h
      obtain ⟨⟨⟨⟨⟨rfl, rfl⟩, hm⟩, h1⟩, h2⟩, h3⟩ := h
      have s1 := (ch_sound a Γ X P false _ F h1).1 rfl
      have s2 := (ch_sound b Γ X P false _ F h2).1 rfl
      have s3 := (ch_sound c Γ X P false _ F h3).1 rfl
      exact ⟨fun _ => e_chain F.K F.PW F.hu o1 o2 s1 s2 s3 hm, fun _ => ⟨t_chain F.K F.PW F.hu o1 o2 s1 s2 s3 hm, fun hb => by simp [isBO] at hb⟩⟩
    · cases h
  | .isN a, Γ, X, P, t, e, F, h => by
    simp only [ch] at h
    split at h
    · have s1 := (ch_sound a Γ X P false _ F h).1 rfl
      exact ⟨fun _ => e_isN s1, fun _ => ⟨t_isN s1, fun hb => by simp [isBO] at hb⟩⟩
    · cases h
  | .notN a, Γ, X, P, t, e, F, h => by
    simp only [ch] at h
    split at h
    · have s1 := (ch_sound a Γ X P false _ F h).1 rfl
      exact ⟨fun _ => e_notN s1, fun _ => ⟨t_notN s1, fun hb => by simp [isBO] at hb⟩⟩
    · cases h
  | .ix a i, Γ, X, P, t, e, F, h => by
    simp only [ch, Bool.and_eq_true] at h
    refine both ?_ h.1
    have h2 := h.2
    split at h2
    · obtain ⟨h3, h4, h5⟩ := and_three h2
      exact e_ix F.K F.PW F.hu ((ch_sound a Γ X P false _ F h4).1 rfl) ((ch_sound i Γ X P false _ F h5).1 rfl) (by simpa using h3)
    · cases h2
  | .pix n i, Γ, X, P, t, e, F, h => by
    simp only [ch, Bool.and_eq_true] at h
    refine both ?_ h.1
    have h2 := h.2
    split at h2
    · obtain ⟨h3, h4, h5⟩ := and_three h2
      obtain ⟨a, b, c, d⟩ := F.slot h3
      exact e_pix F.K F.PW F.hu a b c d ((ch_sound i Γ X P false _ F h5).1 rfl) (by simpa using h4)
    · cases h2
  | .slc a lo hi, Γ, X, P, t, e, F, h => by
    simp only [ch, Bool.and_eq_true] at h
    refine both ?_ h.1
    have h2 := h.2
    split at h2
    · obtain ⟨h3, h4, h5⟩ := and_three h2
      refine e_slc F.K ((ch_sound a Γ X P false _ F h3).1 rfl) ?_ ?_
      · split at h4
        · exact .inl ⟨rfl, abs_is h4⟩
        · simp only [Bool.and_eq_true, Bool.not_eq_true'] at h4
          exact .inr ⟨_, rfl, abs_of h4.1, (ch_sound lo Γ X P false _ F h4.2).1 rfl⟩
      · split at h5
        · exact .inl ⟨rfl, abs_is h5⟩
        · simp only [Bool.and_eq_true, Bool.not_eq_true'] at h5
          exact .inr ⟨_, rfl, abs_of h5.1, (ch_sound hi Γ X P false _ F h5.2).1 rfl⟩
    · cases h2
  | .call f es, Γ, X, P, t, e, F, h => by
    simp only [ch, Bool.and_eq_true] at h
    refine both ?_ h.1
    have h2 := h.2
    split at h2
    · simp only [Bool.and_eq_true] at h2
      obtain ⟨⟨⟨a1, a2⟩, a3⟩, a4⟩ := h2
      split at a1
      · rename_i g n hf
        obtain rfl := of_decide_eq_true a1
        exact e_calls F hf a2 a3 (chs_sound es Γ X P _ F a4)
      · cases a1
    · cases h2
  | .bi b es, Γ, X, P, t, e, F, h => by
    simp only [ch, Bool.and_eq_true] at h
    refine both ?_ h.1
    have h2 := h.2
    split at h2
    · simp only [Bool.and_eq_true, decide_eq_true_eq, Bool.not_eq_true'] at h2
      obtain ⟨⟨⟨⟨⟨a1, a2⟩, a3⟩, a4⟩, a5⟩, a6⟩ := h2
      exact e_bi F a1 a2 a3 a4 a5 (chs_sound es Γ X P _ F a6)
    · cases h2
  | .bib b n, Γ, X, P, t, e, F, h => by
    simp only [ch, Bool.and_eq_true] at h
    refine both ?_ h.1
    have h2 := h.2
    split at h2
    · simp only [Bool.and_eq_true, decide_eq_true_eq] at h2
      obtain ⟨⟨⟨⟨a1, a2⟩, a3⟩, a4⟩, a5⟩ := h2
      exact e_bib F a1 a2 a3 a4 a5
    · cases h2
  | .isi a ty, Γ, X, P, t, e, F, h => by
    simp only [ch, Bool.and_eq_true] at h
    refine both ?_ h.1
    have h2 := h.2
    split at h2
    · simp only [Bool.and_eq_true, decide_eq_true_eq, Bool.not_eq_true'] at h2
      obtain ⟨⟨⟨⟨⟨⟨a1, a2⟩, a3⟩, a4⟩, a5⟩, a6⟩, a7⟩ := h2
      exact e_isis F a1 a2 a3 a4 a5 ((ch_sound a Γ X P false _ F a7).1 rfl) a6
    · cases h2
  | .lc c tg ki its cs vs, Γ, X, P, t, e, F, h => by
    simp only [ch, Bool.and_eq_true] at h
    refine both ?_ h.1
    have h2 := h.2
    split at h2
    · simp only [Bool.and_eq_true, decide_eq_true_eq, Bool.not_eq_true'] at h2
      obtain ⟨⟨⟨⟨⟨⟨⟨⟨a1, a2⟩, a3⟩, a4⟩, a5⟩, a6⟩, a7⟩, a8⟩, a9⟩ := h2
      have ok := blkOk_by a2
      refine LcOk.pe ⟨i_any F ?_, by rw [F.N, F.sc]; exact ok, fun s H C cl fp => chTg_sound (F.blk ok.kind s H C cl fp) tg _ a7,
        fun s H C cl fp => cht_sound cs _ _ _ _ (F.blk ok.kind s H C cl fp) a8, fun s H C cl fp => (ch_sound c _ _ _ false _ (F.blk ok.kind s H C cl fp) a9).1 rfl, a1, by rw [F.N]; exact a3, a4, a5⟩ F.K F.calm (by rw [F.N]; exact F.nd)
      cases ki with
      | seq => exact chs_sound its Γ X P _ F a6
      | rng =>
        simp only at a6 ⊢
        split at a6
        · simp only [Bool.and_eq_true, decide_eq_true_eq, Bool.or_eq_true] at a6
          obtain ⟨⟨⟨b1, b2⟩, b3⟩, b4⟩ := a6
          exact ⟨_, _, _, _, rfl, b1, b2, b3, chs_sound its Γ X P _ F b4⟩
        · cases a6
      | zip => cases a6
    · cases h2
  | .rev a, Γ, X, P, t, e, F, h => by
    simp only [ch, Bool.and_eq_true] at h
    refine both ?_ h.1
    have h2 := h.2
    split at h2
    · obtain ⟨h3, h4⟩ := (Bool.and_eq_true _ _).mp h2
      obtain rfl := of_decide_eq_true h3
      exact e_rev F.K ((ch_sound a Γ X P false _ F h4).1 rfl)
    · cases h2
  | .idx a b, Γ, X, P, t, e, F, h => by
    simp only [ch, Bool.and_eq_true] at h
    refine both ?_ h.1
    have h2 := h.2
    split at h2
    · simp only [Bool.and_eq_true, decide_eq_true_eq, Bool.not_eq_true'] at h2
      obtain ⟨⟨⟨⟨⟨a1, a2⟩, a3⟩, a4⟩, a5⟩, a6⟩ := h2
      exact e_idxs F a1 a2 a3 a4 ((ch_sound a Γ X P false _ F a5).1 rfl) ((ch_sound b Γ X P false _ F a6).1 rfl)
    · cases h2
  | .srt f a, Γ, X, P, t, e, F, h => by
    simp only [ch, Bool.and_eq_true] at h
    refine both ?_ h.1
    have h2 := h.2
    split at h2
    · simp only [Bool.and_eq_true, decide_eq_true_eq, Bool.not_eq_true'] at h2
      obtain ⟨⟨⟨⟨⟨⟨⟨a1, a2⟩, a3⟩, a4⟩, a5⟩, a6⟩, a7⟩, a8⟩ := h2
      subst a1 a2
      split at a3
      · rename_i i n hf
        simp only [Bool.and_eq_true, decide_eq_true_eq] at a3
        obtain ⟨rfl, rfl⟩ := a3
        exact e_srts F hf a4 a5 a6 ((ch_sound a Γ X P false _ F a8).1 rfl) a7
      · cases a3
    · cases h2
  | .pop _, Γ, X, P, t, e, F, h => by simp [ch] at h
  | .abs, Γ, X, P, t, e, F, h => by simp [ch] at h
theorem chs_sound : ∀ (cs : List C) (Γ : Gm) (X : Cx) (P : Par) (es : List Expr), Fit CX W k Γ X P → chs Γ cs es = true → All2 X P cs es
  | [], Γ, X, P, es, F, h => by
    cases es with
    | nil => trivial
    | cons e es => simp [chs] at h
  | c :: cs, Γ, X, P, es, F, h => by
    cases es with
    | nil => simp [chs] at h
    | cons e es =>
      simp only [chs, Bool.and_eq_true, Bool.not_eq_true'] at h
      exact ⟨h.1.1, (ch_sound c Γ X P false e F h.1.2).1 rfl, chs_sound cs Γ X P es F h.2⟩
theorem cht_sound : ∀ (cs : List C) (Γ : Gm) (X : Cx) (P : Par) (es : List Expr), Fit CX W k Γ X P → cht Γ cs es = true → PTs X es (tTs P cs)
  | [], Γ, X, P, es, F, h => by
    cases es with
    | nil => exact ts_nil
    | cons e es => simp [cht] at h
  | c :: cs, Γ, X, P, es, F, h => by
    simp only [cht] at h
    split at h
    · have s1 := ((ch_sound c Γ X P true _ F h).2 rfl).1
      exact PTs_imp (ts_one s1) fun σ H Q ⟨ts, cs', τ, R, r⟩ => ⟨ts, cs', τ, R, by simp only [evt] at r ⊢; exact r⟩
    · cases h
end
end
end PV

/-! PvR0: raise, try. -/
namespace PV
open PySem L2

/-- what the written part says of an own class of errors, made without own __init__ -/
structure ExcK (K : PySem.W.Frag) (mg : Str → Option Value) (x : Str) (C : Addr) : Prop where
  m : mg x = some (.ref C)
  ex : ∃ (bmB : List Value) (B newId initId : String), ExcBaseFacts B newId initId bmB ∧ PySem.W.excIn K C bmB newId = true
  kp : PySem.W.keepIn K (.ref C) = true
  r1 : PySem.W.subIn K (.ref C) (.type "BaseException") = some true
  r2 : PySem.W.typeIn K (.ref C) = some (.type "type")
/-- .. of a class that is asked for -/
structure EcK (K : PySem.W.Frag) (mg : Str → Option Value) (ca : Nat → Addr) (n : Nat) (x : Str) (cl : List Nat) : Prop where
  nm : ∃ (v : V) (cv : Value), RelV v cv ∧ (∀ u, RelV v u → u = cv) ∧ (mg x = some cv ∨ (mg x = none ∧ bootBuiltins x = some cv ∧ x ≠ "__name__")) ∧
    (∀ c, c < n → PySem.W.exmOne K (.ref (ca c)) cv = some (cl.contains c)) ∧ ∀ c, c < n → PySem.W.kitOne K (.ref (ca c)) cv = some (cl.contains c)
structure XsAt (K : PySem.W.Frag) (mg : Str → Option Value) (ca : Nat → Addr) (xs : Xs) : Prop where
  ex : ∀ x c, xs.ex.lookup x = some c → ∃ fs, xs.fl[c]? = some fs ∧ (fs = [] → ExcK K mg x (ca c))
  ec : ∀ x cl, xs.ec.lookup x = some cl → EcK K mg ca xs.fl.length x cl
  is : ∀ c, c < xs.fl.length → ExcC K (ca c)
  nf : ∀ c fs f, xs.fl[c]? = some fs → f ∈ fs → PySem.W.findIn K (.ref (ca c)) f = some none
theorem XsAt.xf {K : PySem.W.Frag} {mg : Str → Option Value} {ca : Nat → Addr} {xs : Xs} (h : XsAt K mg ca xs) {c : Nat} (hc : c < xs.fl.length) : XfC K (ca c) := ⟨(h.is c hc).hg, (h.is c hc).hk, (h.is c hc).hs, (h.is c hc).hd⟩
section
variable {CX : CXT} {W : XW} {k : Nat} {Γ : Gm} {X : Cx} {P : Par}
/-- raise C(e, ..) -/
theorem s_rai (F : Fit CX W k Γ X P) (XA : XsAt X.K X.mg P.ca Γ.xs) (tk : Takes X P.wx) {x : Str} {c : Nat} {e : Expr} {es : List Expr} {ces : List C} {p pos pos' : Pos} (hx : Γ.xs.ex.lookup x = some c) (hf0 : Γ.xs.fl[c]? = some []) (hg : glB Γ.sc x = true) (ho : okName x = true) (a : All2 X P ces (e :: es)) :
    PS X (.Raise (some (.Call (.Name x p) (e :: es) [] pos)) none pos') (tS P (.rai c [] ces)) := by
  obtain ⟨fs, hfs, EK⟩ := XA.ex x c hx
  obtain rfl : fs = [] := Option.some.inj (hfs.symm.trans hf0)
  have EK := EK rfl
  obtain ⟨bmB, B, ni, ii, EF, eq⟩ := EK.ex
  have hs : isStar e = false := by
    have := a.nost
    rw [List.any_cons, Bool.or_eq_false_iff] at this
    exact this.1
  have hs2 : (es.any isStar) = false := by
    have := a.nost
    rw [List.any_cons, Bool.or_eq_false_iff] at this
    exact this.2
  refine PS_imp (ps_raise F.calm tk (pmk_ownA EF eq EK.m EK.kp (raises_own EK.r1 EK.r2) (F.gl hg) a.pa (okName_inv ho).1 (star_of hs) (nostar hs2))) fun D σ H ⟨ts, cs, τ, R, r⟩ => ⟨ts, cs, τ, R, ?_⟩
  simp only [exec, Res.bind] at r
  refine Res.mono r (fun ds s1 r1 us cs1 τ1 H1 e1 e2 R1 => ?_) fun _ _ z => z
  split at r1
  · rename_i hz
    refine ⟨by rw [List.length_map, ← T.ers_length, e1]; exact hz, ?_⟩
    have r2 : Bad P ts ⟨c, []⟩ s1 := r1
    exact r2 σ cs1 τ1 H1 e2 (R1.less (T.oks_append.mp (T.oks_append.mp R1.sat.ofr).1).2 fun b => by simp only [T.exs_append, T.shs_append]; omega) none (.inl ⟨rfl, rfl⟩)
  · exact r1.elim
/-! ### an except suite -/
def chHB (Γ : Gm) (i : Nat) : HB → Expr → Bool
  | .isi cl, e => match e with | .Call (.Name f _) [.Name y _, .Name z _] [] _ => decide (f = ("isinstance" : Str)) && glB Γ.sc f && slotB Γ i y && decide (Γ.xs.ec.lookup z = some cl) && glB Γ.sc z && okName z | _ => false
  | .and a b, e => match e with
    | .BoolOp .And [x, y] _ => chHB Γ i a x && chHB Γ i b y
    | .BoolOp .And (x :: y :: z :: r) p => chHB Γ i a x && chHB Γ i b (.BoolOp .And (y :: z :: r) p)
    | _ => false
  | .nt a, e => match e with | .UnaryOp .Not x _ => chHB Γ i a x | _ => false
def chHA (Γ : Gm) (i : Nat) : HA → Expr → Bool
  | .lit d, e => match d, e with
    | .int i, .Constant (.int j) _ _ => decide (i = j) | .bl b, .Constant (.bool c) _ _ => b == c | .str x, .Constant (.str y) _ _ => decide (x = y) | .non, .Constant .none _ _ => true | _, _ => false
  | .fld f, e => match e with | .Attribute (.Name y _) m _ => decide (m = f) && slotB Γ i y | _ => false
def chHAs (Γ : Gm) (i : Nat) : List HA → List Expr → Bool
  | [], es => es.isEmpty
  | a :: as, es => match es with | e :: es => !isStar e && chHA Γ i a e && chHAs Γ i as es | [] => false
def chHE (Γ : Gm) (i : Nat) : HE → Expr → Bool
  | .at a, e => chHA Γ i a e
  | .tup as, e => match e with | .Tuple es _ _ => chHAs Γ i as es | _ => false
  | .ite c a b, e => match e with | .IfExp x y z _ => chHB Γ i c x && chHE Γ i a y && chHE Γ i b z | _ => false
/-- the caught exception: where it stands, its dict, its evaluated form -/
structure Hd (X : Cx) (P : Par) (xs : Xs) (a : Addr) (oe : Obj) (cls : Value) (d : Option Addr) (x : Exn) : Prop where
  fs : xs.fl[x.c]? = some (x.fs.map Prod.fst)
  cl : cls = .ref (P.ca x.c)
  hz : Zc cls d oe
  hf : ∃ vs, oe.data = .fields vs
theorem Hd.lt {xs : Xs} {a : Addr} {oe : Obj} {cls : Value} {d : Option Addr} {x : Exn} (h : Hd X P xs a oe cls d x) : x.c < xs.fl.length := (List.getElem?_eq_some_iff.mp h.fs).1
/-- the exception's slot, its fields -/
def sl (i : Nat) (a : Addr) (d : Option Addr) (x : Exn) (σ : St) (H : Hp) : Prop := σ[i]? = some (some (.ref a)) ∧ ExD x d H
theorem call_isG {a D : Addr} {oe : Obj} {d : Option Addr} {x : Exn} {pn : List (Addr × Obj)} (C : ExcC X.K D) (hz : Zc (.ref D) d oe) (hf : ∃ vs, oe.data = .fields vs) : CallR (X.suite a ((a, oe) :: pn)) (.builtin "isinstance") (fun xs H Q => ExD x d H ∧ rIsE X.K D a xs H Q) := by
  intro pins s σ H xs us Q I r ⟨hd, h⟩
  obtain ⟨c, cv, b, rfl, hcv, e, q⟩ := h
  cases r with
  | cons rx rr =>
    cases rr with
    | cons rt rr =>
      cases rr
      cases rx
      have ec := hcv _ rt
      subst ec
      obtain ⟨hget, _⟩ := I.pin (a, oe) (List.mem_append.mpr (.inl List.mem_cons_self))
      obtain ⟨vs, hv⟩ := hf
      obtain ⟨od, J⟩ : ∃ od, PySem.W.InstAt s.heap a oe D od := by
        obtain ⟨oc, odd, oda, osl⟩ := oe
        obtain ⟨h1, h2⟩ := hz
        dsimp only at h1 h2 hv
        subst h1 h2 hv
        rcases hd with ⟨_, rfl⟩ | ⟨_, dd, rfl, hH⟩
        · exact ⟨none, hget, rfl, rfl, trivial⟩
        · have hx : ObjOk X.prog X.w H s.heap dd (.xd _) := I.hok dd _ hH
          obtain ⟨mA, hns, _⟩ := hx
          obtain ⟨o, ho, _⟩ := lookIn_ns hns
          exact ⟨some o, hget, rfl, rfl, ho⟩
      obtain ⟨cdD, hcD, _⟩ := PySem.W.any_some C.hd
      exact PySem.W.kia_one (PySem.W.kitx_exc (by rw [hcD]; rfl) C.hg C.hk C.hs C.ha C.hn C.ht C.hm) I.kIn J e (fun z => nomatch z) fun tk => ⟨.bl b, H, I.kept (t' := tk) fun _ _ z => z, rfl, q⟩
theorem e_isE (F : Fit CX W k Γ X P) (XA : XsAt X.K X.mg P.ca Γ.xs) {i : Nat} {a : Addr} {oe : Obj} {cls : Value} {d : Option Addr} {x : Exn} (h : Hd X P Γ.xs a oe cls d x) (pn : List (Addr × Obj)) {f y z : Str} {cl : List Nat} {p1 p2 p3 pos : Pos}
    (hf : f = ("isinstance" : Str)) (hg : glB Γ.sc f = true) (hy : slotB Γ i y = true) (hc : Γ.xs.ec.lookup z = some cl) (hgz : glB Γ.sc z = true) (hoz : okName z = true) :
    PE (X.suite a ((a, oe) :: pn)) (.Call (.Name f p1) [.Name y p2, .Name z p3] [] pos) (fun σ H Q => sl i a d x σ H ∧ Q (.bl (cl.contains x.c)) H) := by
  subst hf
  obtain ⟨v, cv, rv, uq, nm, _, ki⟩ := (XA.ec z cl hc).nm
  obtain ⟨q1, q2, q3, q4⟩ := F.slot hy
  obtain ⟨o1, o2, o3⟩ := okName_inv hoz
  have hz' : Zc (.ref (P.ca x.c)) d oe := h.cl ▸ h.hz
  have pz : PE (X.suite a ((a, oe) :: pn)) (.Name z p3) (tC v) := by
    rcases nm with m | ⟨m, bb, nn⟩
    · exact pe_glob (X := X.suite a ((a, oe) :: pn)) (F.gl hgz) m rv o1
    · exact pe_bltn (X := X.suite a ((a, oe) :: pn)) (F.gl hgz) m bb rv nn o1
  refine PE_imp (pe_callB (X := X.suite a ((a, oe) :: pn)) (call_isG (x := x) (XA.is x.c h.lt) hz' h.hf) (F.gl hg) (F.mg0 _ (by decide +kernel)) (by decide +kernel)
    (pa_cons (pe_var (X := X.suite a ((a, oe) :: pn)) q1 q2 q3 q4) (pa_cons pz pa_nil (star_of rfl)) (star_of rfl)) (by decide) (by decide) (star_of rfl) rfl) fun σ H Q ⟨h1, h2⟩ => ?_
  exact ⟨.ref a, h1.1, h1.2, v, cv, cl.contains x.c, rfl, uq, ki x.c h.lt, h2⟩
theorem hb_sound (F : Fit CX W k Γ X P) (XA : XsAt X.K X.mg P.ca Γ.xs) {i : Nat} {a : Addr} {oe : Obj} {cls : Value} {d0 : Option Addr} {x : Exn} (h : Hd X P Γ.xs a oe cls d0 x) (pn : List (Addr × Obj)) : ∀ (b : HB) (e : Expr), chHB Γ i b e = true →
    PE (X.suite a ((a, oe) :: pn)) e (fun σ H Q => sl i a d0 x σ H ∧ Q (.bl (hbS b x.c)) H) ∧ PT (X.suite a ((a, oe) :: pn)) e (fun σ H Q => sl i a d0 x σ H ∧ Q (hbS b x.c) H) ∧
      ∀ p, (e.pos = p → True) → (∃ es, e = .BoolOp .And es p) → PW (X.suite a ((a, oe) :: pn)) e (fun σ H Q => sl i a d0 x σ H ∧ Q (hbS b x.c) H)
  | .isi cl, e, hc => by
    simp only [chHB] at hc
    split at hc
    · simp only [Bool.and_eq_true, decide_eq_true_eq] at hc
      obtain ⟨⟨⟨⟨⟨c1, c2⟩, c3⟩, c4⟩, c5⟩, c6⟩ := hc
      have pe := fun p1 p2 p3 pos => e_isE F XA h pn (p1 := p1) (p2 := p2) (p3 := p3) (pos := pos) c1 c2 c3 c4 c5 c6
      refine ⟨pe _ _ _ _, PT_imp (pt_val (pe _ _ _ _)) fun σ H Q ⟨h1, h2⟩ => ⟨h1, _, rfl, h2⟩, fun p _ ⟨es, he⟩ => by cases he⟩
    · cases hc
  | .nt b, e, hc => by
    simp only [chHB] at hc
    split at hc
    · obtain ⟨h1, h2, _⟩ := hb_sound F XA h pn b _ hc
      refine ⟨PE_imp (pe_not h1) fun σ H Q ⟨s, q⟩ => ⟨s, _, rfl, q⟩, PT_imp (pt_not h2) fun σ H Q q => q, fun p _ ⟨es, he⟩ => by cases he⟩
    · cases hc
  | .and b c, e, hc => by
    have mk : ∀ {e1 e2 : Expr} {rest : List Expr} {p : Pos}, PE (X.suite a ((a, oe) :: pn)) e1 (fun σ H Q => sl i a d0 x σ H ∧ Q (.bl (hbS b x.c)) H) → PE (X.suite a ((a, oe) :: pn)) (.BoolOp .And (e2 :: rest) p) (fun σ H Q => sl i a d0 x σ H ∧ Q (.bl (hbS c x.c)) H) →
        PE (X.suite a ((a, oe) :: pn)) (.BoolOp .And (e1 :: e2 :: rest) p) (fun σ H Q => sl i a d0 x σ H ∧ Q (.bl (hbS (.and b c) x.c)) H) := fun {e1 e2 rest p} h1 h2 => PE_imp (pe_and h1 h2) fun σ H Q ⟨s, q⟩ => by
      refine ⟨s, _, rfl, ?_⟩
      simp only [hbS] at q
      cases hb : hbS b x.c with
      | true => rw [hb, Bool.true_and] at q; rw [if_pos rfl]; exact ⟨s, q⟩
      | false => rw [hb, Bool.false_and] at q; rw [if_neg Bool.false_ne_true]; exact q
    have mw : ∀ {e1 e2 : Expr} {rest : List Expr} {p : Pos}, PT (X.suite a ((a, oe) :: pn)) e1 (fun σ H Q => sl i a d0 x σ H ∧ Q (hbS b x.c) H) → PW (X.suite a ((a, oe) :: pn)) (.BoolOp .And (e2 :: rest) p) (fun σ H Q => sl i a d0 x σ H ∧ Q (hbS c x.c) H) →
        PW (X.suite a ((a, oe) :: pn)) (.BoolOp .And (e1 :: e2 :: rest) p) (fun σ H Q => sl i a d0 x σ H ∧ Q (hbS (.and b c) x.c) H) := fun {e1 e2 rest p} h1 h2 => ⟨fun wh pins s σ H Q I ⟨s', q⟩ => (pw_and h1 h2).run wh pins s σ H Q I (by
      refine ⟨s', ?_⟩
      simp only [hbS] at q
      cases hb : hbS b x.c with
      | true => rw [hb, Bool.true_and] at q; rw [if_pos rfl]; exact ⟨s', q⟩
      | false => rw [hb, Bool.false_and] at q; rw [if_neg Bool.false_ne_true]; exact q)⟩
    simp only [chHB] at hc
    split at hc
    · rename_i e1 e2 p
      rw [Bool.and_eq_true] at hc
      obtain ⟨a1, a2, _⟩ := hb_sound F XA h pn b _ hc.1
      obtain ⟨b1, b2, _⟩ := hb_sound F XA h pn c _ hc.2
      have w := mw (p := p) a2 (pw_and1 b2)
      exact ⟨mk a1 (pe_one b1), w.pt, fun p' _ ⟨es, he⟩ => by cases he; exact w⟩
    · rename_i e1 e2 e3 r p
      rw [Bool.and_eq_true] at hc
      obtain ⟨a1, a2, _⟩ := hb_sound F XA h pn b _ hc.1
      obtain ⟨b1, _, b3⟩ := hb_sound F XA h pn c _ hc.2
      have w := mw (p := p) a2 (b3 p (fun _ => trivial) ⟨_, rfl⟩)
      exact ⟨mk a1 b1, w.pt, fun p' _ ⟨es, he⟩ => by cases he; exact w⟩
    · cases hc
/-! what a suite says, as values -/
def rHA (x : Exn) (a : HA) : TE := fun _ H Q => ∃ dv, haS a x = some dv ∧ Q (sV dv) H
def rHAs (x : Exn) (as : List HA) : TA := fun _ H Q => ∃ ds, hasS as x = some ds ∧ Q (ds.map sV) H
/-- a told value: a scalar, a new tuple of scalars -/
def Told (o : Option D) (H : Hp) (Q : VK) : Prop := match o with
  | some (.tup l) => l.length ≤ 1000 ∧ ∀ p, H p = none → Q (.ref p) (upd H p (.tup (l.map sV)))
  | some d => Q (sV d) H
  | none => False
def rHE (i : Nat) (a : Addr) (d0 : Option Addr) (x : Exn) (e : HE) : TE := fun σ H Q => sl i a d0 x σ H ∧ Told (heS e x) H Q
theorem scal_tup {l : List D} : scal (.tup l) = false := rfl
theorem haS_scal {a : HA} {x : Exn} {d : D} (h : haS a x = some d) : scal d = true := by
  cases a with
  | lit e =>
    simp only [haS] at h
    split at h
    · cases h; assumption
    · cases h
  | fld f =>
    simp only [haS] at h
    cases hl : x.fs.lookup f with
    | none => rw [hl] at h; cases h
    | some e =>
      rw [hl, Option.bind_some] at h
      split at h
      · cases h; assumption
      · cases h
theorem told_scal {d : D} {H : Hp} {Q : VK} (h : scal d = true) (t : Told (some d) H Q) : Q (sV d) H := by
  cases d <;> first | (simp [scal] at h; done) | exact t
theorem ha_sound (F : Fit CX W k Γ X P) (XA : XsAt X.K X.mg P.ca Γ.xs) {i : Nat} {a : Addr} {oe : Obj} {cls : Value} {d0 : Option Addr} {x : Exn} (h : Hd X P Γ.xs a oe cls d0 x) (pn : List (Addr × Obj)) : ∀ (b : HA) (e : Expr), chHA Γ i b e = true → PE (X.suite a ((a, oe) :: pn)) e (fun σ H Q => sl i a d0 x σ H ∧ rHA x b σ H Q)
  | .lit d, e, hc => by
    simp only [chHA] at hc
    split at hc
    · obtain rfl := of_decide_eq_true hc
      exact PE_imp pe_int fun σ H Q ⟨_, dv, e1, q⟩ => by cases e1; exact q
    · obtain rfl := beq_iff_eq.mp hc
      exact PE_imp pe_bl fun σ H Q ⟨_, dv, e1, q⟩ => by cases e1; exact q
    · obtain rfl := of_decide_eq_true hc
      exact PE_imp pe_str fun σ H Q ⟨_, dv, e1, q⟩ => by cases e1; exact q
    · exact PE_imp pe_non fun σ H Q ⟨_, dv, e1, q⟩ => by cases e1; exact q
    · cases hc
  | .fld f, e, hc => by
    simp only [chHA] at hc
    split at hc
    · rename_i y p1 m p2
      simp only [Bool.and_eq_true, decide_eq_true_eq] at hc
      obtain ⟨rfl, hy⟩ := hc
      obtain ⟨q1, q2, q3, q4⟩ := F.slot hy
      by_cases hm : m ∈ x.fs.map Prod.fst
      · have hno := XA.nf x.c _ m h.fs hm
        have hz' : Zc cls d0 oe := h.hz
        refine PE_imp (pe_xf (C := P.ca x.c) (XA.xf h.lt) hno hz' h.hf (pe_var (X := X.suite a ((a, oe) :: pn)) q1 q2 q3 q4) rfl) fun σ H Q ⟨⟨s1, hd⟩, dv, e1, q⟩ => ?_
        refine ⟨.ref a, s1, rfl, h.cl, ?_⟩
        rcases hd with ⟨e0, _⟩ | ⟨_, dd, e2, hH⟩
        · rw [e0] at hm; simp at hm
        · refine ⟨dd, _, sV dv, e2, hH, ?_, q⟩
          simp only [haS] at e1
          have lk : ∀ (l : List (Str × D)) (v : D), l.lookup m = some v → (l.map fun p => (p.1, sV p.2)).lookup m = some (sV v) := by
            intro l
            induction l with
            | nil => intro v hv; cases hv
            | cons p l ih =>
              intro v hv
              rw [List.map_cons, List.lookup_cons]
              rw [List.lookup_cons] at hv
              cases hb : m == p.1 with
              | true => rw [hb] at hv; cases hv; rfl
              | false => rw [hb] at hv; exact ih v hv
          cases hl : x.fs.lookup m with
          | none => rw [hl] at e1; cases e1
          | some v =>
            rw [hl, Option.bind_some] at e1
            split at e1
            · cases e1; exact lk _ _ hl
            · cases e1
      · refine ⟨fun pins s σ H Q I ⟨_, dv, e1, _⟩ => ?_⟩
        exfalso
        simp only [haS] at e1
        have : x.fs.lookup m = none := by
          clear e1
          revert hm
          generalize x.fs = l
          induction l with
          | nil => intro _; rfl
          | cons p l ih =>
            intro hm
            rw [List.map_cons, List.mem_cons, not_or] at hm
            rw [List.lookup_cons]
            have : (m == p.1) = false := by simpa using hm.1
            rw [this]
            exact ih hm.2
        rw [this] at e1
        cases e1
    · cases hc
theorem has_sound (F : Fit CX W k Γ X P) (XA : XsAt X.K X.mg P.ca Γ.xs) {i : Nat} {a : Addr} {oe : Obj} {cls : Value} {d0 : Option Addr} {x : Exn} (h : Hd X P Γ.xs a oe cls d0 x) (pn : List (Addr × Obj)) : ∀ (as : List HA) (es : List Expr), chHAs Γ i as es = true → PA (X.suite a ((a, oe) :: pn)) es (fun σ H Q => sl i a d0 x σ H ∧ rHAs x as σ H Q)
  | [], es, hc => by
    simp only [chHAs, List.isEmpty_iff] at hc
    subst hc
    exact ⟨fun pos pins s σ H Q I ⟨_, ds, e, q⟩ => by cases e; exact (pa_nil (X := X.suite a ((a, oe) :: pn))).run pos pins s σ H Q I q⟩
  | b :: as, es, hc => by
    cases es with
    | nil => cases hc
    | cons e es =>
      simp only [chHAs, Bool.and_eq_true, Bool.not_eq_true'] at hc
      have p := pa_cons (ha_sound F XA h pn b e hc.1.2) (has_sound F XA h pn as es hc.2) (star_of hc.1.1)
      refine ⟨fun pos pins s σ H Q I ⟨s1, ds, e1, q⟩ => p.run pos pins s σ H Q I ?_⟩
      simp only [hasS] at e1
      cases h1 : haS b x with
      | none => rw [h1] at e1; cases e1
      | some d =>
        rw [h1, Option.bind_some] at e1
        cases h2 : hasS as x with
        | none => rw [h2] at e1; cases e1
        | some l =>
          rw [h2] at e1
          cases e1
          exact ⟨s1, d, h1, s1, l, h2, q⟩
theorem he_sound (F : Fit CX W k Γ X P) (XA : XsAt X.K X.mg P.ca Γ.xs) {i : Nat} {a : Addr} {oe : Obj} {cls : Value} {d0 : Option Addr} {x : Exn} (h : Hd X P Γ.xs a oe cls d0 x) (pn : List (Addr × Obj)) : ∀ (b : HE) (e : Expr), chHE Γ i b e = true →
    PE (X.suite a ((a, oe) :: pn)) e (rHE i a d0 x b)
  | .at b, e, hc => PE_imp (ha_sound F XA h pn b e hc) fun σ H Q ⟨s1, t⟩ => by
    cases hb : haS b x with
    | none => simp only [heS, hb] at t; exact t.elim
    | some d => simp only [heS, hb] at t; exact ⟨s1, d, hb, told_scal (haS_scal hb) t⟩
  | .tup as, e, hc => by
    simp only [chHE] at hc
    split at hc
    · refine PE_imp (pe_tup (has_sound F XA h pn as _ hc)) fun σ H Q ⟨s1, t⟩ => ?_
      simp only [heS] at t
      cases hb : hasS as x with
      | none => rw [hb] at t; exact t.elim
      | some l =>
        rw [hb, Option.bind_some] at t
        split at t
        · refine ⟨s1, l, hb, ?_, t.2⟩
          rw [List.length_map]
          exact Nat.le_trans t.1 (by decide)
        · exact t.elim
    · cases hc
  | .ite c b d, e, hc => by
    simp only [chHE] at hc
    split at hc
    · rw [Bool.and_eq_true, Bool.and_eq_true] at hc
      refine PE_imp (pe_ifExp (hb_sound F XA h pn c _ hc.1.1).2.1 (he_sound F XA h pn b _ hc.1.2) (he_sound F XA h pn d _ hc.2)) fun σ H Q ⟨s, t⟩ => ⟨s, ?_⟩
      simp only [heS] at t
      cases hb : hbS c x.c with
      | true => rw [hb, if_pos rfl] at t; rw [if_pos rfl]; exact ⟨s, t⟩
      | false => rw [hb, if_neg Bool.false_ne_true] at t; rw [if_neg Bool.false_ne_true]; exact ⟨s, t⟩
    · cases hc
def chHS (Γ : Gm) (i : Nat) : HS → List Stmt → Bool
  | .ret e, st => match st with | [.Return (some E) _] => chHE Γ i e E | _ => false
  | .two j c a b, st => match st with
    | [.Assign [.Name y py] C _, .Return (some (.IfExp (.Name z _) A B _)) _] => tgtB Γ j y && slotB Γ j z && decide (j ≠ i) && noComp0 C && chHB Γ i c C && chHE Γ i a A && chHE Γ i b B
    | _ => false
where noComp0 : Expr → Bool
  | .ListComp _ _ _ _ => false | .SetComp _ _ _ _ => false | .DictComp _ _ _ _ _ => false | _ => true
def rHS (i : Nat) (a : Addr) (d0 : Option Addr) (x : Exn) (h : HS) : TS := fun D σ H => ((σ[i]? = some (some (.ref a)) ∨ σ.length ≤ i) ∧ ExD x d0 H) ∧ Told (hsS h x) H D.rt
theorem hs_sound (F : Fit CX W k Γ X P) (XA : XsAt X.K X.mg P.ca Γ.xs) {i : Nat} {n : Str} (hi : Γ.N[i]? = some n) {a : Addr} {oe : Obj} {cls : Value} {d0 : Option Addr} {x : Exn} (h : Hd X P Γ.xs a oe cls d0 x) (pn : List (Addr × Obj)) (b : HS) (st : List Stmt) (hc : chHS Γ i b st = true) :
    PSs (X.suite a ((a, oe) :: pn)) st (rHS i a d0 x b) := by
  have slof : ∀ {σ : St} {H : Hp}, σ.length = X.N.length → ((σ[i]? = some (some (.ref a)) ∨ σ.length ≤ i) ∧ ExD x d0 H) → sl i a d0 x σ H := fun {σ H} e ⟨q, q'⟩ => by
    rcases q with q | q
    · exact ⟨q, q'⟩
    · have := (List.getElem?_eq_some_iff.mp hi).1
      rw [e, F.N] at q
      omega
  cases b with
  | ret e =>
    simp only [chHS] at hc
    split at hc
    · refine ⟨fun pins s σ H D I ⟨q1, q2⟩ => (pss_one (ps_ret (he_sound F XA h pn e _ hc))).run pins s σ H D I ⟨slof I.len q1, q2⟩⟩
    · cases hc
  | two j c e1 e2 =>
    simp only [chHS] at hc
    split at hc
    · rename_i y py C pos z pz A B p1 p2
      simp only [Bool.and_eq_true, decide_eq_true_eq] at hc
      obtain ⟨⟨⟨⟨⟨⟨c1, c2⟩, c3⟩, c4⟩, c5⟩, c6⟩, c7⟩ := hc
      unfold tgtB at c1
      simp only [Bool.and_eq_true, decide_eq_true_eq] at c1
      obtain ⟨q1, q2, q3, q4⟩ := F.slot c2
      have hN : (X.suite a ((a, oe) :: pn)).N.Nodup := by show X.N.Nodup; rw [F.N]; exact F.nd
      have hj : (X.suite a ((a, oe) :: pn)).N[j]? = some y := by show X.N[j]? = _; rw [F.N]; exact c1.1.1
      have sw : swapsWith C (some (.Name y py)) pos.line (X.suite a ((a, oe) :: pn)).env = pure false := by
        cases C <;> first | rfl | (simp [chHS.noComp0] at c4)
      have p := pss_cons (ps_set (X := X.suite a ((a, oe) :: pn)) (pos := pos) (pos' := py) hN hj (F.loc c1.1.2) (hb_sound F XA h pn c C c5).1 sw (F.own _ c1.2))
        (pss_one (ps_ret (pos := p2) (pe_ifExp (pos := p1) (pt_val (pe_var (X := X.suite a ((a, oe) :: pn)) (pos := pz) q1 q2 q3 q4)) (he_sound F XA h pn e1 A c6) (he_sound F XA h pn e2 B c7))))
      refine ⟨fun pins s σ H D I ⟨q1, q2⟩ => p.run pins s σ H D I ?_⟩
      have hs := slof I.len q1
      have hjl : j < σ.length := by
        have hl : σ.length = X.N.length := I.len
        have := (List.getElem?_eq_some_iff.mp c1.1.1).1
        rw [hl, F.N]; exact this
      have s' : sl i a d0 x (σ.set j (some (.bl (hbS c x.c)))) H := by
        unfold sl at hs ⊢
        rw [List.getElem?_set_ne c3]; exact hs
      refine ⟨hs, ?_⟩
      refine ⟨.bl (hbS c x.c), by rw [List.getElem?_set_self hjl], hbS c x.c, rfl, ?_⟩
      simp only [hsS] at q2
      cases hb : hbS c x.c with
      | true => rw [hb, if_pos rfl] at q2; rw [if_pos rfl]; rw [hb] at s'; exact ⟨s', q2⟩
      | false => rw [hb, if_neg Bool.false_ne_true] at q2; rw [if_neg Bool.false_ne_true]; rw [hb] at s'; exact ⟨s', q2⟩
    · cases hc
/-! a told value's tree -/
def scT : D → T
  | .int i => .int i | .bl b => .bl b | .str x => .str x | _ => .non
theorem scT_er {d : D} (h : scal d = true) : (scT d).er = d := by cases d <;> first | rfl | (simp [scal] at h)
theorem scT_val {d : D} (h : scal d = true) : (scT d).val = sV d := by cases d <;> first | rfl | (simp [scal] at h)
theorem scT_z (d : D) (a : Addr) : (scT d).ex a = 0 ∧ (scT d).sh a = 0 := by cases d <;> exact ⟨rfl, rfl⟩
theorem scT_ok (d : D) {K : KW} {H : Hp} {ad : List Addr} : (scT d).ok K H ad := by cases d <;> exact trivial
theorem scTs (l : List D) (h : l.all scal = true) : T.ers (l.map scT) = l ∧ (l.map scT).map T.val = l.map sV ∧ (∀ a, T.exs (l.map scT) a = 0 ∧ T.shs (l.map scT) a = 0) ∧ ∀ (K : KW) (H : Hp) (ad : List Addr), T.oks K H ad (l.map scT) := by
  induction l with
  | nil => exact ⟨rfl, rfl, fun _ => ⟨rfl, rfl⟩, fun _ _ _ => trivial⟩
  | cons d l ih =>
    simp only [List.all_cons, Bool.and_eq_true] at h
    obtain ⟨a1, a2, a3, a4⟩ := ih h.2
    refine ⟨by rw [List.map_cons, T.ers, scT_er h.1, a1], by rw [List.map_cons, List.map_cons, scT_val h.1, a2, List.map_cons], fun a => ?_, fun K H ad => ⟨scT_ok d, a4 K H ad⟩⟩
    have := scT_z d a; have := a3 a
    simp only [List.map_cons, T.exs, T.shs]; omega
theorem hasS_scal : ∀ {as : List HA} {x : Exn} {l : List D}, hasS as x = some l → l.all scal = true
  | [], x, l, h => by cases h; rfl
  | a :: as, x, l, h => by
    simp only [hasS] at h
    cases h1 : haS a x with
    | none => rw [h1] at h; cases h
    | some d =>
      rw [h1, Option.bind_some] at h
      cases h2 : hasS as x with
      | none => rw [h2] at h; cases h
      | some l' =>
        rw [h2] at h; cases h
        rw [List.all_cons, haS_scal h1, hasS_scal h2]; rfl
theorem heS_form : ∀ {e : HE} {x : Exn} {d : D}, heS e x = some d → scal d = true ∨ ∃ l, d = .tup l ∧ l.all scal = true ∧ l.length ≤ 1000
  | .at a, x, d, h => .inl (haS_scal h)
  | .tup as, x, d, h => by
    simp only [heS] at h
    cases hb : hasS as x with
    | none => rw [hb] at h; cases h
    | some l =>
      rw [hb, Option.bind_some] at h
      split at h
      · cases h; exact .inr ⟨l, rfl, hasS_scal hb, by assumption⟩
      · cases h
  | .ite c a b, x, d, h => by
    simp only [heS] at h
    split at h
    · exact heS_form h
    · exact heS_form h
theorem hsS_form {e : HS} {x : Exn} {d : D} (h : hsS e x = some d) : scal d = true ∨ ∃ l, d = .tup l ∧ l.all scal = true ∧ l.length ≤ 1000 := by
  cases e with
  | ret e => exact heS_form h
  | two j c a b =>
    simp only [hsS] at h
    split at h
    · exact heS_form h
    · exact heS_form h
theorem told_of {σ : St} {H : Hp} {ts : List T} {cs : List G} {τ : List (Option T)} {o : Option D} {Q : VK} (R : Rel P σ H ts cs τ) {h : HS} {x : Exn} (ho : hsS h x = o) (q : ∃ d, o = some d ∧ ∀ (t : T) (H' : Hp), T.er t = d → Rel P σ H' (t :: ts) cs τ → Q t.val H') : Told o H Q := by
  obtain ⟨d, rfl, q⟩ := q
  rcases hsS_form ho with hs | ⟨l, rfl, h1, h2⟩
  · have r := q (scT d) H (scT_er hs) (R.push (scT_ok d) (fun a => (scT_z d a).1) fun a => (scT_z d a).2)
    rw [scT_val hs] at r
    cases d <;> first | exact r | (simp [scal] at hs)
  · refine ⟨h2, fun p hp => ?_⟩
    obtain ⟨a1, a2, a3, a4⟩ := scTs l h1
    have R1 : Rel P σ H (l.map scT ++ ts) cs τ := R.less (T.oks_append.mpr ⟨a4 _ _ _, (T.oks_append.mp R.sat.ofr).1⟩) fun a => by have := a3 a; simp only [T.exs_append, T.shs_append]; omega
    have R2 := R1.tup hp
    rw [a2] at R2
    exact q (.tup p (l.map scT)) _ (by rw [T.er, a1]) R2
/-- try: .. except C as e: .. -/
theorem s_tri (F : Fit CX W k Γ X P) (XA : XsAt X.K X.mg P.ca Γ.xs) (tk : Takes X P.wx) (hs : X.stack = X.env :: X.outer) (hf : X.env.frame = some X.env.locals) {i : Nat} {x n : Str} {cl : List Nat} {h : HS} {body suite : List Stmt} {b₀ : Stmt} {kb : List K} {np pos pos' : Pos}
    (hi : Γ.N[i]? = some n) (hln : Γ.sc.names.lookup n = some .local) (hc : Γ.xs.ec.lookup x = some cl) (hg : glB Γ.sc x = true) (ho : okName x = true) (hh : chHS Γ i h (b₀ :: suite) = true)
    (hb : ∀ (W : WX) (pn : List (Addr × Obj)) (xe : Value → Shared → Prop), Takes (X.tr pn xe) W → PassesOwn (model X.prog X.w) X.A X.env xe → PSs (X.tr pn xe) body (tSs { P with wx := W } kb)) :
    PS X (.Try body [.ExceptHandler (some (.Name x np)) (some n) (b₀ :: suite) pos'] [] [] pos) (tS P (.tri kb Γ.xs.fl cl (some i) h)) := by
  obtain ⟨v, cv, rv, uq, nm, ke, _⟩ := (XA.ec x cl hc).nm
  obtain ⟨o1, o2, o3⟩ := okName_inv ho
  have hN : X.N.Nodup := by rw [F.N]; exact F.nd
  refine PS_imp (ps_try_as (i := i) (c := cv) (tb := fun W => tSs { P with wx := W } kb) (ts := fun a cls d => fun D σ H => ∃ x : Exn, Γ.xs.fl[x.c]? = some (x.fs.map Prod.fst) ∧ cls = .ref (P.ca x.c) ∧ rHS i a d x h D σ H) (Wout := P.wx) hs hf hN (by rw [F.N]; exact hi)
    (by show X.env.scope.names.lookup n = _; rw [F.sc]; exact hln) ⟨F.gl hg, o1, by
      rcases nm with m | ⟨m, b, c⟩
      · exact .inl m
      · exact .inr ⟨m, b, c⟩⟩ tk hb (fun a oe cls d pn hz hv => ⟨fun pins s σ H D I ⟨x', e1, e2, q⟩ => (hs_sound F XA hi (a := a) (oe := oe) (cls := cls) (d0 := d) (x := x') ⟨e1, e2, hz, hv⟩ pn h _ hh).run pins s σ H D I q⟩)) fun D σ H ⟨ts, cs, τ, R, r⟩ => ?_
  refine ⟨ts, cs, τ, ⟨R.sat, R.len, R.val, R.pla⟩, ?_⟩
  simp only [exec] at r
  show Res (execs P.env kb (stt cs τ)) _ _
  cases ho' : execs P.env kb (stt cs τ) with
  | bad => rw [ho'] at r; exact r
  | ok fl s1 =>
    rw [ho'] at r
    cases fl with
    | next => exact fun σ' cs' τ' H' e R' => r σ' cs' τ' H' e ⟨R'.sat, R'.len, R'.val, R'.pla⟩
    | brk => exact fun σ' cs' τ' H' e R' => r σ' cs' τ' H' e ⟨R'.sat, R'.len, R'.val, R'.pla⟩
    | cont => exact fun σ' cs' τ' H' e R' => r σ' cs' τ' H' e ⟨R'.sat, R'.len, R'.val, R'.pla⟩
    | ret d => exact fun t σ' cs' τ' H' e1 e R' => r t σ' cs' τ' H' e1 e ⟨R'.sat, R'.len, R'.val, R'.pla⟩
  | exc y s1 =>
    rw [ho'] at r
    intro σ' cs' τ' H' e R'
    have R1 : Rel P σ' H' ts cs' τ' := ⟨R'.sat, R'.len, R'.val, R'.pla⟩
    intro d hd
    simp only [tryS] at r
    split at r
    · rename_i hn
      refine ⟨cl.contains y.c, ke y.c (List.getElem?_eq_some_iff.mp hn).1, fun hcl a ha => ?_, fun hcl => ?_⟩
      · rw [if_pos hcl] at r
        refine ⟨y, hn, rfl, ⟨?_, hd⟩, ?_⟩
        · by_cases hl : i < σ'.length
          · exact .inl (List.getElem?_set_self hl)
          · exact .inr (by rw [List.length_set]; omega)
        · cases ho2 : hsS h y with
          | none => simp only [hdS, ho2] at r; exact r.elim
          | some dv =>
            simp only [hdS, ho2, Out.of_some, Out.bind_ok] at r
            have := told_of R1 (o := some dv) ho2 (Q := D.rt) ⟨dv, rfl, fun t H2 et R2 => r t σ' cs' τ' H2 et e R2⟩
            exact this
      · rw [if_neg (by rw [hcl]; exact Bool.false_ne_true)] at r
        exact r σ' cs' τ' H' e R1 d hd
    · exact r.elim
end
end PV

/-! PvR: the check of statements. -/
namespace PV
open PySem L2

def noComp : Expr → Bool
  | .ListComp _ _ _ _ => false | .SetComp _ _ _ _ => false | .DictComp _ _ _ _ _ => false | _ => true
/-- the comprehension's value goes into the name by the short road -/
def swB (Γ : Gm) (y : Str) (py : Pos) : Expr → Bool
  | .ListComp _ _ s p => decide (Γ.sc.names.lookup y = some .local) && (py.line == p.line) && !(s.names.any fun (n, k) => n == y && (k == .local || k == .cell))
  | .SetComp _ _ _ _ => true | .DictComp _ _ _ _ _ => true | _ => false
def isLcE : Expr → Bool
  | .ListComp _ _ _ _ => true | _ => false
def isTupE : Expr → Bool
  | .Tuple _ _ _ => true | _ => false
def isRetC : HS → List Stmt → Bool
  | .ret (.at (.lit d)), [.Return (some e) _] => (match d, e with
    | .int i, .Constant (.int j) _ _ => decide (i = j) | .bl b, .Constant (.bool c) _ _ => b == c | .str x, .Constant (.str y) _ _ => decide (x = y) | .non, .Constant .none _ _ => true | _, _ => false)
  | _, _ => false
mutual
def chK (Γ : Gm) : K → Stmt → Bool
  | .rai c fs es, st => match st with
    | .Raise (some (.Call (.Name x _) xs [] _)) none _ => decide (Γ.xs.ex.lookup x = some c) && decide (Γ.xs.fl[c]? = some fs) && decide (fs = []) && glB Γ.sc x && okName x && !xs.isEmpty && chs Γ es xs
    | _ => false
  | .tri b fl cl io hd, st => match st with
    | .Try body [.ExceptHandler (some (.Name x _)) nm suite _] [] [] _ => decide (fl = Γ.xs.fl) && decide (Γ.xs.ec.lookup x = some cl) && glB Γ.sc x && okName x && !suite.isEmpty && chKs Γ b body &&
      (match io, nm with
        | some i, some n => decide (Γ.N[i]? = some n) && decide (Γ.sc.names.lookup n = some .local) && chHS Γ i hd suite
        | none, none => isRetC hd suite
        | _, _ => false)
    | _ => false
  | .skip, st => match st with | .Expr (.Constant (.str _) _ _) _ => true | .Pass _ => true | _ => false
  | .ex c, st => match st with | .Expr e _ => noComp e && ch Γ false c e | _ => false
  | .set i c, st => match st with
    | .Assign [.Name y py] e _ => tgtB Γ i y && (!swB Γ y py e || isLcE e) && ch Γ false c e
    | _ => false
  | .bset i c, st => match st with
    | .Assign [.Name y py] e _ => tgtB Γ i y && !Γ.pl.contains i && (!swB Γ y py e || isLcE e) && ch Γ false c e
    | _ => false
  | .unp tg c, st => match st with
    | .Assign [t] e _ => isTupE t && !isTupE e && chTg Γ tg t && ch Γ false c e
    | _ => false
  | .par i j a b, st => match st with
    | .Assign [.Tuple [.Name y py, .Name z pz] _ _] (.Tuple [e, e2] _ _) _ => decide (Γ.N[i]? = some y) && decide (Γ.N[j]? = some z) && decide (Γ.sc.names.lookup y = some .local) && decide (Γ.sc.names.lookup z = some .local) &&
        decide (i ≠ j) && (pz.line == py.line) && !isStar e && !isStar e2 && !([e, e2].all (foldedForSure 8)) && !([e, e2].all (constantsAlone 8)) && ch Γ false a e && ch Γ false b e2
    | _ => false
  | .app n c, st => match st with
    | .Expr (.Call (.Attribute (.Name y _) m apos) [e] [] cpos) _ => decide (m = ("append" : Str)) && slotB Γ n y && (apos.endLine == cpos.line) && !isStar e && ch Γ false c e
    | _ => false
  | .ext n c, st => match st with
    | .Expr (.Call (.Attribute (.Name y _) m apos) [e] [] cpos) _ => decide (m = ("extend" : Str)) && slotB Γ n y && (apos.endLine == cpos.line) && !isStar e && ch Γ false c e
    | _ => false
  | .seti n i c, st => match st with
    | .Assign [.Subscript (.Name y _) a _] e _ => slotB Γ n y && !isSlice a && ch Γ false i a && ch Γ false c e
    | _ => false
  | .ite c a b, st => match st with | .If e x y _ => ch Γ true c e && chKs Γ a x && chKs Γ b y | _ => false
  | .forr tg k its b, st => match st with
    | .For tgt iter body [] _ => !isSetE iter && chTg Γ tg tgt &&
      (match k with
        | .seq => chs Γ its [iter]
        | .rng => (match iter with | .Call (.Name x _) xs [] _ => decide (x = ("range" : Str)) && glB Γ.sc x && (decide (xs.length = 1) || decide (xs.length = 2) || decide (xs.length = 3)) && chs Γ its xs | _ => false)
        | .zip => false) && chKs Γ b body
    | _ => false
  | .whl c b, st => match st with | .While e body [] _ => ch Γ true c e && chKs Γ b body | _ => false
  | .ret c, st => match st with
    | .Return (some e) _ => ch Γ false c e
    | .Return none _ => (match c with | .lit .non => true | _ => false)
    | _ => false
  | .brk, st => match st with | .Break _ => true | _ => false
  | .cont, st => match st with | .Continue _ => true | _ => false
def chKs (Γ : Gm) : List K → List Stmt → Bool
  | [], es => es.isEmpty
  | c :: cs, es => match es with | e :: es => chK Γ c e && chKs Γ cs es | [] => false
end
/-- a def's body: also its exceptions pass -/
structure FitS (CX : CXT) (W : XW) (k : Nat) (Γ : Gm) (X : Cx) (P : Par) : Prop where
  fit : Fit CX W k Γ X P
  top : Γ.own = none
  pass : PassesOwn (model X.prog X.w) X.A X.env X.xe
  XA : XsAt X.K X.mg P.ca Γ.xs
  tk : Takes X P.wx
  stk : X.stack = X.env :: X.outer
  frm : X.env.frame = some X.env.locals
  cx : CX = L2.CX X.prog X.w
section
variable {CX : CXT} {W : XW} {k : Nat} {Γ : Gm} {X : Cx} {P : Par}
theorem Fit.bk (F : Fit CX W k Γ X P) : X.env.blockKind = .function := by
  unfold Env.blockKind; rw [F.sc, F.kind]; rfl
theorem sw_no {e : Expr} {t : Option Expr} {l : Nat} {env : PySem.Env} (h : noComp e = true) : swapsWith e t l env = pure false := by
  cases e <;> first | rfl | (simp [noComp] at h)
theorem Fit.sw (F : Fit CX W k Γ X P) {e : Expr} {y : Str} {py : Pos} {l : Nat} (h : swB Γ y py e = false) : swapsWith e (some (.Name y py)) l X.env = pure false := by
  cases e <;> first | rfl | (simp [swB] at h; done) | skip
  rename_i elt gs s p
  have e1 : swapsWith (.ListComp elt gs s p) (some (.Name y py)) l X.env = pure (X.env.blockKind == .function && X.env.kindOf y == some .local && py.line == p.line && !(s.names.any fun (n, k) => n == y && (k == .local || k == .cell))) := rfl
  rw [e1, F.bk]
  congr 1
  unfold swB at h
  show (true && (X.env.scope.names.lookup y == some .local) && _ && _) = false
  rw [F.sc]
  by_cases hc : Γ.sc.names.lookup y = some .local
  · rw [decide_eq_true hc] at h
    rw [hc]
    exact h
  · rw [beq_eq_false_iff_ne.mpr hc]; rfl
theorem Fit.swT (F : Fit CX W k Γ X P) {elt : Expr} {gs : List Comprehension} {s : Scope} {p : Pos} {y : Str} {py : Pos} {l : Nat} (h : swB Γ y py (.ListComp elt gs s p) = true) : swapsWith (.ListComp elt gs s p) (some (.Name y py)) l X.env = pure true ∧ X.env.scope.names.lookup y = some .local := by
  have e1 : swapsWith (.ListComp elt gs s p) (some (.Name y py)) l X.env = pure (X.env.blockKind == .function && X.env.kindOf y == some .local && py.line == p.line && !(s.names.any fun (n, k) => n == y && (k == .local || k == .cell))) := rfl
  unfold swB at h
  obtain ⟨h1, h2, h3⟩ := and_three h
  have hc := of_decide_eq_true h1
  refine ⟨?_, by rw [F.sc]; exact hc⟩
  rw [e1, F.bk]
  congr 1
  show (true && (X.env.scope.names.lookup y == some .local) && _ && _) = true
  rw [F.sc, hc, h2, h3]; rfl
theorem asgEach {e : Expr} {env : PySem.Env} (h : isStar e = false) : (assignEach [e] env).map (·.2) = [assign e env] := by
  cases e <;> first | rfl | (simp [isStar] at h)
/-- a comprehension's parts -/
theorem lc_parts (F : Fit CX W k Γ X P) {c : C} {t : Bool} {e : Expr} (hl : isLcE e = true) (h : ch Γ t c e = true) : ∃ c' tg ki its cs vs elt tgt iter ifs scope pos, c = .lc c' tg ki its cs vs ∧ e = .ListComp elt [⟨tgt, iter, ifs, 0⟩] scope pos ∧ LcOk X P c' tg ki its cs vs elt tgt iter ifs scope := by
  cases e <;> simp only [isLcE, Bool.false_eq_true] at hl
  cases c with
  | lit d => cases d <;> simp [ch] at h
  | lc c' tg ki its cs vs =>
    simp only [ch, Bool.and_eq_true] at h
    have h2 := h.2
    split at h2
    · rename_i heq
      cases heq
      simp only [Bool.and_eq_true, decide_eq_true_eq, Bool.not_eq_true'] at h2
      obtain ⟨⟨⟨⟨⟨⟨⟨⟨a1, a2⟩, a3⟩, a4⟩, a5⟩, a6⟩, a7⟩, a8⟩, a9⟩ := h2
      have ok := blkOk_by a2
      refine ⟨c', tg, ki, its, cs, vs, _, _, _, _, _, _, rfl, rfl, i_any F ?_, by rw [F.N, F.sc]; exact ok, fun s H C cl fp => chTg_sound (F.blk ok.kind s H C cl fp) tg _ a7,
        fun s H C cl fp => cht_sound cs _ _ _ _ (F.blk ok.kind s H C cl fp) a8, fun s H C cl fp => (ch_sound c' _ _ _ false _ (F.blk ok.kind s H C cl fp) a9).1 rfl, a1, by rw [F.N]; exact a3, a4, a5⟩
      cases ki with
      | seq => exact chs_sound its Γ X P _ F a6
      | rng =>
        simp only at a6 ⊢
        split at a6
        · simp only [Bool.and_eq_true, decide_eq_true_eq, Bool.or_eq_true] at a6
          obtain ⟨⟨⟨b1, b2⟩, b3⟩, b4⟩ := a6
          exact ⟨_, _, _, _, rfl, b1, b2, b3, chs_sound its Γ X P _ F b4⟩
        · cases a6
      | zip => cases a6
    · cases h2
  | _ => simp [ch] at h
theorem tgt_inv (F : Fit CX W k Γ X P) {i : Nat} {y : Str} (h : tgtB Γ i y = true) : X.N[i]? = some y ∧ Loc X.env.scope y ∧ (X.fn y = true ∨ X.env.scope.names.lookup y = some .local) := by
  unfold tgtB at h
  simp only [Bool.and_eq_true, decide_eq_true_eq] at h
  exact ⟨by rw [F.N]; exact h.1.1, F.loc h.1.2, F.own _ h.2⟩
theorem hfew_of {e : Expr} {cpos : Pos} {env : PySem.Env} (h : isStar e = false) : ((backTo cpos (starEach [e] env)).all (fun x => !x.1) && (backToKw cpos (keywordEach [] env)).all (fun x => x.1.isSome)
      && decide ([e].length + ([] : List Keyword).length + (if ([] : List Keyword).isEmpty then 0 else 1) < 30)) = true := by
  rw [star_of h]; rfl
theorem XE.of_trW {X : Cx} {pn : List (Addr × Obj)} {xe : Value → Shared → Prop} {CX : CXT} (h : CX = L2.CX X.prog X.w) {W : WX} (tk : Takes (X.tr pn xe) W) (σ : St) : PassesAt CX (X.tr pn xe) σ fun cls d H => W cls d σ H := by
  rw [h]; exact passAt tk σ
theorem FitS.tr (F : FitS CX W k Γ X P) {pn : List (Addr × Obj)} {xe : Value → Shared → Prop} {W' : WX} (tk : Takes (X.tr pn xe) W') (ps : PassesOwn (model X.prog X.w) X.A X.env xe) : FitS CX W k Γ (X.tr pn xe) { P with wx := W' } where
  fit := { K := F.fit.K, PW := F.fit.PW, sc := F.fit.sc, kind := F.fit.kind, N := F.fit.N, nd := F.fit.nd, calm := F.fit.calm, room := F.fit.room, room2 := F.fit.room2, gd := F.fit.gd, pl := F.fit.pl, mg0 := F.fit.mg0, own := F.fit.own,
           fns := fun x i n h => ⟨(F.fit.fns x i n h).ex, (F.fit.fns x i n h).len⟩, gls := F.fit.gls, W1 := F.fit.W1, E := fun σ => XE.of_trW F.cx tk σ, cx0 := F.fit.cx0 }
  top := F.top
  pass := ps
  XA := F.XA
  tk := tk
  stk := F.stk
  frm := F.frm
  cx := F.cx
/-- try: .. except C: return a written value -/
theorem s_triO (F : Fit CX W k Γ X P) (XA : XsAt X.K X.mg P.ca Γ.xs) (tk : Takes X P.wx) (hs : X.stack = X.env :: X.outer) (hf : X.env.frame = some X.env.locals) {x : Str} {cl : List Nat} {h : HS} {body suite : List Stmt} {b₀ : Stmt} {kb : List K} {np pos pos' : Pos}
    (hc : Γ.xs.ec.lookup x = some cl) (hg : glB Γ.sc x = true) (ho : okName x = true) (hh : isRetC h (b₀ :: suite) = true)
    (hb : ∀ (W : WX) (pn : List (Addr × Obj)) (xe : Value → Shared → Prop), Takes (X.tr pn xe) W → PassesOwn (model X.prog X.w) X.A X.env xe → PSs (X.tr pn xe) body (tSs { P with wx := W } kb)) :
    PS X (.Try body [.ExceptHandler (some (.Name x np)) none (b₀ :: suite) pos'] [] [] pos) (tS P (.tri kb Γ.xs.fl cl none h)) := by
  obtain ⟨v, cv, rv, uq, nm, ke, _⟩ := (XA.ec x cl hc).nm
  obtain ⟨o1, o2, o3⟩ := okName_inv ho
  unfold isRetC at hh
  split at hh
  · rename_i d e p1 hst
    refine PS_imp (ps_try_only (c := cv) (tb := fun W => tSs { P with wx := W } kb) (ts := fun a cls d' => fun D σ H => D.rt (sV d) H) (Wout := P.wx) hs hf ⟨F.gl hg, o1, by
      rcases nm with m | ⟨m, b, c⟩
      · exact .inl m
      · exact .inr ⟨m, b, c⟩⟩ tk hb (fun a oe cls d' pn hz hv => by
        rw [hst]
        show PSs _ _ (tRet (tC (sV d)))
        refine pss_one (ps_ret ?_)
        split at hh
        · obtain rfl := of_decide_eq_true hh; exact pe_int
        · obtain rfl := beq_iff_eq.mp hh; exact pe_bl
        · obtain rfl := of_decide_eq_true hh; exact pe_str
        · exact pe_non
        · cases hh)) fun D σ H ⟨ts, cs, τ, R, r⟩ => ?_
    have sc : scal d = true := by
      split at hh
      · rfl
      · rfl
      · rfl
      · rfl
      · cases hh
    refine ⟨ts, cs, τ, ⟨R.sat, R.len, R.val, R.pla⟩, ?_⟩
    simp only [exec] at r
    show Res (execs P.env kb (stt cs τ)) _ _
    cases ho' : execs P.env kb (stt cs τ) with
    | bad => rw [ho'] at r; exact r
    | ok fl s1 =>
      rw [ho'] at r
      cases fl with
      | next => exact fun σ' cs' τ' H' e R' => r σ' cs' τ' H' e ⟨R'.sat, R'.len, R'.val, R'.pla⟩
      | brk => exact fun σ' cs' τ' H' e R' => r σ' cs' τ' H' e ⟨R'.sat, R'.len, R'.val, R'.pla⟩
      | cont => exact fun σ' cs' τ' H' e R' => r σ' cs' τ' H' e ⟨R'.sat, R'.len, R'.val, R'.pla⟩
      | ret d => exact fun t σ' cs' τ' H' e1 e R' => r t σ' cs' τ' H' e1 e ⟨R'.sat, R'.len, R'.val, R'.pla⟩
    | exc y s1 =>
      rw [ho'] at r
      intro σ' cs' τ' H' e R'
      have R1 : Rel P σ' H' ts cs' τ' := ⟨R'.sat, R'.len, R'.val, R'.pla⟩
      intro d' hd
      simp only [tryS] at r
      split at r
      · rename_i hn
        refine ⟨cl.contains y.c, ke y.c (List.getElem?_eq_some_iff.mp hn).1, fun hcl a ha => ?_, fun hcl => ?_⟩
        · rw [if_pos hcl] at r
          simp only [hdS, hsS, heS, haS, sc, if_true, Out.of_some, Out.bind_ok] at r
          have := r (scT d) σ' cs' τ' H' (scT_er sc) e (R1.push (scT_ok d) (fun a => (scT_z d a).1) fun a => (scT_z d a).2)
          rw [scT_val sc] at this
          exact this
        · rw [if_neg (by rw [hcl]; exact Bool.false_ne_true)] at r
          exact r σ' cs' τ' H' e R1 d' hd
      · exact r.elim
  · cases hh
mutual
theorem chK_sound : ∀ (c : K) (X : Cx) (P : Par) (st : Stmt), FitS CX W k Γ X P → chK Γ c st = true → PS X st (tS P c)
  | .rai c fs es, X, P, st, F, h => by
    simp only [chK] at h
    split at h
    · rename_i x p xs pos pos'
      simp only [Bool.and_eq_true, decide_eq_true_eq, Bool.not_eq_true'] at h
      obtain ⟨⟨⟨⟨⟨⟨h1, h2⟩, rfl⟩, h3⟩, h4⟩, h5⟩, h6⟩ := h
      cases xs with
      | nil => simp at h5
      | cons e xs => exact s_rai F.fit F.XA F.tk h1 h2 h3 h4 (chs_sound es Γ X P _ F.fit h6)
    · cases h
  | .tri b fl cl io hd, X, P, st, F, h => by
    simp only [chK] at h
    split at h
    · rename_i body x np nm suite p1 p2
      simp only [Bool.and_eq_true, decide_eq_true_eq, Bool.not_eq_true'] at h
      obtain ⟨⟨⟨⟨⟨⟨rfl, h2⟩, h3⟩, h4⟩, h5⟩, h6⟩, h7⟩ := h
      have hb : ∀ (W : WX) (pn : List (Addr × Obj)) (xe : Value → Shared → Prop), Takes (X.tr pn xe) W → PassesOwn (model X.prog X.w) X.A X.env xe → PSs (X.tr pn xe) body (tSs { P with wx := W } b) := fun W' pn xe tk' ps' => chKs_sound b (X.tr pn xe) { P with wx := W' } _ (F.tr tk' ps') h6
      cases suite with
      | nil => simp at h5
      | cons b0 suite =>
        split at h7
        · simp only [Bool.and_eq_true, decide_eq_true_eq] at h7
          exact s_tri F.fit F.XA F.tk F.stk F.frm h7.1.1 h7.1.2 h2 h3 h4 h7.2 hb
        · exact s_triO F.fit F.XA F.tk F.stk F.frm h2 h3 h4 h7 hb
        · cases h7
    · cases h
  | .skip, X, P, st, F, h => by
    simp only [chK] at h
    split at h
    · exact s_doc
    · exact s_pass
    · cases h
  | .ex c, X, P, st, F, h => by
    simp only [chK] at h
    split at h
    · obtain ⟨h1, h2⟩ := (Bool.and_eq_true _ _).mp h
      exact s_ex ((ch_sound c Γ X P false _ F.fit h2).1 rfl) (sw_no h1)
    · cases h
  | .set i c, X, P, st, F, h => by
    simp only [chK] at h
    split at h
    · rename_i y py e pos
      obtain ⟨h1, h2, h3⟩ := and_three h
      obtain ⟨a1, a2, a3⟩ := tgt_inv F.fit h1
      have hN : X.N.Nodup := by rw [F.fit.N]; exact F.fit.nd
      cases hs : swB Γ y py e with
      | false => exact s_set hN a1 a2 ((ch_sound c Γ X P false _ F.fit h3).1 rfl) (F.fit.sw hs) a3
      | true =>
        rw [hs] at h2
        obtain ⟨c', tg, ki, its, cs, vs, elt, tgt, iter, ifs, scope, p2, rfl, rfl, L⟩ := lc_parts F.fit (by simpa using h2) h3
        obtain ⟨b1, b2⟩ := F.fit.swT (l := pos.line) hs
        refine set_of a1 (ps_setLc F.fit.calm hN a1 b2 b1 L.it L.ok L.g L.t L.e (foldSet L.s)) fun σ H Q q => ?_
        rw [L.vv]
        exact lcE F.fit.K L.nd L.sl σ H Q q
    · cases h
  | .bset i c, X, P, st, F, h => by
    simp only [chK] at h
    split at h
    · rename_i y py e pos
      simp only [Bool.and_eq_true, Bool.not_eq_true'] at h
      obtain ⟨⟨⟨h1, hp⟩, h2⟩, h3⟩ := h
      obtain ⟨a1, a2, a3⟩ := tgt_inv F.fit h1
      have hN : X.N.Nodup := by rw [F.fit.N]; exact F.fit.nd
      have hp : P.pl i = false := by rw [F.fit.pl]; exact hp
      cases hs : swB Γ y py e with
      | false => exact s_bset hN a1 a2 ((ch_sound c Γ X P false _ F.fit h3).1 rfl) (F.fit.sw hs) a3 hp
      | true =>
        rw [hs] at h2
        obtain ⟨c', tg, ki, its, cs, vs, elt, tgt, iter, ifs, scope, p2, rfl, rfl, L⟩ := lc_parts F.fit (by simpa using h2) h3
        obtain ⟨b1, b2⟩ := F.fit.swT (l := pos.line) hs
        refine bset_of a1 (ps_setLc F.fit.calm hN a1 b2 b1 L.it L.ok L.g L.t L.e (foldSet L.s)) hp fun σ H Q q => ?_
        rw [L.vv]
        exact lcE F.fit.K L.nd L.sl σ H Q q
    · cases h
  | .unp tg c, X, P, st, F, h => by
    simp only [chK] at h
    split at h
    · rename_i t e pos
      simp only [Bool.and_eq_true, Bool.not_eq_true'] at h
      obtain ⟨⟨⟨h1, h2⟩, h3⟩, h4⟩ := h
      refine s_unp ((ch_sound c Γ X P false _ F.fit h4).1 rfl) (chTg_sound F.fit tg t h3) ?_ ?_ ?_
      · cases t <;> simp only [isTupE, Bool.false_eq_true] at h1
        cases e <;> rfl
      · cases t <;> simp only [isTupE, Bool.false_eq_true] at h1
        cases e <;> first | rfl | (simp [isTupE] at h2)
      · cases t <;> simp only [isTupE, Bool.false_eq_true] at h1
        rfl
    · cases h
  | .par i j a b, X, P, st, F, h => by
    simp only [chK] at h
    split at h
    · rename_i y py z pz k1 pt e e2 k2 pt2 pos
      simp only [Bool.and_eq_true, Bool.not_eq_true', decide_eq_true_eq] at h
      obtain ⟨⟨⟨⟨⟨⟨⟨⟨⟨⟨⟨a1, a2⟩, a3⟩, a4⟩, a5⟩, a6⟩, a7⟩, a8⟩, a9⟩, a10⟩, a11⟩, a12⟩ := h
      have s1 := (ch_sound a Γ X P false _ F.fit a11).1 rfl
      have s2 := (ch_sound b Γ X P false _ F.fit a12).1 rfl
      have hN : X.N.Nodup := by rw [F.fit.N]; exact F.fit.nd
      have l1 : X.env.scope.names.lookup y = some .local := by rw [F.fit.sc]; exact a3
      have l2 : X.env.scope.names.lookup z = some .local := by rw [F.fit.sc]; exact a4
      have hyz : y ≠ z := by
        rintro rfl
        exact a5 ((List.getElem?_inj (List.getElem?_eq_some_iff.mp a1).1 F.fit.nd).mp (a1.trans a2.symm))
      refine s_par F.fit.calm hN (by rw [F.fit.N]; exact a1) (by rw [F.fit.N]; exact a2) a5 l1 l2 (a_cons s1 (a_cons s2 a_nil (star_of a8)) (star_of a7)) ?_ rfl
      have k1 : X.env.kindOf y = some .local := l1
      have k2 : X.env.kindOf z = some .local := l2
      have lp : (pz.line == py.line) = true := a6
      unfold swappedStores
      have hd : ([y, z] : List Str).eraseDups.length = 2 := by
        have : (z == y) = false := beq_eq_false_iff_ne.mpr fun q => hyz q.symm
        simp [List.eraseDups_cons, List.filter, this]
      simp only [F.fit.bk, List.filterMap, k1, k2, List.head?, Option.map, Option.getD, Expr.pos, lp, beq_self_eq_true, Bool.and_self, if_true, a9, a10]
      rw [if_neg (by show ¬ (false = true); exact Bool.false_ne_true), if_neg, if_neg, if_neg Bool.false_ne_true, if_neg Bool.false_ne_true]
      · rw [hd]; show ¬ (false = true); exact Bool.false_ne_true
      · intro q
        simp only [List.any_cons, List.any_nil, Bool.or_false, Bool.or_eq_true] at q
        rcases q with q | q
        · split at q
          · simp [isStar] at a7
          · cases q
        · split at q
          · simp [isStar] at a8
          · cases q
    · cases h
  | .app n c, X, P, st, F, h => by
    simp only [chK] at h
    split at h
    · simp only [Bool.and_eq_true, Bool.not_eq_true', decide_eq_true_eq] at h
      obtain ⟨⟨⟨⟨rfl, h1⟩, h2⟩, h3⟩, h4⟩ := h
      obtain ⟨b1, b2, b3, b4⟩ := F.fit.slot h1
      exact s_app b1 b2 b3 b4 ((ch_sound c Γ X P false _ F.fit h4).1 rfl) h3 h2 rfl (hfew_of h3) rfl
    · cases h
  | .ext n c, X, P, st, F, h => by
    simp only [chK] at h
    split at h
    · simp only [Bool.and_eq_true, Bool.not_eq_true', decide_eq_true_eq] at h
      obtain ⟨⟨⟨⟨rfl, h1⟩, h2⟩, h3⟩, h4⟩ := h
      obtain ⟨b1, b2, b3, b4⟩ := F.fit.slot h1
      exact s_ext b1 b2 b3 b4 ((ch_sound c Γ X P false _ F.fit h4).1 rfl) h3 h2 rfl (hfew_of h3) rfl
    · cases h
  | .seti n i c, X, P, st, F, h => by
    simp only [chK] at h
    split at h
    · rename_i y p1 a p2 e pos
      simp only [Bool.and_eq_true, Bool.not_eq_true'] at h
      obtain ⟨⟨⟨h1, h2⟩, h3⟩, h4⟩ := h
      obtain ⟨b1, b2, b3, b4⟩ := F.fit.slot h1
      refine s_seti b1 b2 b3 b4 ((ch_sound i Γ X P false _ F.fit h3).1 rfl) ((ch_sound c Γ X P false _ F.fit h4).1 rfl) ?_ ?_ ?_ rfl
      · intro v; cases a <;> first | rfl | (simp [isSlice] at h2)
      · cases e <;> rfl
      · cases e <;> rfl
    · cases h
  | .ite c a b, X, P, st, F, h => by
    simp only [chK] at h
    split at h
    · obtain ⟨h1, h2, h3⟩ := and_three h
      exact s_ite ((ch_sound c Γ X P true _ F.fit h1).2 rfl).1 (chKs_sound a X P _ F h2) (chKs_sound b X P _ F h3)
    · cases h
  | .forr tg ki its b, X, P, st, F, h => by
    simp only [chK] at h
    split at h
    · simp only [Bool.and_eq_true, Bool.not_eq_true'] at h
      obtain ⟨⟨⟨h1, h2⟩, a6⟩, h3⟩ := h
      refine s_for F.pass F.fit.calm (i_any F.fit ?_) (chTg_sound F.fit tg _ h2) (chKs_sound b X P _ F h3) h1
      cases ki with
      | seq => exact chs_sound its Γ X P _ F.fit a6
      | rng =>
        simp only at a6 ⊢
        split at a6
        · simp only [Bool.and_eq_true, decide_eq_true_eq, Bool.or_eq_true] at a6
          obtain ⟨⟨⟨b1, b2⟩, b3⟩, b4⟩ := a6
          exact ⟨_, _, _, _, rfl, b1, b2, b3, chs_sound its Γ X P _ F.fit b4⟩
        · cases a6
      | zip => cases a6
    · cases h
  | .whl c b, X, P, st, F, h => by
    simp only [chK] at h
    split at h
    · obtain ⟨h1, h2⟩ := (Bool.and_eq_true _ _).mp h
      exact s_whl F.pass ((ch_sound c Γ X P true _ F.fit h1).2 rfl).1 (chKs_sound b X P _ F h2)
    · cases h
  | .ret c, X, P, st, F, h => by
    simp only [chK] at h
    split at h
    · exact s_ret ((ch_sound c Γ X P false _ F.fit h).1 rfl)
    · split at h
      · exact s_retN
      · cases h
    · cases h
  | .brk, X, P, st, F, h => by
    simp only [chK] at h
    split at h
    · exact s_brk
    · cases h
  | .cont, X, P, st, F, h => by
    simp only [chK] at h
    split at h
    · exact s_cont
    · cases h
theorem chKs_sound : ∀ (cs : List K) (X : Cx) (P : Par) (sts : List Stmt), FitS CX W k Γ X P → chKs Γ cs sts = true → PSs X sts (tSs P cs)
  | [], X, P, sts, F, h => by
    cases sts with
    | nil => exact ss_nil
    | cons e es => simp [chKs] at h
  | c :: cs, X, P, sts, F, h => by
    cases sts with
    | nil => simp [chKs] at h
    | cons e es =>
      obtain ⟨h1, h2⟩ := (Bool.and_eq_true _ _).mp (show (chK Γ c e && chKs Γ cs es) = true by simpa only [chKs] using h)
      exact ss_cons (chK_sound c X P e F h1) (chKs_sound cs X P es F h2)
end
end
end PV

/-! PvS: the table of defs, the law's end. -/
namespace PV
open PySem L2

/-- a def as the table has it: its name, its text, the names of its slots, how many are parameters, the plain slots, its core -/
structure Row where
  x : Str
  st : Stmt
  N : List Str
  np : Nat
  pl : List Nat
  b : List K
def tabF (tb : List Row) (i : Nat) : Option Fn := (tb[i]?).map fun r => ⟨r.np, r.N.length, r.b⟩
def tabN (tb : List Row) (n : Nat) : List (Str × Nat × Nat) := match tb with
  | [] => []
  | r :: tb => (r.x, n, r.np) :: tabN tb (n + 1)
def fscB (N ps : List Str) (sc : Scope) : Bool := (match sc.kind with | .function => true | _ => false) && !sc.isCoroutine && !sc.isGenerator && decide N.Nodup && decide (N.take ps.length = ps) &&
  ps.all (fun x => decide (sc.names.lookup x = some .local) || decide (sc.names.lookup x = some .cell)) && sc.names.all fun y => !decide (y.2 = .free)
theorem fsc_of {N ps : List Str} {sc : Scope} (h : fscB N ps sc = true) : FnScope N ps sc := by
  unfold fscB at h
  simp only [Bool.and_eq_true, Bool.not_eq_true', decide_eq_true_eq, List.all_eq_true, Bool.or_eq_true, decide_eq_false_iff_not] at h
  obtain ⟨⟨⟨⟨⟨⟨h1, h2⟩, h3⟩, h4⟩, h5⟩, h6⟩, h7⟩ := h
  refine ⟨?_, h2, h3, h4, h5, fun x hx => h6 x hx, h7⟩
  split at h1
  · assumption
  · cases h1
/-- the check of one row -/
def rowB (fn : List (Str × Nat × Nat)) (gl : List (Str × Nat)) (xs : Xs) (r : Row) : Bool := decide (r.np ≤ r.N.length) && fscB r.N (r.N.take r.np) (defScope r.st) && chKs ⟨defScope r.st, none, r.N, r.pl, fn, gl, xs⟩ r.b (defBody r.st)
def tabB (tb : List Row) (gl : List (Str × Nat)) (xs : Xs) : Bool := tb.all (rowB (tabN tb 0) gl xs)
theorem tabN_get : ∀ (tb : List Row) (m : Nat) (x : Str) (i n : Nat), (tabN tb m).lookup x = some (i, n) → ∃ j r, i = m + j ∧ tb[j]? = some r ∧ r.x = x ∧ r.np = n
  | [], m, x, i, n, h => by simp [tabN] at h
  | r :: tb, m, x, i, n, h => by
    simp only [tabN, List.lookup_cons] at h
    split at h
    · rename_i hx
      cases h
      exact ⟨0, r, rfl, rfl, (beq_iff_eq.mp hx).symm, rfl⟩
    · obtain ⟨j, r', h1, h2, h3, h4⟩ := tabN_get tb (m + 1) x i n h
      exact ⟨j + 1, r', by omega, by simpa using h2, h3, h4⟩
abbrev W0 : XW := fun _ _ _ _ => False
section
variable {Pr : Program} {w : World} {K : PySem.W.Frag} {mg : Str → Option Value} {base : Heap}
/-- a row's def stands in the written part -/
structure RowAt (K : PySem.W.Frag) (mg : Str → Option Value) (r : Row) (f : Addr) (fd : FuncData) : Prop where
  fn : Fun K r.x r.x r.st f fd
  m : mg r.x = some (.ref f)
  b : Binds K fd (r.N.take r.np) []
/-- the values of the top that the table names -/
structure GlAt (K : PySem.W.Frag) (mg : Str → Option Value) (gl : List (Str × Nat)) (G : Nat → Option D) : Prop where
  g : ∀ x n, gl.lookup x = some n → ∃ (u : Value) (t : T), mg x = some u ∧ RelV t.val u ∧ (∀ H ad p w, t.ok ⟨K, p, w⟩ H ad) ∧ (∀ a, t.ex a = 0 ∧ t.sh a = 0) ∧ G n = some t.er
theorem Sat.frees {K : KW} {fr : List T} {cs : List G} {τ : List (Option T)} {H : Hp} (S : Sat K H fr cs τ) : Sat K H fr cs [] := S.toRoots.less (T.oks_append.mp S.toRoots.ofr).1 fun a => by simp only [T.exs_append, T.shs_append]; omega
theorem slotsOf_start (us : List T) (n : Nat) : slotsOf (us.map some ++ List.replicate n none) = us := by
  induction us with
  | nil =>
    simp only [List.map_nil, List.nil_append]
    induction n with
    | zero => rfl
    | succ n ih => rw [List.replicate_succ]; exact ih
  | cons u us ih =>
    show u :: slotsOf (us.map some ++ List.replicate n none) = u :: us
    rw [ih]
theorem gt_start {us : List T} {n i : Nat} {t : T} (h : gt (us.map some ++ List.replicate n none) i = some t) : us[i]? = some t := by
  induction us generalizing i with
  | nil =>
    exfalso
    have : ∀ (n i : Nat), gt (List.replicate n (none : Option T)) i = none := by
      intro n
      induction n with
      | zero => intro i; rfl
      | succ n ih => intro i; cases i with
        | zero => rfl
        | succ i => exact ih i
    rw [List.map_nil, List.nil_append, this] at h
    cases h
  | cons u us ih =>
    cases i with
    | zero => simpa [gt] using h
    | succ i => simp only [List.map_cons, List.cons_append, gt] at h; simpa using ih h
theorem ero_start (us : List T) (n : Nat) : ero (us.map some ++ List.replicate n none) = (T.ers us).map some ++ List.replicate n none := by
  unfold ero
  rw [List.map_append, List.map_map, List.map_replicate, T.ers_map, List.map_map]
  rfl
theorem iszs_mem {us : List T} {i : Nat} {t : T} (h : D.iszs (T.ers us) = true) (ht : us[i]? = some t) : t.er.isz = true :=
  D.iszs_iff.mp h _ (by rw [T.ers_map]; exact List.mem_map_of_mem (List.mem_of_getElem? ht))
/-- a call that has no such arguments, a call out of fuel: refused -/
theorem call_len {F : Nat → Option Fn} {gl : Nat → Option D} {wf k i n : Nat} {ds : List D} {m : List Cell} {fn : Fn} (h : F i = some fn) (hn : fn.ps = n) (hl : ds.length ≠ n) : call F gl wf k i ds m = .bad := by
  cases k with
  | zero => rfl
  | succ k => simp only [call, h, hn, if_neg hl]
/-- THE TABLE: every def of it keeps the evaluator's promise -/
theorem table {tb : List Row} {gl : List (Str × Nat)} {G : Nat → Option D} {xs : Xs} {ca : Nat → Addr} (wf : Nat) (hB : tabB tb gl xs = true) (hX : XsAt K mg ca xs) (hR : ∀ r ∈ tb, ∃ f fd, RowAt K mg r f fd) (hG : GlAt K mg gl G) (h0 : ∀ x ∈ bNames, mg x = none) :
    ∀ (k i : Nat) (r : Row) (f : Addr) (fd : FuncData), tb[i]? = some r → RowAt K mg r f fd → GOk Pr w K mg base (L2.CX Pr w) k f fd (r.N.take r.np) (spF ⟨K, Pr, w⟩ (call (tabF tb) G wf k i) r.np (W1 ca))
  | 0, i, r, f, fd, hi, ra => by
    have hb : ∀ ds m, call (tabF tb) G wf 0 i ds m = .bad := fun ds m => rfl
    refine ⟨fun vs H Q E h => ?_, fun A o s H args us vs Q E _ _ _ _ _ h => ?_⟩
    · obtain ⟨us, fr, cs, e, hl, S, z, r'⟩ := h
      rw [hb] at r'; exact r'.elim
    · obtain ⟨us, fr, cs, e, hl, S, z, r'⟩ := h
      rw [hb] at r'; exact r'.elim
  | k + 1, i, r, f, fd, hi, ra => by
    have hmem : r ∈ tb := List.mem_of_getElem? hi
    have hb := List.all_eq_true.mp hB r hmem
    unfold rowB at hb
    obtain ⟨hnp, hfs, hck⟩ := and_three hb
    have hnp := of_decide_eq_true hnp
    have S := fsc_of hfs
    have len : ∀ vs H Q E, spF ⟨K, Pr, w⟩ (call (tabF tb) G wf (k + 1) i) r.np (W1 ca) vs H Q E → vs.length = (r.N.take r.np).length := fun vs H Q E ⟨us, fr, cs, e, hl, _⟩ => by
      rw [e, List.length_map, hl, List.length_take]; omega
    obtain ⟨oc, od, kV, doc, pm, an, cdv, ct, osl, rfl, lk, hcd⟩ := ra.fn.ex
    refine ⟨len, fun A outer s H args us vs Q E hr hgd e0 hbd rv hsp => ?_⟩
    have hl := len _ _ _ _ hsp
    have KX : K.In s.heap := e0.mod.kin.keeps fun b o e => (e0.bs b o e).1
    have lim : s.heap.NoLimit := e0.mod.nolimit.keeps fun b o e => (e0.bs b o e).1
    have hkind : ∀ y ∈ (r.N.take r.np).zip us, (defScope r.st).names.lookup y.1 = some .local ∨ ((defScope r.st).names.lookup y.1 = some .cell ∧ ((cellsFrom (s.heap.objs.size + 1) (defScope r.st).names []).lookup y.1).isSome = true) := fun ⟨n, v⟩ hy => by
      rcases S.par n (List.of_mem_zip hy).1 with q | q
      · exact .inl q
      · exact .inr ⟨q, PySem.W.cellsFrom_some _ _ _ (.inl q)⟩
    refine codeAny_call_function hr.depth (KX _ _ lk) rfl S.co S.gen rfl (PySem.W.codeRec_of KX hcd) (hbd _ _ _ _ ?_)
    refine wpAny_newFunctionEnv_cells S.kind hkind fun env he s1 x => ?_
    subst he
    refine ⟨lim.keeps x.toInCall.keep, codeAny_func ?_⟩
    obtain ⟨ts, fr, cs, ev, hlen, sat, zs, run⟩ := hsp
    subst ev
    have I := inv_start (CX := L2.CX Pr w) (P := Pr) (w := w) (E := E) S hr.hd e0 hl rv x
    -- the def's state, as the evaluator has it
    let P : Par := { env := ⟨call (tabF tb) G wf k, G, wf⟩, K := ⟨K, Pr, w⟩, pl := fun i => r.pl.contains i, fr := fr, ca := ca, wx := fun cls d _ H => E cls d H }
    have hfn : tabF tb i = some ⟨r.np, r.N.length, r.b⟩ := by unfold tabF; rw [hi]; rfl
    simp only [call, hfn, T.ers_length, hlen, if_true, Res.bind] at run
    have R : Rel P (L2.start r.N (ts.map T.val)) H [] cs (ts.map some ++ List.replicate (r.N.length - ts.length) none) := by
      refine ⟨Sat.toSlots ?_, ?_, fun j t h => ?_, fun j t h _ => iszs_mem zs (gt_start h)⟩
      · rw [slotsOf_start]
        exact sat.perm List.perm_append_comm
      · unfold L2.start
        simp
      · have := gt_start h
        unfold L2.start
        rw [List.getElem?_append_left (by rw [List.length_map, List.length_map]; exact (List.getElem?_eq_some_iff.mp this).1), List.getElem?_map, List.getElem?_map, this]
        rfl
    let X : Cx := cxOf (L2.CX Pr w) Pr w K mg base r.N r.x (defScope r.st) f cdv A outer s H E
    have tkX : Takes X P.wx := takes_of rfl rfl rfl rfl
    have F : FitS (L2.CX Pr w) (W1 ca) k ⟨defScope r.st, none, r.N, r.pl, tabN tb 0, gl, xs⟩ X P := ⟨{
      K := rfl, PW := ⟨rfl, rfl⟩, sc := rfl, kind := S.kind, N := rfl, nd := S.nd, calm := rfl, room := hr.deeper _, room2 := ⟨hr.hd, by have := hr.dp; show A.depth + 1 + 3 * k + 5 < _; omega, by have := hr.un; show A.units + 3 + 1 + 1 + 16 * k + 200 < _; omega⟩, gd := hgd, pl := fun _ => rfl, mg0 := h0, own := fun _ _ => .inl rfl,
      fns := fun x i' n h => by
        obtain ⟨j, r', e1, e2, e3, e4⟩ := tabN_get tb 0 x i' n h
        obtain rfl : i' = j := by omega
        obtain ⟨f', fd', ra'⟩ := hR r' (List.mem_of_getElem? e2)
        refine ⟨⟨f', fd', r'.N.take r'.np, e4 ▸ table wf hB hX hR hG h0 k i' r' f' fd' e2 ra', e3 ▸ ra'.m, ra'.fn.kp, ra'.b⟩, fun ds m hne => ?_⟩
        exact call_len (fn := ⟨r'.np, r'.N.length, r'.b⟩) (by unfold tabF; rw [e2]; rfl) e4 hne
      gls := fun x n h => by
        obtain ⟨u, t, h1, h2, h3, h4, h5⟩ := hG.g x n h
        exact ⟨u, t, h1, h2, fun H ad => h3 H ad _ _, h4, h5⟩
      W1 := rfl
      E := fun σ => passAt tkX σ
      cx0 := fun _ _ _ _ _ ⟨_, _, _, _, _, _, _, _, _, _, _, _, h⟩ => h }, rfl, passes_of rfl, hX, tkX, rfl, rfl, rfl⟩
    have hp := chKs_sound r.b X P (defBody r.st) F hck
    have hst : stt cs (ts.map some ++ List.replicate (r.N.length - ts.length) none) = ⟨(T.ers ts).map some ++ List.replicate (r.N.length - r.np) none, erc cs⟩ := by
      unfold stt; rw [ero_start, hlen]
    rw [← hst] at run
    refine wpAny_mono (hp.run [] s1 (L2.start r.N (ts.map T.val)) H { nx := fun _ H' => Q .non H', rt := Q } I ⟨[], cs, _, R, Res.mono run (fun fl s' hs => ?_) fun y s' hy σ' cs' τ' H' e R' => hy cs' H' (by rw [e]; rfl) R'.sat.frees⟩) (fun fl s' hs => ?_) fun e s' hs => hs
    · cases fl with
      | next => exact fun σ' cs' τ' H' e R' => hs .non cs' H' rfl (by rw [e]; rfl) (R'.non.sat.frees)
      | ret d => exact fun t σ' cs' τ' H' e1 e2 R' => hs t cs' H' e1 (by rw [e2]; rfl) R'.sat.frees
      | brk => exact hs.elim
      | cont => exact hs.elim
    · have fin : ∀ {σ' : St} {H' : Hp} {v : V} {u : Value}, L2.Inv (cxOf (L2.CX Pr w) Pr w K mg base r.N r.x (defScope r.st) f cdv A outer s H E) [] σ' H' s' → RelV v u → Q v H' → CE outer Pr w H s Q u s' :=
        fun {σ' H' v u} J rv q => ⟨v, H', J.os, J.bare, J.base, J.hok, rv, q⟩
      cases fl with
      | ret u =>
        obtain ⟨v, σ', H', J, rv, q⟩ := hs
        exact fin J rv q
      | next =>
        obtain ⟨σ', H', J, q⟩ := hs
        exact fin (v := V.non) (u := Value.none) J rfl q
      | brk =>
        obtain ⟨_, _, _, q⟩ := hs
        exact False.elim q
      | cont =>
        obtain ⟨_, _, _, q⟩ := hs
        exact False.elim q
end
end PV

/-! PvT: the law's end. -/
namespace PV
open PySem L2 PySem.Spec PyProof.Rows

/-- the law's call, behind the top: the evaluator's True is the machine's -/
theorem law_end {ca : Nat → Addr} {P : Program} {w : World} {K : PySem.W.Frag} {mg mb : Str → Option Value} {k : Nat} {fa a : Addr} {fd : FuncData} {x : Str} {cl : List D → List Cell → Out D} {s1 : Shared} {vs : List Value} {ns : List Int}
    (KX : K.In s1.heap) (hns : s1.heap.Ns mainGlobals mg) (hb : s1.heap.Ns builtinsNs mb) (hbb : ∀ x : Str, x ≠ "__name__" → mb x = bootBuiltins x) (hlim : s1.heap.NoLimit) (hg : s1.gens = #[])
    (ha : s1.heap.get? a = some { cls := .type "list", data := .seq vs.toArray }) (hi : PyProof.Rows.IntsAre vs ns) (hl : ns.length ≤ sizeLine) (hr : Room k callerA)
    (F : ∀ base : Heap, K.In base → base.Ns mainGlobals mg → GOk P w K mg base (L2.CX P w) k fa fd [x] (spF ⟨K, P, w⟩ cl 1 (W1 ca))) (hbind : BindsTo s1 fd ⟨[.ref a], []⟩ [(x, .ref a)])
    (run : ∃ s, cl [.scr ns] [] = .ok (.bl true) s) :
    codeAny (model P w) callerA (.call (.ref fa) ⟨[.ref a], []⟩) (fun r s' => r = .ok (.ret (.bool true)) ∧ OldK s1.heap s'.heap ∧ s'.os = s1.os ∧ AllBare s'.gens) s1 := by
  have rv : Vals (ns.map V.int) vs := vals_ints hi
  let ob : Obj := { cls := .type "list", data := .seq vs.toArray }
  -- the script alone is tracked, where it is none of the module's own objects
  let H : Hp := fun b => if b = a ∧ K.lookup a = none then some (.frz ob (.lst (ns.map V.int))) else none
  have inv : ∀ {b : Addr} {u : HO}, H b = some u → b = a ∧ K.lookup a = none ∧ u = .frz ob (.lst (ns.map V.int)) := fun {b u} e => by
    by_cases h : b = a ∧ K.lookup a = none
    · have e' : some (HO.frz ob (.lst (ns.map V.int))) = some u := (if_pos h).symm.trans e
      exact ⟨h.1, h.2, (Option.some.inj e').symm⟩
    · have e' : (none : Option HO) = some u := (if_neg h).symm.trans e
      cases e'
  have hok : HOk P w H s1.heap := fun b u e => by
    obtain ⟨rfl, _, rfl⟩ := inv e
    exact ⟨ha, by rw [List.length_map]; exact hl, vs, _, rv, ha⟩
  have scr : ScL K H a (ns.map V.int) := by
    cases hk : K.lookup a with
    | none => exact .inl ⟨ob, if_pos ⟨rfl, hk⟩⟩
    | some o =>
      have e := KX a o hk
      rw [ha] at e; cases e
      exact .inr ⟨_, vs.toArray, _, hk, rfl, rfl, rfl, by rw [List.size_toArray, ← rv.length, List.length_map]; exact hl, rv⟩
  have hid : ∀ {b : Addr} {o : Obj}, s1.heap.get? b = some o → (b = a → K.lookup a = none → False) → (hidT s1.heap H).get? b = some o := fun {b o} e n => hidT_get e (by
    cases q : H b with
    | none => rfl
    | some u => obtain ⟨e1, e2, _⟩ := inv q; exact (n e1 e2).elim)
  have kin : K.In (hidT s1.heap H) := fun b o e => hid (KX b o e) fun e1 e2 => by rw [e1, e2] at e; cases e
  have nsI : ∀ {b : Addr} {m : Str → Option Value}, s1.heap.Ns b m → (hidT s1.heap H).Ns b m := fun {b m} ⟨o, es, ep, e, d, r⟩ => ⟨o, es, ep, hid e (fun e1 _ => by
    subst e1
    rw [ha] at e; cases e
    cases d), d, r⟩
  have mod : Mod K mg (hidT s1.heap H) := ⟨kin, nsI hns, ⟨mb, nsI hb, hbb⟩, hlim.imp fun _ h => ⟨nsI h.1, h.2⟩⟩
  have e0 : Env0 P w K mg (hidT s1.heap H) callerA [] s1 H := ⟨rfl, mod, fun b o e => of_hidT e, Nat.le_of_eq (hidT_size _ _), trivial, fun b hb => (by cases hb), hok, .of_eq hg⟩
  have sat : Sat ⟨K, P, w⟩ H ([T.scr a ns] ++ []) [] [] := ⟨⟨scr, trivial⟩, fun g hg => (by cases hg), fun t ht => (by cases ht), fun _ => Nat.zero_le _, fun _ => .inl rfl⟩
  obtain ⟨sE, hE⟩ := run
  refine codeAny_mono ((F _ kin (nsI hns)).run callerA [] s1 H ⟨[.ref a], []⟩ [.ref a] [.ref a] (fun v _ => v = .bl true) E0 hr rfl e0 hbind (.cons rfl .nil) ⟨[.scr a ns], [], [], rfl, rfl, sat, rfl, ?_⟩) fun r s' h => ?_
  · show Res (cl [.scr ns] []) _ _
    rw [hE]
    exact fun t cs' H' e _ _ => by rw [T.er_bl e]; rfl
  · cases r with
    | error e => obtain ⟨_, _, _, _, _, _, _, _, _, _, _, _, h⟩ := h; exact h.elim
    | ok fl =>
      cases fl with
      | ret u =>
        obtain ⟨v, H', os, bare, un, hok', r', q⟩ := h
        subst q
        obtain rfl : u = Value.bool true := r'
        refine ⟨rfl, OldK.of_keep fun b o e => ?_, os, bare⟩
        cases q : H b with
        | none => exact un.keep b o e q (fun z => by cases z) (fun z => by cases z)
        | some u =>
          obtain ⟨rfl, _, rfl⟩ := inv q
          obtain ⟨e1, _⟩ := hok b _ q
          obtain ⟨e2, _⟩ := hok' b _ (un.frzs b ob _ q)
          rw [e] at e1; cases e1
          exact e2
      | _ => exact h.elim

section
variable {K : PySem.W.Frag} {h : Heap} {mg : Str → Option Value}
/-- a row's def, from what the head has written -/
theorem row_mk {r : Row} {x : Str} {st : Stmt} {ps : List Str} {f : Addr} {oc : Value} {od an : Option Addr} {osl : Array (Option Value)} {kV doc pm cdv ct : Value} (hx : r.x = x) (hst : r.st = st) (hps : r.N.take r.np = ps) (X : K.In h) (G : h.Ns mainGlobals mg)
    (a : PySem.W.nsIn K mainGlobals x = some (some (.ref f))) (l : K.lookup f = some ⟨oc, od, .func (PySem.W.fnOf x x (defArgs st) (defBody st) (defScope st) .none kV doc pm an cdv ct), osl⟩)
    (c : PySem.W.codeIn K cdv x = true) (k : PySem.W.keepIn K (.ref f) = true)
    (b : ∀ (kV doc pm : Value) (an : Option Addr) (cdv ct : Value) (us : List Value), us.length = ps.length → bindArgs (PySem.W.fnOf x x (defArgs st) (defBody st) (defScope st) .none kV doc pm an cdv ct) ⟨us, []⟩ = pure (ps.zip us)) : ∃ f fd, RowAt K mg r f fd := by
  subst hx hst hps
  have F := fun_mk (st := r.st) l c k
  exact ⟨f, _, F, PySem.W.mg_of X G a, F.binds b⟩
/-- no classes of errors -/
theorem xs_none {ca : Nat → Addr} : XsAt K mg ca (Xs.mk [] [] []) := XsAt.mk (fun x c h => by cases h) (fun x cl h => by cases h) (fun c h => absurd h (Nat.not_lt_zero c)) (fun c fs f h => by simp at h)

theorem bn_mk (X : K.In h) (G : h.Ns mainGlobals mg) (z : ∀ x ∈ bNames, PySem.W.nsIn K mainGlobals x = some none) : ∀ x ∈ bNames, mg x = none := fun x hx => PySem.W.mg_none_of X G (z x hx)
/-- a written tuple of whole numbers that a name of the top holds -/
theorem gl_ints (X : K.In h) (G : h.Ns mainGlobals mg) {x : Str} {a : Addr} {o : Obj} {its : Array Value} {n : Nat} {l : List Int} (e : PySem.W.nsIn K mainGlobals x = some (some (.ref a))) (lk : K.lookup a = some o) (hc : o.cls = .type "tuple") (hd : o.data = .seq its n) (hz : its.size ≤ sizeLine) (hv : Vals (l.map V.int) its.toList) :
    ∃ (u : Value) (t : T), mg x = some u ∧ RelV t.val u ∧ (∀ H ad p w, t.ok ⟨K, p, w⟩ H ad) ∧ (∀ a, t.ex a = 0 ∧ t.sh a = 0) ∧ D.tup (l.map D.int) = t.er := by
  obtain ⟨z1, z2, z3⟩ := ints_sums l
  exact ⟨.ref a, .tup a (l.map T.int), PySem.W.mg_of X G e, rfl, fun H ad p w => ⟨.inr ⟨o, its, n, lk, hc, hd, hz, by rw [val_ints]; exact hv⟩, z3 _ _ _⟩, fun a => ⟨z1 a, z2 a⟩, by rw [T.er, ers_ints]⟩
end
/-! written tuples, nested -/
mutual
def T.wr (K : PySem.W.Frag) : T → Prop
  | .tup a l => (∃ (o : Obj) (its : Array Value) (n : Nat), K.lookup a = some o ∧ o.cls = .type "tuple" ∧ o.data = .seq its n ∧ its.size ≤ sizeLine ∧ Vals (l.map T.val) its.toList) ∧ T.wrs K l
  | .non => True | .bl _ => True | .int _ => True | .str _ => True
  | .lst _ _ _ => False | .scr _ _ => False | .dct _ _ _ _ => False | .set _ _ _ => False | .ref _ _ => False
def T.wrs (K : PySem.W.Frag) : List T → Prop
  | [] => True | x :: xs => T.wr K x ∧ T.wrs K xs
end
mutual
theorem wr_okF {K : PySem.W.Frag} (H : Hp) : ∀ t : T, T.wr K t → T.okF K H t
  | .tup a l, h => by
    obtain ⟨⟨o, its, n, lk, hc, hd, hz, hv⟩, r⟩ := h
    exact ⟨.inr ⟨o, its, n, lk, hc, hd, hz, hv⟩, wrs_okF H l r⟩
  | .non, _ => trivial | .bl _, _ => trivial | .int _, _ => trivial | .str _, _ => trivial
  | .lst _ _ _, h => h.elim | .scr _ _, h => h.elim | .dct _ _ _ _, h => h.elim | .set _ _ _, h => h.elim | .ref _ _, h => h.elim
theorem wrs_okF {K : PySem.W.Frag} (H : Hp) : ∀ l : List T, T.wrs K l → T.okFs K H l
  | [], _ => trivial
  | x :: xs, h => ⟨wr_okF H x h.1, wrs_okF H xs h.2⟩
end
theorem wr_tup {K : PySem.W.Frag} {a : Addr} {o : Obj} {its : Array Value} {n : Nat} {l : List T} (lk : K.lookup a = some o) (hc : o.cls = .type "tuple") (hd : o.data = .seq its n) (hz : its.size ≤ sizeLine) (hv : Vals (l.map T.val) its.toList) (r : T.wrs K l) : T.wr K (.tup a l) := ⟨⟨o, its, n, lk, hc, hd, hz, hv⟩, r⟩
theorem gl_wr {K : PySem.W.Frag} {h : Heap} {mg : Str → Option Value} (X : K.In h) (G : h.Ns mainGlobals mg) {x : Str} {a : Addr} {l : List T} (e : PySem.W.nsIn K mainGlobals x = some (some (.ref a))) (r : T.wr K (.tup a l)) :
    ∃ (u : Value) (t : T), mg x = some u ∧ RelV t.val u ∧ (∀ H ad p w, t.ok ⟨K, p, w⟩ H ad) ∧ (∀ a, t.ex a = 0 ∧ t.sh a = 0) ∧ D.tup (T.ers l) = t.er :=
  ⟨.ref a, .tup a l, PySem.W.mg_of X G e, rfl, fun H ad p w => okF_ok (K := ⟨K, p, w⟩) ad _ (wr_okF H _ r), fun b => okF_z (H := fun _ => none) _ b (wr_okF _ _ r), rfl⟩
/-- THE END of a law: what is left is that the evaluator answers True -/
theorem finish {l : PySem.W.OpenLaw} {q : Program} {loose : List Str} {XP : (Str → Option Value) → Heap → Prop} {YP : World → Heap → Prop} {d : DefRec} {K : Params → PySem.W.Frag} (tb : List Row) (gl : List (Str × Nat)) (xs : Xs) (G : Nat → Option D) (kk wf iL : Nat) (x : Str)
    (hn : l.most = some 63) (hdf : d.params.defaults = []) (hr : Room kk callerA) (hY : ∀ (w : World) (h : Heap), YP w h → (K w.params).In h) (hB : tabB tb gl xs = true) (rL : Row) (hL : tb[iL]? = some rL) (hx : rL.x = d.name) (h1 : rL.np = 1) (h2 : rL.N.take 1 = [x])
    (F : ∀ (w : World) (mg : Str → Option Value) (h : Heap), (K w.params).In h → h.Ns mainGlobals mg → (∀ r ∈ tb, ∃ f fd, RowAt (K w.params) mg r f fd) ∧ GlAt (K w.params) mg gl G ∧ (∀ x ∈ bNames, mg x = none) ∧ ∃ ca, XsAt (K w.params) mg ca xs)
    (law : ∀ ns : List Int, ns.length ≤ 63 → ∃ s, call (tabF tb) G wf kk iL [.scr ns] [] = .ok (.bl true) s) :
    PySem.W.WalkO q loose XP YP l.row.toRowW d [] (fun f vs => PySem.call f vs) := by
  refine Att.attach_call hn hdf fun w s₀ s₁ mg mb fa o pm cd doc a vs ns Gr Y ho hd hcd hmg hobj hints hlen hg => ?_
  have KX := hY w _ Y
  obtain ⟨hR, hG, h0, ca, hX⟩ := F w mg _ KX Gr.T.g
  obtain ⟨f, fd, ra⟩ := hR rL (List.mem_of_getElem? hL)
  have ef : f = fa := by
    have := ra.m
    rw [hx, hmg] at this
    injection this with e
    injection e with e
    exact e.symm
  subst ef
  have hb : BindsTo s₁ fd ⟨[.ref a], []⟩ [(x, .ref a)] := by
    have := ra.b s₁ [.ref a] KX (by rw [h1, h2]; rfl)
    rw [h1, h2] at this
    exact this
  refine law_end (ca := ca) KX Gr.T.g Gr.T.b Gr.T.builtins Gr.T.nolimit hg hobj hints (Nat.le_trans hlen (by decide)) hr (fun base _ hns => ?_) hb (law ns hlen)
  have := table (Pr := l.prog) (w := w) (base := base) wf hB hX hR hG h0 kk iL rL f fd hL ra
  rw [h1, h2] at this
  exact this
end PV

/-! PvU: plain tools: the evaluator by rewriting, loops, the law's own helpers. -/
namespace PV
open PySem

/-! loops by name, so that rewriting leaves their bodies -/
def forB (E : Env) (tg : Tg) (b : List K) (l : List D) (s : S) : Out Fl := forL (fun x s => (Out.of (setTg tg x s.r) s).bind fun r s => execs E b { s with r := r }) l s
def whlB (E : Env) (c : C) (b : List K) (w : Nat) (s : S) : Out Fl := whlL (fun s => evb E c s) (fun s => execs E b s) w s
def lcB (E : Env) (e : C) (tg : Tg) (cs : List C) (vs : List Nat) (l : List D) (acc : List D) (s : S) : Out (List D) := lcL (setTg tg) (fun s => noExc (evt E cs s)) (fun s => noExc (ev E e s)) vs l acc s
section
variable {E : Env} {s : S} {d : D} {n i j f : Nat} {a b c e lo hi : C} {es its cs : List C} {op : Bop} {co co2 : Cop} {bi : Bi} {ty : Ty} {tg : Tg} {k : Ik} {vs : List Nat} {kb kc ks : List K} {kk : K}
@[simp] theorem x_lit : ev E (.lit d) s = .ok d s := rfl
@[simp] theorem x_glob : ev E (.glob n) s = Out.of (E.gl n) s := rfl
@[simp] theorem x_var : ev E (.var i) s = Out.of (gt s.r i) s := rfl
@[simp] theorem x_bvar : ev E (.bvar i) s = (Out.of (gt s.r i) s).bind fun d s => .ok d.fz { s with r := s.r.set i (some d.fz) } := rfl
@[simp] theorem x_mvar : ev E (.mvar i) s = (Out.of (gt s.r i) s).bind fun d s => .ok d { s with r := s.r.set i none } := rfl
@[simp] theorem x_tup : ev E (.tup es) s = (evs E es s).bind fun ds s => if ds.length ≤ sizeLine then .ok (.tup ds) s else .bad := rfl
@[simp] theorem x_lst : ev E (.lst es) s = (evs E es s).bind fun ds s => if ds.length ≤ sizeLine then .ok (.lst true ds) s else .bad := rfl
@[simp] theorem x_box : ev E (.box es) s = (evs E es s).bind fun ds s => if ds.length ≤ sizeLine then .ok (.ref s.m.length) { s with m := s.m ++ [.box (D.fzs ds)] } else .bad := rfl
@[simp] theorem x_dct : ev E (.dct es) s = (evs E es s).bind fun ds s => if (evens ds).length ≤ 15 ∧ kdis (evens ds) = true then .ok (.dct true (evens ds) (odds ds)) s else .bad := rfl
@[simp] theorem x_bin : ev E (.bin op a b) s = (ev E a s).bind fun x s => (ev E b s).bind fun y s => Out.of (bop op x y) s := rfl
@[simp] theorem x_neg : ev E (.neg a) s = (ev E a s).bind fun x s => match x with | .int i => .ok (.int (-i)) s | _ => .bad := rfl
@[simp] theorem x_nt : ev E (.nt a) s = (ev E a s).bind fun x s => (Out.of (tobl x) s).bind fun b s => .ok (.bl (!b)) s := rfl
@[simp] theorem x_and : ev E (.and a b) s = (ev E a s).bind fun x s => (Out.of (tobl x) s).bind fun k s => if k then (ev E b s).bind fun y s => (Out.of (tobl y) s).bind fun j s => .ok (.bl j) s else .ok (.bl false) s := rfl
@[simp] theorem x_or : ev E (.or a b) s = (ev E a s).bind fun x s => (Out.of (tobl x) s).bind fun k s => if k then .ok (.bl true) s else (ev E b s).bind fun y s => (Out.of (tobl y) s).bind fun j s => .ok (.bl j) s := rfl
@[simp] theorem x_ite : ev E (.ite c a b) s = (ev E c s).bind fun x s => (Out.of (tobl x) s).bind fun k s => if k then ev E a s else ev E b s := rfl
@[simp] theorem x_cmp : ev E (.cmp co a b) s = (ev E a s).bind fun x s => (ev E b s).bind fun y s => (Out.of (cop co x y) s).bind fun k s => .ok (.bl k) s := rfl
@[simp] theorem x_chain : ev E (.chain co co2 a b c) s = (ev E a s).bind fun x s => (ev E b s).bind fun y s => (Out.of (cop co x y) s).bind fun k s =>
      if k then (ev E c s).bind fun z s => (Out.of (cop co2 y z) s).bind fun j s => .ok (.bl j) s else .ok (.bl false) s := rfl
@[simp] theorem x_isN : ev E (.isN a) s = (ev E a s).bind fun x s => .ok (.bl (match x with | .non => true | _ => false)) s := rfl
@[simp] theorem x_notN : ev E (.notN a) s = (ev E a s).bind fun x s => .ok (.bl (match x with | .non => false | _ => true)) s := rfl
@[simp] theorem x_ix : ev E (.ix a b) s = (ev E a s).bind fun x s => (ev E b s).bind fun y s => Out.of (ixo s.m x y) s := rfl
@[simp] theorem x_pix : ev E (.pix n a) s = (Out.of (gt s.r n) s).bind fun _ s => (ev E a s).bind fun y s => (Out.of (gt s.r n) s).bind fun x s => (Out.of (ixo s.m x y) s).bind fun d s => if d.isz then .ok d s else .bad := rfl
@[simp] theorem x_slc : ev E (.slc a lo hi) s = (ev E a s).bind fun x s => (ev E lo s).bind fun y s => (Out.of (part lo y) s).bind fun l s => (ev E hi s).bind fun z s => (Out.of (part hi z) s).bind fun h s => Out.of (slo x l h) s := rfl
@[simp] theorem x_abs : ev E .abs s = .ok .non s := rfl
@[simp] theorem x_call : ev E (.call f es) s = (evs E es s).bind fun ds s => cback (E.cl f (D.fzs ds) s.m) s := rfl
@[simp] theorem x_bi : ev E (.bi bi es) s = (evs E es s).bind fun ds s => Out.of (bapp bi ds) s := rfl
@[simp] theorem x_srt : ev E (.srt f a) s = (ev E a s).bind fun x s => srtD E f x s := rfl
@[simp] theorem x_bib : ev E (.bib bi n) s = (Out.of (gt s.r n) s).bind fun x s => if kidz x then Out.of (bapp bi [x.fz]) s else .bad := rfl
@[simp] theorem x_isi : ev E (.isi a ty) s = (ev E a s).bind fun x s => if tyOk x then .ok (.bl (isT ty x)) s else .bad := rfl
@[simp] theorem x_lc : ev E (.lc e tg k its cs vs) s = (evs E its s).bind fun ds s => (Out.of (itm k ds) s).bind fun l s =>
      (lcB E e tg cs vs l [] s).bind fun acc s' => .ok (.lst true acc) { s' with r := backD s.r s'.r vs } := rfl
@[simp] theorem xs_nil : evs E [] s = .ok [] s := rfl
@[simp] theorem xs_cons : evs E (e :: es) s = (ev E e s).bind fun d s => (evs E es s).bind fun ds s => .ok (d :: ds) s := rfl
@[simp] theorem xt_nil : evt E [] s = .ok true s := rfl
@[simp] theorem xt_cons : evt E (c :: cs) s = (ev E c s).bind fun x s => Out.of (tobl x) s := rfl
@[simp] theorem xb : evb E c s = (ev E c s).bind fun x s => Out.of (tobl x) s := rfl
@[simp] theorem k_rai {c : Nat} {fs : List Str} : exec E (.rai c fs es) s = (evs E es s).bind fun ds s => if ds.length ≤ sizeLine then raiS c fs ds s else .bad := rfl
@[simp] theorem k_tri {fl : List (List Str)} {cl : List Nat} {io : Option Nat} {hd : HS} : exec E (.tri kb fl cl io hd) s = tryS (execs E kb s) fl cl hd := rfl
@[simp] theorem k_skip : exec E .skip s = .ok .next s := rfl
@[simp] theorem k_ex : exec E (.ex e) s = (ev E e s).bind fun _ s => .ok .next s := rfl
@[simp] theorem k_set : exec E (.set i e) s = (ev E e s).bind fun d s => .ok .next { s with r := s.r.set i (some d.fz) } := rfl
@[simp] theorem k_bset : exec E (.bset i e) s = (ev E e s).bind fun d s => .ok .next { s with r := s.r.set i (some d) } := rfl
@[simp] theorem k_unp : exec E (.unp tg e) s = (ev E e s).bind fun d s => (Out.of (setTg tg d.fz s.r) s).bind fun r s => .ok .next { s with r := r } := rfl
@[simp] theorem k_par : exec E (.par i j a b) s = (ev E a s).bind fun x s => (ev E b s).bind fun y s => .ok .next { s with r := (s.r.set i (some x.fz)).set j (some y.fz) } := rfl
@[simp] theorem k_seti : exec E (.seti n a e) s = (ev E e s).bind fun d s => (Out.of (gt s.r n) s).bind fun _ s => (ev E a s).bind fun k s => (Out.of (stix n k d s) s).bind fun s' _ => .ok .next s' := rfl
@[simp] theorem k_ite : exec E (.ite c kb kc) s = (evb E c s).bind fun k s => if k then execs E kb s else execs E kc s := rfl
@[simp] theorem k_for : exec E (.forr tg k its kb) s = (evs E its s).bind fun ds s => (Out.of (itm k ds) s).bind fun l s => forB E tg kb l s := rfl
@[simp] theorem k_whl : exec E (.whl c kb) s = whlB E c kb E.w s := rfl
theorem forB_nil {tg : Tg} {b : List K} {s : S} : forB E tg b [] s = .ok .next s := rfl
theorem forB_cons {tg : Tg} {b : List K} {x : D} {l : List D} {s : S} : forB E tg b (x :: l) s = ((Out.of (setTg tg x s.r) s).bind fun r s => execs E b { s with r := r }).bind fun fl s' => match fl with
    | .next => forB E tg b l s' | .cont => forB E tg b l s' | .brk => .ok .next s' | .ret d => .ok (.ret d) s' := rfl
theorem whlB_s {c : C} {b : List K} {w : Nat} {s : S} : whlB E c b (w + 1) s = (evb E c s).bind fun k s1 => if k then (execs E b s1).bind fun fl s' => match fl with
      | .next => whlB E c b w s' | .cont => whlB E c b w s' | .brk => .ok .next s' | .ret d => .ok (.ret d) s'
    else .ok .next s1 := rfl
theorem lcB_nil {acc : List D} : lcB E e tg cs vs [] acc s = .ok acc s := rfl
theorem lcB_cons {x : D} {l acc : List D} : lcB E e tg cs vs (x :: l) acc s = (Out.of (setTg tg x (wipeD s.r vs)) s).bind fun r s1 => (noExc (evt E cs { s1 with r := r })).bind fun b s2 =>
    if b then (noExc (ev E e s2)).bind fun d s3 => if acc.length < sizeLine then lcB E e tg cs vs l (acc ++ [d]) s3 else .bad
    else lcB E e tg cs vs l acc s2 := rfl
@[simp] theorem k_ret : exec E (.ret e) s = (ev E e s).bind fun d s => .ok (.ret d) s := rfl
@[simp] theorem k_brk : exec E .brk s = .ok .brk s := rfl
@[simp] theorem k_cont : exec E .cont s = .ok .cont s := rfl
@[simp] theorem ks_nil : execs E [] s = .ok .next s := rfl
@[simp] theorem ks_cons : execs E (kk :: ks) s = (exec E kk s).bind fun fl s => match fl with | .next => execs E ks s | fl => .ok fl s := rfl
end
@[simp] theorem g_0 {α : Type} (x : Option α) (l : List (Option α)) : gt (x :: l) 0 = x := rfl
@[simp] theorem g_s {α : Type} (x : Option α) (l : List (Option α)) (n : Nat) : gt (x :: l) (n + 1) = gt l n := rfl
@[simp] theorem fz_int (i : Int) : (D.int i).fz = .int i := rfl
@[simp] theorem fz_bl (i : Bool) : (D.bl i).fz = .bl i := rfl
@[simp] theorem fz_str (i : Str) : (D.str i).fz = .str i := rfl
@[simp] theorem fz_non : (D.non).fz = .non := rfl
@[simp] theorem fz_ref (n : Nat) : (D.ref n).fz = .ref n := rfl
@[simp] theorem fz_scr (n : List Int) : (D.scr n).fz = .scr n := rfl
@[simp] theorem fz_tup (l : List D) : (D.tup l).fz = .tup (D.fzs l) := rfl
@[simp] theorem fz_lst (o : Bool) (l : List D) : (D.lst o l).fz = .lst false (D.fzs l) := rfl
@[simp] theorem fzs_nil : D.fzs [] = [] := rfl
@[simp] theorem fzs_cons (x : D) (l : List D) : D.fzs (x :: l) = x.fz :: D.fzs l := rfl
@[simp] theorem sizeLine_le (n : Nat) (h : n ≤ 1000) : (n ≤ sizeLine) = True := eq_true (Nat.le_trans h (by decide))
@[simp] theorem tobl_bl (b : Bool) : tobl (.bl b) = some b := rfl
@[simp] theorem st_name (i : Nat) (d : D) (r : List (Option D)) : setTg (.name i) d r = some (r.set i (some d)) := rfl
@[simp] theorem st_tup (ts : List Tg) (l : List D) (r : List (Option D)) : setTg (.tup ts) (.tup l) r = setTgs ts l r := rfl
@[simp] theorem st_lst (ts : List Tg) (o : Bool) (l : List D) (r : List (Option D)) : setTg (.tup ts) (.lst o l) r = setTgs ts l r := rfl
@[simp] theorem sts_nil (r : List (Option D)) : setTgs [] [] r = some r := rfl
@[simp] theorem sts_cons (t : Tg) (ts : List Tg) (x : D) (l : List D) (r : List (Option D)) : setTgs (t :: ts) (x :: l) r = (setTg t x r).bind fun r' => setTgs ts l r' := rfl
@[simp] theorem wipe_nil (r : List (Option D)) : wipeD r [] = r := rfl
@[simp] theorem wipe_cons (r : List (Option D)) (v : Nat) (vs : List Nat) : wipeD r (v :: vs) = (wipeD r vs).set v none := rfl
@[simp] theorem back_nil (q r : List (Option D)) : backD q r [] = r := rfl
@[simp] theorem back_cons (q r : List (Option D)) (v : Nat) (vs : List Nat) : backD q r (v :: vs) = (backD q r vs).set v (gt q v) := rfl
/-! small operations -/
@[simp] theorem b_add (i j : Int) : bop .add (.int i) (.int j) = some (.int (i + j)) := rfl
@[simp] theorem b_sub (i j : Int) : bop .sub (.int i) (.int j) = some (.int (i - j)) := rfl
theorem b_mul (i j : Int) (h : (small64 i || small64 j) = true) : bop .mul (.int i) (.int j) = some (.int (i * j)) := by
  show (if (small64 i || small64 j) = true then _ else _) = _
  rw [if_pos h]
theorem b_mod (i j : Int) (h : j ≠ 0) : bop .mod (.int i) (.int j) = some (.int (i.fmod j)) := by
  show (if j ≠ 0 then _ else _) = _
  rw [if_pos h]
theorem b_fdiv (i j : Int) (h : j ≠ 0 ∧ j.natAbs < 1073741824) : bop .fdiv (.int i) (.int j) = some (.int (i.fdiv j)) := by
  show (if j ≠ 0 ∧ j.natAbs < 1073741824 then _ else _) = _
  rw [if_pos h]
@[simp] theorem c_lt (i j : Int) : cop .lt (.int i) (.int j) = some (decide (i < j)) := rfl
@[simp] theorem c_le (i j : Int) : cop .le (.int i) (.int j) = some (decide (i ≤ j)) := rfl
@[simp] theorem c_gt (i j : Int) : cop .gt (.int i) (.int j) = some (decide (j < i)) := rfl
@[simp] theorem c_ge (i j : Int) : cop .ge (.int i) (.int j) = some (decide (j ≤ i)) := rfl
@[simp] theorem c_eqI (i j : Int) : cop .eq (.int i) (.int j) = some (i == j) := rfl
@[simp] theorem c_neI (i j : Int) : cop .ne (.int i) (.int j) = some (!(i == j)) := rfl
@[simp] theorem c_eqB (i j : Bool) : cop .eq (.bl i) (.bl j) = some (i == j) := rfl
@[simp] theorem c_neB (i j : Bool) : cop .ne (.bl i) (.bl j) = some (!(i == j)) := rfl
/-! answers -/
/-- the call answers d, the store is m -/
def Ans (o : Out D) (d : D) (m : List Cell) : Prop := ∃ r, o = .ok d ⟨r, m⟩
theorem Ans.back {o : Out D} {d : D} {m : List Cell} (h : Ans o d m) (s : S) : cback o s = .ok d { s with m := m } := by
  obtain ⟨r, rfl⟩ := h; rfl
/-- a def's body answers -/
def Ret (o : Out Fl) (d : D) (m : List Cell) : Prop := ∃ r, o = .ok (.ret d) ⟨r, m⟩
@[simp] theorem ret_ok {d d' : D} {r : List (Option D)} {m m' : List Cell} : Ret (.ok (.ret d) ⟨r, m⟩) d' m' ↔ d = d' ∧ m = m' :=
  ⟨fun ⟨_, e⟩ => by cases e; exact ⟨rfl, rfl⟩, fun ⟨a, b⟩ => ⟨r, by rw [a, b]⟩⟩
theorem ans_of {F : Nat → Option Fn} {gl : Nat → Option D} {w k f : Nat} {ds : List D} {m m' : List Cell} {d : D} {fn : Fn} (hF : F f = some fn) (hl : ds.length = fn.ps)
    (h : Ret (execs ⟨call F gl w k, gl, w⟩ fn.b ⟨ds.map some ++ List.replicate (fn.n - ds.length) none, m⟩) d m') : Ans (call F gl w (k + 1) f ds m) d m' := by
  obtain ⟨r, e⟩ := h
  exact ⟨r, by simp only [call, hF, hl, if_true]; rw [← hl, e]; rfl⟩
/-! loops -/
theorem forB_inv {E : Env} {tg : Tg} {b : List K} (I : S → Prop) : ∀ (l : List D), (∀ x ∈ l, ∀ s, I s → ∃ r s', setTg tg x s.r = some r ∧ execs E b { s with r := r } = .ok .next s' ∧ I s') → ∀ s, I s → ∃ s', forB E tg b l s = .ok .next s' ∧ I s'
  | [], _, s, h => ⟨s, rfl, h⟩
  | x :: xs, hx, s, h => by
    obtain ⟨r, s1, e0, e, h1⟩ := hx x (by simp) s h
    obtain ⟨s2, e2, h2⟩ := forB_inv I xs (fun y hy => hx y (by simp [hy])) s1 h1
    exact ⟨s2, by rw [forB_cons, e0, Out.of_some, Out.bind_ok, e, Out.bind_ok]; exact e2, h2⟩
/-- a comprehension whose test never holds -/
theorem lcB_none {E : Env} {e : C} {tg : Tg} {c : C} {vs : List Nat} (I : S → Prop) : ∀ (l : List D), (∀ x ∈ l, ∀ s, I s → ∃ r s', setTg tg x (wipeD s.r vs) = some r ∧ ev E c { s with r := r } = .ok (.bl false) s' ∧ I s') → ∀ (acc : List D) s, I s → ∃ s', lcB E e tg [c] vs l acc s = .ok acc s' ∧ I s'
  | [], _, acc, s, h => ⟨s, rfl, h⟩
  | x :: xs, hx, acc, s, h => by
    obtain ⟨r, s1, e0, e1, h1⟩ := hx x (by simp) s h
    obtain ⟨s2, e2, h2⟩ := lcB_none I xs (fun y hy => hx y (by simp [hy])) acc s1 h1
    refine ⟨s2, ?_, h2⟩
    rw [lcB_cons, e0, Out.of_some, Out.bind_ok, xt_cons, e1]
    exact e2
@[simp] theorem noExc_ok {α : Type} (a : α) (s : S) : noExc (.ok a s) = .ok a s := rfl
end PV

/-! PvV: the law's own helpers: the pool, its draws, the comparison. -/
namespace PV
open PySem

def fnSame (j : Nat) : Fn := ⟨2, 3, [.ite (.or (.isi (.var 1) .tuple) (.isi (.var 1) .list))
    [.ite (.or (.cmp .ne (.isi (.var 1) .tuple) (.isi (.var 0) .tuple)) (.or (.cmp .ne (.isi (.var 1) .list) (.isi (.var 0) .list)) (.cmp .ne (.bi .len [(.var 0)]) (.bi .len [(.var 1)]))))
    [.ret (.lit (.bl false))]
    [],
    .ret (.cmp .eq (.bi .len [(.lc (.var 2) (.name 2) .rng [(.bi .len [(.var 1)])] [(.nt (.call j [(.ix (.var 0) (.var 2)), (.ix (.var 1) (.var 2))]))] [2])]) (.lit (.int 0)))]
    [],
    .ite (.isN (.var 1))
    [.ret (.isN (.var 0))]
    [],
    .ite (.or (.isi (.var 1) .bool) (.isi (.var 0) .bool))
    [.ret (.and (.isi (.var 1) .bool) (.and (.isi (.var 0) .bool) (.cmp .eq (.var 0) (.var 1))))]
    [],
    .ite (.isi (.var 1) .int)
    [.ret (.and (.isi (.var 0) .int) (.cmp .eq (.var 0) (.var 1)))]
    [],
    .ret (.and (.isi (.var 0) .str) (.cmp .eq (.var 0) (.var 1)))]⟩
def fnPool : Fn := ⟨1, 3, [.set 1 (.lit (.int 7)),
    .forr (.name 2) .seq [(.slc (.var 0) .abs (.lit (.int 63)))]
    [.set 1 (.bin .mod (.bi .int [(.bin .add (.bin .mul (.var 1) (.lit (.int 31))) (.var 2))]) (.lit (.int 1000003)))],
    .ret (.box [(.bi .list [(.var 0)]), (.lit (.int 0)), (.lit (.int 0)), (.lit (.int 0)), (.var 1)])]⟩
def fnSpread : Fn := ⟨1, 4, [.set 1 (.bin .mod (.bi .int [(.var 0)]) (.lit (.int 2147483647))),
    .set 2 (.lit (.int 1)),
    .forr (.name 3) .rng [(.lit (.int 4))]
    [.set 1 (.bin .mod (.bi .int [(.bin .add (.bin .add (.bin .mul (.var 1) (.lit (.int 48271))) (.lit (.int 12345))) (.var 3))]) (.lit (.int 2147483647))),
    .set 2 (.bin .add (.bin .mul (.var 2) (.lit (.int 2147483647))) (.var 1))],
    .ret (.var 2)]⟩
def fnDraw (j : Nat) : Fn := ⟨2, 5, [.ite (.and (.cmp .le (.ix (.var 0) (.lit (.int 2))) (.lit (.int 0))) (.cmp .lt (.ix (.var 0) (.lit (.int 1))) (.bi .len [(.ix (.var 0) (.lit (.int 0)))])))
    [.set 2 (.ix (.ix (.var 0) (.lit (.int 0))) (.ix (.var 0) (.lit (.int 1)))),
    .seti 0 (.lit (.int 1)) (.bin .add (.ix (.var 0) (.lit (.int 1))) (.lit (.int 1))),
    .seti 0 (.lit (.int 2)) (.var 2),
    .ite (.cmp .lt (.var 2) (.lit (.int 1000000000000000000)))
    [.seti 0 (.lit (.int 2)) (.call j [(.var 2)])]
    []]
    [],
    .seti 0 (.lit (.int 3)) (.bin .add (.ix (.var 0) (.lit (.int 3))) (.lit (.int 1))),
    .ite (.cmp .le (.ix (.var 0) (.lit (.int 2))) (.lit (.int 0)))
    [.set 3 (.bin .mod (.bi .int [(.bin .add (.bin .add (.bin .mul (.ix (.var 0) (.lit (.int 4))) (.lit (.int 48271))) (.bin .mul (.ix (.var 0) (.lit (.int 3))) (.lit (.int 69621)))) (.lit (.int 1)))]) (.lit (.int 2147483647))),
    .set 3 (.bin .mod (.bi .int [(.bin .add (.bin .mul (.var 3) (.lit (.int 16807))) (.ix (.var 0) (.lit (.int 3))))]) (.lit (.int 2147483629))),
    .ret (.bin .mod (.bin .fdiv (.var 3) (.lit (.int 5))) (.var 1))]
    [],
    .set 4 (.bin .mod (.bi .int [(.ix (.var 0) (.lit (.int 2)))]) (.var 1)),
    .seti 0 (.lit (.int 2)) (.bin .fdiv (.ix (.var 0) (.lit (.int 2))) (.var 1)),
    .ret (.var 4)]⟩
theorem atD_map2 {l : List Int} {i : Int} (h0 : 0 ≤ i) (h1 : i < l.length) : ∃ z, atD (l.map D.int) i = some (.int z) := by
  refine ⟨l[i.toNat]'(by omega), ?_⟩
  unfold atD ixn
  rw [List.length_map, if_pos h0, if_pos h1]
  show (l.map D.int)[i.toNat]? = _
  rw [List.getElem?_map, List.getElem?_eq_getElem (by omega)]
  rfl
@[simp] theorem bi_int_int (i : Int) : bapp .int [.int i] = some (.int i) := rfl
@[simp] theorem bi_len_lst (o : Bool) (l : List D) : bapp .len [.lst o l] = some (.int l.length) := rfl
@[simp] theorem bi_len_tup (l : List D) : bapp .len [.tup l] = some (.int l.length) := rfl
theorem fzs_ints (l : List Int) : D.fzs (l.map D.int) = l.map D.int := by
  induction l with
  | nil => rfl
  | cons x xs ih => simp [ih]
@[simp] theorem bi_list_scr (l : List Int) : bapp .list [.scr l] = some (.lst true (l.map .int)) := rfl
/-- the pool's box -/
def pbox (l : List Int) (i a b c : Int) : Cell := .box [.lst false (l.map .int), .int i, .int a, .int b, .int c]
def PoolOk (m : List Cell) : Prop := ∃ (l : List Int) (i a b c : Int), 0 ≤ i ∧ m = [pbox l i a b c]
section
variable {F : Nat → Option Fn} {gl : Nat → Option D} {w iS iD iP iE : Nat}
theorem smallR (i j : Int) (h : small64 j = true) : bop .mul (.int i) (.int j) = some (.int (i * j)) := b_mul i j (by rw [h, Bool.or_true])
theorem smallL (i j : Int) (h : small64 i = true) : bop .mul (.int i) (.int j) = some (.int (i * j)) := b_mul i j (by rw [h, Bool.true_or])
def mixS (p k : Int) : Int := (p * 48271 + 12345 + k).fmod 2147483647
theorem itm4 : itm .rng [.int 4] = some [.int 0, .int 1, .int 2, .int 3] := by kernel_rfl
theorem spread_ok (hS : F iS = some fnSpread) (c : Int) : ∃ t : Int, ∀ k m, Ans (call F gl w (k + 1) iS [.int c] m) (.int t) m := by
  let m0 := c.fmod 2147483647
  let m1 := mixS m0 0
  let m2 := mixS m1 1
  let m3 := mixS m2 2
  let m4 := mixS m3 3
  let t := (((1 * 2147483647 + m1) * 2147483647 + m2) * 2147483647 + m3) * 2147483647 + m4
  refine ⟨t, fun k m => ans_of hS rfl ⟨[some (.int c), some (.int m4), some (.int t), some (.int 3)], ?_⟩⟩
  simp [fnSpread, itm4, forB_nil, forB_cons, smallR _ 48271 (by decide), smallR _ 2147483647 (by decide), b_mod _ 2147483647 (by decide), m0, m1, m2, m3, m4, t, mixS]
@[simp] theorem ixo_pool2 (l : List Int) (i a b c : Int) : ixo [pbox l i a b c] (.ref 0) (.int 2) = some (.int a) := rfl
@[simp] theorem ixo_pool1 (l : List Int) (i a b c : Int) : ixo [pbox l i a b c] (.ref 0) (.int 1) = some (.int i) := rfl
@[simp] theorem ixo_pool0 (l : List Int) (i a b c : Int) : ixo [pbox l i a b c] (.ref 0) (.int 0) = some (.lst false (l.map .int)) := rfl
@[simp] theorem ixo_pool3 (l : List Int) (i a b c : Int) : ixo [pbox l i a b c] (.ref 0) (.int 3) = some (.int b) := rfl
@[simp] theorem ixo_pool4 (l : List Int) (i a b c : Int) : ixo [pbox l i a b c] (.ref 0) (.int 4) = some (.int c) := rfl
@[simp] theorem stix_pool1 (l : List Int) (i a b c d : Int) (r : List (Option D)) : stix 0 (.int 1) (.int d) ⟨some (.ref 0) :: r, [pbox l i a b c]⟩ = some ⟨some (.ref 0) :: r, [pbox l d a b c]⟩ := rfl
@[simp] theorem stix_pool2 (l : List Int) (i a b c d : Int) (r : List (Option D)) : stix 0 (.int 2) (.int d) ⟨some (.ref 0) :: r, [pbox l i a b c]⟩ = some ⟨some (.ref 0) :: r, [pbox l i d b c]⟩ := rfl
@[simp] theorem stix_pool3 (l : List Int) (i a b c d : Int) (r : List (Option D)) : stix 0 (.int 3) (.int d) ⟨some (.ref 0) :: r, [pbox l i a b c]⟩ = some ⟨some (.ref 0) :: r, [pbox l i a d c]⟩ := rfl
@[simp] theorem ixo_lst (m : List Cell) (o : Bool) (l : List D) (i : Int) : ixo m (.lst o l) (.int i) = atD l i := rfl
@[simp] theorem ixo_tup (m : List Cell) (l : List D) (i : Int) : ixo m (.tup l) (.int i) = atD l i := rfl
theorem draw_ok {m : List Cell} {many : Int} (hS : F iS = some fnSpread) (hD : F iD = some (fnDraw iS)) (hp : PoolOk m) (h1 : 0 < many) (h2 : many < 1073741824) :
    ∃ (v : Int) (m' : List Cell), 0 ≤ v ∧ v < many ∧ PoolOk m' ∧ ∀ k, Ans (call F gl w (k + 2) iD [.ref 0, .int many] m) (.int v) m' := by
  obtain ⟨l, i, a, b, c, hi, rfl⟩ := hp
  have hm : many ≠ 0 := by omega
  have hd : many ≠ 0 ∧ many.natAbs < 1073741824 := ⟨hm, by omega⟩
  have fm : ∀ x : Int, 0 ≤ x.fmod many ∧ x.fmod many < many := fun x => by rw [Int.fmod_eq_emod_of_nonneg _ (by omega)]; exact ⟨Int.emod_nonneg _ hm, Int.emod_lt_of_pos _ h1⟩
  -- what is done once the pool's number stands
  have rest : ∀ (i a b : Int) (x2 x3 x4 : Option D), 0 ≤ i → ∃ (v : Int) (m' : List Cell), 0 ≤ v ∧ v < many ∧ PoolOk m' ∧ ∀ k, Ret (execs ⟨call F gl w k, gl, w⟩ ((fnDraw iS).b.drop 1) ⟨[some (.ref 0), some (.int many), x2, x3, x4], [pbox l i a b c]⟩) (.int v) m' := fun i a b x2 x3 x4 hi => by
    by_cases ha : a ≤ 0
    · refine ⟨_, _, (fm ((((c * 48271 + (b + 1) * 69621 + 1).fmod 2147483647 * 16807 + (b + 1)).fmod 2147483629).fdiv 5)).1, (fm _).2, ⟨l, i, a, b + 1, c, hi, rfl⟩, fun k => ?_⟩
      simp [fnDraw, ha, smallR _ 48271 (by decide), smallR _ 69621 (by decide), smallR _ 16807 (by decide), b_mod _ 2147483647 (by decide), b_mod _ 2147483629 (by decide), b_fdiv _ 5 (by decide), b_mod _ many hm]
    · refine ⟨_, _, (fm a).1, (fm a).2, ⟨l, i, a.fdiv many, b + 1, c, hi, rfl⟩, fun k => ?_⟩
      simp [fnDraw, ha, b_mod _ many hm, b_fdiv _ many hd]
  obtain ⟨v, m', v0, v1, p, hr⟩ := rest i a b none none none hi
  by_cases hc : a ≤ 0 ∧ i < l.length
  · obtain ⟨z, hz⟩ := atD_map2 hi hc.2
    by_cases hz2 : z < 1000000000000000000
    · obtain ⟨t, ht⟩ := spread_ok (gl := gl) (w := w) hS z
      obtain ⟨v, m', v0, v1, p, hr⟩ := rest (i + 1) t b (some (.int z)) none none (by omega)
      refine ⟨v, m', v0, v1, p, fun k => ans_of hD rfl ?_⟩
      have := hr (k + 1)
      obtain ⟨r, e⟩ := this
      refine ⟨r, ?_⟩
      rw [← e]
      simp [fnDraw, hc.1, hc.2, hz, hz2, (ht k _).back]
    · obtain ⟨v, m', v0, v1, p, hr⟩ := rest (i + 1) z b (some (.int z)) none none (by omega)
      refine ⟨v, m', v0, v1, p, fun k => ans_of hD rfl ?_⟩
      obtain ⟨r, e⟩ := hr (k + 1)
      refine ⟨r, ?_⟩
      rw [← e]
      simp [fnDraw, hc.1, hc.2, hz, hz2]
  · refine ⟨v, m', v0, v1, p, fun k => ans_of hD rfl ?_⟩
    obtain ⟨r, e⟩ := hr (k + 1)
    refine ⟨r, ?_⟩
    rw [← e]
    by_cases ha : a ≤ 0
    · have hl : ¬ i < l.length := fun q => hc ⟨ha, q⟩
      simp [fnDraw, ha, hl]
    · simp [fnDraw, ha]
theorem pool_ok (hP : F iP = some fnPool) (ns : List Int) : ∃ m, PoolOk m ∧ ∀ k, Ans (call F gl w (k + 1) iP [.scr ns] []) (.ref 0) m := by
  have loop : ∀ (l : List D), (∀ x ∈ l, ∃ z : Int, x = .int z) → ∀ (z : Int) (x2 : Option D), ∃ (z' : Int) (x2' : Option D), ∀ (cl : Nat → List D → List Cell → Out D),
      forB ⟨cl, gl, w⟩ (.name 2) [.set 1 (.bin .mod (.bi .int [(.bin .add (.bin .mul (.var 1) (.lit (.int 31))) (.var 2))]) (.lit (.int 1000003)))] l ⟨[some (.scr ns), some (.int z), x2], []⟩ = .ok .next ⟨[some (.scr ns), some (.int z'), x2'], []⟩ := by
    intro l
    induction l with
    | nil => intro _ z x2; exact ⟨z, x2, fun _ => rfl⟩
    | cons x xs ih =>
      intro h z x2
      obtain ⟨y, rfl⟩ := h x (by simp)
      obtain ⟨z', x2', e⟩ := ih (fun a ha => h a (by simp [ha])) ((z * 31 + y).fmod 1000003) (some (.int y))
      refine ⟨z', x2', fun cl => ?_⟩
      rw [forB_cons, ← e cl]
      simp [smallR _ 31 (by decide), b_mod _ 1000003 (by decide)]
  obtain ⟨z', x2', e⟩ := loop ((cut ns none (some 63)).map D.int) (fun x hx => by obtain ⟨y, _, rfl⟩ := List.mem_map.mp hx; exact ⟨y, rfl⟩) 7 none
  refine ⟨[pbox ns 0 0 0 z'], ⟨ns, 0, 0, 0, z', by decide, rfl⟩, fun k => ans_of hP rfl ?_⟩
  have e2 : itm .seq [.lst true ((cut ns none (some 63)).map D.int)] = some ((cut ns none (some 63)).map D.int) := by
    show some (D.fzs _) = _
    rw [fzs_ints]
  simp [fnPool, part, slo, e2, e, bi_list_scr, fzs_ints, pbox]
/-! plain data, frozen -/
mutual
def D.dat : Nat → D → Bool
  | _, .non => true | _, .bl _ => true | _, .int _ => true | _, .str x => PyData.strOk x
  | n + 1, .tup l => D.dats n l && decide (l.length ≤ 1000000)
  | n + 1, .lst o l => !o && D.dats n l && decide (l.length ≤ 1000000)
  | _, _ => false
def D.dats : Nat → List D → Bool
  | _, [] => true | n, x :: xs => D.dat n x && D.dats n xs
end
mutual
theorem D.dat_fz : ∀ (n : Nat) (d : D), D.dat n d = true → d.fz = d
  | n, .non, _ => rfl | n, .bl _, _ => rfl | n, .int _, _ => rfl | n, .str _, _ => rfl
  | n + 1, .tup l, h => by
    simp only [D.dat, Bool.and_eq_true] at h
    simp only [D.fz]; rw [D.dats_fz n l h.1]
  | n + 1, .lst o l, h => by
    simp only [D.dat, Bool.and_eq_true, Bool.not_eq_true'] at h
    simp only [D.fz]; rw [D.dats_fz n l h.1.2, h.1.1]
  | 0, .tup l, h => by simp [D.dat] at h
  | 0, .lst o l, h => by simp [D.dat] at h
  | n, .scr _, h => by simp [D.dat] at h
  | n, .dct _ _ _, h => by simp [D.dat] at h
  | n, .set _ _, h => by simp [D.dat] at h
  | n, .ref _, h => by simp [D.dat] at h
theorem D.dats_fz : ∀ (n : Nat) (l : List D), D.dats n l = true → D.fzs l = l
  | n, [], _ => rfl
  | n, x :: xs, h => by
    simp only [D.dats, Bool.and_eq_true] at h
    simp only [D.fzs]; rw [D.dat_fz n x h.1, D.dats_fz n xs h.2]
end
theorem dats_get : ∀ {n : Nat} {l : List D} {i : Nat} {x : D}, D.dats n l = true → l[i]? = some x → D.dat n x = true
  | n, [], i, x, _, e => by simp at e
  | n, y :: ys, 0, x, h, e => by
    simp only [D.dats, Bool.and_eq_true] at h
    cases e; exact h.1
  | n, y :: ys, i + 1, x, h, e => by
    simp only [D.dats, Bool.and_eq_true] at h
    exact dats_get h.2 (by simpa using e)
theorem itm_rng_len (n : Nat) (h : n ≤ 1000000) : itm .rng [.int (n : Int)] = some ((List.range n).map fun k => .int (k : Nat)) := by
  simp only [itm]
  rw [if_pos (by omega), Int.toNat_natCast]
theorem atD_nat {α : Type} (l : List α) (i : Nat) (h : i < l.length) : atD l (i : Int) = some l[i] := by
  unfold atD ixn
  rw [if_pos (by omega), if_pos (by omega)]
  show l[((i : Nat) : Int).toNat]? = _
  rw [Int.toNat_natCast, List.getElem?_eq_getElem h]
theorem c_str {x : Str} (h : PyData.strOk x = true) : cop .eq (.str x) (.str x) = some true := by simp [cop, eqD]
theorem same_ok (hE : F iE = some (fnSame iE)) : ∀ (n : Nat) (d : D), D.dat n d = true → ∀ k m, Ans (call F gl w (k + n + 1) iE [d, d] m) (.bl true) m := by
  intro n
  induction n with
  | zero =>
    intro d h k m
    refine ans_of hE rfl ?_
    cases d with
    | non => simp [fnSame, tyOk, isT]
    | bl b => simp [fnSame, tyOk, isT]
    | int i => simp [fnSame, tyOk, isT]
    | str x =>
      simp only [D.dat] at h
      simp [fnSame, tyOk, isT, c_str h]
    | _ => simp [D.dat] at h
  | succ n ih =>
    intro d h k m
    have seq : ∀ (l : List D), D.dats n l = true → l.length ≤ 1000000 → ∀ d : D, (∀ (i : Nat), ixo m d (.int i) = atD l i) → ∀ x2, ∃ s', lcB ⟨call F gl w (k + n + 1), gl, w⟩ (.var 2) (.name 2) [(.nt (.call iE [(.ix (.var 0) (.var 2)), (.ix (.var 1) (.var 2))]))] [2] ((List.range l.length).map fun k => .int (k : Nat)) [] ⟨[some d, some d, x2], m⟩ = .ok [] s' ∧ s'.m = m ∧ ∃ x, s'.r = [some d, some d, x] := by
      intro l hl hz d hd x2
      refine lcB_none (fun s => s.m = m ∧ ∃ x, s.r = [some d, some d, x]) _ (fun x hx s hs => ?_) [] ⟨[some d, some d, x2], m⟩ ⟨rfl, x2, rfl⟩
      obtain ⟨i, hi, rfl⟩ := List.mem_map.mp hx
      have hi := List.mem_range.mp hi
      obtain ⟨sr, sm⟩ := s
      obtain ⟨rfl, y, rfl⟩ := hs
      have hx := dats_get hl (List.getElem?_eq_getElem hi)
      refine ⟨[some d, some d, some (.int i)], ⟨[some d, some d, some (.int i)], sm⟩, rfl, ?_, rfl, _, rfl⟩
      have hb := (ih l[i] hx k sm).back ⟨[some d, some d, some (.int i)], sm⟩
      simp [hd, atD_nat l i hi, D.dat_fz n _ hx, hb]
    refine ans_of hE rfl ?_
    have h3 : k + (n + 1) = k + n + 1 := by omega
    cases d with
    | tup l =>
      simp only [D.dat, Bool.and_eq_true, decide_eq_true_eq] at h
      obtain ⟨⟨r', m'⟩, e, rfl, x, rfl⟩ := seq l h.1 h.2 (.tup l) (fun _ => rfl) none
      simp [fnSame, tyOk, isT, itm_rng_len _ h.2, h3, e]
    | lst o l =>
      simp only [D.dat, Bool.and_eq_true, decide_eq_true_eq] at h
      obtain ⟨⟨r', m'⟩, e, rfl, x, rfl⟩ := seq l h.1.2 h.2 (.lst o l) (fun _ => rfl) none
      simp [fnSame, tyOk, isT, itm_rng_len _ h.2, h3, e]
    | non => simp [fnSame, tyOk, isT]
    | bl b => simp [fnSame, tyOk, isT]
    | int i => simp [fnSame, tyOk, isT]
    | str x =>
      simp only [D.dat] at h
      simp [fnSame, tyOk, isT, c_str h]
    | _ => simp [D.dat] at h
end
end PV

/-! PvX: points, tiles, sorting few. -/
namespace PV
open PySem

def pt (x y : Int) : D := .tup [.int x, .int y]
def tl (r c k : Int) : D := .tup [.int r, .int c, .int k]
@[simp] theorem fz_pt (x y : Int) : (pt x y).fz = pt x y := rfl
@[simp] theorem fz_tl (r c k : Int) : (tl r c k).fz = tl r c k := rfl
theorem pt_lt (a b c d : Int) : D.lt (pt a b) (pt c d) = decide (a < c ∨ (a = c ∧ b < d)) := by
  simp only [pt, D.lt, D.lts, D.eqv]
  by_cases h : a = c
  · subst h
    by_cases h2 : b = d
    · subst h2; simp
    · simp [h2]
  · simp [h]
theorem pts_ok (l : List (Int × Int)) (h : l.length ≤ 1000) : bapp .sorted [.lst true (l.map fun p => pt p.1 p.2)] = some (.lst true (sortD (l.map fun p => pt p.1 p.2))) := by
  have e : ∀ a b c d : Int, D.ali (pt a b) (pt c d) = true := fun _ _ _ _ => rfl
  have al : ∀ l : List (Int × Int), alist (l.map fun p => pt p.1 p.2) = true := by
    intro l
    induction l with
    | nil => rfl
    | cons x xs ih =>
      simp only [List.map_cons, alist, ih, Bool.and_true, Bool.and_eq_true, e, List.all_eq_true, true_and]
      intro y hy
      obtain ⟨p, _, rfl⟩ := List.mem_map.mp hy
      simp only [e, and_self]
  have so : sortable (l.map fun p => pt p.1 p.2) = true := by
    unfold sortable
    rw [Bool.or_eq_true]
    left
    rw [List.all_eq_true]
    intro y hy
    obtain ⟨p, _, rfl⟩ := List.mem_map.mp hy
    rfl
  have ok : ∀ l : List (Int × Int), D.okds 59 (l.map fun p => pt p.1 p.2) = true := by
    intro l
    induction l with
    | nil => rfl
    | cons x xs ih => simp only [List.map_cons, D.okds, ih, Bool.and_true]; rfl
  have hz : decide ((l.map fun p => pt p.1 p.2).length ≤ sizeLine) = true := by
    rw [List.length_map]
    exact decide_eq_true (Nat.le_trans h (by decide))
  simp only [bapp, bSorted]
  rw [al, so, ok, hz]
  rfl
theorem pts3 (a b c d e f : Int) : bapp .sorted [.lst true [pt a b, pt c d, pt e f]] = some (.lst true (insD (pt a b) (insD (pt c d) [pt e f]))) := pts_ok [(a, b), (c, d), (e, f)] (by show 3 ≤ 1000; decide)
theorem ins_lt {x y : D} {l : List D} (h : D.lt y x = true) : insD x (y :: l) = y :: insD x l := by simp [insD, h]
theorem ins_ge {x y : D} {l : List D} (h : D.lt y x = false) : insD x (y :: l) = x :: y :: l := by simp [insD, h]
/-- the corners of a tile, in order -/
def crn (r c k : Int) : List D :=
  if k = 0 then [pt (2 * c) (2 * r), pt (2 * c + 1) (2 * r + 1), pt (2 * c + 2) (2 * r)]
  else if k = 1 then [pt (2 * c + 1) (2 * r + 1), pt (2 * c + 2) (2 * r), pt (2 * c + 2) (2 * r + 2)]
  else if k = 2 then [pt (2 * c) (2 * r + 2), pt (2 * c + 1) (2 * r + 1), pt (2 * c + 2) (2 * r + 2)]
  else [pt (2 * c) (2 * r), pt (2 * c) (2 * r + 2), pt (2 * c + 1) (2 * r + 1)]
def fnCorners : Fn := ⟨1, 7, [.unp (.tup [(.name 1), (.name 2), (.name 3)]) (.var 0),
    .set 4 (.bin .mul (.lit (.int 2)) (.var 2)),
    .set 5 (.bin .mul (.lit (.int 2)) (.var 1)),
    .set 6 (.lst [(.tup [(.var 4), (.var 5)]), (.tup [(.bin .add (.var 4) (.lit (.int 2))), (.var 5)]), (.tup [(.bin .add (.var 4) (.lit (.int 2))), (.bin .add (.var 5) (.lit (.int 2)))]), (.tup [(.var 4), (.bin .add (.var 5) (.lit (.int 2)))])]),
    .ret (.bi .sorted [(.lst [(.tup [(.bin .add (.var 4) (.lit (.int 1))), (.bin .add (.var 5) (.lit (.int 1)))]), (.ix (.var 6) (.var 3)), (.ix (.var 6) (.bin .mod (.bin .add (.var 3) (.lit (.int 1))) (.lit (.int 4))))])])]⟩
def fnPoints : Fn := ⟨1, 7, [.unp (.tup [(.name 1), (.name 2), (.name 3)]) (.var 0),
    .set 4 (.bin .mul (.lit (.int 2)) (.var 2)),
    .set 5 (.bin .mul (.lit (.int 2)) (.var 1)),
    .set 6 (.ix (.lst [(.lst [(.tup [(.var 4), (.var 5)]), (.tup [(.bin .add (.var 4) (.lit (.int 2))), (.var 5)])]), (.lst [(.tup [(.bin .add (.var 4) (.lit (.int 2))), (.var 5)]), (.tup [(.bin .add (.var 4) (.lit (.int 2))), (.bin .add (.var 5) (.lit (.int 2)))])]), (.lst [(.tup [(.var 4), (.bin .add (.var 5) (.lit (.int 2)))]), (.tup [(.bin .add (.var 4) (.lit (.int 2))), (.bin .add (.var 5) (.lit (.int 2)))])]), (.lst [(.tup [(.var 4), (.var 5)]), (.tup [(.var 4), (.bin .add (.var 5) (.lit (.int 2)))])])]) (.var 3)),
    .ret (.bi .sorted [(.bin .add (.var 6) (.lst [(.tup [(.bin .add (.var 4) (.lit (.int 1))), (.bin .add (.var 5) (.lit (.int 1)))])]))])]⟩
/-- a place of a written list -/
@[simp] theorem at_0 {α : Type} (x : α) (l : List α) : atD (x :: l) 0 = some x := atD_nat (x :: l) 0 (by simp)
@[simp] theorem at_1 {α : Type} (x y : α) (l : List α) : atD (x :: y :: l) 1 = some y := atD_nat (x :: y :: l) 1 (by simp)
@[simp] theorem at_2 {α : Type} (x y z : α) (l : List α) : atD (x :: y :: z :: l) 2 = some z := atD_nat (x :: y :: z :: l) 2 (by simp)
@[simp] theorem at_3 {α : Type} (x y z u : α) (l : List α) : atD (x :: y :: z :: u :: l) 3 = some u := atD_nat (x :: y :: z :: u :: l) 3 (by simp)
section
variable {F : Nat → Option Fn} {gl : Nat → Option D} {w i : Nat}
theorem cases4 {k : Int} (h0 : 0 ≤ k) (h1 : k < 4) : k = 0 ∨ k = 1 ∨ k = 2 ∨ k = 3 := by omega
theorem srt3 {a b c d e f : Int} {l : List D} (h : insD (pt a b) (insD (pt c d) [pt e f]) = l) : bapp .sorted [.lst true [.tup [.int a, .int b], .tup [.int c, .int d], .tup [.int e, .int f]]] = some (.lst true l) := by
  rw [← h]; exact pts3 a b c d e f
theorem lt_T {a b c d : Int} (h : a < c ∨ (a = c ∧ b < d)) : D.lt (pt a b) (pt c d) = true := by rw [pt_lt]; exact decide_eq_true h
theorem lt_F {a b c d : Int} (h : ¬ (a < c ∨ (a = c ∧ b < d))) : D.lt (pt a b) (pt c d) = false := by rw [pt_lt]; exact decide_eq_false h
theorem ins_nil (x : D) : insD x [] = [x] := rfl
/-- three points by the order in which they come out -/
theorem srtA {a b c d e f : Int} (h1 : ¬ (e < c ∨ (e = c ∧ f < d))) (h2 : ¬ (c < a ∨ (c = a ∧ d < b))) : bapp .sorted [.lst true [.tup [.int a, .int b], .tup [.int c, .int d], .tup [.int e, .int f]]] = some (.lst true [pt a b, pt c d, pt e f]) :=
  srt3 (by rw [ins_ge (lt_F h1), ins_ge (lt_F h2)])
theorem srtB {a b c d e f : Int} (h1 : ¬ (e < c ∨ (e = c ∧ f < d))) (h2 : c < a ∨ (c = a ∧ d < b)) (h3 : ¬ (e < a ∨ (e = a ∧ f < b))) : bapp .sorted [.lst true [.tup [.int a, .int b], .tup [.int c, .int d], .tup [.int e, .int f]]] = some (.lst true [pt c d, pt a b, pt e f]) :=
  srt3 (by rw [ins_ge (lt_F h1), ins_lt (lt_T h2), ins_ge (lt_F h3)])
theorem srtC {a b c d e f : Int} (h1 : ¬ (e < c ∨ (e = c ∧ f < d))) (h2 : c < a ∨ (c = a ∧ d < b)) (h3 : e < a ∨ (e = a ∧ f < b)) : bapp .sorted [.lst true [.tup [.int a, .int b], .tup [.int c, .int d], .tup [.int e, .int f]]] = some (.lst true [pt c d, pt e f, pt a b]) :=
  srt3 (by rw [ins_ge (lt_F h1), ins_lt (lt_T h2), ins_lt (lt_T h3), ins_nil])
theorem srtD3 {a b c d e f : Int} (h1 : e < c ∨ (e = c ∧ f < d)) (h2 : ¬ (e < a ∨ (e = a ∧ f < b))) : bapp .sorted [.lst true [.tup [.int a, .int b], .tup [.int c, .int d], .tup [.int e, .int f]]] = some (.lst true [pt a b, pt e f, pt c d]) :=
  srt3 (by rw [ins_lt (lt_T h1), ins_nil, ins_ge (lt_F h2)])
theorem srtE {a b c d e f : Int} (h1 : e < c ∨ (e = c ∧ f < d)) (h2 : e < a ∨ (e = a ∧ f < b)) (h3 : ¬ (c < a ∨ (c = a ∧ d < b))) : bapp .sorted [.lst true [.tup [.int a, .int b], .tup [.int c, .int d], .tup [.int e, .int f]]] = some (.lst true [pt e f, pt a b, pt c d]) :=
  srt3 (by rw [ins_lt (lt_T h1), ins_nil, ins_lt (lt_T h2), ins_ge (lt_F h3)])
theorem srtF {a b c d e f : Int} (h1 : e < c ∨ (e = c ∧ f < d)) (h2 : e < a ∨ (e = a ∧ f < b)) (h3 : c < a ∨ (c = a ∧ d < b)) : bapp .sorted [.lst true [.tup [.int a, .int b], .tup [.int c, .int d], .tup [.int e, .int f]]] = some (.lst true [pt e f, pt c d, pt a b]) :=
  srt3 (by rw [ins_lt (lt_T h1), ins_nil, ins_lt (lt_T h2), ins_lt (lt_T h3), ins_nil])
theorem b_addL (o p : Bool) (l m : List D) (h : l.length + m.length ≤ 1000) : bop .add (.lst o l) (.lst p m) = some (.lst true (l ++ m)) := by
  simp only [bop]
  rw [if_pos (Nat.le_trans h (by decide))]
theorem corners_ok (hF : F i = some fnCorners) (r c k : Int) (h0 : 0 ≤ k) (h1 : k < 4) (j : Nat) (m : List Cell) : Ans (call F gl w (j + 1) i [tl r c k] m) (.lst true (crn r c k)) m := by
  refine ans_of hF rfl ?_
  rcases cases4 h0 h1 with rfl | rfl | rfl | rfl
  · simp [fnCorners, tl, smallL 2 _ (by decide), b_mod _ 4 (by decide), crn, srtB (a := 2 * c + 1) (b := 2 * r + 1) (c := 2 * c) (d := 2 * r) (e := 2 * c + 2) (f := 2 * r) (by omega) (by omega) (by omega)]
  · simp [fnCorners, tl, smallL 2 _ (by decide), b_mod _ 4 (by decide), crn, srtA (a := 2 * c + 1) (b := 2 * r + 1) (c := 2 * c + 2) (d := 2 * r) (e := 2 * c + 2) (f := 2 * r + 2) (by omega) (by omega)]
  · simp [fnCorners, tl, smallL 2 _ (by decide), b_mod _ 4 (by decide), crn, srtE (a := 2 * c + 1) (b := 2 * r + 1) (c := 2 * c + 2) (d := 2 * r + 2) (e := 2 * c) (f := 2 * r + 2) (by omega) (by omega) (by omega)]
  · simp [fnCorners, tl, smallL 2 _ (by decide), b_mod _ 4 (by decide), crn, srtF (a := 2 * c + 1) (b := 2 * r + 1) (c := 2 * c) (d := 2 * r + 2) (e := 2 * c) (f := 2 * r) (by omega) (by omega) (by omega)]
theorem points_ok (hF : F i = some fnPoints) (r c k : Int) (h0 : 0 ≤ k) (h1 : k < 4) (j : Nat) (m : List Cell) : Ans (call F gl w (j + 1) i [tl r c k] m) (.lst true (crn r c k)) m := by
  refine ans_of hF rfl ?_
  rcases cases4 h0 h1 with rfl | rfl | rfl | rfl
  · simp [fnPoints, tl, smallL 2 _ (by decide), b_addL, crn, srtD3 (a := 2 * c) (b := 2 * r) (c := 2 * c + 2) (d := 2 * r) (e := 2 * c + 1) (f := 2 * r + 1) (by omega) (by omega)]
  · simp [fnPoints, tl, smallL 2 _ (by decide), b_addL, crn, srtE (a := 2 * c + 2) (b := 2 * r) (c := 2 * c + 2) (d := 2 * r + 2) (e := 2 * c + 1) (f := 2 * r + 1) (by omega) (by omega) (by omega)]
  · simp [fnPoints, tl, smallL 2 _ (by decide), b_addL, crn, srtD3 (a := 2 * c) (b := 2 * r + 2) (c := 2 * c + 2) (d := 2 * r + 2) (e := 2 * c + 1) (f := 2 * r + 1) (by omega) (by omega)]
  · simp [fnPoints, tl, smallL 2 _ (by decide), b_addL, crn, srtA (a := 2 * c) (b := 2 * r) (c := 2 * c) (d := 2 * r + 2) (e := 2 * c + 1) (f := 2 * r + 1) (by omega) (by omega)]
/-! the size -/
def fnSize (j : Nat) : Fn := ⟨2, 4, [.set 2 (.tup [(.tup [(.lit (.int 1)), (.lit (.int 1))]), (.tup [(.lit (.int 1)), (.lit (.int 2))]), (.tup [(.lit (.int 2)), (.lit (.int 1))]), (.tup [(.lit (.int 1)), (.lit (.int 3))]), (.tup [(.lit (.int 3)), (.lit (.int 1))]), (.tup [(.lit (.int 2)), (.lit (.int 2))]), (.tup [(.lit (.int 1)), (.lit (.int 4))]), (.tup [(.lit (.int 4)), (.lit (.int 1))]), (.tup [(.lit (.int 2)), (.lit (.int 2))]), (.tup [(.lit (.int 1)), (.lit (.int 4))]), (.tup [(.lit (.int 2)), (.lit (.int 3))]), (.tup [(.lit (.int 3)), (.lit (.int 2))]), (.tup [(.lit (.int 3)), (.lit (.int 3))]), (.tup [(.lit (.int 1)), (.lit (.int 6))]), (.tup [(.lit (.int 6)), (.lit (.int 1))]), (.tup [(.lit (.int 2)), (.lit (.int 4))])]),
    .set 3 (.ix (.var 2) (.call j [(.var 0), (.ite (.cmp .lt (.var 1) (.lit (.int 5))) (.lit (.int 10)) (.lit (.int 16)))])),
    .whl (.cmp .gt (.bin .mul (.ix (.var 3) (.lit (.int 0))) (.ix (.var 3) (.lit (.int 1)))) (.var 1))
    [.set 3 (.tup [(.bi .max2 [(.lit (.int 1)), (.bin .sub (.ix (.var 3) (.lit (.int 0))) (.lit (.int 1)))]), (.bi .max2 [(.lit (.int 1)), (.bin .sub (.ix (.var 3) (.lit (.int 1))) (.lit (.int 1)))])])],
    .ret (.ite (.and (.cmp .gt (.var 1) (.lit (.int 20))) (.cmp .eq (.call j [(.var 0), (.lit (.int 6))]) (.lit (.int 0)))) (.tup [(.lit (.int 4)), (.lit (.int 6))]) (.var 3))]⟩
def szD (a b : Int) : D := .tup [.int a, .int b]
def sizes : List (Int × Int) := [(1, 1), (1, 2), (2, 1), (1, 3), (3, 1), (2, 2), (1, 4), (4, 1), (2, 2), (1, 4), (2, 3), (3, 2), (3, 3), (1, 6), (6, 1), (2, 4)]
theorem size9_ok {iS iD : Nat} {m : List Cell} (hS : F iS = some fnSpread) (hD : F iD = some (fnDraw iS)) (hF : F i = some (fnSize iD)) (hp : PoolOk m) : ∃ (p : Int × Int) (m' : List Cell), p ∈ sizes ∧ PoolOk m' ∧ ∀ k, Ans (call F gl (w + 1) (k + 3) i [.ref 0, .int 9] m) (szD p.1 p.2) m' := by
  obtain ⟨v, m', v0, v1, p', hv⟩ := draw_ok (gl := gl) (w := w + 1) (many := 16) hS hD hp (by decide) (by decide)
  obtain ⟨p, hp1, hp2, hp3⟩ : ∃ p : Int × Int, p ∈ sizes ∧ p.1 * p.2 ≤ 9 ∧ small64 p.1 = true ∧ atD (sizes.map fun p => szD p.1 p.2) v = some (szD p.1 p.2) := by
    have hl : v.toNat < sizes.length := by show v.toNat < 16; omega
    have e : (v.toNat : Int) = v := by omega
    have all : ∀ p ∈ sizes, p.1 * p.2 ≤ 9 ∧ small64 p.1 = true := by decide
    refine ⟨sizes[v.toNat], List.getElem_mem hl, (all _ (List.getElem_mem hl)).1, (all _ (List.getElem_mem hl)).2, ?_⟩
    have h := atD_nat (sizes.map fun p => szD p.1 p.2) v.toNat (by rw [List.length_map]; exact hl)
    rw [List.getElem_map, e] at h
    exact h
  refine ⟨p, m', hp1, p', fun k => ans_of hF rfl ?_⟩
  have h3 : atD [(D.tup [.int 1, .int 1]), .tup [.int 1, .int 2], .tup [.int 2, .int 1], .tup [.int 1, .int 3], .tup [.int 3, .int 1], .tup [.int 2, .int 2], .tup [.int 1, .int 4], .tup [.int 4, .int 1], .tup [.int 2, .int 2], .tup [.int 1, .int 4], .tup [.int 2, .int 3], .tup [.int 3, .int 2], .tup [.int 3, .int 3], .tup [.int 1, .int 6], .tup [.int 6, .int 1], .tup [.int 2, .int 4]] v = some (.tup [.int p.1, .int p.2]) := hp3.2
  simp [fnSize, (hv k).back, h3, whlB_s, smallL _ _ hp3.1, Int.not_lt.mpr hp2, szD]
/-! lines -/
def wrd : Nat → Str
  | 0 => "x" | 1 => "y" | 2 => "down" | _ => "up"
def lev (n : Nat) (x y : Int) : Int := match n with
  | 0 => x | 1 => y | 2 => x - y | _ => x + y
def lnD (n : Nat) (v : Int) : D := .tup [.str (wrd n), .int v]
def fnAny (j : Nat) : Fn := ⟨2, 2, [.ret (.tup [(.ix (.tup [(.lit (.str "x")), (.lit (.str "y")), (.lit (.str "down")), (.lit (.str "up"))]) (.call j [(.var 0), (.lit (.int 4))])), (.bin .sub (.bin .mul (.lit (.int 2)) (.call j [(.var 0), (.bin .add (.bin .mul (.lit (.int 2)) (.var 1)) (.lit (.int 1)))])) (.bin .mul (.lit (.int 2)) (.var 1)))])]⟩
theorem any_ok {iS iD : Nat} {m : List Cell} {most : Int} (hS : F iS = some fnSpread) (hD : F iD = some (fnDraw iS)) (hF : F i = some (fnAny iD)) (hp : PoolOk m) (h0 : 0 ≤ most) (h1 : most < 1000) :
    ∃ (n : Nat) (u : Int) (m' : List Cell), n < 4 ∧ 0 ≤ u ∧ u ≤ 2 * most ∧ PoolOk m' ∧ ∀ k, Ans (call F gl w (k + 3) i [.ref 0, .int most] m) (lnD n (2 * u - 2 * most)) m' := by
  obtain ⟨v, m1, v0, v1, p1, hv⟩ := draw_ok (gl := gl) (w := w) (many := 4) hS hD hp (by decide) (by decide)
  obtain ⟨u, m2, u0, u1, p2, hu⟩ := draw_ok (gl := gl) (w := w) (many := 2 * most + 1) hS hD p1 (by omega) (by omega)
  refine ⟨v.toNat, u, m2, by omega, u0, by omega, p2, fun k => ans_of hF rfl ?_⟩
  have e := (hv k).back
  have e2 := (hu k).back
  rcases cases4 v0 v1 with rfl | rfl | rfl | rfl
  all_goals simp [fnAny, e, e2, smallL 2 _ (by decide), lnD, wrd]
theorem wrd_ne : (("x" : Str) == "y") = false ∧ (("x" : Str) == "down") = false ∧ (("x" : Str) == "up") = false ∧ (("y" : Str) == "x") = false ∧ (("y" : Str) == "down") = false ∧ (("y" : Str) == "up") = false ∧ (("down" : Str) == "x") = false ∧ (("down" : Str) == "y") = false ∧ (("down" : Str) == "up") = false ∧
    (("up" : Str) == "x") = false ∧ (("up" : Str) == "y") = false ∧ (("up" : Str) == "down") = false := by decide +kernel
/-- {'x': .., 'y': .., 'down': .., 'up': ..}[word] -/
theorem dct4 (E : Env) (n : Nat) (hn : n < 4) (c0 c1 c2 c3 cw : C) (s : S) (x y : Int) (h0 : ev E c0 s = .ok (.int x) s) (h1 : ev E c1 s = .ok (.int y) s) (h2 : ev E c2 s = .ok (.int (x - y)) s) (h3 : ev E c3 s = .ok (.int (x + y)) s) (hw : ev E cw s = .ok (.str (wrd n)) s) :
    ev E (.ix (.dct [(.lit (.str "x")), c0, (.lit (.str "y")), c1, (.lit (.str "down")), c2, (.lit (.str "up")), c3]) cw) s = .ok (.int (lev n x y)) s := by
  have kd : kdis [.str "x", .str "y", .str "down", .str "up"] = true := by decide +kernel
  have ix : ixo s.m (.dct true [.str "x", .str "y", .str "down", .str "up"] [.int x, .int y, .int (x - y), .int (x + y)]) (.str (wrd n)) = some (.int (lev n x y)) := by
    obtain ⟨a1, a2, a3, a4, a5, a6, a7, a8, a9, a10, a11, a12⟩ := wrd_ne
    have hn : n = 0 ∨ n = 1 ∨ n = 2 ∨ n = 3 := by omega
    rcases hn with rfl | rfl | rfl | rfl
    all_goals simp [ixo, dget, D.eqv, wrd, kof, lev, a1, a2, a3, a4, a5, a6, a7, a8, a9, a10, a11, a12]
  simp [h0, h1, h2, h3, hw, evens, odds, kd, ix]
def fnLevel : Fn := ⟨2, 4, [.unp (.tup [(.name 2), (.name 3)]) (.var 1),
    .ret (.ix (.dct [(.lit (.str "x")), (.var 2), (.lit (.str "y")), (.var 3), (.lit (.str "down")), (.bin .sub (.var 2) (.var 3)), (.lit (.str "up")), (.bin .add (.var 2) (.var 3))]) (.var 0))]⟩
theorem level_ok (hF : F i = some fnLevel) (n : Nat) (hn : n < 4) (x y : Int) (j : Nat) (m : List Cell) : Ans (call F gl w (j + 1) i [.str (wrd n), pt x y] m) (.int (lev n x y)) m := by
  refine ans_of hF rfl ?_
  have e := dct4 ⟨call F gl w j, gl, w⟩ n hn (.var 2) (.var 3) (.bin .sub (.var 2) (.var 3)) (.bin .add (.var 2) (.var 3)) (.var 0) ⟨[some (.str (wrd n)), some (pt x y), some (.int x), some (.int y)], m⟩ x y (by simp) (by simp) (by simp) (by simp) (by simp)
  have e2 : setTg (.tup [(.name 2), (.name 3)]) (pt x y) [some (.str (wrd n)), some (pt x y), none, none] = some [some (.str (wrd n)), some (pt x y), some (.int x), some (.int y)] := rfl
  simp [fnLevel, e2, e, -x_ix]
def fnSide (jc jl : Nat) : Fn := ⟨2, 4, [.set 2 (.bi .sum [(.lc (.call jl [(.ix (.var 0) (.lit (.int 0))), (.var 3)]) (.name 3) .seq [(.call jc [(.var 1)])] [] [3])]),
    .ret (.ite (.cmp .lt (.var 2) (.bin .mul (.lit (.int 3)) (.ix (.var 0) (.lit (.int 1))))) (.neg (.lit (.int 1))) (.lit (.int 1)))]⟩
/-- the three levels of a tile's corners -/
def lvs (n : Nat) (r c k : Int) : List Int := 
  if k = 0 then [lev n (2 * c) (2 * r), lev n (2 * c + 1) (2 * r + 1), lev n (2 * c + 2) (2 * r)]
  else if k = 1 then [lev n (2 * c + 1) (2 * r + 1), lev n (2 * c + 2) (2 * r), lev n (2 * c + 2) (2 * r + 2)]
  else if k = 2 then [lev n (2 * c) (2 * r + 2), lev n (2 * c + 1) (2 * r + 1), lev n (2 * c + 2) (2 * r + 2)]
  else [lev n (2 * c) (2 * r), lev n (2 * c) (2 * r + 2), lev n (2 * c + 1) (2 * r + 1)]
@[simp] theorem bi_sum3 (o : Bool) (a b c : Int) : bapp .sum [.lst o [.int a, .int b, .int c]] = some (.int (a + (b + (c + 0)))) := rfl
theorem acc_le (n : Nat) (h : n < 1000) : (n < sizeLine) = True := eq_true (Nat.lt_of_lt_of_le h (by decide))
theorem lc_add {E : Env} {e : C} {tg : Tg} {vs : List Nat} {x d : D} {l acc : List D} {s s' : S} {r : List (Option D)} (h0 : setTg tg x (wipeD s.r vs) = some r) (h : ev E e { s with r := r } = .ok d s') (hl : acc.length < 1000) : lcB E e tg [] vs (x :: l) acc s = lcB E e tg [] vs l (acc ++ [d]) s' := by
  rw [lcB_cons, h0, Out.of_some, Out.bind_ok, xt_nil, noExc_ok, Out.bind_ok, if_pos rfl, h, noExc_ok, Out.bind_ok, if_pos (Nat.lt_of_lt_of_le hl (by decide))]
theorem side_ok {jc jl : Nat} (hC : F jc = some fnCorners) (hL : F jl = some fnLevel) (hF : F i = some (fnSide jc jl)) (n : Nat) (hn : n < 4) (v r c k : Int) (h0 : 0 ≤ k) (h1 : k < 4) (j : Nat) (m : List Cell) :
    Ans (call F gl w (j + 2) i [lnD n v, tl r c k] m) (.int (if (lvs n r c k).sum < 3 * v then -1 else 1)) m := by
  have hl := fun x y => (level_ok (gl := gl) (w := w) hL n hn x y j m)
  have lc3 : ∀ x1 y1 x2 y2 x3 y3 : Int, lcB ⟨call F gl w (j + 1), gl, w⟩ (.call jl [(.ix (.var 0) (.lit (.int 0))), (.var 3)]) (.name 3) [] [3] [pt x1 y1, pt x2 y2, pt x3 y3] [] ⟨[some (lnD n v), some (tl r c k), none, none], m⟩ = .ok [.int (lev n x1 y1), .int (lev n x2 y2), .int (lev n x3 y3)] ⟨[some (lnD n v), some (tl r c k), none, some (pt x3 y3)], m⟩ := by
    intro x1 y1 x2 y2 x3 y3
    have stp : ∀ (x y : Int) (o : Option D), ev ⟨call F gl w (j + 1), gl, w⟩ (.call jl [(.ix (.var 0) (.lit (.int 0))), (.var 3)]) ⟨[some (lnD n v), some (tl r c k), none, some (pt x y)], m⟩ = .ok (.int (lev n x y)) ⟨[some (lnD n v), some (tl r c k), none, some (pt x y)], m⟩ := fun x y o => by
      have := (hl x y).back ⟨[some (lnD n v), some (tl r c k), none, some (pt x y)], m⟩
      simp [lnD] at this ⊢
      exact this
    rw [lc_add (r := [some (lnD n v), some (tl r c k), none, some (pt x1 y1)]) rfl (stp x1 y1 none) (by simp), lc_add (r := [some (lnD n v), some (tl r c k), none, some (pt x2 y2)]) rfl (stp x2 y2 none) (by simp), lc_add (r := [some (lnD n v), some (tl r c k), none, some (pt x3 y3)]) rfl (stp x3 y3 none) (by simp), lcB_nil]
    rfl
  refine ans_of hF rfl ?_
  have hc := (corners_ok (gl := gl) (w := w) hC r c k h0 h1 j m).back ⟨[some (lnD n v), some (tl r c k), none, none], m⟩
  have iseq : ∀ x1 y1 x2 y2 x3 y3 : Int, itm .seq [.lst true [pt x1 y1, pt x2 y2, pt x3 y3]] = some [pt x1 y1, pt x2 y2, pt x3 y3] := fun _ _ _ _ _ _ => rfl
  rcases cases4 h0 h1 with rfl | rfl | rfl | rfl
  all_goals
    simp only [crn] at hc
    simp only [Int.reduceEq, ↓reduceIte] at hc
    simp [fnSide, hc, iseq, lc3, smallL 3 _ (by decide), lvs]
    simp [lnD, smallL 3 _ (by decide)]
    split <;> simp
end
end PV

/-! PvY: more tools: lists that grow, the least, places, memberships. -/
namespace PV
open PySem

def appV : Option D → D → Option D
  | some (.lst true l), d => if l.length < sizeLine then some (.lst true (l ++ [d])) else none
  | _, _ => none
def extV : Option D → D → Option D
  | some (.lst true l), .lst _ m => if l.length + m.length ≤ sizeLine then some (.lst true (l ++ m)) else none
  | _, _ => none
section
variable {E : Env} {s : S} {n : Nat} {e : C}
@[simp] theorem k_app : exec E (.app n e) s = if isL (gt s.r n) then (ev E e s).bind fun d s => (Out.of (appV (gt s.r n) d) s).bind fun x s => .ok .next { s with r := s.r.set n (some x) } else .bad := by
  simp only [exec]
  congr 2
  funext d s
  generalize gt s.r n = o
  rcases o with _ | x
  · rfl
  · cases x <;> try rfl
    rename_i o l
    cases o
    · rfl
    · simp only [appV]
      split <;> rfl
@[simp] theorem k_ext : exec E (.ext n e) s = if isL (gt s.r n) then (ev E e s).bind fun d s => (Out.of (extV (gt s.r n) d) s).bind fun x s => .ok .next { s with r := s.r.set n (some x) } else .bad := by
  simp only [exec]
  congr 2
  funext d s
  generalize gt s.r n = o
  rcases o with _ | x
  · rfl
  · cases x <;> try rfl
    rename_i o l
    cases o
    · rfl
    · cases d <;> try rfl
      simp only [extV]
      split <;> rfl
end
@[simp] theorem isL_lst (o : Bool) (l : List D) : isL (some (.lst o l)) = true := rfl
theorem appV_l (l : List D) (d : D) (h : l.length < 1000) : appV (some (.lst true l)) d = some (.lst true (l ++ [d])) := by
  simp only [appV]; rw [if_pos (Nat.lt_of_lt_of_le h (by decide))]
theorem extV_l (o : Bool) (l m : List D) (h : l.length + m.length ≤ 1000) : extV (some (.lst true l)) (.lst o m) = some (.lst true (l ++ m)) := by
  simp only [extV]; rw [if_pos (Nat.le_trans h (by decide))]
@[simp] theorem sizeLine_lt (n : Nat) (h : n < 1000) : (n < sizeLine) = True := eq_true (Nat.lt_of_lt_of_le h (by decide))
/-! tiles in order -/
theorem tl_eqv (a b c d e f : Int) : D.eqv (tl a b c) (tl d e f) = decide (a = d ∧ b = e ∧ c = f) := by
  simp only [tl, D.eqv, D.eqvs, Bool.and_true]
  rw [Bool.eq_iff_iff]; simp
theorem pt_eqv (a b c d : Int) : D.eqv (pt a b) (pt c d) = decide (a = c ∧ b = d) := by
  simp only [pt, D.eqv, D.eqvs, Bool.and_true]
  rw [Bool.eq_iff_iff]; simp
theorem tl_lt (a b c d e f : Int) : D.lt (tl a b c) (tl d e f) = decide (a < d ∨ (a = d ∧ (b < e ∨ (b = e ∧ c < f)))) := by
  simp only [tl, D.lt, D.lts, D.eqv]
  by_cases h : a = d
  · subst h
    by_cases h2 : b = e
    · subst h2
      by_cases h3 : c = f
      · subst h3; simp
      · simp [h3]
    · simp [h2]
  · simp [h]
theorem tlT {a b c d e f : Int} (h : a < d ∨ (a = d ∧ (b < e ∨ (b = e ∧ c < f)))) : D.lt (tl a b c) (tl d e f) = true := by rw [tl_lt]; exact decide_eq_true h
theorem tlF {a b c d e f : Int} (h : ¬ (a < d ∨ (a = d ∧ (b < e ∨ (b = e ∧ c < f))))) : D.lt (tl a b c) (tl d e f) = false := by rw [tl_lt]; exact decide_eq_false h
theorem tlE {a b c d e f : Int} (h : a = d ∧ b = e ∧ c = f) : D.eqv (tl a b c) (tl d e f) = true := by rw [tl_eqv]; exact decide_eq_true h
theorem tlN {a b c d e f : Int} (h : ¬ (a = d ∧ b = e ∧ c = f)) : D.eqv (tl a b c) (tl d e f) = false := by rw [tl_eqv]; exact decide_eq_false h
theorem min_lt {m x : D} {xs : List D} (h : D.lt x m = true) : minDD m (x :: xs) = minDD x xs := by simp [minDD, h]
theorem min_ge {m x : D} {xs : List D} (h : D.lt x m = false) : minDD m (x :: xs) = minDD m xs := by simp [minDD, h]
theorem min_nil {m : D} : minDD m [] = m := rfl
theorem fi_no {x y : D} {l : List D} (h : D.eqv x y = false) : (x :: l).findIdx? (fun z => D.eqv z y) = (l.findIdx? fun z => D.eqv z y).map (· + 1) := by rw [List.findIdx?_cons, if_neg (by rw [h]; exact Bool.false_ne_true)]
theorem fi_yes {x y : D} {l : List D} (h : D.eqv x y = true) : (x :: l).findIdx? (fun z => D.eqv z y) = some 0 := by rw [List.findIdx?_cons, if_pos h]
abbrev tls (l : List (Int × Int × Int)) : List D := l.map fun p => tl p.1 p.2.1 p.2.2
theorem tls_okds (n : Nat) (l : List (Int × Int × Int)) : D.okds (n + 1) (tls l) = true := by
  induction l with
  | nil => rfl
  | cons x xs ih => simp only [tls, List.map_cons, D.okds]; rw [ih]; rfl
theorem tls_flats (l : List (Int × Int × Int)) : D.flats (tls l) = true := by
  induction l with
  | nil => rfl
  | cons x xs ih => simp only [tls, List.map_cons, D.flats]; rw [ih]; rfl
theorem tls_alist (l : List (Int × Int × Int)) : alist (tls l) = true := by
  have e : ∀ a b c d e f : Int, D.ali (tl a b c) (tl d e f) = true := fun _ _ _ _ _ _ => rfl
  induction l with
  | nil => rfl
  | cons x xs ih =>
    simp only [tls, List.map_cons, alist, Bool.and_eq_true, e, List.all_eq_true, true_and]
    refine ⟨fun y hy => ?_, ih⟩
    obtain ⟨p, _, rfl⟩ := List.mem_map.mp hy
    simp only [e, and_self]
theorem min_tls (o : Bool) (p : Int × Int × Int) (l : List (Int × Int × Int)) : bapp .min [.lst o (tls (p :: l))] = some (minDD (tl p.1 p.2.1 p.2.2) (tls l)) := by
  have h : toInts (tls (p :: l)) = none := rfl
  show (match toInts (tls (p :: l)) with | some [] => none | some (n :: ns) => some (D.int (minI n ns)) | none => minData (tls (p :: l))) = _
  rw [h]
  show minData (tls (p :: l)) = _
  have a := tls_alist (p :: l)
  have b := tls_okds 49 (p :: l)
  have c := tls_flats (p :: l)
  simp only [tls, List.map_cons] at a b c ⊢
  simp only [minData, a, b, c]
  rfl
theorem idx_tls (o : Bool) (l : List (Int × Int × Int)) (a b c : Int) : idxD (.lst o (tls l)) (tl a b c) = ((tls l).findIdx? fun z => D.eqv z (tl a b c)).map fun n => .int (n : Nat) := by
  have h : D.okds 59 (tls l) = true := tls_okds 58 l
  have h2 : D.cmpb (tl a b c) = true := rfl
  simp only [idxD, h, h2, Bool.and_self, if_true]
@[simp] theorem x_idx {E : Env} {a b : C} {s : S} : ev E (.idx a b) s = (ev E a s).bind fun x s => if isL (some x) then (ev E b s).bind fun y s => Out.of (idxD x y) s else .bad := rfl
/-! membership of points -/
abbrev pts (l : List (Int × Int)) : List D := l.map fun p => pt p.1 p.2
theorem pts_okds (n : Nat) (l : List (Int × Int)) : D.okds (n + 1) (pts l) = true := by
  induction l with
  | nil => rfl
  | cons x xs ih => simp only [pts, List.map_cons, D.okds]; rw [ih]; rfl
theorem in_pts (o : Bool) (l : List (Int × Int)) (a b : Int) : cop .isin (pt a b) (.lst o (pts l)) = some ((pts l).any fun z => D.eqv z (pt a b)) := by
  have h : D.okds 59 (pts l) = true := pts_okds 58 l
  have h2 : D.cmpb (pt a b) = true := rfl
  simp only [cop, inD, seqOf, h, h2, Bool.and_self, if_true]
theorem notin_pts (o : Bool) (l : List (Int × Int)) (a b : Int) : cop .notin (pt a b) (.lst o (pts l)) = some (!(pts l).any fun z => D.eqv z (pt a b)) := by
  have h : D.okds 59 (pts l) = true := pts_okds 58 l
  have h2 : D.cmpb (pt a b) = true := rfl
  simp only [cop, inD, seqOf, h, h2, Bool.and_self, if_true]; rfl
end PV

/-! PvZ: motions. -/
namespace PV
open PySem

structure Mo where
  a : Int
  b : Int
  c : Int
  d : Int
  e : Int
  f : Int
def moD (M : Mo) : D := .tup [.int M.a, .int M.b, .int M.c, .int M.d, .int M.e, .int M.f]
def stay : Mo := ⟨1, 0, 0, 1, 0, 0⟩
/-- the mirroring at a line -/
def mrg (n : Nat) (v : Int) : Mo := match n with
  | 0 => ⟨-1, 0, 0, 1, 2 * v, 0⟩ | 1 => ⟨1, 0, 0, -1, 0, 2 * v⟩ | 2 => ⟨0, 1, 1, 0, v, -v⟩ | _ => ⟨0, -1, -1, 0, v, v⟩
def mv (M : Mo) (p : Int × Int) : Int × Int := (M.a * p.1 + M.b * p.2 + M.e, M.c * p.1 + M.d * p.2 + M.f)
def aft (F S : Mo) : Mo := ⟨S.a * F.a + S.b * F.c, S.a * F.b + S.b * F.d, S.c * F.a + S.d * F.c, S.c * F.b + S.d * F.d, S.a * F.e + S.b * F.f + S.e, S.c * F.e + S.d * F.f + S.f⟩
def und (M : Mo) : Mo := ⟨M.a, M.c, M.b, M.d, -(M.a * M.e + M.c * M.f), -(M.b * M.e + M.d * M.f)⟩
/-- a point, mirrored at a line -/
def mir (n : Nat) (v : Int) (p : Int × Int) : Int × Int := match n with
  | 0 => (2 * v - p.1, p.2) | 1 => (p.1, 2 * v - p.2) | 2 => (p.2 + v, p.1 - v) | _ => (v - p.2, v - p.1)
theorem Mo.ext' {M N : Mo} (h1 : M.a = N.a) (h2 : M.b = N.b) (h3 : M.c = N.c) (h4 : M.d = N.d) (h5 : M.e = N.e) (h6 : M.f = N.f) : M = N := by
  cases M; cases N; simp_all
theorem mv_aft (F S : Mo) (p : Int × Int) : mv (aft F S) p = mv S (mv F p) := by
  simp only [mv, aft, Prod.mk.injEq]
  constructor <;> grind
theorem aft_assoc (A B C : Mo) : aft (aft A B) C = aft A (aft B C) := by
  simp only [aft, Mo.mk.injEq]
  refine ⟨?_, ?_, ?_, ?_, ?_, ?_⟩ <;> grind
theorem aft_stay (A : Mo) : aft A stay = A := by
  apply Mo.ext' <;> simp [aft, stay]
theorem stay_aft (A : Mo) : aft stay A = A := by
  apply Mo.ext' <;> simp [aft, stay]
theorem mir_mv (n : Nat) (v : Int) (p : Int × Int) : mir n v p = mv (mrg n v) p := by
  unfold mir mrg
  split <;> simp [mv] <;> omega
/-- a motion is one of eight, by whole even steps -/
def Dih (M : Mo) : Prop := (M.a = 1 ∧ M.b = 0 ∧ M.c = 0 ∧ M.d = 1) ∨ (M.a = -1 ∧ M.b = 0 ∧ M.c = 0 ∧ M.d = 1) ∨ (M.a = 1 ∧ M.b = 0 ∧ M.c = 0 ∧ M.d = -1) ∨ (M.a = -1 ∧ M.b = 0 ∧ M.c = 0 ∧ M.d = -1) ∨
  (M.a = 0 ∧ M.b = 1 ∧ M.c = 1 ∧ M.d = 0) ∨ (M.a = 0 ∧ M.b = -1 ∧ M.c = 1 ∧ M.d = 0) ∨ (M.a = 0 ∧ M.b = 1 ∧ M.c = -1 ∧ M.d = 0) ∨ (M.a = 0 ∧ M.b = -1 ∧ M.c = -1 ∧ M.d = 0)
structure Good (M : Mo) : Prop where
  dih : Dih M
  e : M.e % 2 = 0
  f : M.f % 2 = 0
theorem good_stay : Good stay := ⟨.inl ⟨rfl, rfl, rfl, rfl⟩, rfl, rfl⟩
theorem good_mrg (n : Nat) {v : Int} (h : v % 2 = 0) : Good (mrg n v) := by
  unfold mrg
  split <;> refine ⟨?_, ?_, ?_⟩ <;> simp [Dih] <;> omega
theorem Dih.aft {F S : Mo} (h : Dih F) (g : Dih S) : Dih (aft F S) := by
  obtain ⟨a, b, c, d, e, f⟩ := F
  obtain ⟨a', b', c', d', e', f'⟩ := S
  simp only [Dih] at h g
  rcases h with ⟨rfl, rfl, rfl, rfl⟩ | ⟨rfl, rfl, rfl, rfl⟩ | ⟨rfl, rfl, rfl, rfl⟩ | ⟨rfl, rfl, rfl, rfl⟩ | ⟨rfl, rfl, rfl, rfl⟩ | ⟨rfl, rfl, rfl, rfl⟩ | ⟨rfl, rfl, rfl, rfl⟩ | ⟨rfl, rfl, rfl, rfl⟩ <;>
  rcases g with ⟨rfl, rfl, rfl, rfl⟩ | ⟨rfl, rfl, rfl, rfl⟩ | ⟨rfl, rfl, rfl, rfl⟩ | ⟨rfl, rfl, rfl, rfl⟩ | ⟨rfl, rfl, rfl, rfl⟩ | ⟨rfl, rfl, rfl, rfl⟩ | ⟨rfl, rfl, rfl, rfl⟩ | ⟨rfl, rfl, rfl, rfl⟩ <;>
  simp [Dih, PV.aft]
theorem Good.aft {F S : Mo} (h : Good F) (g : Good S) : Good (aft F S) := by
  refine ⟨h.dih.aft g.dih, ?_, ?_⟩
  · obtain ⟨a, b, c, d, e, f⟩ := F
    obtain ⟨a', b', c', d', e', f'⟩ := S
    obtain ⟨h0, h1, h2⟩ := h
    obtain ⟨g0, g1, g2⟩ := g
    simp only [Dih, PV.aft] at *
    rcases g0 with ⟨rfl, rfl, rfl, rfl⟩ | ⟨rfl, rfl, rfl, rfl⟩ | ⟨rfl, rfl, rfl, rfl⟩ | ⟨rfl, rfl, rfl, rfl⟩ | ⟨rfl, rfl, rfl, rfl⟩ | ⟨rfl, rfl, rfl, rfl⟩ | ⟨rfl, rfl, rfl, rfl⟩ | ⟨rfl, rfl, rfl, rfl⟩ <;> omega
  · obtain ⟨a, b, c, d, e, f⟩ := F
    obtain ⟨a', b', c', d', e', f'⟩ := S
    obtain ⟨h0, h1, h2⟩ := h
    obtain ⟨g0, g1, g2⟩ := g
    simp only [Dih, PV.aft] at *
    rcases g0 with ⟨rfl, rfl, rfl, rfl⟩ | ⟨rfl, rfl, rfl, rfl⟩ | ⟨rfl, rfl, rfl, rfl⟩ | ⟨rfl, rfl, rfl, rfl⟩ | ⟨rfl, rfl, rfl, rfl⟩ | ⟨rfl, rfl, rfl, rfl⟩ | ⟨rfl, rfl, rfl, rfl⟩ | ⟨rfl, rfl, rfl, rfl⟩ <;> omega
theorem Dih.sm {M : Mo} (h : Dih M) : small64 M.a = true ∧ small64 M.b = true ∧ small64 M.c = true ∧ small64 M.d = true := by
  obtain ⟨a, b, c, d, e, f⟩ := M
  simp only [Dih] at h
  rcases h with ⟨rfl, rfl, rfl, rfl⟩ | ⟨rfl, rfl, rfl, rfl⟩ | ⟨rfl, rfl, rfl, rfl⟩ | ⟨rfl, rfl, rfl, rfl⟩ | ⟨rfl, rfl, rfl, rfl⟩ | ⟨rfl, rfl, rfl, rfl⟩ | ⟨rfl, rfl, rfl, rfl⟩ | ⟨rfl, rfl, rfl, rfl⟩ <;> exact ⟨rfl, rfl, rfl, rfl⟩
/-- the motion of a row of lines -/
def mot (ls : List (Nat × Int)) : Mo := ls.foldl (fun M l => aft M (mrg l.1 l.2)) stay
theorem mot_from (ls : List (Nat × Int)) (M : Mo) : ls.foldl (fun M l => aft M (mrg l.1 l.2)) M = aft M (mot ls) := by
  induction ls generalizing M with
  | nil => simp [mot, aft_stay]
  | cons l ls ih => simp only [mot, List.foldl_cons]; rw [ih, ih (aft stay _), stay_aft, aft_assoc]
theorem mot_append (l m : List (Nat × Int)) : mot (l ++ m) = aft (mot l) (mot m) := by
  rw [mot, List.foldl_append, mot_from]; rfl
theorem mot_one (l : Nat × Int) : mot [l] = mrg l.1 l.2 := by
  show aft stay _ = _
  rw [stay_aft]
theorem good_mot {ls : List (Nat × Int)} (h : ∀ l ∈ ls, l.2 % 2 = 0) : Good (mot ls) := by
  induction ls with
  | nil => exact good_stay
  | cons l ls ih =>
    rw [show l :: ls = [l] ++ ls from rfl, mot_append, mot_one]
    exact (good_mrg _ (h l (by simp))).aft (ih fun x hx => h x (by simp [hx]))
/-! undoing -/
theorem und_mrg (n : Nat) (v : Int) : aft (mrg n v) (mrg n v) = stay := by
  unfold mrg
  split <;> (apply Mo.ext' <;> simp [aft, stay]) <;> omega
theorem und_left {M : Mo} (h : Dih M) : aft M (und M) = stay := by
  obtain ⟨a, b, c, d, e, f⟩ := M
  simp only [Dih] at h
  rcases h with ⟨rfl, rfl, rfl, rfl⟩ | ⟨rfl, rfl, rfl, rfl⟩ | ⟨rfl, rfl, rfl, rfl⟩ | ⟨rfl, rfl, rfl, rfl⟩ | ⟨rfl, rfl, rfl, rfl⟩ | ⟨rfl, rfl, rfl, rfl⟩ | ⟨rfl, rfl, rfl, rfl⟩ | ⟨rfl, rfl, rfl, rfl⟩ <;>
  (apply Mo.ext' <;> simp [aft, stay, und] <;> omega)
theorem und_right {M : Mo} (h : Dih M) : aft (und M) M = stay := by
  obtain ⟨a, b, c, d, e, f⟩ := M
  simp only [Dih] at h
  rcases h with ⟨rfl, rfl, rfl, rfl⟩ | ⟨rfl, rfl, rfl, rfl⟩ | ⟨rfl, rfl, rfl, rfl⟩ | ⟨rfl, rfl, rfl, rfl⟩ | ⟨rfl, rfl, rfl, rfl⟩ | ⟨rfl, rfl, rfl, rfl⟩ | ⟨rfl, rfl, rfl, rfl⟩ | ⟨rfl, rfl, rfl, rfl⟩ <;>
  (apply Mo.ext' <;> simp [aft, stay, und] <;> omega)
theorem Dih.und {M : Mo} (h : Dih M) : Dih (und M) := by
  obtain ⟨a, b, c, d, e, f⟩ := M
  simp only [Dih] at h
  rcases h with ⟨rfl, rfl, rfl, rfl⟩ | ⟨rfl, rfl, rfl, rfl⟩ | ⟨rfl, rfl, rfl, rfl⟩ | ⟨rfl, rfl, rfl, rfl⟩ | ⟨rfl, rfl, rfl, rfl⟩ | ⟨rfl, rfl, rfl, rfl⟩ | ⟨rfl, rfl, rfl, rfl⟩ | ⟨rfl, rfl, rfl, rfl⟩ <;> simp [Dih, PV.und]
theorem mot_rev (ls : List (Nat × Int)) : aft (mot ls) (mot ls.reverse) = stay := by
  induction ls with
  | nil => rfl
  | cons l ls ih =>
    rw [List.reverse_cons, mot_append, show l :: ls = [l] ++ ls from rfl, mot_append, mot_one, aft_assoc, ← aft_assoc (mot ls), ih, stay_aft, und_mrg]
theorem mot_undone {ls : List (Nat × Int)} (h : ∀ l ∈ ls, l.2 % 2 = 0) : und (mot ls) = mot ls.reverse := by
  have e := mot_rev ls
  have := und_right (good_mot h).dih
  calc und (mot ls) = aft (und (mot ls)) (aft (mot ls) (mot ls.reverse)) := by rw [e, aft_stay]
    _ = mot ls.reverse := by rw [← aft_assoc, this, stay_aft]
/-! turned over or not -/
def det (M : Mo) : Int := M.a * M.d - M.b * M.c
theorem det_aft (F S : Mo) : det (aft F S) = det F * det S := by simp only [det, aft]; grind
theorem det_mrg (n : Nat) (v : Int) : det (mrg n v) = -1 := by unfold mrg; split <;> rfl
theorem det_mot (ls : List (Nat × Int)) : det (mot ls) = if ls.length % 2 = 0 then 1 else -1 := by
  induction ls with
  | nil => rfl
  | cons l ls ih =>
    rw [show l :: ls = [l] ++ ls from rfl, mot_append, mot_one, det_aft, det_mrg, ih]
    simp only [List.singleton_append, List.length_cons]
    split <;> split <;> omega
def fnMirroring : Fn := ⟨1, 3, [.unp (.tup [(.name 1), (.name 2)]) (.var 0),
    .ite (.cmp .eq (.var 1) (.lit (.str "x")))
    [.ret (.tup [(.neg (.lit (.int 1))), (.lit (.int 0)), (.lit (.int 0)), (.lit (.int 1)), (.bin .mul (.lit (.int 2)) (.var 2)), (.lit (.int 0))])]
    [],
    .ite (.cmp .eq (.var 1) (.lit (.str "y")))
    [.ret (.tup [(.lit (.int 1)), (.lit (.int 0)), (.lit (.int 0)), (.neg (.lit (.int 1))), (.lit (.int 0)), (.bin .mul (.lit (.int 2)) (.var 2))])]
    [],
    .ite (.cmp .eq (.var 1) (.lit (.str "down")))
    [.ret (.tup [(.lit (.int 0)), (.lit (.int 1)), (.lit (.int 1)), (.lit (.int 0)), (.var 2), (.neg (.var 2))])]
    [],
    .ret (.tup [(.lit (.int 0)), (.neg (.lit (.int 1))), (.neg (.lit (.int 1))), (.lit (.int 0)), (.var 2), (.var 2)])]⟩
def fnMovedPoint : Fn := ⟨2, 10, [.unp (.tup [(.name 2), (.name 3), (.name 4), (.name 5), (.name 6), (.name 7)]) (.var 0),
    .unp (.tup [(.name 8), (.name 9)]) (.var 1),
    .ret (.tup [(.bin .add (.bin .add (.bin .mul (.var 2) (.var 8)) (.bin .mul (.var 3) (.var 9))) (.var 6)), (.bin .add (.bin .add (.bin .mul (.var 4) (.var 8)) (.bin .mul (.var 5) (.var 9))) (.var 7))])]⟩
def fnAfter : Fn := ⟨2, 15, [.unp (.tup [(.name 2), (.name 3), (.name 4), (.name 5), (.name 6), (.name 7)]) (.var 0),
    .unp (.tup [(.name 8), (.name 9), (.name 10), (.name 11), (.name 12), (.name 13)]) (.var 1),
    .set 14 (.tup [(.bin .add (.bin .mul (.var 8) (.var 2)) (.bin .mul (.var 9) (.var 4))), (.bin .add (.bin .mul (.var 8) (.var 3)) (.bin .mul (.var 9) (.var 5))), (.bin .add (.bin .mul (.var 10) (.var 2)) (.bin .mul (.var 11) (.var 4))), (.bin .add (.bin .mul (.var 10) (.var 3)) (.bin .mul (.var 11) (.var 5)))]),
    .ret (.bin .add (.var 14) (.tup [(.bin .add (.bin .add (.bin .mul (.var 8) (.var 6)) (.bin .mul (.var 9) (.var 7))) (.var 12)), (.bin .add (.bin .add (.bin .mul (.var 10) (.var 6)) (.bin .mul (.var 11) (.var 7))) (.var 13))]))]⟩
def fnFlips : Fn := ⟨1, 5, [.unp (.tup [(.name 1), (.name 2), (.name 3), (.name 4)]) (.slc (.var 0) .abs (.lit (.int 4))),
    .ret (.ite (.cmp .eq (.bin .sub (.bin .mul (.var 1) (.var 4)) (.bin .mul (.var 2) (.var 3))) (.lit (.int 1))) (.lit (.int 0)) (.lit (.int 1)))]⟩
def fnUndone : Fn := ⟨1, 7, [.unp (.tup [(.name 1), (.name 2), (.name 3), (.name 4), (.name 5), (.name 6)]) (.var 0),
    .ret (.tup [(.var 1), (.var 3), (.var 2), (.var 4), (.neg (.bin .add (.bin .mul (.var 1) (.var 5)) (.bin .mul (.var 3) (.var 6)))), (.neg (.bin .add (.bin .mul (.var 2) (.var 5)) (.bin .mul (.var 4) (.var 6))))])]⟩
def fnTileOf : Fn := ⟨1, 7, [.set 1 (.ix (.lc (.var 6) (.name 6) .seq [(.var 0)] [(.and (.cmp .eq (.bin .mod (.ix (.var 6) (.lit (.int 0))) (.lit (.int 2))) (.lit (.int 1))) (.cmp .eq (.bin .mod (.ix (.var 6) (.lit (.int 1))) (.lit (.int 2))) (.lit (.int 1))))] [6]) (.lit (.int 0))),
    .set 2 (.lc (.var 6) (.name 6) .seq [(.var 0)] [(.cmp .ne (.var 6) (.var 1))] [6]),
    .set 3 (.bin .sub (.bin .fdiv (.bin .add (.ix (.ix (.var 2) (.lit (.int 0))) (.lit (.int 0))) (.ix (.ix (.var 2) (.lit (.int 1))) (.lit (.int 0)))) (.lit (.int 2))) (.ix (.var 1) (.lit (.int 0)))),
    .set 4 (.bin .sub (.bin .fdiv (.bin .add (.ix (.ix (.var 2) (.lit (.int 0))) (.lit (.int 1))) (.ix (.ix (.var 2) (.lit (.int 1))) (.lit (.int 1)))) (.lit (.int 2))) (.ix (.var 1) (.lit (.int 1)))),
    .set 5 (.ix (.dctT [(.tup [(.lit (.int 0)), (.neg (.lit (.int 1)))]), (.lit (.int 0)), (.tup [(.lit (.int 1)), (.lit (.int 0))]), (.lit (.int 1)), (.tup [(.lit (.int 0)), (.lit (.int 1))]), (.lit (.int 2)), (.tup [(.neg (.lit (.int 1))), (.lit (.int 0))]), (.lit (.int 3))]) (.tup [(.var 3), (.var 4)])),
    .ret (.tup [(.bin .fdiv (.bin .sub (.ix (.var 1) (.lit (.int 1))) (.lit (.int 1))) (.lit (.int 2))), (.bin .fdiv (.bin .sub (.ix (.var 1) (.lit (.int 0))) (.lit (.int 1))) (.lit (.int 2))), (.var 5)])]⟩
def fnMovedTile (jt jp jc : Nat) : Fn := ⟨2, 3, [.ret (.call jt [(.lc (.call jp [(.var 0), (.var 2)]) (.name 2) .seq [(.call jc [(.var 1)])] [] [2])])]⟩
def fnMovedLine (jp : Nat) : Fn := ⟨2, 13, [.unp (.tup [(.name 2), (.name 3), (.name 4), (.name 5)]) (.slc (.var 0) .abs (.lit (.int 4))),
    .unp (.tup [(.name 6), (.name 7)]) (.var 1),
    .set 8 (.ix (.dct [(.lit (.str "x")), (.tup [(.var 7), (.lit (.int 0))]), (.lit (.str "y")), (.tup [(.lit (.int 0)), (.var 7)]), (.lit (.str "down")), (.tup [(.var 7), (.lit (.int 0))]), (.lit (.str "up")), (.tup [(.var 7), (.lit (.int 0))])]) (.var 6)),
    .set 9 (.ix (.dct [(.lit (.str "x")), (.tup [(.lit (.int 0)), (.lit (.int 1))]), (.lit (.str "y")), (.tup [(.lit (.int 1)), (.lit (.int 0))]), (.lit (.str "down")), (.tup [(.lit (.int 1)), (.lit (.int 1))]), (.lit (.str "up")), (.tup [(.lit (.int 1)), (.neg (.lit (.int 1)))])]) (.var 6)),
    .unp (.tup [(.name 10), (.name 11)]) (.call jp [(.var 0), (.var 8)]),
    .set 12 (.tup [(.bin .add (.bin .mul (.var 2) (.ix (.var 9) (.lit (.int 0)))) (.bin .mul (.var 3) (.ix (.var 9) (.lit (.int 1))))), (.bin .add (.bin .mul (.var 4) (.ix (.var 9) (.lit (.int 0)))) (.bin .mul (.var 5) (.ix (.var 9) (.lit (.int 1)))))]),
    .ite (.cmp .eq (.ix (.var 12) (.lit (.int 0))) (.lit (.int 0)))
    [.ret (.tup [(.lit (.str "x")), (.var 10)])]
    [],
    .ite (.cmp .eq (.ix (.var 12) (.lit (.int 1))) (.lit (.int 0)))
    [.ret (.tup [(.lit (.str "y")), (.var 11)])]
    [],
    .ret (.ite (.cmp .eq (.ix (.var 12) (.lit (.int 0))) (.ix (.var 12) (.lit (.int 1)))) (.tup [(.lit (.str "down")), (.bin .sub (.var 10) (.var 11))]) (.tup [(.lit (.str "up")), (.bin .add (.var 10) (.var 11))]))]⟩
def fnOrder (ja gs : Nat) : Fn := ⟨1, 3, [.set 1 (.var 0),
    .forr (.name 2) .rng [(.lit (.int 1)), (.lit (.int 9))]
    [.ite (.cmp .eq (.var 1) (.glob gs))
    [.ret (.var 2)]
    [],
    .set 1 (.call ja [(.var 1), (.var 0)])],
    .ret (.lit .non)]⟩
def fnLMirror : Fn := ⟨2, 6, [.unp (.tup [(.name 2), (.name 3)]) (.var 0),
    .unp (.tup [(.name 4), (.name 5)]) (.var 1),
    .ite (.cmp .eq (.var 2) (.lit (.str "x")))
    [.ret (.tup [(.bin .sub (.bin .mul (.lit (.int 2)) (.var 3)) (.var 4)), (.var 5)])]
    [],
    .ite (.cmp .eq (.var 2) (.lit (.str "y")))
    [.ret (.tup [(.var 4), (.bin .sub (.bin .mul (.lit (.int 2)) (.var 3)) (.var 5))])]
    [],
    .ret (.ite (.cmp .eq (.var 2) (.lit (.str "down"))) (.tup [(.bin .add (.var 5) (.var 3)), (.bin .sub (.var 4) (.var 3))]) (.tup [(.bin .sub (.var 3) (.var 5)), (.bin .sub (.var 3) (.var 4))]))]⟩
def fnLMotion (jm : Nat) : Fn := ⟨1, 7, [.set 1 (.lst [(.tup [(.lit (.int 0)), (.lit (.int 0))]), (.tup [(.lit (.int 1)), (.lit (.int 0))]), (.tup [(.lit (.int 0)), (.lit (.int 1))])]),
    .forr (.name 2) .seq [(.var 0)]
    [.set 1 (.lc (.call jm [(.var 2), (.var 6)]) (.name 6) .seq [(.var 1)] [] [6])],
    .unp (.tup [(.name 3), (.name 4), (.name 5)]) (.var 1),
    .ret (.tup [(.bin .sub (.ix (.var 4) (.lit (.int 0))) (.ix (.var 3) (.lit (.int 0)))), (.bin .sub (.ix (.var 5) (.lit (.int 0))) (.ix (.var 3) (.lit (.int 0)))), (.bin .sub (.ix (.var 4) (.lit (.int 1))) (.ix (.var 3) (.lit (.int 1)))), (.bin .sub (.ix (.var 5) (.lit (.int 1))) (.ix (.var 3) (.lit (.int 1)))), (.ix (.var 3) (.lit (.int 0))), (.ix (.var 3) (.lit (.int 1)))])]⟩
def fnLTile (jp : Nat) : Fn := ⟨1, 7, [.unp (.tup [(.name 1), (.name 2)]) (.ix (.lc (.var 6) (.name 6) .seq [(.var 0)] [(.and (.cmp .eq (.bin .mod (.bi .int [(.ix (.var 6) (.lit (.int 0)))]) (.lit (.int 2))) (.lit (.int 1))) (.cmp .eq (.bin .mod (.bi .int [(.ix (.var 6) (.lit (.int 1)))]) (.lit (.int 2))) (.lit (.int 1))))] [6]) (.lit (.int 0))),
    .set 3 (.bin .fdiv (.bin .sub (.var 2) (.lit (.int 1))) (.lit (.int 2))),
    .set 4 (.bin .fdiv (.bin .sub (.var 1) (.lit (.int 1))) (.lit (.int 2))),
    .forr (.name 5) .rng [(.lit (.int 4))]
    [.ite (.cmp .eq (.call jp [(.tup [(.var 3), (.var 4), (.var 5)])]) (.bi .sorted [(.var 0)]))
    [.ret (.tup [(.var 3), (.var 4), (.var 5)])]
    []],
    .ret (.lit .non)]⟩
/-! the defs -/
theorem c_eqS {x y : Str} (hx : PyData.strOk x = true) (hy : PyData.strOk y = true) : cop .eq (.str x) (.str y) = some (x == y) := by rfl
theorem wrd_ok (n : Nat) : PyData.strOk (wrd n) = true := by
  unfold wrd; split <;> decide +kernel
theorem c_eqW (n m : Nat) : cop .eq (.str (wrd n)) (.str (wrd m)) = some (wrd n == wrd m) := c_eqS (wrd_ok n) (wrd_ok m)
theorem c_w (n : Nat) : cop .eq (.str (wrd n)) (.str "x") = some (wrd n == "x") ∧ cop .eq (.str (wrd n)) (.str "y") = some (wrd n == "y") ∧ cop .eq (.str (wrd n)) (.str "down") = some (wrd n == "down") := ⟨c_eqW n 0, c_eqW n 1, c_eqW n 2⟩
theorem wrd_x (n : Nat) : (wrd n == ("x" : Str)) = decide (n = 0) := by
  obtain ⟨a1, a2, a3, a4, a5, a6, a7, a8, a9, a10, a11, a12⟩ := wrd_ne
  unfold wrd; split <;> simp_all
theorem wrd_y (n : Nat) : (wrd n == ("y" : Str)) = decide (n = 1) := by
  obtain ⟨a1, a2, a3, a4, a5, a6, a7, a8, a9, a10, a11, a12⟩ := wrd_ne
  unfold wrd; split <;> simp_all
theorem wrd_d (n : Nat) : (wrd n == ("down" : Str)) = decide (n = 2) := by
  obtain ⟨a1, a2, a3, a4, a5, a6, a7, a8, a9, a10, a11, a12⟩ := wrd_ne
  unfold wrd; split <;> simp_all
theorem lt4 {n : Nat} (h : n < 4) : n = 0 ∨ n = 1 ∨ n = 2 ∨ n = 3 := by omega
section
variable {F : Nat → Option Fn} {gl : Nat → Option D} {w i : Nat}
theorem mirroring_ok (hF : F i = some fnMirroring) (n : Nat) (hn : n < 4) (v : Int) (k : Nat) (m : List Cell) : Ans (call F gl w (k + 1) i [lnD n v] m) (moD (mrg n v)) m := by
  refine ans_of hF rfl ?_
  obtain ⟨c1, c2, c3⟩ := c_w n
  rcases lt4 hn with rfl | rfl | rfl | rfl <;>
  simp [fnMirroring, lnD, c1, c2, c3, wrd_x, wrd_y, wrd_d, smallL 2 _ (by decide), moD, mrg]
theorem lmirror_ok (hF : F i = some fnLMirror) (n : Nat) (hn : n < 4) (v : Int) (p : Int × Int) (k : Nat) (m : List Cell) : Ans (call F gl w (k + 1) i [lnD n v, pt p.1 p.2] m) (pt (mir n v p).1 (mir n v p).2) m := by
  refine ans_of hF rfl ?_
  obtain ⟨c1, c2, c3⟩ := c_w n
  rcases lt4 hn with rfl | rfl | rfl | rfl <;>
  simp [fnLMirror, lnD, pt, c1, c2, c3, wrd_x, wrd_y, wrd_d, smallL 2 _ (by decide), mir]
theorem moved_point_ok (hF : F i = some fnMovedPoint) {M : Mo} (h : Dih M) (p : Int × Int) (k : Nat) (m : List Cell) : Ans (call F gl w (k + 1) i [moD M, pt p.1 p.2] m) (pt (mv M p).1 (mv M p).2) m := by
  refine ans_of hF rfl ?_
  obtain ⟨h1, h2, h3, h4⟩ := h.sm
  simp [fnMovedPoint, moD, pt, smallL M.a _ h1, smallL M.b _ h2, smallL M.c _ h3, smallL M.d _ h4, mv]
theorem b_addT (l m : List D) (h : l.length + m.length ≤ 1000) : bop .add (.tup l) (.tup m) = some (.tup (l ++ m)) := by
  simp only [bop]
  rw [if_pos (Nat.le_trans h (by decide))]
theorem after_ok (hF : F i = some fnAfter) {M N : Mo} (h : Dih N) (k : Nat) (m : List Cell) : Ans (call F gl w (k + 1) i [moD M, moD N] m) (moD (aft M N)) m := by
  refine ans_of hF rfl ?_
  obtain ⟨h1, h2, h3, h4⟩ := h.sm
  simp [fnAfter, moD, smallL N.a _ h1, smallL N.b _ h2, smallL N.c _ h3, smallL N.d _ h4, aft, b_addT]
theorem slo4 (a b c d e f : D) : slo (.tup [a, b, c, d, e, f]) none (some 4) = some (.tup [a, b, c, d]) := rfl
theorem flips_ok (hF : F i = some fnFlips) {M : Mo} (h : Dih M) (k : Nat) (m : List Cell) : Ans (call F gl w (k + 1) i [moD M] m) (.int (if det M = 1 then 0 else 1)) m := by
  refine ans_of hF rfl ?_
  obtain ⟨h1, h2, h3, h4⟩ := h.sm
  simp [fnFlips, moD, part, slo4, smallL M.a _ h1, smallL M.b _ h2, det]
  split <;> simp_all
theorem undone_ok (hF : F i = some fnUndone) {M : Mo} (h : Dih M) (k : Nat) (m : List Cell) : Ans (call F gl w (k + 1) i [moD M] m) (moD (und M)) m := by
  refine ans_of hF rfl ?_
  obtain ⟨h1, h2, h3, h4⟩ := h.sm
  simp [fnUndone, moD, smallL M.a _ h1, smallL M.b _ h2, smallL M.c _ h3, smallL M.d _ h4, und]
end
end PV

namespace PV
open PySem
@[simp] theorem x_rev {E : Env} {a : C} {s : S} : ev E (.rev a) s = (ev E a s).bind fun x s => Out.of (revD x) s := rfl
@[simp] theorem x_dctT {E : Env} {es : List C} {s : S} : ev E (.dctT es) s = (evs E es s).bind fun ds s => if evens ds ≠ [] ∧ (evens ds).length ≤ 15 ∧ tdis (evens ds) = true then .ok (.dct true (evens ds) (odds ds)) s else .bad := rfl
@[simp] theorem ix_pt0 (m : List Cell) (x y : Int) : ixo m (pt x y) (.int 0) = some (.int x) := rfl
@[simp] theorem ix_pt1 (m : List Cell) (x y : Int) : ixo m (pt x y) (.int 1) = some (.int y) := rfl
/-! comprehensions and loops whose steps are known -/
theorem lcB_go {β : Type} {E : Env} {e : C} {tg : Tg} {cs : List C} {vs : List Nat} {W : List (Option D)} {m : List Cell} (f : β → D) (U : β → List (Option D)) (p : β → Bool) (g : β → D) : ∀ (L : List β) (acc : List D) (r : List (Option D)), acc.length + L.length < 2000000 → wipeD r vs = W →
    (∀ x ∈ L, setTg tg (f x) W = some (U x)) → (∀ x ∈ L, wipeD (U x) vs = W) → (∀ x ∈ L, evt E cs ⟨U x, m⟩ = .ok (p x) ⟨U x, m⟩) → (∀ x ∈ L, p x = true → ev E e ⟨U x, m⟩ = .ok (g x) ⟨U x, m⟩) →
    ∃ r', lcB E e tg cs vs (L.map f) acc ⟨r, m⟩ = .ok (acc ++ (L.filter p).map g) ⟨r', m⟩ ∧ (r' = r ∨ ∃ x ∈ L, r' = U x)
  | [], acc, r, _, _, _, _, _, _ => ⟨r, by simp [lcB_nil], .inl rfl⟩
  | x :: xs, acc, r, hz, hw, h0, h1, hc, he => by
    have sub : ∀ y ∈ xs, y ∈ x :: xs := fun y hy => List.mem_cons_of_mem _ hy
    simp only [List.length_cons] at hz
    have e0 := h0 x (by simp)
    have e1 := hc x (by simp)
    rw [List.map_cons, lcB_cons]
    show ∃ r', (Out.of (setTg tg (f x) (wipeD r vs)) _).bind _ = _ ∧ _
    rw [hw, e0, Out.of_some, Out.bind_ok]
    show ∃ r', (noExc (evt E cs ⟨U x, m⟩)).bind _ = _ ∧ _
    rw [e1, noExc_ok, Out.bind_ok]
    cases hp : p x with
    | false =>
      obtain ⟨r', q1, q2⟩ := lcB_go f U p g xs acc (U x) (by omega) (h1 x (by simp)) (fun y hy => h0 y (sub y hy)) (fun y hy => h1 y (sub y hy)) (fun y hy => hc y (sub y hy)) (fun y hy => he y (sub y hy))
      refine ⟨r', ?_, .inr ?_⟩
      · rw [if_neg (by simp), q1, List.filter_cons_of_neg (by simp [hp])]
      · rcases q2 with q2 | ⟨y, hy, q2⟩
        · exact ⟨x, by simp, q2⟩
        · exact ⟨y, sub y hy, q2⟩
    | true =>
      obtain ⟨r', q1, q2⟩ := lcB_go f U p g xs (acc ++ [g x]) (U x) (by simp; omega) (h1 x (by simp)) (fun y hy => h0 y (sub y hy)) (fun y hy => h1 y (sub y hy)) (fun y hy => hc y (sub y hy)) (fun y hy => he y (sub y hy))
      refine ⟨r', ?_, .inr ?_⟩
      · rw [if_pos rfl, he x (by simp) hp, noExc_ok, Out.bind_ok, if_pos (Nat.lt_of_lt_of_le (show acc.length < 2000000 by omega) (by decide)), q1, List.filter_cons_of_pos hp, List.map_cons, List.append_assoc]
        rfl
      · rcases q2 with q2 | ⟨y, hy, q2⟩
        · exact ⟨x, by simp, q2⟩
        · exact ⟨y, sub y hy, q2⟩
theorem ev_lcG {β : Type} {E : Env} {e : C} {tg : Tg} {k : Ik} {its cs : List C} {vs : List Nat} {R : List (Option D)} {m : List Cell} {ds : List D} (L : List β) (f : β → D) (U : β → List (Option D)) (p : β → Bool) (g : β → D)
    (hits : evs E its ⟨R, m⟩ = .ok ds ⟨R, m⟩) (hl : itm k ds = some (L.map f)) (hz : L.length < 2000000) (h0 : ∀ x ∈ L, setTg tg (f x) (wipeD R vs) = some (U x)) (h1 : ∀ x ∈ L, wipeD (U x) vs = wipeD R vs) (hb0 : backD R R vs = R) (hb : ∀ x ∈ L, backD R (U x) vs = R)
    (hc : ∀ x ∈ L, evt E cs ⟨U x, m⟩ = .ok (p x) ⟨U x, m⟩) (he : ∀ x ∈ L, p x = true → ev E e ⟨U x, m⟩ = .ok (g x) ⟨U x, m⟩) :
    ev E (.lc e tg k its cs vs) ⟨R, m⟩ = .ok (.lst true ((L.filter p).map g)) ⟨R, m⟩ := by
  obtain ⟨r', q1, q2⟩ := lcB_go f U p g L [] R (by simpa using hz) rfl h0 h1 hc he
  rw [x_lc, hits, Out.bind_ok, hl, Out.of_some, Out.bind_ok, q1, Out.bind_ok]
  congr 2
  show backD R r' vs = R
  rcases q2 with rfl | ⟨x, hx, rfl⟩
  · exact hb0
  · exact hb x hx
theorem forB_fold {α β : Type} {E : Env} {tg : Tg} {b : List K} (A : α → S) (stp : α → β → α) (f : β → D) (I : α → Prop) : ∀ (l : List β) (a : α), I a → (∀ y ∈ l, ∀ a, I a → I (stp a y) ∧ ∃ r, setTg tg (f y) (A a).r = some r ∧ execs E b { (A a) with r := r } = .ok .next (A (stp a y))) →
    forB E tg b (l.map f) (A a) = .ok .next (A (l.foldl stp a)) ∧ I (l.foldl stp a)
  | [], a, ha, _ => ⟨rfl, ha⟩
  | y :: l, a, ha, h => by
    obtain ⟨h1, r, h2, h3⟩ := h y (by simp) a ha
    rw [List.map_cons, forB_cons, h2, Out.of_some, Out.bind_ok, h3, Out.bind_ok]
    exact forB_fold A stp f I l (stp a y) h1 fun z hz => h z (List.mem_cons_of_mem _ hz)
theorem fzs_pts (l : List (Int × Int)) : D.fzs (pts l) = pts l := by
  induction l with
  | nil => rfl
  | cons x xs ih => simp only [pts, List.map_cons, fzs_cons, fz_pt] at *; rw [ih]
theorem itm_lst (o : Bool) (l : List D) : itm .seq [.lst o l] = some (D.fzs l) := rfl
theorem itm_pts (o : Bool) (l : List (Int × Int)) : itm .seq [.lst o (pts l)] = some (pts l) := by rw [itm_lst, fzs_pts]
/-! lines -/
abbrev lns (l : List (Nat × Int)) : List D := l.map fun l => lnD l.1 l.2
theorem fzs_lns (l : List (Nat × Int)) : D.fzs (lns l) = lns l := by
  induction l with
  | nil => rfl
  | cons x xs ih => simp only [lns, List.map_cons, fzs_cons] at *; rw [ih]; rfl
theorem itm_lns (o : Bool) (l : List (Nat × Int)) : itm .seq [.lst o (lns l)] = some (lns l) := by rw [itm_lst, fzs_lns]
def p3 : List (Int × Int) := [(0, 0), (1, 0), (0, 1)]
section
variable {F : Nat → Option Fn} {gl : Nat → Option D} {w i : Nat}
theorem lmotion_ok {jm : Nat} (hM : F jm = some fnLMirror) (hF : F i = some (fnLMotion jm)) (o : Bool) (ls : List (Nat × Int)) (h4 : ∀ l ∈ ls, l.1 < 4) (k : Nat) (m : List Cell) : Ans (call F gl w (k + 2) i [.lst o (lns ls)] m) (moD (mot ls)) m := by
  refine ans_of hF rfl ?_
  let A : Mo × Option D → S := fun a => ⟨[some (.lst o (lns ls)), some (.lst false (pts (p3.map (mv a.1)))), a.2, none, none, none, none], m⟩
  have loop := forB_fold (E := ⟨call F gl w (k + 1), gl, w⟩) (tg := .name 2) (b := [.set 1 (.lc (.call jm [(.var 2), (.var 6)]) (.name 6) .seq [(.var 1)] [] [6])]) A (fun a l => (aft a.1 (mrg l.1 l.2), some (lnD l.1 l.2))) (fun l => lnD l.1 l.2) (fun _ => True) ls (stay, none) trivial (fun l hl a _ => ⟨trivial, _, rfl, by
    have lc := ev_lcG (E := ⟨call F gl w (k + 1), gl, w⟩) (e := .call jm [(.var 2), (.var 6)]) (tg := .name 6) (k := .seq) (its := [.var 1]) (cs := []) (vs := [6]) (R := [some (.lst o (lns ls)), some (.lst false (pts (p3.map (mv a.1)))), some (lnD l.1 l.2), none, none, none, none]) (m := m)
      (p3.map (mv a.1)) (fun p => pt p.1 p.2) (fun p => [some (.lst o (lns ls)), some (.lst false (pts (p3.map (mv a.1)))), some (lnD l.1 l.2), none, none, none, some (pt p.1 p.2)]) (fun _ => true) (fun p => pt (mir l.1 l.2 p).1 (mir l.1 l.2 p).2)
      (by simp) (itm_pts false _) (by simp [p3]) (fun _ _ => rfl) (fun _ _ => rfl) rfl (fun _ _ => rfl) (fun _ _ => rfl) (fun p _ _ => by
        have := (lmirror_ok (gl := gl) (w := w) hM l.1 (h4 l hl) l.2 p k m).back
        simp [lnD] at this ⊢
        exact this _)
    have e : ((p3.map (mv a.1)).filter fun _ => true).map (fun p => pt (mir l.1 l.2 p).1 (mir l.1 l.2 p).2) = pts (p3.map (mv (aft a.1 (mrg l.1 l.2)))) := by
      simp only [p3, List.map_cons, List.map_nil, List.filter_cons_of_pos, List.filter_nil, pts, mir_mv, mv_aft]
    rw [e] at lc
    simp only [ks_cons, k_set, A, List.set] at lc ⊢
    rw [lc, Out.bind_ok]
    simp only [fz_lst, fzs_pts, List.set, Out.bind_ok, ks_nil]⟩)
  have e1 : pts (p3.map (mv stay)) = [pt 0 0, pt 1 0, pt 0 1] := by simp [p3, mv, stay, pts]
  have e2 : ls.foldl (fun (a : Mo × Option D) (l : Nat × Int) => (aft a.1 (mrg l.1 l.2), some (lnD l.1 l.2))) (stay, none) = (mot ls, (ls.foldl (fun (a : Mo × Option D) (l : Nat × Int) => (aft a.1 (mrg l.1 l.2), some (lnD l.1 l.2))) (stay, none)).2) := by
    refine Prod.ext ?_ rfl
    have : ∀ (ls : List (Nat × Int)) (M : Mo) (o : Option D), (ls.foldl (fun (a : Mo × Option D) (l : Nat × Int) => (aft a.1 (mrg l.1 l.2), some (lnD l.1 l.2))) (M, o)).1 = ls.foldl (fun M l => aft M (mrg l.1 l.2)) M := by
      intro ls
      induction ls with
      | nil => intro M o; rfl
      | cons l ls ih => intro M o; simp only [List.foldl_cons]; exact ih _ _
    exact this ls stay none
  have l1 := loop.1
  rw [e2] at l1
  simp only [A, e1] at l1
  simp only [pt] at l1
  simp [fnLMotion, itm_lns, l1]
  simp [pts, p3, mv, moD]
end
/-! orders -/
def pw (M : Mo) : Nat → Mo
  | 0 => stay
  | k + 1 => aft (pw M k) M
def stB (M : Mo) : Bool := D.eqv (moD M) (moD stay)
theorem stB_iff (M : Mo) : stB M = true ↔ M = stay := by
  obtain ⟨a, b, c, d, e, f⟩ := M
  simp [stB, moD, stay, D.eqv, D.eqvs]
theorem c_eqM (M N : Mo) : cop .eq (moD M) (moD N) = some (D.eqv (moD M) (moD N)) := rfl
theorem c_eqSt (M : Mo) : cop .eq (moD M) (moD stay) = some (stB M) := rfl
theorem pw_one (M : Mo) : pw M 1 = M := stay_aft M
theorem mot_pw (ls : List (Nat × Int)) (k : Nat) : mot ((List.replicate k ls).flatten) = pw (mot ls) k := by
  induction k with
  | zero => rfl
  | succ k ih =>
    rw [List.replicate_succ', List.flatten_append, mot_append, ih, List.flatten_singleton]; rfl
theorem pw_orders {M : Mo} (h : Dih M) : (pw M 3 = stay → pw M 1 = stay) ∧ (∀ k, k = 5 ∨ k = 6 ∨ k = 7 ∨ k = 8 ∨ k = 9 ∨ k = 10 ∨ k = 11 ∨ k = 12 → pw M k = stay → pw M 1 = stay ∨ pw M 2 = stay ∨ pw M 4 = stay) := by
  obtain ⟨a, b, c, d, e, f⟩ := M
  simp only [Dih] at h
  refine ⟨?_, ?_⟩
  · rcases h with ⟨rfl, rfl, rfl, rfl⟩ | ⟨rfl, rfl, rfl, rfl⟩ | ⟨rfl, rfl, rfl, rfl⟩ | ⟨rfl, rfl, rfl, rfl⟩ | ⟨rfl, rfl, rfl, rfl⟩ | ⟨rfl, rfl, rfl, rfl⟩ | ⟨rfl, rfl, rfl, rfl⟩ | ⟨rfl, rfl, rfl, rfl⟩ <;> simp [pw, aft, stay] <;> omega
  · rcases h with ⟨rfl, rfl, rfl, rfl⟩ | ⟨rfl, rfl, rfl, rfl⟩ | ⟨rfl, rfl, rfl, rfl⟩ | ⟨rfl, rfl, rfl, rfl⟩ | ⟨rfl, rfl, rfl, rfl⟩ | ⟨rfl, rfl, rfl, rfl⟩ | ⟨rfl, rfl, rfl, rfl⟩ | ⟨rfl, rfl, rfl, rfl⟩ <;>
    rintro k (rfl | rfl | rfl | rfl | rfl | rfl | rfl | rfl) <;> simp [pw, aft, stay] <;> omega
/-- the order, or none -/
def ordD (M : Mo) : D := if stB (pw M 1) then .int 1 else if stB (pw M 2) then .int 2 else if stB (pw M 4) then .int 4 else .non
theorem stB_orders {M : Mo} (h : Dih M) : (stB (pw M 1) = false → stB (pw M 3) = false) ∧ (stB (pw M 1) = false → stB (pw M 2) = false → stB (pw M 4) = false → stB (pw M 5) = false ∧ stB (pw M 6) = false ∧ stB (pw M 7) = false ∧ stB (pw M 8) = false ∧ stB (pw M 9) = false ∧ stB (pw M 10) = false ∧ stB (pw M 11) = false ∧ stB (pw M 12) = false) := by
  obtain ⟨h1, h2⟩ := pw_orders h
  have nf : ∀ N, stB N = false ↔ ¬ N = stay := fun N => by rw [← stB_iff]; simp
  simp only [nf]
  refine ⟨fun a b => a (h1 b), fun a b c => ⟨fun z => ?_, fun z => ?_, fun z => ?_, fun z => ?_, fun z => ?_, fun z => ?_, fun z => ?_, fun z => ?_⟩⟩
  · rcases h2 5 (by omega) z with q | q | q <;> contradiction
  · rcases h2 6 (by omega) z with q | q | q <;> contradiction
  · rcases h2 7 (by omega) z with q | q | q <;> contradiction
  · rcases h2 8 (by omega) z with q | q | q <;> contradiction
  · rcases h2 9 (by omega) z with q | q | q <;> contradiction
  · rcases h2 10 (by omega) z with q | q | q <;> contradiction
  · rcases h2 11 (by omega) z with q | q | q <;> contradiction
  · rcases h2 12 (by omega) z with q | q | q <;> contradiction
@[simp] theorem fz_moD (M : Mo) : (moD M).fz = moD M := rfl
theorem itm19 : itm .rng [.int 1, .int 9] = some [.int 1, .int 2, .int 3, .int 4, .int 5, .int 6, .int 7, .int 8] := by kernel_rfl
section
variable {F : Nat → Option Fn} {gl : Nat → Option D} {w i : Nat}
theorem order_ok {ja gs : Nat} (hA : F ja = some fnAfter) (hF : F i = some (fnOrder ja gs)) (hg : gl gs = some (moD stay)) {M : Mo} (h : Dih M) (k : Nat) (m : List Cell) : Ans (call F gl w (k + 2) i [moD M] m) (ordD M) m := by
  refine ans_of hF rfl ?_
  have fa : ∀ j s, cback (call F gl w (k + 1) ja [moD (pw M j), moD M] m) s = .ok (moD (pw M (j + 1))) { s with m := m } := fun j s => (after_ok (gl := gl) (w := w) hA h k m).back s
  have fa1 : ∀ s, cback (call F gl w (k + 1) ja [moD M, moD M] m) s = .ok (moD (pw M 2)) { s with m := m } := fun s => by have := fa 1 s; rw [pw_one] at this; exact this
  obtain ⟨o1, o2⟩ := stB_orders h
  have p1 := pw_one M
  rw [p1] at o1 o2
  unfold ordD
  rw [p1]
  cases s1 : stB M with
  | true => simp [fnOrder, itm19, forB_cons, hg, c_eqSt, s1]
  | false =>
    have s3 := o1 s1
    cases s2 : stB (pw M 2) with
    | true => simp [fnOrder, itm19, forB_cons, hg, c_eqSt, s1, fa1, s2]
    | false =>
      cases s4 : stB (pw M 4) with
      | true => simp [fnOrder, itm19, forB_cons, hg, c_eqSt, s1, fa1, s2, fa, s3, s4]
      | false =>
        obtain ⟨s5, s6, s7, s8, _⟩ := o2 s1 s2 s4
        simp [fnOrder, itm19, forB_cons, forB_nil, hg, c_eqSt, s1, fa1, s2, fa, s3, s4, s5, s6, s7, s8]
end
end PV

namespace PV
open PySem
/-! tiles, moved -/
def crnP (r c k : Int) : List (Int × Int) :=
  if k = 0 then [(2 * c, 2 * r), (2 * c + 1, 2 * r + 1), (2 * c + 2, 2 * r)]
  else if k = 1 then [(2 * c + 1, 2 * r + 1), (2 * c + 2, 2 * r), (2 * c + 2, 2 * r + 2)]
  else if k = 2 then [(2 * c, 2 * r + 2), (2 * c + 1, 2 * r + 1), (2 * c + 2, 2 * r + 2)]
  else [(2 * c, 2 * r), (2 * c, 2 * r + 2), (2 * c + 1, 2 * r + 1)]
theorem crn_pts (r c k : Int) (h0 : 0 ≤ k) (h1 : k < 4) : crn r c k = pts (crnP r c k) := by
  rcases cases4 h0 h1 with rfl | rfl | rfl | rfl <;> rfl
def dirX (k : Int) : Int := if k = 1 then 1 else if k = 3 then -1 else 0
def dirY (k : Int) : Int := if k = 0 then -1 else if k = 2 then 1 else 0
def kdir (x y : Int) : Int := if y = -1 then 0 else if x = 1 then 1 else if y = 1 then 2 else 3
theorem kdir_bd (x y : Int) : 0 ≤ kdir x y ∧ kdir x y < 4 := by unfold kdir; split <;> (try split) <;> (try split) <;> decide
/-- where a tile is moved -/
def mvC (M : Mo) (r c : Int) : Int := (M.a * (2 * c + 1) + M.b * (2 * r + 1) + M.e - 1) / 2
def mvR (M : Mo) (r c : Int) : Int := (M.c * (2 * c + 1) + M.d * (2 * r + 1) + M.f - 1) / 2
def mvK (M : Mo) (k : Int) : Int := kdir (M.a * dirX k + M.b * dirY k) (M.c * dirX k + M.d * dirY k)
def oddP (p : Int × Int) : Bool := p.1.fmod 2 == 1 && p.2.fmod 2 == 1
theorem odd_no {x y : Int} (h : x % 2 = 0) : oddP (x, y) = false := by
  have e : x.fmod 2 = x % 2 := Int.fmod_eq_emod_of_nonneg _ (by decide)
  simp [oddP, e, h]
theorem odd_yes {x y : Int} (h : x % 2 = 1) (g : y % 2 = 1) : oddP (x, y) = true := by
  have e : x.fmod 2 = x % 2 := Int.fmod_eq_emod_of_nonneg _ (by decide)
  have e2 : y.fmod 2 = y % 2 := Int.fmod_eq_emod_of_nonneg _ (by decide)
  simp [oddP, e, h, e2, g]
def neP (q p : Int × Int) : Bool := !D.eqv (pt p.1 p.2) (pt q.1 q.2)
theorem ne_yes {q p : Int × Int} (h : ¬ (p.1 = q.1 ∧ p.2 = q.2)) : neP q p = true := by
  unfold neP; rw [pt_eqv, decide_eq_false h]; rfl
theorem ne_no {q p : Int × Int} (h : p.1 = q.1 ∧ p.2 = q.2) : neP q p = false := by
  unfold neP; rw [pt_eqv, decide_eq_true h]; rfl
/-- three points are a tile's corners -/
structure Cor (L : List (Int × Int)) (r c k : Int) : Prop where
  k0 : 0 ≤ k
  k1 : k < 4
  len : L.length = 3
  cen : L.filter oddP = [(2 * c + 1, 2 * r + 1)]
  oth : ∃ p q : Int × Int, L.filter (neP (2 * c + 1, 2 * r + 1)) = [p, q] ∧ p.1 + q.1 = 2 * (2 * c + 1 + dirX k) ∧ p.2 + q.2 = 2 * (2 * r + 1 + dirY k)
  srt : bapp .sorted [.lst true (pts L)] = some (.lst true (crn r c k))
theorem flt3 {p : Int × Int → Bool} (a b c : Int × Int) : [a, b, c].filter p = (if p a then [a] else []) ++ (if p b then [b] else []) ++ (if p c then [c] else []) := by
  cases h1 : p a <;> cases h2 : p b <;> cases h3 : p c <;> simp [h1, h2, h3]
/-- with the centre in the middle -/
theorem cor_mid {x1 y1 x3 y3 r c k : Int} (k0 : 0 ≤ k) (k1 : k < 4) (h1 : x1 % 2 = 0) (h3 : x3 % 2 = 0) (hx : x1 + x3 = 2 * (2 * c + 1 + dirX k)) (hy : y1 + y3 = 2 * (2 * r + 1 + dirY k))
    (srt : bapp .sorted [.lst true [pt x1 y1, pt (2 * c + 1) (2 * r + 1), pt x3 y3]] = some (.lst true (crn r c k))) : Cor [(x1, y1), (2 * c + 1, 2 * r + 1), (x3, y3)] r c k := by
  refine ⟨k0, k1, rfl, ?_, ⟨(x1, y1), (x3, y3), ?_, hx, hy⟩, srt⟩
  · rw [flt3, odd_no h1, odd_no h3, odd_yes (by omega) (by omega)]; rfl
  · rw [flt3, ne_yes (by intro z; simp at z; omega), ne_yes (p := (x3, y3)) (by intro z; simp at z; omega), ne_no ⟨rfl, rfl⟩]; rfl
theorem cor_fst {x1 y1 x3 y3 r c k : Int} (k0 : 0 ≤ k) (k1 : k < 4) (h1 : x1 % 2 = 0) (h3 : x3 % 2 = 0) (hx : x1 + x3 = 2 * (2 * c + 1 + dirX k)) (hy : y1 + y3 = 2 * (2 * r + 1 + dirY k))
    (srt : bapp .sorted [.lst true [pt (2 * c + 1) (2 * r + 1), pt x1 y1, pt x3 y3]] = some (.lst true (crn r c k))) : Cor [(2 * c + 1, 2 * r + 1), (x1, y1), (x3, y3)] r c k := by
  refine ⟨k0, k1, rfl, ?_, ⟨(x1, y1), (x3, y3), ?_, hx, hy⟩, srt⟩
  · rw [flt3, odd_no h1, odd_no h3, odd_yes (by omega) (by omega)]; rfl
  · rw [flt3, ne_yes (p := (x1, y1)) (by intro z; simp at z; omega), ne_yes (p := (x3, y3)) (by intro z; simp at z; omega), ne_no ⟨rfl, rfl⟩]; rfl
theorem cor_lst {x1 y1 x3 y3 r c k : Int} (k0 : 0 ≤ k) (k1 : k < 4) (h1 : x1 % 2 = 0) (h3 : x3 % 2 = 0) (hx : x1 + x3 = 2 * (2 * c + 1 + dirX k)) (hy : y1 + y3 = 2 * (2 * r + 1 + dirY k))
    (srt : bapp .sorted [.lst true [pt x1 y1, pt x3 y3, pt (2 * c + 1) (2 * r + 1)]] = some (.lst true (crn r c k))) : Cor [(x1, y1), (x3, y3), (2 * c + 1, 2 * r + 1)] r c k := by
  refine ⟨k0, k1, rfl, ?_, ⟨(x1, y1), (x3, y3), ?_, hx, hy⟩, srt⟩
  · rw [flt3, odd_no h1, odd_no h3, odd_yes (by omega) (by omega)]; rfl
  · rw [flt3, ne_yes (p := (x1, y1)) (by intro z; simp at z; omega), ne_yes (p := (x3, y3)) (by intro z; simp at z; omega), ne_no ⟨rfl, rfl⟩]; rfl
/-- two points beside a tile's centre -/
def Bes (r c k : Int) (p q : Int × Int) : Prop := (p = (2 * c + 1 + dirX k - dirY k, 2 * r + 1 + dirY k + dirX k) ∧ q = (2 * c + 1 + dirX k + dirY k, 2 * r + 1 + dirY k - dirX k)) ∨ (q = (2 * c + 1 + dirX k - dirY k, 2 * r + 1 + dirY k + dirX k) ∧ p = (2 * c + 1 + dirX k + dirY k, 2 * r + 1 + dirY k - dirX k))
theorem bes_k {r c k : Int} (k0 : 0 ≤ k) (k1 : k < 4) {p q : Int × Int} (h : Bes r c k p q) : ∃ a b a' b', (∀ z : List D, crn r c k = z → True) ∧ ((k = 0 ∧ a = (2 * c + 2, 2 * r) ∧ b = (2 * c, 2 * r)) ∨ (k = 1 ∧ a = (2 * c + 2, 2 * r + 2) ∧ b = (2 * c + 2, 2 * r)) ∨ (k = 2 ∧ a = (2 * c, 2 * r + 2) ∧ b = (2 * c + 2, 2 * r + 2)) ∨ (k = 3 ∧ a = (2 * c, 2 * r) ∧ b = (2 * c, 2 * r + 2))) ∧ ((p = a ∧ q = b) ∨ (p = b ∧ q = a)) ∧ a' = a ∧ b' = b := by
  rcases cases4 k0 k1 with rfl | rfl | rfl | rfl
  · refine ⟨(2 * c + 2, 2 * r), (2 * c, 2 * r), _, _, fun _ _ => trivial, .inl ⟨rfl, rfl, rfl⟩, ?_, rfl, rfl⟩
    rcases h with ⟨h1, h2⟩ | ⟨h1, h2⟩
    · left; rw [h1, h2]; simp [dirX, dirY]; omega
    · right; rw [h1, h2]; simp [dirX, dirY]; omega
  · refine ⟨(2 * c + 2, 2 * r + 2), (2 * c + 2, 2 * r), _, _, fun _ _ => trivial, .inr (.inl ⟨rfl, rfl, rfl⟩), ?_, rfl, rfl⟩
    rcases h with ⟨h1, h2⟩ | ⟨h1, h2⟩
    · left; rw [h1, h2]; simp [dirX, dirY]; omega
    · right; rw [h1, h2]; simp [dirX, dirY]; omega
  · refine ⟨(2 * c, 2 * r + 2), (2 * c + 2, 2 * r + 2), _, _, fun _ _ => trivial, .inr (.inr (.inl ⟨rfl, rfl, rfl⟩)), ?_, rfl, rfl⟩
    rcases h with ⟨h1, h2⟩ | ⟨h1, h2⟩
    · left; rw [h1, h2]; simp [dirX, dirY]; omega
    · right; rw [h1, h2]; simp [dirX, dirY]; omega
  · refine ⟨(2 * c, 2 * r), (2 * c, 2 * r + 2), _, _, fun _ _ => trivial, .inr (.inr (.inr ⟨rfl, rfl, rfl⟩)), ?_, rfl, rfl⟩
    rcases h with ⟨h1, h2⟩ | ⟨h1, h2⟩
    · left; rw [h1, h2]; simp [dirX, dirY]; omega
    · right; rw [h1, h2]; simp [dirX, dirY]; omega
theorem bes_mid {r c k : Int} (k0 : 0 ≤ k) (k1 : k < 4) {p q : Int × Int} (h : Bes r c k p q) : Cor [p, (2 * c + 1, 2 * r + 1), q] r c k := by
  obtain ⟨a, b, _, _, _, h1, h2, _, _⟩ := bes_k k0 k1 h
  rcases h1 with ⟨rfl, rfl, rfl⟩ | ⟨rfl, rfl, rfl⟩ | ⟨rfl, rfl, rfl⟩ | ⟨rfl, rfl, rfl⟩ <;> rcases h2 with ⟨rfl, rfl⟩ | ⟨rfl, rfl⟩ <;>
  (refine cor_mid k0 k1 (by omega) (by omega) (by simp [dirX]; omega) (by simp [dirY]; omega) ?_; (first | exact srtA (by omega) (by omega) | exact srtB (by omega) (by omega) (by omega) | exact srtC (by omega) (by omega) (by omega) | exact srtD3 (by omega) (by omega) | exact srtE (by omega) (by omega) (by omega) | exact srtF (by omega) (by omega) (by omega)))
theorem bes_fst {r c k : Int} (k0 : 0 ≤ k) (k1 : k < 4) {p q : Int × Int} (h : Bes r c k p q) : Cor [(2 * c + 1, 2 * r + 1), p, q] r c k := by
  obtain ⟨a, b, _, _, _, h1, h2, _, _⟩ := bes_k k0 k1 h
  rcases h1 with ⟨rfl, rfl, rfl⟩ | ⟨rfl, rfl, rfl⟩ | ⟨rfl, rfl, rfl⟩ | ⟨rfl, rfl, rfl⟩ <;> rcases h2 with ⟨rfl, rfl⟩ | ⟨rfl, rfl⟩ <;>
  (refine cor_fst k0 k1 (by omega) (by omega) (by simp [dirX]; omega) (by simp [dirY]; omega) ?_; (first | exact srtA (by omega) (by omega) | exact srtB (by omega) (by omega) (by omega) | exact srtC (by omega) (by omega) (by omega) | exact srtD3 (by omega) (by omega) | exact srtE (by omega) (by omega) (by omega) | exact srtF (by omega) (by omega) (by omega)))
theorem bes_lst {r c k : Int} (k0 : 0 ≤ k) (k1 : k < 4) {p q : Int × Int} (h : Bes r c k p q) : Cor [p, q, (2 * c + 1, 2 * r + 1)] r c k := by
  obtain ⟨a, b, _, _, _, h1, h2, _, _⟩ := bes_k k0 k1 h
  rcases h1 with ⟨rfl, rfl, rfl⟩ | ⟨rfl, rfl, rfl⟩ | ⟨rfl, rfl, rfl⟩ | ⟨rfl, rfl, rfl⟩ <;> rcases h2 with ⟨rfl, rfl⟩ | ⟨rfl, rfl⟩ <;>
  (refine cor_lst k0 k1 (by omega) (by omega) (by simp [dirX]; omega) (by simp [dirY]; omega) ?_; (first | exact srtA (by omega) (by omega) | exact srtB (by omega) (by omega) (by omega) | exact srtC (by omega) (by omega) (by omega) | exact srtD3 (by omega) (by omega) | exact srtE (by omega) (by omega) (by omega) | exact srtF (by omega) (by omega) (by omega)))
/-- moved corners are a tile's corners -/
theorem cor_mv {M : Mo} (h : Good M) {r c k : Int} (k0 : 0 ≤ k) (k1 : k < 4) : Cor ((crnP r c k).map (mv M)) (mvR M r c) (mvC M r c) (mvK M k) := by
  obtain ⟨h, he, hf⟩ := h
  have cen : mv M (2 * c + 1, 2 * r + 1) = (2 * mvC M r c + 1, 2 * mvR M r c + 1) := by
    obtain ⟨a, b, c, d, e, f⟩ := M
    simp only [Dih] at h
    rcases h with ⟨rfl, rfl, rfl, rfl⟩ | ⟨rfl, rfl, rfl, rfl⟩ | ⟨rfl, rfl, rfl, rfl⟩ | ⟨rfl, rfl, rfl, rfl⟩ | ⟨rfl, rfl, rfl, rfl⟩ | ⟨rfl, rfl, rfl, rfl⟩ | ⟨rfl, rfl, rfl, rfl⟩ | ⟨rfl, rfl, rfl, rfl⟩ <;>
    (simp only [mv, mvC, mvR, Prod.mk.injEq] at *; omega)
  have hk : (dirX (mvK M k) = M.a * dirX k + M.b * dirY k ∧ dirY (mvK M k) = M.c * dirX k + M.d * dirY k) ∧ 0 ≤ mvK M k ∧ mvK M k < 4 := by
    obtain ⟨a, b, c, d, e, f⟩ := M
    simp only [Dih] at h
    rcases h with ⟨rfl, rfl, rfl, rfl⟩ | ⟨rfl, rfl, rfl, rfl⟩ | ⟨rfl, rfl, rfl, rfl⟩ | ⟨rfl, rfl, rfl, rfl⟩ | ⟨rfl, rfl, rfl, rfl⟩ | ⟨rfl, rfl, rfl, rfl⟩ | ⟨rfl, rfl, rfl, rfl⟩ | ⟨rfl, rfl, rfl, rfl⟩ <;>
    rcases cases4 k0 k1 with rfl | rfl | rfl | rfl <;> exact ⟨⟨rfl, rfl⟩, kdir_bd _ _⟩
  obtain ⟨⟨hx, hy⟩, q0, q1⟩ := hk
  have bes : Bes (mvR M r c) (mvC M r c) (mvK M k) (mv M (2 * c + 1 + dirX k - dirY k, 2 * r + 1 + dirY k + dirX k)) (mv M (2 * c + 1 + dirX k + dirY k, 2 * r + 1 + dirY k - dirX k)) := by
    unfold Bes
    rw [hx, hy]
    have c1 : 2 * mvC M r c + 1 = M.a * (2 * c + 1) + M.b * (2 * r + 1) + M.e := (congrArg Prod.fst cen).symm
    have c2 : 2 * mvR M r c + 1 = M.c * (2 * c + 1) + M.d * (2 * r + 1) + M.f := (congrArg Prod.snd cen).symm
    rw [c1, c2]
    obtain ⟨a, b, c', d, e, f⟩ := M
    simp only [Dih] at h
    rcases h with ⟨rfl, rfl, rfl, rfl⟩ | ⟨rfl, rfl, rfl, rfl⟩ | ⟨rfl, rfl, rfl, rfl⟩ | ⟨rfl, rfl, rfl, rfl⟩ | ⟨rfl, rfl, rfl, rfl⟩ | ⟨rfl, rfl, rfl, rfl⟩ | ⟨rfl, rfl, rfl, rfl⟩ | ⟨rfl, rfl, rfl, rfl⟩ <;>
    (simp only [mv, Prod.mk.injEq]; first | (left; omega) | (right; omega))
  have bes' : Bes (mvR M r c) (mvC M r c) (mvK M k) (mv M (2 * c + 1 + dirX k + dirY k, 2 * r + 1 + dirY k - dirX k)) (mv M (2 * c + 1 + dirX k - dirY k, 2 * r + 1 + dirY k + dirX k)) := by
    rcases bes with h | h
    · exact .inr ⟨h.1, h.2⟩
    · exact .inl ⟨h.1, h.2⟩
  have w : ∀ {x y x' y' : Int}, x = x' → y = y' → mv M (x, y) = mv M (x', y') := fun h g => by rw [h, g]
  rcases cases4 k0 k1 with rfl | rfl | rfl | rfl
  · have e : (crnP r c 0).map (mv M) = [mv M (2 * c + 1 + dirX 0 + dirY 0, 2 * r + 1 + dirY 0 - dirX 0), (2 * mvC M r c + 1, 2 * mvR M r c + 1), mv M (2 * c + 1 + dirX 0 - dirY 0, 2 * r + 1 + dirY 0 + dirX 0)] := by
      rw [← cen]; simp only [crnP, Int.reduceEq, ↓reduceIte, List.map_cons, List.map_nil, dirX, dirY]
      congr 1
      · exact w (by omega) (by omega)
      · congr 2; exact w (by omega) (by omega)
    rw [e]; exact bes_mid q0 q1 bes'
  · have e : (crnP r c 1).map (mv M) = [(2 * mvC M r c + 1, 2 * mvR M r c + 1), mv M (2 * c + 1 + dirX 1 + dirY 1, 2 * r + 1 + dirY 1 - dirX 1), mv M (2 * c + 1 + dirX 1 - dirY 1, 2 * r + 1 + dirY 1 + dirX 1)] := by
      rw [← cen]; simp only [crnP, Int.reduceEq, ↓reduceIte, List.map_cons, List.map_nil, dirX, dirY]
      congr 1
      congr 1
      · exact w (by omega) (by omega)
      · congr 1; exact w (by omega) (by omega)
    rw [e]; exact bes_fst q0 q1 bes'
  · have e : (crnP r c 2).map (mv M) = [mv M (2 * c + 1 + dirX 2 - dirY 2, 2 * r + 1 + dirY 2 + dirX 2), (2 * mvC M r c + 1, 2 * mvR M r c + 1), mv M (2 * c + 1 + dirX 2 + dirY 2, 2 * r + 1 + dirY 2 - dirX 2)] := by
      rw [← cen]; simp only [crnP, Int.reduceEq, ↓reduceIte, List.map_cons, List.map_nil, dirX, dirY]
      congr 1
      · exact w (by omega) (by omega)
      · congr 2; exact w (by omega) (by omega)
    rw [e]; exact bes_mid q0 q1 bes
  · have e : (crnP r c 3).map (mv M) = [mv M (2 * c + 1 + dirX 3 - dirY 3, 2 * r + 1 + dirY 3 + dirX 3), mv M (2 * c + 1 + dirX 3 + dirY 3, 2 * r + 1 + dirY 3 - dirX 3), (2 * mvC M r c + 1, 2 * mvR M r c + 1)] := by
      rw [← cen]; simp only [crnP, Int.reduceEq, ↓reduceIte, List.map_cons, List.map_nil, dirX, dirY]
      congr 1
      · exact w (by omega) (by omega)
      · congr 1; exact w (by omega) (by omega)
    rw [e]; exact bes_lst q0 q1 bes
end PV

namespace PV
open PySem
theorem fdiv2 {x z : Int} (h : x = 2 * z) : x.fdiv 2 = z := by
  rw [Int.fdiv_eq_ediv_of_nonneg _ (by decide)]; omega
theorem fdiv2' {x z : Int} (h : x = 2 * z + 1) : (x - 1).fdiv 2 = z := by
  rw [Int.fdiv_eq_ediv_of_nonneg _ (by decide)]; omega
theorem itm4r : itm .rng [.int 4] = some [.int 0, .int 1, .int 2, .int 3] := itm4
section
variable {F : Nat → Option Fn} {gl : Nat → Option D} {w i : Nat}
theorem dctT_dir (E : Env) (k : Int) (k0 : 0 ≤ k) (k1 : k < 4) (a b : C) (s : S) (ha : ev E a s = .ok (.int (dirX k)) s) (hb : ev E b s = .ok (.int (dirY k)) s) :
    ev E (.ix (.dctT [(.tup [(.lit (.int 0)), (.neg (.lit (.int 1)))]), (.lit (.int 0)), (.tup [(.lit (.int 1)), (.lit (.int 0))]), (.lit (.int 1)), (.tup [(.lit (.int 0)), (.lit (.int 1))]), (.lit (.int 2)), (.tup [(.neg (.lit (.int 1))), (.lit (.int 0))]), (.lit (.int 3))]) (.tup [a, b])) s = .ok (.int k) s := by
  have e1 : ev E (.dctT [(.tup [(.lit (.int 0)), (.neg (.lit (.int 1)))]), (.lit (.int 0)), (.tup [(.lit (.int 1)), (.lit (.int 0))]), (.lit (.int 1)), (.tup [(.lit (.int 0)), (.lit (.int 1))]), (.lit (.int 2)), (.tup [(.neg (.lit (.int 1))), (.lit (.int 0))]), (.lit (.int 3))]) s = .ok (.dct true [pt 0 (-1), pt 1 0, pt 0 1, pt (-1) 0] [.int 0, .int 1, .int 2, .int 3]) s := by kernel_rfl
  have e2 : ev E (.tup [a, b]) s = .ok (pt (dirX k) (dirY k)) s := by simp [ha, hb, pt]
  have e3 : ∀ m, ixo m (.dct true [pt 0 (-1), pt 1 0, pt 0 1, pt (-1) 0] [.int 0, .int 1, .int 2, .int 3]) (pt (dirX k) (dirY k)) = some (.int k) := by
    intro m
    rcases cases4 k0 k1 with rfl | rfl | rfl | rfl <;> kernel_rfl
  rw [x_ix, e1, Out.bind_ok, e2, Out.bind_ok, e3, Out.of_some]
theorem tile_of_ok (hF : F i = some fnTileOf) (o : Bool) {L : List (Int × Int)} {r c k : Int} (h : Cor L r c k) (j : Nat) (m : List Cell) : Ans (call F gl w (j + 1) i [.lst o (pts L)] m) (tl r c k) m := by
  refine ans_of hF rfl ?_
  obtain ⟨k0, k1, len, cen, ⟨p, q, oth, hx, hy⟩, _⟩ := h
  have lc1 := ev_lcG (E := ⟨call F gl w j, gl, w⟩) (e := .var 6) (tg := .name 6) (k := .seq) (its := [.var 0]) (cs := [(.and (.cmp .eq (.bin .mod (.ix (.var 6) (.lit (.int 0))) (.lit (.int 2))) (.lit (.int 1))) (.cmp .eq (.bin .mod (.ix (.var 6) (.lit (.int 1))) (.lit (.int 2))) (.lit (.int 1))))]) (vs := [6])
    (R := [some (.lst o (pts L)), none, none, none, none, none, none]) (m := m) L (fun p => pt p.1 p.2) (fun p => [some (.lst o (pts L)), none, none, none, none, none, some (pt p.1 p.2)]) oddP (fun p => pt p.1 p.2)
    (by simp) (itm_pts o L) (by omega) (fun _ _ => rfl) (fun _ _ => rfl) rfl (fun _ _ => rfl) (fun p _ => by
      simp [b_mod _ 2 (by decide), oddP]
      split <;> simp_all) (fun p _ _ => by simp)
  rw [cen] at lc1
  have lc2 := ev_lcG (E := ⟨call F gl w j, gl, w⟩) (e := .var 6) (tg := .name 6) (k := .seq) (its := [.var 0]) (cs := [(.cmp .ne (.var 6) (.var 1))]) (vs := [6])
    (R := [some (.lst o (pts L)), some (pt (2 * c + 1) (2 * r + 1)), none, none, none, none, none]) (m := m) L (fun p => pt p.1 p.2) (fun p => [some (.lst o (pts L)), some (pt (2 * c + 1) (2 * r + 1)), none, none, none, none, some (pt p.1 p.2)]) (neP (2 * c + 1, 2 * r + 1)) (fun p => pt p.1 p.2)
    (by simp) (itm_pts o L) (by omega) (fun _ _ => rfl) (fun _ _ => rfl) rfl (fun _ _ => rfl) (fun p _ => by
      have : cop .ne (pt p.1 p.2) (pt (2 * c + 1) (2 * r + 1)) = some (neP (2 * c + 1, 2 * r + 1) p) := rfl
      simp [this]) (fun p _ _ => by simp)
  rw [oth] at lc2
  have dc := dctT_dir ⟨call F gl w j, gl, w⟩ k k0 k1 (.var 3) (.var 4) ⟨[some (.lst o (pts L)), some (pt (2 * c + 1) (2 * r + 1)), some (.lst false [pt p.1 p.2, pt q.1 q.2]), some (.int (dirX k)), some (.int (dirY k)), none, none], m⟩ (by simp) (by simp)
  have hx' : (p.1 + q.1).fdiv 2 - (2 * c + 1) = dirX k := by rw [fdiv2 hx]; omega
  have hy' : (p.2 + q.2).fdiv 2 - (2 * r + 1) = dirY k := by rw [fdiv2 hy]; omega
  have f2 : ∀ x : Int, bop .fdiv (.int x) (.int 2) = some (.int (x.fdiv 2)) := fun x => b_fdiv x 2 (by decide)
  have hr : (2 * r + 1 - 1).fdiv 2 = r := fdiv2' rfl
  have hc : (2 * c + 1 - 1).fdiv 2 = c := fdiv2' rfl
  simp only [fnTileOf, List.map_cons, List.map_nil, List.length_cons, List.length_nil, List.replicate, List.cons_append, List.nil_append, Nat.reduceAdd, Nat.reduceSub]
  rw [ks_cons, k_set, x_ix, lc1]
  simp only [Out.bind_ok, List.map_cons, List.map_nil, x_lit, ixo_lst, Out.of_some]
  have a0 : atD [pt (2 * c + 1) (2 * r + 1)] 0 = some (pt (2 * c + 1) (2 * r + 1)) := rfl
  simp only [a0, Out.of_some, Out.bind_ok, fz_pt, List.set]
  rw [ks_cons, k_set, lc2]
  simp only [Out.bind_ok, List.map_cons, List.map_nil, List.set, fz_lst, fzs_cons, fzs_nil, fz_pt]
  have a1 : atD [pt p.1 p.2, pt q.1 q.2] 0 = some (pt p.1 p.2) := rfl
  have a2 : atD [pt p.1 p.2, pt q.1 q.2] 1 = some (pt q.1 q.2) := rfl
  rw [ks_cons]
  simp only [k_set, x_bin, x_ix, x_var, x_lit, g_0, g_s, Out.of_some, Out.bind_ok, ixo_lst, a1, a2, ix_pt0, ix_pt1, b_add, b_sub, f2, hx', fz_int, List.set]
  rw [ks_cons]
  simp only [k_set, x_bin, x_ix, x_var, x_lit, g_0, g_s, Out.of_some, Out.bind_ok, ixo_lst, a1, a2, ix_pt0, ix_pt1, b_add, b_sub, f2, hy', fz_int, List.set]
  rw [ks_cons, k_set, dc]
  simp [f2, hr, hc, tl]
end
end PV

namespace PV
open PySem
theorem crn_eqv (o p : Bool) (r c : Int) {a b : Int} (a0 : 0 ≤ a) (a1 : a < 4) (b0 : 0 ≤ b) (b1 : b < 4) : D.eqv (.lst o (crn r c a)) (.lst p (crn r c b)) = decide (a = b) := by
  rcases cases4 a0 a1 with rfl | rfl | rfl | rfl <;> rcases cases4 b0 b1 with rfl | rfl | rfl | rfl <;> simp [crn, D.eqv, D.eqvs, pt] <;> omega
theorem crn_cmpb (o : Bool) (r c : Int) {a : Int} (a0 : 0 ≤ a) (a1 : a < 4) : D.cmpb (.lst o (crn r c a)) = true := by
  rcases cases4 a0 a1 with rfl | rfl | rfl | rfl <;> rfl
theorem c_eqC (o p : Bool) (r c : Int) {a b : Int} (a0 : 0 ≤ a) (a1 : a < 4) (b0 : 0 ≤ b) (b1 : b < 4) : cop .eq (.lst o (crn r c a)) (.lst p (crn r c b)) = some (decide (a = b)) := by
  show (if _ then _ else _) = _
  rw [crn_cmpb o r c a0 a1, crn_cmpb p r c b0 b1, crn_eqv o p r c a0 a1 b0 b1]
  rfl
/-! lines, moved -/
def rnX (n : Nat) : Int := match n with | 0 => 0 | 1 => 1 | 2 => 1 | _ => 1
def rnY (n : Nat) : Int := match n with | 0 => 1 | 1 => 0 | 2 => 1 | _ => -1
def stt0 (n : Nat) (v : Int) : Int × Int := match n with | 0 => (v, 0) | 1 => (0, v) | 2 => (v, 0) | _ => (v, 0)
def lnTo (ax ay x y : Int) : Nat × Int := if ax = 0 then (0, x) else if ay = 0 then (1, y) else if ax = ay then (2, x - y) else (3, x + y)
def mvL (M : Mo) (n : Nat) (v : Int) : Nat × Int := lnTo (M.a * rnX n + M.b * rnY n) (M.c * rnX n + M.d * rnY n) (mv M (stt0 n v)).1 (mv M (stt0 n v)).2
section
variable {F : Nat → Option Fn} {gl : Nat → Option D} {w i : Nat}
theorem moved_tile_ok {jt jp jc : Nat} (hT : F jt = some fnTileOf) (hP : F jp = some fnMovedPoint) (hC : F jc = some fnCorners) (hF : F i = some (fnMovedTile jt jp jc)) {M : Mo} (h : Good M) {r c k : Int} (k0 : 0 ≤ k) (k1 : k < 4) (j : Nat) (m : List Cell) :
    Ans (call F gl w (j + 2) i [moD M, tl r c k] m) (tl (mvR M r c) (mvC M r c) (mvK M k)) m := by
  refine ans_of hF rfl ?_
  have fc : ∀ s, cback (call F gl w (j + 1) jc [tl r c k] m) s = .ok (.lst true (crn r c k)) { s with m := m } := fun s => (corners_ok (gl := gl) (w := w) hC r c k k0 k1 j m).back s
  have fp : ∀ p s, cback (call F gl w (j + 1) jp [moD M, pt p.1 p.2] m) s = .ok (pt (mv M p).1 (mv M p).2) { s with m := m } := fun p s => (moved_point_ok (gl := gl) (w := w) hP h.dih p j m).back s
  have ft : ∀ s, cback (call F gl w (j + 1) jt [.lst false (pts ((crnP r c k).map (mv M)))] m) s = .ok (tl (mvR M r c) (mvC M r c) (mvK M k)) { s with m := m } := fun s => (tile_of_ok (gl := gl) (w := w) hT false (cor_mv h k0 k1) j m).back s
  have hl : (crnP r c k).length = 3 := by rcases cases4 k0 k1 with rfl | rfl | rfl | rfl <;> rfl
  have lc := ev_lcG (E := ⟨call F gl w (j + 1), gl, w⟩) (e := .call jp [(.var 0), (.var 2)]) (tg := .name 2) (k := .seq) (its := [(.call jc [(.var 1)])]) (cs := []) (vs := [2]) (R := [some (moD M), some (tl r c k), none]) (m := m)
    (crnP r c k) (fun p => pt p.1 p.2) (fun p => [some (moD M), some (tl r c k), some (pt p.1 p.2)]) (fun _ => true) (fun p => pt (mv M p).1 (mv M p).2)
    (by simp [fc]; rfl) (by rw [crn_pts r c k k0 k1]; exact itm_pts true _) (by omega) (fun _ _ => rfl) (fun _ _ => rfl) rfl (fun _ _ => rfl) (fun _ _ => rfl) (fun p _ _ => by simp [fp])
  have e : ((crnP r c k).filter fun _ => true).map (fun p => pt (mv M p).1 (mv M p).2) = pts ((crnP r c k).map (mv M)) := by
    rw [List.filter_eq_self.mpr (fun _ _ => rfl), pts, List.map_map]; rfl
  rw [e] at lc
  simp only [fnMovedTile, List.map_cons, List.map_nil, List.length_cons, List.length_nil, List.replicate, List.cons_append, List.nil_append, Nat.reduceAdd, Nat.reduceSub]
  simp only [ks_cons, k_ret, x_call, xs_cons, xs_nil, lc, Out.bind_ok, fzs_cons, fzs_nil, fz_lst, fzs_pts, ft]
  exact ⟨_, rfl⟩
theorem ltile_ok {jp : Nat} (hP : F jp = some fnPoints) (hF : F i = some (fnLTile jp)) (o : Bool) {L : List (Int × Int)} {r c k : Int} (h : Cor L r c k) (j : Nat) (m : List Cell) : Ans (call F gl w (j + 2) i [.lst o (pts L)] m) (tl r c k) m := by
  refine ans_of hF rfl ?_
  obtain ⟨k0, k1, len, cen, _, srt⟩ := h
  have srt' : bapp .sorted [.lst o (pts L)] = some (.lst true (crn r c k)) := srt
  have lc1 := ev_lcG (E := ⟨call F gl w (j + 1), gl, w⟩) (e := .var 6) (tg := .name 6) (k := .seq) (its := [.var 0]) (cs := [(.and (.cmp .eq (.bin .mod (.bi .int [(.ix (.var 6) (.lit (.int 0)))]) (.lit (.int 2))) (.lit (.int 1))) (.cmp .eq (.bin .mod (.bi .int [(.ix (.var 6) (.lit (.int 1)))]) (.lit (.int 2))) (.lit (.int 1))))]) (vs := [6])
    (R := [some (.lst o (pts L)), none, none, none, none, none, none]) (m := m) L (fun p => pt p.1 p.2) (fun p => [some (.lst o (pts L)), none, none, none, none, none, some (pt p.1 p.2)]) oddP (fun p => pt p.1 p.2)
    (by simp) (itm_pts o L) (by omega) (fun _ _ => rfl) (fun _ _ => rfl) rfl (fun _ _ => rfl) (fun p _ => by
      simp [b_mod _ 2 (by decide), oddP]
      split <;> simp_all) (fun p _ _ => by simp)
  rw [cen] at lc1
  have fp : ∀ (q : Int), 0 ≤ q → q < 4 → ∀ s, cback (call F gl w (j + 1) jp [tl r c q] m) s = .ok (.lst true (crn r c q)) { s with m := m } := fun q q0 q1 s => (points_ok (gl := gl) (w := w) hP r c q q0 q1 j m).back s
  simp only [tl] at fp
  have d2 : ∀ x : Int, bop .fdiv (.int x) (.int 2) = some (.int (x.fdiv 2)) := fun x => b_fdiv x 2 (by decide)
  have hr : (2 * r + 1 - 1).fdiv 2 = r := fdiv2' rfl
  have hc : (2 * c + 1 - 1).fdiv 2 = c := fdiv2' rfl
  simp only [fnLTile, List.map_cons, List.map_nil, List.length_cons, List.length_nil, List.replicate, List.cons_append, List.nil_append, Nat.reduceAdd, Nat.reduceSub]
  rw [ks_cons, k_unp, x_ix, lc1]
  have a0 : atD [pt (2 * c + 1) (2 * r + 1)] 0 = some (.tup [.int (2 * c + 1), .int (2 * r + 1)]) := rfl
  simp only [Out.bind_ok, List.map_cons, List.map_nil, x_lit, ixo_lst, Out.of_some, a0]
  have st : ∀ q : Int, 0 ≤ q → q < 4 → execs ⟨call F gl w (j + 1), gl, w⟩ [.ite (.cmp .eq (.call jp [(.tup [(.var 3), (.var 4), (.var 5)])]) (.bi .sorted [(.var 0)])) [.ret (.tup [(.var 3), (.var 4), (.var 5)])] []]
      ⟨[some (.lst o (pts L)), some (.int (2 * c + 1)), some (.int (2 * r + 1)), some (.int r), some (.int c), some (.int q), none], m⟩ =
      .ok (if q = k then .ret (tl r c k) else .next) ⟨[some (.lst o (pts L)), some (.int (2 * c + 1)), some (.int (2 * r + 1)), some (.int r), some (.int c), some (.int q), none], m⟩ := by
    intro q q0 q1
    have fq := fp q q0 q1
    have eq := c_eqC true true r c q0 q1 k0 k1
    by_cases h : q = k
    · subst h
      simp [fq, srt', eq, tl]
    · simp [fq, srt', eq, h]
  have lp : forB ⟨call F gl w (j + 1), gl, w⟩ (.name 5) [.ite (.cmp .eq (.call jp [(.tup [(.var 3), (.var 4), (.var 5)])]) (.bi .sorted [(.var 0)])) [.ret (.tup [(.var 3), (.var 4), (.var 5)])] []] [.int 0, .int 1, .int 2, .int 3]
      ⟨[some (.lst o (pts L)), some (.int (2 * c + 1)), some (.int (2 * r + 1)), some (.int r), some (.int c), none, none], m⟩ =
      .ok (.ret (tl r c k)) ⟨[some (.lst o (pts L)), some (.int (2 * c + 1)), some (.int (2 * r + 1)), some (.int r), some (.int c), some (.int k), none], m⟩ := by
    have s0 := st 0 (by decide) (by decide)
    have s1 := st 1 (by decide) (by decide)
    have s2 := st 2 (by decide) (by decide)
    have s3 := st 3 (by decide) (by decide)
    have hk := cases4 k0 k1
    rw [forB_cons, st_name, Out.of_some, Out.bind_ok]
    show Out.bind (execs _ _ ⟨[_, _, _, _, _, some (.int 0), _], m⟩) _ = _
    rw [s0]
    by_cases h0 : (0 : Int) = k
    · rw [if_pos h0, Out.bind_ok, ← h0]
    rw [if_neg h0, Out.bind_ok]
    rw [forB_cons, st_name, Out.of_some, Out.bind_ok]
    show Out.bind (execs _ _ ⟨[_, _, _, _, _, some (.int 1), _], m⟩) _ = _
    rw [s1]
    by_cases h1 : (1 : Int) = k
    · rw [if_pos h1, Out.bind_ok, ← h1]
    rw [if_neg h1, Out.bind_ok]
    rw [forB_cons, st_name, Out.of_some, Out.bind_ok]
    show Out.bind (execs _ _ ⟨[_, _, _, _, _, some (.int 2), _], m⟩) _ = _
    rw [s2]
    by_cases h2 : (2 : Int) = k
    · rw [if_pos h2, Out.bind_ok, ← h2]
    rw [if_neg h2, Out.bind_ok]
    rw [forB_cons, st_name, Out.of_some, Out.bind_ok]
    show Out.bind (execs _ _ ⟨[_, _, _, _, _, some (.int 3), _], m⟩) _ = _
    have h3 : (3 : Int) = k := by omega
    rw [s3, if_pos h3, Out.bind_ok, ← h3]
  simp [d2, hr, hc, itm4, lp]
def pick4 (n : Nat) (d0 d1 d2 d3 : D) : D := match n with | 0 => d0 | 1 => d1 | 2 => d2 | _ => d3
theorem dct4o (E : Env) (n : Nat) (hn : n < 4) (c0 c1 c2 c3 cw : C) (s : S) (d0 d1 d2 d3 : D) (h0 : ev E c0 s = .ok d0 s) (h1 : ev E c1 s = .ok d1 s) (h2 : ev E c2 s = .ok d2 s) (h3 : ev E c3 s = .ok d3 s) (hw : ev E cw s = .ok (.str (wrd n)) s) :
    ev E (.ix (.dct [(.lit (.str "x")), c0, (.lit (.str "y")), c1, (.lit (.str "down")), c2, (.lit (.str "up")), c3]) cw) s = .ok (pick4 n d0 d1 d2 d3) s := by
  have kd : kdis [.str "x", .str "y", .str "down", .str "up"] = true := by decide +kernel
  have ix : ixo s.m (.dct true [.str "x", .str "y", .str "down", .str "up"] [d0, d1, d2, d3]) (.str (wrd n)) = some (pick4 n d0 d1 d2 d3) := by
    obtain ⟨a1, a2, a3, a4, a5, a6, a7, a8, a9, a10, a11, a12⟩ := wrd_ne
    rcases lt4 hn with rfl | rfl | rfl | rfl
    all_goals simp [ixo, dget, D.eqv, wrd, kof, pick4, a1, a2, a3, a4, a5, a6, a7, a8, a9, a10, a11, a12]
  simp [h0, h1, h2, h3, hw, evens, odds, kd, ix]
theorem moved_line_ok {jp : Nat} (hP : F jp = some fnMovedPoint) (hF : F i = some (fnMovedLine jp)) {M : Mo} (h : Dih M) (n : Nat) (hn : n < 4) (v : Int) (j : Nat) (m : List Cell) : Ans (call F gl w (j + 2) i [moD M, lnD n v] m) (lnD (mvL M n v).1 (mvL M n v).2) m := by
  refine ans_of hF rfl ?_
  obtain ⟨h1, h2, h3, h4⟩ := h.sm
  have fp : ∀ p s, cback (call F gl w (j + 1) jp [moD M, pt p.1 p.2] m) s = .ok (pt (mv M p).1 (mv M p).2) { s with m := m } := fun p s => (moved_point_ok (gl := gl) (w := w) hP h p j m).back s
  have d1 := dct4o ⟨call F gl w (j + 1), gl, w⟩ n hn (.tup [(.var 7), (.lit (.int 0))]) (.tup [(.lit (.int 0)), (.var 7)]) (.tup [(.var 7), (.lit (.int 0))]) (.tup [(.var 7), (.lit (.int 0))]) (.var 6)
    ⟨[some (moD M), some (lnD n v), some (.int M.a), some (.int M.b), some (.int M.c), some (.int M.d), some (.str (wrd n)), some (.int v), none, none, none, none, none], m⟩ (pt v 0) (pt 0 v) (pt v 0) (pt v 0) (by simp [pt]) (by simp [pt]) (by simp [pt]) (by simp [pt]) (by simp)
  have d2 := fun o => dct4o ⟨call F gl w (j + 1), gl, w⟩ n hn (.tup [(.lit (.int 0)), (.lit (.int 1))]) (.tup [(.lit (.int 1)), (.lit (.int 0))]) (.tup [(.lit (.int 1)), (.lit (.int 1))]) (.tup [(.lit (.int 1)), (.neg (.lit (.int 1)))]) (.var 6)
    ⟨[some (moD M), some (lnD n v), some (.int M.a), some (.int M.b), some (.int M.c), some (.int M.d), some (.str (wrd n)), some (.int v), o, none, none, none, none], m⟩ (pt 0 1) (pt 1 0) (pt 1 1) (pt 1 (-1)) (by simp [pt]) (by simp [pt]) (by simp [pt]) (by simp [pt]) (by simp)
  have r1 : pick4 n (pt v 0) (pt 0 v) (pt v 0) (pt v 0) = pt (stt0 n v).1 (stt0 n v).2 := by
    unfold stt0 pick4; split <;> rfl
  have r2 : pick4 n (pt 0 1) (pt 1 0) (pt 1 1) (pt 1 (-1)) = pt (rnX n) (rnY n) := by
    unfold rnX rnY pick4; split <;> rfl
  rw [r1] at d1
  rw [r2] at d2
  simp only [fnMovedLine, List.map_cons, List.map_nil, List.length_cons, List.length_nil, List.replicate, List.cons_append, List.nil_append, Nat.reduceAdd, Nat.reduceSub]
  rw [ks_cons, show exec ⟨call F gl w (j + 1), gl, w⟩ (.unp (.tup [(.name 2), (.name 3), (.name 4), (.name 5)]) (.slc (.var 0) .abs (.lit (.int 4)))) ⟨[some (moD M), some (lnD n v), none, none, none, none, none, none, none, none, none, none, none], m⟩ = .ok .next ⟨[some (moD M), some (lnD n v), some (.int M.a), some (.int M.b), some (.int M.c), some (.int M.d), none, none, none, none, none, none, none], m⟩ by
    simp [moD, part, slo4]]
  simp only [Out.bind_ok]
  rw [ks_cons, show exec ⟨call F gl w (j + 1), gl, w⟩ (.unp (.tup [(.name 6), (.name 7)]) (.var 1)) ⟨[some (moD M), some (lnD n v), some (.int M.a), some (.int M.b), some (.int M.c), some (.int M.d), none, none, none, none, none, none, none], m⟩ = .ok .next ⟨[some (moD M), some (lnD n v), some (.int M.a), some (.int M.b), some (.int M.c), some (.int M.d), some (.str (wrd n)), some (.int v), none, none, none, none, none], m⟩ by
    simp [lnD]]
  simp only [Out.bind_ok]
  rw [ks_cons, k_set, d1]
  simp only [Out.bind_ok, fz_pt, List.set]
  rw [ks_cons, k_set, d2]
  simp only [Out.bind_ok, fz_pt, List.set]
  rw [ks_cons]
  simp only [k_unp, x_call, xs_cons, xs_nil, x_var, g_0, g_s, Out.of_some, Out.bind_ok, fzs_cons, fzs_nil, fz_moD, fz_pt, fp]
  have t0 : ∀ x y : Int, cop .eq (.int x) (.int y) = some (decide (x = y)) := fun x y => by
    rw [c_eqI, Bool.beq_eq_decide_eq]
  simp only [pt]
  simp [smallL M.a _ h1, smallL M.b _ h2, smallL M.c _ h3, smallL M.d _ h4]
  unfold mvL lnTo
  by_cases q1 : M.a * rnX n + M.b * rnY n = 0
  · simp [q1, lnD, wrd]
  · by_cases q2 : M.c * rnX n + M.d * rnY n = 0
    · simp [q1, q2, lnD, wrd]
    · by_cases q3 : M.a * rnX n + M.b * rnY n = M.c * rnX n + M.d * rnY n
      · simp [q1, q2, q3, lnD, wrd]
      · simp [q1, q2, q3, lnD, wrd]
end
end PV

/-! PvM1: bent copies, the comparison in full, texts of values. -/
namespace PV
open PySem
/-! a value's size -/
mutual
def D.wt : D → Nat
  | .non => 1 | .bl _ => 1 | .int i => i.natAbs + 1 | .str x => x.length + 1
  | .tup l => D.wts l + 1 | .lst _ l => D.wts l + 1
  | .scr _ => 0 | .dct _ _ _ => 0 | .set _ _ => 0 | .ref _ => 0
def D.wts : List D → Nat
  | [] => 0 | x :: xs => D.wt x + D.wts xs
end
theorem wts_append (l m : List D) : D.wts (l ++ m) = D.wts l + D.wts m := by
  induction l with
  | nil => simp [D.wts]
  | cons x xs ih => simp only [List.cons_append, D.wts, ih]; omega
theorem wts_len : ∀ (n : Nat) (l : List D), D.okds n l = true → l.length ≤ D.wts l
  | _, [], _ => Nat.le_refl _
  | n, x :: xs, h => by
    simp only [D.okds, Bool.and_eq_true] at h
    have := wts_len n xs h.2
    have : 1 ≤ D.wt x := by cases x <;> simp [D.wt] <;> (cases n <;> simp [D.okd] at h)
    simp only [List.length_cons, D.wts]; omega
theorem wts_split (l : List D) (i : Nat) (h : i < l.length) : D.wts l = D.wts (l.take i) + D.wt l[i] + D.wts (l.drop (i + 1)) := by
  have e : l = l.take i ++ l[i] :: l.drop (i + 1) := by
    rw [← List.drop_eq_getElem_cons h, List.take_append_drop]
  conv => lhs; rw [e]
  rw [wts_append]; simp only [D.wts]; omega
theorem okds_all {n : Nat} : ∀ {l : List D}, D.okds n l = true ↔ ∀ x ∈ l, D.okd n x = true
  | [] => by simp [D.okds]
  | x :: xs => by simp [D.okds, okds_all (l := xs)]
theorem okds_append {n : Nat} {l m : List D} : D.okds n (l ++ m) = true ↔ D.okds n l = true ∧ D.okds n m = true := by
  simp only [okds_all, List.mem_append]
  exact ⟨fun h => ⟨fun x hx => h x (.inl hx), fun x hx => h x (.inr hx)⟩, fun h x hx => hx.elim (h.1 x) (h.2 x)⟩
mutual
theorem okd_up : ∀ (x : D) (n : Nat), D.okd n x = true → D.okd (n + 1) x = true
  | .non, n, _ => rfl | .bl _, n, _ => rfl | .int _, n, _ => rfl | .str x, n, h => by simpa only [D.okd] using h
  | .tup l, n, h => by
    cases n with
    | zero => simp [D.okd] at h
    | succ n => simp only [D.okd] at h ⊢; exact okds_up l n h
  | .lst _ l, n, h => by
    cases n with
    | zero => simp [D.okd] at h
    | succ n => simp only [D.okd] at h ⊢; exact okds_up l n h
  | .scr _, n, h => by simp [D.okd] at h
  | .dct _ _ _, n, h => by simp [D.okd] at h
  | .set _ _, n, h => by simp [D.okd] at h
  | .ref _, n, h => by simp [D.okd] at h
theorem okds_up : ∀ (l : List D) (n : Nat), D.okds n l = true → D.okds (n + 1) l = true
  | [], n, _ => rfl
  | x :: xs, n, h => by
    simp only [D.okds, Bool.and_eq_true] at h ⊢
    exact ⟨okd_up x n h.1, okds_up xs n h.2⟩
end
theorem okd_le {x : D} {n m : Nat} (h : D.okd n x = true) (hm : n ≤ m) : D.okd m x = true := by
  obtain ⟨j, rfl⟩ := Nat.le.dest hm
  induction j with
  | zero => exact h
  | succ j ih => exact okd_up x _ (ih (by omega))
theorem okds_le {x : List D} {n m : Nat} (h : D.okds n x = true) (hm : n ≤ m) : D.okds m x = true := by
  rw [okds_all] at h ⊢
  exact fun y hy => okd_le (h y hy) hm
mutual
theorem okd_fz : ∀ (x : D) (n : Nat), D.okd n x.fz = D.okd n x
  | .non, n => rfl | .bl _, n => rfl | .int _, n => rfl | .str x, n => rfl
  | .tup l, n => by cases n <;> simp only [D.fz, D.okd, okds_fz l]
  | .lst _ l, n => by cases n <;> simp only [D.fz, D.okd, okds_fz l]
  | .scr _, n => rfl
  | .dct _ _ _, n => by simp [D.fz, D.okd]
  | .set _ _, n => by simp [D.fz, D.okd]
  | .ref _, n => rfl
theorem okds_fz : ∀ (l : List D) (n : Nat), D.okds n (D.fzs l) = D.okds n l
  | [], n => rfl
  | x :: xs, n => by simp only [D.fzs, D.okds, okd_fz x, okds_fz xs]
end
mutual
theorem wt_fz : ∀ (x : D), x.fz.wt = x.wt
  | .non => rfl | .bl _ => rfl | .int _ => rfl | .str x => rfl
  | .tup l => by simp only [D.fz, D.wt, wts_fz l]
  | .lst _ l => by simp only [D.fz, D.wt, wts_fz l]
  | .scr _ => rfl | .dct _ _ _ => rfl | .set _ _ => rfl | .ref _ => rfl
theorem wts_fz : ∀ (l : List D), D.wts (D.fzs l) = D.wts l
  | [] => rfl
  | x :: xs => by simp only [D.fzs, D.wts, wt_fz x, wts_fz xs]
end
mutual
theorem fz_fz : ∀ (x : D), x.fz.fz = x.fz
  | .non => rfl | .bl _ => rfl | .int _ => rfl | .str x => rfl
  | .tup l => by simp only [D.fz, fzs_fzs l]
  | .lst _ l => by simp only [D.fz, fzs_fzs l]
  | .scr _ => rfl | .set _ _ => rfl | .ref _ => rfl
  | .dct _ _ l => by simp only [D.fz, fzs_fzs l]
theorem fzs_fzs : ∀ (l : List D), D.fzs (D.fzs l) = D.fzs l
  | [] => rfl
  | x :: xs => by simp only [D.fzs, fz_fz x, fzs_fzs xs]
end
theorem fzs_map (l : List D) : D.fzs l = l.map D.fz := by
  induction l with
  | nil => rfl
  | cons x xs ih => simp only [D.fzs, ih, List.map_cons]
@[simp] theorem fzs_append (l m : List D) : D.fzs (l ++ m) = D.fzs l ++ D.fzs m := by simp [fzs_map]
/-! texts -/
mutual
theorem pd_weight : ∀ (x : D) (n : Nat), D.okd n x = true → x.pd.weight + 1 ≤ x.wt
  | .non, n, _ => Nat.le_refl _ | .bl _, n, _ => Nat.le_refl _
  | .int i, n, _ => by
    simp only [D.pd, PyData.weight, D.wt]
    by_cases h : i = 0
    · subst h; simp
    · have h0 : (i == 0) = false := by simpa using h
      have : i.natAbs.log2 < i.natAbs := by
        have : i.natAbs ≠ 0 := by omega
        exact (Nat.log2_lt this).mpr Nat.lt_two_pow_self
      rw [h0]; simp; omega
  | .str x, n, _ => Nat.le_refl _
  | .tup l, n, h => by
    cases n with
    | zero => simp [D.okd] at h
    | succ n =>
      simp only [D.okd] at h
      have := pds_weight l n h
      simp only [D.pd, PyData.weight, D.wt]; omega
  | .lst _ l, n, h => by
    cases n with
    | zero => simp [D.okd] at h
    | succ n =>
      simp only [D.okd] at h
      have := pds_weight l n h
      simp only [D.pd, PyData.weight, D.wt]; omega
  | .scr _, n, h => by simp [D.okd] at h
  | .dct _ _ _, n, h => by simp [D.okd] at h
  | .set _ _, n, h => by simp [D.okd] at h
  | .ref _, n, h => by simp [D.okd] at h
theorem pds_weight : ∀ (l : List D) (n : Nat), D.okds n l = true → PyData.weightAll (D.pds l) ≤ D.wts l
  | [], n, _ => Nat.le_refl _
  | x :: xs, n, h => by
    simp only [D.okds, Bool.and_eq_true] at h
    have := pd_weight x n h.1
    have := pds_weight xs n h.2
    simp only [D.pds, PyData.weightAll, D.wts]; omega
end
mutual
theorem pd_short : ∀ (x : D) (n : Nat), D.okd n x = true → x.wt ≤ 1000000 → x.pd.intsShort 13 = true ∧ x.pd.showable = true
  | .non, n, _, _ => ⟨rfl, rfl⟩ | .bl _, n, _, _ => ⟨rfl, rfl⟩ | .str x, n, _, _ => ⟨rfl, rfl⟩
  | .int i, n, _, hw => by
    simp only [D.wt] at hw
    have h12 : i.natAbs < 10 ^ 12 := Nat.lt_of_lt_of_le (show i.natAbs < 1000000 by omega) (by decide)
    refine ⟨?_, ?_⟩
    · simp only [D.pd, PyData.intsShort, decide_eq_true_eq]; exact PyData.shown_int_le h12
    · simp only [D.pd, PyData.showable, decide_eq_true_eq]
      by_cases h : i.natAbs = 0
      · rw [h]; decide
      · have e20 : (2:Nat) ^ 20 = 1048576 := by decide
        have h20 : i.natAbs < 2 ^ 20 := by omega
        exact (Nat.log2_lt h).mpr (Nat.lt_of_lt_of_le h20 (Nat.pow_le_pow_right (by decide) (by decide)))
  | .tup l, n, h, hw => by
    cases n with
    | zero => simp [D.okd] at h
    | succ n =>
      simp only [D.okd] at h
      simp only [D.wt] at hw
      simpa only [D.pd, PyData.intsShort, PyData.showable] using pds_short l n h (by omega)
  | .lst _ l, n, h, hw => by
    cases n with
    | zero => simp [D.okd] at h
    | succ n =>
      simp only [D.okd] at h
      simp only [D.wt] at hw
      simpa only [D.pd, PyData.intsShort, PyData.showable] using pds_short l n h (by omega)
  | .scr _, n, h, _ => by simp [D.okd] at h
  | .dct _ _ _, n, h, _ => by simp [D.okd] at h
  | .set _ _, n, h, _ => by simp [D.okd] at h
  | .ref _, n, h, _ => by simp [D.okd] at h
theorem pds_short : ∀ (l : List D) (n : Nat), D.okds n l = true → D.wts l ≤ 1000000 → PyData.intsShortAll 13 (D.pds l) = true ∧ PyData.showableAll (D.pds l) = true
  | [], n, _, _ => ⟨rfl, rfl⟩
  | x :: xs, n, h, hw => by
    simp only [D.okds, Bool.and_eq_true] at h
    simp only [D.wts] at hw
    obtain ⟨a, b⟩ := pd_short x n h.1 (by omega)
    obtain ⟨c, d⟩ := pds_short xs n h.2 (by omega)
    simp only [D.pds, PyData.intsShortAll, PyData.showableAll, a, b, c, d]
    exact ⟨rfl, rfl⟩
end
/-- repr is served for what is small -/
theorem repr_ok {x : D} (h : D.okd 60 x = true) (hw : x.wt ≤ 1000000) : bapp .repr [x] = some (.str x.pd.shown) := by
  obtain ⟨a, b⟩ := pd_short x 60 h hw
  have c := pd_weight x 60 h
  obtain ⟨d, e⟩ := D.okd_lay x 60 h
  have l0 : PyData.layable0 x.pd = true := by
    show (PyData.canLay0 x.pd && decide (PyData.depth x.pd ≤ 64) && decide (PyData.weight x.pd ≤ 2 ^ 20)) = true
    have e20 : (2:Nat) ^ 20 = 1048576 := by decide
    rw [d, decide_eq_true (by omega), decide_eq_true (by omega)]
    rfl
  have s := PyData.shown_le_of_layable0 l0 a
  show (if _ then _ else _) = _
  rw [if_pos]
  rw [show x.cmpb = true from h, b, decide_eq_true (by rw [sizeLine_eq]; omega)]
  rfl
theorem strOk_append {x y : Str} (h : PyData.strOk x = true) (g : PyData.strOk y = true) : PyData.strOk (x ++ y) = true := by
  unfold PyData.strOk at *
  show (x.cps ++ y.cps).all _ = true
  rw [Array.all_append, h, g]; rfl
theorem strOk_cut {x : Str} (lo hi : Option Int) (h : PyData.strOk x = true) : PyData.strOk ⟨(cut x.cps.toList lo hi).toArray⟩ = true := by
  unfold PyData.strOk at *
  rw [← Array.all_toList, List.all_eq_true] at h
  rw [← Array.all_toList, List.all_eq_true]
  intro c hc
  refine h c ?_
  have : c ∈ cut x.cps.toList lo hi := by simpa using hc
  exact List.mem_of_mem_drop (List.mem_of_mem_take this)
/-! the comparison in full -/
mutual
def sm : D → D → Bool
  | .tup l, .tup m => sms l m
  | .lst _ l, .lst _ m => sms l m
  | .non, .non => true | .bl a, .bl b => a == b | .int i, .int j => i == j | .str x, .str y => x == y
  | _, _ => false
def sms : List D → List D → Bool
  | [], [] => true
  | x :: xs, y :: ys => sm x y && sms xs ys
  | _, _ => false
end
theorem sms_len : ∀ {l m : List D}, l.length ≠ m.length → sms l m = false
  | [], [], h => absurd rfl h
  | [], _ :: _, _ => rfl
  | _ :: _, [], _ => rfl
  | x :: xs, y :: ys, h => by simp only [sms, sms_len (l := xs) (m := ys) (by simpa using h), Bool.and_false]
theorem sms_all : ∀ {l m : List D} (h : l.length = m.length), sms l m = (List.range l.length).all fun i => match l[i]?, m[i]? with | some x, some y => sm x y | _, _ => false
  | [], [], _ => rfl
  | [], _ :: _, h => by simp at h
  | _ :: _, [], h => by simp at h
  | x :: xs, y :: ys, h => by
    have ih := sms_all (l := xs) (m := ys) (by simpa using h)
    simp only [sms, ih, List.length_cons]
    rw [List.range_succ_eq_map, List.all_cons, List.all_map]
    rfl
def smAt (l m : List D) (i : Nat) : Bool := match l[i]?, m[i]? with | some x, some y => sm x y | _, _ => false
theorem sm_len0 (l m : List D) (h : l.length = m.length) : (((((List.range m.length).filter fun i => !smAt l m i).map fun i => D.int (i : Nat)).length : Int) == 0) = sms l m := by
  rw [sms_all h, ← h]
  show _ = (List.range l.length).all (smAt l m)
  rw [List.length_map, Bool.eq_iff_iff]
  simp [List.filter_eq_nil_iff]
theorem c_strF {x y : Str} (h : PyData.strOk x = true) (g : PyData.strOk y = true) : cop .eq (.str x) (.str y) = some (x == y) := by rfl
section
variable {F : Nat → Option Fn} {gl : Nat → Option D} {w iE : Nat}
theorem same_full (hE : F iE = some (fnSame iE)) : ∀ (n : Nat) (d e : D), D.dat n d = true → D.dat n e = true → ∀ k m, Ans (call F gl w (k + n + 1) iE [d, e] m) (.bl (sm d e)) m := by
  intro n
  induction n with
  | zero =>
    intro d e h g k m
    refine ans_of hE rfl ?_
    cases d <;> cases e <;> first | (simp [D.dat] at h g; done) | skip
    all_goals first
      | (simp only [D.dat] at h g; simp [fnSame, tyOk, isT, sm, c_strF h g]; done)
      | (simp [fnSame, tyOk, isT, sm]; done)
  | succ n ih =>
    intro d e h g k m
    have seq : ∀ (l l' : List D), D.dats n l = true → D.dats n l' = true → l.length = l'.length → l'.length ≤ 1000000 → ∀ d e : D, (∀ (i : Nat), ixo m d (.int i) = atD l i) → (∀ (i : Nat), ixo m e (.int i) = atD l' i) → bapp .len [e] = some (.int l'.length) →
        ev ⟨call F gl w (k + n + 1), gl, w⟩ (.lc (.var 2) (.name 2) .rng [(.bi .len [(.var 1)])] [(.nt (.call iE [(.ix (.var 0) (.var 2)), (.ix (.var 1) (.var 2))]))] [2]) ⟨[some d, some e, none], m⟩ = .ok (.lst true (((List.range l'.length).filter fun i => !smAt l l' i).map fun i => D.int (i : Nat))) ⟨[some d, some e, none], m⟩ := by
      intro l l' hl hl' hll hz d e hd he hlen
      refine ev_lcG (List.range l'.length) (fun i => .int (i : Nat)) (fun i => [some d, some e, some (.int (i : Nat))]) (fun i => !smAt l l' i) (fun i => .int (i : Nat)) (by simp [hlen]) (itm_rng_len l'.length (by omega)) (by simp; omega) (fun _ _ => rfl) (fun _ _ => rfl) rfl (fun _ _ => rfl) (fun i hi => ?_) (fun i _ _ => by simp)
      have hi := List.mem_range.mp hi
      have hi2 : i < l.length := by omega
      have hx := dats_get hl (List.getElem?_eq_getElem hi2)
      have hy := dats_get hl' (List.getElem?_eq_getElem hi)
      have hb := (ih l[i] l'[i] hx hy k m).back ⟨[some d, some e, some (.int i)], m⟩
      have hsm : smAt l l' i = sm l[i] l'[i] := by simp [smAt, List.getElem?_eq_getElem hi, List.getElem?_eq_getElem hi2]
      simp [hd, he, atD_nat l i hi2, atD_nat l' i hi, D.dat_fz n _ hx, D.dat_fz n _ hy, hb, hsm]
    have h3 : k + (n + 1) = k + n + 1 := by omega
    refine ans_of (k := k + (n + 1)) hE rfl ?_
    rw [h3]
    cases d with
    | tup l =>
      cases e with
      | tup l' =>
        simp only [D.dat, Bool.and_eq_true, decide_eq_true_eq] at h g
        by_cases hl : l.length = l'.length
        · have lc := seq l l' h.1 g.1 hl g.2 (.tup l) (.tup l') (fun _ => rfl) (fun _ => rfl) rfl
          have z := sm_len0 l l' hl
          simp [fnSame, tyOk, isT, hl, sm, lc, -x_lc]
          simpa using z
        · have z := sms_len hl
          have hl2 : ¬ ((l.length : Int) = (l'.length : Int)) := by omega
          simp [fnSame, tyOk, isT, hl2, sm, z]
      | lst o l' => simp [fnSame, tyOk, isT, sm]
      | _ => first | (simp [D.dat] at g; done) | (simp [fnSame, tyOk, isT, sm]; done)
    | lst o l =>
      cases e with
      | lst o' l' =>
        simp only [D.dat, Bool.and_eq_true, decide_eq_true_eq] at h g
        by_cases hl : l.length = l'.length
        · have lc := seq l l' h.1.2 g.1.2 hl g.2 (.lst o l) (.lst o' l') (fun _ => rfl) (fun _ => rfl) rfl
          have z := sm_len0 l l' hl
          simp [fnSame, tyOk, isT, hl, sm, lc, -x_lc]
          simpa using z
        · have z := sms_len hl
          have hl2 : ¬ ((l.length : Int) = (l'.length : Int)) := by omega
          simp [fnSame, tyOk, isT, hl2, sm, z]
      | tup l' => simp [fnSame, tyOk, isT, sm]
      | _ => first | (simp [D.dat] at g; done) | (simp [fnSame, tyOk, isT, sm]; done)
    | str x =>
      cases e with
      | str y => simp only [D.dat] at h g; simp [fnSame, tyOk, isT, sm, c_strF h g]
      | _ => first | (simp [D.dat] at g; done) | (simp [fnSame, tyOk, isT, sm]; done)
    | _ => first | (simp [D.dat] at h; done) | (cases e <;> first | (simp [D.dat] at g; done) | (simp [fnSame, tyOk, isT, sm]; done))
end
end PV

/-! PvM2: bent copies, copies with truth values. -/
namespace PV
open PySem
def fnIsInt : Fn := ⟨1, 1, [.ret (.and (.isi (.var 0) .int) (.nt (.isi (.var 0) .bool)))]⟩
def fnBooled (j ji : Nat) : Fn := ⟨1, 2, [.ite (.isi (.var 0) .tuple)
    [.ret (.bi .tuple [(.lc (.call j [(.var 1)]) (.name 1) .seq [(.var 0)] [] [1])])]
    [],
    .ret (.ite (.and (.call ji [(.var 0)]) (.and (.cmp .le (.lit (.int 0)) (.var 0)) (.cmp .lt (.var 0) (.lit (.int 2))))) (.ix (.tup [(.lit (.bl false)), (.lit (.bl true))]) (.var 0)) (.var 0))]⟩
def fnBent (jd j ji : Nat) : Fn := ⟨2, 6, [.ite (.and (.isi (.var 1) .tuple) (.and (.cmp .gt (.bi .len [(.var 1)]) (.lit (.int 0))) (.cmp .gt (.call jd [(.var 0), (.lit (.int 3))]) (.lit (.int 0)))))
    [.set 2 (.call jd [(.var 0), (.bi .len [(.var 1)])]),
    .ret (.bin .add (.bin .add (.slc (.var 1) .abs (.var 2)) (.tup [(.call j [(.var 0), (.ix (.var 1) (.var 2))])])) (.slc (.var 1) (.bin .add (.var 2) (.lit (.int 1))) .abs))]
    [],
    .set 3 (.call jd [(.var 0), (.lit (.int 9))]),
    .ite (.cmp .eq (.var 3) (.lit (.int 0)))
    [.ret (.ix (.tup [(.lit (.str "x")), (.lit (.bl true)), (.tup []), (.lit (.int 0)), (.neg (.lit (.int 1))), (.lit .non), (.lit (.bl false)), (.lst [])]) (.call jd [(.var 0), (.lit (.int 8))]))]
    [],
    .ite (.call ji [(.var 1)])
    [.ret (.bin .add (.var 1) (.ix (.tup [(.lit (.int 1)), (.neg (.lit (.int 1))), (.lit (.int 2)), (.lit (.int 0))]) (.call jd [(.var 0), (.lit (.int 4))])))]
    [],
    .ite (.isi (.var 1) .str)
    [.ret (.ix (.tup [(.bin .add (.var 1) (.lit (.str "a"))), (.slc (.var 1) (.lit (.int 1)) .abs), (.bin .add (.var 1) (.lit (.str "A"))), (.bin .add (.var 1) (.lit (.str " "))), (.slc (.var 1) .abs (.lit (.int 1)))]) (.call jd [(.var 0), (.lit (.int 5))]))]
    [],
    .ite (.or (.nt (.isi (.var 1) .tuple)) (.cmp .eq (.bi .len [(.var 1)]) (.lit (.int 0))))
    [.ret (.ite (.cmp .lt (.var 3) (.lit (.int 5))) (.tup [(.var 1), (.lit (.int 0))]) (.tup []))]
    [],
    .set 2 (.call jd [(.var 0), (.bi .len [(.var 1)])]),
    .ite (.cmp .lt (.var 3) (.lit (.int 3)))
    [.ret (.bin .add (.slc (.var 1) .abs (.var 2)) (.slc (.var 1) (.bin .add (.var 2) (.lit (.int 1))) .abs))]
    [],
    .ite (.cmp .lt (.var 3) (.lit (.int 5)))
    [.ret (.bin .add (.bin .add (.slc (.var 1) .abs (.var 2)) (.tup [(.ix (.var 1) (.var 2))])) (.slc (.var 1) (.var 2) .abs))]
    [],
    .ite (.cmp .eq (.var 3) (.lit (.int 5)))
    [.ret (.bi .list [(.var 1)])]
    [],
    .set 4 (.call jd [(.var 0), (.bi .len [(.var 1)])]),
    .bset 5 (.bi .list [(.var 1)]),
    .seti 5 (.var 2) (.ix (.var 1) (.var 4)),
    .seti 5 (.var 4) (.ix (.var 1) (.var 2)),
    .ret (.bib .tuple 5)]⟩
theorem b_addT2 (l m : List D) (h : l.length + m.length ≤ 10000000) : bop .add (.tup l) (.tup m) = some (.tup (l ++ m)) := by
  simp only [bop]
  rw [if_pos (Nat.le_trans h (by decide))]
theorem b_addS (x y : Str) (h : x.length + y.length ≤ 10000000) : bop .add (.str x) (.str y) = some (.str (x ++ y)) := by
  simp only [bop]
  rw [if_pos (Nat.le_trans h (by decide))]
theorem sizeLine_le2 (n : Nat) (h : n ≤ 10000000) : (n ≤ sizeLine) = True := eq_true (Nat.le_trans h (by decide))
theorem slo_to (l : List D) (i : Nat) : slo (.tup l) none (some (i : Int)) = some (.tup (l.take i)) := by
  simp only [slo, cut, sxn, List.drop_zero, Nat.sub_zero]
  rw [if_neg (by omega), Int.toNat_natCast]
  congr 2
  rw [List.take_eq_take_iff]; omega
theorem slo_from (l : List D) (i : Nat) : slo (.tup l) (some (i : Int)) none = some (.tup (l.drop i)) := by
  simp only [slo, cut, sxn]
  rw [if_neg (by omega), Int.toNat_natCast]
  congr 2
  by_cases h : i ≤ l.length
  · rw [Nat.min_eq_left h, List.take_of_length_le (by simp)]
  · rw [Nat.min_eq_right (by omega), Nat.sub_self, List.take_zero, List.drop_of_length_le (by omega)]
/-- a plain value -/
def dataB : D → Bool
  | .non => true | .bl _ => true | .int _ => true | .str _ => true | .tup _ => true | .lst _ _ => true | _ => false
theorem okd_data {n : Nat} {d : D} (h : D.okd n d = true) : dataB d = true := by
  cases d <;> first | rfl | (cases n <;> simp [D.okd] at h)
def intB : D → Bool
  | .int _ => true | _ => false
section
variable {F : Nat → Option Fn} {gl : Nat → Option D} {w i : Nat}
theorem isint_ok (hF : F i = some fnIsInt) (d : D) (h : dataB d = true) (k : Nat) (m : List Cell) : Ans (call F gl w (k + 1) i [d] m) (.bl (intB d)) m := by
  refine ans_of hF rfl ?_
  cases d <;> first | (simp [dataB] at h; done) | simp [fnIsInt, tyOk, isT, intB]
/-- how many items a tuple has -/
def itC : D → Nat
  | .tup l => l.length
  | _ => 0
/-- the constants that are put in -/
theorem bent_const (v : Int) (h0 : 0 ≤ v) (h1 : v < 8) : ∃ d : D, atD [.str "x", .bl true, .tup [], .int 0, .int (-1), .non, .bl false, .lst true []] v = some d ∧ D.okd 1 d = true ∧ d.wt ≤ 2 ∧ itC d = 0 := by
  have : v = 0 ∨ v = 1 ∨ v = 2 ∨ v = 3 ∨ v = 4 ∨ v = 5 ∨ v = 6 ∨ v = 7 := by omega
  rcases this with rfl | rfl | rfl | rfl | rfl | rfl | rfl | rfl <;> exact ⟨_, rfl, by decide +kernel, by decide +kernel, rfl⟩
theorem atD5 (v : Int) (h0 : 0 ≤ v) (h1 : v < 5) (a b c d e : D) : ∃ x, atD [a, b, c, d, e] v = some x ∧ (x = a ∨ x = b ∨ x = c ∨ x = d ∨ x = e) := by
  have : v = 0 ∨ v = 1 ∨ v = 2 ∨ v = 3 ∨ v = 4 := by omega
  rcases this with rfl | rfl | rfl | rfl | rfl <;> exact ⟨_, rfl, by simp⟩
theorem atD4 (v : Int) (h0 : 0 ≤ v) (h1 : v < 4) (a b c d : D) : ∃ x, atD [a, b, c, d] v = some x ∧ (x = a ∨ x = b ∨ x = c ∨ x = d) := by
  have : v = 0 ∨ v = 1 ∨ v = 2 ∨ v = 3 := by omega
  rcases this with rfl | rfl | rfl | rfl <;> exact ⟨_, rfl, by simp⟩
/-- what a bent copy is -/
def BentOf (N : Nat) (d d' : D) : Prop := D.okd (N + 1) d' = true ∧ d'.wt ≤ 2 * d.wt + 4 ∧ itC d' ≤ itC d + 2
theorem str_take (x : Str) (a b : Option Int) : (⟨(cut x.cps.toList a b).toArray⟩ : Str).length ≤ x.length := by
  show (cut x.cps.toList a b).toArray.size ≤ x.cps.size
  rw [List.size_toArray]
  have := (cut_sub x.cps.toList a b).length_le
  simpa using this
theorem fzs_id {l : List D} (h : (D.tup l).fz = .tup l) : D.fzs l = l := by simpa using h
theorem fzs_at {l : List D} (h : D.fzs l = l) {i : Nat} {x : D} (e : l[i]? = some x) : x.fz = x := by
  rw [fzs_map] at h
  have := congrArg (fun l => l[i]?) h
  simp only [List.getElem?_map, e, Option.map_some, Option.some.injEq] at this
  exact this
/-- the rest of the def, without the way into the parts -/
theorem bent_rest {iS iD ji j : Nat} (hS : F iS = some fnSpread) (hD : F iD = some (fnDraw iS)) (hI : F ji = some fnIsInt) (N : Nat) (d : D) (hN : 1 ≤ N) (hd : D.okd N d = true) (hw : d.wt ≤ 400000) (hz : d.fz = d) (m : List Cell) (hp : PoolOk m) (o2 : Option D) :
    ∃ (d' : D) (m' : List Cell), BentOf N d d' ∧ PoolOk m' ∧ ∀ k, Ret (execs ⟨call F gl w (k + 2), gl, w⟩ ((fnBent iD j ji).b.drop 1) ⟨[some (.ref 0), some d, o2, none, none, none], m⟩) d' m' := by
  obtain ⟨t, m1, t0, t1, p1, ht⟩ := draw_ok (gl := gl) (w := w) (many := 9) hS hD hp (by decide) (by decide)
  have ft : ∀ k s, cback (call F gl w (k + 2) iD [.ref 0, .int 9] m) s = .ok (.int t) { s with m := m1 } := fun k s => (ht k).back s
  have hdat := okd_data hd
  by_cases ht0 : t = 0
  · obtain ⟨v, m2, v0, v1, p2, hv⟩ := draw_ok (gl := gl) (w := w) (many := 8) hS hD p1 (by decide) (by decide)
    have fv : ∀ k s, cback (call F gl w (k + 2) iD [.ref 0, .int 8] m1) s = .ok (.int v) { s with m := m2 } := fun k s => (hv k).back s
    obtain ⟨c, hc, ok, wc⟩ := bent_const v v0 v1
    refine ⟨c, m2, ⟨okd_le ok (by omega), by omega⟩, p2, fun k => ?_⟩
    subst ht0
    simp [fnBent, ft, fv, hc]
  have fi : ∀ k s, cback (call F gl w (k + 2) ji [d] m1) s = .ok (.bl (intB d)) { s with m := m1 } := fun k s => (isint_ok (gl := gl) (w := w) hI d hdat (k + 1) m1).back s
  have pair : ∃ d', (d' = .tup [d, .int 0] ∨ d' = .tup []) ∧ BentOf N d d' ∧ (if t < 5 then d' = .tup [d, .int 0] else d' = .tup []) := by
    by_cases h5 : t < 5
    · refine ⟨_, .inl rfl, ⟨?_, ?_⟩, by rw [if_pos h5]⟩
      · simp [D.okd, D.okds, hd]
      · simp only [itC, List.length_cons, List.length_nil, D.wt, D.wts]; omega
    · exact ⟨_, .inr rfl, ⟨rfl, by simp only [itC, List.length_nil, D.wt, D.wts]; omega⟩, by rw [if_neg h5]⟩
  cases d with
  | int n =>
    obtain ⟨v, m2, v0, v1, p2, hv⟩ := draw_ok (gl := gl) (w := w) (many := 4) hS hD p1 (by decide) (by decide)
    have fv : ∀ k s, cback (call F gl w (k + 2) iD [.ref 0, .int 4] m1) s = .ok (.int v) { s with m := m2 } := fun k s => (hv k).back s
    obtain ⟨x, hx, hx2⟩ := atD4 v v0 v1 (.int 1) (.int (-1)) (.int 2) (.int 0)
    obtain ⟨y, rfl, hy⟩ : ∃ y : Int, x = .int y ∧ y.natAbs ≤ 2 := by
      rcases hx2 with rfl | rfl | rfl | rfl <;> exact ⟨_, rfl, by decide⟩
    refine ⟨.int (n + y), m2, ⟨rfl, by simp only [itC, D.wt]; omega⟩, p2, fun k => ?_⟩
    simp [fnBent, ft, fv, ht0, fi, intB, hx]
  | str x =>
    obtain ⟨v, m2, v0, v1, p2, hv⟩ := draw_ok (gl := gl) (w := w) (many := 5) hS hD p1 (by decide) (by decide)
    have fv : ∀ k s, cback (call F gl w (k + 2) iD [.ref 0, .int 5] m1) s = .ok (.int v) { s with m := m2 } := fun k s => (hv k).back s
    simp only [D.wt] at hw
    obtain ⟨y, hy, hy2⟩ := atD5 v v0 v1 (.str (x ++ ("a" : Str))) (.str ⟨(cut x.cps.toList (some 1) none).toArray⟩) (.str (x ++ ("A" : Str))) (.str (x ++ (" " : Str))) (.str ⟨(cut x.cps.toList none (some 1)).toArray⟩)
    have hs : PyData.strOk x = true := by simpa only [D.okd] using hd
    have l1 : ("a" : Str).length = 1 := by decide
    have l2 : ("A" : Str).length = 1 := by decide
    have l3 : (" " : Str).length = 1 := by decide
    have hb : BentOf N (.str x) y := by
      have c1 := str_take x (some 1) none
      have c2 := str_take x none (some 1)
      rcases hy2 with rfl | rfl | rfl | rfl | rfl
      · exact ⟨by simp only [D.okd]; exact strOk_append hs (by decide +kernel), by simp only [itC, D.wt]; rw [strLen_append, l1]; omega⟩
      · exact ⟨by simp only [D.okd]; exact strOk_cut _ _ hs, by simp only [itC, D.wt]; omega⟩
      · exact ⟨by simp only [D.okd]; exact strOk_append hs (by decide +kernel), by simp only [itC, D.wt]; rw [strLen_append, l2]; omega⟩
      · exact ⟨by simp only [D.okd]; exact strOk_append hs (by decide +kernel), by simp only [itC, D.wt]; rw [strLen_append, l3]; omega⟩
      · exact ⟨by simp only [D.okd]; exact strOk_cut _ _ hs, by simp only [itC, D.wt]; omega⟩
    refine ⟨y, m2, hb, p2, fun k => ?_⟩
    have s1 : slo (.str x) (some 1) none = some (.str ⟨(cut x.cps.toList (some 1) none).toArray⟩) := by
      simp only [slo]; rw [if_pos (Nat.le_trans (show x.length ≤ 1000000 by omega) (by decide))]
    have s2 : slo (.str x) none (some 1) = some (.str ⟨(cut x.cps.toList none (some 1)).toArray⟩) := by
      simp only [slo]; rw [if_pos (Nat.le_trans (show x.length ≤ 1000000 by omega) (by decide))]
    have b1 := b_addS x "a" (by omega)
    have b2 := b_addS x "A" (by omega)
    have b3 := b_addS x " " (by omega)
    simp [fnBent, ft, fv, ht0, fi, intB, tyOk, isT, part, s1, s2, b1, b2, b3, hy]
  | non =>
    obtain ⟨d', e, hb, hc⟩ := pair
    refine ⟨d', m1, hb, p1, fun k => ?_⟩
    by_cases h5 : t < 5
    · rw [if_pos h5] at hc; simp [fnBent, ft, ht0, fi, intB, tyOk, isT, h5, hc]
    · rw [if_neg h5] at hc; simp [fnBent, ft, ht0, fi, intB, tyOk, isT, h5, hc]
  | bl b =>
    obtain ⟨d', e, hb, hc⟩ := pair
    refine ⟨d', m1, hb, p1, fun k => ?_⟩
    by_cases h5 : t < 5
    · rw [if_pos h5] at hc; simp [fnBent, ft, ht0, fi, intB, tyOk, isT, h5, hc]
    · rw [if_neg h5] at hc; simp [fnBent, ft, ht0, fi, intB, tyOk, isT, h5, hc]
  | lst o l =>
    simp only [fz_lst, D.lst.injEq] at hz
    obtain ⟨rfl, hzl⟩ := hz
    obtain ⟨d', e, hb, hc⟩ := pair
    refine ⟨d', m1, hb, p1, fun k => ?_⟩
    by_cases h5 : t < 5
    · rw [if_pos h5] at hc; simp [fnBent, ft, ht0, intB, tyOk, isT, h5, hc, hzl, fi]
    · rw [if_neg h5] at hc; simp [fnBent, ft, ht0, intB, tyOk, isT, h5, hc, hzl, fi]
  | tup l =>
    have hzl : D.fzs l = l := fzs_id hz
    have hN' : ∃ M, N = M + 1 := ⟨N - 1, by omega⟩
    obtain ⟨M, rfl⟩ := hN'
    have hl : D.okds M l = true := by simpa only [D.okd] using hd
    have hlw := wts_len M l hl
    simp only [D.wt] at hw
    by_cases h0 : l.length = 0
    · obtain rfl : l = [] := List.length_eq_zero_iff.mp h0
      obtain ⟨d', e, hb, hc⟩ := pair
      refine ⟨d', m1, hb, p1, fun k => ?_⟩
      by_cases h5 : t < 5
      · rw [if_pos h5] at hc; simp [fnBent, ft, ht0, intB, tyOk, isT, h5, hc, fi]
      · rw [if_neg h5] at hc; simp [fnBent, ft, ht0, intB, tyOk, isT, h5, hc, fi]
    have h0' : ¬ ((l.length : Int) = 0) := by omega
    have h0'' : l ≠ [] := by rintro rfl; exact h0 rfl
    obtain ⟨a, m2, a0, a1, p2, ha⟩ := draw_ok (gl := gl) (w := w) (many := (l.length : Int)) hS hD p1 (by omega) (by omega)
    have fa : ∀ k s, cback (call F gl w (k + 2) iD [.ref 0, .int (l.length : Int)] m1) s = .ok (.int a) { s with m := m2 } := fun k s => (ha k).back s
    obtain ⟨i, rfl⟩ : ∃ i : Nat, a = i := ⟨a.toNat, by omega⟩
    have hi : i < l.length := by omega
    have hs := wts_split l i hi
    have hst : D.wts l = D.wts (l.take i) + D.wts (l.drop i) := by
      conv => lhs; rw [← List.take_append_drop i l]
      rw [wts_append]
    have okm : ∀ x ∈ l, D.okd M x = true := okds_all.mp hl
    have okt : ∀ x ∈ l.take i, D.okd M x = true := fun x hx => okm x (List.mem_of_mem_take hx)
    have okr : ∀ x ∈ l.drop (i + 1), D.okd M x = true := fun x hx => okm x (List.mem_of_mem_drop hx)
    have okr0 : ∀ x ∈ l.drop i, D.okd M x = true := fun x hx => okm x (List.mem_of_mem_drop hx)
    have at_i : atD l (i : Int) = some l[i] := atD_nat l i hi
    have e1 : ((i : Int) + 1) = ((i + 1 : Nat) : Int) := by omega
    by_cases h3 : t < 3
    · refine ⟨.tup (l.take i ++ l.drop (i + 1)), m2, ⟨?_, ?_⟩, p2, fun k => ?_⟩
      · refine okd_up _ _ ?_
        simp only [D.okd]
        exact okds_append.mpr ⟨okds_all.mpr okt, okds_all.mpr okr⟩
      · simp only [itC, List.length_append, List.length_take, List.length_drop, List.length_set, List.length_cons, List.length_nil, D.wt, wts_append]; omega
      · have s1 := slo_to l i
        have s2 := slo_from l (i + 1)
        have b1 := b_addT2 (l.take i) (l.drop (i + 1)) (by simp; omega)
        rw [← e1] at s2
        simp [fnBent, ft, ht0, intB, tyOk, isT, h0'', hzl, fi, fa, h3, part, s1, s2, b1]
    by_cases h5 : t < 5
    · have tk : l.take i ++ [l[i]] = l.take (i + 1) := by simp
      have wk : D.wts (l.take (i + 1)) = D.wts (l.take i) + D.wt l[i] := by rw [← tk, wts_append]; simp [D.wts]
      refine ⟨.tup (l.take (i + 1) ++ l.drop i), m2, ⟨?_, ?_⟩, p2, fun k => ?_⟩
      · refine okd_up _ _ ?_
        simp only [D.okd]
        exact okds_append.mpr ⟨okds_all.mpr fun x hx => okm x (List.mem_of_mem_take hx), okds_all.mpr okr0⟩
      · simp only [itC, List.length_append, List.length_take, List.length_drop, List.length_set, List.length_cons, List.length_nil, D.wt, wts_append]; omega
      · have s1 := slo_to l i
        have s2 := slo_from l i
        have b1 := b_addT2 (l.take i) [l[i]] (by simp; omega)
        have b2 := b_addT2 (l.take (i + 1)) (l.drop i) (by simp; omega)
        simp [fnBent, ft, ht0, intB, tyOk, isT, h0'', hzl, fi, fa, h3, h5, part, s1, s2, at_i, b1, b2]
    by_cases h6 : t = 5
    · refine ⟨.lst true l, m2, ⟨okd_up _ _ (by simpa only [D.okd] using hd), by simp only [itC, D.wt]; omega⟩, p2, fun k => ?_⟩
      subst h6
      have bl : bapp .list [.tup l] = some (.lst true l) := rfl
      simp [fnBent, ft, intB, tyOk, isT, h0'', hzl, fi, fa, bl]
    obtain ⟨b, m3, b0, b1, p3, hb⟩ := draw_ok (gl := gl) (w := w) (many := (l.length : Int)) hS hD p2 (by omega) (by omega)
    have fb : ∀ k s, cback (call F gl w (k + 2) iD [.ref 0, .int (l.length : Int)] m2) s = .ok (.int b) { s with m := m3 } := fun k s => (hb k).back s
    obtain ⟨q, rfl⟩ : ∃ q : Nat, b = q := ⟨b.toNat, by omega⟩
    have hq : q < l.length := by omega
    have at_q : atD l (q : Int) = some l[q] := atD_nat l q hq
    have isz : D.iszs ((l.set i l[q]).set q l[i]) = true := by
      rw [D.iszs_iff]
      intro x hx
      have hl2 : ∀ x ∈ l, x.isz = true := D.iszs_iff.mp (by rw [← hzl]; exact D.iszs_fzs l)
      rcases List.mem_or_eq_of_mem_set hx with hx | rfl
      · rcases List.mem_or_eq_of_mem_set hx with hx | rfl
        · exact hl2 x hx
        · exact hl2 _ (List.getElem_mem hq)
      · exact hl2 _ (List.getElem_mem hi)
    have fz2 : D.fzs ((l.set i l[q]).set q l[i]) = (l.set i l[q]).set q l[i] := by
      rw [fzs_map]
      have : ∀ x ∈ (l.set i l[q]).set q l[i], x.fz = x := by
        intro x hx
        have hl2 : ∀ x ∈ l, x.fz = x := fun x hx => by
          obtain ⟨n, hn⟩ := List.mem_iff_getElem?.mp hx
          exact fzs_at hzl hn
        rcases List.mem_or_eq_of_mem_set hx with hx | rfl
        · rcases List.mem_or_eq_of_mem_set hx with hx | rfl
          · exact hl2 x hx
          · exact hl2 _ (List.getElem_mem hq)
        · exact hl2 _ (List.getElem_mem hi)
      rw [List.map_congr_left this]; simp
    refine ⟨.tup ((l.set i l[q]).set q l[i]), m3, ⟨?_, ?_⟩, p3, fun k => ?_⟩
    · refine okd_up _ _ ?_
      simp only [D.okd]
      refine okds_all.mpr fun x hx => ?_
      rcases List.mem_or_eq_of_mem_set hx with hx | rfl
      · rcases List.mem_or_eq_of_mem_set hx with hx | rfl
        · exact okm x hx
        · exact okm _ (List.getElem_mem hq)
      · exact okm _ (List.getElem_mem hi)
    · have ws : ∀ (l : List D) (i : Nat) (x : D) (h : i < l.length), D.wts (l.set i x) + D.wt l[i] = D.wts l + D.wt x := by
        intro l
        induction l with
        | nil => intro i x h; simp at h
        | cons y ys ih =>
          intro i x h
          cases i with
          | zero => simp only [List.set, D.wts, List.getElem_cons_zero]; omega
          | succ i =>
            have := ih i x (by simpa using h)
            simp only [List.set, D.wts, List.getElem_cons_succ]; omega
      have w1 := ws l i l[q] hi
      have w2 := ws (l.set i l[q]) q l[i] (by simpa using hq)
      have w3 := wts_split l q hq
      simp only [itC, List.length_append, List.length_take, List.length_drop, List.length_set, List.length_cons, List.length_nil, D.wt]; omega
    · have bl : bapp .list [.tup l] = some (.lst true l) := rfl
      have bt : ∀ l, bapp .tuple [.lst false l] = some (.tup l) := fun _ => rfl
      have ix1 : ∀ n : Nat, ∀ j : Nat, j < n → ixn n (j : Int) = some j := fun n j h => by
        unfold ixn; rw [if_pos (by omega), if_pos (by omega), Int.toNat_natCast]
      have st1 : ∀ (L : List D) (n : Nat) (hn : n < L.length) (d : D) (r : List (Option D)) (m : List Cell), gt r 5 = some (.lst true L) → stix 5 (.int (n : Int)) d ⟨r, m⟩ = some ⟨r.set 5 (some (.lst true (L.set n d))), m⟩ := by
        intro L n hn d r m hg
        simp only [stix, hg, Option.bind_some, ix1 L.length n hn, Option.map_some]
      have s1 := st1 l i hi l[q] [some (.ref 0), some (.tup l), some (.int i), some (.int t), some (.int q), some (.lst true l)] m3 rfl
      have s2 := st1 (l.set i l[q]) q (by simpa using hq) l[i] [some (.ref 0), some (.tup l), some (.int i), some (.int t), some (.int q), some (.lst true (l.set i l[q]))] m3 rfl
      simp only [List.set] at s1 s2
      have kz : kidz (.lst true ((l.set i l[q]).set q l[i])) = true := isz
      generalize hL : (l.set i l[q]).set q l[i] = L2 at *
      simp [fnBent, ft, ht0, intB, tyOk, isT, h0'', hzl, fi, fa, fb, h3, h5, h6, bl, at_i, at_q, s1, s2, kz, fz2, bt]
  | _ => simp [dataB] at hdat
theorem bent_ok {iS iD ji j : Nat} (hS : F iS = some fnSpread) (hD : F iD = some (fnDraw iS)) (hI : F ji = some fnIsInt) (hB : F j = some (fnBent iD j ji)) : ∀ (N : Nat) (d : D) (m : List Cell), D.okd N d = true → d.wt ≤ 400000 → d.fz = d → PoolOk m →
    ∃ (d' : D) (m' : List Cell), BentOf (N + 1) d d' ∧ PoolOk m' ∧ ∀ k, Ans (call F gl w (k + N + 3) j [.ref 0, d] m) d' m'
  | N, d, m, hd, hw, hz, hp => by
    have hdat := okd_data hd
    -- no way in
    have rest : ∀ (m1 : List Cell), PoolOk m1 → (∀ k (x : List (Option D)), exec ⟨call F gl w (k + N + 2), gl, w⟩ ((fnBent iD j ji).b.getD 0 .skip) ⟨[some (.ref 0), some d, none, none, none, none], m⟩ = .ok .next ⟨[some (.ref 0), some d, none, none, none, none], m1⟩) →
        ∃ (d' : D) (m' : List Cell), BentOf (N + 1) d d' ∧ PoolOk m' ∧ ∀ k, Ans (call F gl w (k + N + 3) j [.ref 0, d] m) d' m' := by
      intro m1 p1 hx
      obtain ⟨d', m', hb, p', hr⟩ := bent_rest (gl := gl) (w := w) (j := j) hS hD hI (N + 1) d (by omega) (okd_up _ _ hd) hw hz m1 p1 none
      refine ⟨d', m', hb, p', fun k => ans_of (k := k + N + 2) hB rfl ?_⟩
      have hb0 : (fnBent iD j ji).b = (fnBent iD j ji).b.getD 0 .skip :: (fnBent iD j ji).b.drop 1 := rfl
      show Ret (execs _ (fnBent iD j ji).b ⟨[some (.ref 0), some d, none, none, none, none], m⟩) _ _
      rw [hb0, ks_cons, hx k [], Out.bind_ok]
      exact hr (k + N)
    cases d with
    | tup l =>
      have hzl : D.fzs l = l := fzs_id hz
      by_cases h0 : l.length = 0
      · obtain rfl : l = [] := List.length_eq_zero_iff.mp h0
        exact rest m hp fun k x => by simp [fnBent, tyOk, isT]
      have h0'' : l ≠ [] := by rintro rfl; exact h0 rfl
      have hlp : 0 < l.length := by omega
      obtain ⟨t, m1, t0, t1, p1, ht⟩ := draw_ok (gl := gl) (w := w) (many := 3) hS hD hp (by decide) (by decide)
      have ft : ∀ k s, cback (call F gl w (k + 2) iD [.ref 0, .int 3] m) s = .ok (.int t) { s with m := m1 } := fun k s => (ht k).back s
      by_cases htp : t = 0
      · subst htp
        exact rest m1 p1 fun k x => by simp [fnBent, tyOk, isT, h0'', hlp, ft]
      cases N with
      | zero => simp [D.okd] at hd
      | succ N =>
        have hl : D.okds N l = true := by simpa only [D.okd] using hd
        have hlw := wts_len N l hl
        simp only [D.wt] at hw
        obtain ⟨a, m2, a0, a1, p2, ha⟩ := draw_ok (gl := gl) (w := w) (many := (l.length : Int)) hS hD p1 (by omega) (by omega)
        have fa : ∀ k s, cback (call F gl w (k + 2) iD [.ref 0, .int (l.length : Int)] m1) s = .ok (.int a) { s with m := m2 } := fun k s => (ha k).back s
        obtain ⟨i, rfl⟩ : ∃ i : Nat, a = i := ⟨a.toNat, by omega⟩
        have hi : i < l.length := by omega
        have hs := wts_split l i hi
        have okm : ∀ x ∈ l, D.okd N x = true := okds_all.mp hl
        have fzi : (l[i]).fz = l[i] := fzs_at hzl (List.getElem?_eq_getElem hi)
        obtain ⟨x, m3, ⟨hx1, hx2⟩, p3, hx⟩ := bent_ok hS hD hI hB N l[i] m2 (okm _ (List.getElem_mem hi)) (by omega) fzi p2
        have fx : ∀ k s, cback (call F gl w (k + N + 3) j [.ref 0, l[i]] m2) s = .ok x { s with m := m3 } := fun k s => (hx k).back s
        have at_i : atD l (i : Int) = some l[i] := atD_nat l i hi
        have e1 : ((i : Int) + 1) = ((i + 1 : Nat) : Int) := by omega
        refine ⟨.tup ((l.take i ++ [x]) ++ l.drop (i + 1)), m3, ⟨?_, ?_⟩, p3, fun k => ?_⟩
        · simp only [D.okd]
          have up : ∀ x ∈ l, D.okd (N + 1 + 1) x = true := fun x hx => okd_up _ _ (okd_up _ _ (okm x hx))
          refine okds_append.mpr ⟨okds_append.mpr ⟨okds_all.mpr fun x hx => up x (List.mem_of_mem_take hx), ?_⟩, okds_all.mpr fun x hx => up x (List.mem_of_mem_drop hx)⟩
          simp only [D.okds, Bool.and_true]
          exact hx1
        · simp only [itC, List.length_append, List.length_take, List.length_drop, List.length_set, List.length_cons, List.length_nil, D.wt, wts_append, D.wts]; omega
        · refine ans_of (k := k + (N + 1) + 2) hB rfl ?_
          have s1 := slo_to l i
          have s2 := slo_from l (i + 1)
          rw [← e1] at s2
          have b1 := b_addT2 (l.take i) [x] (by simp; omega)
          have b2 := b_addT2 (l.take i ++ [x]) (l.drop (i + 1)) (by simp; omega)
          simp only [List.append_assoc] at b2 ⊢
          have tp : 0 < t := by omega
          have k1 : k + (N + 1) + 2 = k + N + 3 := by omega
          rw [k1]
          have ft' := ft (k + N + 1)
          have fa' := fa (k + N + 1)
          have fx' := fx k
          simp [fnBent, tyOk, isT, h0'', hlp, hzl, ft', tp, fa', part, s1, s2, at_i, fzi, fx', b1, b2]
    | non => exact rest m hp fun k x => by simp [fnBent, tyOk, isT]
    | bl b => exact rest m hp fun k x => by simp [fnBent, tyOk, isT]
    | int b => exact rest m hp fun k x => by simp [fnBent, tyOk, isT]
    | str b => exact rest m hp fun k x => by simp [fnBent, tyOk, isT]
    | lst o l => exact rest m hp fun k x => by simp [fnBent, tyOk, isT]
    | _ => simp [dataB] at hdat
/-- the copy with truth values for 0 and 1 -/
def boolV (d : D) : D := match d with
  | .int i => if 0 ≤ i ∧ i < 2 then .bl (i == 1) else .int i
  | d => d
end
end PV

/-! PvM3: copies with truth values, with lists; comprehensions that draw. -/
namespace PV
open PySem
def fnListed (j : Nat) : Fn := ⟨2, 3, [.ite (.nt (.isi (.var 0) .tuple))
    [.ret (.var 0)]
    [],
    .ret (.ite (.cmp .eq (.var 1) (.lit (.int 0))) (.bi .list [(.var 0)]) (.bi .tuple [(.lc (.call j [(.var 2), (.bin .sub (.var 1) (.lit (.int 1)))]) (.name 2) .seq [(.var 0)] [] [2])]))]⟩
def fnPick (jd : Nat) : Fn := ⟨2, 2, [.ret (.ix (.var 1) (.call jd [(.var 0), (.bi .len [(.var 1)])]))]⟩
theorem set_gt {α : Type} : ∀ (R : List (Option α)) (i : Nat), R.set i (gt R i) = R
  | [], _ => rfl
  | x :: xs, 0 => rfl
  | x :: xs, i + 1 => by simp only [gt, List.set, set_gt xs i]
theorem lcB_draw {E : Env} {e : C} {i : Nat} {R : List (Option D)} (P : D → Prop) (step : ∀ (x : D) (m : List Cell), PoolOk m → ∃ (d : D) (m' : List Cell), P d ∧ PoolOk m' ∧ ev E e ⟨R.set i (some x), m⟩ = .ok d ⟨R.set i (some x), m'⟩) :
    ∀ (l acc : List D) (m : List Cell) (o : Option D), PoolOk m → acc.length + l.length < 2000000 → ∃ (ds : List D) (m' : List Cell) (o' : Option D), (∀ d ∈ ds, P d) ∧ ds.length = l.length ∧ PoolOk m' ∧ lcB E e (.name i) [] [i] l acc ⟨R.set i o, m⟩ = .ok (acc ++ ds) ⟨R.set i o', m'⟩
  | [], acc, m, o, hp, _ => ⟨[], m, o, by simp, rfl, hp, by simp [lcB_nil]⟩
  | x :: xs, acc, m, o, hp, hz => by
    simp only [List.length_cons] at hz
    obtain ⟨d, m1, pd, p1, e1⟩ := step x m hp
    obtain ⟨ds, m', o', h1, h2, h3, h4⟩ := lcB_draw P step xs (acc ++ [d]) m1 (some x) p1 (by simp; omega)
    refine ⟨d :: ds, m', o', ?_, by simp [h2], h3, ?_⟩
    · intro y hy
      rcases List.mem_cons.mp hy with rfl | hy
      · exact pd
      · exact h1 y hy
    · rw [lcB_cons]
      show (Out.of (some (((R.set i o).set i none).set i (some x))) _).bind _ = _
      rw [List.set_set, List.set_set, Out.of_some, Out.bind_ok, xt_nil, noExc_ok, Out.bind_ok, if_pos rfl]
      show (noExc (ev E e ⟨R.set i (some x), m⟩)).bind _ = _
      rw [e1, noExc_ok, Out.bind_ok, if_pos (Nat.lt_of_lt_of_le (show acc.length < 2000000 by omega) (by decide)), h4]
      simp
theorem ev_lcD {E : Env} {e : C} {i : Nat} {k : Ik} {its : List C} {R : List (Option D)} {m m1 : List Cell} {ds l : List D} (P : D → Prop) (hits : evs E its ⟨R, m⟩ = .ok ds ⟨R, m1⟩) (hl : itm k ds = some l) (hz : l.length < 2000000) (hp : PoolOk m1)
    (step : ∀ (x : D) (m : List Cell), PoolOk m → ∃ (d : D) (m' : List Cell), P d ∧ PoolOk m' ∧ ev E e ⟨R.set i (some x), m⟩ = .ok d ⟨R.set i (some x), m'⟩) :
    ∃ (ds' : List D) (m' : List Cell), (∀ d ∈ ds', P d) ∧ ds'.length = l.length ∧ PoolOk m' ∧ ev E (.lc e (.name i) k its [] [i]) ⟨R, m⟩ = .ok (.lst true ds') ⟨R, m'⟩ := by
  obtain ⟨ds', m', o', h1, h2, h3, h4⟩ := lcB_draw P step l [] m1 (gt R i) hp (by simpa using hz)
  rw [set_gt] at h4
  refine ⟨ds', m', h1, h2, h3, ?_⟩
  rw [x_lc, hits, Out.bind_ok, hl, Out.of_some, Out.bind_ok, h4, Out.bind_ok, List.nil_append]
  congr 2
  show (R.set i o').set i (gt R i) = R
  rw [List.set_set, set_gt]
/-! copies with truth values -/
mutual
def boolD : D → D
  | .int i => if 0 ≤ i ∧ i < 2 then .bl (decide (i = 1)) else .int i
  | .tup l => .tup (boolDs l)
  | .non => .non | .bl b => .bl b | .str x => .str x | .lst o l => .lst o l | .scr l => .scr l | .dct o k v => .dct o k v | .set o l => .set o l | .ref n => .ref n
def boolDs : List D → List D
  | [] => [] | x :: xs => boolD x :: boolDs xs
end
theorem boolDs_map (l : List D) : boolDs l = l.map boolD := by
  induction l with
  | nil => rfl
  | cons x xs ih => simp only [boolDs, ih, List.map_cons]
mutual
theorem boolD_okd : ∀ (d : D) (n : Nat), D.okd n d = true → D.okd n (boolD d) = true
  | .int i, n, _ => by simp only [boolD]; split <;> rfl
  | .tup l, n, h => by
    cases n with
    | zero => simp [D.okd] at h
    | succ n => simp only [D.okd, boolD] at h ⊢; exact boolDs_okd l n h
  | .non, n, h => h | .bl _, n, h => h | .str _, n, h => h | .lst _ _, n, h => h
  | .scr _, n, h => by simp [D.okd] at h
  | .dct _ _ _, n, h => by simp [D.okd] at h
  | .set _ _, n, h => by simp [D.okd] at h
  | .ref _, n, h => by simp [D.okd] at h
theorem boolDs_okd : ∀ (d : List D) (n : Nat), D.okds n d = true → D.okds n (boolDs d) = true
  | [], n, _ => rfl
  | x :: xs, n, h => by
    simp only [D.okds, Bool.and_eq_true, boolDs] at h ⊢
    exact ⟨boolD_okd x n h.1, boolDs_okd xs n h.2⟩
end
mutual
theorem boolD_wt : ∀ (d : D), (boolD d).wt ≤ d.wt
  | .int i => by simp only [boolD]; split <;> simp [D.wt]
  | .tup l => by have := boolDs_wt l; simp only [boolD, D.wt]; omega
  | .non => Nat.le_refl _ | .bl _ => Nat.le_refl _ | .str _ => Nat.le_refl _ | .lst _ _ => Nat.le_refl _ | .scr _ => Nat.le_refl _ | .dct _ _ _ => Nat.le_refl _ | .set _ _ => Nat.le_refl _ | .ref _ => Nat.le_refl _
theorem boolDs_wt : ∀ (d : List D), D.wts (boolDs d) ≤ D.wts d
  | [] => Nat.le_refl _
  | x :: xs => by have := boolD_wt x; have := boolDs_wt xs; simp only [boolDs, D.wts]; omega
end
section
variable {F : Nat → Option Fn} {gl : Nat → Option D} {w i : Nat}
theorem booled_ok {j ji : Nat} (hI : F ji = some fnIsInt) (hB : F j = some (fnBooled j ji)) : ∀ (N : Nat) (d : D) (m : List Cell), D.okd N d = true → d.wt ≤ 400000 → d.fz = d → ∀ k, Ans (call F gl w (k + N + 2) j [d] m) (boolD d) m
  | N, d, m, hd, hw, hz, k => by
    have hdat := okd_data hd
    have fi : ∀ s, cback (call F gl w (k + N + 1) ji [d] m) s = .ok (.bl (intB d)) { s with m := m } := fun s => (isint_ok (gl := gl) (w := w) hI d hdat (k + N) m).back s
    cases d with
    | tup l =>
      cases N with
      | zero => simp [D.okd] at hd
      | succ N =>
        have hzl : D.fzs l = l := fzs_id hz
        have hl : D.okds N l = true := by simpa only [D.okd] using hd
        have hlw := wts_len N l hl
        simp only [D.wt] at hw
        refine ans_of (k := k + (N + 1) + 1) hB rfl ?_
        have lc := ev_lcG (E := ⟨call F gl w (k + (N + 1) + 1), gl, w⟩) (e := .call j [(.var 1)]) (tg := .name 1) (k := .seq) (its := [.var 0]) (cs := []) (vs := [1]) (R := [some (.tup l), none]) (m := m) (ds := [.tup l])
          l id (fun x => [some (.tup l), some x]) (fun _ => true) boolD (by simp) (by show some (D.fzs l) = _; rw [hzl]; simp) (by omega) (fun _ _ => rfl) (fun _ _ => rfl) rfl (fun _ _ => rfl) (fun _ _ => rfl) (fun x hx _ => by
            obtain ⟨n, hn⟩ := List.mem_iff_getElem?.mp hx
            have fx := fzs_at hzl hn
            have wx : x.wt ≤ D.wts l := by
              have : ∀ l : List D, x ∈ l → x.wt ≤ D.wts l := by
                intro l
                induction l with
                | nil => intro h; cases h
                | cons y ys ih =>
                  intro h
                  rcases List.mem_cons.mp h with rfl | h
                  · simp only [D.wts]; omega
                  · have := ih h; simp only [D.wts]; omega
              exact this l hx
            have hb := (booled_ok hI hB N x m (okds_all.mp hl x hx) (by omega) fx k).back
            have k1 : k + (N + 1) + 1 = k + N + 2 := by omega
            rw [k1]
            simp [fx, hb])
        rw [List.filter_eq_self.mpr (fun _ _ => rfl), ← boolDs_map] at lc
        have bt : ∀ l, bapp .tuple [.lst true l] = some (.tup l) := fun _ => rfl
        simp [fnBooled, tyOk, isT, lc, -x_lc, bt, boolD]
    | int n =>
      refine ans_of (k := k + N + 1) hB rfl ?_
      by_cases h : 0 ≤ n ∧ n < 2
      · have : n = 0 ∨ n = 1 := by omega
        rcases this with rfl | rfl <;> simp [fnBooled, tyOk, isT, fi, intB, boolD]
      · by_cases h1 : 0 ≤ n
        · have h2 : ¬ n < 2 := fun q => h ⟨h1, q⟩
          simp [fnBooled, tyOk, isT, fi, intB, h1, h2, boolD]
        · simp [fnBooled, tyOk, isT, fi, intB, h1, boolD]
    | non => exact ans_of (k := k + N + 1) hB rfl (by simp [fnBooled, tyOk, isT, fi, intB, boolD])
    | bl b => exact ans_of (k := k + N + 1) hB rfl (by simp [fnBooled, tyOk, isT, fi, intB, boolD])
    | str b => exact ans_of (k := k + N + 1) hB rfl (by simp [fnBooled, tyOk, isT, fi, intB, boolD])
    | lst o l =>
      simp only [fz_lst, D.lst.injEq] at hz
      obtain ⟨rfl, hzl⟩ := hz
      exact ans_of (k := k + N + 1) hB rfl (by simp [fnBooled, tyOk, isT, hzl, fi, intB, boolD])
    | _ => simp [dataB] at hdat
theorem pick_ok {iS iD : Nat} (hS : F iS = some fnSpread) (hD : F iD = some (fnDraw iS)) (hP : F i = some (fnPick iD)) (o : Bool) (l : List D) (m : List Cell) (hl : D.fzs l = l) (h0 : l ≠ []) (hz : l.length ≤ 1000000) (hp : PoolOk m) :
    ∃ (d : D) (m' : List Cell), d ∈ l ∧ PoolOk m' ∧ (∀ k, Ans (call F gl w (k + 3) i [.ref 0, .lst o l] m) d m') := by
  have h1 : 0 < l.length := List.length_pos_iff.mpr h0
  obtain ⟨a, m1, a0, a1, p1, ha⟩ := draw_ok (gl := gl) (w := w) (many := (l.length : Int)) hS hD hp (by omega) (by omega)
  obtain ⟨n, rfl⟩ : ∃ n : Nat, a = n := ⟨a.toNat, by omega⟩
  have hn : n < l.length := by omega
  refine ⟨l[n], m1, List.getElem_mem hn, p1, fun k => ans_of (k := k + 2) hP rfl ?_⟩
  have fa : ∀ s, cback (call F gl w (k + 2) iD [.ref 0, .int (l.length : Int)] m) s = .ok (.int n) { s with m := m1 } := fun s => (ha k).back s
  simp [fnPick, fa, atD_nat l n hn]
end
end PV

/-! PvN1: tiles and edges told. -/
namespace PV
open PySem
def fnIsTile (jw : Nat) : Fn := ⟨1, 2, [.ite (.or (.nt (.isi (.var 0) .tuple)) (.or (.cmp .ne (.bi .len [(.var 0)]) (.lit (.int 3))) (.nt (.bi .all [(.lc (.call jw [(.var 1)]) (.name 1) .seq [(.var 0)] [] [1])]))))
    [.ret (.lit (.bl false))]
    [],
    .ret (.chain .le .le (.lit (.int 0)) (.ix (.var 0) (.lit (.int 2))) (.lit (.int 3)))]⟩
def fnIsOn : Fn := ⟨2, 2, [.ret (.and (.chain .le .lt (.lit (.int 0)) (.ix (.var 1) (.lit (.int 0))) (.ix (.var 0) (.lit (.int 0)))) (.chain .le .lt (.lit (.int 0)) (.ix (.var 1) (.lit (.int 1))) (.ix (.var 0) (.lit (.int 1)))))]⟩
def fnIsPlane (jt jn : Nat) : Fn := ⟨1, 1, [.ite (.or (.nt (.isi (.var 0) .tuple)) (.or (.cmp .ne (.bi .len [(.var 0)]) (.lit (.int 2))) (.or (.nt (.call jt [(.ix (.var 0) (.lit (.int 0)))])) (.nt (.call jt [(.ix (.var 0) (.lit (.int 1)))])))))
    [.ret (.lit (.bl false))]
    [],
    .ret (.and (.cmp .lt (.ix (.var 0) (.lit (.int 0))) (.ix (.var 0) (.lit (.int 1)))) (.cmp .isin (.ix (.var 0) (.lit (.int 1))) (.call jn [(.ix (.var 0) (.lit (.int 0)))])))]⟩
def fnIsEdge (jp jo : Nat) : Fn := ⟨2, 2, [.ret (.and (.call jp [(.var 1)]) (.and (.call jo [(.var 0), (.ix (.var 1) (.lit (.int 0)))]) (.call jo [(.var 0), (.ix (.var 1) (.lit (.int 1)))])))]⟩
def fnBeyond : Fn := ⟨1, 5, [.unp (.tup [(.name 1), (.name 2), (.name 3)]) (.var 0),
    .set 4 (.ix (.tup [(.tup [(.neg (.lit (.int 1))), (.lit (.int 0))]), (.tup [(.lit (.int 0)), (.lit (.int 1))]), (.tup [(.lit (.int 1)), (.lit (.int 0))]), (.tup [(.lit (.int 0)), (.neg (.lit (.int 1)))])]) (.var 3)),
    .ret (.tup [(.bin .add (.var 1) (.ix (.var 4) (.lit (.int 0)))), (.bin .add (.var 2) (.ix (.var 4) (.lit (.int 1)))), (.bin .mod (.bin .add (.var 3) (.lit (.int 2))) (.lit (.int 4)))])]⟩
def fnNeigh (jb : Nat) : Fn := ⟨1, 4, [.unp (.tup [(.name 1), (.name 2), (.name 3)]) (.var 0),
    .ret (.bi .sorted [(.lst [(.tup [(.var 1), (.var 2), (.bin .mod (.bin .add (.var 3) (.lit (.int 1))) (.lit (.int 4)))]), (.tup [(.var 1), (.var 2), (.bin .mod (.bin .add (.var 3) (.lit (.int 3))) (.lit (.int 4)))]), (.call jb [(.var 0)])])])]⟩
def tileB : D → Bool
  | .tup [.int _, .int _, .int k] => decide (0 ≤ k) && decide (k ≤ 3)
  | _ => false
/-- the three neighbours, in order -/
def nb (r c k : Int) : List (Int × Int × Int) :=
  if k = 0 then [(r - 1, c, 2), (r, c, 1), (r, c, 3)] else if k = 1 then [(r, c, 0), (r, c, 2), (r, c + 1, 3)]
  else if k = 2 then [(r, c, 1), (r, c, 3), (r + 1, c, 0)] else [(r, c - 1, 1), (r, c, 0), (r, c, 2)]
def nbB (x y : D) : Bool := match x with
  | .tup [.int r, .int c, .int k] => (tls (nb r c k)).any fun z => D.eqv z y
  | _ => false
def planeB : D → Bool
  | .tup [x, y] => tileB x && tileB y && D.lt x y && nbB x y
  | _ => false
def onB (a b : Int) : D → Bool
  | .tup [.int r, .int c, .int _] => decide (0 ≤ r) && decide (r < a) && decide (0 ≤ c) && decide (c < b)
  | _ => false
def edgeB (a b : Int) : D → Bool
  | .tup [x, y] => planeB (.tup [x, y]) && onB a b x && onB a b y
  | _ => false
theorem tileB_inv {d : D} (h : tileB d = true) : ∃ r c k, d = tl r c k ∧ 0 ≤ k ∧ k < 4 := by
  unfold tileB at h
  split at h
  · simp only [Bool.and_eq_true, decide_eq_true_eq] at h
    exact ⟨_, _, _, rfl, h.1, by omega⟩
  · cases h
theorem tls_sorted (o : Bool) (l : List (Int × Int × Int)) (h : l.length ≤ 1000) : bapp .sorted [.lst o (tls l)] = some (.lst true (sortD (tls l))) := by
  have so : sortable (tls l) = true := by
    unfold sortable
    rw [Bool.or_eq_true]
    left
    rw [List.all_eq_true]
    intro y hy
    obtain ⟨p, _, rfl⟩ := List.mem_map.mp hy
    rfl
  have hz : decide ((tls l).length ≤ sizeLine) = true := by
    rw [List.length_map]
    exact decide_eq_true (Nat.le_trans h (by decide))
  show (if _ then _ else _) = _
  rw [tls_alist, so, tls_okds 58 l, hz]
  rfl
section
variable {F : Nat → Option Fn} {gl : Nat → Option D} {w i : Nat}
theorem beyond_ok (hF : F i = some fnBeyond) {r c k : Int} (k0 : 0 ≤ k) (k1 : k < 4) (j : Nat) (m : List Cell) : Ans (call F gl w (j + 1) i [tl r c k] m) (if k = 0 then tl (r - 1) c 2 else if k = 1 then tl r (c + 1) 3 else if k = 2 then tl (r + 1) c 0 else tl r (c - 1) 1) m := by
  refine ans_of hF rfl ?_
  rcases cases4 k0 k1 with rfl | rfl | rfl | rfl <;> simp [fnBeyond, tl, b_mod _ 4 (by decide)] <;> omega
theorem neigh_ok {jb : Nat} (hB : F jb = some fnBeyond) (hF : F i = some (fnNeigh jb)) {r c k : Int} (k0 : 0 ≤ k) (k1 : k < 4) (j : Nat) (m : List Cell) : Ans (call F gl w (j + 2) i [tl r c k] m) (.lst true (tls (nb r c k))) m := by
  refine ans_of (k := j + 1) hF rfl ?_
  have fb : ∀ s, cback (call F gl w (j + 1) jb [tl r c k] m) s = .ok _ { s with m := m } := fun s => (beyond_ok (gl := gl) (w := w) hB k0 k1 j m).back s
  rcases cases4 k0 k1 with rfl | rfl | rfl | rfl
  · have so := tls_sorted true [(r, c, 1), (r, c, 3), (r - 1, c, 2)] (by simp)
    have e : sortD (tls [(r, c, 1), (r, c, 3), (r - 1, c, 2)]) = tls (nb r c 0) := by
      show insD (tl r c 1) (insD (tl r c 3) [tl (r - 1) c 2]) = [tl (r - 1) c 2, tl r c 1, tl r c 3]
      rw [ins_lt (tlT (by omega)), ins_nil, ins_lt (tlT (by omega)), ins_ge (tlF (by omega))]
    rw [e] at so
    simp only [tls, List.map_cons, List.map_nil] at so
    simp only [Int.reduceEq, ↓reduceIte] at fb
    simp only [tl] at fb so
    simp [fnNeigh, tl, fb, b_mod _ 4 (by decide), so]
  · have so := tls_sorted true [(r, c, 2), (r, c, 0), (r, c + 1, 3)] (by simp)
    have e : sortD (tls [(r, c, 2), (r, c, 0), (r, c + 1, 3)]) = tls (nb r c 1) := by
      show insD (tl r c 2) (insD (tl r c 0) [tl r (c + 1) 3]) = [tl r c 0, tl r c 2, tl r (c + 1) 3]
      rw [ins_ge (tlF (by omega)), ins_lt (tlT (by omega)), ins_ge (tlF (by omega))]
    rw [e] at so
    simp only [tls, List.map_cons, List.map_nil] at so
    simp only [Int.reduceEq, ↓reduceIte] at fb
    simp only [tl] at fb so
    simp [fnNeigh, tl, fb, b_mod _ 4 (by decide), so]
  · have so := tls_sorted true [(r, c, 3), (r, c, 1), (r + 1, c, 0)] (by simp)
    have e : sortD (tls [(r, c, 3), (r, c, 1), (r + 1, c, 0)]) = tls (nb r c 2) := by
      show insD (tl r c 3) (insD (tl r c 1) [tl (r + 1) c 0]) = [tl r c 1, tl r c 3, tl (r + 1) c 0]
      rw [ins_ge (tlF (by omega)), ins_lt (tlT (by omega)), ins_ge (tlF (by omega))]
    rw [e] at so
    simp only [tls, List.map_cons, List.map_nil] at so
    simp only [Int.reduceEq, ↓reduceIte] at fb
    simp only [tl] at fb so
    simp [fnNeigh, tl, fb, b_mod _ 4 (by decide), so]
  · have so := tls_sorted true [(r, c, 0), (r, c, 2), (r, c - 1, 1)] (by simp)
    have e : sortD (tls [(r, c, 0), (r, c, 2), (r, c - 1, 1)]) = tls (nb r c 3) := by
      show insD (tl r c 0) (insD (tl r c 2) [tl r (c - 1) 1]) = [tl r (c - 1) 1, tl r c 0, tl r c 2]
      rw [ins_lt (tlT (by omega)), ins_nil, ins_lt (tlT (by omega)), ins_ge (tlF (by omega))]
    rw [e] at so
    simp only [tls, List.map_cons, List.map_nil] at so
    simp only [Int.reduceEq, ↓reduceIte] at fb
    simp only [tl] at fb so
    simp [fnNeigh, tl, fb, b_mod _ 4 (by decide), so]
theorem istile_ok {jw : Nat} (hW : F jw = some fnIsInt) (hF : F i = some (fnIsTile jw)) (d : D) (N : Nat) (hd : D.okd N d = true) (hz : d.fz = d) (k : Nat) (m : List Cell) : Ans (call F gl w (k + 2) i [d] m) (.bl (tileB d)) m := by
  refine ans_of (k := k + 1) hF rfl ?_
  have hdat := okd_data hd
  cases d with
  | tup l =>
    have hzl := fzs_id hz
    by_cases h3 : l.length = 3
    · obtain ⟨x, y, z, rfl⟩ : ∃ x y z, l = [x, y, z] := by
        match l, h3 with
        | [x, y, z], _ => exact ⟨x, y, z, rfl⟩
      have hzz : x.fz = x ∧ y.fz = y ∧ z.fz = z := by simpa using hzl
      obtain ⟨zx, zy, zz⟩ := hzz
      cases N with
      | zero => simp [D.okd] at hd
      | succ N =>
        simp only [D.okd, D.okds, Bool.and_true, Bool.and_eq_true] at hd
        have fx : ∀ s, cback (call F gl w (k + 1) jw [x] m) s = .ok (.bl (intB x)) { s with m := m } := fun s => (isint_ok (gl := gl) (w := w) hW x (okd_data hd.1) k m).back s
        have fy : ∀ s, cback (call F gl w (k + 1) jw [y] m) s = .ok (.bl (intB y)) { s with m := m } := fun s => (isint_ok (gl := gl) (w := w) hW y (okd_data hd.2.1) k m).back s
        have fw : ∀ s, cback (call F gl w (k + 1) jw [z] m) s = .ok (.bl (intB z)) { s with m := m } := fun s => (isint_ok (gl := gl) (w := w) hW z (okd_data hd.2.2) k m).back s
        have lc := ev_lcG (E := ⟨call F gl w (k + 1), gl, w⟩) (e := .call jw [(.var 1)]) (tg := .name 1) (k := .seq) (its := [.var 0]) (cs := []) (vs := [1]) (R := [some (.tup [x, y, z]), none]) (m := m) (ds := [.tup [x, y, z]])
          [x, y, z] id (fun x' => [some (.tup [x, y, z]), some x']) (fun _ => true) (fun d => .bl (intB d)) (by simp) (by show some (D.fzs [x, y, z]) = _; rw [hzl]; simp) (by simp) (fun _ _ => rfl) (fun _ _ => rfl) rfl (fun _ _ => rfl) (fun _ _ => rfl) (fun a ha _ => by
            simp only [List.mem_cons, List.not_mem_nil, or_false] at ha
            rcases ha with rfl | rfl | rfl
            · simp [zx, fx]
            · simp [zy, fy]
            · simp [zz, fw])
        have e : ([x, y, z].filter fun _ => true).map (fun d => D.bl (intB d)) = [.bl (intB x), .bl (intB y), .bl (intB z)] := by simp
        rw [e] at lc
        have al : bapp .all [.lst true [.bl (intB x), .bl (intB y), .bl (intB z)]] = some (.bl (intB x && intB y && intB z)) := by
          simp [bapp, bAll, toBls, Bool.and_assoc]
        cases hall : (intB x && intB y && intB z) with
        | false =>
          rw [hall] at al
          have : tileB (.tup [x, y, z]) = false := by
            unfold tileB
            split
            · rename_i e; cases e; simp [intB] at hall
            · rfl
          simp [fnIsTile, tyOk, isT, lc, -x_lc, al, this]
        | true =>
          rw [hall] at al
          simp only [Bool.and_eq_true] at hall
          obtain ⟨⟨h1, h2⟩, h4⟩ := hall
          cases x <;> simp [intB] at h1
          cases y <;> simp [intB] at h2
          cases z <;> simp [intB] at h4
          rename_i a b c
          by_cases hc : 0 ≤ c
          · simp [fnIsTile, tyOk, isT, lc, -x_lc, al, tileB, hc]
          · simp [fnIsTile, tyOk, isT, lc, -x_lc, al, tileB, hc]
    · have h3' : ¬ ((l.length : Int) = 3) := by omega
      have hs : tileB (.tup l) = false := by
        unfold tileB
        split
        · rename_i x y z e; cases e; exact absurd rfl h3
        · rfl
      simp [fnIsTile, tyOk, isT, h3', hs]
  | _ => first | (simp [dataB] at hdat; done) | simp [fnIsTile, tyOk, isT, tileB]
theorem ison_ok (hF : F i = some fnIsOn) (a b r c k : Int) (j : Nat) (m : List Cell) : Ans (call F gl w (j + 1) i [szD a b, tl r c k] m) (.bl (onB a b (tl r c k))) m := by
  refine ans_of hF rfl ?_
  by_cases h0 : 0 ≤ r <;> by_cases h1 : r < a <;> by_cases h2 : 0 ≤ c <;> simp [fnIsOn, szD, tl, onB, h0, h1, h2]
theorem lt_tl (a b c d e f : Int) : cop .lt (tl a b c) (tl d e f) = some (D.lt (tl a b c) (tl d e f)) := rfl
theorem in_tls (o : Bool) (l : List (Int × Int × Int)) (a b c : Int) : cop .isin (tl a b c) (.lst o (tls l)) = some ((tls l).any fun z => D.eqv z (tl a b c)) := by
  have h : D.okds 59 (tls l) = true := tls_okds 58 l
  have h2 : D.cmpb (tl a b c) = true := rfl
  simp only [cop, inD, seqOf, h, h2, Bool.and_self, if_true]
theorem isplane_ok {jw jt jb jn : Nat} (hW : F jw = some fnIsInt) (hT : F jt = some (fnIsTile jw)) (hB : F jb = some fnBeyond) (hN : F jn = some (fnNeigh jb)) (hF : F i = some (fnIsPlane jt jn)) (d : D) (N : Nat) (hd : D.okd N d = true) (hz : d.fz = d) (k : Nat) (m : List Cell) :
    Ans (call F gl w (k + 3) i [d] m) (.bl (planeB d)) m := by
  refine ans_of (k := k + 2) hF rfl ?_
  have hdat := okd_data hd
  cases d with
  | tup l =>
    have hzl := fzs_id hz
    by_cases h2 : l.length = 2
    · obtain ⟨x, y, rfl⟩ : ∃ x y, l = [x, y] := by
        match l, h2 with
        | [x, y], _ => exact ⟨x, y, rfl⟩
      have hzz : x.fz = x ∧ y.fz = y := by simpa using hzl
      obtain ⟨zx, zy⟩ := hzz
      cases N with
      | zero => simp [D.okd] at hd
      | succ N =>
        simp only [D.okd, D.okds, Bool.and_true, Bool.and_eq_true] at hd
        have fx : ∀ s, cback (call F gl w (k + 2) jt [x] m) s = .ok (.bl (tileB x)) { s with m := m } := fun s => (istile_ok (gl := gl) (w := w) hW hT x N hd.1 zx k m).back s
        have fy : ∀ s, cback (call F gl w (k + 2) jt [y] m) s = .ok (.bl (tileB y)) { s with m := m } := fun s => (istile_ok (gl := gl) (w := w) hW hT y N hd.2 zy k m).back s
        cases hx : tileB x with
        | false => rw [hx] at fx; simp [fnIsPlane, tyOk, isT, zx, fx, planeB, hx]
        | true =>
          cases hy : tileB y with
          | false => rw [hx] at fx; rw [hy] at fy; simp [fnIsPlane, tyOk, isT, zx, zy, fx, fy, planeB, hx, hy]
          | true =>
            rw [hx] at fx; rw [hy] at fy
            obtain ⟨r, c, q, rfl, q0, q1⟩ := tileB_inv hx
            obtain ⟨r', c', q', rfl, q0', q1'⟩ := tileB_inv hy
            have fn : ∀ s, cback (call F gl w (k + 2) jn [tl r c q] m) s = .ok (.lst true (tls (nb r c q))) { s with m := m } := fun s => (neigh_ok (gl := gl) (w := w) hB hN q0 q1 k m).back s
            have hin := in_tls true (nb r c q) r' c' q'
            have hp : planeB (.tup [tl r c q, tl r' c' q']) = (D.lt (tl r c q) (tl r' c' q') && (tls (nb r c q)).any fun z => D.eqv z (tl r' c' q')) := by
              simp only [planeB, hx, hy, Bool.true_and]; rfl
            rw [hp]
            cases hl : D.lt (tl r c q) (tl r' c' q') with
            | false => simp [fnIsPlane, tyOk, isT, fx, fy, lt_tl, hl]
            | true => simp [fnIsPlane, tyOk, isT, fx, fy, lt_tl, hl, fn, hin, -List.any_map]
    · have h2' : ¬ ((l.length : Int) = 2) := by omega
      have hs : planeB (.tup l) = false := by
        unfold planeB
        split
        · rename_i x y e; cases e; exact absurd rfl h2
        · rfl
      simp [fnIsPlane, tyOk, isT, h2', hs]
  | _ => first | (simp [dataB] at hdat; done) | simp [fnIsPlane, tyOk, isT, planeB]
theorem plane_inv {d : D} (h : planeB d = true) : ∃ r c k r' c' k', d = .tup [tl r c k, tl r' c' k'] ∧ 0 ≤ k ∧ k < 4 ∧ 0 ≤ k' ∧ k' < 4 ∧ D.lt (tl r c k) (tl r' c' k') = true ∧ ((tls (nb r c k)).any fun z => D.eqv z (tl r' c' k')) = true := by
  unfold planeB at h
  split at h
  · simp only [Bool.and_eq_true] at h
    obtain ⟨⟨⟨h1, h2⟩, h3⟩, h4⟩ := h
    obtain ⟨r, c, q, rfl, q0, q1⟩ := tileB_inv h1
    obtain ⟨r', c', q', rfl, q0', q1'⟩ := tileB_inv h2
    exact ⟨r, c, q, r', c', q', rfl, q0, q1, q0', q1', h3, h4⟩
  · cases h
theorem isedge_ok {jw jt jb jn jp jo : Nat} (hW : F jw = some fnIsInt) (hT : F jt = some (fnIsTile jw)) (hB : F jb = some fnBeyond) (hN : F jn = some (fnNeigh jb)) (hP : F jp = some (fnIsPlane jt jn)) (hO : F jo = some fnIsOn) (hF : F i = some (fnIsEdge jp jo)) (a b : Int) (d : D) (N : Nat) (hd : D.okd N d = true) (hz : d.fz = d) (k : Nat) (m : List Cell) :
    Ans (call F gl w (k + 4) i [szD a b, d] m) (.bl (edgeB a b d)) m := by
  refine ans_of (k := k + 3) hF rfl ?_
  have fp : ∀ s, cback (call F gl w (k + 3) jp [d] m) s = .ok (.bl (planeB d)) { s with m := m } := fun s => (isplane_ok (gl := gl) (w := w) hW hT hB hN hP d N hd hz k m).back s
  cases hp : planeB d with
  | false =>
    have he : edgeB a b d = false := by
      unfold edgeB
      split
      · rw [hp]; rfl
      · rfl
    rw [hp] at fp
    simp [fnIsEdge, hz, fp, he]
  | true =>
    rw [hp] at fp
    obtain ⟨r, c, q, r', c', q', rfl, _⟩ := plane_inv hp
    have fo1 : ∀ s, cback (call F gl w (k + 3) jo [szD a b, tl r c q] m) s = .ok (.bl (onB a b (tl r c q))) { s with m := m } := fun s => (ison_ok (gl := gl) (w := w) hO a b r c q (k + 2) m).back s
    have fo2 : ∀ s, cback (call F gl w (k + 3) jo [szD a b, tl r' c' q'] m) s = .ok (.bl (onB a b (tl r' c' q'))) { s with m := m } := fun s => (ison_ok (gl := gl) (w := w) hO a b r' c' q' (k + 2) m).back s
    have he : edgeB a b (.tup [tl r c q, tl r' c' q']) = (onB a b (tl r c q) && onB a b (tl r' c' q')) := by
      simp only [edgeB, hp, Bool.true_and]
    have fzs : (szD a b).fz = szD a b := rfl
    rw [he]
    cases ho : onB a b (tl r c q) with
    | false => rw [ho] at fo1; simp [fnIsEdge, fzs, fp, fo1]
    | true => rw [ho] at fo1; simp [fnIsEdge, fzs, fp, fo1, fo2]
end
/-! the edges of a sheet -/
def edgesL (a b : Nat) : List D := (List.range a).flatMap fun (r : Nat) => (List.range b).flatMap fun (c : Nat) => [(0 : Int), 1, 2, 3].flatMap fun k => ((nb r c k).filter fun y => D.lt (tl r c k) (tl y.1 y.2.1 y.2.2) && onB a b (tl y.1 y.2.1 y.2.2)).map fun y => .tup [tl r c k, tl y.1 y.2.1 y.2.2]
mutual
theorem sm_flat : ∀ (x y : D), y.flat = true → sm x y = true → x = y
  | x, .tup m, h, e => by
    cases x <;> simp only [sm, Bool.false_eq_true] at e
    simp only [D.flat] at h
    rw [sms_flat _ m h e]
  | x, .non, h, e => by cases x <;> simp only [sm, Bool.false_eq_true] at e; rfl
  | x, .bl b, h, e => by cases x <;> simp only [sm, Bool.false_eq_true] at e; rw [eq_of_beq e]
  | x, .int b, h, e => by cases x <;> simp only [sm, Bool.false_eq_true] at e; rw [eq_of_beq e]
  | x, .str b, h, e => by cases x <;> simp only [sm, Bool.false_eq_true] at e; rw [eq_of_beq e]
  | x, .lst _ _, h, _ => by simp [D.flat] at h
  | x, .scr _, h, _ => by simp [D.flat] at h
  | x, .dct _ _ _, h, _ => by simp [D.flat] at h
  | x, .set _ _, h, _ => by simp [D.flat] at h
  | x, .ref _, h, _ => by simp [D.flat] at h
theorem sms_flat : ∀ (x y : List D), D.flats y = true → sms x y = true → x = y
  | [], [], _, _ => rfl
  | [], _ :: _, _, e => by simp [sms] at e
  | _ :: _, [], _, e => by simp [sms] at e
  | x :: xs, y :: ys, h, e => by
    simp only [D.flats, Bool.and_eq_true] at h
    simp only [sms, Bool.and_eq_true] at e
    rw [sm_flat x y h.1 e.1, sms_flat xs ys h.2 e.2]
end
/-- what is decided for a sheet -/
def sheetB (a b : Nat) : Bool := (edgesL a b).all (fun e => edgeB a b e && e.flat) && (List.range a).all fun (r : Nat) => (List.range b).all fun (c : Nat) => [(0 : Int), 1, 2, 3].all fun k => (nb r c k).all fun y => !(D.lt (tl r c k) (tl y.1 y.2.1 y.2.2) && onB a b (tl y.1 y.2.1 y.2.2)) || (edgesL a b).any fun e => sm (.tup [tl r c k, tl y.1 y.2.1 y.2.2]) e
theorem edges_told {a b : Nat} (h : sheetB a b = true) (v : D) : ((edgesL a b).any fun e => sm v e) = edgeB a b v := by
  unfold sheetB at h
  simp only [Bool.and_eq_true, List.all_eq_true] at h
  obtain ⟨h1, h2⟩ := h
  rw [Bool.eq_iff_iff]
  constructor
  · intro e
    obtain ⟨x, hx, e⟩ := List.any_eq_true.mp e
    have := h1 x hx
    rw [sm_flat v x this.2 e]
    exact this.1
  · intro e
    unfold edgeB at e
    split at e
    · simp only [Bool.and_eq_true] at e
      obtain ⟨⟨e1, e2⟩, e3⟩ := e
      obtain ⟨r, c, k, r', c', k', ev, k0, k1, _, _, hl, hn⟩ := plane_inv e1
      cases ev
      simp only [onB, tl, Bool.and_eq_true, decide_eq_true_eq] at e2
      have e3' := e3
      obtain ⟨⟨⟨r0, r1⟩, c0⟩, c1⟩ := e2
      obtain ⟨r, rfl⟩ : ∃ n : Nat, r = n := ⟨r.toNat, by omega⟩
      obtain ⟨c, rfl⟩ : ∃ n : Nat, c = n := ⟨c.toNat, by omega⟩
      have hk : k ∈ [(0 : Int), 1, 2, 3] := by rcases cases4 k0 k1 with rfl | rfl | rfl | rfl <;> simp
      obtain ⟨z, hz, ez⟩ := List.any_eq_true.mp hn
      obtain ⟨y, hy, rfl⟩ := List.mem_map.mp hz
      rw [tl_eqv, decide_eq_true_eq] at ez
      obtain ⟨rfl, rfl, rfl⟩ := ez
      have := h2 r (List.mem_range.mpr (by omega)) c (List.mem_range.mpr (by omega)) k hk y hy
      rw [hl, e3'] at this
      simpa using this
    · cases e
end PV

/-! PvN2: copies with lists, the tiles near a tile. -/
namespace PV
open PySem
def fnNear (jp : Nat) : Fn := ⟨1, 10, [.unp (.tup [(.name 1), (.name 2), (.name 3)]) (.var 0),
    .bset 4 (.lst []),
    .forr (.name 5) .rng [(.bin .sub (.var 1) (.lit (.int 1))), (.bin .add (.var 1) (.lit (.int 2)))]
    [.forr (.name 6) .rng [(.bin .sub (.var 2) (.lit (.int 1))), (.bin .add (.var 2) (.lit (.int 2)))]
    [.forr (.name 7) .rng [(.lit (.int 4))]
    [.set 8 (.lc (.var 9) (.name 9) .seq [(.call jp [(.tup [(.var 5), (.var 6), (.var 7)])])] [(.cmp .isin (.var 9) (.call jp [(.var 0)]))] [9]),
    .ite (.cmp .eq (.bi .len [(.var 8)]) (.lit (.int 2)))
    [.app 4 (.tup [(.var 5), (.var 6), (.var 7)])]
    []]]],
    .ret (.bib .sorted 4)]⟩
/-! copies with lists -/
def listD : Nat → D → D
  | 0, .tup l => .lst true l
  | n + 1, .tup l => .tup (l.map (listD n))
  | _, d => d
theorem listD_okd : ∀ (n N : Nat) (d : D), D.okd N d = true → D.okd N (listD n d) = true
  | 0, N, d, h => by
    cases d <;> first | exact h | (cases N <;> simp only [listD, D.okd] at h ⊢ <;> exact h)
  | n + 1, N, d, h => by
    cases d with
    | tup l =>
      cases N with
      | zero => simp [D.okd] at h
      | succ N =>
        simp only [listD, D.okd] at h ⊢
        refine okds_all.mpr fun x hx => ?_
        obtain ⟨y, hy, rfl⟩ := List.mem_map.mp hx
        exact listD_okd n N y (okds_all.mp h y hy)
    | _ => exact h
theorem listD_wt : ∀ (n : Nat) (d : D), (listD n d).wt = d.wt
  | 0, d => by cases d <;> rfl
  | n + 1, d => by
    cases d with
    | tup l =>
      simp only [listD, D.wt]
      have : ∀ l : List D, D.wts (l.map (listD n)) = D.wts l := by
        intro l
        induction l with
        | nil => rfl
        | cons x xs ih => simp only [List.map_cons, D.wts, ih, listD_wt n x]
      rw [this]
    | _ => rfl
theorem wt_mem {x : D} {l : List D} (h : x ∈ l) : x.wt ≤ D.wts l := by
  induction l with
  | nil => cases h
  | cons y ys ih =>
    rcases List.mem_cons.mp h with rfl | h
    · simp only [D.wts]; omega
    · have := ih h; simp only [D.wts]; omega
section
variable {F : Nat → Option Fn} {gl : Nat → Option D} {w i : Nat}
theorem listed_ok {j : Nat} (hF : F j = some (fnListed j)) : ∀ (n N : Nat) (d : D) (m : List Cell), D.okd N d = true → d.wt ≤ 400000 → d.fz = d → ∀ k, Ans (call F gl w (k + n + 1) j [d, .int (n : Nat)] m) (listD n d) m
  | n, N, d, m, hd, hw, hz, k => by
    have hdat := okd_data hd
    refine ans_of (k := k + n) hF rfl ?_
    cases d with
    | tup l =>
      have hzl : D.fzs l = l := fzs_id hz
      cases n with
      | zero =>
        have bl : bapp .list [.tup l] = some (.lst true l) := rfl
        simp [fnListed, tyOk, isT, bl, listD]
      | succ n =>
        cases N with
        | zero => simp [D.okd] at hd
        | succ N =>
          have hl : D.okds N l = true := by simpa only [D.okd] using hd
          have hlw := wts_len N l hl
          simp only [D.wt] at hw
          have e1 : ((n + 1 : Nat) : Int) - 1 = (n : Int) := by omega
          have h0 : ¬ (((n + 1 : Nat) : Int) = 0) := by omega
          have lc := ev_lcG (E := ⟨call F gl w (k + (n + 1)), gl, w⟩) (e := .call j [(.var 2), (.bin .sub (.var 1) (.lit (.int 1)))]) (tg := .name 2) (k := .seq) (its := [.var 0]) (cs := []) (vs := [2]) (R := [some (.tup l), some (.int ((n + 1 : Nat) : Int)), none]) (m := m) (ds := [.tup l])
            l id (fun x => [some (.tup l), some (.int ((n + 1 : Nat) : Int)), some x]) (fun _ => true) (listD n) (by simp) (by show some (D.fzs l) = _; rw [hzl]; simp) (by omega) (fun _ _ => rfl) (fun _ _ => rfl) rfl (fun _ _ => rfl) (fun _ _ => rfl) (fun x hx _ => by
              obtain ⟨q, hq⟩ := List.mem_iff_getElem?.mp hx
              have fx := fzs_at hzl hq
              have hb := (listed_ok hF n N x m (okds_all.mp hl x hx) (by have := wt_mem hx; omega) fx k).back
              have k1 : k + (n + 1) = k + n + 1 := by omega
              rw [k1]
              simp only [x_call, xs_cons, x_var, x_bin, x_lit, xs_nil, g_0, g_s, Out.of_some, Out.bind_ok, b_sub, e1, fzs_cons, fzs_nil, fz_int, fx, hb])
          rw [List.filter_eq_self.mpr (fun _ _ => rfl)] at lc
          have bt : ∀ l, bapp .tuple [.lst true l] = some (.tup l) := fun _ => rfl
          simp only [fnListed, List.map_cons, List.map_nil, List.length_cons, List.length_nil, List.replicate, List.cons_append, List.nil_append, Nat.reduceAdd, Nat.reduceSub]
          have hc : cop .eq (.int ((n + 1 : Nat) : Int)) (.int 0) = some false := by rw [c_eqI]; simp; omega
          simp only [ks_cons, k_ite, xb, x_nt, x_isi, x_var, g_0, g_s, Out.of_some, Out.bind_ok, tyOk, isT, if_true, tobl_bl, Bool.not_true, Bool.false_eq_true, if_false, ks_nil, k_ret, x_ite, x_cmp, x_lit, hc, x_bi, xs_cons, xs_nil, lc, bt, listD]
          exact ⟨_, rfl⟩
    | lst o l =>
      simp only [fz_lst, D.lst.injEq] at hz
      obtain ⟨rfl, hzl⟩ := hz
      cases n <;> simp [fnListed, tyOk, isT, listD]
    | non => cases n <;> simp [fnListed, tyOk, isT, listD]
    | bl b => cases n <;> simp [fnListed, tyOk, isT, listD]
    | int b => cases n <;> simp [fnListed, tyOk, isT, listD]
    | str b => cases n <;> simp [fnListed, tyOk, isT, listD]
    | _ => simp [dataB] at hdat
end
/-! near -/
def memP (L : List (Int × Int)) (p : Int × Int) : Bool := (pts L).any fun z => D.eqv z (pt p.1 p.2)
def shP (r' c' o r c k : Int) : List (Int × Int) := (crnP r' c' o).filter (memP (crnP r c k))
theorem memP_shift (L : List (Int × Int)) (dx dy : Int) (p : Int × Int) : memP (L.map fun q => (q.1 + dx, q.2 + dy)) (p.1 + dx, p.2 + dy) = memP L p := by
  unfold memP
  induction L with
  | nil => rfl
  | cons q L ih =>
    simp only [pts, List.map_cons, List.any_cons] at ih ⊢
    rw [ih]
    congr 1
    rw [pt_eqv, pt_eqv]
    by_cases h : q.1 = p.1 ∧ q.2 = p.2
    · rw [decide_eq_true h, decide_eq_true (by omega)]
    · rw [decide_eq_false h, decide_eq_false (by omega)]
theorem crnP_shift (r c dr dc o : Int) : crnP (r + dr) (c + dc) o = (crnP dr dc o).map fun q => (q.1 + 2 * c, q.2 + 2 * r) := by
  unfold crnP
  split
  · simp; omega
  · split
    · simp; omega
    · split
      · simp; omega
      · simp; omega
theorem sh_shift (r c dr dc o k : Int) : (shP (r + dr) (c + dc) o r c k).length = (shP dr dc o 0 0 k).length := by
  unfold shP
  have e2 : crnP r c k = (crnP 0 0 k).map fun q => (q.1 + 2 * c, q.2 + 2 * r) := by
    have := crnP_shift r c 0 0 k
    simpa using this
  rw [crnP_shift, e2, List.filter_map, List.length_map]
  congr 1
  apply List.filter_congr
  intro q _
  exact memP_shift _ _ _ q
def nbs (r' c' r c k : Int) : List (Int × Int × Int) := ([(0 : Int), 1, 2, 3].filter fun o => decide ((shP r' c' o r c k).length = 2)).map fun o => (r', c', o)
theorem nbs_shift (r c dr dc k : Int) : nbs (r + dr) (c + dc) r c k = (nbs dr dc 0 0 k).map fun t => (r + t.1, c + t.2.1, t.2.2) := by
  unfold nbs
  rw [List.map_map]
  have : ([(0 : Int), 1, 2, 3].filter fun o => decide ((shP (r + dr) (c + dc) o r c k).length = 2)) = [(0 : Int), 1, 2, 3].filter fun o => decide ((shP dr dc o 0 0 k).length = 2) := by
    apply List.filter_congr
    intro o _
    rw [sh_shift]
  rw [this]
  rfl
theorem nb_all (r c k : Int) (k0 : 0 ≤ k) (k1 : k < 4) : nbs (r + -1) (c + -1) r c k ++ nbs (r + -1) (c + 0) r c k ++ nbs (r + -1) (c + 1) r c k ++ (nbs (r + 0) (c + -1) r c k ++ nbs (r + 0) (c + 0) r c k ++ nbs (r + 0) (c + 1) r c k) ++ (nbs (r + 1) (c + -1) r c k ++ nbs (r + 1) (c + 0) r c k ++ nbs (r + 1) (c + 1) r c k) = nb r c k := by
  simp only [nbs_shift, ← List.map_append]
  have e : nb r c k = (nb 0 0 k).map fun t => (r + t.1, c + t.2.1, t.2.2) := by
    rcases cases4 k0 k1 with rfl | rfl | rfl | rfl <;> simp [nb] <;> omega
  rw [e]
  congr 1
  rcases cases4 k0 k1 with rfl | rfl | rfl | rfl <;> decide +kernel
section
variable {F : Nat → Option Fn} {gl : Nat → Option D} {w i : Nat}
abbrev bN (jp : Nat) : List K := [.set 8 (.lc (.var 9) (.name 9) .seq [(.call jp [(.tup [(.var 5), (.var 6), (.var 7)])])] [(.cmp .isin (.var 9) (.call jp [(.var 0)]))] [9]),
    .ite (.cmp .eq (.bi .len [(.var 8)]) (.lit (.int 2)))
    [.app 4 (.tup [(.var 5), (.var 6), (.var 7)])]
    []]
abbrev sN (r c k : Int) (L : List (Int × Int × Int)) (a5 a6 a7 a8 a9 : Option D) (m : List Cell) : S := ⟨[some (tl r c k), some (.int r), some (.int c), some (.int k), some (.lst true (tls L)), a5, a6, a7, a8, a9], m⟩
theorem near_step {jp : Nat} (hP : F jp = some fnPoints) (r c k r' c' o : Int) (k0 : 0 ≤ k) (k1 : k < 4) (o0 : 0 ≤ o) (o1 : o < 4) (L : List (Int × Int × Int)) (hL : L.length ≤ 900) (a8 a9 : Option D) (j : Nat) (m : List Cell) :
    ∃ b8 b9, execs ⟨call F gl w (j + 1), gl, w⟩ (bN jp) (sN r c k L (some (.int r')) (some (.int c')) (some (.int o)) a8 a9 m) = .ok .next (sN r c k (L ++ if (shP r' c' o r c k).length = 2 then [(r', c', o)] else []) (some (.int r')) (some (.int c')) (some (.int o)) b8 b9 m) := by
  have f1 : ∀ s, cback (call F gl w (j + 1) jp [tl r' c' o] m) s = .ok (.lst true (crn r' c' o)) { s with m := m } := fun s => (points_ok (gl := gl) (w := w) hP r' c' o o0 o1 j m).back s
  have f2 : ∀ s, cback (call F gl w (j + 1) jp [tl r c k] m) s = .ok (.lst true (crn r c k)) { s with m := m } := fun s => (points_ok (gl := gl) (w := w) hP r c k k0 k1 j m).back s
  rw [crn_pts _ _ _ o0 o1] at f1
  rw [crn_pts _ _ _ k0 k1] at f2
  have hl3 : (crnP r' c' o).length < 2000000 := by rcases cases4 o0 o1 with rfl | rfl | rfl | rfl <;> exact (by decide : (3 : Nat) < 2000000)
  have lc := ev_lcG (E := ⟨call F gl w (j + 1), gl, w⟩) (e := .var 9) (tg := .name 9) (k := .seq) (its := [(.call jp [(.tup [(.var 5), (.var 6), (.var 7)])])]) (cs := [(.cmp .isin (.var 9) (.call jp [(.var 0)]))]) (vs := [9])
    (R := [some (tl r c k), some (.int r), some (.int c), some (.int k), some (.lst true (tls L)), some (.int r'), some (.int c'), some (.int o), a8, a9]) (m := m) (ds := [.lst true (pts (crnP r' c' o))])
    (crnP r' c' o) (fun p => pt p.1 p.2) (fun p => [some (tl r c k), some (.int r), some (.int c), some (.int k), some (.lst true (tls L)), some (.int r'), some (.int c'), some (.int o), a8, some (pt p.1 p.2)]) (memP (crnP r c k)) (fun p => pt p.1 p.2)
    (by simp only [tl] at f1 ⊢; simp [f1]) (itm_pts true _) hl3 (fun _ _ => rfl) (fun _ _ => rfl) rfl (fun _ _ => rfl) (fun p _ => by
      have := in_pts true (crnP r c k) p.1 p.2
      have e : ((pts (crnP r c k)).any fun z => D.eqv z (pt p.1 p.2)) = memP (crnP r c k) p := rfl
      rw [e] at this
      generalize pts (crnP r c k) = PP at *
      simp [f2, this]) (fun p _ _ => by simp)
  have e : (crnP r' c' o).filter (memP (crnP r c k)) = shP r' c' o r c k := rfl
  rw [e] at lc
  have ap := fun d => appV_l (tls L) d (by simp; omega)
  have fz : D.fzs ((shP r' c' o r c k).map fun p => pt p.1 p.2) = (shP r' c' o r c k).map fun p => pt p.1 p.2 := fzs_pts _
  by_cases h2 : (shP r' c' o r c k).length = 2
  · refine ⟨some (.lst false (pts (shP r' c' o r c k))), a9, ?_⟩
    rw [if_pos h2]
    have hl : (((shP r' c' o r c k).map fun p => pt p.1 p.2).length : Int) = 2 := by rw [List.length_map, h2]; rfl
    have tt : sN r c k (L ++ [(r', c', o)]) (some (.int r')) (some (.int c')) (some (.int o)) (some (.lst false (pts (shP r' c' o r c k)))) a9 m = ⟨[some (tl r c k), some (.int r), some (.int c), some (.int k), some (.lst true (tls L ++ [.tup [.int r', .int c', .int o]])), some (.int r'), some (.int c'), some (.int o), some (.lst false (pts (shP r' c' o r c k))), a9], m⟩ := by simp [sN, tls, tl]
    rw [tt]
    simp only [pts]
    generalize (shP r' c' o r c k).map (fun p => pt p.1 p.2) = PP at *
    simp [sN, lc, -x_lc, fz, hl, ap]
  · refine ⟨some (.lst false (pts (shP r' c' o r c k))), a9, ?_⟩
    rw [if_neg h2, List.append_nil]
    have hl : ¬ ((((shP r' c' o r c k).map fun p => pt p.1 p.2).length : Int) = 2) := by rw [List.length_map]; omega
    simp only [pts]
    generalize (shP r' c' o r c k).map (fun p => pt p.1 p.2) = PP at *
    simp [sN, lc, -x_lc, fz, hl]
theorem near_in {jp : Nat} (hP : F jp = some fnPoints) (r c k r' c' : Int) (k0 : 0 ≤ k) (k1 : k < 4) (L : List (Int × Int × Int)) (hL : L.length ≤ 800) (a7 a8 a9 : Option D) (j : Nat) (m : List Cell) :
    ∃ b7 b8 b9, forB ⟨call F gl w (j + 1), gl, w⟩ (.name 7) (bN jp) [.int 0, .int 1, .int 2, .int 3] (sN r c k L (some (.int r')) (some (.int c')) a7 a8 a9 m) = .ok .next (sN r c k (L ++ nbs r' c' r c k) (some (.int r')) (some (.int c')) b7 b8 b9 m) := by
  have ln : ∀ (P : Prop) [Decidable P] (x : Int × Int × Int), (if P then [x] else []).length ≤ 1 := fun P _ x => by split <;> simp
  obtain ⟨x8, x9, e0⟩ := near_step (gl := gl) (w := w) hP r c k r' c' 0 k0 k1 (by decide) (by decide) L (by omega) a8 a9 j m
  obtain ⟨y8, y9, e1⟩ := near_step (gl := gl) (w := w) hP r c k r' c' 1 k0 k1 (by decide) (by decide) (L ++ if (shP r' c' 0 r c k).length = 2 then [(r', c', 0)] else []) (by have := ln ((shP r' c' 0 r c k).length = 2) (r', c', 0); simp only [List.length_append]; omega) x8 x9 j m
  obtain ⟨z8, z9, e2⟩ := near_step (gl := gl) (w := w) hP r c k r' c' 2 k0 k1 (by decide) (by decide) ((L ++ if (shP r' c' 0 r c k).length = 2 then [(r', c', 0)] else []) ++ if (shP r' c' 1 r c k).length = 2 then [(r', c', 1)] else []) (by have := ln ((shP r' c' 0 r c k).length = 2) (r', c', 0); have := ln ((shP r' c' 1 r c k).length = 2) (r', c', 1); simp only [List.length_append]; omega) y8 y9 j m
  obtain ⟨w8, w9, e3⟩ := near_step (gl := gl) (w := w) hP r c k r' c' 3 k0 k1 (by decide) (by decide) (((L ++ if (shP r' c' 0 r c k).length = 2 then [(r', c', 0)] else []) ++ if (shP r' c' 1 r c k).length = 2 then [(r', c', 1)] else []) ++ if (shP r' c' 2 r c k).length = 2 then [(r', c', 2)] else []) (by have := ln ((shP r' c' 0 r c k).length = 2) (r', c', 0); have := ln ((shP r' c' 1 r c k).length = 2) (r', c', 1); have := ln ((shP r' c' 2 r c k).length = 2) (r', c', 2); simp only [List.length_append]; omega) z8 z9 j m
  refine ⟨some (.int 3), w8, w9, ?_⟩
  have en : nbs r' c' r c k = (if (shP r' c' 0 r c k).length = 2 then [(r', c', (0 : Int))] else []) ++ (if (shP r' c' 1 r c k).length = 2 then [(r', c', (1 : Int))] else []) ++ (if (shP r' c' 2 r c k).length = 2 then [(r', c', (2 : Int))] else []) ++ (if (shP r' c' 3 r c k).length = 2 then [(r', c', (3 : Int))] else []) := by
    unfold nbs
    by_cases q0 : (shP r' c' 0 r c k).length = 2 <;> by_cases q1 : (shP r' c' 1 r c k).length = 2 <;> by_cases q2 : (shP r' c' 2 r c k).length = 2 <;> by_cases q3 : (shP r' c' 3 r c k).length = 2 <;> simp [q0, q1, q2, q3]
  rw [en]
  simp only [← List.append_assoc]
  rw [forB_cons, st_name, Out.of_some, Out.bind_ok]
  show Out.bind (execs _ _ (sN r c k L (some (.int r')) (some (.int c')) (some (.int 0)) a8 a9 m)) _ = _
  rw [e0, Out.bind_ok]
  show forB _ _ _ (_ :: _) _ = _
  rw [forB_cons, st_name, Out.of_some, Out.bind_ok]
  show Out.bind (execs _ _ (sN r c k _ (some (.int r')) (some (.int c')) (some (.int 1)) x8 x9 m)) _ = _
  rw [e1, Out.bind_ok]
  show forB _ _ _ (_ :: _) _ = _
  rw [forB_cons, st_name, Out.of_some, Out.bind_ok]
  show Out.bind (execs _ _ (sN r c k _ (some (.int r')) (some (.int c')) (some (.int 2)) y8 y9 m)) _ = _
  rw [e2, Out.bind_ok]
  show forB _ _ _ (_ :: _) _ = _
  rw [forB_cons, st_name, Out.of_some, Out.bind_ok]
  show Out.bind (execs _ _ (sN r c k _ (some (.int r')) (some (.int c')) (some (.int 3)) z8 z9 m)) _ = _
  rw [e3, Out.bind_ok]
  rfl
theorem rng3 (x : Int) (h : x.natAbs ≤ 1000000) : itm .rng [.int (x - 1), .int (x + 2)] = some [.int (x + -1), .int (x + 0), .int (x + 1)] := by
  have e : (x + 2 - (x - 1)).toNat = 3 := by omega
  show (if _ then _ else _) = _
  rw [if_pos (by omega), e]
  have e1 : (x - 1 + ((0 : Nat) : Int)) = x + -1 := by omega
  have e2 : (x - 1 + ((1 : Nat) : Int)) = x + 0 := by omega
  have e3 : (x - 1 + ((2 : Nat) : Int)) = x + 1 := by omega
  show some [D.int (x - 1 + ((0 : Nat) : Int)), D.int (x - 1 + ((1 : Nat) : Int)), D.int (x - 1 + ((2 : Nat) : Int))] = _
  rw [e1, e2, e3]
abbrev bM (jp : Nat) : List K := [.forr (.name 7) .rng [(.lit (.int 4))] (bN jp)]
abbrev bO (jp : Nat) : List K := [.forr (.name 6) .rng [(.bin .sub (.var 2) (.lit (.int 1))), (.bin .add (.var 2) (.lit (.int 2)))] (bM jp)]
theorem nbs_len (r' c' r c k : Int) : (nbs r' c' r c k).length ≤ 4 := by
  unfold nbs
  rw [List.length_map]
  exact List.length_filter_le _ _
theorem near_mid {jp : Nat} (hP : F jp = some fnPoints) (r c k r' : Int) (k0 : 0 ≤ k) (k1 : k < 4) (L : List (Int × Int × Int)) (hL : L.length ≤ 700) (a6 a7 a8 a9 : Option D) (j : Nat) (m : List Cell) :
    ∃ b6 b7 b8 b9, forB ⟨call F gl w (j + 1), gl, w⟩ (.name 6) (bM jp) [.int (c + -1), .int (c + 0), .int (c + 1)] (sN r c k L (some (.int r')) a6 a7 a8 a9 m) = .ok .next (sN r c k (L ++ (nbs r' (c + -1) r c k ++ nbs r' (c + 0) r c k ++ nbs r' (c + 1) r c k)) (some (.int r')) b6 b7 b8 b9 m) := by
  have l1 := nbs_len r' (c + -1) r c k
  have l2 := nbs_len r' (c + 0) r c k
  obtain ⟨x7, x8, x9, e0⟩ := near_in (gl := gl) (w := w) hP r c k r' (c + -1) k0 k1 L (by omega) a7 a8 a9 j m
  obtain ⟨y7, y8, y9, e1⟩ := near_in (gl := gl) (w := w) hP r c k r' (c + 0) k0 k1 (L ++ nbs r' (c + -1) r c k) (by simp only [List.length_append]; omega) x7 x8 x9 j m
  obtain ⟨z7, z8, z9, e2⟩ := near_in (gl := gl) (w := w) hP r c k r' (c + 1) k0 k1 ((L ++ nbs r' (c + -1) r c k) ++ nbs r' (c + 0) r c k) (by simp only [List.length_append]; omega) y7 y8 y9 j m
  refine ⟨some (.int (c + 1)), z7, z8, z9, ?_⟩
  simp only [← List.append_assoc]
  have one : ∀ (s : S), execs ⟨call F gl w (j + 1), gl, w⟩ (bM jp) s = (forB ⟨call F gl w (j + 1), gl, w⟩ (.name 7) (bN jp) [.int 0, .int 1, .int 2, .int 3] s).bind fun fl s => match fl with | .next => .ok .next s | fl => .ok fl s := fun s => by
    rw [ks_cons, k_for, xs_cons, x_lit, Out.bind_ok, xs_nil, Out.bind_ok, Out.bind_ok, itm4, Out.of_some, Out.bind_ok]
    rfl
  rw [forB_cons, st_name, Out.of_some, Out.bind_ok, one]
  show Out.bind (Out.bind (forB _ _ _ _ (sN r c k L (some (.int r')) (some (.int (c + -1))) a7 a8 a9 m)) _) _ = _
  rw [e0, Out.bind_ok, Out.bind_ok]
  show forB _ _ _ (_ :: _) _ = _
  rw [forB_cons, st_name, Out.of_some, Out.bind_ok, one]
  show Out.bind (Out.bind (forB _ _ _ _ (sN r c k _ (some (.int r')) (some (.int (c + 0))) x7 x8 x9 m)) _) _ = _
  rw [e1, Out.bind_ok, Out.bind_ok]
  show forB _ _ _ (_ :: _) _ = _
  rw [forB_cons, st_name, Out.of_some, Out.bind_ok, one]
  show Out.bind (Out.bind (forB _ _ _ _ (sN r c k _ (some (.int r')) (some (.int (c + 1))) y7 y8 y9 m)) _) _ = _
  rw [e2, Out.bind_ok, Out.bind_ok]
  rfl
theorem near_ok {jp : Nat} (hP : F jp = some fnPoints) (hF : F i = some (fnNear jp)) (r c k : Int) (k0 : 0 ≤ k) (k1 : k < 4) (hr : r.natAbs ≤ 1000000) (hc : c.natAbs ≤ 1000000) (j : Nat) (m : List Cell) : Ans (call F gl w (j + 2) i [tl r c k] m) (.lst true (tls (nb r c k))) m := by
  refine ans_of (k := j + 1) hF rfl ?_
  have three : ∀ (r' : Int) (L : List (Int × Int × Int)), (L ++ (nbs r' (c + -1) r c k ++ nbs r' (c + 0) r c k ++ nbs r' (c + 1) r c k)).length ≤ L.length + 12 := fun r' L => by
    have l1 := nbs_len r' (c + -1) r c k
    have l2 := nbs_len r' (c + 0) r c k
    have l3 := nbs_len r' (c + 1) r c k
    simp only [List.length_append]; omega
  obtain ⟨x6, x7, x8, x9, e0⟩ := near_mid (gl := gl) (w := w) hP r c k (r + -1) k0 k1 [] (by simp) none none none none j m
  obtain ⟨y6, y7, y8, y9, e1⟩ := near_mid (gl := gl) (w := w) hP r c k (r + 0) k0 k1 ([] ++ (nbs (r + -1) (c + -1) r c k ++ nbs (r + -1) (c + 0) r c k ++ nbs (r + -1) (c + 1) r c k)) (by have := three (r + -1) []; simp only [List.length_nil] at this; omega) x6 x7 x8 x9 j m
  obtain ⟨z6, z7, z8, z9, e2⟩ := near_mid (gl := gl) (w := w) hP r c k (r + 1) k0 k1 (([] ++ (nbs (r + -1) (c + -1) r c k ++ nbs (r + -1) (c + 0) r c k ++ nbs (r + -1) (c + 1) r c k)) ++ (nbs (r + 0) (c + -1) r c k ++ nbs (r + 0) (c + 0) r c k ++ nbs (r + 0) (c + 1) r c k)) (by have := three (r + -1) []; have := three (r + 0) ([] ++ (nbs (r + -1) (c + -1) r c k ++ nbs (r + -1) (c + 0) r c k ++ nbs (r + -1) (c + 1) r c k)); simp only [List.length_nil] at *; omega) y6 y7 y8 y9 j m
  have all := nb_all r c k k0 k1
  simp only [List.nil_append] at e0 e1 e2
  rw [all] at e2
  have one : ∀ (s : S) (L : List (Int × Int × Int)) (a5 a6 a7 a8 a9 : Option D), s = sN r c k L a5 a6 a7 a8 a9 m → execs ⟨call F gl w (j + 1), gl, w⟩ (bO jp) s = (forB ⟨call F gl w (j + 1), gl, w⟩ (.name 6) (bM jp) [.int (c + -1), .int (c + 0), .int (c + 1)] s).bind fun fl s => match fl with | .next => .ok .next s | fl => .ok fl s := fun s L a5 a6 a7 a8 a9 hs => by
    subst hs
    have := rng3 c hc
    rw [ks_cons, k_for]
    simp only [xs_cons, x_bin, x_var, x_lit, xs_nil, g_0, g_s, Out.of_some, Out.bind_ok, b_sub, b_add, this]
    rfl
  have srt : bapp .sorted [.lst false (tls (nb r c k))] = some (.lst true (tls (nb r c k))) := by
    rw [tls_sorted false _ (by rcases cases4 k0 k1 with rfl | rfl | rfl | rfl <;> exact (by decide : 3 ≤ 1000))]
    congr 2
    rcases cases4 k0 k1 with rfl | rfl | rfl | rfl
    · show insD (tl (r - 1) c 2) (insD (tl r c 1) [tl r c 3]) = [tl (r - 1) c 2, tl r c 1, tl r c 3]
      rw [ins_ge (tlF (by omega)), ins_ge (tlF (by omega))]
    · show insD (tl r c 0) (insD (tl r c 2) [tl r (c + 1) 3]) = [tl r c 0, tl r c 2, tl r (c + 1) 3]
      rw [ins_ge (tlF (by omega)), ins_ge (tlF (by omega))]
    · show insD (tl r c 1) (insD (tl r c 3) [tl (r + 1) c 0]) = [tl r c 1, tl r c 3, tl (r + 1) c 0]
      rw [ins_ge (tlF (by omega)), ins_ge (tlF (by omega))]
    · show insD (tl r (c - 1) 1) (insD (tl r c 0) [tl r c 2]) = [tl r (c - 1) 1, tl r c 0, tl r c 2]
      rw [ins_ge (tlF (by omega)), ins_ge (tlF (by omega))]
  have fzt : ∀ L : List (Int × Int × Int), D.fzs (tls L) = tls L := fun L => by
    rw [fzs_map, tls, List.map_map]; rfl
  have kz : kidz (.lst true (tls (nb r c k))) = true := by
    show D.iszs (tls (nb r c k)) = true
    rw [← fzt]; exact D.iszs_fzs _
  have hb : (fnNear jp).b = [.unp (.tup [(.name 1), (.name 2), (.name 3)]) (.var 0), .bset 4 (.lst []), .forr (.name 5) .rng [(.bin .sub (.var 1) (.lit (.int 1))), (.bin .add (.var 1) (.lit (.int 2)))] (bO jp), .ret (.bib .sorted 4)] := rfl
  show Ret (execs _ (fnNear jp).b ⟨[some (tl r c k), none, none, none, none, none, none, none, none, none], m⟩) _ _
  rw [hb, ks_cons, show exec ⟨call F gl w (j + 1), gl, w⟩ (.unp (.tup [(.name 1), (.name 2), (.name 3)]) (.var 0)) ⟨[some (tl r c k), none, none, none, none, none, none, none, none, none], m⟩ = .ok .next ⟨[some (tl r c k), some (.int r), some (.int c), some (.int k), none, none, none, none, none, none], m⟩ by simp [tl], Out.bind_ok]
  show Ret (execs _ (_ :: _) _) _ _
  rw [ks_cons, show exec ⟨call F gl w (j + 1), gl, w⟩ (.bset 4 (.lst [])) ⟨[some (tl r c k), some (.int r), some (.int c), some (.int k), none, none, none, none, none, none], m⟩ = .ok .next (sN r c k [] none none none none none m) by simp [sN], Out.bind_ok]
  show Ret (execs _ (_ :: _) _) _ _
  rw [ks_cons, k_for]
  have r3 := rng3 r hr
  simp only [xs_cons, x_bin, x_var, x_lit, xs_nil, g_0, g_s, Out.of_some, Out.bind_ok, b_sub, b_add, r3]
  rw [forB_cons, st_name, Out.of_some, Out.bind_ok]
  show Ret (Out.bind (Out.bind (execs _ (bO jp) (sN r c k [] (some (.int (r + -1))) none none none none m)) _) _) _ _
  rw [one _ _ _ _ _ _ _ rfl, e0, Out.bind_ok, Out.bind_ok]
  show Ret (Out.bind (forB _ _ _ (_ :: _) _) _) _ _
  rw [forB_cons, st_name, Out.of_some, Out.bind_ok]
  show Ret (Out.bind (Out.bind (execs _ (bO jp) (sN r c k _ (some (.int (r + 0))) x6 x7 x8 x9 m)) _) _) _ _
  rw [one _ _ _ _ _ _ _ rfl, e1, Out.bind_ok, Out.bind_ok]
  show Ret (Out.bind (forB _ _ _ (_ :: _) _) _) _ _
  rw [forB_cons, st_name, Out.of_some, Out.bind_ok]
  show Ret (Out.bind (Out.bind (execs _ (bO jp) (sN r c k _ (some (.int (r + 1))) y6 y7 y8 y9 m)) _) _) _ _
  rw [one _ _ _ _ _ _ _ rfl, e2, Out.bind_ok, Out.bind_ok]
  show Ret (Out.bind (forB _ _ _ [] _) _) _ _
  rw [forB_nil, Out.bind_ok]
  show Ret (execs _ (_ :: _) _) _ _
  have bb : ev ⟨call F gl w (j + 1), gl, w⟩ (.bib .sorted 4) (sN r c k (nb r c k) (some (.int (r + 1))) z6 z7 z8 z9 m) = .ok (.lst true (tls (nb r c k))) (sN r c k (nb r c k) (some (.int (r + 1))) z6 z7 z8 z9 m) := by
    rw [x_bib]
    show (Out.of (some (D.lst true (tls (nb r c k)))) _).bind _ = _
    rw [Out.of_some, Out.bind_ok, if_pos kz, fz_lst, fzt, srt, Out.of_some]
  rw [ks_cons, k_ret, bb]
  exact ⟨_, rfl⟩
end
end PV

/-! PvN3: ascending rows, sorted(set(..)), sizes. -/
namespace PV
open PySem
/-! plain data, frozen -/
mutual
theorem fz_flat : ∀ (d : D), d.flat = true → d.fz = d
  | .tup l, h => by simp only [D.flat] at h; simp only [D.fz, fzs_flat l h]
  | .non, _ => rfl | .bl _, _ => rfl | .int _, _ => rfl | .str _, _ => rfl
  | .lst _ _, h => by simp [D.flat] at h
  | .scr _, h => by simp [D.flat] at h
  | .dct _ _ _, h => by simp [D.flat] at h
  | .set _ _, h => by simp [D.flat] at h
  | .ref _, h => by simp [D.flat] at h
theorem fzs_flat : ∀ (d : List D), D.flats d = true → D.fzs d = d
  | [], _ => rfl
  | x :: xs, h => by
    simp only [D.flats, Bool.and_eq_true] at h
    simp only [D.fzs, fz_flat x h.1, fzs_flat xs h.2]
end
mutual
theorem dat_of : ∀ (N : Nat) (d : D), D.okd N d = true → d.fz = d → d.wt ≤ 1000000 → D.dat N d = true
  | N, .non, _, _, _ => by cases N <;> rfl
  | N, .bl _, _, _, _ => by cases N <;> rfl
  | N, .int _, _, _, _ => by cases N <;> rfl
  | N, .str x, h, _, _ => by cases N <;> simpa [D.okd, D.dat] using h
  | N, .tup l, h, z, w => by
    cases N with
    | zero => simp [D.okd] at h
    | succ N =>
      simp only [D.okd] at h
      simp only [D.wt] at w
      have := wts_len N l h
      simp only [D.dat, dats_of N l h (fzs_id z) (by omega), Bool.true_and, decide_eq_true_eq]; omega
  | N, .lst o l, h, z, w => by
    cases N with
    | zero => simp [D.okd] at h
    | succ N =>
      simp only [D.okd] at h
      simp only [D.wt] at w
      simp only [fz_lst, D.lst.injEq] at z
      obtain ⟨rfl, z⟩ := z
      have := wts_len N l h
      simp only [D.dat, dats_of N l h z (by omega), Bool.not_false, Bool.true_and, decide_eq_true_eq]; omega
  | N, .scr _, h, _, _ => by simp [D.okd] at h
  | N, .dct _ _ _, h, _, _ => by simp [D.okd] at h
  | N, .set _ _, h, _, _ => by simp [D.okd] at h
  | N, .ref _, h, _, _ => by simp [D.okd] at h
theorem dats_of : ∀ (N : Nat) (d : List D), D.okds N d = true → D.fzs d = d → D.wts d ≤ 1000000 → D.dats N d = true
  | N, [], _, _, _ => by cases N <;> rfl
  | N, x :: xs, h, z, w => by
    simp only [D.okds, Bool.and_eq_true] at h
    simp only [D.wts] at w
    simp only [D.fzs, List.cons.injEq] at z
    have a := dat_of N x h.1 z.1 (by omega)
    have b := dats_of N xs h.2 z.2 (by omega)
    cases N <;> simp only [D.dats, a, b, Bool.and_self]
end
theorem str_same {d : D} (h : D.okd 60 d = true) (hw : d.wt ≤ 1000000) : ∃ x : Str, bapp .repr [d] = some (.str x) ∧ cop .ne (.str x) (.str x) = some false := by
  refine ⟨_, repr_ok h hw, ?_⟩
  simp [cop, eqD]
/-! ascending -/
def leP (x y : D) : Bool := PySem.W.dataLe false D.pd x y
theorem leP_tot (x y : D) : (leP x y || leP y x) = true := by
  have tl := PySem.W.sortLe_total (PyProof.Rows.listOrd PyProof.Rows.itemOrd) false fun d : D => PySem.W.keyToks d.pd
  exact (Bool.or_eq_true _ _).mpr (tl.total x y)
theorem leP_tr (x y z : D) : leP x y = true → leP y z = true → leP x z = true := by
  have tl := PySem.W.sortLe_total (PyProof.Rows.listOrd PyProof.Rows.itemOrd) false fun d : D => PySem.W.keyToks d.pd
  exact tl.trans x y z
theorem lt_leP {x y : D} (h : D.ali x y = true) : D.lt x y = !leP y x := by
  unfold leP
  rw [PySem.W.dataLe_eq]
  show _ = !(!PySem.W.dataLt x.pd y.pd)
  rw [D.lt_pd _ _ h, Bool.not_not]
/-- each is less than the next -/
def asc : List D → Bool
  | x :: y :: r => D.lt x y && asc (y :: r)
  | _ => true
theorem asc_pw : ∀ {l : List D}, (∀ x ∈ l, ∀ y ∈ l, D.ali x y = true) → (asc l = true ↔ l.Pairwise fun x y => leP y x = false)
  | [], _ => by simp [asc]
  | [x], _ => by simp [asc]
  | x :: y :: r, h => by
    have ih := asc_pw (l := y :: r) fun a ha b hb => h a (by simp [ha]) b (by simp [hb])
    simp only [asc, Bool.and_eq_true, lt_leP (h x (by simp) y (by simp)), Bool.not_eq_true']
    rw [ih, List.pairwise_cons (a := x)]
    constructor
    · rintro ⟨h1, h2⟩
      refine ⟨fun z hz => ?_, h2⟩
      rcases List.mem_cons.mp hz with rfl | hz
      · exact h1
      · have h3 := (List.pairwise_cons.mp h2).1 z hz
        cases hc : leP z x with
        | false => rfl
        | true =>
          have t := leP_tot x y
          rw [h1, Bool.or_false] at t
          rw [leP_tr z x y hc t] at h3; cases h3
    · rintro ⟨h1, h2⟩
      exact ⟨h1 y (by simp), h2⟩
theorem eqvs_nk : ∀ (l m : List D), (∀ x ∈ l, tkey x = true) → (∀ x ∈ m, tkey x = true) → (D.eqvs l m = true ↔ l = m)
  | [], [], _, _ => by simp [D.eqvs]
  | [], _ :: _, _, _ => by simp [D.eqvs]
  | _ :: _, [], _, _ => by simp [D.eqvs]
  | x :: xs, y :: ys, h, g => by
    simp only [D.eqvs, Bool.and_eq_true, List.cons.injEq]
    rw [eqvs_nk xs ys (fun z hz => h z (by simp [hz])) (fun z hz => g z (by simp [hz])), tkey_eqv (h x (by simp)) (g y (by simp)), decide_eq_true_eq]
    exact ⟨fun ⟨a, b⟩ => ⟨tkey_inj (h x (by simp)) (g y (by simp)) a, b⟩, fun ⟨a, b⟩ => ⟨by rw [a], b⟩⟩
theorem dedup_id {l : List D} (hl : ∀ x ∈ l, tkey x = true) (nd : l.Nodup) : dedupD l = l := by
  have go : ∀ (l σ : List D), (∀ x ∈ l, tkey x = true) → (∀ x ∈ σ, tkey x = true) → (σ ++ l).Nodup → l.foldl ddStep σ = σ ++ l := by
    intro l
    induction l with
    | nil => intro σ _ _ _; simp
    | cons x l ih =>
      intro σ hl hs nd
      have nx : ¬ σ.any (fun z => D.eqv z x) = true := fun h => by
        obtain ⟨z, hz, e⟩ := List.any_eq_true.mp h
        rw [tkey_eqv (hs z hz) (hl x (by simp)), decide_eq_true_eq] at e
        have := tkey_inj (hs z hz) (hl x (by simp)) e
        rw [List.nodup_append] at nd
        exact nd.2.2 z hz x (by simp) this
      have st : ddStep σ x = σ ++ [x] := by unfold ddStep; rw [if_neg nx]
      rw [List.foldl_cons, st, ih (σ ++ [x]) (fun z hz => hl z (by simp [hz])) (fun z hz => by
        rcases List.mem_append.mp hz with hz | hz
        · exact hs z hz
        · rw [List.mem_singleton.mp hz]; exact hl x (by simp)) (by simpa using nd)]
      simp
  have := go l [] hl (by simp) (by simpa using nd)
  rw [dedup_fold]; simpa using this
/-- list(x) == sorted(set(x)): x ascends -/
theorem asc_set {l : List D} (hl : ∀ x ∈ l, tkey x = true) (al : ∀ x ∈ l, ∀ y ∈ l, D.ali x y = true) : D.eqvs l (sortD (dedupD l)) = asc l := by
  have dm : ∀ x, x ∈ dedupD l ↔ x ∈ l := fun x => dedup_mem hl
  have ald : ∀ x ∈ dedupD l, ∀ y ∈ dedupD l, D.ali x y = true := fun x hx y hy => al x ((dm x).mp hx) y ((dm y).mp hy)
  have sm : sortD (dedupD l) = (dedupD l).mergeSort leP := sortD_merge ald
  have pm : (sortD (dedupD l)).Perm (dedupD l) := by rw [sm]; exact List.mergeSort_perm _ _
  have ndd : (dedupD l).Nodup := nodup_map (dedup_nodup hl)
  have pw : (sortD (dedupD l)).Pairwise fun x y => leP x y = true := by rw [sm]; exact List.pairwise_mergeSort leP_tr leP_tot _
  rw [Bool.eq_iff_iff, eqvs_nk l _ hl (fun x hx => hl x ((dm x).mp (pm.mem_iff.mp hx))), asc_pw al]
  constructor
  · intro e
    have nd : l.Nodup := by rw [e]; exact pm.nodup_iff.mpr ndd
    have pwl : l.Pairwise fun x y => leP x y = true := by rw [e]; exact pw
    refine (pwl.and nd).imp_of_mem fun {x y} hx hy h => ?_
    obtain ⟨h1, h2⟩ := h
    cases hc : leP y x with
    | false => rfl
    | true =>
      refine absurd (tri x y 8 8 (al x hx y hy) (tkey_kb (hl x hx)) (tkey_kb (hl y hy)) ?_ ?_) h2
      · rw [lt_leP (al x hx y hy), hc]; rfl
      · rw [lt_leP (al y hy x hx), h1]; rfl
  · intro h
    have nd : l.Nodup := h.imp fun {x y} e z => by
      rw [z] at e
      have := leP_tot y y
      rw [e] at this; cases this
    rw [sm, dedup_id hl nd]
    refine (List.mergeSort_of_pairwise ?_).symm
    refine h.imp fun {x y} e => ?_
    have := leP_tot x y
    rw [e, Bool.or_false] at this
    exact this
/-! is_ascending -/
def fnAsc : Fn := ⟨1, 2, [.ret (.bi .all [(.lc (.cmp .lt (.ix (.var 0) (.var 1)) (.ix (.var 0) (.bin .add (.var 1) (.lit (.int 1))))) (.name 1) .rng [(.bin .sub (.bi .len [(.var 0)]) (.lit (.int 1)))] [] [1])])]⟩
def ltAt (l : List D) (k : Nat) : Bool := match l[k]?, l[k + 1]? with | some x, some y => D.lt x y | _, _ => true
theorem asc_range : ∀ l : List D, ((List.range (l.length - 1)).all fun k => ltAt l k) = asc l
  | [] => rfl
  | [x] => rfl
  | x :: y :: r => by
    have ih := asc_range (y :: r)
    have e : (x :: y :: r).length - 1 = ((y :: r).length - 1) + 1 := by simp
    rw [e, List.range_succ_eq_map, List.all_cons, List.all_map, asc, ← ih]
    rfl
theorem all_bls {α : Type} (L : List α) (f : α → Bool) : bapp .all [.lst true (L.map fun k => D.bl (f k))] = some (.bl (L.all f)) := by
  have : toBls (L.map fun k => D.bl (f k)) = some (L.map f) := by
    induction L with
    | nil => rfl
    | cons x xs ih => simp only [List.map_cons, toBls, ih]; rfl
  simp only [bapp, bAll, this, Option.map_some, List.all_map]
  rfl
section
variable {F : Nat → Option Fn} {gl : Nat → Option D} {w i : Nat}
theorem asc_ok (hF : F i = some fnAsc) (l : List D) (hz : D.fzs l = l) (hl : l.length ≤ 1000) (h : ∀ x ∈ l, ∀ y ∈ l, ltD x y = some (D.lt x y)) (k : Nat) (m : List Cell) : Ans (call F gl w (k + 1) i [.tup l] m) (.bl (asc l)) m := by
  refine ans_of hF rfl ?_
  have rg : itm .rng [.int ((l.length : Int) - 1)] = some ((List.range (l.length - 1)).map fun k => .int (k : Nat)) := by
    show (if _ then _ else _) = _
    rw [if_pos (by omega)]
    rw [show ((l.length : Int) - 1).toNat = l.length - 1 by omega]
  have lc := ev_lcG (E := ⟨call F gl w k, gl, w⟩) (e := (.cmp .lt (.ix (.var 0) (.var 1)) (.ix (.var 0) (.bin .add (.var 1) (.lit (.int 1)))))) (tg := .name 1) (k := .rng) (its := [(.bin .sub (.bi .len [(.var 0)]) (.lit (.int 1)))]) (cs := []) (vs := [1]) (R := [some (.tup l), none]) (m := m) (ds := [.int ((l.length : Int) - 1)])
    (List.range (l.length - 1)) (fun k => .int (k : Nat)) (fun k => [some (.tup l), some (.int (k : Nat))]) (fun _ => true) (fun k => .bl (ltAt l k)) (by simp) rg (by simp; omega) (fun _ _ => rfl) (fun _ _ => rfl) rfl (fun _ _ => rfl) (fun _ _ => rfl) (fun j hj _ => by
      have hj := List.mem_range.mp hj
      have a1 : atD l (j : Int) = some l[j] := atD_nat l j (by omega)
      have a2 : atD l ((j : Int) + 1) = some l[j + 1] := by
        have := atD_nat l (j + 1) (by omega)
        rwa [show (((j + 1 : Nat)) : Int) = (j : Int) + 1 by omega] at this
      have lt : cop .lt l[j] l[j + 1] = some (D.lt l[j] l[j + 1]) := h _ (List.getElem_mem _) _ (List.getElem_mem _)
      have e : ltAt l j = D.lt l[j] l[j + 1] := by
        simp only [ltAt, List.getElem?_eq_getElem (show j < l.length by omega), List.getElem?_eq_getElem (show j + 1 < l.length by omega)]
      rw [e]
      generalize l[j] = x at *
      generalize l[j + 1] = y at *
      simp [a1, a2, lt])
  rw [List.filter_eq_self.mpr (fun _ _ => rfl)] at lc
  have ab := all_bls (List.range (l.length - 1)) (ltAt l)
  rw [asc_range] at ab
  simp [fnAsc, lc, -x_lc, ab]
end
/-! the sizes -/
theorem size_at (v : Int) (n : Nat) (hn : n ≤ 16) (h0 : 0 ≤ v) (h1 : v < n) : ∃ p, p ∈ sizes.take n ∧ atD [(D.tup [.int 1, .int 1]), .tup [.int 1, .int 2], .tup [.int 2, .int 1], .tup [.int 1, .int 3], .tup [.int 3, .int 1], .tup [.int 2, .int 2], .tup [.int 1, .int 4], .tup [.int 4, .int 1], .tup [.int 2, .int 2], .tup [.int 1, .int 4], .tup [.int 2, .int 3], .tup [.int 3, .int 2], .tup [.int 3, .int 3], .tup [.int 1, .int 6], .tup [.int 6, .int 1], .tup [.int 2, .int 4]] v = some (.tup [.int p.1, .int p.2]) := by
  have hl : v.toNat < sizes.length := by show v.toNat < 16; omega
  have e : (v.toNat : Int) = v := by omega
  refine ⟨sizes[v.toNat], ?_, ?_⟩
  · rw [List.mem_take_iff_getElem]
    exact ⟨v.toNat, by omega, rfl⟩
  · have h := atD_nat (sizes.map fun p => szD p.1 p.2) v.toNat (by rw [List.length_map]; exact hl)
    rw [List.getElem_map, e] at h
    exact h
section
variable {F : Nat → Option Fn} {gl : Nat → Option D} {w i : Nat}
theorem size4_ok {iS iD : Nat} {m : List Cell} (hS : F iS = some fnSpread) (hD : F iD = some (fnDraw iS)) (hF : F i = some (fnSize iD)) (hp : PoolOk m) : ∃ (p : Int × Int) (m' : List Cell), p ∈ sizes.take 10 ∧ PoolOk m' ∧ ∀ k, Ans (call F gl (w + 1) (k + 3) i [.ref 0, .int 4] m) (szD p.1 p.2) m' := by
  obtain ⟨v, m', v0, v1, p', hv⟩ := draw_ok (gl := gl) (w := w + 1) (many := 10) hS hD hp (by decide) (by decide)
  obtain ⟨p, hp1, h3⟩ := size_at v 10 (by decide) v0 v1
  have all : ∀ p ∈ sizes.take 10, p.1 * p.2 ≤ 4 ∧ small64 p.1 = true := by decide
  obtain ⟨a1, a2⟩ := all p hp1
  refine ⟨p, m', hp1, p', fun k => ans_of hF rfl ?_⟩
  simp [fnSize, (hv k).back, h3, whlB_s, smallL _ _ a2, Int.not_lt.mpr a1, szD]
end
/-! comprehensions that draw: in the test; with what stays -/
theorem lcB_test {E : Env} {c : C} {i : Nat} {R : List (Option D)} (hi : i < R.length) (step : ∀ (x : D) (m : List Cell), PoolOk m → ∃ (b : Bool) (m' : List Cell), PoolOk m' ∧ ev E c ⟨R.set i (some x), m⟩ = .ok (.bl b) ⟨R.set i (some x), m'⟩) :
    ∀ (l acc : List D) (m : List Cell) (o : Option D), PoolOk m → acc.length + l.length < 2000000 → ∃ (ds : List D) (m' : List Cell) (o' : Option D), ds.Sublist l ∧ PoolOk m' ∧ lcB E (.var i) (.name i) [c] [i] l acc ⟨R.set i o, m⟩ = .ok (acc ++ ds) ⟨R.set i o', m'⟩
  | [], acc, m, o, hp, _ => ⟨[], m, o, .slnil, hp, by simp [lcB_nil]⟩
  | x :: xs, acc, m, o, hp, hz => by
    simp only [List.length_cons] at hz
    obtain ⟨b, m1, p1, e1⟩ := step x m hp
    have go : lcB E (.var i) (.name i) [c] [i] (x :: xs) acc ⟨R.set i o, m⟩ = lcB E (.var i) (.name i) [c] [i] xs (if b then acc ++ [x] else acc) ⟨R.set i (some x), m1⟩ := by
      rw [lcB_cons]
      show (Out.of (some (((R.set i o).set i none).set i (some x))) _).bind _ = _
      rw [List.set_set, List.set_set, Out.of_some, Out.bind_ok]
      show (noExc (evt E [c] ⟨R.set i (some x), m⟩)).bind _ = _
      rw [xt_cons, e1, Out.bind_ok, tobl_bl, Out.of_some, noExc_ok, Out.bind_ok]
      cases b with
      | false => rfl
      | true =>
        rw [if_pos rfl]
        show (noExc (ev E (.var i) ⟨R.set i (some x), m1⟩)).bind _ = _
        have : gt (R.set i (some x)) i = some x := by rw [gt_set, if_pos ⟨rfl, hi⟩]
        rw [x_var, this, Out.of_some, noExc_ok, Out.bind_ok, if_pos (Nat.lt_of_lt_of_le (show acc.length < 2000000 by omega) (by decide))]
        rfl
    obtain ⟨ds, m', o', h1, h2, h3⟩ := lcB_test hi step xs (if b then acc ++ [x] else acc) m1 (some x) p1 (by cases b <;> simp <;> omega)
    cases b with
    | false => exact ⟨ds, m', o', h1.cons x, h2, by rw [go]; exact h3⟩
    | true => exact ⟨x :: ds, m', o', h1.cons_cons x, h2, by rw [go]; simpa using h3⟩
theorem ev_lcT {E : Env} {c : C} {i : Nat} {k : Ik} {its : List C} {R : List (Option D)} {m m1 : List Cell} {ds l : List D} (hi : i < R.length) (hits : evs E its ⟨R, m⟩ = .ok ds ⟨R, m1⟩) (hl : itm k ds = some l) (hz : l.length < 2000000) (hp : PoolOk m1)
    (step : ∀ (x : D) (m : List Cell), PoolOk m → ∃ (b : Bool) (m' : List Cell), PoolOk m' ∧ ev E c ⟨R.set i (some x), m⟩ = .ok (.bl b) ⟨R.set i (some x), m'⟩) :
    ∃ (ds' : List D) (m' : List Cell), ds'.Sublist l ∧ PoolOk m' ∧ ev E (.lc (.var i) (.name i) k its [c] [i]) ⟨R, m⟩ = .ok (.lst true ds') ⟨R, m'⟩ := by
  obtain ⟨ds', m', o', h1, h3, h4⟩ := lcB_test hi step l [] m1 (gt R i) hp (by simpa using hz)
  rw [set_gt] at h4
  refine ⟨ds', m', h1, h3, ?_⟩
  rw [x_lc, hits, Out.bind_ok, hl, Out.of_some, Out.bind_ok, h4, Out.bind_ok, List.nil_append]
  congr 2
  show (R.set i o').set i (gt R i) = R
  rw [List.set_set, set_gt]
theorem lcB_pair {E : Env} {e : C} {i : Nat} {R : List (Option D)} (P : D → Prop) (f : D → D → D) (step : ∀ (x : D) (m : List Cell), PoolOk m → ∃ (c : D) (m' : List Cell), P c ∧ PoolOk m' ∧ ev E e ⟨R.set i (some x), m⟩ = .ok (f x c) ⟨R.set i (some x), m'⟩) :
    ∀ (l acc : List D) (m : List Cell) (o : Option D), PoolOk m → acc.length + l.length < 2000000 → ∃ (cs : List D) (m' : List Cell) (o' : Option D), (∀ c ∈ cs, P c) ∧ cs.length = l.length ∧ PoolOk m' ∧ lcB E e (.name i) [] [i] l acc ⟨R.set i o, m⟩ = .ok (acc ++ List.zipWith f l cs) ⟨R.set i o', m'⟩
  | [], acc, m, o, hp, _ => ⟨[], m, o, by simp, rfl, hp, by simp [lcB_nil]⟩
  | x :: xs, acc, m, o, hp, hz => by
    simp only [List.length_cons] at hz
    obtain ⟨d, m1, pd, p1, e1⟩ := step x m hp
    obtain ⟨ds, m', o', h1, h2, h3, h4⟩ := lcB_pair P f step xs (acc ++ [f x d]) m1 (some x) p1 (by simp; omega)
    refine ⟨d :: ds, m', o', ?_, by simp [h2], h3, ?_⟩
    · intro y hy
      rcases List.mem_cons.mp hy with rfl | hy
      · exact pd
      · exact h1 y hy
    · rw [lcB_cons]
      show (Out.of (some (((R.set i o).set i none).set i (some x))) _).bind _ = _
      rw [List.set_set, List.set_set, Out.of_some, Out.bind_ok, xt_nil, noExc_ok, Out.bind_ok, if_pos rfl]
      show (noExc (ev E e ⟨R.set i (some x), m⟩)).bind _ = _
      rw [e1, noExc_ok, Out.bind_ok, if_pos (Nat.lt_of_lt_of_le (show acc.length < 2000000 by omega) (by decide)), h4]
      simp
theorem ev_lcP {E : Env} {e : C} {i : Nat} {k : Ik} {its : List C} {R : List (Option D)} {m m1 : List Cell} {ds l : List D} (P : D → Prop) (f : D → D → D) (hits : evs E its ⟨R, m⟩ = .ok ds ⟨R, m1⟩) (hl : itm k ds = some l) (hz : l.length < 2000000) (hp : PoolOk m1)
    (step : ∀ (x : D) (m : List Cell), PoolOk m → ∃ (c : D) (m' : List Cell), P c ∧ PoolOk m' ∧ ev E e ⟨R.set i (some x), m⟩ = .ok (f x c) ⟨R.set i (some x), m'⟩) :
    ∃ (cs : List D) (m' : List Cell), (∀ c ∈ cs, P c) ∧ cs.length = l.length ∧ PoolOk m' ∧ ev E (.lc e (.name i) k its [] [i]) ⟨R, m⟩ = .ok (.lst true (List.zipWith f l cs)) ⟨R, m'⟩ := by
  obtain ⟨cs, m', o', h1, h2, h3, h4⟩ := lcB_pair P f step l [] m1 (gt R i) hp (by simpa using hz)
  rw [set_gt] at h4
  refine ⟨cs, m', h1, h2, h3, ?_⟩
  rw [x_lc, hits, Out.bind_ok, hl, Out.of_some, Out.bind_ok, h4, Out.bind_ok, List.nil_append]
  congr 2
  show (R.set i o').set i (gt R i) = R
  rw [List.set_set, set_gt]
/-! statements that gather values -/
theorem set_step {E : Env} {i : Nat} {e : C} {s s' : S} {d : D} (h : ev E e s = .ok d s') : exec E (.set i e) s = .ok .next { s' with r := s'.r.set i (some d.fz) } := by rw [k_set, h]; rfl
theorem add_step {E : Env} {i : Nat} {es : List C} {R : List (Option D)} {m m' : List Cell} {T ds : List D} (hg : gt R i = some (.lst false (D.fzs T))) (h : evs E es ⟨R, m⟩ = .ok ds ⟨R, m'⟩) (hl : T.length + ds.length ≤ 1000) :
    exec E (.set i (.bin .add (.var i) (.lst es))) ⟨R, m⟩ = .ok .next ⟨R.set i (some (.lst false (D.fzs (T ++ ds)))), m'⟩ := by
  have hT : (D.fzs T).length = T.length := by rw [fzs_map, List.length_map]
  have ad := b_addL false true (D.fzs T) ds (by omega)
  have hv : ev E (.bin .add (.var i) (.lst es)) ⟨R, m⟩ = .ok (.lst true (D.fzs T ++ ds)) ⟨R, m'⟩ := by
    rw [x_bin, x_var, hg, Out.of_some, Out.bind_ok, x_lst, h, Out.bind_ok, if_pos (Nat.le_trans (show ds.length ≤ 1000 by omega) (by decide)), Out.bind_ok, ad, Out.of_some]
  rw [set_step hv, fz_lst, fzs_append, fzs_fzs, fzs_append]
theorem alist_of : ∀ {l : List D}, (∀ x ∈ l, ∀ y ∈ l, D.ali x y = true) → alist l = true
  | [], _ => rfl
  | x :: xs, h => by
    simp only [alist, Bool.and_eq_true, List.all_eq_true]
    exact ⟨⟨h x (by simp) x (by simp), fun y hy => ⟨h x (by simp) y (by simp [hy]), h y (by simp [hy]) x (by simp)⟩⟩, alist_of fun a ha b hb => h a (by simp [ha]) b (by simp [hb])⟩
end PV

/-! PvN4: edges between neighbours: their ends, their lines. -/
namespace PV
open PySem
def fnEnds (jq : Nat) : Fn := ⟨1, 3, [.set 1 (.call jq [(.ix (.var 0) (.lit (.int 1)))]),
    .ret (.lc (.var 2) (.name 2) .seq [(.call jq [(.ix (.var 0) (.lit (.int 0)))])] [(.cmp .isin (.var 2) (.var 1))] [2])]⟩
def fnLLine (je : Nat) : Fn := ⟨1, 5, [.unp (.tup [(.tup [(.name 1), (.name 2)]), (.tup [(.name 3), (.name 4)])]) (.call je [(.var 0)]),
    .ite (.cmp .eq (.var 1) (.var 3))
    [.ret (.tup [(.lit (.str "x")), (.var 1)])]
    [],
    .ite (.cmp .eq (.var 2) (.var 4))
    [.ret (.tup [(.lit (.str "y")), (.var 2)])]
    [],
    .ret (.ite (.cmp .eq (.bin .sub (.var 1) (.var 2)) (.bin .sub (.var 3) (.var 4))) (.tup [(.lit (.str "down")), (.bin .sub (.var 1) (.var 2))]) (.tup [(.lit (.str "up")), (.bin .add (.var 1) (.var 2))]))]⟩
/-- a tile: row, column, side -/
abbrev Ti := Int × Int × Int
def tD (t : Ti) : D := tl t.1 t.2.1 t.2.2
/-- the line between neighbours -/
def ln (x y : Ti) : Nat × Int :=
  if y.1 = x.1 ∧ y.2.1 = x.2.1 then (if x.2.2 + y.2.2 = 1 ∨ x.2.2 + y.2.2 = 5 then (3, 2 * x.2.1 + 2 * x.1 + 2) else (2, 2 * x.2.1 - 2 * x.1))
  else if x.2.2 = 0 then (1, 2 * x.1) else if x.2.2 = 1 then (0, 2 * x.2.1 + 2) else if x.2.2 = 2 then (1, 2 * x.1 + 2) else (0, 2 * x.2.1)
theorem ln_01 (r c : Int) : ln (r, c, 0) (r, c, 1) = (3, 2 * c + 2 * r + 2) := by simp [ln]
theorem ln_10 (r c : Int) : ln (r, c, 1) (r, c, 0) = (3, 2 * c + 2 * r + 2) := by simp [ln]
theorem ln_23 (r c : Int) : ln (r, c, 2) (r, c, 3) = (3, 2 * c + 2 * r + 2) := by simp [ln]
theorem ln_32 (r c : Int) : ln (r, c, 3) (r, c, 2) = (3, 2 * c + 2 * r + 2) := by simp [ln]
theorem ln_03 (r c : Int) : ln (r, c, 0) (r, c, 3) = (2, 2 * c - 2 * r) := by simp [ln]
theorem ln_30 (r c : Int) : ln (r, c, 3) (r, c, 0) = (2, 2 * c - 2 * r) := by simp [ln]
theorem ln_12 (r c : Int) : ln (r, c, 1) (r, c, 2) = (2, 2 * c - 2 * r) := by simp [ln]
theorem ln_21 (r c : Int) : ln (r, c, 2) (r, c, 1) = (2, 2 * c - 2 * r) := by simp [ln]
theorem ln_b0 (r c : Int) : ln (r, c, 0) (r - 1, c, 2) = (1, 2 * r) := by unfold ln; rw [if_neg (by simp only []; omega), if_pos rfl]
theorem ln_b1 (r c : Int) : ln (r, c, 1) (r, c + 1, 3) = (0, 2 * c + 2) := by unfold ln; rw [if_neg (by simp only []; omega), if_neg (by simp), if_pos rfl]
theorem ln_b2 (r c : Int) : ln (r, c, 2) (r + 1, c, 0) = (1, 2 * r + 2) := by unfold ln; rw [if_neg (by simp only []; omega), if_neg (by simp), if_neg (by simp), if_pos rfl]
theorem ln_b3 (r c : Int) : ln (r, c, 3) (r, c - 1, 1) = (0, 2 * c) := by unfold ln; rw [if_neg (by simp only []; omega), if_neg (by simp), if_neg (by simp), if_neg (by simp)]
/-- the line through two points -/
def lineOf (p q : Int × Int) : Nat × Int := if p.1 = q.1 then (0, p.1) else if p.2 = q.2 then (1, p.2) else if p.1 - p.2 = q.1 - q.2 then (2, p.1 - p.2) else (3, p.1 + p.2)
theorem shP_shift (r c dr dc k o : Int) : shP r c k (r + dr) (c + dc) o = (shP 0 0 k dr dc o).map fun q => (q.1 + 2 * c, q.2 + 2 * r) := by
  unfold shP
  have e1 : crnP r c k = (crnP 0 0 k).map fun q => (q.1 + 2 * c, q.2 + 2 * r) := by
    have := crnP_shift r c 0 0 k
    simpa using this
  rw [e1, crnP_shift r c dr dc o, List.filter_map]
  congr 1
  apply List.filter_congr
  intro q _
  exact memP_shift _ _ _ q
theorem sh_nb {x y : Ti} (k0 : 0 ≤ x.2.2) (k1 : x.2.2 < 4) (hy : y ∈ nb x.1 x.2.1 x.2.2) : ∃ p q : Int × Int, shP x.1 x.2.1 x.2.2 y.1 y.2.1 y.2.2 = [p, q] ∧ lineOf p q = ln x y ∧ 0 ≤ y.2.2 ∧ y.2.2 < 4 := by
  obtain ⟨r, c, k⟩ := x
  simp only at k0 k1 hy ⊢
  have key : ∀ (dr dc o : Int) (a b d e : Int), y = (r + dr, c + dc, o) → shP 0 0 k dr dc o = [(a, b), (d, e)] → lineOf (a + 2 * c, b + 2 * r) (d + 2 * c, e + 2 * r) = ln (r, c, k) y → 0 ≤ o → o < 4 →
      ∃ p q : Int × Int, shP r c k y.1 y.2.1 y.2.2 = [p, q] ∧ lineOf p q = ln (r, c, k) y ∧ 0 ≤ y.2.2 ∧ y.2.2 < 4 := by
    rintro dr dc o a b d e rfl e2 e3 o0 o1
    exact ⟨(a + 2 * c, b + 2 * r), (d + 2 * c, e + 2 * r), by rw [shP_shift, e2]; rfl, e3, o0, o1⟩
  rcases cases4 k0 k1 with rfl | rfl | rfl | rfl
  · simp only [nb, if_true, List.mem_cons, List.not_mem_nil, or_false] at hy
    rcases hy with rfl | rfl | rfl
    · exact key (-1) 0 2 0 0 2 0 (by simp; omega) (by decide +kernel) (by unfold lineOf ln; simp only []; (repeat' split); all_goals first | rfl | omega | (refine Prod.ext ?_ ?_ <;> simp only [] <;> omega) | exact absurd trivial ‹¬ True› | exact absurd ⟨trivial, trivial⟩ ‹¬ (True ∧ True)›) (by decide) (by decide)
    · exact key 0 0 1 1 1 2 0 (by simp) (by decide +kernel) (by unfold lineOf ln; simp only []; (repeat' split); all_goals first | rfl | omega | (refine Prod.ext ?_ ?_ <;> simp only [] <;> omega) | exact absurd trivial ‹¬ True› | exact absurd ⟨trivial, trivial⟩ ‹¬ (True ∧ True)›) (by decide) (by decide)
    · exact key 0 0 3 0 0 1 1 (by simp) (by decide +kernel) (by unfold lineOf ln; simp only []; (repeat' split); all_goals first | rfl | omega | (refine Prod.ext ?_ ?_ <;> simp only [] <;> omega) | exact absurd trivial ‹¬ True› | exact absurd ⟨trivial, trivial⟩ ‹¬ (True ∧ True)›) (by decide) (by decide)
  · simp only [nb, Int.reduceEq, if_false, if_true, List.mem_cons, List.not_mem_nil, or_false] at hy
    rcases hy with rfl | rfl | rfl
    · exact key 0 0 0 1 1 2 0 (by simp) (by decide +kernel) (by unfold lineOf ln; simp only []; (repeat' split); all_goals first | rfl | omega | (refine Prod.ext ?_ ?_ <;> simp only [] <;> omega) | exact absurd trivial ‹¬ True› | exact absurd ⟨trivial, trivial⟩ ‹¬ (True ∧ True)›) (by decide) (by decide)
    · exact key 0 0 2 1 1 2 2 (by simp) (by decide +kernel) (by unfold lineOf ln; simp only []; (repeat' split); all_goals first | rfl | omega | (refine Prod.ext ?_ ?_ <;> simp only [] <;> omega) | exact absurd trivial ‹¬ True› | exact absurd ⟨trivial, trivial⟩ ‹¬ (True ∧ True)›) (by decide) (by decide)
    · exact key 0 1 3 2 0 2 2 (by simp) (by decide +kernel) (by unfold lineOf ln; simp only []; (repeat' split); all_goals first | rfl | omega | (refine Prod.ext ?_ ?_ <;> simp only [] <;> omega) | exact absurd trivial ‹¬ True› | exact absurd ⟨trivial, trivial⟩ ‹¬ (True ∧ True)›) (by decide) (by decide)
  · simp only [nb, Int.reduceEq, if_false, if_true, List.mem_cons, List.not_mem_nil, or_false] at hy
    rcases hy with rfl | rfl | rfl
    · exact key 0 0 1 1 1 2 2 (by simp) (by decide +kernel) (by unfold lineOf ln; simp only []; (repeat' split); all_goals first | rfl | omega | (refine Prod.ext ?_ ?_ <;> simp only [] <;> omega) | exact absurd trivial ‹¬ True› | exact absurd ⟨trivial, trivial⟩ ‹¬ (True ∧ True)›) (by decide) (by decide)
    · exact key 0 0 3 0 2 1 1 (by simp) (by decide +kernel) (by unfold lineOf ln; simp only []; (repeat' split); all_goals first | rfl | omega | (refine Prod.ext ?_ ?_ <;> simp only [] <;> omega) | exact absurd trivial ‹¬ True› | exact absurd ⟨trivial, trivial⟩ ‹¬ (True ∧ True)›) (by decide) (by decide)
    · exact key 1 0 0 0 2 2 2 (by simp) (by decide +kernel) (by unfold lineOf ln; simp only []; (repeat' split); all_goals first | rfl | omega | (refine Prod.ext ?_ ?_ <;> simp only [] <;> omega) | exact absurd trivial ‹¬ True› | exact absurd ⟨trivial, trivial⟩ ‹¬ (True ∧ True)›) (by decide) (by decide)
  · simp only [nb, Int.reduceEq, if_false, List.mem_cons, List.not_mem_nil, or_false] at hy
    rcases hy with rfl | rfl | rfl
    · exact key 0 (-1) 1 0 0 0 2 (by simp; omega) (by decide +kernel) (by unfold lineOf ln; simp only []; (repeat' split); all_goals first | rfl | omega | (refine Prod.ext ?_ ?_ <;> simp only [] <;> omega) | exact absurd trivial ‹¬ True› | exact absurd ⟨trivial, trivial⟩ ‹¬ (True ∧ True)›) (by decide) (by decide)
    · exact key 0 0 0 0 0 1 1 (by simp) (by decide +kernel) (by unfold lineOf ln; simp only []; (repeat' split); all_goals first | rfl | omega | (refine Prod.ext ?_ ?_ <;> simp only [] <;> omega) | exact absurd trivial ‹¬ True› | exact absurd ⟨trivial, trivial⟩ ‹¬ (True ∧ True)›) (by decide) (by decide)
    · exact key 0 0 2 0 2 1 1 (by simp) (by decide +kernel) (by unfold lineOf ln; simp only []; (repeat' split); all_goals first | rfl | omega | (refine Prod.ext ?_ ?_ <;> simp only [] <;> omega) | exact absurd trivial ‹¬ True› | exact absurd ⟨trivial, trivial⟩ ‹¬ (True ∧ True)›) (by decide) (by decide)
theorem ln_lt {x y : Ti} (k0 : 0 ≤ x.2.2) (k1 : x.2.2 < 4) (hy : y ∈ nb x.1 x.2.1 x.2.2) : (ln x y).1 < 4 := by
  unfold ln
  split
  · split <;> simp
  · split
    · simp
    · split
      · simp
      · split <;> simp
theorem ln_even (x y : Ti) : (ln x y).2 % 2 = 0 := by
  unfold ln
  split
  · split <;> simp only <;> omega
  · split
    · simp only; omega
    · split
      · simp only; omega
      · split <;> simp only <;> omega
theorem nb_k {x y : Ti} (k0 : 0 ≤ x.2.2) (k1 : x.2.2 < 4) (hy : y ∈ nb x.1 x.2.1 x.2.2) : 0 ≤ y.2.2 ∧ y.2.2 < 4 := by
  obtain ⟨_, _, _, _, h⟩ := sh_nb k0 k1 hy
  exact h
theorem nb_symm {x y : Ti} (k0 : 0 ≤ x.2.2) (k1 : x.2.2 < 4) (hy : y ∈ nb x.1 x.2.1 x.2.2) : x ∈ nb y.1 y.2.1 y.2.2 := by
  obtain ⟨r, c, k⟩ := x
  simp only at k0 k1 hy ⊢
  rcases cases4 k0 k1 with rfl | rfl | rfl | rfl <;>
  · simp [nb] at hy
    rcases hy with rfl | rfl | rfl <;> simp [nb]
theorem ln_symm {x y : Ti} (k0 : 0 ≤ x.2.2) (k1 : x.2.2 < 4) (hy : y ∈ nb x.1 x.2.1 x.2.2) : ln y x = ln x y := by
  obtain ⟨r, c, k⟩ := x
  simp only at k0 k1 hy ⊢
  rcases cases4 k0 k1 with rfl | rfl | rfl | rfl <;>
  · simp [nb] at hy
    rcases hy with rfl | rfl | rfl <;> (unfold ln; simp only []; (repeat' split); all_goals first | rfl | omega | (refine Prod.ext ?_ ?_ <;> simp only [] <;> omega) | exact absurd trivial ‹¬ True› | exact absurd ⟨trivial, trivial⟩ ‹¬ (True ∧ True)›)
section
variable {F : Nat → Option Fn} {gl : Nat → Option D} {w i : Nat}
theorem ends_okG {jq : Nat} (hQ : ∀ (r c k : Int), 0 ≤ k → k < 4 → ∀ (j : Nat) (m : List Cell), Ans (call F gl w (j + 1) jq [tl r c k] m) (.lst true (crn r c k)) m) (hE : F i = some (fnEnds jq)) (r c k r' c' k' : Int) (k0 : 0 ≤ k) (k1 : k < 4) (k0' : 0 ≤ k') (k1' : k' < 4) (j : Nat) (m : List Cell) :
    Ans (call F gl w (j + 2) i [.tup [tl r c k, tl r' c' k']] m) (.lst true (pts (shP r c k r' c' k'))) m := by
  refine ans_of (k := j + 1) hE rfl ?_
  have f1 : ∀ s, cback (call F gl w (j + 1) jq [tl r c k] m) s = .ok (.lst true (crn r c k)) { s with m := m } := fun s => (hQ r c k k0 k1 j m).back s
  have f2 : ∀ s, cback (call F gl w (j + 1) jq [tl r' c' k'] m) s = .ok (.lst true (crn r' c' k')) { s with m := m } := fun s => (hQ r' c' k' k0' k1' j m).back s
  rw [crn_pts _ _ _ k0 k1] at f1
  rw [crn_pts _ _ _ k0' k1'] at f2
  have hl3 : (crnP r c k).length < 2000000 := by rcases cases4 k0 k1 with rfl | rfl | rfl | rfl <;> exact (by decide : (3 : Nat) < 2000000)
  have fz2 : D.fzs (pts (crnP r' c' k')) = pts (crnP r' c' k') := fzs_pts _
  have lc := ev_lcG (E := ⟨call F gl w (j + 1), gl, w⟩) (e := .var 2) (tg := .name 2) (k := .seq) (its := [(.call jq [(.ix (.var 0) (.lit (.int 0)))])]) (cs := [(.cmp .isin (.var 2) (.var 1))]) (vs := [2])
    (R := [some (.tup [tl r c k, tl r' c' k']), some (.lst false (pts (crnP r' c' k'))), none]) (m := m) (ds := [.lst true (pts (crnP r c k))])
    (crnP r c k) (fun p => pt p.1 p.2) (fun p => [some (.tup [tl r c k, tl r' c' k']), some (.lst false (pts (crnP r' c' k'))), some (pt p.1 p.2)]) (memP (crnP r' c' k')) (fun p => pt p.1 p.2)
    (by simp [f1]) (itm_pts true _) hl3 (fun _ _ => rfl) (fun _ _ => rfl) rfl (fun _ _ => rfl) (fun p _ => by
      have := in_pts false (crnP r' c' k') p.1 p.2
      have e : ((pts (crnP r' c' k')).any fun z => D.eqv z (pt p.1 p.2)) = memP (crnP r' c' k') p := rfl
      rw [e] at this
      generalize pts (crnP r' c' k') = PP at *
      simp [this]) (fun p _ _ => by simp)
  have es : ((crnP r c k).filter (memP (crnP r' c' k'))).map (fun p => pt p.1 p.2) = pts (shP r c k r' c' k') := rfl
  rw [es] at lc
  generalize pts (shP r c k r' c' k') = OUT at *
  generalize pts (crnP r' c' k') = PP at *
  simp [fnEnds, f2, fz2, lc, -x_lc]
theorem lline_pq {je : Nat} (hL : F i = some (fnLLine je)) {e : D} {p q : Int × Int} (he : e.fz = e) (j : Nat) (m : List Cell) (h : Ans (call F gl w j je [e] m) (.lst true (pts [p, q])) m) : Ans (call F gl w (j + 1) i [e] m) (lnD (lineOf p q).1 (lineOf p q).2) m := by
  refine ans_of hL rfl ?_
  have fe : ∀ s, cback (call F gl w j je [e] m) s = .ok (.lst true [pt p.1 p.2, pt q.1 q.2]) { s with m := m } := fun s => h.back s
  obtain ⟨x1, y1⟩ := p
  obtain ⟨x2, y2⟩ := q
  simp only [pt] at fe
  unfold lineOf lnD
  by_cases c1 : x1 = x2
  · subst c1
    simp [fnLLine, he, fe, wrd]
  · by_cases c2 : y1 = y2
    · subst c2
      simp [fnLLine, he, fe, wrd, c1]
    · by_cases c3 : x1 - y1 = x2 - y2
      · simp [fnLLine, he, fe, wrd, c1, c2, c3]
      · simp [fnLLine, he, fe, wrd, c1, c2, c3]
/-- _law_line of an edge -/
theorem lline_ok {jq je : Nat} (hQ : F jq = some fnPoints) (hE : F je = some (fnEnds jq)) (hL : F i = some (fnLLine je)) {x y : Ti} (k0 : 0 ≤ x.2.2) (k1 : x.2.2 < 4) (hy : y ∈ nb x.1 x.2.1 x.2.2) (j : Nat) (m : List Cell) :
    Ans (call F gl w (j + 3) i [.tup [tD x, tD y]] m) (lnD (ln x y).1 (ln x y).2) m := by
  obtain ⟨p, q, h1, h2, h3, h4⟩ := sh_nb k0 k1 hy
  have e := ends_okG (gl := gl) (w := w) (fun r c k a b j m => points_ok (gl := gl) (w := w) hQ r c k a b j m) hE x.1 x.2.1 x.2.2 y.1 y.2.1 y.2.2 k0 k1 h3 h4 j m
  rw [h1] at e
  rw [← h2]
  exact lline_pq hL rfl (j + 2) m e
/-- the pair in order -/
def srtP (a b : Ti) : List D := if D.lt (tD b) (tD a) then [tD b, tD a] else [tD a, tD b]
theorem srt2 (a b : Ti) : bapp .sorted [.lst true [tD a, tD b]] = some (.lst true (srtP a b)) := by
  have h := tls_sorted true [a, b] (by simp)
  show bapp .sorted [.lst true (tls [a, b])] = _
  rw [h]
  show some (D.lst true (insD (tD a) [tD b])) = _
  unfold srtP insD
  split <;> rfl
theorem srtP_fz (a b : Ti) : (D.tup (srtP a b)).fz = .tup (srtP a b) := by unfold srtP; split <;> rfl
theorem lline_srt {jq je : Nat} (hQ : F jq = some fnPoints) (hE : F je = some (fnEnds jq)) (hL : F i = some (fnLLine je)) {x y : Ti} (k0 : 0 ≤ x.2.2) (k1 : x.2.2 < 4) (hy : y ∈ nb x.1 x.2.1 x.2.2) (j : Nat) (m : List Cell) :
    Ans (call F gl w (j + 3) i [.tup (srtP x y)] m) (lnD (ln x y).1 (ln x y).2) m := by
  unfold srtP
  split
  · obtain ⟨z0, z1⟩ := nb_k k0 k1 hy
    rw [← ln_symm k0 k1 hy]
    exact lline_ok hQ hE hL z0 z1 (nb_symm k0 k1 hy) j m
  · exact lline_ok hQ hE hL k0 k1 hy j m
end
/-! values of the top, nested, by what stands in the written part -/
def WrEx (K : PySem.W.Frag) (u : Value) (d : D) : Prop := ∃ t : T, T.wr K t ∧ L2.RelV t.val u ∧ t.er = d
def WrExs (K : PySem.W.Frag) : List Value → List D → Prop
  | [], [] => True
  | u :: us, d :: ds => WrEx K u d ∧ WrExs K us ds
  | _, _ => False
theorem wrx_int {K : PySem.W.Frag} {i : Int} {t : Tok} : WrEx K (.int i t) (.int i) := ⟨.int i, trivial, ⟨t, rfl⟩, rfl⟩
theorem wrx_str {K : PySem.W.Frag} {i : Str} {t : Tok} : WrEx K (.str i t) (.str i) := ⟨.str i, trivial, ⟨t, rfl⟩, rfl⟩
theorem wrx_bl {K : PySem.W.Frag} {b : Bool} : WrEx K (.bool b) (.bl b) := ⟨.bl b, trivial, rfl, rfl⟩
theorem wrx_non {K : PySem.W.Frag} : WrEx K .none .non := ⟨.non, trivial, rfl, rfl⟩
theorem wrxs_all {K : PySem.W.Frag} : ∀ {us : List Value} {ds : List D}, WrExs K us ds → ∃ ts : List T, T.wrs K ts ∧ L2.Vals (ts.map T.val) us ∧ T.ers ts = ds
  | [], [], _ => ⟨[], trivial, .nil, rfl⟩
  | u :: us, d :: ds, ⟨⟨t, a, b, c⟩, h⟩ => by
    obtain ⟨ts, a', b', c'⟩ := wrxs_all h
    exact ⟨t :: ts, ⟨a, a'⟩, .cons b b', by rw [T.ers, c, c']⟩
  | [], _ :: _, h => h.elim
  | _ :: _, [], h => h.elim
theorem wrx_tup {K : PySem.W.Frag} {a : Addr} {o : Obj} {its : Array Value} {n : Nat} {us : List Value} {ds : List D} (lk : K.lookup a = some o) (hc : o.cls = .type "tuple") (hd : o.data = .seq its n) (hz : its.size ≤ sizeLine) (hl : its.toList = us) (h : WrExs K us ds) : WrEx K (.ref a) (.tup ds) := by
  obtain ⟨ts, h1, h2, h3⟩ := wrxs_all h
  subst hl
  exact ⟨.tup a ts, wr_tup lk hc hd hz h2 h1, rfl, by rw [T.er, h3]⟩
theorem gl_wrx {K : PySem.W.Frag} {h : Heap} {mg : Str → Option Value} (X : K.In h) (G : h.Ns mainGlobals mg) {x : Str} {u : Value} {d : D} (e : PySem.W.nsIn K mainGlobals x = some (some u)) (r : WrEx K u d) :
    ∃ (u : Value) (t : T), mg x = some u ∧ L2.RelV t.val u ∧ (∀ H ad p w, t.ok ⟨K, p, w⟩ H ad) ∧ (∀ a, t.ex a = 0 ∧ t.sh a = 0) ∧ d = t.er := by
  obtain ⟨t, h1, h2, h3⟩ := r
  exact ⟨u, t, PySem.W.mg_of X G e, h2, fun H ad p w => okF_ok (K := ⟨K, p, w⟩) ad _ (wr_okF H _ h1), fun b => okF_z (H := fun _ => none) _ b (wr_okF _ _ h1), h3.symm⟩
/-! values of the top that are reckoned there -/
def allO (h : Heap) : PySem.W.Frag := (List.range h.objs.size).filterMap fun a => (h.get? a).map fun o => (a, o)
theorem lookup_fm (f : Nat → Option Obj) (l : List Nat) (a : Nat) : (l.filterMap fun a => (f a).map fun o => (a, o)).lookup a = if a ∈ l then f a else none := by
  induction l with
  | nil => rfl
  | cons x l ih =>
    rw [List.filterMap_cons]
    by_cases e : a = x
    · subst e
      cases hf : f a with
      | none =>
        simp only [Option.map_none, ih, hf]
        split <;> simp
      | some o => simp
    · have : (a == x) = false := by simpa using e
      cases hf : f x with
      | none => simp only [Option.map_none, ih, List.mem_cons, e, false_or]
      | some o => simp only [Option.map_some, List.lookup_cons, this, ih, List.mem_cons, e, false_or]
theorem allO_get {h : Heap} {a : Addr} {o : Obj} (e : h.get? a = some o) : (allO h).lookup a = some o := by
  unfold allO
  rw [lookup_fm, if_pos (List.mem_range.mpr (Heap.lt_size e)), e]
theorem allO_in (h : Heap) : (allO h).In h := fun a o e => by
  unfold allO at e
  rw [lookup_fm] at e
  split at e
  · exact e
  · cases e
theorem lk_app {K L : PySem.W.Frag} {a : Addr} {o : Obj} (e : K.lookup a = some o) : (K ++ L).lookup a = some o := by
  rw [List.lookup_append, e]; rfl
theorem in_all {K : PySem.W.Frag} {h : Heap} (X : K.In h) : PySem.W.Frag.In (K ++ allO h) h := fun a o e => by
  rw [List.lookup_append] at e
  cases q : K.lookup a with
  | none => rw [q] at e; exact allO_in h a o e
  | some o' => rw [q] at e; cases e; exact X a _ q
theorem lk_all {K : PySem.W.Frag} {h : Heap} (X : K.In h) {a : Addr} {o : Obj} (e : h.get? a = some o) : (K ++ allO h).lookup a = some o := by
  rw [List.lookup_append]
  cases q : K.lookup a with
  | none => exact allO_get e
  | some o' =>
    have := X a _ q
    rw [e] at this
    cases this; rfl
theorem keepIn_app {K L : PySem.W.Frag} {a : Addr} {o : Obj} {fd : FuncData} (e : K.lookup a = some o) (d : o.data = .func fd) : PySem.W.keepIn (K ++ L) (.ref a) = true := by
  obtain ⟨c, d', dt, sl⟩ := o
  simp only at d
  subst d
  have e' : (K ++ L).lookup a = some _ := lk_app e
  simp only [PySem.W.keepIn, e']
theorem codeIn_app {K L : PySem.W.Frag} {cd : Value} {q : Str} (e : PySem.W.codeIn K cd q = true) : PySem.W.codeIn (K ++ L) cd q = true := by
  cases cd with
  | ref c =>
    cases hk : K.lookup c with
    | none => simp only [PySem.W.codeIn, hk] at e; cases e
    | some o =>
      have e' : (K ++ L).lookup c = some o := lk_app hk
      simp only [PySem.W.codeIn, hk] at e
      simp only [PySem.W.codeIn, e']
      exact e
  | _ => simp [PySem.W.codeIn] at e
theorem RowAt.app {K L : PySem.W.Frag} {mg : Str → Option Value} {r : Row} {f : Addr} {fd : FuncData} (h : RowAt K mg r f fd) (hL : ∀ {hp : Heap}, PySem.W.Frag.In (K ++ L) hp → K.In hp) : RowAt (K ++ L) mg r f fd := by
  obtain ⟨⟨⟨oc, od, kV, doc, pm, an, cdv, ct, osl, e1, e2, e3⟩, kp⟩, m, b⟩ := h
  exact ⟨⟨⟨oc, od, kV, doc, pm, an, cdv, ct, osl, e1, lk_app e2, codeIn_app e3⟩, keepIn_app e2 rfl⟩, m, fun s us k hl => b s us (hL k) hl⟩
theorem in_of_app {K L : PySem.W.Frag} {hp : Heap} (h : PySem.W.Frag.In (K ++ L) hp) : K.In hp := fun a o e => h a o (lk_app e)
mutual
theorem wr_app {K L : PySem.W.Frag} : ∀ t : T, T.wr K t → T.wr (K ++ L) t
  | .tup a l, h => by
    obtain ⟨⟨o, its, n, lk, hc, hd, hz, hv⟩, r⟩ := h
    exact ⟨⟨o, its, n, lk_app lk, hc, hd, hz, hv⟩, wrs_app l r⟩
  | .non, _ => trivial | .bl _, _ => trivial | .int _, _ => trivial | .str _, _ => trivial
  | .lst _ _ _, h => h.elim | .scr _ _, h => h.elim | .dct _ _ _ _, h => h.elim | .set _ _ _, h => h.elim | .ref _ _, h => h.elim
theorem wrs_app {K L : PySem.W.Frag} : ∀ l : List T, T.wrs K l → T.wrs (K ++ L) l
  | [], _ => trivial
  | x :: xs, h => ⟨wr_app x h.1, wrs_app xs h.2⟩
end
theorem WrEx.app {K L : PySem.W.Frag} {u : Value} {d : D} (h : WrEx K u d) : WrEx (K ++ L) u d := by
  obtain ⟨t, a, b, c⟩ := h
  exact ⟨t, wr_app t a, b, c⟩
/-- a value of the top, as the larger written part has it -/
theorem gl_wrxA {K L : PySem.W.Frag} {h : Heap} {mg : Str → Option Value} (X : K.In h) (G : h.Ns mainGlobals mg) {x : Str} {u : Value} {d : D} (e : PySem.W.nsIn K mainGlobals x = some (some u)) (r : WrEx K u d) :
    ∃ (u : Value) (t : T), mg x = some u ∧ L2.RelV t.val u ∧ (∀ H ad p w, t.ok ⟨K ++ L, p, w⟩ H ad) ∧ (∀ a, t.ex a = 0 ∧ t.sh a = 0) ∧ d = t.er := by
  obtain ⟨t, h1, h2, h3⟩ := r.app (L := L)
  exact ⟨u, t, PySem.W.mg_of X G e, h2, fun H ad p w => okF_ok (K := ⟨K ++ L, p, w⟩) ad _ (wr_okF H _ h1), fun b => okF_z (H := fun _ => none) _ b (wr_okF _ _ h1), h3.symm⟩
theorem rd_ints {K : PySem.W.Frag} {h : Heap} : ∀ {l : List Int} {vs : List Value} {as : List Addr}, PySem.W.ReadsAllW [] (fun _ => none) h vs (l.map PySem.W.WData.int) as → WrExs K vs (l.map D.int)
  | [], _, _, r => by cases r; trivial
  | i :: l, _, _, r => by
    cases r with
    | cons a b => cases a; exact ⟨wrx_int, rd_ints b⟩
theorem rd_len {h : Heap} : ∀ {l : List PySem.W.WData} {vs : List Value} {as : List Addr}, PySem.W.ReadsAllW [] (fun _ => none) h vs l as → vs.length = l.length
  | [], _, _, r => by cases r; rfl
  | i :: l, _, _, r => by
    cases r with
    | cons a b => simp [rd_len b]
theorem rd_tint {K : PySem.W.Frag} {h : Heap} (X : K.In h) {l : List Int} {v : Value} {as : List Addr} (hz : l.length ≤ 1000) (r : PySem.W.ReadsW [] (fun _ => none) h v (.tuple (l.map PySem.W.WData.int)) as) : WrEx (K ++ allO h) v (.tup (l.map D.int)) := by
  cases r with
  | tuple h1 h2 h3 h4 => exact wrx_tup (lk_all X h1) h2 h3 (by have := rd_len h4; simp at this; exact Nat.le_trans (by omega) (show 1000 ≤ sizeLine by decide)) rfl (rd_ints h4)
theorem rd_tints {K : PySem.W.Frag} {h : Heap} (X : K.In h) : ∀ {l : List (List Int)} {vs : List Value} {as : List Addr}, (∀ x ∈ l, x.length ≤ 1000) → PySem.W.ReadsAllW [] (fun _ => none) h vs (l.map fun x => .tuple (x.map PySem.W.WData.int)) as → WrExs (K ++ allO h) vs (l.map fun x => .tup (x.map D.int))
  | [], _, _, _, r => by cases r; trivial
  | i :: l, _, _, hz, r => by
    cases r with
    | cons a b => exact ⟨rd_tint X (hz i (by simp)) a, rd_tints X (fun x hx => hz x (by simp [hx])) b⟩
/-- a tuple of tuples of whole numbers that the top reckons -/
theorem gl_loose {K : PySem.W.Frag} {h : Heap} {mg : Str → Option Value} (X : K.In h) {p : Program} {lv : List (Str × PySem.W.WData)} (hx : PySem.W.XL p lv mg h) {x : Str} (l : List (List Int)) (hm : (x, PySem.W.WData.tuple (l.map fun x => .tuple (x.map PySem.W.WData.int))) ∈ lv) (hz : l.length ≤ 1000 ∧ ∀ x ∈ l, x.length ≤ 1000) :
    ∃ (u : Value) (t : T), mg x = some u ∧ L2.RelV t.val u ∧ (∀ H ad p w, t.ok ⟨K ++ allO h, p, w⟩ H ad) ∧ (∀ a, t.ex a = 0 ∧ t.sh a = 0) ∧ D.tup (l.map fun x => .tup (x.map D.int)) = t.er := by
  obtain ⟨v, e, r⟩ := hx.2.val _ hm
  have w : WrEx (K ++ allO h) v (.tup (l.map fun x => .tup (x.map D.int))) := by
    cases r with
    | tuple h1 h2 h3 h4 => exact wrx_tup (lk_all X h1) h2 h3 (by have := rd_len h4; simp at this; exact Nat.le_trans (by omega) (show 1000 ≤ sizeLine by decide)) rfl (rd_tints X hz.2 h4)
  obtain ⟨t, h1, h2, h3⟩ := w
  exact ⟨v, t, e, h2, fun H ad p w => okF_ok (K := ⟨K ++ allO h, p, w⟩) ad _ (wr_okF H _ h1), fun b => okF_z (H := fun _ => none) _ b (wr_okF _ _ h1), h3.symm⟩
open L2 PySem.Spec PyProof.Rows in
/-- THE END of a law where the top reckons values -/
theorem finishL {l : PySem.W.OpenLaw} {q : Program} {loose : List Str} {lv : List (Str × PySem.W.WData)} {pr : Program} {YP : World → Heap → Prop} {d : DefRec} {K : Params → PySem.W.Frag} (tb : List Row) (gl : List (Str × Nat)) (xs : Xs) (G : Nat → Option D) (kk wf iL : Nat) (x : Str)
    (hn : l.most = some 63) (hdf : d.params.defaults = []) (hr : Room kk callerA) (hY : ∀ (w : World) (h : Heap), YP w h → (K w.params).In h) (hB : tabB tb gl xs = true) (rL : Row) (hL : tb[iL]? = some rL) (hx : rL.x = d.name) (h1 : rL.np = 1) (h2 : rL.N.take 1 = [x])
    (F : ∀ (w : World) (mg : Str → Option Value) (h : Heap), (K w.params).In h → h.Ns mainGlobals mg → PySem.W.XL pr lv mg h → (∀ r ∈ tb, ∃ f fd, RowAt (K w.params) mg r f fd) ∧ GlAt (K w.params ++ allO h) mg gl G ∧ (∀ x ∈ bNames, mg x = none) ∧ ∃ ca, XsAt (K w.params ++ allO h) mg ca xs)
    (law : ∀ ns : List Int, ns.length ≤ 63 → ∃ s, call (tabF tb) G wf kk iL [.scr ns] [] = .ok (.bl true) s) :
    PySem.W.WalkO q loose (PySem.W.XL pr lv) YP l.row.toRowW d [] (fun f vs => PySem.call f vs) := by
  refine Att.attach_call hn hdf fun w s₀ s₁ mg mb fa o pm cd doc a vs ns Gr Y ho hd hcd hmg hobj hints hlen hg => ?_
  have KX0 := hY w _ Y
  have KX := in_all KX0
  obtain ⟨hR0, hG, h0, ca, hX⟩ := F w mg _ KX0 Gr.T.g Gr.X
  have hR : ∀ r ∈ tb, ∃ f fd, RowAt (K w.params ++ allO s₁.heap) mg r f fd := fun r hr => by
    obtain ⟨f, fd, ra⟩ := hR0 r hr
    exact ⟨f, fd, ra.app in_of_app⟩
  obtain ⟨f, fd, ra⟩ := hR rL (List.mem_of_getElem? hL)
  have ef : f = fa := by
    have := ra.m
    rw [hx, hmg] at this
    injection this with e
    injection e with e
    exact e.symm
  subst ef
  have hb : BindsTo s₁ fd ⟨[.ref a], []⟩ [(x, .ref a)] := by
    have := ra.b s₁ [.ref a] KX (by rw [h1, h2]; rfl)
    rw [h1, h2] at this
    exact this
  refine law_end (ca := ca) KX Gr.T.g Gr.T.b Gr.T.builtins Gr.T.nolimit hg hobj hints (Nat.le_trans hlen (by decide)) hr (fun base _ hns => ?_) hb (law ns hlen)
  have := table (Pr := l.prog) (w := w) (base := base) wf hB hX hR hG h0 kk iL rL f fd hL ra
  rw [h1, h2] at this
  exact this
end PV

/-! PvN5: the classes of errors, from what the head has written. -/
namespace PV
open PySem L2
section
variable {K : PySem.W.Frag} {h : Heap} {mg : Str → Option Value}
/-! the classes of errors, from what the head has written -/
/-- a class that is asked for: its name, its value -/
structure EcN (K : PySem.W.Frag) (mg : Str → Option Value) (z : Str) (cv : Value) : Prop where
  nm : ∃ v : V, RelV v cv ∧ (∀ u, RelV v u → u = cv) ∧ (mg z = some cv ∨ (mg z = none ∧ bootBuiltins z = some cv ∧ z ≠ "__name__"))
  s : PySem.W.subIn K cv (.type "BaseException") = some true
  k : (∃ D, cv = .ref D ∧ PySem.W.hasDictIn K D = true ∧ PySem.W.typeIn K (.ref D) = some (.type "type")) ∨ ∃ T, cv = .type T ∧ PySem.W.kitMeta T = true
theorem ecn_own (X : K.In h) (G : h.Ns mainGlobals mg) {z : Str} {D : Addr} (a : PySem.W.nsIn K mainGlobals z = some (some (.ref D))) (s : PySem.W.subIn K (.ref D) (.type "BaseException") = some true) (hd : PySem.W.hasDictIn K D = true) (ht : PySem.W.typeIn K (.ref D) = some (.type "type")) : EcN K mg z (.ref D) :=
  ⟨⟨.ref D, rfl, fun _ r => r, .inl (PySem.W.mg_of X G a)⟩, s, .inl ⟨D, rfl, hd, ht⟩⟩
theorem ecn_bi (X : K.In h) (G : h.Ns mainGlobals mg) {z : Str} {T : String} (a : PySem.W.nsIn K mainGlobals z = some none) (b : bootBuiltins z = some (.type T)) (n : z ≠ "__name__") (s : PySem.W.subIn K (.type T) (.type "BaseException") = some true) (hk : PySem.W.kitMeta T = true) : EcN K mg z (.type T) :=
  ⟨⟨.ty T, rfl, fun _ r => r, .inr ⟨PySem.W.mg_none_of X G a, b, n⟩⟩, s, .inr ⟨T, rfl, hk⟩⟩
theorem kitCls_of {z : Str} {cv : Value} (e : EcN K mg z cv) {c : Value} {b : Bool} (h : PySem.W.subIn K c cv = some b) : PySem.W.kitCls K c cv = some b := by
  rcases e.k with ⟨D, rfl, hd, ht⟩ | ⟨T, rfl, hk⟩
  · obtain ⟨cd, hc, _⟩ := PySem.W.any_some hd
    unfold PySem.W.kitCls
    have e2 : ((PySem.W.clsIn K D).isSome && PySem.W.typeIn K (.ref D) == some (.type "type")) = true := by rw [hc, ht] <;> rfl
    simp only
    rw [if_pos e2]; exact h
  · unfold PySem.W.kitCls
    simp only
    rw [if_pos hk]; exact h
theorem exm_of {z : Str} {cv : Value} (e : EcN K mg z cv) {c : Value} {b : Bool} (h : PySem.W.subIn K c cv = some b) : PySem.W.exmOne K c cv = some b := by
  unfold PySem.W.exmOne
  rw [if_pos (by rw [e.s] <;> rfl)]
  exact kitCls_of e h
theorem kit_of {z : Str} {cv : Value} (e : EcN K mg z cv) {c : Value} {b : Bool} (h : PySem.W.subIn K c cv = some b) (hb : c = cv → b = true) : PySem.W.kitOne K c cv = some b := by
  unfold PySem.W.kitOne
  split
  · rename_i q; rw [hb (beq_iff_eq.mp q)]
  · exact kitCls_of e h
/-- a class that may be raised -/
structure XcN (K : PySem.W.Frag) (mg : Str → Option Value) (x : Str) (fs : List Str) (C : Addr) : Prop where
  m : mg x = some (.ref C)
  ex : fs = [] → ExcK K mg x C
  is : ExcC K C
  nf : ∀ f ∈ fs, PySem.W.findIn K (.ref C) f = some none
theorem xcn_own (X : K.In h) (G : h.Ns mainGlobals mg) {x : Str} {C : Addr} (a : PySem.W.nsIn K mainGlobals x = some (some (.ref C))) (q : PySem.W.excIn K C [.type "ValueError", .type "Exception", .type "BaseException", .type "object"] "ValueError.__new__" = true) (kp : PySem.W.keepIn K (.ref C) = true) (r2 : PySem.W.typeIn K (.ref C) = some (.type "type"))
    (hg : PySem.W.findIn K (.ref C) "__getattribute__" = some (some (.builtin "BaseException.__getattribute__"))) (hk : PySem.W.findIn K (.ref C) "__getattr__" = some none) (hs : PySem.W.subIn K (.ref C) (.type "BaseException") = some true) (hd : PySem.W.hasDictIn K C = true)
    (ha : PySem.W.findIn K (.ref C) "__class__" = some (some (.builtin "object.__class__"))) (hn : PySem.W.specialIn K (.builtin "object.__class__") "__get__" = some (some (.builtin "getset_descriptor.__get__"))) (ht : PySem.W.takesIn K (.builtin "object.__class__") = some true)
    (hm : PySem.W.mroIn K C (.type "object") = some true) : XcN K mg x [] C :=
  ⟨PySem.W.mg_of X G a, fun _ => ⟨PySem.W.mg_of X G a, ⟨_, _, _, _, PySem.F.excBase_ValueError, q⟩, kp, hs, r2⟩, ⟨hg, hk, hs, hd, ha, hn, ht, hm⟩, fun f hf => by cases hf⟩
theorem xs_mk (xs : Xs) (cs : List (Str × Addr)) (hex : ∀ x c, xs.ex.lookup x = some c → ∃ C, cs[c]? = some (x, C)) (hc : ∀ (c : Nat) x C, cs[c]? = some (x, C) → ∃ fs, xs.fl[c]? = some fs ∧ XcN K mg x fs C) (hl : cs.length = xs.fl.length)
    (he : ∀ z cl, xs.ec.lookup z = some cl → ∃ cv, EcN K mg z cv ∧ ∀ (c : Nat) x C, cs[c]? = some (x, C) → PySem.W.subIn K (.ref C) cv = some (cl.contains c) ∧ (Value.ref C = cv → cl.contains c = true)) : ∃ ca, XsAt K mg ca xs := by
  refine ⟨fun c => ((cs[c]?).map Prod.snd).getD 0, fun x c h => ?_, fun z cl h => ?_, fun c h => ?_, fun c fs f h hf => ?_⟩
  · obtain ⟨C, e⟩ := hex x c h
    obtain ⟨fs, e1, e2⟩ := hc c x C e
    refine ⟨fs, e1, fun e3 => ?_⟩
    rw [e]; exact e2.ex e3
  · obtain ⟨cv, en, q⟩ := he z cl h
    obtain ⟨v, r1, r2, r3⟩ := en.nm
    refine ⟨v, cv, r1, r2, r3, fun c hcl => ?_, fun c hcl => ?_⟩
    · obtain ⟨⟨x, C⟩, e⟩ : ∃ p, cs[c]? = some p := ⟨_, List.getElem?_eq_getElem (by rw [hl]; exact hcl)⟩
      rw [e]; exact exm_of en (q c x C e).1
    · obtain ⟨⟨x, C⟩, e⟩ : ∃ p, cs[c]? = some p := ⟨_, List.getElem?_eq_getElem (by rw [hl]; exact hcl)⟩
      rw [e]; exact kit_of en (q c x C e).1 (q c x C e).2
  · obtain ⟨⟨x, C⟩, e⟩ : ∃ p, cs[c]? = some p := ⟨_, List.getElem?_eq_getElem (by rw [hl]; exact h)⟩
    obtain ⟨fs, _, e2⟩ := hc c x C e
    rw [e]; exact e2.is
  · have hlt := (List.getElem?_eq_some_iff.mp h).1
    obtain ⟨⟨x, C⟩, e⟩ : ∃ p, cs[c]? = some p := ⟨_, List.getElem?_eq_getElem (by rw [hl]; exact hlt)⟩
    obtain ⟨fs', e1, e2⟩ := hc c x C e
    rw [h] at e1; cases e1
    rw [e]; exact e2.nf f hf
/-! the same by lists -/
def XcL (K : PySem.W.Frag) (mg : Str → Option Value) : List (Str × List Str) → List Addr → Prop
  | [], [] => True
  | r :: rs, C :: Cs => XcN K mg r.1 r.2 C ∧ XcL K mg rs Cs
  | _, _ => False
def SubL (K : PySem.W.Frag) (cv : Value) (cl : List Nat) : Nat → List Addr → Prop
  | _, [] => True
  | n, C :: Cs => (PySem.W.subIn K (.ref C) cv = some (cl.contains n) ∧ (Value.ref C = cv → cl.contains n = true)) ∧ SubL K cv cl (n + 1) Cs
def EcL (K : PySem.W.Frag) (mg : Str → Option Value) (Cs : List Addr) : List (Str × List Nat) → Prop
  | [] => True
  | (z, cl) :: r => (∃ cv, EcN K mg z cv ∧ SubL K cv cl 0 Cs) ∧ EcL K mg Cs r
theorem xcL_get {K : PySem.W.Frag} {mg : Str → Option Value} : ∀ {rs : List (Str × List Str)} {Cs : List Addr}, XcL K mg rs Cs → rs.length = Cs.length ∧ ∀ (c : Nat) (r : Str × List Str) (C : Addr), rs[c]? = some r → Cs[c]? = some C → XcN K mg r.1 r.2 C
  | [], [], _ => ⟨rfl, fun c r C h => by simp at h⟩
  | r :: rs, C :: Cs, ⟨h, t⟩ => by
    obtain ⟨e, q⟩ := xcL_get t
    refine ⟨by simp [e], fun c r' C' h1 h2 => ?_⟩
    cases c with
    | zero => simp at h1 h2; subst h1 h2; exact h
    | succ c => exact q c r' C' (by simpa using h1) (by simpa using h2)
  | [], _ :: _, h => h.elim
  | _ :: _, [], h => h.elim
theorem subL_get {K : PySem.W.Frag} {cv : Value} {cl : List Nat} : ∀ {Cs : List Addr} {n : Nat}, SubL K cv cl n Cs → ∀ (c : Nat) (C : Addr), Cs[c]? = some C → PySem.W.subIn K (.ref C) cv = some (cl.contains (n + c)) ∧ (Value.ref C = cv → cl.contains (n + c) = true)
  | [], n, _, c, C, h => by simp at h
  | D :: Cs, n, ⟨a, t⟩, c, C, h => by
    cases c with
    | zero => simp at h; subst h; exact a
    | succ c =>
      have := subL_get t c C (by simpa using h)
      rw [show n + 1 + c = n + (c + 1) by omega] at this
      exact this
theorem ecL_get {K : PySem.W.Frag} {mg : Str → Option Value} {Cs : List Addr} : ∀ {es : List (Str × List Nat)}, EcL K mg Cs es → ∀ z cl, es.lookup z = some cl → ∃ cv, EcN K mg z cv ∧ SubL K cv cl 0 Cs
  | [], _, z, cl, h => by cases h
  | (z', cl') :: r, ⟨a, t⟩, z, cl, h => by
    rw [List.lookup_cons] at h
    split at h
    · rename_i hb
      cases h
      rw [beq_iff_eq.mp hb]; exact a
    · exact ecL_get t z cl h
def exB (xs : Xs) (rs : List (Str × List Str)) : Bool := xs.ex.all (fun p => decide ((rs[p.2]?).map Prod.fst = some p.1)) && decide (rs.map Prod.snd = xs.fl)
theorem xs_of (xs : Xs) {rs : List (Str × List Str)} {Cs : List Addr} (hb : exB xs rs = true) (hx : XcL K mg rs Cs) (he : EcL K mg Cs xs.ec) : ∃ ca, XsAt K mg ca xs := by
  unfold exB at hb
  simp only [Bool.and_eq_true, decide_eq_true_eq, List.all_eq_true] at hb
  obtain ⟨b1, b2⟩ := hb
  obtain ⟨hl, hg⟩ := xcL_get hx
  have zg : ∀ (c : Nat) x C, ((rs.map Prod.fst).zip Cs)[c]? = some (x, C) → ∃ r, rs[c]? = some r ∧ r.1 = x ∧ Cs[c]? = some C := fun c x C h => by
    rw [List.getElem?_zip_eq_some] at h
    obtain ⟨h1, h2⟩ := h
    rw [List.getElem?_map] at h1
    obtain ⟨r, h3, h4⟩ := Option.map_eq_some_iff.mp h1
    exact ⟨r, h3, h4, h2⟩
  refine xs_mk xs ((rs.map Prod.fst).zip Cs) (fun x c h => ?_) (fun c x C h => ?_) (by rw [← b2]; simp [hl]) fun z cl h => ?_
  · have lk : ∀ (l : List (Str × Nat)), l.lookup x = some c → (x, c) ∈ l := by
      intro l
      induction l with
      | nil => intro h; cases h
      | cons p l ih =>
        intro h
        rw [List.lookup_cons] at h
        split at h
        · rename_i hb
          cases h
          rw [beq_iff_eq.mp hb]; simp
        · exact List.mem_cons_of_mem _ (ih h)
    have := b1 (x, c) (lk _ h)
    obtain ⟨r, e1, e2⟩ := Option.map_eq_some_iff.mp this
    have hc := (List.getElem?_eq_some_iff.mp e1).1
    refine ⟨Cs[c]'(by rw [← hl]; exact hc), ?_⟩
    rw [List.getElem?_zip_eq_some]
    exact ⟨by rw [List.getElem?_map, e1]; simp at e2; simp [e2], List.getElem?_eq_getElem _⟩
  · obtain ⟨r, e1, rfl, e3⟩ := zg c x C h
    exact ⟨r.2, by rw [← b2, List.getElem?_map, e1]; rfl, hg c r C e1 e3⟩
  · obtain ⟨cv, q1, q2⟩ := ecL_get he z cl h
    refine ⟨cv, q1, fun c x C h => ?_⟩
    obtain ⟨r, e1, rfl, e3⟩ := zg c x C h
    have := subL_get q2 c C e3
    rw [Nat.zero_add] at this
    exact this
end
end PV

/-! PvG1: loops over ranges, rows of whole numbers, points along a line. -/
namespace PV
open PySem
/-! loops over a range -/
abbrev rgD (n : Nat) : List D := (List.range n).map fun k => .int (k : Nat)
theorem forB_rngFrom {E : Env} {tg : Tg} {b : List K} (I : Nat → S → Prop) (n : Nat) (h : ∀ j < n, ∀ s, I j s → ∃ r s', setTg tg (.int (j : Nat)) s.r = some r ∧ execs E b { s with r := r } = .ok .next s' ∧ I (j + 1) s') :
    ∀ (c j : Nat) (s : S), j + c = n → I j s → ∃ s', forB E tg b ((List.range' j c).map fun k => .int (k : Nat)) s = .ok .next s' ∧ I n s'
  | 0, j, s, e, hi => ⟨s, rfl, by rw [← e]; exact hi⟩
  | c + 1, j, s, e, hi => by
    obtain ⟨r, s1, e0, e1, h1⟩ := h j (by omega) s hi
    obtain ⟨s2, e2, h2⟩ := forB_rngFrom I n h c (j + 1) s1 (by omega) h1
    exact ⟨s2, by rw [List.range'_succ, List.map_cons, forB_cons, e0, Out.of_some, Out.bind_ok, e1, Out.bind_ok]; exact e2, h2⟩
theorem forB_rngI {E : Env} {tg : Tg} {b : List K} (I : Nat → S → Prop) (n : Nat) (h : ∀ j < n, ∀ s, I j s → ∃ r s', setTg tg (.int (j : Nat)) s.r = some r ∧ execs E b { s with r := r } = .ok .next s' ∧ I (j + 1) s') (s : S) (hi : I 0 s) :
    ∃ s', forB E tg b (rgD n) s = .ok .next s' ∧ I n s' := by
  rw [rgD, List.range_eq_range']
  exact forB_rngFrom I n h n 0 s (by omega) hi
theorem forB_rng {E : Env} {tg : Tg} {b : List K} (A : Nat → S) (n : Nat) (h : ∀ j < n, ∃ r, setTg tg (.int (j : Nat)) (A j).r = some r ∧ execs E b { (A j) with r := r } = .ok .next (A (j + 1))) : forB E tg b (rgD n) (A 0) = .ok .next (A n) := by
  obtain ⟨s', e, rfl⟩ := forB_rngI (E := E) (tg := tg) (b := b) (fun j s => s = A j) n (fun j hj s hs => by
    subst hs
    obtain ⟨r, h1, h2⟩ := h j hj
    exact ⟨r, _, h1, h2, rfl⟩) (A 0) rfl
  exact e
/-- .. over a list -/
theorem forB_lstFrom {E : Env} {tg : Tg} {b : List K} (l : List D) (I : Nat → S → Prop) (h : ∀ j (hj : j < l.length), ∀ s, I j s → ∃ r s', setTg tg l[j] s.r = some r ∧ execs E b { s with r := r } = .ok .next s' ∧ I (j + 1) s') :
    ∀ (c j : Nat) (s : S), j + c = l.length → I j s → ∃ s', forB E tg b (l.drop j) s = .ok .next s' ∧ I l.length s'
  | 0, j, s, e, hi => ⟨s, by rw [List.drop_eq_nil_of_le (by omega)]; rfl, by rw [← e]; exact hi⟩
  | c + 1, j, s, e, hi => by
    obtain ⟨r, s1, e0, e1, h1⟩ := h j (by omega) s hi
    obtain ⟨s2, e2, h2⟩ := forB_lstFrom l I h c (j + 1) s1 (by omega) h1
    exact ⟨s2, by rw [List.drop_eq_getElem_cons (by omega), forB_cons, e0, Out.of_some, Out.bind_ok, e1, Out.bind_ok]; exact e2, h2⟩
theorem forB_lstI {E : Env} {tg : Tg} {b : List K} (l : List D) (I : Nat → S → Prop) (h : ∀ j (hj : j < l.length), ∀ s, I j s → ∃ r s', setTg tg l[j] s.r = some r ∧ execs E b { s with r := r } = .ok .next s' ∧ I (j + 1) s') (s : S) (hi : I 0 s) :
    ∃ s', forB E tg b l s = .ok .next s' ∧ I l.length s' := by
  have := forB_lstFrom l I h l.length 0 s (by omega) hi
  simpa using this
theorem itm_rngN (n : Nat) (h : n ≤ 1000000) : itm .rng [.int (n : Int)] = some (rgD n) := itm_rng_len n h
theorem itm_rngA (a b : Int) (ha : a.natAbs ≤ 1000000) (hb : b.natAbs ≤ 1000000) : itm .rng [.int a, .int b] = some ((List.range (b - a).toNat).map fun k => .int (a + (k : Nat))) := by
  show (if a.natAbs < 4611686018427387904 ∧ b.natAbs < 4611686018427387904 then _ else _) = _
  rw [if_pos ⟨by omega, by omega⟩]
theorem okd_items {N : Nat} {l : List D} (h : D.okd N (.tup l) = true) : ∀ x ∈ l, D.okd (N - 1) x = true := by
  cases N with
  | zero => simp [D.okd] at h
  | succ N => simp only [D.okd] at h; exact okds_all.mp h
theorem fz_items {l : List D} (h : (D.tup l).fz = .tup l) : ∀ x ∈ l, x.fz = x := fun x hx => by
  obtain ⟨n, hn⟩ := List.mem_iff_getElem?.mp hx
  exact fzs_at (fzs_id h) hn
theorem wt_items {l : List D} {x : D} (h : x ∈ l) : x.wt ≤ (D.tup l).wt := by
  have := wt_mem h
  simp only [D.wt]; omega
/-! rows of whole numbers -/
abbrev iL (f : List Int) : List D := f.map D.int
abbrev tIn (f : List Int) : D := .tup (iL f)
theorem fz_tI (f : List Int) : (tIn f).fz = tIn f := by simp only [fz_tup, fzs_ints]
theorem iL_at (f : List Int) (k : Nat) (h : k < f.length) : atD (iL f) (k : Int) = some (.int f[k]) := by
  rw [atD_nat (iL f) k (by simpa using h)]; simp
theorem iL_get (f : List Int) (k : Nat) (h : k < f.length) : (iL f)[k]? = some (.int f[k]) := by
  rw [List.getElem?_map, List.getElem?_eq_getElem h]; rfl
theorem toInts_iL : ∀ f : List Int, toInts (iL f) = some f
  | [] => rfl
  | x :: f => by
    simp only [iL, List.map_cons, toInts]
    have := toInts_iL f
    simp only [iL] at this
    rw [this]; rfl
theorem sum_iL (o : Bool) (f : List Int) : bapp .sum [.lst o (iL f)] = some (.int f.sum) := by
  show (toInts (iL f)).map _ = _
  rw [toInts_iL]; rfl
theorem atD_neg {α : Type} (l : List α) (x : α) : atD (l ++ [x]) (-1) = some x := by
  unfold atD ixn
  rw [if_neg (by decide), if_pos (by simp; omega), Option.bind_some]
  have : (-1 + ((l ++ [x]).length : Int)).toNat = l.length := by simp; omega
  rw [this]; simp
theorem cut_last {α : Type} (l : List α) (x : α) : cut (l ++ [x]) none (some (-1)) = l := by
  unfold cut sxn
  have : (-1 + ((l ++ [x]).length : Int)).toNat = l.length := by simp; omega
  simp only [if_pos (show (-1 : Int) < 0 by decide), this]
  simp
theorem cut_to {α : Type} (l : List α) (k : Nat) : cut l none (some (k : Int)) = l.take k := by
  unfold cut sxn
  have : ¬ ((k : Int) < 0) := by omega
  simp only [this, if_false, Int.toNat_natCast, List.drop_zero, Nat.sub_zero]
  rw [List.take_eq_take_iff]
  omega
theorem cut_from {α : Type} (l : List α) (k : Nat) : cut l (some (k : Int)) none = l.drop k := by
  unfold cut sxn
  have : ¬ ((k : Int) < 0) := by omega
  simp only [this, if_false, Int.toNat_natCast]
  rw [List.take_of_length_le (by simp)]
  by_cases h : k ≤ l.length
  · rw [Nat.min_eq_left h]
  · rw [Nat.min_eq_right (by omega), List.drop_length, List.drop_eq_nil_of_le (by omega)]
/-- its sign, by turns -/
def sg (k : Nat) (x : Int) : Int := if k % 2 = 0 then x else -x
/-- the points between panels -/
def pS (f : List Int) : Nat → Int
  | 0 => 0
  | j + 1 => pS f j + sg j (f.getD j 0)
def ptL (f : List Int) : List Int := (List.range (f.length + 1)).map (pS f)
theorem sum_sg (f : List Int) (j : Nat) : ((List.range j).map fun k => sg k (f.getD k 0)).sum = pS f j := by
  induction j with
  | zero => rfl
  | succ j ih => rw [List.range_succ, List.map_append, List.sum_append, ih]; simp [pS]
theorem m2 (k : Nat) : bop .mod (.int (k : Int)) (.int 2) = some (.int ((k % 2 : Nat) : Int)) := by
  rw [b_mod _ 2 (by decide), Int.fmod_eq_emod_of_nonneg _ (by decide)]; rfl
theorem eq0 (k : Nat) : cop .eq (.int ((k % 2 : Nat) : Int)) (.int 0) = some (decide (k % 2 = 0)) := by
  rw [c_eqI, Bool.beq_eq_decide_eq]
  congr 1
  rw [decide_eq_decide]; omega
theorem ixo_tI (m : List Cell) (f : List Int) (k : Nat) (h : k < f.length) : ixo m (tIn f) (.int (k : Int)) = some (.int f[k]) := iL_at f k h
theorem ixo_lI (m : List Cell) (o : Bool) (f : List Int) (k : Nat) (h : k < f.length) : ixo m (.lst o (iL f)) (.int (k : Int)) = some (.int f[k]) := iL_at f k h
theorem getD_lt (f : List Int) (k : Nat) (h : k < f.length) : f.getD k 0 = f[k] := by simp [List.getD, List.getElem?_eq_getElem h]
def fnPointsOf : Fn := ⟨1, 3, [.bset 1 (.lst [(.lit (.int 0))]),
    .forr (.name 2) .rng [(.bi .len [(.var 0)])]
    [.app 1 (.bin .add (.pix 1 (.neg (.lit (.int 1)))) (.ite (.cmp .eq (.bin .mod (.var 2) (.lit (.int 2))) (.lit (.int 0))) (.ix (.var 0) (.var 2)) (.neg (.ix (.var 0) (.var 2)))))],
    .ret (.mvar 1)]⟩
section
variable {F : Nat → Option Fn} {gl : Nat → Option D} {w i : Nat}
theorem len_tI (f : List Int) : bapp .len [tIn f] = some (.int f.length) := by
  show some (D.int (iL f).length) = _
  rw [List.length_map]
theorem points_of_ok (hF : F i = some fnPointsOf) (f : List Int) (hl : f.length ≤ 900) (k : Nat) (m : List Cell) : Ans (call F gl w (k + 1) i [tIn f] m) (.lst true (iL (ptL f))) m := by
  refine ans_of hF rfl ?_
  let A : Nat → S := fun j => ⟨[some (tIn f), some (.lst true (iL ((List.range (j + 1)).map (pS f)))), if j = 0 then none else some (.int ((j - 1 : Nat) : Int))], m⟩
  have lp := forB_rng (E := ⟨call F gl w k, gl, w⟩) (tg := .name 2) (b := [.app 1 (.bin .add (.pix 1 (.neg (.lit (.int 1)))) (.ite (.cmp .eq (.bin .mod (.var 2) (.lit (.int 2))) (.lit (.int 0))) (.ix (.var 0) (.var 2)) (.neg (.ix (.var 0) (.var 2)))))]) A f.length (fun j hj => ⟨_, rfl, by
    have e1 : iL ((List.range (j + 1)).map (pS f)) = iL ((List.range j).map (pS f)) ++ [.int (pS f j)] := by
      rw [List.range_succ, List.map_append]; simp
    have e2 : iL ((List.range (j + 1 + 1)).map (pS f)) = iL ((List.range (j + 1)).map (pS f)) ++ [.int (pS f (j + 1))] := by
      rw [List.range_succ, List.map_append]; simp
    have hz : (iL ((List.range (j + 1)).map (pS f))).length < 1000 := by simp; omega
    have a1 : atD (iL ((List.range (j + 1)).map (pS f))) (-1) = some (.int (pS f j)) := by rw [e1]; exact atD_neg _ _
    have a2 := ixo_tI m f j hj
    have a3 := m2 j
    have a4 := eq0 j
    have g := getD_lt f j hj
    simp only [A, Nat.add_one_ne_zero, if_false, Nat.add_sub_cancel]
    rw [e2]
    have ap := appV_l (iL ((List.range (j + 1)).map (pS f))) (.int (pS f (j + 1))) hz
    generalize iL ((List.range (j + 1)).map (pS f)) = L at *
    generalize tIn f = TF at *
    have hs : pS f (j + 1) = pS f j + sg j f[j] := by simp only [pS, g]
    by_cases h : j % 2 = 0
    · simp only [h, decide_true] at a3 a4
      have hs' : pS f (j + 1) = pS f j + f[j] := by rw [hs]; simp [sg, h]
      have hi : (j : Int) % 2 = 0 := by omega
      rw [hs'] at ap ⊢
      simp [a1, a2, a3, a4, ap, D.isz, hi]
    · simp only [h, decide_false] at a3 a4
      have hs' : pS f (j + 1) = pS f j + -f[j] := by rw [hs]; simp [sg, h]
      have hi : ¬ (j : Int) % 2 = 0 := by omega
      rw [hs'] at ap ⊢
      simp [a1, a2, a3, a4, ap, D.isz, hi]⟩)
  have il := itm_rngN f.length (by omega)
  have ln := len_tI f
  have e0 : (A 0) = ⟨[some (tIn f), some (.lst true [.int 0]), none], m⟩ := rfl
  rw [e0] at lp
  have eN : (A f.length).m = m ∧ gt (A f.length).r 1 = some (.lst true (iL (ptL f))) := ⟨rfl, rfl⟩
  generalize iL (ptL f) = OUT at *
  generalize tIn f = TF at *
  refine ⟨(A f.length).r.set 1 none, ?_⟩
  generalize A f.length = AN at *
  obtain ⟨r, m'⟩ := AN
  simp only at eN
  obtain ⟨rfl, eN⟩ := eN
  simp [fnPointsOf, ln, il, lp, eN]
end
theorem b_addL2 (o p : Bool) (l m : List D) (h : l.length + m.length ≤ 10000000) : bop .add (.lst o l) (.lst p m) = some (.lst true (l ++ m)) := by
  simp only [bop]
  rw [if_pos (Nat.le_trans h (by decide))]
theorem appV_l2 (l : List D) (d : D) (h : l.length < 10000000) : appV (some (.lst true l)) d = some (.lst true (l ++ [d])) := by
  simp only [appV]; rw [if_pos (Nat.lt_of_lt_of_le h (by decide))]
theorem cut_le {α : Type} (l : List α) (a b : Option Int) : (cut l a b).length ≤ l.length := by
  unfold cut
  rw [List.length_take, List.length_drop]; omega
theorem atD_m1 (f : List Int) (h : 0 < f.length) : atD (iL f) (-1) = some (.int f[f.length - 1]) := by
  have : f ≠ [] := by intro e; rw [e] at h; simp at h
  have e : iL f = iL f.dropLast ++ [.int (f.getLast this)] := by
    rw [← List.map_singleton, ← List.map_append, List.dropLast_concat_getLast]
  rw [e, atD_neg, List.getLast_eq_getElem]
/-- the call lets an error out, the store is m -/
def Exq (o : Out D) (x : Exn) (m : List Cell) : Prop := ∃ r, o = .exc x ⟨r, m⟩
theorem Exq.back {o : Out D} {x : Exn} {m : List Cell} (h : Exq o x m) (s : S) : cback o s = .exc x { s with m := m } := by
  obtain ⟨r, rfl⟩ := h; rfl
theorem exq_of {F : Nat → Option Fn} {gl : Nat → Option D} {w k f : Nat} {ds : List D} {m m' : List Cell} {x : Exn} {fn : Fn} (hF : F f = some fn) (hl : ds.length = fn.ps)
    (h : ∃ r, execs ⟨call F gl w k, gl, w⟩ fn.b ⟨ds.map some ++ List.replicate (fn.n - ds.length) none, m⟩ = .exc x ⟨r, m'⟩) : Exq (call F gl w (k + 1) f ds m) x m' := by
  obtain ⟨r, e⟩ := h
  exact ⟨r, by simp only [call, hF, hl, if_true]; rw [← hl, e]; rfl⟩
/-- a sum by turns, as a comprehension -/
theorem alt_lc (E : Env) (e0 : C) (fv kv : Nat) (its : C) (f : List Int) (n : Nat) (hn : n ≤ f.length) (hl : f.length ≤ 900) (R : List (Option D)) (m : List Cell) (hits : ev E its ⟨R, m⟩ = .ok (.int n) ⟨R, m⟩) (hkv : kv < R.length)
    (he : ∀ k < n, ev E e0 ⟨R.set kv (some (.int (k : Nat))), m⟩ = .ok (.int (sg k (f.getD k 0))) ⟨R.set kv (some (.int (k : Nat))), m⟩) :
    ev E (.bi .sum [(.lc e0 (.name kv) .rng [its] [] [kv])]) ⟨R, m⟩ = .ok (.int (pS f n)) ⟨R, m⟩ := by
  have lc := ev_lcG (E := E) (e := e0) (tg := .name kv) (k := .rng) (its := [its]) (cs := []) (vs := [kv]) (R := R) (m := m) (ds := [.int n])
    (List.range n) (fun k => .int (k : Nat)) (fun k => R.set kv (some (.int (k : Nat)))) (fun _ => true) (fun k => .int (sg k (f.getD k 0)))
    (by simp [hits]) (itm_rngN n (by omega)) (by simp; omega) (fun k _ => by simp) (fun k _ => by simp) (by simp [set_gt]) (fun k _ => by simp [set_gt]) (fun _ _ => rfl) (fun k hk _ => he k (List.mem_range.mp hk))
  rw [List.filter_eq_self.mpr (fun _ _ => rfl)] at lc
  have e : (List.range n).map (fun k => D.int (sg k (f.getD k 0))) = iL ((List.range n).map fun k => sg k (f.getD k 0)) := by simp only [iL, List.map_map]; rfl
  rw [e] at lc
  have sm := sum_iL true ((List.range n).map fun k => sg k (f.getD k 0))
  rw [sum_sg] at sm
  generalize iL ((List.range n).map fun k => sg k (f.getD k 0)) = L at *
  simp [-x_lc, lc, sm]
/-- fan[k] if int(k) % 2 == 0 else 0 - fan[k] -/
theorem alt_el (E : Env) (fv kv : Nat) (f : List Int) (k : Nat) (hk : k < f.length) (s : S) (h1 : gt s.r fv = some (tIn f)) (h2 : gt s.r kv = some (.int (k : Nat))) :
    ev E (.ite (.cmp .eq (.bin .mod (.bi .int [(.var kv)]) (.lit (.int 2))) (.lit (.int 0))) (.ix (.var fv) (.var kv)) (.bin .sub (.lit (.int 0)) (.ix (.var fv) (.var kv)))) s = .ok (.int (sg k (f.getD k 0))) s := by
  have a2 := ixo_tI s.m f k hk
  have a3 := m2 k
  have a4 := eq0 k
  have g := getD_lt f k hk
  have bi : bapp .int [.int (k : Int)] = some (.int k) := rfl
  rw [g]
  generalize tIn f = TF at *
  by_cases h : k % 2 = 0
  · have hi : (k : Int) % 2 = 0 := by omega
    simp only [h, decide_true] at a3 a4
    simp [h1, h2, a2, a3, a4, bi, sg, h, hi]
  · have hi : ¬ (k : Int) % 2 = 0 := by omega
    simp only [h, decide_false] at a3 a4
    simp [h1, h2, a2, a3, a4, bi, sg, h, hi]
end PV

set_option maxRecDepth 100000
namespace K16
open PySem PV
def top (i : Nat) : Stmt := PySem.Challenge.pw_foldsflat_k16_fans_told.main.body.getD i (.Pass ⟨0, 0, 0, 0⟩)
def r_is_whole : Row := { x := "is_whole", st := top 1, N := ["value"], np := 1, pl := [0], b :=
   [.ret (.and (.isi (.var 0) .int) (.nt (.isi (.var 0) .bool)))] }
def r_is_from : Row := { x := "is_from", st := top 2, N := ["value", "low", "high"], np := 3, pl := [0, 1, 2], b :=
   [.ret (.and (.call 0 [(.var 0)]) (.chain .le .le (.var 1) (.var 0) (.var 2)))] }
def r_points_of : Row := { x := "points_of", st := top 8, N := ["lengths", "found", "k"], np := 1, pl := [0, 2], b :=
   [.bset 1 (.lst [(.lit (.int 0))]),
    .forr (.name 2) .rng [(.bi .len [(.var 0)])]
    [.app 1 (.bin .add (.pix 1 (.neg (.lit (.int 1)))) (.ite (.cmp .eq (.bin .mod (.var 2) (.lit (.int 2))) (.lit (.int 0))) (.ix (.var 0) (.var 2)) (.neg (.ix (.var 0) (.var 2)))))],
    .ret (.mvar 1)] }
def r_is_fan : Row := { x := "is_fan", st := top 10, N := ["value", "angle"], np := 1, pl := [0, 1], b :=
   [.ret (.and (.isi (.var 0) .tuple) (.and (.chain .le .le (.lit (.int 2)) (.bi .len [(.var 0)]) (.lit (.int 12))) (.bi .all [(.lc (.call 1 [(.var 1), (.lit (.int 1)), (.lit (.int 1000))]) (.name 1) .seq [(.var 0)] [] [1])])))] }
def r_bends : Row := { x := "bends", st := top 11, N := ["fan"], np := 1, pl := [0], b :=
   [.ret (.slc (.call 2 [(.var 0)]) .abs (.neg (.lit (.int 1))))] }
def r_fan_closes : Row := { x := "fan_closes", st := top 12, N := ["fan"], np := 1, pl := [0], b :=
   [.ret (.and (.cmp .eq (.bin .mod (.bi .len [(.var 0)]) (.lit (.int 2))) (.lit (.int 0))) (.cmp .eq (.ix (.call 2 [(.var 0)]) (.neg (.lit (.int 1)))) (.lit (.int 0))))] }
def r_opened_fan : Row := { x := "opened_fan", st := top 13, N := ["fan", "k"], np := 2, pl := [0, 1], b :=
   [.ite (.cmp .lt (.bi .len [(.var 0)]) (.lit (.int 3)))
    [.rai 0 [] [(.var 0)]]
    [],
    .ite (.cmp .eq (.var 1) (.lit (.int 0)))
    [.ret (.bin .add (.tup [(.bin .add (.ix (.var 0) (.neg (.lit (.int 1)))) (.ix (.var 0) (.lit (.int 0))))]) (.slc (.var 0) (.lit (.int 1)) (.neg (.lit (.int 1)))))]
    [],
    .ret (.bin .add (.bin .add (.slc (.var 0) .abs (.bin .sub (.var 1) (.lit (.int 1)))) (.tup [(.bin .add (.ix (.var 0) (.bin .sub (.var 1) (.lit (.int 1)))) (.ix (.var 0) (.var 1)))])) (.slc (.var 0) (.bin .add (.var 1) (.lit (.int 1))) .abs))] }
def r_ways_to_close : Row := { x := "ways_to_close", st := top 14, N := ["fan", "found", "k", "angle"], np := 1, pl := [0, 2, 3], b :=
   [.bset 1 (.lst []),
    .forr (.name 2) .rng [(.bi .len [(.var 0)])]
    [.forr (.name 3) .rng [(.lit (.int 1)), (.ix (.var 0) (.var 2))]
    [.ite (.call 5 [(.bin .add (.bin .add (.slc (.var 0) .abs (.var 2)) (.tup [(.var 3), (.bin .sub (.ix (.var 0) (.var 2)) (.var 3))])) (.slc (.var 0) (.bin .add (.var 2) (.lit (.int 1))) .abs))])
    [.app 1 (.tup [(.var 2), (.var 3)])]
    []]],
    .ret (.mvar 1)] }
def r__law_same : Row := { x := "_law_same", st := top 16, N := ["actual", "due", "k"], np := 2, pl := [0, 1, 2], b :=
   [.ite (.or (.isi (.var 1) .tuple) (.isi (.var 1) .list))
    [.ite (.or (.cmp .ne (.isi (.var 1) .tuple) (.isi (.var 0) .tuple)) (.or (.cmp .ne (.isi (.var 1) .list) (.isi (.var 0) .list)) (.cmp .ne (.bi .len [(.var 0)]) (.bi .len [(.var 1)]))))
    [.ret (.lit (.bl false))]
    [],
    .ret (.cmp .eq (.bi .len [(.lc (.var 2) (.name 2) .rng [(.bi .len [(.var 1)])] [(.nt (.call 8 [(.ix (.var 0) (.var 2)), (.ix (.var 1) (.var 2))]))] [2])]) (.lit (.int 0)))]
    [],
    .ite (.isN (.var 1))
    [.ret (.isN (.var 0))]
    [],
    .ite (.or (.isi (.var 1) .bool) (.isi (.var 0) .bool))
    [.ret (.and (.isi (.var 1) .bool) (.and (.isi (.var 0) .bool) (.cmp .eq (.var 0) (.var 1))))]
    [],
    .ite (.isi (.var 1) .int)
    [.ret (.and (.isi (.var 0) .int) (.cmp .eq (.var 0) (.var 1)))]
    [],
    .ret (.and (.isi (.var 0) .str) (.cmp .eq (.var 0) (.var 1)))] }
def r__law_is_integer : Row := { x := "_law_is_integer", st := top 17, N := ["actual"], np := 1, pl := [0], b :=
   [.ret (.and (.isi (.var 0) .int) (.nt (.isi (.var 0) .bool)))] }
def r__law_pool : Row := { x := "_law_pool", st := top 18, N := ["script", "salt", "cell"], np := 1, pl := [0, 1, 2], b :=
   [.set 1 (.lit (.int 7)),
    .forr (.name 2) .seq [(.slc (.var 0) .abs (.lit (.int 63)))]
    [.set 1 (.bin .mod (.bi .int [(.bin .add (.bin .mul (.var 1) (.lit (.int 31))) (.var 2))]) (.lit (.int 1000003)))],
    .ret (.box [(.bi .list [(.var 0)]), (.lit (.int 0)), (.lit (.int 0)), (.lit (.int 0)), (.var 1)])] }
def r__law_spread : Row := { x := "_law_spread", st := top 19, N := ["cell", "mixed", "total", "k"], np := 1, pl := [0, 1, 2, 3], b :=
   [.set 1 (.bin .mod (.bi .int [(.var 0)]) (.lit (.int 2147483647))),
    .set 2 (.lit (.int 1)),
    .forr (.name 3) .rng [(.lit (.int 4))]
    [.set 1 (.bin .mod (.bi .int [(.bin .add (.bin .add (.bin .mul (.var 1) (.lit (.int 48271))) (.lit (.int 12345))) (.var 3))]) (.lit (.int 2147483647))),
    .set 2 (.bin .add (.bin .mul (.var 2) (.lit (.int 2147483647))) (.var 1))],
    .ret (.var 2)] }
def r__law_draw : Row := { x := "_law_draw", st := top 20, N := ["pool", "many", "cell", "mixed", "value"], np := 2, pl := [0, 1, 2, 3, 4], b :=
   [.ite (.and (.cmp .le (.ix (.var 0) (.lit (.int 2))) (.lit (.int 0))) (.cmp .lt (.ix (.var 0) (.lit (.int 1))) (.bi .len [(.ix (.var 0) (.lit (.int 0)))])))
    [.set 2 (.ix (.ix (.var 0) (.lit (.int 0))) (.ix (.var 0) (.lit (.int 1)))),
    .seti 0 (.lit (.int 1)) (.bin .add (.ix (.var 0) (.lit (.int 1))) (.lit (.int 1))),
    .seti 0 (.lit (.int 2)) (.var 2),
    .ite (.cmp .lt (.var 2) (.lit (.int 1000000000000000000)))
    [.seti 0 (.lit (.int 2)) (.call 11 [(.var 2)])]
    []]
    [],
    .seti 0 (.lit (.int 3)) (.bin .add (.ix (.var 0) (.lit (.int 3))) (.lit (.int 1))),
    .ite (.cmp .le (.ix (.var 0) (.lit (.int 2))) (.lit (.int 0)))
    [.set 3 (.bin .mod (.bi .int [(.bin .add (.bin .add (.bin .mul (.ix (.var 0) (.lit (.int 4))) (.lit (.int 48271))) (.bin .mul (.ix (.var 0) (.lit (.int 3))) (.lit (.int 69621)))) (.lit (.int 1)))]) (.lit (.int 2147483647))),
    .set 3 (.bin .mod (.bi .int [(.bin .add (.bin .mul (.var 3) (.lit (.int 16807))) (.ix (.var 0) (.lit (.int 3))))]) (.lit (.int 2147483629))),
    .ret (.bin .mod (.bin .fdiv (.var 3) (.lit (.int 5))) (.var 1))]
    [],
    .set 4 (.bin .mod (.bi .int [(.ix (.var 0) (.lit (.int 2)))]) (.var 1)),
    .seti 0 (.lit (.int 2)) (.bin .fdiv (.ix (.var 0) (.lit (.int 2))) (.var 1)),
    .ret (.var 4)] }
def r__law_bent : Row := { x := "_law_bent", st := top 21, N := ["pool", "value", "at", "turn", "other", "items"], np := 2, pl := [0, 1, 2, 3, 4], b :=
   [.ite (.and (.isi (.var 1) .tuple) (.and (.cmp .gt (.bi .len [(.var 1)]) (.lit (.int 0))) (.cmp .gt (.call 12 [(.var 0), (.lit (.int 3))]) (.lit (.int 0)))))
    [.set 2 (.call 12 [(.var 0), (.bi .len [(.var 1)])]),
    .ret (.bin .add (.bin .add (.slc (.var 1) .abs (.var 2)) (.tup [(.call 13 [(.var 0), (.ix (.var 1) (.var 2))])])) (.slc (.var 1) (.bin .add (.var 2) (.lit (.int 1))) .abs))]
    [],
    .set 3 (.call 12 [(.var 0), (.lit (.int 9))]),
    .ite (.cmp .eq (.var 3) (.lit (.int 0)))
    [.ret (.ix (.tup [(.lit (.str "x")), (.lit (.bl true)), (.tup []), (.lit (.int 0)), (.neg (.lit (.int 1))), (.lit .non), (.lit (.bl false)), (.lst [])]) (.call 12 [(.var 0), (.lit (.int 8))]))]
    [],
    .ite (.call 9 [(.var 1)])
    [.ret (.bin .add (.var 1) (.ix (.tup [(.lit (.int 1)), (.neg (.lit (.int 1))), (.lit (.int 2)), (.lit (.int 0))]) (.call 12 [(.var 0), (.lit (.int 4))])))]
    [],
    .ite (.isi (.var 1) .str)
    [.ret (.ix (.tup [(.bin .add (.var 1) (.lit (.str "a"))), (.slc (.var 1) (.lit (.int 1)) .abs), (.bin .add (.var 1) (.lit (.str "A"))), (.bin .add (.var 1) (.lit (.str " "))), (.slc (.var 1) .abs (.lit (.int 1)))]) (.call 12 [(.var 0), (.lit (.int 5))]))]
    [],
    .ite (.or (.nt (.isi (.var 1) .tuple)) (.cmp .eq (.bi .len [(.var 1)]) (.lit (.int 0))))
    [.ret (.ite (.cmp .lt (.var 3) (.lit (.int 5))) (.tup [(.var 1), (.lit (.int 0))]) (.tup []))]
    [],
    .set 2 (.call 12 [(.var 0), (.bi .len [(.var 1)])]),
    .ite (.cmp .lt (.var 3) (.lit (.int 3)))
    [.ret (.bin .add (.slc (.var 1) .abs (.var 2)) (.slc (.var 1) (.bin .add (.var 2) (.lit (.int 1))) .abs))]
    [],
    .ite (.cmp .lt (.var 3) (.lit (.int 5)))
    [.ret (.bin .add (.bin .add (.slc (.var 1) .abs (.var 2)) (.tup [(.ix (.var 1) (.var 2))])) (.slc (.var 1) (.var 2) .abs))]
    [],
    .ite (.cmp .eq (.var 3) (.lit (.int 5)))
    [.ret (.bi .list [(.var 1)])]
    [],
    .set 4 (.call 12 [(.var 0), (.bi .len [(.var 1)])]),
    .bset 5 (.bi .list [(.var 1)]),
    .seti 5 (.var 2) (.ix (.var 1) (.var 4)),
    .seti 5 (.var 4) (.ix (.var 1) (.var 2)),
    .ret (.bib .tuple 5)] }
def r__law_booled : Row := { x := "_law_booled", st := top 22, N := ["value", "part"], np := 1, pl := [0, 1], b :=
   [.ite (.isi (.var 0) .tuple)
    [.ret (.bi .tuple [(.lc (.call 14 [(.var 1)]) (.name 1) .seq [(.var 0)] [] [1])])]
    [],
    .ret (.ite (.and (.call 9 [(.var 0)]) (.and (.cmp .le (.lit (.int 0)) (.var 0)) (.cmp .lt (.var 0) (.lit (.int 2))))) (.ix (.tup [(.lit (.bl false)), (.lit (.bl true))]) (.var 0)) (.var 0))] }
def r__law_is_number : Row := { x := "_law_is_number", st := top 23, N := ["value", "top"], np := 2, pl := [0, 1], b :=
   [.ret (.and (.call 9 [(.var 0)]) (.and (.cmp .le (.lit (.int 0)) (.var 0)) (.cmp .le (.var 0) (.var 1))))] }
def r__law_fan : Row := { x := "_law_fan", st := top 24, N := ["pool", "most", "many", "fan", "total", "k"], np := 2, pl := [0, 1, 2, 4, 5], b :=
   [.set 2 (.bin .mul (.lit (.int 2)) (.bin .add (.lit (.int 1)) (.call 12 [(.var 0), (.bin .fdiv (.var 1) (.lit (.int 2)))]))),
    .bset 3 (.lc (.bin .add (.lit (.int 1)) (.call 12 [(.var 0), (.ix (.tup [(.lit (.int 2)), (.lit (.int 4)), (.lit (.int 9))]) (.call 12 [(.var 0), (.lit (.int 3))]))])) (.name 5) .rng [(.var 2)] [] [5]),
    .ite (.cmp .gt (.call 12 [(.var 0), (.lit (.int 5))]) (.lit (.int 0)))
    [.set 4 (.bi .sum [(.lc (.ite (.cmp .eq (.bin .mod (.bi .int [(.var 5)]) (.lit (.int 2))) (.lit (.int 0))) (.pix 3 (.var 5)) (.bin .sub (.lit (.int 0)) (.pix 3 (.var 5)))) (.name 5) .rng [(.var 2)] [] [5])]),
    .ite (.cmp .gt (.var 4) (.lit (.int 0)))
    [.seti 3 (.lit (.int 1)) (.bin .add (.pix 3 (.lit (.int 1))) (.var 4))]
    [.seti 3 (.lit (.int 0)) (.bin .sub (.pix 3 (.lit (.int 0))) (.var 4))]]
    [],
    .ret (.bi .tuple [(.slc (.bvar 3) .abs (.bin .sub (.var 2) (.ite (.and (.cmp .eq (.call 12 [(.var 0), (.lit (.int 9))]) (.lit (.int 0))) (.cmp .gt (.var 2) (.lit (.int 2)))) (.lit (.int 1)) (.lit (.int 0)))))])] }
def r__law_opened : Row := { x := "_law_opened", st := top 25, N := ["fan", "k", "e"], np := 2, pl := [0, 1, 2], b :=
   [.tri [.ret (.tup [(.lit (.str "told")), (.call 6 [(.var 0), (.var 1)])])]
    [[]] [0] (some 2) (.ret (.ite (.and (.isi [0]) (.and (.isi [0]) (.nt (.isi [])))) (.at (.lit (.str "few"))) (.at (.lit (.str "other")))))] }
def r__law_closes : Row := { x := "_law_closes", st := top 26, N := ["fan", "k"], np := 1, pl := [0, 1], b :=
   [.ret (.and (.cmp .eq (.bin .mod (.bi .int [(.bi .len [(.var 0)])]) (.lit (.int 2))) (.lit (.int 0))) (.cmp .eq (.bi .sum [(.lc (.ite (.cmp .eq (.bin .mod (.bi .int [(.var 1)]) (.lit (.int 2))) (.lit (.int 0))) (.ix (.var 0) (.var 1)) (.bin .sub (.lit (.int 0)) (.ix (.var 0) (.var 1)))) (.name 1) .rng [(.bi .len [(.var 0)])] [] [1])]) (.lit (.int 0))))] }
def r_law : Row := { x := "law", st := top 27, N := ["script", "pool", "turn", "fan", "points", "k", "due", "tried", "value", "kept", "j", "a", "item"], np := 1, pl := [0, 1, 2, 3, 4, 5, 6, 7, 8, 9, 10, 11, 12], b :=
   [.set 1 (.call 10 [(.var 0)]),
    .forr (.name 2) .rng [(.lit (.int 3))]
    [.set 3 (.call 16 [(.var 1), (.lit (.int 12))]),
    .set 4 (.lc (.bi .sum [(.lc (.ite (.cmp .eq (.bin .mod (.bi .int [(.var 5)]) (.lit (.int 2))) (.lit (.int 0))) (.ix (.var 3) (.var 5)) (.bin .sub (.lit (.int 0)) (.ix (.var 3) (.var 5)))) (.name 5) .rng [(.var 10)] [] [5])]) (.name 10) .rng [(.bi .len [(.var 3)])] [] [10]),
    .ite (.nt (.call 8 [(.lst [(.call 4 [(.var 3)]), (.call 5 [(.var 3)])]), (.lst [(.var 4), (.call 18 [(.var 3)])])]))
    [.ret (.lit (.bl false))]
    [],
    .forr (.name 5) .rng [(.bi .len [(.var 3)])]
    [.set 6 (.ite (.cmp .lt (.bi .len [(.var 3)]) (.lit (.int 3))) (.lit (.str "few")) (.tup [(.lit (.str "told")), (.ite (.cmp .eq (.var 5) (.lit (.int 0))) (.bin .add (.tup [(.bin .add (.ix (.var 3) (.neg (.lit (.int 1)))) (.ix (.var 3) (.lit (.int 0))))]) (.slc (.var 3) (.lit (.int 1)) (.neg (.lit (.int 1))))) (.bin .add (.bin .add (.slc (.var 3) .abs (.bin .sub (.var 5) (.lit (.int 1)))) (.tup [(.bin .add (.ix (.var 3) (.bin .sub (.var 5) (.lit (.int 1)))) (.ix (.var 3) (.var 5)))])) (.slc (.var 3) (.bin .add (.var 5) (.lit (.int 1))) .abs)))])),
    .ite (.nt (.call 8 [(.call 17 [(.var 3), (.var 5)]), (.var 6)]))
    [.ret (.lit (.bl false))]
    []],
    .ite (.cmp .lt (.bi .len [(.var 3)]) (.lit (.int 12)))
    [.set 6 (.lst []),
    .forr (.name 5) .rng [(.bi .len [(.var 3)])]
    [.set 6 (.bin .add (.var 6) (.lc (.tup [(.var 5), (.var 11)]) (.name 11) .rng [(.lit (.int 1)), (.ix (.var 3) (.var 5))] [(.call 18 [(.bin .add (.bin .add (.slc (.var 3) .abs (.var 5)) (.tup [(.var 11), (.bin .sub (.ix (.var 3) (.var 5)) (.var 11))])) (.slc (.var 3) (.bin .add (.var 5) (.lit (.int 1))) .abs))])] [11]))],
    .ite (.nt (.call 8 [(.call 7 [(.var 3)]), (.var 6)]))
    [.ret (.lit (.bl false))]
    []]
    []],
    .set 7 (.lst [(.var 3), (.bi .list [(.var 3)]), (.call 14 [(.var 3)]), (.bin .add (.var 3) (.tup [(.lit (.int 0))])), (.bin .add (.var 3) (.tup [(.lit (.int 1001))])), (.tup [(.lit (.int 1000)), (.lit (.int 1000))]), (.tup [(.lit (.int 1))]), (.tup [(.lit (.int 1)), (.lit (.int 1))]), (.bin .mul (.tup [(.lit (.int 1))]) (.lit (.int 12))), (.bin .mul (.tup [(.lit (.int 1))]) (.lit (.int 13))), (.tup []), (.lit .non), (.tup [(.lit (.str "1")), (.lit (.str "1"))]), (.tup [(.lit (.bl true)), (.lit (.int 1))]), (.tup [(.lit (.int 1)), (.neg (.lit (.int 1)))])]),
    .forr (.name 8) .seq [(.bin .add (.var 7) (.lc (.call 13 [(.var 1), (.var 3)]) (.name 5) .rng [(.lit (.int 5))] [] [5]))]
    [.set 6 (.and (.isi (.var 8) .tuple) (.and (.cmp .gt (.bi .len [(.var 8)]) (.lit (.int 1))) (.and (.cmp .lt (.bi .len [(.var 8)]) (.lit (.int 13))) (.cmp .eq (.bi .len [(.lc (.var 12) (.name 12) .seq [(.var 8)] [(.or (.nt (.call 15 [(.var 12), (.lit (.int 1000))])) (.cmp .eq (.var 12) (.lit (.int 0))))] [12])]) (.lit (.int 0)))))),
    .set 9 (.bi .repr [(.var 8)]),
    .ite (.or (.nt (.call 8 [(.call 3 [(.var 8)]), (.var 6)])) (.cmp .ne (.bi .repr [(.var 8)]) (.var 9)))
    [.ret (.lit (.bl false))]
    []],
    .ret (.lit (.bl true))] }
def tb : List Row := [r_is_whole, r_is_from, r_points_of, r_is_fan, r_bends, r_fan_closes, r_opened_fan, r_ways_to_close, r__law_same, r__law_is_integer, r__law_pool, r__law_spread, r__law_draw, r__law_bent, r__law_booled, r__law_is_number, r__law_fan, r__law_opened, r__law_closes, r_law]
def gl : List (Str × Nat) := []
def xs : Xs := ⟨[("TooFew", 0)], [("TooFew", [0]), ("FoldError", [0]), ("ValueError", [0]), ("Open", [])], [[]]⟩
def Gv : Nat → Option D := fun n => [][n]?

theorem tb_ok : tabB tb gl xs = true := by decide +kernel

abbrev Ev : PV.Env := ⟨call (tabF tb) Gv 100 39, Gv, 100⟩
def fnIsFrom (jw : Nat) : Fn := ⟨3, 3, [.ret (.and (.call jw [(.var 0)]) (.chain .le .le (.var 1) (.var 0) (.var 2)))]⟩
def fnIsNum (ji : Nat) : Fn := ⟨2, 2, [.ret (.and (.call ji [(.var 0)]) (.and (.cmp .le (.lit (.int 0)) (.var 0)) (.cmp .le (.var 0) (.var 1))))]⟩
theorem hW : tabF tb 0 = some fnIsInt := rfl
theorem hFr : tabF tb 1 = some (fnIsFrom 0) := rfl
theorem hPt : tabF tb 2 = some fnPointsOf := rfl
theorem hFan : tabF tb 3 = some ⟨1, 2, r_is_fan.b⟩ := rfl
theorem hBd : tabF tb 4 = some ⟨1, 1, r_bends.b⟩ := rfl
theorem hFc : tabF tb 5 = some ⟨1, 1, r_fan_closes.b⟩ := rfl
theorem hOp : tabF tb 6 = some ⟨2, 2, r_opened_fan.b⟩ := rfl
theorem hWy : tabF tb 7 = some ⟨1, 4, r_ways_to_close.b⟩ := rfl
theorem hE : tabF tb 8 = some (fnSame 8) := rfl
theorem hI : tabF tb 9 = some fnIsInt := rfl
theorem hPo : tabF tb 10 = some fnPool := rfl
theorem hS : tabF tb 11 = some fnSpread := rfl
theorem hD : tabF tb 12 = some (fnDraw 11) := rfl
theorem hB : tabF tb 13 = some (fnBent 12 13 9) := rfl
theorem hBo : tabF tb 14 = some (fnBooled 14 9) := rfl
theorem hNu : tabF tb 15 = some (fnIsNum 9) := rfl
theorem hLF : tabF tb 16 = some ⟨2, 6, r__law_fan.b⟩ := rfl
theorem hLO : tabF tb 17 = some ⟨2, 3, r__law_opened.b⟩ := rfl
theorem hLC : tabF tb 18 = some ⟨1, 2, r__law_closes.b⟩ := rfl
/-! one number -/
def from1k : D → Bool
  | .int i => decide (1 ≤ i) && decide (i ≤ 1000)
  | _ => false
theorem from_ok (d : D) (h : dataB d = true) (hz : d.fz = d) (k : Nat) (m : List Cell) : Ans (call (tabF tb) Gv 100 (k + 2) 1 [d, .int 1, .int 1000] m) (.bl (from1k d)) m := by
  refine ans_of hFr rfl ?_
  have fi : ∀ s, cback (call (tabF tb) Gv 100 (k + 1) 0 [d] m) s = .ok (.bl (intB d)) { s with m := m } := fun s => (isint_ok (gl := Gv) (w := 100) hW d h k m).back s
  cases d with
  | int i =>
    by_cases h1 : 1 ≤ i
    · simp [fnIsFrom, fi, intB, from1k, h1]
    · simp [fnIsFrom, fi, intB, from1k, h1]
  | lst o l => simp [fnIsFrom, hz, -fz_lst, fi, from1k, intB]
  | tup l => simp [fnIsFrom, hz, -fz_tup, fi, from1k, intB]
  | non => simp [fnIsFrom, fi, intB, from1k]
  | bl b => simp [fnIsFrom, fi, intB, from1k]
  | str b => simp [fnIsFrom, fi, intB, from1k]
  | _ => simp [dataB] at h
def upto1k : D → Bool
  | .int i => decide (0 ≤ i) && decide (i ≤ 1000)
  | _ => false
theorem num_ok (d : D) (h : dataB d = true) (hz : d.fz = d) (k : Nat) (m : List Cell) : Ans (call (tabF tb) Gv 100 (k + 2) 15 [d, .int 1000] m) (.bl (upto1k d)) m := by
  refine ans_of hNu rfl ?_
  have fi : ∀ s, cback (call (tabF tb) Gv 100 (k + 1) 9 [d] m) s = .ok (.bl (intB d)) { s with m := m } := fun s => (isint_ok (gl := Gv) (w := 100) hI d h k m).back s
  cases d with
  | int i =>
    by_cases h1 : 0 ≤ i
    · simp [fnIsNum, fi, intB, upto1k, h1]
    · simp [fnIsNum, fi, intB, upto1k, h1]
  | lst o l => simp [fnIsNum, hz, -fz_lst, fi, upto1k, intB]
  | tup l => simp [fnIsNum, hz, -fz_tup, fi, upto1k, intB]
  | non => simp [fnIsNum, fi, intB, upto1k]
  | bl b => simp [fnIsNum, fi, intB, upto1k]
  | str b => simp [fnIsNum, fi, intB, upto1k]
  | _ => simp [dataB] at h
/-! is_fan -/
def fanB : D → Bool
  | .tup l => decide (2 ≤ l.length) && decide (l.length ≤ 12) && l.all from1k
  | _ => false
theorem fan_ok (d : D) (N : Nat) (hd : D.okd N d = true) (hz : d.fz = d) (k : Nat) (m : List Cell) : Ans (call (tabF tb) Gv 100 (k + 3) 3 [d] m) (.bl (fanB d)) m := by
  refine ans_of (k := k + 2) hFan rfl ?_
  have hdat := okd_data hd
  cases d with
  | tup l =>
    have hzl := fzs_id hz
    by_cases h2 : 2 ≤ l.length
    · by_cases h3 : l.length ≤ 12
      · have lc1 := ev_lcG (E := ⟨call (tabF tb) Gv 100 (k + 2), Gv, 100⟩) (e := .call 1 [(.var 1), (.lit (.int 1)), (.lit (.int 1000))]) (tg := .name 1) (k := .seq) (its := [.var 0]) (cs := []) (vs := [1]) (R := [some (.tup l), none]) (m := m) (ds := [.tup l])
          l id (fun x => [some (.tup l), some x]) (fun _ => true) (fun x => .bl (from1k x)) (by simp) (by show some (D.fzs l) = _; rw [hzl]; simp) (by omega) (fun _ _ => rfl) (fun _ _ => rfl) rfl (fun _ _ => rfl) (fun _ _ => rfl) (fun x hx _ => by
            have fx := fz_items hz x hx
            have fe : ∀ s, cback (call (tabF tb) Gv 100 (k + 2) 1 [x, .int 1, .int 1000] m) s = .ok (.bl (from1k x)) { s with m := m } := fun s => (from_ok x (okd_data (okd_items hd x hx)) fx k m).back s
            simp [fx, fe])
        rw [List.filter_eq_self.mpr (fun _ _ => rfl)] at lc1
        have ab := all_bls l from1k
        have i1 : (2 : Int) ≤ (l.length : Int) := by omega
        have i2 : (l.length : Int) ≤ 12 := by omega
        simp [r_is_fan, tyOk, isT, i1, i2, lc1, -x_lc, ab, fanB, h2, h3]
      · have i1 : (2 : Int) ≤ (l.length : Int) := by omega
        have i2 : ¬ (l.length : Int) ≤ 12 := by omega
        simp [r_is_fan, tyOk, isT, i1, i2, fanB, h3]
    · have i1 : ¬ (2 : Int) ≤ (l.length : Int) := by omega
      simp [r_is_fan, tyOk, isT, i1, fanB, h2]
  | _ => first | (simp [dataB] at hdat; done) | simp [r_is_fan, tyOk, isT, fanB]
/-! the law's own reading of it -/
def cDue : C := (.and (.isi (.var 8) .tuple) (.and (.cmp .gt (.bi .len [(.var 8)]) (.lit (.int 1))) (.and (.cmp .lt (.bi .len [(.var 8)]) (.lit (.int 13))) (.cmp .eq (.bi .len [(.lc (.var 12) (.name 12) .seq [(.var 8)] [(.or (.nt (.call 15 [(.var 12), (.lit (.int 1000))])) (.cmp .eq (.var 12) (.lit (.int 0))))] [12])]) (.lit (.int 0))))))
theorem due_ok (d : D) (N : Nat) (hd : D.okd N d = true) (hz : d.fz = d) (m : List Cell) (a0 a1 a2 a3 a4 a5 a6 a7 a9 a10 a11 a12 : Option D) :
    ev Ev cDue ⟨[a0, a1, a2, a3, a4, a5, a6, a7, some d, a9, a10, a11, a12], m⟩ = .ok (.bl (fanB d)) ⟨[a0, a1, a2, a3, a4, a5, a6, a7, some d, a9, a10, a11, a12], m⟩ := by
  have hdat := okd_data hd
  cases d with
  | tup l =>
    have hzl := fzs_id hz
    by_cases h2 : 2 ≤ l.length
    · by_cases h3 : l.length ≤ 12
      · have lc1 := ev_lcG (E := Ev) (e := .var 12) (tg := .name 12) (k := .seq) (its := [.var 8]) (cs := [(.or (.nt (.call 15 [(.var 12), (.lit (.int 1000))])) (.cmp .eq (.var 12) (.lit (.int 0))))]) (vs := [12]) (R := [a0, a1, a2, a3, a4, a5, a6, a7, some (.tup l), a9, a10, a11, a12]) (m := m) (ds := [.tup l])
          l id (fun x => [a0, a1, a2, a3, a4, a5, a6, a7, some (.tup l), a9, a10, a11, some x]) (fun x => !from1k x) id (by simp) (by show some (D.fzs l) = _; rw [hzl]; simp) (by omega) (fun _ _ => rfl) (fun _ _ => rfl) rfl (fun _ _ => rfl) (fun x hx => by
            have fx := fz_items hz x hx
            have fe : ∀ s, cback (call (tabF tb) Gv 100 39 15 [x, .int 1000] m) s = .ok (.bl (upto1k x)) { s with m := m } := fun s => (num_ok x (okd_data (okd_items hd x hx)) fx 37 m).back s
            cases hu : upto1k x with
            | false =>
              have : from1k x = false := by
                cases x <;> simp [upto1k, from1k] at hu ⊢
                omega
              rw [hu] at fe
              simp [fx, fe, this]
            | true =>
              rw [hu] at fe
              cases x <;> simp [upto1k] at hu
              rename_i j
              have : (j == 0) = !from1k (.int j) := by
                rw [Bool.eq_iff_iff]; simp [from1k]; omega
              simp [fe, ← this]) (fun x _ _ => by simp)
        rw [List.map_id] at lc1
        have i1 : (1 : Int) < (l.length : Int) := by omega
        have i2 : (l.length : Int) < 13 := by omega
        have ln : bapp .len [.lst true (l.filter fun x => !from1k x)] = some (.int (l.filter fun x => !from1k x).length) := rfl
        have fb : fanB (.tup l) = decide (((l.filter fun x => !from1k x).length : Int) = 0) := by
          simp only [fanB, h2, h3, decide_true, Bool.true_and]
          rw [Bool.eq_iff_iff]
          simp only [List.all_eq_true, decide_eq_true_eq]
          rw [show ((l.filter fun x => !from1k x).length : Int) = 0 ↔ (l.filter fun x => !from1k x) = [] by rw [← List.length_eq_zero_iff]; omega, List.filter_eq_nil_iff]
          simp
        rw [fb]
        generalize l.filter (fun x => !from1k x) = FF at *
        simp [cDue, tyOk, isT, i1, i2, lc1, -x_lc, ln]
        rw [Bool.beq_eq_decide_eq, decide_eq_decide, ← List.length_eq_zero_iff]
        omega
      · have i1 : (1 : Int) < (l.length : Int) := by omega
        have i2 : ¬ (l.length : Int) < 13 := by omega
        simp [cDue, tyOk, isT, i1, i2, fanB, h3]
    · have i1 : ¬ (1 : Int) < (l.length : Int) := by omega
      simp [cDue, tyOk, isT, i1, fanB, h2]
  | _ => first | (simp [dataB] at hdat; done) | simp [cDue, tyOk, isT, fanB]

/-! the fan's laws -/
def clB (f : List Int) : Bool := decide (f.length % 2 = 0) && decide (pS f f.length = 0)
theorem bends_ok (f : List Int) (hl : f.length ≤ 900) (k : Nat) (m : List Cell) : Ans (call (tabF tb) Gv 100 (k + 2) 4 [tIn f] m) (.lst true (iL ((List.range f.length).map (pS f)))) m := by
  refine ans_of hBd rfl ?_
  have fp : ∀ s, cback (call (tabF tb) Gv 100 (k + 1) 2 [tIn f] m) s = .ok (.lst true (iL (ptL f))) { s with m := m } := fun s => (points_of_ok (gl := Gv) (w := 100) hPt f hl k m).back s
  have e : slo (.lst true (iL (ptL f))) none (some (-1)) = some (.lst true (iL ((List.range f.length).map (pS f)))) := by
    have : iL (ptL f) = iL ((List.range f.length).map (pS f)) ++ [.int (pS f f.length)] := by
      simp only [ptL, List.range_succ, List.map_append, iL, List.map_cons, List.map_nil]
    rw [this]
    show some (D.lst true (cut _ none (some (-1)))) = _
    rw [cut_last]
  have fz := fz_tI f
  generalize iL (ptL f) = L at *
  generalize iL ((List.range f.length).map (pS f)) = L2 at *
  generalize tIn f = TF at *
  simp [r_bends, fz, fp, part, e]
theorem fcloses_ok (f : List Int) (hl : f.length ≤ 900) (k : Nat) (m : List Cell) : Ans (call (tabF tb) Gv 100 (k + 2) 5 [tIn f] m) (.bl (clB f)) m := by
  refine ans_of hFc rfl ?_
  have fp : ∀ s, cback (call (tabF tb) Gv 100 (k + 1) 2 [tIn f] m) s = .ok (.lst true (iL (ptL f))) { s with m := m } := fun s => (points_of_ok (gl := Gv) (w := 100) hPt f hl k m).back s
  have e : ixo m (.lst true (iL (ptL f))) (.int (-1)) = some (.int (pS f f.length)) := by
    have : iL (ptL f) = iL ((List.range f.length).map (pS f)) ++ [.int (pS f f.length)] := by
      simp only [ptL, List.range_succ, List.map_append, iL, List.map_cons, List.map_nil]
    rw [this]
    exact atD_neg _ _
  have fz := fz_tI f
  have ln := len_tI f
  have a3 := m2 f.length
  have a4 := eq0 f.length
  generalize iL (ptL f) = L at *
  generalize tIn f = TF at *
  by_cases h : f.length % 2 = 0
  · have hi : (f.length : Int) % 2 = 0 := by omega
    simp only [h, decide_true] at a3 a4
    simp [r_fan_closes, fz, ln, a3, a4, fp, e, clB, h, hi]
    rw [Bool.beq_eq_decide_eq]
  · have hi : ¬ (f.length : Int) % 2 = 0 := by omega
    simp only [h, decide_false] at a3 a4
    simp [r_fan_closes, fz, ln, a3, a4, fp, e, clB, h, hi]
theorem lcloses_ok (f : List Int) (hl : f.length ≤ 900) (k : Nat) (m : List Cell) : Ans (call (tabF tb) Gv 100 (k + 1) 18 [tIn f] m) (.bl (clB f)) m := by
  refine ans_of hLC rfl ?_
  have lc := alt_lc ⟨call (tabF tb) Gv 100 k, Gv, 100⟩ (.ite (.cmp .eq (.bin .mod (.bi .int [(.var 1)]) (.lit (.int 2))) (.lit (.int 0))) (.ix (.var 0) (.var 1)) (.bin .sub (.lit (.int 0)) (.ix (.var 0) (.var 1)))) 0 1 (.bi .len [(.var 0)]) f f.length (Nat.le_refl _) hl [some (tIn f), none] m (by
    have ln := len_tI f
    simp only [x_bi, xs_cons, xs_nil, x_var, g_0, Out.of_some, Out.bind_ok, ln]) (by simp) (fun j hj => alt_el _ 0 1 f j hj _ rfl rfl)
  have ln := len_tI f
  have a3 := m2 f.length
  have a4 := eq0 f.length
  have bi : bapp .int [.int (f.length : Int)] = some (.int f.length) := rfl
  have hb : r__law_closes.b = [.ret (.and (.cmp .eq (.bin .mod (.bi .int [(.bi .len [(.var 0)])]) (.lit (.int 2))) (.lit (.int 0))) (.cmp .eq (.bi .sum [(.lc (.ite (.cmp .eq (.bin .mod (.bi .int [(.var 1)]) (.lit (.int 2))) (.lit (.int 0))) (.ix (.var 0) (.var 1)) (.bin .sub (.lit (.int 0)) (.ix (.var 0) (.var 1)))) (.name 1) .rng [(.bi .len [(.var 0)])] [] [1])]) (.lit (.int 0))))] := rfl
  show Ret (execs _ r__law_closes.b ⟨[some (tIn f), none], m⟩) _ _
  rw [hb]
  generalize tIn f = TF at *
  by_cases h : f.length % 2 = 0
  · have hi : (f.length : Int) % 2 = 0 := by omega
    simp only [h, decide_true] at a3 a4
    have c1 : ev ⟨call (tabF tb) Gv 100 k, Gv, 100⟩ (.cmp .eq (.bin .mod (.bi .int [(.bi .len [(.var 0)])]) (.lit (.int 2))) (.lit (.int 0))) ⟨[some TF, none], m⟩ = .ok (.bl true) ⟨[some TF, none], m⟩ := by simp [ln, a3, a4, bi, hi]
    have c2 : ∀ e, ev ⟨call (tabF tb) Gv 100 k, Gv, 100⟩ e ⟨[some TF, none], m⟩ = .ok (.int (pS f f.length)) ⟨[some TF, none], m⟩ → ev ⟨call (tabF tb) Gv 100 k, Gv, 100⟩ (.cmp .eq e (.lit (.int 0))) ⟨[some TF, none], m⟩ = .ok (.bl (pS f f.length == 0)) ⟨[some TF, none], m⟩ := fun e he => by rw [x_cmp, he]; rfl
    rw [ks_cons, k_ret, x_and, c1, Out.bind_ok, tobl_bl, Out.of_some, Out.bind_ok, if_pos rfl, c2 _ lc]
    simp [clB, h]
    rw [Bool.beq_eq_decide_eq]
  · have hi : ¬ (f.length : Int) % 2 = 0 := by omega
    simp only [h, decide_false] at a3 a4
    simp [ln, a3, a4, bi, clB, h, hi]
/-! a fan without a crease -/
def opA (f : List Int) : D := .tup (.int (f.getD (f.length - 1) 0 + f.getD 0 0) :: cut (iL f) (some 1) (some (-1)))
def opB (f : List Int) (k : Nat) : D := .tup (cut (iL f) none (some ((k : Int) - 1)) ++ [.int (f.getD (k - 1) 0 + f.getD k 0)] ++ cut (iL f) (some ((k : Int) + 1)) none)
def exA (fv : Nat) : C := (.bin .add (.tup [(.bin .add (.ix (.var fv) (.neg (.lit (.int 1)))) (.ix (.var fv) (.lit (.int 0))))]) (.slc (.var fv) (.lit (.int 1)) (.neg (.lit (.int 1)))))
def exB (fv kv : Nat) : C := (.bin .add (.bin .add (.slc (.var fv) .abs (.bin .sub (.var kv) (.lit (.int 1)))) (.tup [(.bin .add (.ix (.var fv) (.bin .sub (.var kv) (.lit (.int 1)))) (.ix (.var fv) (.var kv)))])) (.slc (.var fv) (.bin .add (.var kv) (.lit (.int 1))) .abs))
theorem exA_ok (E : PV.Env) (fv : Nat) (f : List Int) (h0 : 0 < f.length) (hl : f.length ≤ 400) (s : S) (hf : gt s.r fv = some (tIn f)) : ev E (exA fv) s = .ok (opA f) s := by
  have a1 : ixo s.m (tIn f) (.int (-1)) = some (.int (f.getD (f.length - 1) 0)) := by
    rw [getD_lt f _ (by omega)]; exact atD_m1 f h0
  have a2 : ixo s.m (tIn f) (.int 0) = some (.int (f.getD 0 0)) := by
    rw [getD_lt f 0 h0]; exact iL_at f 0 h0
  have a3 : slo (tIn f) (some 1) (some (-1)) = some (.tup (cut (iL f) (some 1) (some (-1)))) := rfl
  have a4 := b_addT [.int (f.getD (f.length - 1) 0 + f.getD 0 0)] (cut (iL f) (some 1) (some (-1))) (by have := cut_le (iL f) (some 1) (some (-1)); simp at this ⊢; omega)
  unfold opA
  rw [List.singleton_append] at a4
  generalize cut (iL f) (some 1) (some (-1)) = CC at *
  generalize f.getD (f.length - 1) 0 = u at *
  generalize f.getD 0 0 = v at *
  generalize tIn f = TF at *
  simp [exA, hf, a1, a2, a3, a4, part]
theorem exB_ok (E : PV.Env) (fv kv : Nat) (f : List Int) (k : Nat) (h0 : 0 < k) (hk : k < f.length) (hl : f.length ≤ 400) (s : S) (hf : gt s.r fv = some (tIn f)) (hkv : gt s.r kv = some (.int (k : Nat))) : ev E (exB fv kv) s = .ok (opB f k) s := by
  have a1 : ixo s.m (tIn f) (.int ((k : Int) - 1)) = some (.int (f.getD (k - 1) 0)) := by
    rw [getD_lt f _ (by omega), show (k : Int) - 1 = ((k - 1 : Nat) : Int) by omega]; exact iL_at f (k - 1) (by omega)
  have a2 : ixo s.m (tIn f) (.int (k : Nat)) = some (.int (f.getD k 0)) := by
    rw [getD_lt f k hk]; exact iL_at f k hk
  have a3 : slo (tIn f) none (some ((k : Int) - 1)) = some (.tup (cut (iL f) none (some ((k : Int) - 1)))) := rfl
  have a5 : slo (tIn f) (some ((k : Int) + 1)) none = some (.tup (cut (iL f) (some ((k : Int) + 1)) none)) := rfl
  have l1 := cut_le (iL f) none (some ((k : Int) - 1))
  have l2 := cut_le (iL f) (some ((k : Int) + 1)) none
  rw [List.length_map] at l1 l2
  have a4 := b_addT (cut (iL f) none (some ((k : Int) - 1))) [.int (f.getD (k - 1) 0 + f.getD k 0)] (by simp; omega)
  have a6 := b_addT (cut (iL f) none (some ((k : Int) - 1)) ++ [.int (f.getD (k - 1) 0 + f.getD k 0)]) (cut (iL f) (some ((k : Int) + 1)) none) (by simp; omega)
  unfold opB
  generalize f.getD (k - 1) 0 = u at *
  generalize f.getD k 0 = v at *
  generalize cut (iL f) none (some ((k : Int) - 1)) ++ [.int (u + v)] = C3 at *
  generalize cut (iL f) none (some ((k : Int) - 1)) = C1 at *
  generalize cut (iL f) (some ((k : Int) + 1)) none = C2 at *
  generalize tIn f = TF at *
  simp [exB, hf, hkv, a1, a2, a3, a4, a5, a6, part]
def opF (f : List Int) (k : Nat) : D := if k = 0 then opA f else opB f k
theorem dats_iL (n : Nat) (f : List Int) : D.dats n (iL f) = true := by
  induction f with
  | nil => cases n <;> rfl
  | cons x f ih => simp only [iL, List.map_cons, D.dats] at *; rw [ih]; cases n <;> rfl
theorem cut_iL (f : List Int) (a b : Option Int) : cut (iL f) a b = iL (cut f a b) := (cut_map D.int f a b).symm
theorem opF_form (f : List Int) (k : Nat) : ∃ g : List Int, opF f k = tIn g ∧ g.length ≤ 2 * f.length + 1 := by
  unfold opF
  split
  · refine ⟨(f.getD (f.length - 1) 0 + f.getD 0 0) :: cut f (some 1) (some (-1)), ?_, ?_⟩
    · unfold opA; rw [cut_iL]; rfl
    · have := cut_le f (some 1) (some (-1)); simp; omega
  · refine ⟨cut f none (some ((k : Int) - 1)) ++ [f.getD (k - 1) 0 + f.getD k 0] ++ cut f (some ((k : Int) + 1)) none, ?_, ?_⟩
    · unfold opB; rw [cut_iL, cut_iL]; simp [iL]
    · have := cut_le f none (some ((k : Int) - 1)); have := cut_le f (some ((k : Int) + 1)) none; simp; omega
theorem opened_ok (f : List Int) (k : Nat) (h3 : 3 ≤ f.length) (hk : k < f.length) (hl : f.length ≤ 400) (j : Nat) (m : List Cell) : Ans (call (tabF tb) Gv 100 (j + 1) 6 [tIn f, .int (k : Nat)] m) (opF f k) m := by
  refine ans_of hOp rfl ?_
  have hb : r_opened_fan.b = [.ite (.cmp .lt (.bi .len [(.var 0)]) (.lit (.int 3))) [.rai 0 [] [(.var 0)]] [], .ite (.cmp .eq (.var 1) (.lit (.int 0))) [.ret (exA 0)] [], .ret (exB 0 1)] := rfl
  have ln := len_tI f
  have i3 : ¬ (f.length : Int) < 3 := by omega
  show Ret (execs _ r_opened_fan.b ⟨[some (tIn f), some (.int (k : Nat))], m⟩) _ _
  rw [hb]
  by_cases h : k = 0
  · subst h
    have ea := exA_ok ⟨call (tabF tb) Gv 100 j, Gv, 100⟩ 0 f (by omega) hl ⟨[some (tIn f), some (.int ((0 : Nat) : Int))], m⟩ rfl
    generalize tIn f = TF at *
    simp [ln, i3]
    simp [ln, i3] at ea
    simp [ea, opF]
  · have eb := exB_ok ⟨call (tabF tb) Gv 100 j, Gv, 100⟩ 0 1 f k (by omega) hk hl ⟨[some (tIn f), some (.int (k : Nat))], m⟩ rfl rfl
    have hk' : ¬ (k : Int) = 0 := by omega
    generalize tIn f = TF at *
    simp [ln, i3, h, hk', eb, opF]
theorem opened_few (f : List Int) (k : Nat) (h3 : f.length < 3) (j : Nat) (m : List Cell) : Exq (call (tabF tb) Gv 100 (j + 1) 6 [tIn f, .int (k : Nat)] m) ⟨0, []⟩ m := by
  refine exq_of hOp rfl ?_
  have hb : r_opened_fan.b = [.ite (.cmp .lt (.bi .len [(.var 0)]) (.lit (.int 3))) [.rai 0 [] [(.var 0)]] [], .ite (.cmp .eq (.var 1) (.lit (.int 0))) [.ret (exA 0)] [], .ret (exB 0 1)] := rfl
  have ln := len_tI f
  have i3 : (f.length : Int) < 3 := by omega
  refine ⟨[some (tIn f), some (.int (k : Nat))], ?_⟩
  show execs _ r_opened_fan.b ⟨[some (tIn f), some (.int (k : Nat))], m⟩ = _
  rw [hb]
  generalize tIn f = TF at *
  simp [ln, i3, raiS]
def dueO (f : List Int) (k : Nat) : D := if f.length < 3 then .str "few" else .tup [.str "told", opF f k]
theorem lopened_ok (f : List Int) (k : Nat) (hk : k < f.length) (hl : f.length ≤ 400) (j : Nat) (m : List Cell) : Ans (call (tabF tb) Gv 100 (j + 2) 17 [tIn f, .int (k : Nat)] m) (dueO f k) m := by
  refine ans_of hLO rfl ?_
  have fz := fz_tI f
  by_cases h : f.length < 3
  · have fe : ∀ s, cback (call (tabF tb) Gv 100 (j + 1) 6 [tIn f, .int (k : Nat)] m) s = .exc ⟨0, []⟩ { s with m := m } := fun s => (opened_few f k h j m).back s
    have d : dueO f k = .str "few" := if_pos h
    rw [d]
    generalize tIn f = TF at *
    simp [r__law_opened, fz, fe, tryS, hdS, hsS, heS, hbS, haS, scal]
  · have fe : ∀ s, cback (call (tabF tb) Gv 100 (j + 1) 6 [tIn f, .int (k : Nat)] m) s = .ok (opF f k) { s with m := m } := fun s => (opened_ok f k (by omega) hk hl j m).back s
    have d : dueO f k = .tup [.str "told", opF f k] := if_neg h
    rw [d]
    generalize tIn f = TF at *
    generalize opF f k = OO at *
    simp [r__law_opened, fz, fe, tryS]

/-! one more crease -/
def ins (f : List Int) (k : Nat) (a : Int) : List Int := f.take k ++ [a, f.getD k 0 - a] ++ f.drop (k + 1)
def exI (fv kv av : Nat) : C := (.bin .add (.bin .add (.slc (.var fv) .abs (.var kv)) (.tup [(.var av), (.bin .sub (.ix (.var fv) (.var kv)) (.var av))])) (.slc (.var fv) (.bin .add (.var kv) (.lit (.int 1))) .abs))
theorem ins_len (f : List Int) (k : Nat) (a : Int) : (ins f k a).length ≤ f.length + 2 := by
  unfold ins
  simp only [List.length_append, List.length_take, List.length_drop, List.length_cons, List.length_nil]
  omega
theorem exI_ok (E : PV.Env) (fv kv av : Nat) (f : List Int) (k : Nat) (a : Int) (hk : k < f.length) (hl : f.length ≤ 400) (s : S) (h1 : gt s.r fv = some (tIn f)) (h2 : gt s.r kv = some (.int (k : Nat))) (h3 : gt s.r av = some (.int a)) :
    ev E (exI fv kv av) s = .ok (tIn (ins f k a)) s := by
  have a1 : slo (tIn f) none (some (k : Int)) = some (.tup (iL (f.take k))) := by
    show some (D.tup (cut (iL f) none (some (k : Int)))) = _
    rw [cut_to, ← List.map_take]
  have a2 : ixo s.m (tIn f) (.int (k : Nat)) = some (.int (f.getD k 0)) := by
    rw [getD_lt f k hk]; exact iL_at f k hk
  have a3 : slo (tIn f) (some ((k : Int) + 1)) none = some (.tup (iL (f.drop (k + 1)))) := by
    show some (D.tup (cut (iL f) (some ((k + 1 : Nat) : Int)) none)) = _
    rw [cut_from, ← List.map_drop]
  have a4 := b_addT (iL (f.take k)) [.int a, .int (f.getD k 0 - a)] (by simp; omega)
  have a5 := b_addT (iL (f.take k) ++ [.int a, .int (f.getD k 0 - a)]) (iL (f.drop (k + 1))) (by simp; omega)
  have e : tIn (ins f k a) = .tup (iL (f.take k) ++ [.int a, .int (f.getD k 0 - a)] ++ iL (f.drop (k + 1))) := by
    simp only [ins, tIn, iL, List.map_append, List.map_cons, List.map_nil]
  rw [e]
  generalize f.getD k 0 = v at *
  generalize iL (f.take k) ++ [.int a, .int (v - a)] = C3 at *
  generalize iL (f.take k) = C1 at *
  generalize iL (f.drop (k + 1)) = C2 at *
  generalize tIn f = TF at *
  simp [exI, h1, h2, h3, a1, a2, a3, a4, a5, part]
def wk (f : List Int) (k : Nat) (as : List Int) : List D := (as.filter fun a => clB (ins f k a)).map fun a => .tup [.int (k : Nat), .int a]
def asF (f : List Int) (k : Nat) : List Int := (List.range (f.getD k 0 - 1).toNat).map fun (j : Nat) => 1 + (j : Int)
def wW (f : List Int) (j : Nat) : List D := (List.range j).flatMap fun k => wk f k (asF f k)
theorem wk_len (f : List Int) (k : Nat) (as : List Int) : (wk f k as).length ≤ as.length := by
  unfold wk; rw [List.length_map]; exact List.length_filter_le _ _
theorem wk_snoc (f : List Int) (k : Nat) (a : Int) (as : List Int) : wk f k (a :: as) = (if clB (ins f k a) then [.tup [.int (k : Nat), .int a]] else []) ++ wk f k as := by
  unfold wk
  rw [List.filter_cons]
  split <;> simp
theorem itm_as (f : List Int) (k : Nat) (hb : (f.getD k 0).natAbs ≤ 1000) : itm .rng [.int 1, .int (f.getD k 0)] = some (iL (asF f k)) := by
  rw [itm_rngA 1 _ (by decide) (by omega), asF, iL, List.map_map]
  rfl
theorem asF_len (f : List Int) (k : Nat) (hb : (f.getD k 0).natAbs ≤ 1000) : (asF f k).length ≤ 1000 := by
  unfold asF; rw [List.length_map, List.length_range]; omega
theorem wW_len (f : List Int) (hb : ∀ k, (f.getD k 0).natAbs ≤ 1000) (j : Nat) : (wW f j).length ≤ 1000 * j := by
  induction j with
  | zero => simp [wW]
  | succ j ih =>
    have := wk_len f j (asF f j); have := asF_len f j (hb j)
    simp only [wW, List.range_succ, List.flatMap_append, List.length_append, List.flatMap_singleton] at ih ⊢
    omega
def bI : List K := [.ite (.call 5 [exI 0 2 3]) [.app 1 (.tup [(.var 2), (.var 3)])] []]
theorem w_inner (f : List Int) (k : Nat) (hk : k < f.length) (hl : f.length ≤ 400) (j : Nat) (m : List Cell) : ∀ (as : List Int) (acc : List D) (o3 : Option D), acc.length + as.length < 1000000 → ∃ o3', forB ⟨call (tabF tb) Gv 100 (j + 2), Gv, 100⟩ (.name 3) bI (iL as) ⟨[some (tIn f), some (.lst true acc), some (.int (k : Nat)), o3], m⟩ =
    .ok .next ⟨[some (tIn f), some (.lst true (acc ++ wk f k as)), some (.int (k : Nat)), o3'], m⟩
  | [], acc, o3, _ => ⟨o3, by simp [forB_nil, wk]⟩
  | a :: as, acc, o3, h => by
    have fc : ∀ s, cback (call (tabF tb) Gv 100 (j + 2) 5 [tIn (ins f k a)] m) s = .ok (.bl (clB (ins f k a))) { s with m := m } := fun s => (fcloses_ok (ins f k a) (by have := ins_len f k a; omega) j m).back s
    have ex := exI_ok ⟨call (tabF tb) Gv 100 (j + 2), Gv, 100⟩ 0 2 3 f k a hk hl ⟨[some (tIn f), some (.lst true acc), some (.int (k : Nat)), some (.int a)], m⟩ rfl rfl rfl
    have fz := fz_tI (ins f k a)
    simp only [List.length_cons] at h
    have b : execs ⟨call (tabF tb) Gv 100 (j + 2), Gv, 100⟩ bI ⟨[some (tIn f), some (.lst true acc), some (.int (k : Nat)), some (.int a)], m⟩ = .ok .next ⟨[some (tIn f), some (.lst true (acc ++ if clB (ins f k a) then [.tup [.int (k : Nat), .int a]] else [])), some (.int (k : Nat)), some (.int a)], m⟩ := by
      have ap := appV_l2 acc (.tup [.int (k : Nat), .int a]) (by omega)
      generalize tIn f = TF at *
      generalize tIn (ins f k a) = TI at *
      cases hc : clB (ins f k a) with
      | true => rw [hc] at fc; simp [bI, ex, fz, fc, ap]
      | false => rw [hc] at fc; simp [bI, ex, fz, fc]
    obtain ⟨o3', ih⟩ := w_inner f k hk hl j m as (acc ++ if clB (ins f k a) then [.tup [.int (k : Nat), .int a]] else []) (some (.int a)) (by
      rw [List.length_append]
      split <;> simp <;> omega)
    refine ⟨o3', ?_⟩
    rw [iL, List.map_cons, forB_cons, st_name, Out.of_some, Out.bind_ok]
    show Out.bind (execs _ bI ⟨[some (tIn f), some (.lst true acc), some (.int (k : Nat)), some (.int a)], m⟩) _ = _
    rw [b, Out.bind_ok]
    show forB _ _ _ (iL as) _ = _
    rw [ih, wk_snoc, List.append_assoc]
theorem ways_ok (f : List Int) (hl : f.length ≤ 400) (hb : ∀ k, (f.getD k 0).natAbs ≤ 1000) (j : Nat) (m : List Cell) : Ans (call (tabF tb) Gv 100 (j + 3) 7 [tIn f] m) (.lst true (wW f f.length)) m := by
  refine ans_of (k := j + 2) hWy rfl ?_
  have hbd : r_ways_to_close.b = [.bset 1 (.lst []), .forr (.name 2) .rng [(.bi .len [(.var 0)])] [.forr (.name 3) .rng [(.lit (.int 1)), (.ix (.var 0) (.var 2))] bI], .ret (.mvar 1)] := rfl
  have il := itm_rngN f.length (by omega)
  have ln := len_tI f
  obtain ⟨s', e, o2, o3, rfl⟩ := forB_rngI (E := ⟨call (tabF tb) Gv 100 (j + 2), Gv, 100⟩) (tg := .name 2) (b := [.forr (.name 3) .rng [(.lit (.int 1)), (.ix (.var 0) (.var 2))] bI]) (fun i s => ∃ o2 o3, s = ⟨[some (tIn f), some (.lst true (wW f i)), o2, o3], m⟩) f.length (fun i hi s hs => by
    obtain ⟨o2, o3, rfl⟩ := hs
    obtain ⟨o3', h⟩ := w_inner f i hi hl j m (asF f i) (wW f i) o3 (by have := wW_len f hb i; have := asF_len f i (hb i); have : 1000 * i ≤ 1000 * 400 := Nat.mul_le_mul_left _ (by omega); omega)
    have a2 : ixo m (tIn f) (.int (i : Nat)) = some (.int (f.getD i 0)) := by
      rw [getD_lt f i hi]; exact iL_at f i hi
    have it := itm_as f i (hb i)
    refine ⟨_, _, rfl, ?_, some (.int (i : Nat)), o3', rfl⟩
    have hw : wW f (i + 1) = wW f i ++ wk f i (asF f i) := by
      simp only [wW, List.range_succ, List.flatMap_append, List.flatMap_singleton]
    rw [hw]
    generalize wW f i ++ wk f i (asF f i) = W2 at *
    generalize wW f i = W1 at *
    generalize iL (asF f i) = AA at *
    generalize tIn f = TF at *
    generalize f.getD i 0 = v at *
    simp [a2, it, h]) ⟨[some (tIn f), some (.lst true []), none, none], m⟩ ⟨none, none, rfl⟩
  show Ret (execs _ r_ways_to_close.b ⟨[some (tIn f), none, none, none], m⟩) _ _
  rw [hbd]
  generalize wW f f.length = WW at *
  generalize tIn f = TF at *
  simp [ln, il, e]

/-! the fan that the law makes -/
theorem alt_elP (E : PV.Env) (fv kv : Nat) (o : Bool) (f : List Int) (k : Nat) (hk : k < f.length) (s : S) (h1 : gt s.r fv = some (.lst o (iL f))) (h2 : gt s.r kv = some (.int (k : Nat))) :
    ev E (.ite (.cmp .eq (.bin .mod (.bi .int [(.var kv)]) (.lit (.int 2))) (.lit (.int 0))) (.pix fv (.var kv)) (.bin .sub (.lit (.int 0)) (.pix fv (.var kv)))) s = .ok (.int (sg k (f.getD k 0))) s := by
  have a2 := ixo_lI s.m o f k hk
  have a3 := m2 k
  have a4 := eq0 k
  have g := getD_lt f k hk
  have bi : bapp .int [.int (k : Int)] = some (.int k) := rfl
  rw [g]
  generalize iL f = TF at *
  by_cases h : k % 2 = 0
  · have hi : (k : Int) % 2 = 0 := by omega
    simp only [h, decide_true] at a3 a4
    simp [-ixo_lst, h1, h2, a2, a3, a4, bi, sg, h, hi, D.isz]
  · have hi : ¬ (k : Int) % 2 = 0 := by omega
    simp only [h, decide_false] at a3 a4
    simp [-ixo_lst, h1, h2, a2, a3, a4, bi, sg, h, hi, D.isz]
def FanOk (f : List Int) : Prop := 2 ≤ f.length ∧ f.length ≤ 12 ∧ ∀ k, (f.getD k 0).natAbs ≤ 200
def Sm (c : Nat) (f : List Int) : Prop := ∀ k, (f.getD k 0).natAbs ≤ c
theorem sm_nil (c : Nat) : Sm c [] := fun k => by simp
theorem sm_cons {c : Nat} {x : Int} {f : List Int} (h : x.natAbs ≤ c) (hf : Sm c f) : Sm c (x :: f)
  | 0 => by simpa using h
  | k + 1 => by simpa using hf k
theorem sm_set {c : Nat} {x : Int} (h : x.natAbs ≤ c) : ∀ {f : List Int} (j : Nat), Sm c f → Sm c (f.set j x)
  | [], j, hf => hf
  | y :: f, 0, hf => by
    refine sm_cons h ?_
    intro k; have := hf (k + 1); simpa using this
  | y :: f, j + 1, hf => by
    refine sm_cons (by have := hf 0; simpa using this) (sm_set h j ?_)
    intro k; have := hf (k + 1); simpa using this
theorem sm_take {c : Nat} : ∀ {f : List Int} (j : Nat), Sm c f → Sm c (f.take j)
  | [], j, hf => by simpa using hf
  | y :: f, 0, hf => by simpa using sm_nil c
  | y :: f, j + 1, hf => by
    refine sm_cons (by have := hf 0; simpa using this) (sm_take j ?_)
    intro k; have := hf (k + 1); simpa using this
theorem sm_le {a b : Nat} {f : List Int} (h : Sm a f) (hab : a ≤ b) : Sm b f := fun k => Nat.le_trans (h k) hab
theorem pS_le {c : Nat} {f : List Int} (h : Sm c f) : ∀ n, (pS f n).natAbs ≤ c * n
  | 0 => by simp [pS]
  | n + 1 => by
    have a := pS_le h n
    have b := h n
    have : (sg n (f.getD n 0)).natAbs ≤ c := by unfold sg; split <;> omega
    rw [Nat.mul_succ]
    simp only [pS]; omega
theorem ints_of : ∀ {ds : List D}, (∀ d ∈ ds, ∃ v : Int, d = .int v ∧ v.natAbs ≤ 9) → ∃ f : List Int, ds = iL f ∧ Sm 9 f
  | [], _ => ⟨[], rfl, sm_nil _⟩
  | d :: ds, h => by
    obtain ⟨v, rfl, hv⟩ := h d (by simp)
    obtain ⟨f, rfl, hf⟩ := ints_of (ds := ds) fun d hd => h d (by simp [hd])
    exact ⟨v :: f, rfl, sm_cons hv hf⟩
abbrev E8 : PV.Env := ⟨call (tabF tb) Gv 100 38, Gv, 100⟩
abbrev bF : List K := r__law_fan.b
theorem lf0 {m : List Cell} (hp : PoolOk m) : ∃ (n : Nat) (m' : List Cell), 2 ≤ n ∧ n ≤ 12 ∧ PoolOk m' ∧ exec E8 (bF.getD 0 .skip) ⟨[some (.ref 0), some (.int 12), none, none, none, none], m⟩ = .ok .next ⟨[some (.ref 0), some (.int 12), some (.int (n : Nat)), none, none, none], m'⟩ := by
  obtain ⟨h, m', h0, h1, p, hd⟩ := draw_ok (gl := Gv) (w := 100) (many := 6) hS hD hp (by decide) (by decide)
  have fd : ∀ s, cback (call (tabF tb) Gv 100 38 12 [.ref 0, .int 6] m) s = .ok (.int h) { s with m := m' } := fun s => (hd 36).back s
  have e6 : bop .fdiv (.int 12) (.int 2) = some (.int 6) := by kernel_rfl
  refine ⟨(2 * (1 + h)).toNat, m', by omega, by omega, p, ?_⟩
  rw [show (((2 * (1 + h)).toNat : Nat) : Int) = 2 * (1 + h) by omega]
  have e2 := b_mul 2 (1 + h) rfl
  simp [bF, r__law_fan, e6, fd, e2]
theorem lf1 {m : List Cell} (hp : PoolOk m) (n : Nat) (hn : n ≤ 12) : ∃ (f : List Int) (m' : List Cell), f.length = n ∧ Sm 9 f ∧ PoolOk m' ∧ exec E8 (bF.getD 1 .skip) ⟨[some (.ref 0), some (.int 12), some (.int (n : Nat)), none, none, none], m⟩ = .ok .next ⟨[some (.ref 0), some (.int 12), some (.int (n : Nat)), some (.lst true (iL f)), none, none], m'⟩ := by
  obtain ⟨ds, m', hds, hdl, p, he⟩ := ev_lcD (E := E8) (e := (.bin .add (.lit (.int 1)) (.call 12 [(.var 0), (.ix (.tup [(.lit (.int 2)), (.lit (.int 4)), (.lit (.int 9))]) (.call 12 [(.var 0), (.lit (.int 3))]))]))) (i := 5) (k := .rng) (its := [.var 2]) (R := [some (.ref 0), some (.int 12), some (.int (n : Nat)), none, none, none]) (m := m) (m1 := m) (ds := [.int n]) (l := rgD n)
    (fun d => ∃ v : Int, d = .int v ∧ v.natAbs ≤ 9) (by simp) (itm_rngN n (by omega)) (by simp; omega) hp (fun x m hp => by
    obtain ⟨t, m1, t0, t1, p1, ht⟩ := draw_ok (gl := Gv) (w := 100) (many := 3) hS hD hp (by decide) (by decide)
    have ft : ∀ s, cback (call (tabF tb) Gv 100 38 12 [.ref 0, .int 3] m) s = .ok (.int t) { s with m := m1 } := fun s => (ht 36).back s
    obtain ⟨q, hq, q0, q1⟩ : ∃ q : Int, (∀ m, ixo m (.tup [.int 2, .int 4, .int 9]) (.int t) = some (.int q)) ∧ 0 < q ∧ q ≤ 9 := by
      have : t = 0 ∨ t = 1 ∨ t = 2 := by omega
      rcases this with rfl | rfl | rfl
      · exact ⟨2, fun _ => rfl, by decide, by decide⟩
      · exact ⟨4, fun _ => rfl, by decide, by decide⟩
      · exact ⟨9, fun _ => rfl, by decide, by decide⟩
    obtain ⟨v, m2, v0, v1, p2, hv⟩ := draw_ok (gl := Gv) (w := 100) (many := q) hS hD p1 q0 (by omega)
    have fv : ∀ s, cback (call (tabF tb) Gv 100 38 12 [.ref 0, .int q] m1) s = .ok (.int v) { s with m := m2 } := fun s => (hv 36).back s
    refine ⟨.int (1 + v), m2, ⟨_, rfl, by omega⟩, p2, ?_⟩
    simp [-ixo_tup, ft, hq, fv])
  obtain ⟨f, rfl, hf⟩ := ints_of hds
  refine ⟨f, m', by simpa using hdl, hf, p, ?_⟩
  show exec E8 (.bset 3 _) _ = _
  simp [-x_lc, he]
theorem lf2 {m : List Cell} (hp : PoolOk m) (f : List Int) (h2 : 2 ≤ f.length) (hn : f.length ≤ 12) (hf : Sm 9 f) : ∃ (g : List Int) (o : Option D) (m' : List Cell), g.length = f.length ∧ Sm 200 g ∧ PoolOk m' ∧ exec E8 (bF.getD 2 .skip) ⟨[some (.ref 0), some (.int 12), some (.int (f.length : Nat)), some (.lst true (iL f)), none, none], m⟩ = .ok .next ⟨[some (.ref 0), some (.int 12), some (.int (f.length : Nat)), some (.lst true (iL g)), o, none], m'⟩ := by
  obtain ⟨t, m1, t0, t1, p1, ht⟩ := draw_ok (gl := Gv) (w := 100) (many := 5) hS hD hp (by decide) (by decide)
  have ft : ∀ s, cback (call (tabF tb) Gv 100 38 12 [.ref 0, .int 5] m) s = .ok (.int t) { s with m := m1 } := fun s => (ht 36).back s
  by_cases h0 : 0 < t
  · have tot := alt_lc E8 (.ite (.cmp .eq (.bin .mod (.bi .int [(.var 5)]) (.lit (.int 2))) (.lit (.int 0))) (.pix 3 (.var 5)) (.bin .sub (.lit (.int 0)) (.pix 3 (.var 5)))) 3 5 (.var 2) f f.length (Nat.le_refl _) (by omega)
      [some (.ref 0), some (.int 12), some (.int (f.length : Nat)), some (.lst true (iL f)), none, none] m1 (by simp) (by simp) (fun k hk => alt_elP E8 3 5 true f k hk _ rfl rfl)
    have bd := pS_le hf f.length
    have bd2 : 9 * f.length ≤ 108 := by omega
    have ln0 : (iL f).length = f.length := List.length_map ..
    by_cases hT : 0 < pS f f.length
    · refine ⟨f.set 1 (f.getD 1 0 + pS f f.length), some (.int (pS f f.length)), m1, by simp, sm_set (by have := hf 1; omega) 1 (sm_le hf (by decide)), p1, ?_⟩
      have a1 : ∀ m, ixo m (.lst true (iL f)) (.int 1) = some (.int (f.getD 1 0)) := fun m => by rw [getD_lt f 1 (by omega)]; exact iL_at f 1 (by omega)
      have ss : ∀ v : Int, iL (f.set 1 v) = (iL f).set 1 (.int v) := fun v => by simp only [iL, List.map_set]
      have ix1 : ixn (iL f).length 1 = some 1 := by unfold ixn; rw [if_pos (by decide), if_pos (by rw [ln0]; omega)]; rfl
      rw [ss]
      generalize iL f = L at *
      generalize f.getD 1 0 = u at *
      generalize pS f f.length = T at *
      show exec E8 (.ite _ [.set 4 _, _] _) _ = _
      simp [-ixo_lst, -x_lc, -x_bi, ft, h0, tot, hT, a1, stix, ix1, D.isz]
    · refine ⟨f.set 0 (f.getD 0 0 - pS f f.length), some (.int (pS f f.length)), m1, by simp, sm_set (by have := hf 0; omega) 0 (sm_le hf (by decide)), p1, ?_⟩
      have a1 : ∀ m, ixo m (.lst true (iL f)) (.int 0) = some (.int (f.getD 0 0)) := fun m => by rw [getD_lt f 0 (by omega)]; exact iL_at f 0 (by omega)
      have ss : ∀ v : Int, iL (f.set 0 v) = (iL f).set 0 (.int v) := fun v => by simp only [iL, List.map_set]
      have ix1 : ixn (iL f).length 0 = some 0 := by unfold ixn; rw [if_pos (by decide), if_pos (by rw [ln0]; omega)]; rfl
      rw [ss]
      generalize iL f = L at *
      generalize f.getD 0 0 = u at *
      generalize pS f f.length = T at *
      show exec E8 (.ite _ [.set 4 _, _] _) _ = _
      simp [-ixo_lst, -x_lc, -x_bi, ft, h0, tot, hT, a1, stix, ix1, D.isz]
  · refine ⟨f, none, m1, rfl, sm_le hf (by decide), p1, ?_⟩
    show exec E8 (.ite _ _ []) _ = _
    simp [ft, h0]
theorem lf3 {m : List Cell} (hp : PoolOk m) (f : List Int) (o : Option D) (h2 : 2 ≤ f.length) (hn : f.length ≤ 12) (hf : Sm 200 f) : ∃ (g : List Int) (m' : List Cell), FanOk g ∧ PoolOk m' ∧ Ret (exec E8 (bF.getD 3 .skip) ⟨[some (.ref 0), some (.int 12), some (.int (f.length : Nat)), some (.lst true (iL f)), o, none], m⟩) (tIn g) m' := by
  obtain ⟨t, m1, t0, t1, p1, ht⟩ := draw_ok (gl := Gv) (w := 100) (many := 9) hS hD hp (by decide) (by decide)
  have ft : ∀ s, cback (call (tabF tb) Gv 100 38 12 [.ref 0, .int 9] m) s = .ok (.int t) { s with m := m1 } := fun s => (ht 36).back s
  have fzL : D.fzs (iL f) = iL f := fzs_ints f
  have tu : ∀ l, bapp .tuple [.lst true l] = some (.tup l) := fun _ => rfl
  have tg : ∀ (j : Nat), slo (.lst false (iL f)) none (some (j : Int)) = some (.lst true (iL (f.take j))) := fun j => by
    show some (D.lst true (cut (iL f) none (some (j : Int)))) = _
    rw [cut_to, ← List.map_take]
  by_cases h : t = 0 ∧ 2 < f.length
  · refine ⟨f.take (f.length - 1), m1, ⟨by rw [List.length_take]; omega, by rw [List.length_take]; omega, sm_take _ hf⟩, p1, ?_⟩
    have s1 := tg (f.length - 1)
    rw [show ((f.length - 1 : Nat) : Int) = (f.length : Int) - 1 by omega] at s1
    have i2 : (2 : Int) < (f.length : Int) := by omega
    obtain ⟨rfl, _⟩ := h
    show Ret _ (.tup (iL (f.take (f.length - 1)))) _
    generalize iL (f.take (f.length - 1)) = L2 at *
    generalize iL f = L at *
    show Ret (exec E8 (.ret _) _) _ _
    simp [ft, fzL, i2, part, s1, tu]
  · refine ⟨f, m1, ⟨h2, hn, hf⟩, p1, ?_⟩
    have s1 := tg f.length
    rw [List.take_length] at s1
    show Ret _ (.tup (iL f)) _
    generalize iL f = L at *
    show Ret (exec E8 (.ret _) _) _ _
    by_cases ht0 : t = 0
    · have i2 : ¬ (2 : Int) < (f.length : Int) := by omega
      subst ht0
      simp [ft, fzL, i2, part, s1, tu]
    · simp [ft, ht0, fzL, part, s1, tu]
theorem lawfan_ok {m : List Cell} (hp : PoolOk m) : ∃ (f : List Int) (m' : List Cell), FanOk f ∧ PoolOk m' ∧ Ans (call (tabF tb) Gv 100 39 16 [.ref 0, .int 12] m) (tIn f) m' := by
  obtain ⟨n, m0, n2, n12, p0, e0⟩ := lf0 hp
  obtain ⟨f, m1, rfl, hf, p1, e1⟩ := lf1 p0 n n12
  obtain ⟨g, o, m2, hg, hgs, p2, e2⟩ := lf2 p1 f n2 n12 hf
  obtain ⟨q, m3, hq, p3, e3⟩ := lf3 p2 g o (by omega) (by omega) hgs
  refine ⟨q, m3, hq, p3, ans_of (k := 38) hLF rfl ?_⟩
  have hb : r__law_fan.b = [bF.getD 0 .skip, bF.getD 1 .skip, bF.getD 2 .skip, bF.getD 3 .skip] := rfl
  show Ret (execs E8 r__law_fan.b ⟨[some (.ref 0), some (.int 12), none, none, none, none], m⟩) _ _
  rw [hb, ks_cons, e0, Out.bind_ok]; show Ret (execs E8 (_ :: _) _) _ _
  rw [ks_cons, e1, Out.bind_ok]; show Ret (execs E8 (_ :: _) _) _ _
  rw [ks_cons, e2, Out.bind_ok]; show Ret (execs E8 (_ :: _) _) _ _
  rw [hg] at e3
  obtain ⟨r, e3⟩ := e3
  rw [ks_cons, e3]
  exact ⟨r, rfl⟩

/-! the law, piece by piece -/
abbrev bT : List K := match r_law.b.getD 1 .skip with | .forr _ _ _ b => b | _ => []
abbrev SR (ns : List Int) (a2 a3 a4 a5 a6 a7 a8 a9 a10 a11 a12 : Option D) : List (Option D) := [some (.scr ns), some (.ref 0), a2, a3, a4, a5, a6, a7, a8, a9, a10, a11, a12]
abbrev ptsL (f : List Int) : List D := iL ((List.range f.length).map (pS f))
theorem dats_all {n : Nat} : ∀ {l : List D}, (∀ d ∈ l, D.dat n d = true) → D.dats n l = true
  | [], _ => by cases n <;> rfl
  | x :: l, h => by simp only [D.dats, h x (by simp), dats_all (l := l) fun d hd => h d (by simp [hd]), Bool.and_self]
theorem fzs_of {l : List D} (h : ∀ d ∈ l, d.fz = d) : D.fzs l = l := by
  rw [fzs_map]
  conv => rhs; rw [← List.map_id l]
  exact List.map_congr_left h
theorem wW_mem {f : List Int} {j : Nat} {d : D} (h : d ∈ wW f j) : ∃ a b : Int, d = .tup [.int a, .int b] := by
  obtain ⟨k, _, hk⟩ := List.mem_flatMap.mp h
  obtain ⟨a, _, rfl⟩ := List.mem_map.mp hk
  exact ⟨_, _, rfl⟩
theorem wW_fz (f : List Int) (j : Nat) : D.fzs (wW f j) = wW f j := fzs_of fun d hd => by
  obtain ⟨a, b, rfl⟩ := wW_mem hd; rfl
theorem wW_dat (f : List Int) (j : Nat) : D.dats 1 (wW f j) = true := dats_all fun d hd => by
  obtain ⟨a, b, rfl⟩ := wW_mem hd; rfl
theorem dueO_ok (f : List Int) (k : Nat) (hl : f.length ≤ 400) : D.dat 2 (dueO f k) = true ∧ (dueO f k).fz = dueO f k := by
  unfold dueO
  split
  · exact ⟨by decide +kernel, rfl⟩
  · obtain ⟨g, e, hg⟩ := opF_form f k
    rw [e]
    refine ⟨?_, ?_⟩
    · simp only [D.dat, D.dats, dats_iL, Bool.and_true, List.length_map]
      rw [show PyData.strOk "told" = true by decide +kernel, decide_eq_true (show g.length ≤ 1000000 by omega)]
      rfl
    · have h := fz_tI g
      generalize tIn g = TG at *
      simp only [fz_tup, fzs_cons, fzs_nil, h]; rfl
section
variable (ns : List Int) (a2 a4 a5 a6 a7 a8 a9 a10 a11 a12 : Option D)
theorem bt0 (a3 : Option D) {m : List Cell} (hp : PoolOk m) : ∃ f m', FanOk f ∧ PoolOk m' ∧ exec Ev (bT.getD 0 .skip) ⟨SR ns a2 a3 a4 a5 a6 a7 a8 a9 a10 a11 a12, m⟩ = .ok .next ⟨SR ns a2 (some (tIn f)) a4 a5 a6 a7 a8 a9 a10 a11 a12, m'⟩ := by
  obtain ⟨f, m', hf, hp', hc⟩ := lawfan_ok hp
  have fc : ∀ s, cback (call (tabF tb) Gv 100 39 16 [.ref 0, .int 12] m) s = .ok (tIn f) { s with m := m' } := fun s => hc.back s
  have fz := fz_tI f
  refine ⟨f, m', hf, hp', ?_⟩
  generalize tIn f = TF at *
  show exec Ev (.set 3 _) _ = _
  simp [fc, fz]
theorem bt1 (f : List Int) (hf : FanOk f) (m : List Cell) : exec Ev (bT.getD 1 .skip) ⟨SR ns a2 (some (tIn f)) a4 a5 a6 a7 a8 a9 a10 a11 a12, m⟩ = .ok .next ⟨SR ns a2 (some (tIn f)) (some (.lst false (ptsL f))) a5 a6 a7 a8 a9 a10 a11 a12, m⟩ := by
  have h12 := hf.2.1
  have lc1 := ev_lcG (E := Ev) (e := (.bi .sum [(.lc (.ite (.cmp .eq (.bin .mod (.bi .int [(.var 5)]) (.lit (.int 2))) (.lit (.int 0))) (.ix (.var 3) (.var 5)) (.bin .sub (.lit (.int 0)) (.ix (.var 3) (.var 5)))) (.name 5) .rng [(.var 10)] [] [5])])) (tg := .name 10) (k := .rng) (its := [(.bi .len [(.var 3)])]) (cs := []) (vs := [10]) (R := SR ns a2 (some (tIn f)) a4 a5 a6 a7 a8 a9 a10 a11 a12) (m := m) (ds := [.int f.length])
    (List.range f.length) (fun j => .int (j : Nat)) (fun j => SR ns a2 (some (tIn f)) a4 a5 a6 a7 a8 a9 (some (.int (j : Nat))) a11 a12) (fun _ => true) (fun j => .int (pS f j))
    (by
      have ln := len_tI f
      generalize tIn f = TF at *
      simp [ln]) (itm_rngN _ (by omega)) (by simp; omega) (fun _ _ => rfl) (fun _ _ => rfl) rfl (fun _ _ => rfl) (fun _ _ => rfl) (fun j hj _ => by
      have hj := List.mem_range.mp hj
      exact alt_lc Ev _ 3 5 (.var 10) f j (by omega) (by omega) (SR ns a2 (some (tIn f)) a4 a5 a6 a7 a8 a9 (some (.int (j : Nat))) a11 a12) m rfl (by simp) (fun k hk => alt_el Ev 3 5 f k (by omega) _ rfl rfl))
  rw [List.filter_eq_self.mpr (fun _ _ => rfl)] at lc1
  show exec Ev (.set 4 _) _ = _
  rw [k_set, lc1, Out.bind_ok]
  have e : (D.lst true ((List.range f.length).map fun j => D.int (pS f j))).fz = .lst false (ptsL f) := by
    simp only [ptsL, iL, List.map_map, fz_lst]
    congr 1
    exact fzs_of fun d hd => by
      obtain ⟨j, _, rfl⟩ := List.mem_map.mp hd; rfl
  rw [e]; rfl
theorem bt2 (f : List Int) (hf : FanOk f) (m : List Cell) : exec Ev (bT.getD 2 .skip) ⟨SR ns a2 (some (tIn f)) (some (.lst false (ptsL f))) a5 a6 a7 a8 a9 a10 a11 a12, m⟩ = .ok .next ⟨SR ns a2 (some (tIn f)) (some (.lst false (ptsL f))) a5 a6 a7 a8 a9 a10 a11 a12, m⟩ := by
  have h12 := hf.2.1
  have f1 : ∀ s, cback (call (tabF tb) Gv 100 39 4 [tIn f] m) s = .ok (.lst true (ptsL f)) { s with m := m } := fun s => (bends_ok f (by omega) 37 m).back s
  have f2 : ∀ s, cback (call (tabF tb) Gv 100 39 5 [tIn f] m) s = .ok (.bl (clB f)) { s with m := m } := fun s => (fcloses_ok f (by omega) 37 m).back s
  have f3 : ∀ s, cback (call (tabF tb) Gv 100 39 18 [tIn f] m) s = .ok (.bl (clB f)) { s with m := m } := fun s => (lcloses_ok f (by omega) 38 m).back s
  have dat : D.dat 2 (.lst false [.lst false (ptsL f), .bl (clB f)]) = true := by
    simp only [D.dat, D.dats, dats_iL, Bool.and_true, Bool.not_false, Bool.true_and, List.length_map, List.length_range]
    rw [decide_eq_true (show f.length ≤ 1000000 by omega)]; rfl
  have f4 : ∀ s, cback (call (tabF tb) Gv 100 39 8 [.lst false [.lst false (ptsL f), .bl (clB f)], .lst false [.lst false (ptsL f), .bl (clB f)]] m) s = .ok (.bl true) { s with m := m } := fun s => (same_ok (gl := Gv) (w := 100) hE 2 _ dat 36 m).back s
  have fz := fz_tI f
  have fp : D.fzs (ptsL f) = ptsL f := fzs_ints _
  generalize ptsL f = PP at *
  generalize tIn f = TF at *
  generalize clB f = CB at *
  show exec Ev (.ite (.nt (.call 8 [(.lst [_, _]), (.lst [_, _])])) _ []) _ = _
  simp [f1, f2, f3, f4, fz, fp]
theorem bt3 (f : List Int) (hf : FanOk f) (m : List Cell) : ∃ b5 b6, exec Ev (bT.getD 3 .skip) ⟨SR ns a2 (some (tIn f)) a4 a5 a6 a7 a8 a9 a10 a11 a12, m⟩ = .ok .next ⟨SR ns a2 (some (tIn f)) a4 b5 b6 a7 a8 a9 a10 a11 a12, m⟩ := by
  obtain ⟨h2, h12, _⟩ := hf
  have il := itm_rngN f.length (by omega)
  have ln := len_tI f
  obtain ⟨s', e, b5, b6, rfl⟩ := forB_rngI (E := Ev) (tg := .name 5) (b := [.set 6 (.ite (.cmp .lt (.bi .len [(.var 3)]) (.lit (.int 3))) (.lit (.str "few")) (.tup [(.lit (.str "told")), (.ite (.cmp .eq (.var 5) (.lit (.int 0))) (exA 3) (exB 3 5))])),
    .ite (.nt (.call 8 [(.call 17 [(.var 3), (.var 5)]), (.var 6)]))
    [.ret (.lit (.bl false))]
    []]) (fun _ s => ∃ b5 b6, s = ⟨SR ns a2 (some (tIn f)) a4 b5 b6 a7 a8 a9 a10 a11 a12, m⟩) f.length (fun k hk s hs => by
    obtain ⟨b5, b6, rfl⟩ := hs
    obtain ⟨dd, dz⟩ := dueO_ok f k (by omega)
    have f1 : ∀ s, cback (call (tabF tb) Gv 100 39 17 [tIn f, .int (k : Nat)] m) s = .ok (dueO f k) { s with m := m } := fun s => (lopened_ok f k hk (by omega) 37 m).back s
    have f4 : ∀ s, cback (call (tabF tb) Gv 100 39 8 [dueO f k, dueO f k] m) s = .ok (.bl true) { s with m := m } := fun s => (same_ok (gl := Gv) (w := 100) hE 2 _ dd 36 m).back s
    have fz := fz_tI f
    have ea := exA_ok Ev 3 f (by omega) (by omega) ⟨SR ns a2 (some (tIn f)) a4 (some (.int (k : Nat))) b6 a7 a8 a9 a10 a11 a12, m⟩ rfl
    have eb := fun h0 => exB_ok Ev 3 5 f k h0 hk (by omega) ⟨SR ns a2 (some (tIn f)) a4 (some (.int (k : Nat))) b6 a7 a8 a9 a10 a11 a12, m⟩ rfl rfl
    have x6 : ev Ev (.ite (.cmp .lt (.bi .len [(.var 3)]) (.lit (.int 3))) (.lit (.str "few")) (.tup [(.lit (.str "told")), (.ite (.cmp .eq (.var 5) (.lit (.int 0))) (exA 3) (exB 3 5))])) ⟨SR ns a2 (some (tIn f)) a4 (some (.int (k : Nat))) b6 a7 a8 a9 a10 a11 a12, m⟩ = .ok (dueO f k) ⟨SR ns a2 (some (tIn f)) a4 (some (.int (k : Nat))) b6 a7 a8 a9 a10 a11 a12, m⟩ := by
      generalize exA 3 = XA at *
      generalize exB 3 5 = XB at *
      by_cases h3 : f.length < 3
      · have i3 : (f.length : Int) < 3 := by omega
        have d : dueO f k = .str "few" := if_pos h3
        rw [d]
        generalize tIn f = TF at *
        simp [ln, i3]
      · have i3 : ¬ (f.length : Int) < 3 := by omega
        have d : dueO f k = .tup [.str "told", opF f k] := if_neg h3
        rw [d]
        by_cases h0 : k = 0
        · have o : opF f k = opA f := if_pos h0
          rw [o]
          subst h0
          generalize tIn f = TF at *
          generalize opA f = OO at *
          simp [ln, i3]
          simp at ea
          simp [ea]
        · have o : opF f k = opB f k := if_neg h0
          rw [o]
          have hk0 : ¬ (k : Int) = 0 := by omega
          have eb := eb (by omega)
          generalize tIn f = TF at *
          generalize opB f k = OO at *
          simp [ln, i3, hk0, h0, eb]
    refine ⟨_, _, rfl, ?_, some (.int (k : Nat)), some (dueO f k), rfl⟩
    generalize hEE : C.ite (.cmp .lt (.bi .len [(.var 3)]) (.lit (.int 3))) (.lit (.str "few")) (.tup [(.lit (.str "told")), (.ite (.cmp .eq (.var 5) (.lit (.int 0))) (exA 3) (exB 3 5))]) = EE at *
    generalize dueO f k = DD at *
    generalize tIn f = TF at *
    simp [x6, f1, f4, fz, dz]) ⟨SR ns a2 (some (tIn f)) a4 a5 a6 a7 a8 a9 a10 a11 a12, m⟩ ⟨a5, a6, rfl⟩
  refine ⟨b5, b6, ?_⟩
  show exec Ev (.forr (.name 5) .rng [(.bi .len [(.var 3)])] _) _ = _
  rw [k_for]
  have ev1 : evs Ev [(.bi .len [(.var 3)])] ⟨SR ns a2 (some (tIn f)) a4 a5 a6 a7 a8 a9 a10 a11 a12, m⟩ = .ok [.int f.length] ⟨SR ns a2 (some (tIn f)) a4 a5 a6 a7 a8 a9 a10 a11 a12, m⟩ := by
    generalize tIn f = TF at *
    simp [ln]
  rw [ev1, Out.bind_ok, il, Out.of_some, Out.bind_ok]
  exact e
theorem bt4 (f : List Int) (hf : FanOk f) (m : List Cell) : ∃ b5 b6, exec Ev (bT.getD 4 .skip) ⟨SR ns a2 (some (tIn f)) a4 a5 a6 a7 a8 a9 a10 a11 a12, m⟩ = .ok .next ⟨SR ns a2 (some (tIn f)) a4 b5 b6 a7 a8 a9 a10 a11 a12, m⟩ := by
  obtain ⟨h2, h12, hb⟩ := hf
  have il := itm_rngN f.length (by omega)
  have ln := len_tI f
  obtain ⟨s', e, b5, rfl⟩ := forB_rngI (E := Ev) (tg := .name 5) (b := [.set 6 (.bin .add (.var 6) (.lc (.tup [(.var 5), (.var 11)]) (.name 11) .rng [(.lit (.int 1)), (.ix (.var 3) (.var 5))] [(.call 18 [exI 3 5 11])] [11]))]) (fun j s => ∃ b5, s = ⟨SR ns a2 (some (tIn f)) a4 b5 (some (.lst false (wW f j))) a7 a8 a9 a10 a11 a12, m⟩) f.length (fun k hk s hs => by
    obtain ⟨b5, rfl⟩ := hs
    have a2' : ixo m (tIn f) (.int (k : Nat)) = some (.int (f.getD k 0)) := by
      rw [getD_lt f k hk]; exact iL_at f k hk
    have al := asF_len f k (by have := hb k; omega)
    have lc1 := ev_lcG (E := Ev) (e := (.tup [(.var 5), (.var 11)])) (tg := .name 11) (k := .rng) (its := [(.lit (.int 1)), (.ix (.var 3) (.var 5))]) (cs := [(.call 18 [exI 3 5 11])]) (vs := [11]) (R := SR ns a2 (some (tIn f)) a4 (some (.int (k : Nat))) (some (.lst false (wW f k))) a7 a8 a9 a10 a11 a12) (m := m) (ds := [.int 1, .int (f.getD k 0)])
      (asF f k) D.int (fun a => SR ns a2 (some (tIn f)) a4 (some (.int (k : Nat))) (some (.lst false (wW f k))) a7 a8 a9 a10 (some (.int a)) a12) (fun a => clB (ins f k a)) (fun a => .tup [.int (k : Nat), .int a])
      (by
        generalize tIn f = TF at *
        generalize f.getD k 0 = v at *
        simp [a2']) (itm_as f k (by have := hb k; omega)) (by omega) (fun _ _ => rfl) (fun _ _ => rfl) rfl (fun _ _ => rfl) (fun a _ => by
        have fc : ∀ s, cback (call (tabF tb) Gv 100 39 18 [tIn (ins f k a)] m) s = .ok (.bl (clB (ins f k a))) { s with m := m } := fun s => (lcloses_ok (ins f k a) (by have := ins_len f k a; omega) 38 m).back s
        have ex := exI_ok Ev 3 5 11 f k a hk (by omega) ⟨SR ns a2 (some (tIn f)) a4 (some (.int (k : Nat))) (some (.lst false (wW f k))) a7 a8 a9 a10 (some (.int a)) a12, m⟩ rfl rfl rfl
        have fz := fz_tI (ins f k a)
        generalize tIn f = TF at *
        generalize tIn (ins f k a) = TI at *
        generalize exI 3 5 11 = XI at *
        simp [ex, fz, fc]) (fun a _ _ => by simp)
    have wl := wW_len f (fun k => by have := hb k; omega) k
    have wl2 := wk_len f k (asF f k)
    have wl3 : 1000 * k ≤ 1000 * 12 := Nat.mul_le_mul_left _ (by omega)
    have ad := b_addL2 false true (wW f k) (wk f k (asF f k)) (by omega)
    have hw : wW f (k + 1) = wW f k ++ wk f k (asF f k) := by
      simp only [wW, List.range_succ, List.flatMap_append, List.flatMap_singleton]
    have fw := wW_fz f (k + 1)
    rw [← hw] at ad
    refine ⟨_, _, rfl, ?_, some (.int (k : Nat)), rfl⟩
    have lc2 : ev Ev (.lc (.tup [(.var 5), (.var 11)]) (.name 11) .rng [(.lit (.int 1)), (.ix (.var 3) (.var 5))] [(.call 18 [exI 3 5 11])] [11]) ⟨SR ns a2 (some (tIn f)) a4 (some (.int (k : Nat))) (some (.lst false (wW f k))) a7 a8 a9 a10 a11 a12, m⟩ = .ok (.lst true (wk f k (asF f k))) ⟨SR ns a2 (some (tIn f)) a4 (some (.int (k : Nat))) (some (.lst false (wW f k))) a7 a8 a9 a10 a11 a12, m⟩ := lc1
    generalize wW f (k + 1) = W2 at *
    generalize wW f k = W1 at *
    generalize wk f k (asF f k) = WK at *
    generalize tIn f = TF at *
    generalize exI 3 5 11 = XI at *
    simp [-x_lc, lc2, ad, fw]) ⟨SR ns a2 (some (tIn f)) a4 a5 (some (.lst false [])) a7 a8 a9 a10 a11 a12, m⟩ ⟨a5, rfl⟩
  have f1 : ∀ s, cback (call (tabF tb) Gv 100 39 7 [tIn f] m) s = .ok (.lst true (wW f f.length)) { s with m := m } := fun s => (ways_ok f (by omega) (fun k => by have := hb k; omega) 36 m).back s
  have dat : D.dat 2 (.lst false (wW f f.length)) = true := by
    have wl := wW_len f (fun k => by have := hb k; omega) f.length
    have wl3 : 1000 * f.length ≤ 1000 * 12 := Nat.mul_le_mul_left _ (by omega)
    simp only [D.dat, wW_dat, Bool.not_false, Bool.true_and]
    exact decide_eq_true (by omega)
  have f4 : ∀ s, cback (call (tabF tb) Gv 100 39 8 [.lst false (wW f f.length), .lst false (wW f f.length)] m) s = .ok (.bl true) { s with m := m } := fun s => (same_ok (gl := Gv) (w := 100) hE 2 _ dat 36 m).back s
  have fz := fz_tI f
  have fw := wW_fz f f.length
  by_cases hl : f.length < 12
  · have i12 : (f.length : Int) < 12 := by omega
    refine ⟨b5, some (.lst false (wW f f.length)), ?_⟩
    show exec Ev (.ite _ [.set 6 (.lst []), .forr (.name 5) .rng [(.bi .len [(.var 3)])] [.set 6 (.bin .add (.var 6) (.lc (.tup [(.var 5), (.var 11)]) (.name 11) .rng [(.lit (.int 1)), (.ix (.var 3) (.var 5))] [(.call 18 [exI 3 5 11])] [11]))], _] []) _ = _
    generalize [K.set 6 (.bin .add (.var 6) (.lc (.tup [(.var 5), (.var 11)]) (.name 11) .rng [(.lit (.int 1)), (.ix (.var 3) (.var 5))] [(.call 18 [exI 3 5 11])] [11]))] = BB at *
    generalize wW f f.length = WW at *
    generalize tIn f = TF at *
    simp [ln, i12, il, e, f1, f4, fz, fw]
  · have i12 : ¬ (f.length : Int) < 12 := by omega
    refine ⟨a5, a6, ?_⟩
    show exec Ev (.ite _ _ []) _ = _
    generalize tIn f = TF at *
    simp [ln, i12]
end
def InT (ns : List Int) (j : Nat) (s : S) : Prop := ∃ a2 a3 a4 a5 a6 a7 a8 a9 a10 a11 a12 m, PoolOk m ∧ (0 < j → ∃ f, FanOk f ∧ a3 = some (tIn f)) ∧ s = ⟨SR ns a2 a3 a4 a5 a6 a7 a8 a9 a10 a11 a12, m⟩
theorem bodyT (ns : List Int) (x : D) (j : Nat) (s : S) (hs : InT ns j s) : ∃ r s', setTg (.name 2) x s.r = some r ∧ execs Ev bT { s with r := r } = .ok .next s' ∧ InT ns (j + 1) s' := by
  obtain ⟨a2, a3, a4, a5, a6, a7, a8, a9, a10, a11, a12, m, hp, _, rfl⟩ := hs
  obtain ⟨f, m1, hf, p1, e0⟩ := bt0 ns (some x) a4 a5 a6 a7 a8 a9 a10 a11 a12 a3 hp
  obtain ⟨b5, b6, e3⟩ := bt3 ns (some x) (some (.lst false (ptsL f))) a5 a6 a7 a8 a9 a10 a11 a12 f hf m1
  obtain ⟨c5, c6, e4⟩ := bt4 ns (some x) (some (.lst false (ptsL f))) b5 b6 a7 a8 a9 a10 a11 a12 f hf m1
  refine ⟨_, _, rfl, ?_, some x, some (tIn f), some (.lst false (ptsL f)), c5, c6, a7, a8, a9, a10, a11, a12, m1, p1, fun _ => ⟨f, hf, rfl⟩, rfl⟩
  have hb : bT = [bT.getD 0 .skip, bT.getD 1 .skip, bT.getD 2 .skip, bT.getD 3 .skip, bT.getD 4 .skip] := rfl
  show execs Ev bT ⟨SR ns (some x) a3 a4 a5 a6 a7 a8 a9 a10 a11 a12, m⟩ = _
  rw [hb, ks_cons, e0, Out.bind_ok]; show execs Ev (_ :: _) _ = _
  rw [ks_cons, bt1 _ _ _ _ _ _ _ _ _ _ _ f hf, Out.bind_ok]; show execs Ev (_ :: _) _ = _
  rw [ks_cons, bt2 _ _ _ _ _ _ _ _ _ _ f hf, Out.bind_ok]; show execs Ev (_ :: _) _ = _
  rw [ks_cons, e3, Out.bind_ok]; show execs Ev (_ :: _) _ = _
  rw [ks_cons, e4, Out.bind_ok]; rfl

/-! what is tried -/
abbrev bV : List K := match r_law.b.getD 3 .skip with | .forr _ _ _ b => b | _ => []
def ValOk (d : D) : Prop := D.okd 20 d = true ∧ d.wt ≤ 20000
theorem str_sh {d : D} (h : D.okd 60 d = true) (hw : d.wt ≤ 1000000) : ∃ x : Str, bapp .repr [d] = some (.str x) ∧ cop .ne (.str x) (.str x) = some false := by
  refine ⟨_, repr_ok h hw, ?_⟩
  simp [cop, eqD]
def InV (ns : List Int) (s : S) : Prop := ∃ a2 a3 a4 a5 a6 a7 a8 a9 a10 a11 a12 m, PoolOk m ∧ s = ⟨SR ns a2 a3 a4 a5 a6 a7 a8 a9 a10 a11 a12, m⟩
theorem bodyV (ns : List Int) (d : D) (hd : ValOk d) (hz : d.fz = d) (s : S) (hs : InV ns s) : ∃ r s', setTg (.name 8) d s.r = some r ∧ execs Ev bV { s with r := r } = .ok .next s' ∧ InV ns s' := by
  obtain ⟨a2, a3, a4, a5, a6, a7, a8, a9, a10, a11, a12, m, hp, rfl⟩ := hs
  obtain ⟨h1, h2⟩ := hd
  have x6 := due_ok d 20 h1 hz m (some (.scr ns)) (some (.ref 0)) a2 a3 a4 a5 a6 a7 a9 a10 a11 a12
  have f1 : ∀ s, cback (call (tabF tb) Gv 100 39 3 [d] m) s = .ok (.bl (fanB d)) { s with m := m } := fun s => (fan_ok d 20 h1 hz 36 m).back s
  have f3 : ∀ b s, cback (call (tabF tb) Gv 100 39 8 [.bl b, .bl b] m) s = .ok (.bl true) { s with m := m } := fun b s => (same_ok (gl := Gv) (w := 100) hE 0 (.bl b) rfl 38 m).back s
  obtain ⟨x, hx, hx2⟩ := str_sh (okd_le h1 (by decide)) (by omega)
  refine ⟨_, _, rfl, ?_, a2, a3, a4, a5, some (.bl (fanB d)), a7, some d, some (.str x), a10, a11, a12, m, hp, rfl⟩
  have hb : bV = [.set 6 cDue, .set 9 (.bi .repr [(.var 8)]),
    .ite (.or (.nt (.call 8 [(.call 3 [(.var 8)]), (.var 6)])) (.cmp .ne (.bi .repr [(.var 8)]) (.var 9)))
    [.ret (.lit (.bl false))]
    []] := rfl
  rw [hb]
  generalize cDue = DU at *
  simp [hz, x6, f1, f3, hx, hx2]
def L15 (f : List Int) : List D := [tIn f, .lst false (iL f), boolD (tIn f), .tup (iL f ++ [.int 0]), .tup (iL f ++ [.int 1001]), .tup [.int 1000, .int 1000], .tup [.int 1], .tup [.int 1, .int 1], .tup (List.replicate 12 (.int 1)), .tup (List.replicate 13 (.int 1)), .tup [], .non, .tup [.str "1", .str "1"], .tup [.bl true, .int 1], .tup [.int 1, .int (-1)]]
theorem okds_iL (n : Nat) (f : List Int) : D.okds n (iL f) = true := by
  induction f with
  | nil => cases n <;> rfl
  | cons x f ih => simp only [iL, List.map_cons, D.okds] at *; rw [ih]; cases n <;> rfl
theorem wts_iL {c : Nat} : ∀ {f : List Int}, Sm c f → D.wts (iL f) ≤ (c + 1) * f.length
  | [], _ => by simp [D.wts]
  | x :: f, h => by
    have h0 : x.natAbs ≤ c := by have := h 0; simpa using this
    have := wts_iL (f := f) fun k => by have := h (k + 1); simpa using this
    simp only [iL, List.map_cons, D.wts, D.wt, List.length_cons, Nat.mul_succ] at *
    omega
theorem okds_app (n : Nat) (l m : List D) (h1 : D.okds n l = true) (h2 : D.okds n m = true) : D.okds n (l ++ m) = true := okds_all.mpr fun d hd => by
  rcases List.mem_append.mp hd with h | h
  · exact okds_all.mp h1 d h
  · exact okds_all.mp h2 d h
theorem L15_ok (f : List Int) (hf : FanOk f) : ∀ d ∈ L15 f, ValOk d := by
  obtain ⟨h2, h12, hb⟩ := hf
  have w0 := wts_iL (c := 200) (f := f) hb
  have w1 : (200 + 1) * f.length ≤ (200 + 1) * 12 := Nat.mul_le_mul_left _ h12
  have wt0 : (tIn f).wt ≤ 3000 := by simp only [D.wt]; omega
  have o1 : D.okd 20 (tIn f) = true := by simp only [D.okd, okds_iL]
  simp only [L15, List.forall_mem_cons]
  refine ⟨⟨o1, by omega⟩, ⟨by simp only [D.okd, okds_iL], by simp only [D.wt]; omega⟩, ⟨boolD_okd _ 20 o1, by have := boolD_wt (tIn f); omega⟩, ⟨by simp only [D.okd]; exact okds_app _ _ _ (okds_iL _ _) rfl, by simp only [D.wt, wts_append, D.wts]; omega⟩, ⟨by simp only [D.okd]; exact okds_app _ _ _ (okds_iL _ _) rfl, by simp only [D.wt, wts_append, D.wts]; omega⟩,
    ⟨rfl, by decide⟩, ⟨rfl, by decide⟩, ⟨rfl, by decide⟩, ⟨rfl, by decide⟩, ⟨rfl, by decide⟩, ⟨rfl, by decide⟩, ⟨rfl, by decide⟩, ⟨by decide +kernel, by decide +kernel⟩, ⟨rfl, by decide⟩, ⟨rfl, by decide⟩, fun d h => by cases h⟩
theorem boolD_int_fz (a : Int) : (boolD (.int a)).fz = boolD (.int a) := by simp only [boolD]; split <;> rfl
theorem boolD_tI (f : List Int) : (boolD (tIn f)).fz = boolD (tIn f) := by
  have : D.fzs (boolDs (iL f)) = boolDs (iL f) := fzs_of fun d hd => by
    rw [boolDs_map] at hd
    obtain ⟨y, hy, rfl⟩ := List.mem_map.mp hd
    obtain ⟨z, _, rfl⟩ := List.mem_map.mp hy
    exact boolD_int_fz z
  simp only [boolD, fz_tup, this]
theorem law_ok (ns : List Int) (_ : ns.length ≤ 63) : ∃ s, call (tabF tb) Gv 100 40 19 [.scr ns] [] = .ok (.bl true) s := by
  obtain ⟨m, hp, hm⟩ := pool_ok (gl := Gv) (w := 100) hPo ns
  have fm : ∀ s, cback (call (tabF tb) Gv 100 39 10 [.scr ns] []) s = .ok (.ref 0) { s with m := m } := fun s => (hm 38).back s
  -- the turns
  obtain ⟨s1, e1, a2, a3, a4, a5, a6, a7, a8, a9, a10, a11, a12, m1, p1, h3, rfl⟩ := forB_rngI (E := Ev) (tg := .name 2) (b := bT) (InT ns) 3 (fun j _ s hs => bodyT ns _ j s hs) ⟨SR ns none none none none none none none none none none none, m⟩ ⟨none, none, none, none, none, none, none, none, none, none, none, m, hp, fun h => absurd h (by decide), rfl⟩
  obtain ⟨f, hf, rfl⟩ := h3 (by decide)
  have hok := L15_ok f hf
  obtain ⟨h2, h12, hb⟩ := hf
  have w0 := wts_iL (c := 200) (f := f) hb
  have w1 : (200 + 1) * f.length ≤ (200 + 1) * 12 := Nat.mul_le_mul_left _ h12
  have wt0 : (tIn f).wt ≤ 3000 := by simp only [D.wt]; omega
  have o1 : D.okd 1 (tIn f) = true := by simp only [D.okd, okds_iL]
  have fzt := fz_tI f
  have fbo : ∀ s, cback (call (tabF tb) Gv 100 39 14 [tIn f] m1) s = .ok (boolD (tIn f)) { s with m := m1 } := fun s => (booled_ok (gl := Gv) (w := 100) hI hBo 1 (tIn f) m1 o1 (by omega) fzt 36).back s
  -- the bent copies
  obtain ⟨ds, m3, hds, hdl, p3, hbe⟩ := ev_lcD (E := Ev) (e := .call 13 [(.var 1), (.var 3)]) (i := 5) (k := .rng) (its := [.lit (.int 5)]) (R := SR ns a2 (some (tIn f)) a4 a5 a6 (some (.lst false (L15 f))) a8 a9 a10 a11 a12) (m := m1) (m1 := m1) (ds := [.int 5]) (l := [.int 0, .int 1, .int 2, .int 3, .int 4]) ValOk (by simp) (by kernel_rfl) (by decide) p1 (fun x m hp => by
    obtain ⟨d', m', ⟨h1, h2, _⟩, p', hd⟩ := bent_ok (gl := Gv) (w := 100) hS hD hI hB 1 (tIn f) m o1 (by omega) fzt hp
    have fd : ∀ s, cback (call (tabF tb) Gv 100 39 13 [.ref 0, tIn f] m) s = .ok d' { s with m := m' } := fun s => (hd 35).back s
    refine ⟨d', m', ⟨okd_le h1 (by decide), by omega⟩, p', ?_⟩
    generalize tIn f = TF at *
    simp [fd, fzt])
  have hall : ∀ x ∈ D.fzs (L15 f ++ ds), ValOk x ∧ x.fz = x := by
    intro x hx
    rw [fzs_map] at hx
    obtain ⟨y, hy, rfl⟩ := List.mem_map.mp hx
    have hv : ValOk y := by
      rcases List.mem_append.mp hy with h | h
      · exact hok y h
      · exact hds y h
    exact ⟨⟨by rw [okd_fz]; exact hv.1, by rw [wt_fz]; exact hv.2⟩, fz_fz y⟩
  have hlen : (L15 f).length + ds.length ≤ 1000 := by rw [hdl]; exact (by decide : (15 : Nat) + 5 ≤ 1000)
  obtain ⟨s4, e4, h4⟩ := forB_inv (E := Ev) (tg := .name 8) (b := bV) (InV ns) (D.fzs (L15 f ++ ds)) (fun x hx s hs => bodyV ns x (hall x hx).1 (hall x hx).2 s hs) ⟨SR ns a2 (some (tIn f)) a4 a5 a6 (some (.lst false (L15 f))) a8 a9 a10 a11 a12, m3⟩ ⟨_, _, _, _, _, _, _, _, _, _, _, m3, p3, rfl⟩
  have hF : tabF tb 19 = some ⟨1, 13, r_law.b⟩ := rfl
  obtain ⟨r, e⟩ : Ans (call (tabF tb) Gv 100 40 19 [.scr ns] []) (.bl true) s4.m := by
    refine ans_of (k := 39) hF rfl ?_
    have hb' : r_law.b = [r_law.b.getD 0 .skip, .forr (.name 2) .rng [.lit (.int 3)] bT, r_law.b.getD 2 .skip, .forr (.name 8) .seq [.bin .add (.var 7) (.lc (.call 13 [(.var 1), (.var 3)]) (.name 5) .rng [.lit (.int 5)] [] [5])] bV, .ret (.lit (.bl true))] := rfl
    have x0 : exec Ev (r_law.b.getD 0 .skip) ⟨[some (.scr ns), none, none, none, none, none, none, none, none, none, none, none, none], []⟩ = .ok .next ⟨SR ns none none none none none none none none none none none, m⟩ := by
      show exec Ev (.set 1 _) _ = _
      simp [fm]
    have bl : ∀ l, bapp .list [.tup l] = some (.lst true l) := fun _ => rfl
    have ad0 : bop .add (tIn f) (.tup [.int 0]) = some (.tup (iL f ++ [.int 0])) := b_addT _ _ (by simp; omega)
    have ad1 : bop .add (tIn f) (.tup [.int 1001]) = some (.tup (iL f ++ [.int 1001])) := b_addT _ _ (by simp; omega)
    have mu0 : bop .mul (.tup [.int 1]) (.int 12) = some (.tup (List.replicate 12 (.int 1))) := by kernel_rfl
    have mu1 : bop .mul (.tup [.int 1]) (.int 13) = some (.tup (List.replicate 13 (.int 1))) := by kernel_rfl
    have fz0 : D.fzs (iL f ++ [.int 0]) = iL f ++ [.int 0] := fzs_ints (f ++ [0]) |> fun h => by simpa [iL] using h
    have fz1 : D.fzs (iL f ++ [.int 1001]) = iL f ++ [.int 1001] := fzs_ints (f ++ [1001]) |> fun h => by simpa [iL] using h
    have fzl : D.fzs (iL f) = iL f := fzs_ints f
    have zb := boolD_tI f
    have bl0 : bapp .list [tIn f] = some (.lst true (iL f)) := bl _
    have x2 : exec Ev (r_law.b.getD 2 .skip) ⟨SR ns a2 (some (tIn f)) a4 a5 a6 a7 a8 a9 a10 a11 a12, m1⟩ = .ok .next ⟨SR ns a2 (some (tIn f)) a4 a5 a6 (some (.lst false (L15 f))) a8 a9 a10 a11 a12, m1⟩ := by
      unfold L15
      generalize hB : boolD (tIn f) = BB at *
      generalize hI0 : iL f ++ [.int 0] = I0 at *
      generalize hI1 : iL f ++ [.int 1001] = I1 at *
      generalize hR0 : List.replicate 12 (D.int 1) = R0 at *
      generalize hR1 : List.replicate 13 (D.int 1) = R1 at *
      have fzr0 : D.fzs R0 = R0 := by rw [← hR0]; rfl
      have fzr1 : D.fzs R1 = R1 := by rw [← hR1]; rfl
      generalize tIn f = TF at *
      generalize iL f = LL at *
      show exec Ev (.set 7 (.lst _)) _ = _
      simp [fbo, bl0, ad0, ad1, mu0, mu1, fz0, fz1, fzl, fzt, zb, fzr0, fzr1]
    have x3 : evs Ev [.bin .add (.var 7) (.lc (.call 13 [(.var 1), (.var 3)]) (.name 5) .rng [.lit (.int 5)] [] [5])] ⟨SR ns a2 (some (tIn f)) a4 a5 a6 (some (.lst false (L15 f))) a8 a9 a10 a11 a12, m1⟩ = .ok [.lst true (L15 f ++ ds)] ⟨SR ns a2 (some (tIn f)) a4 a5 a6 (some (.lst false (L15 f))) a8 a9 a10 a11 a12, m3⟩ := by
      have := b_addL false true (L15 f) ds hlen
      generalize L15 f = LV at *
      generalize tIn f = TF at *
      simp [-x_lc, hbe, this]
    show Ret (execs Ev r_law.b ⟨[some (.scr ns), none, none, none, none, none, none, none, none, none, none, none, none], []⟩) _ _
    rw [hb', ks_cons, x0, Out.bind_ok]; show Ret (execs Ev (_ :: _) ⟨SR ns none none none none none none none none none none none, m⟩) _ _
    have i3 : itm .rng [.int 3] = some (rgD 3) := itm_rngN 3 (by decide)
    rw [ks_cons, k_for, xs_cons, x_lit, Out.bind_ok, xs_nil, Out.bind_ok, Out.bind_ok, i3, Out.of_some, Out.bind_ok, e1, Out.bind_ok]; show Ret (execs Ev (_ :: _) _) _ _
    rw [ks_cons, x2, Out.bind_ok]; show Ret (execs Ev (_ :: _) _) _ _
    rw [ks_cons, k_for, x3, Out.bind_ok, itm_lst, Out.of_some, Out.bind_ok, e4, Out.bind_ok]
    exact ⟨s4.r, rfl⟩
  exact ⟨_, e⟩

theorem b_is_whole : ∀ (kV doc pm : Value) (an : Option Addr) (cdv ct : Value) (us : List Value), us.length = [("value" : Str)].length → bindArgs (PySem.W.fnOf "is_whole" "is_whole" (L2.defArgs (top 1)) (L2.defBody (top 1)) (L2.defScope (top 1)) .none kV doc pm an cdv ct) ⟨us, []⟩ = pure ((["value"] : List Str).zip us) :=
  fun _ _ _ _ _ _ us hl => match us, hl with | [_], _ => rfl
theorem b_is_from : ∀ (kV doc pm : Value) (an : Option Addr) (cdv ct : Value) (us : List Value), us.length = [("value" : Str), ("low" : Str), ("high" : Str)].length → bindArgs (PySem.W.fnOf "is_from" "is_from" (L2.defArgs (top 2)) (L2.defBody (top 2)) (L2.defScope (top 2)) .none kV doc pm an cdv ct) ⟨us, []⟩ = pure ((["value", "low", "high"] : List Str).zip us) :=
  fun _ _ _ _ _ _ us hl => match us, hl with | [_, _, _], _ => rfl
theorem b_points_of : ∀ (kV doc pm : Value) (an : Option Addr) (cdv ct : Value) (us : List Value), us.length = [("lengths" : Str)].length → bindArgs (PySem.W.fnOf "points_of" "points_of" (L2.defArgs (top 8)) (L2.defBody (top 8)) (L2.defScope (top 8)) .none kV doc pm an cdv ct) ⟨us, []⟩ = pure ((["lengths"] : List Str).zip us) :=
  fun _ _ _ _ _ _ us hl => match us, hl with | [_], _ => rfl
theorem b_is_fan : ∀ (kV doc pm : Value) (an : Option Addr) (cdv ct : Value) (us : List Value), us.length = [("value" : Str)].length → bindArgs (PySem.W.fnOf "is_fan" "is_fan" (L2.defArgs (top 10)) (L2.defBody (top 10)) (L2.defScope (top 10)) .none kV doc pm an cdv ct) ⟨us, []⟩ = pure ((["value"] : List Str).zip us) :=
  fun _ _ _ _ _ _ us hl => match us, hl with | [_], _ => rfl
theorem b_bends : ∀ (kV doc pm : Value) (an : Option Addr) (cdv ct : Value) (us : List Value), us.length = [("fan" : Str)].length → bindArgs (PySem.W.fnOf "bends" "bends" (L2.defArgs (top 11)) (L2.defBody (top 11)) (L2.defScope (top 11)) .none kV doc pm an cdv ct) ⟨us, []⟩ = pure ((["fan"] : List Str).zip us) :=
  fun _ _ _ _ _ _ us hl => match us, hl with | [_], _ => rfl
theorem b_fan_closes : ∀ (kV doc pm : Value) (an : Option Addr) (cdv ct : Value) (us : List Value), us.length = [("fan" : Str)].length → bindArgs (PySem.W.fnOf "fan_closes" "fan_closes" (L2.defArgs (top 12)) (L2.defBody (top 12)) (L2.defScope (top 12)) .none kV doc pm an cdv ct) ⟨us, []⟩ = pure ((["fan"] : List Str).zip us) :=
  fun _ _ _ _ _ _ us hl => match us, hl with | [_], _ => rfl
theorem b_opened_fan : ∀ (kV doc pm : Value) (an : Option Addr) (cdv ct : Value) (us : List Value), us.length = [("fan" : Str), ("k" : Str)].length → bindArgs (PySem.W.fnOf "opened_fan" "opened_fan" (L2.defArgs (top 13)) (L2.defBody (top 13)) (L2.defScope (top 13)) .none kV doc pm an cdv ct) ⟨us, []⟩ = pure ((["fan", "k"] : List Str).zip us) :=
  fun _ _ _ _ _ _ us hl => match us, hl with | [_, _], _ => rfl
theorem b_ways_to_close : ∀ (kV doc pm : Value) (an : Option Addr) (cdv ct : Value) (us : List Value), us.length = [("fan" : Str)].length → bindArgs (PySem.W.fnOf "ways_to_close" "ways_to_close" (L2.defArgs (top 14)) (L2.defBody (top 14)) (L2.defScope (top 14)) .none kV doc pm an cdv ct) ⟨us, []⟩ = pure ((["fan"] : List Str).zip us) :=
  fun _ _ _ _ _ _ us hl => match us, hl with | [_], _ => rfl
theorem b__law_same : ∀ (kV doc pm : Value) (an : Option Addr) (cdv ct : Value) (us : List Value), us.length = [("actual" : Str), ("due" : Str)].length → bindArgs (PySem.W.fnOf "_law_same" "_law_same" (L2.defArgs (top 16)) (L2.defBody (top 16)) (L2.defScope (top 16)) .none kV doc pm an cdv ct) ⟨us, []⟩ = pure ((["actual", "due"] : List Str).zip us) :=
  fun _ _ _ _ _ _ us hl => match us, hl with | [_, _], _ => rfl
theorem b__law_is_integer : ∀ (kV doc pm : Value) (an : Option Addr) (cdv ct : Value) (us : List Value), us.length = [("actual" : Str)].length → bindArgs (PySem.W.fnOf "_law_is_integer" "_law_is_integer" (L2.defArgs (top 17)) (L2.defBody (top 17)) (L2.defScope (top 17)) .none kV doc pm an cdv ct) ⟨us, []⟩ = pure ((["actual"] : List Str).zip us) :=
  fun _ _ _ _ _ _ us hl => match us, hl with | [_], _ => rfl
theorem b__law_pool : ∀ (kV doc pm : Value) (an : Option Addr) (cdv ct : Value) (us : List Value), us.length = [("script" : Str)].length → bindArgs (PySem.W.fnOf "_law_pool" "_law_pool" (L2.defArgs (top 18)) (L2.defBody (top 18)) (L2.defScope (top 18)) .none kV doc pm an cdv ct) ⟨us, []⟩ = pure ((["script"] : List Str).zip us) :=
  fun _ _ _ _ _ _ us hl => match us, hl with | [_], _ => rfl
theorem b__law_spread : ∀ (kV doc pm : Value) (an : Option Addr) (cdv ct : Value) (us : List Value), us.length = [("cell" : Str)].length → bindArgs (PySem.W.fnOf "_law_spread" "_law_spread" (L2.defArgs (top 19)) (L2.defBody (top 19)) (L2.defScope (top 19)) .none kV doc pm an cdv ct) ⟨us, []⟩ = pure ((["cell"] : List Str).zip us) :=
  fun _ _ _ _ _ _ us hl => match us, hl with | [_], _ => rfl
theorem b__law_draw : ∀ (kV doc pm : Value) (an : Option Addr) (cdv ct : Value) (us : List Value), us.length = [("pool" : Str), ("many" : Str)].length → bindArgs (PySem.W.fnOf "_law_draw" "_law_draw" (L2.defArgs (top 20)) (L2.defBody (top 20)) (L2.defScope (top 20)) .none kV doc pm an cdv ct) ⟨us, []⟩ = pure ((["pool", "many"] : List Str).zip us) :=
  fun _ _ _ _ _ _ us hl => match us, hl with | [_, _], _ => rfl
theorem b__law_bent : ∀ (kV doc pm : Value) (an : Option Addr) (cdv ct : Value) (us : List Value), us.length = [("pool" : Str), ("value" : Str)].length → bindArgs (PySem.W.fnOf "_law_bent" "_law_bent" (L2.defArgs (top 21)) (L2.defBody (top 21)) (L2.defScope (top 21)) .none kV doc pm an cdv ct) ⟨us, []⟩ = pure ((["pool", "value"] : List Str).zip us) :=
  fun _ _ _ _ _ _ us hl => match us, hl with | [_, _], _ => rfl
theorem b__law_booled : ∀ (kV doc pm : Value) (an : Option Addr) (cdv ct : Value) (us : List Value), us.length = [("value" : Str)].length → bindArgs (PySem.W.fnOf "_law_booled" "_law_booled" (L2.defArgs (top 22)) (L2.defBody (top 22)) (L2.defScope (top 22)) .none kV doc pm an cdv ct) ⟨us, []⟩ = pure ((["value"] : List Str).zip us) :=
  fun _ _ _ _ _ _ us hl => match us, hl with | [_], _ => rfl
theorem b__law_is_number : ∀ (kV doc pm : Value) (an : Option Addr) (cdv ct : Value) (us : List Value), us.length = [("value" : Str), ("top" : Str)].length → bindArgs (PySem.W.fnOf "_law_is_number" "_law_is_number" (L2.defArgs (top 23)) (L2.defBody (top 23)) (L2.defScope (top 23)) .none kV doc pm an cdv ct) ⟨us, []⟩ = pure ((["value", "top"] : List Str).zip us) :=
  fun _ _ _ _ _ _ us hl => match us, hl with | [_, _], _ => rfl
theorem b__law_fan : ∀ (kV doc pm : Value) (an : Option Addr) (cdv ct : Value) (us : List Value), us.length = [("pool" : Str), ("most" : Str)].length → bindArgs (PySem.W.fnOf "_law_fan" "_law_fan" (L2.defArgs (top 24)) (L2.defBody (top 24)) (L2.defScope (top 24)) .none kV doc pm an cdv ct) ⟨us, []⟩ = pure ((["pool", "most"] : List Str).zip us) :=
  fun _ _ _ _ _ _ us hl => match us, hl with | [_, _], _ => rfl
theorem b__law_opened : ∀ (kV doc pm : Value) (an : Option Addr) (cdv ct : Value) (us : List Value), us.length = [("fan" : Str), ("k" : Str)].length → bindArgs (PySem.W.fnOf "_law_opened" "_law_opened" (L2.defArgs (top 25)) (L2.defBody (top 25)) (L2.defScope (top 25)) .none kV doc pm an cdv ct) ⟨us, []⟩ = pure ((["fan", "k"] : List Str).zip us) :=
  fun _ _ _ _ _ _ us hl => match us, hl with | [_, _], _ => rfl
theorem b__law_closes : ∀ (kV doc pm : Value) (an : Option Addr) (cdv ct : Value) (us : List Value), us.length = [("fan" : Str)].length → bindArgs (PySem.W.fnOf "_law_closes" "_law_closes" (L2.defArgs (top 26)) (L2.defBody (top 26)) (L2.defScope (top 26)) .none kV doc pm an cdv ct) ⟨us, []⟩ = pure ((["fan"] : List Str).zip us) :=
  fun _ _ _ _ _ _ us hl => match us, hl with | [_], _ => rfl
theorem b_law : ∀ (kV doc pm : Value) (an : Option Addr) (cdv ct : Value) (us : List Value), us.length = [("script" : Str)].length → bindArgs (PySem.W.fnOf "law" "law" (L2.defArgs (top 27)) (L2.defBody (top 27)) (L2.defScope (top 27)) .none kV doc pm an cdv ct) ⟨us, []⟩ = pure ((["script"] : List Str).zip us) :=
  fun _ _ _ _ _ _ us hl => match us, hl with | [_], _ => rfl
end K16
open PySem PySem.W PyProof.Rows
set_option maxRecDepth 100000 in
set_option maxHeartbeats 0 in
theorem PySem.Challenge.cw_foldsflat_k16_fans_told_holds : PySem.Challenge.rw_foldsflat_k16_fans_told.Holds := by
  w_on; o_law; k_head; (case hw => w_witness2)
  k_fill
  refine PV.finish (l := PySem.Challenge.rw_foldsflat_k16_fans_told) K16.tb K16.gl K16.xs K16.Gv 40 100 19 "script" rfl rfl ⟨rfl, by decide, by decide⟩ (fun w h Y => PySem.W.kIn_of Y) K16.tb_ok K16.r_law rfl rfl rfl rfl ?F K16.law_ok
  case F =>
    intro w mg h KX G
    refine ⟨?rs, ?gs, ?zs, ?xs⟩
    case rs =>
      simp only [K16.tb, List.forall_mem_cons]
      refine ⟨?r0, ?r1, ?r2, ?r3, ?r4, ?r5, ?r6, ?r7, ?r8, ?r9, ?r10, ?r11, ?r12, ?r13, ?r14, ?r15, ?r16, ?r17, ?r18, ?r19, fun r hr => by cases hr⟩
      case r0 =>
        refine' PV.row_mk (x := "is_whole") (st := K16.top 1) (ps := ["value"]) rfl rfl rfl KX G ?a ?l ?c ?k K16.b_is_whole
        (case a => k_is); (case l => k_is); (case c => k_is); (case k => k_is)
      case r1 =>
        refine' PV.row_mk (x := "is_from") (st := K16.top 2) (ps := ["value", "low", "high"]) rfl rfl rfl KX G ?a ?l ?c ?k K16.b_is_from
        (case a => k_is); (case l => k_is); (case c => k_is); (case k => k_is)
      case r2 =>
        refine' PV.row_mk (x := "points_of") (st := K16.top 8) (ps := ["lengths"]) rfl rfl rfl KX G ?a ?l ?c ?k K16.b_points_of
        (case a => k_is); (case l => k_is); (case c => k_is); (case k => k_is)
      case r3 =>
        refine' PV.row_mk (x := "is_fan") (st := K16.top 10) (ps := ["value"]) rfl rfl rfl KX G ?a ?l ?c ?k K16.b_is_fan
        (case a => k_is); (case l => k_is); (case c => k_is); (case k => k_is)
      case r4 =>
        refine' PV.row_mk (x := "bends") (st := K16.top 11) (ps := ["fan"]) rfl rfl rfl KX G ?a ?l ?c ?k K16.b_bends
        (case a => k_is); (case l => k_is); (case c => k_is); (case k => k_is)
      case r5 =>
        refine' PV.row_mk (x := "fan_closes") (st := K16.top 12) (ps := ["fan"]) rfl rfl rfl KX G ?a ?l ?c ?k K16.b_fan_closes
        (case a => k_is); (case l => k_is); (case c => k_is); (case k => k_is)
      case r6 =>
        refine' PV.row_mk (x := "opened_fan") (st := K16.top 13) (ps := ["fan", "k"]) rfl rfl rfl KX G ?a ?l ?c ?k K16.b_opened_fan
        (case a => k_is); (case l => k_is); (case c => k_is); (case k => k_is)
      case r7 =>
        refine' PV.row_mk (x := "ways_to_close") (st := K16.top 14) (ps := ["fan"]) rfl rfl rfl KX G ?a ?l ?c ?k K16.b_ways_to_close
        (case a => k_is); (case l => k_is); (case c => k_is); (case k => k_is)
      case r8 =>
        refine' PV.row_mk (x := "_law_same") (st := K16.top 16) (ps := ["actual", "due"]) rfl rfl rfl KX G ?a ?l ?c ?k K16.b__law_same
        (case a => k_is); (case l => k_is); (case c => k_is); (case k => k_is)
      case r9 =>
        refine' PV.row_mk (x := "_law_is_integer") (st := K16.top 17) (ps := ["actual"]) rfl rfl rfl KX G ?a ?l ?c ?k K16.b__law_is_integer
        (case a => k_is); (case l => k_is); (case c => k_is); (case k => k_is)
      case r10 =>
        refine' PV.row_mk (x := "_law_pool") (st := K16.top 18) (ps := ["script"]) rfl rfl rfl KX G ?a ?l ?c ?k K16.b__law_pool
        (case a => k_is); (case l => k_is); (case c => k_is); (case k => k_is)
      case r11 =>
        refine' PV.row_mk (x := "_law_spread") (st := K16.top 19) (ps := ["cell"]) rfl rfl rfl KX G ?a ?l ?c ?k K16.b__law_spread
        (case a => k_is); (case l => k_is); (case c => k_is); (case k => k_is)
      case r12 =>
        refine' PV.row_mk (x := "_law_draw") (st := K16.top 20) (ps := ["pool", "many"]) rfl rfl rfl KX G ?a ?l ?c ?k K16.b__law_draw
        (case a => k_is); (case l => k_is); (case c => k_is); (case k => k_is)
      case r13 =>
        refine' PV.row_mk (x := "_law_bent") (st := K16.top 21) (ps := ["pool", "value"]) rfl rfl rfl KX G ?a ?l ?c ?k K16.b__law_bent
        (case a => k_is); (case l => k_is); (case c => k_is); (case k => k_is)
      case r14 =>
        refine' PV.row_mk (x := "_law_booled") (st := K16.top 22) (ps := ["value"]) rfl rfl rfl KX G ?a ?l ?c ?k K16.b__law_booled
        (case a => k_is); (case l => k_is); (case c => k_is); (case k => k_is)
      case r15 =>
        refine' PV.row_mk (x := "_law_is_number") (st := K16.top 23) (ps := ["value", "top"]) rfl rfl rfl KX G ?a ?l ?c ?k K16.b__law_is_number
        (case a => k_is); (case l => k_is); (case c => k_is); (case k => k_is)
      case r16 =>
        refine' PV.row_mk (x := "_law_fan") (st := K16.top 24) (ps := ["pool", "most"]) rfl rfl rfl KX G ?a ?l ?c ?k K16.b__law_fan
        (case a => k_is); (case l => k_is); (case c => k_is); (case k => k_is)
      case r17 =>
        refine' PV.row_mk (x := "_law_opened") (st := K16.top 25) (ps := ["fan", "k"]) rfl rfl rfl KX G ?a ?l ?c ?k K16.b__law_opened
        (case a => k_is); (case l => k_is); (case c => k_is); (case k => k_is)
      case r18 =>
        refine' PV.row_mk (x := "_law_closes") (st := K16.top 26) (ps := ["fan"]) rfl rfl rfl KX G ?a ?l ?c ?k K16.b__law_closes
        (case a => k_is); (case l => k_is); (case c => k_is); (case k => k_is)
      case r19 =>
        refine' PV.row_mk (x := "law") (st := K16.top 27) (ps := ["script"]) rfl rfl rfl KX G ?a ?l ?c ?k K16.b_law
        (case a => k_is); (case l => k_is); (case c => k_is); (case k => k_is)
    case gs => exact ⟨fun x n e => by cases e⟩
    case zs =>
      refine PV.bn_mk KX G ?_
      simp only [PV.bNames, List.forall_mem_cons]
      refine ⟨?z0, ?z1, ?z2, ?z3, ?z4, ?z5, ?z6, ?z7, ?z8, ?z9, ?z10, ?z11, ?z12, ?z13, ?z14, ?z15, ?z16, ?z17, ?z18, fun x hx => by cases hx⟩
      all_goals k_is
    case xs =>
      have f0 := by
        refine' PV.xcn_own (x := "TooFew") KX G ?fa0 ?fq0 ?fb0 ?fc0 ?fd0 ?fe0 ?ff0 ?fg0 ?fh0 ?fi0 ?fj0 ?fk0
        (case fa0 => k_is); (case fq0 => k_exc); (case fb0 => k_is); (case fc0 => k_is); (case fd0 => k_is); (case fe0 => k_is); (case ff0 => k_is); (case fg0 => k_is); (case fh0 => k_is); (case fi0 => k_is); (case fj0 => k_is); (case fk0 => k_is)
      have e0 := by
        refine' PV.ecn_own (z := "TooFew") KX G ?ea0 ?ed0 ?ee0 ?eh0
        (case ea0 => k_is); (case ed0 => k_is); (case ee0 => k_is); (case eh0 => k_is)
      have e1 := by
        refine' PV.ecn_own (z := "FoldError") KX G ?ea1 ?ed1 ?ee1 ?eh1
        (case ea1 => k_is); (case ed1 => k_is); (case ee1 => k_is); (case eh1 => k_is)
      have e2 := by
        refine' PV.ecn_bi (z := "ValueError") (T := "ValueError") KX G ?ea2 ?eb2 ?ec2 ?ed2 ?ee2
        (case ea2 => k_is); (case eb2 => rfl); (case ec2 => decide); (case ed2 => k_is); (case ee2 => decide +kernel)
      have e3 := by
        refine' PV.ecn_own (z := "Open") KX G ?ea3 ?ed3 ?ee3 ?eh3
        (case ea3 => k_is); (case ed3 => k_is); (case ee3 => k_is); (case eh3 => k_is)
      have fx := (show PV.XcL _ _ [(("TooFew" : Str), ([] : List Str))] [_] from ⟨f0, trivial⟩)
      refine' PV.xs_of K16.xs (by decide +kernel) fx ⟨⟨_, e0, ⟨?s0_0, ?t0_0⟩, trivial⟩, ⟨_, e1, ⟨?s1_0, ?t1_0⟩, trivial⟩, ⟨_, e2, ⟨?s2_0, ?t2_0⟩, trivial⟩, ⟨_, e3, ⟨?s3_0, ?t3_0⟩, trivial⟩, trivial⟩
      (case s0_0 => k_is); (case t0_0 => intro h; first | rfl | (exact absurd h (by decide)))
      (case s1_0 => k_is); (case t1_0 => intro h; first | rfl | (exact absurd h (by decide)))
      (case s2_0 => k_is); (case t2_0 => intro h; first | rfl | (exact absurd h (by decide)))
      (case s3_0 => k_is); (case t3_0 => intro h; first | rfl | (exact absurd h (by decide)))

