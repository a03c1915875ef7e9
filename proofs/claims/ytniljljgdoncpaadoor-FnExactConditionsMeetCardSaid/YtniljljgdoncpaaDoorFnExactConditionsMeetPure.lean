/-
  The plain law: the plain functions answer true.
-/
import Derived.Test.YtniljljgdoncpaaDoorFnExactConditionsMeetLib
import Derived.Sort.AssemblyPlain
import Derived.Sort.LotD4
import Derived.Sort.LotD5
set_option linter.unusedVariables false
set_option linter.unusedSimpArgs false
set_option maxRecDepth 100000
namespace Go.Ln
open Go
theorem appI_one {α : Type} {b : Nat} {xs : List α} {y : α} (h : (xs.length + 1) * b ≤ 1099511627776) (h2 : xs.length + 1 ≤ 1099511627776) : appI b xs [y]=some (xs ++ [y]):=by
  unfold appI
  rw [if_pos]
  simp only [List.length_cons,List.length_nil,lim,Nat.zero_add]
  omega
theorem len_le1 {α β : Type} {f : α→List β} (hf : ∀ x,(f x).length ≤ 1) : ∀ (xs : List α),(xs.flatMap f).length ≤ xs.length
  | []=>by simp
  | x :: xs=>by
    have h1:=hf x
    have h2:=len_le1 hf xs
    rw [List.flatMap_cons,List.length_append,List.length_cons]
    omega
theorem flatMap_filter' {α : Type} {p : α→Bool} : ∀ (xs : List α),(xs.flatMap fun x=>bif p x then [x] else [])=xs.filter p
  | []=>rfl
  | x :: xs=>by
    rw [List.flatMap_cons,flatMap_filter' xs,List.filter_cons]
    cases p x <;> rfl
theorem take_len {α : Type} {xs : List α} {n : Nat} : (xs.take n).length ≤ n:=by rw [List.length_take]; omega
namespace PqS
/-! pdqsort: the printed functions are the plain ones -/
open Go.Sort
def ltE (x y : Str) : Bool:=Op.bytesLess x y
theorem less_val (x y : Str) : Ffa x y=some (ltE x y):=by
  unfold Ffa Ffb ltE
  simp [bne]
theorem gA {d : Array Str} {n : Nat} (h : n < d.size) : getI d.toList (n : Int)=some d[n]! := by
  rw [getI_nat]
  simp [h]
theorem sA {d : Array Str} {i j : Nat} : setI (setI d.toList (i : Int) d[j]!) (j : Int) d[i]! = (swp d i j).toList:=by
  rw [setI_nat,setI_nat]
  unfold swp
  simp
theorem gS {d : Array Str} {i j : Nat} {x : Str} (h : j < d.size) : ∃ y,getI (setI d.toList (i : Int) x) (j : Int)=some y:=by
  rw [getI_nat,setI_nat]
  exact ⟨_,List.getElem?_eq_getElem (by simpa using h)⟩
theorem gSb {d : Array Str} {j : Nat} (h : j < d.size) {β : Type} {I : Int} {x : Str} {k : Option β} : (getI (setI d.toList I x) (j : Int)).bind (fun _=>k)=k:=by
  rw [getI_nat]
  have : j < (setI d.toList I x).length:=by unfold setI; simpa using h
  rw [List.getElem?_eq_getElem this]
  rfl
theorem beqA {d d' : Array Str} (h : d'.size=d.size) : Nat.beq d'.toList.length d.toList.length=true:=by
  rw [Array.length_toList,Array.length_toList,h,Nat.beq_refl]
theorem insInner_size (a : Nat) : ∀ (j : Nat) (d : Array Str),(insInner ltE a j d).size=d.size
  | 0,d=>rfl
  | j + 1,d=>by
    unfold insInner
    split
    · rw [insInner_size,size_swp]
    · rfl
theorem ins_lb (D : List Str) (A B : Int) (a : Nat) (X : Int × Int × Int × List Str) (hX : X.1=(a : Int)) : ∀ (j : Nat) (d : Array Str),j < d.size→d.size ≤ 1048576→Ffbj_lb D A B X ((j : Int),d.toList)=some (.inr (insInner ltE a j d).toList)
  | 0,d,hj,hs=>by
    rw [Ffbj_lb_eq,Ffbj_lb_F]
    rw [decide_eq_false (show ¬ ((0 : Nat) : Int) > X.1 by omega),cond_false,bindL_inr,cond_false]
    rfl
  | j + 1,d,hj,hs=>by
    have w : w64 (((j + 1 : Nat) : Int) - 1)=(j : Int):=by rw [w64_id (by omega) (by omega)]; omega
    rw [Ffbj_lb_eq,Ffbj_lb_F,insInner]
    simp only [w,gA hj,gA (show j < d.size by omega),Option.bind_some,less_val,gSb (show j < d.size by omega),sA]
    by_cases h1 : j + 1 > a
    · rw [decide_eq_true (show ((j + 1 : Nat) : Int) > X.1 by omega),decide_eq_true h1,cond_true,bindL_inr,Bool.true_and]
      show (bif ltE d[j + 1]! d[j]! then _ else _)=_
      cases h2 : ltE d[j + 1]! d[j]! with
      | true=>rw [cond_true,if_pos rfl]; exact ins_lb D A B a X hX j _ (by rw [size_swp]; omega) (by rw [size_swp]; exact hs)
      | false=>rfl
    · rw [decide_eq_false (show ¬ ((j + 1 : Nat) : Int) > X.1 by omega),decide_eq_false h1,cond_false,bindL_inr,cond_false]
      rfl
theorem insOuter_size (a b : Nat) : ∀ (n i : Nat) (d : Array Str),b - i=n→(insOuter ltE a b i d).size=d.size
  | 0,i,d,h=>by rw [insOuter,if_neg (by omega)]
  | n + 1,i,d,h=>by rw [insOuter,if_pos (by omega),insOuter_size a b n (i + 1) _ (by omega),insInner_size]
theorem ins_la (D : List Str) (A B : Int) (a b : Nat) : ∀ (n i : Nat) (d : Array Str),b - i=n→b ≤ d.size→d.size ≤ 1048576→Ffbj_la D A B ((a : Int),(b : Int),(i : Int),d.toList)=some (.inr (insOuter ltE a b i d).toList)
  | 0,i,d,h,hb,hs=>by
    rw [Ffbj_la_eq,Ffbj_la_F,insOuter,if_neg (by omega)]
    simp only [decide_eq_false (show ¬ (i : Int) < (b : Int) by omega),cond_false]
  | n + 1,i,d,h,hb,hs=>by
    rw [Ffbj_la_eq,Ffbj_la_F,insOuter,if_pos (by omega)]
    simp only [decide_eq_true (show (i : Int) < (b : Int) by omega),cond_true]
    rw [ins_lb D A B a _ rfl i d (by omega) hs,bindL_inr,w64_succ (by omega)]
    exact ins_la D A B a b n (i + 1) _ (by omega) (by rw [insInner_size]; exact hb) (by rw [insInner_size]; exact hs)
theorem gen_ins (d : Array Str) (a b : Nat) (hb : b ≤ d.size) (ha : a ≤ b) (hs : d.size ≤ 1048576) : Ffbj d.toList (a : Int) (b : Int)=some (insertionSort ltE d a b).toList:=by
  unfold Ffbj insertionSort
  rw [w64_succ (by omega),ins_la d.toList a b a b (b - (a + 1)) (a + 1) d rfl hb hs,bindJ_inr,beqA (insOuter_size a b _ _ _ rfl),cond_true]
theorem reverseLoop_size : ∀ (n i j : Nat) (d : Array Str),j - i ≤ n→(reverseLoop i j d).size=d.size
  | 0,i,j,d,h=>by rw [reverseLoop,if_neg (by omega)]
  | n + 1,i,j,d,h=>by
    rw [reverseLoop]
    split
    · rw [reverseLoop_size n _ _ _ (by omega),size_swp]
    · rfl
theorem rev_la (D : List Str) (A B : Int) : ∀ (n i j : Nat) (d : Array Str),j - i ≤ n→1 ≤ j→j < d.size→d.size ≤ 1048576→Ffbs_la D A B ((i : Int),(j : Int),d.toList)=some (.inr (reverseLoop i j d).toList)
  | n,i,j,d,h,h1,hb,hs=>by
    rw [Ffbs_la_eq,Ffbs_la_F,reverseLoop]
    by_cases hij : i < j
    · have w : w64 ((j : Int) - 1)=((j - 1 : Nat) : Int):=by rw [w64_id (by omega) (by omega)]; omega
      simp only [decide_eq_true (show (i : Int) < (j : Int) by omega),cond_true,w,w64_succ (show i < 9223372036854775807 by omega),gA hb,gA (show i < d.size by omega),Option.bind_some,gSb hb,sA]
      rw [if_pos hij]
      match n,h with
      | 0,h=>omega
      | n + 1,h =>
        by_cases h2 : 1 ≤ j - 1
        · exact rev_la D A B n (i + 1) (j - 1) _ (by omega) h2 (by rw [size_swp]; omega) (by rw [size_swp]; exact hs)
        · rw [Ffbs_la_eq,Ffbs_la_F,reverseLoop,if_neg (by omega)]
          simp only [decide_eq_false (show ¬ ((i + 1 : Nat) : Int) < ((j - 1 : Nat) : Int) by omega),cond_false]
    · simp only [decide_eq_false (show ¬ (i : Int) < (j : Int) by omega),cond_false]
      rw [if_neg hij]
theorem gen_rev (d : Array Str) (a b : Nat) (hb : b ≤ d.size) (h1 : 2 ≤ b) (hs : d.size ≤ 1048576) : Ffbs d.toList (a : Int) (b : Int)=some (reverseRange d a b).toList:=by
  unfold Ffbs reverseRange
  have w : w64 ((b : Int) - 1)=((b - 1 : Nat) : Int):=by rw [w64_id (by omega) (by omega)]; omega
  rw [w,rev_la d.toList a b _ a (b - 1) d (Nat.le_refl _) (by omega) (by omega) hs,bindJ_inr,beqA (reverseLoop_size _ _ _ _ (Nat.le_refl _)),cond_true]
theorem siftDown_size (hi first : Nat) : ∀ (n root : Nat) (d : Array Str),hi - root ≤ n→(siftDown ltE hi first root d).size=d.size:=by
  intro n
  induction n with
  | zero=>intro root d h; rw [siftDown,dif_pos (by omega)]
  | succ n ih =>
    intro root d h
    rw [siftDown]
    split
    · rfl
    · split
      · split
        · rfl
        · split
          · rw [ih _ _ (by omega),size_swp]
          · rfl
      · split
        · rfl
        · rw [ih _ _ (by omega),size_swp]
theorem sift_la (D : List Str) (L0 : Int) (hi first : Nat) : ∀ (n root : Nat) (d : Array Str),hi - root ≤ n→root < hi→first + hi ≤ d.size→d.size ≤ 1048576→D.length=d.size→∃ y,Ffbt_la D L0 (hi : Int) (first : Int) ((root : Int),d.toList)=some y ∧ (y=.inl (siftDown ltE hi first root d).toList ∨ y=.inr (siftDown ltE hi first root d).toList):=by
  intro n
  induction n with
  | zero=>intro root d h hr hb hs hD; omega
  | succ n ih =>
    intro root d h hr hb hs hD
    have w1 : w64 (2 * (root : Int))=((2 * root : Nat) : Int):=by rw [w64_id (by omega) (by omega)]; omega
    have w2 : w64 (((2 * root : Nat) : Int) + 1)=((2 * root + 1 : Nat) : Int):=w64_succ (by omega)
    have w3 : w64 (((2 * root + 1 : Nat) : Int) + 1)=((2 * root + 2 : Nat) : Int):=w64_succ (by omega)
    have w4 : w64 ((first : Int) + ((2 * root + 1 : Nat) : Int))=((first + (2 * root + 1) : Nat) : Int):=by rw [w64_id (by omega) (by omega)]; omega
    have w5 : w64 (((first + (2 * root + 1) : Nat) : Int) + 1)=((first + (2 * root + 1) + 1 : Nat) : Int):=w64_succ (by omega)
    have w6 : w64 ((first : Int) + (root : Int))=((first + root : Nat) : Int):=by rw [w64_id (by omega) (by omega)]; omega
    have w7 : w64 ((first : Int) + ((2 * root + 2 : Nat) : Int))=((first + (2 * root + 2) : Nat) : Int):=by rw [w64_id (by omega) (by omega)]; omega
    rw [Ffbt_la_eq,Ffbt_la_F,siftDown]
    simp only [w1,w2,w3,w4,w5,w6]
    by_cases h1 : 2 * root + 1 ≥ hi
    · rw [decide_eq_true (show ((2 * root + 1 : Nat) : Int) ≥ (hi : Int) by omega),cond_true,dif_pos h1]
      exact ⟨_,rfl,.inr rfl⟩
    rw [decide_eq_false (show ¬ ((2 * root + 1 : Nat) : Int) ≥ (hi : Int) by omega),cond_false,dif_neg h1]
    by_cases h2 : 2 * root + 2 < hi
    · rw [decide_eq_true (show ((2 * root + 2 : Nat) : Int) < (hi : Int) by omega),cond_true,gA (show first + (2 * root + 1) < d.size by omega),gA (show first + (2 * root + 1) + 1 < d.size by omega),Option.bind_some,Option.bind_some,less_val,Option.bind_some,bindL_inr,decide_eq_true (show 2 * root + 1 + 1 < hi by omega),Bool.true_and]
      rw [show ltE d[first + (2 * root + 1)]! d[first + (2 * root + 1) + 1]! = ltE d[first + (2 * root + 1)]! d[first + (2 * root + 1) + 1]! from rfl]
      cases hq : ltE d[first + (2 * root + 1)]! d[first + (2 * root + 1) + 1]! with
      | true =>
        simp only [cond_true,letJ_eq,w7,gA (show first + root < d.size by omega),gA (show first + (2 * root + 2) < d.size by omega),Option.bind_some,less_val,gSb (show first + (2 * root + 2) < d.size by omega),sA,if_true]
        rw [show ltE d[first + root]! d[first + (2 * root + 2)]! = ltE d[first + root]! d[first + (2 * root + 2)]! from rfl]
        cases hz : ltE d[first + root]! d[first + (2 * root + 2)]! with
        | false =>
          rw [show Nat.beq d.toList.length D.length=true from by rw [hD,Array.length_toList,Nat.beq_refl]]
          exact ⟨_,rfl,.inl rfl⟩
        | true =>
          rw [Bool.not_true,cond_false,if_neg (by decide),dif_pos h2]
          exact ih (2 * root + 2) _ (by omega) h2 (by rw [size_swp]; exact hb) (by rw [size_swp]; exact hs) (by rw [size_swp]; exact hD)
      | false =>
        simp only [cond_false,letJ_eq,w4,gA (show first + root < d.size by omega),gA (show first + (2 * root + 1) < d.size by omega),Option.bind_some,less_val,gSb (show first + (2 * root + 1) < d.size by omega),sA,Bool.false_eq_true,if_false]
        rw [show ltE d[first + root]! d[first + (2 * root + 1)]! = ltE d[first + root]! d[first + (2 * root + 1)]! from rfl]
        cases hz : ltE d[first + root]! d[first + (2 * root + 1)]! with
        | false =>
          rw [show Nat.beq d.toList.length D.length=true from by rw [hD,Array.length_toList,Nat.beq_refl]]
          exact ⟨_,rfl,.inl rfl⟩
        | true =>
          rw [Bool.not_true,cond_false,if_neg (by decide)]
          exact ih (2 * root + 1) _ (by omega) (by omega) (by rw [size_swp]; exact hb) (by rw [size_swp]; exact hs) (by rw [size_swp]; exact hD)
    · rw [decide_eq_false (show ¬ ((2 * root + 2 : Nat) : Int) < (hi : Int) by omega),cond_false,bindL_inr,decide_eq_false (show ¬ 2 * root + 1 + 1 < hi by omega),Bool.false_and]
      simp only [cond_false,letJ_eq,w4,gA (show first + root < d.size by omega),gA (show first + (2 * root + 1) < d.size by omega),Option.bind_some,less_val,gSb (show first + (2 * root + 1) < d.size by omega),sA,Bool.false_eq_true,if_false]
      rw [show ltE d[first + root]! d[first + (2 * root + 1)]! = ltE d[first + root]! d[first + (2 * root + 1)]! from rfl]
      cases hz : ltE d[first + root]! d[first + (2 * root + 1)]! with
      | false =>
        rw [show Nat.beq d.toList.length D.length=true from by rw [hD,Array.length_toList,Nat.beq_refl]]
        exact ⟨_,rfl,.inl rfl⟩
      | true =>
        rw [Bool.not_true,cond_false,if_neg (by decide)]
        exact ih (2 * root + 1) _ (by omega) (by omega) (by rw [size_swp]; exact hb) (by rw [size_swp]; exact hs) (by rw [size_swp]; exact hD)
theorem gen_sift (d : Array Str) (hi first root : Nat) (hb : first + hi ≤ d.size) (hs : d.size ≤ 1048576) (hr : root ≤ hi) : Ffbt d.toList (root : Int) (hi : Int) (first : Int)=some (siftDown ltE hi first root d).toList:=by
  unfold Ffbt
  by_cases h : root < hi
  · obtain ⟨y,hy,hq⟩:=sift_la d.toList (root : Int) hi first (hi - root) root d (Nat.le_refl _) h hb hs (Array.length_toList)
    rw [hy]
    rcases hq with rfl | rfl
    · rfl
    · rw [bindJ_inr,beqA (siftDown_size hi first _ root d (Nat.le_refl _)),cond_true]
  · have w1 : w64 (2 * (root : Int))=((2 * root : Nat) : Int):=by rw [w64_id (by omega) (by omega)]; omega
    have w2 : w64 (((2 * root : Nat) : Int) + 1)=((2 * root + 1 : Nat) : Int):=w64_succ (by omega)
    rw [Ffbt_la_eq,Ffbt_la_F,siftDown]
    simp only [w1,w2]
    rw [decide_eq_true (show ((2 * root + 1 : Nat) : Int) ≥ (hi : Int) by omega),cond_true,dif_pos (by omega),bindJ_inr,beqA rfl,cond_true]
theorem heapBuild_size (hi first : Nat) : ∀ (k : Nat) (d : Array Str),(heapBuild ltE hi first k d).size=d.size
  | 0,d=>rfl
  | k + 1,d=>by rw [heapBuild,heapBuild_size,siftDown_size _ _ _ _ _ (Nat.le_refl _)]
theorem heapPop_size (first : Nat) : ∀ (k : Nat) (d : Array Str),(heapPop ltE first k d).size=d.size
  | 0,d=>rfl
  | k + 1,d=>by rw [heapPop,heapPop_size,siftDown_size _ _ _ _ _ (Nat.le_refl _),size_swp]
theorem heap_la (D : List Str) (a b : Nat) (ha : a ≤ b) : ∀ (k : Nat) (d : Array Str),k ≤ b - a→b ≤ d.size→d.size ≤ 1048576→Ffbi_la D (a : Int) (b : Int) ((k : Int) - 1,d.toList)=some (.inr ((a : Int),((b - a : Nat) : Int),(heapBuild ltE (b - a) a k d).toList))
  | 0,d,hk,hb,hs=>by
    have w : w64 ((b : Int) - (a : Int))=((b - a : Nat) : Int):=by rw [w64_id (by omega) (by omega)]; omega
    rw [Ffbi_la_eq,Ffbi_la_F]
    simp only [decide_eq_false (show ¬ ((0 : Nat) : Int) - 1 ≥ 0 by omega),cond_false,w]
    rfl
  | k + 1,d,hk,hb,hs=>by
    have w : w64 ((b : Int) - (a : Int))=((b - a : Nat) : Int):=by rw [w64_id (by omega) (by omega)]; omega
    have w2 : w64 ((k : Int) - 1)=(k : Int) - 1:=w64_id (by omega) (by omega)
    rw [Ffbi_la_eq,Ffbi_la_F]
    simp only [show ((k + 1 : Nat) : Int) - 1=(k : Int) by omega,decide_eq_true (show (k : Int) ≥ 0 by omega),cond_true,w,w2]
    rw [gen_sift d (b - a) a k (by omega) hs (by omega),Option.bind_some,beqA (siftDown_size _ _ _ _ _ (Nat.le_refl _)),cond_true,heapBuild]
    exact heap_la D a b ha k _ (by omega) (by rw [siftDown_size _ _ _ _ _ (Nat.le_refl _)]; exact hb) (by rw [siftDown_size _ _ _ _ _ (Nat.le_refl _)]; exact hs)
theorem heap_lb (D : List Str) (A B : Int) (a : Nat) (U : Int × Int × List Str) (hU : U.1=(a : Int)) : ∀ (k : Nat) (d : Array Str),a + k ≤ d.size→d.size ≤ 1048576→Ffbi_lb D A B U ((k : Int) - 1,d.toList)=some (.inr (heapPop ltE a k d).toList)
  | 0,d,hb,hs=>by
    rw [Ffbi_lb_eq,Ffbi_lb_F]
    simp only [decide_eq_false (show ¬ ((0 : Nat) : Int) - 1 ≥ 0 by omega),cond_false]
    rfl
  | k + 1,d,hb,hs=>by
    have w2 : w64 ((k : Int) - 1)=(k : Int) - 1:=w64_id (by omega) (by omega)
    have w3 : w64 ((a : Int) + (k : Int))=((a + k : Nat) : Int):=by rw [w64_id (by omega) (by omega)]; omega
    rw [Ffbi_lb_eq,Ffbi_lb_F]
    simp only [hU,show ((k + 1 : Nat) : Int) - 1=(k : Int) by omega,decide_eq_true (show (k : Int) ≥ 0 by omega),cond_true,w2,w3,gA (show a + k < d.size by omega),gA (show a < d.size by omega),Option.bind_some,gSb (show a + k < d.size by omega),sA]
    rw [show (0 : Int)=((0 : Nat) : Int) from rfl,gen_sift _ k a 0 (by rw [size_swp]; omega) (by rw [size_swp]; exact hs) (by omega),Option.bind_some,beqA (siftDown_size _ _ _ _ _ (Nat.le_refl _)),cond_true,heapPop]
    exact heap_lb D A B a U hU k _ (by rw [siftDown_size _ _ _ _ _ (Nat.le_refl _),size_swp]; omega) (by rw [siftDown_size _ _ _ _ _ (Nat.le_refl _),size_swp]; exact hs)
theorem heapSort_size (d : Array Str) (a b : Nat) : (heapSort ltE d a b).size=d.size:=by unfold heapSort; rw [heapPop_size,heapBuild_size]
theorem gen_heap (d : Array Str) (a b : Nat) (ha : a + 2 ≤ b) (hb : b ≤ d.size) (hs : d.size ≤ 1048576) : Ffbi d.toList (a : Int) (b : Int)=some (heapSort ltE d a b).toList:=by
  unfold Ffbi
  have w : w64 ((b : Int) - (a : Int))=((b - a : Nat) : Int):=by rw [w64_id (by omega) (by omega)]; omega
  have w1 : w64 (((b - a : Nat) : Int) - 1)=((b - a - 1 : Nat) : Int):=by rw [w64_id (by omega) (by omega)]; omega
  have w2 : w64 (((b - a - 1 : Nat) : Int).tdiv 2)=((((b - a - 1) / 2 + 1 : Nat)) : Int) - 1:=by
    rw [Int.tdiv_eq_ediv_of_nonneg (by omega),w64_id (by omega) (by omega)]
    omega
  rw [w,w1,w2,heap_la d.toList a b (by omega) ((b - a - 1) / 2 + 1) d (by omega) hb hs,bindJ_inr]
  simp only [show w64 (((b - a : Nat) : Int) - 1)=((b - a : Nat) : Int) - 1 from w64_id (by omega) (by omega)]
  rw [heap_lb d.toList a b a _ rfl (b - a) _ (by rw [heapBuild_size]; omega) (by rw [heapBuild_size]; exact hs),bindJ_inr]
  have:=heapSort_size d a b
  unfold heapSort at this
  rw [beqA this,cond_true]
  rfl
theorem bitsLen_div {n k : Nat} (h : 2 ^ k ≤ n) : bitsLen n=bitsLen (n / 2 ^ k) + k:=by
  have h1 : ∀ m,bitsLen n ≤ m + k ↔ bitsLen (n / 2 ^ k) ≤ m:=by
    intro m
    rw [bitsLen_le_iff,bitsLen_le_iff,Nat.div_lt_iff_lt_mul (Nat.two_pow_pos k),Nat.pow_add]
  have h2 : k ≤ bitsLen n:=by
    rcases Nat.lt_or_ge (bitsLen n) k with h3 | h3
    · have:=(bitsLen_le_iff n (k - 1)).1 (by omega)
      have : 2 ^ (k - 1) ≤ 2 ^ k:=Nat.pow_le_pow_right (by decide) (by omega)
      omega
    · exact h3
  have h4:=(h1 (bitsLen n - k)).1 (by omega)
  have h5:=(h1 (bitsLen (n / 2 ^ k))).2 (Nat.le_refl _)
  omega
theorem shr_nat {n j : Nat} (hj : j ≤ 64) : shrI .u64 (n : Int) (j : Int)=((n / 2 ^ j : Nat) : Int):=by
  unfold shrI
  rw [Int.toNat_natCast,show min j (IntKind.bits .u64)=j from Nat.min_eq_left hj,Int.fdiv_eq_ediv_of_nonneg _ (Int.le_of_lt (Int.pow_pos (by decide)))]
  simp
theorem u64_nat {n : Nat} (h : n < 18446744073709551616) : IntKind.u64.wrap (n : Int)=(n : Int):=by
  show (n : Int) % 18446744073709551616=n
  omega
theorem shl_nat {n j : Nat} (hj : j ≤ 64) : shlI .u64 (n : Int) (j : Int)=((n * 2 ^ j % 18446744073709551616 : Nat) : Int):=by
  unfold shlI
  rw [Int.toNat_natCast,show min j (IntKind.bits .u64)=j from Nat.min_eq_left hj]
  show ((n : Int) * 2 ^ j) % 18446744073709551616=_
  simp
theorem bv_nat {n : Nat} (h : n < 18446744073709551616) : (BitVec.ofInt (IntKind.bits .u64) (n : Int)).toNat=n:=by
  show (BitVec.ofInt 64 (n : Int)).toNat=n
  rw [BitVec.toNat_ofInt]
  omega
theorem xor_nat {x y : Nat} (hx : x < 18446744073709551616) (hy : y < 18446744073709551616) : xorI .u64 (x : Int) (y : Int)=((x ^^^ y : Nat) : Int):=by
  unfold xorI
  rw [BitVec.toNat_xor,bv_nat hx,bv_nat hy]
  exact u64_nat (Nat.xor_lt_two_pow (n:=64) hx hy)
theorem and_nat {x y : Nat} (hx : x < 18446744073709551616) (hy : y < 18446744073709551616) : andI .u64 (x : Int) (y : Int)=((x &&& y : Nat) : Int):=by
  unfold andI
  rw [BitVec.toNat_and,bv_nat hx,bv_nat hy]
  exact u64_nat (Nat.lt_of_le_of_lt Nat.and_le_left hx)
theorem xs_next (r : UInt64) : Ffbu (r.toNat : Int)=some (((xorNext r).toNat : Int),((xorNext r).toNat : Int)):=by
  have hr:=r.toNat_lt
  have p : (18446744073709551616 : Nat)=2 ^ 64:=by decide
  unfold Ffbu
  have e1 : shlI .u64 (r.toNat : Int) 13=((r.toNat * 8192 % 18446744073709551616 : Nat) : Int):=shl_nat (j:=13) (by decide)
  have l1 : r.toNat * 8192 % 18446744073709551616 < 18446744073709551616:=Nat.mod_lt _ (by decide)
  have ha : (r.toNat ^^^ (r.toNat * 8192 % 18446744073709551616)) < 18446744073709551616:=Nat.xor_lt_two_pow (n:=64) hr l1
  have e2 : shrI .u64 ((r.toNat ^^^ (r.toNat * 8192 % 18446744073709551616) : Nat) : Int) 7=(((r.toNat ^^^ (r.toNat * 8192 % 18446744073709551616)) / 128 : Nat) : Int):=shr_nat (j:=7) (by decide)
  have l2 : (r.toNat ^^^ (r.toNat * 8192 % 18446744073709551616)) / 128 < 18446744073709551616:=by omega
  have hb : ((r.toNat ^^^ (r.toNat * 8192 % 18446744073709551616)) ^^^ ((r.toNat ^^^ (r.toNat * 8192 % 18446744073709551616)) / 128)) < 18446744073709551616:=Nat.xor_lt_two_pow (n:=64) ha l2
  have e3 : shlI .u64 (((r.toNat ^^^ (r.toNat * 8192 % 18446744073709551616)) ^^^ ((r.toNat ^^^ (r.toNat * 8192 % 18446744073709551616)) / 128) : Nat) : Int) 17=((((r.toNat ^^^ (r.toNat * 8192 % 18446744073709551616)) ^^^ ((r.toNat ^^^ (r.toNat * 8192 % 18446744073709551616)) / 128)) * 131072 % 18446744073709551616 : Nat) : Int):=shl_nat (j:=17) (by decide)
  rw [e1,xor_nat hr l1,e2,xor_nat ha l2,e3,xor_nat hb (Nat.mod_lt _ (by decide)),xorNext_toNat]
  rfl
theorem len_table : ∀ n,n < 256→([0,1,2,2,3,3,3,3,4,4,4,4,4,4,4,4,5,5,5,5,5,5,5,5,5,5,5,5,5,5,5,5,6,6,6,6,6,6,6,6,6,6,6,6,6,6,6,6,6,6,6,6,6,6,6,6,6,6,6,6,6,6,6,6,7,7,7,7,7,7,7,7,7,7,7,7,7,7,7,7,7,7,7,7,7,7,7,7,7,7,7,7,7,7,7,7,7,7,7,7,7,7,7,7,7,7,7,7,7,7,7,7,7,7,7,7,7,7,7,7,7,7,7,7,7,7,7,7,8,8,8,8,8,8,8,8,8,8,8,8,8,8,8,8,8,8,8,8,8,8,8,8,8,8,8,8,8,8,8,8,8,8,8,8,8,8,8,8,8,8,8,8,8,8,8,8,8,8,8,8,8,8,8,8,8,8,8,8,8,8,8,8,8,8,8,8,8,8,8,8,8,8,8,8,8,8,8,8,8,8,8,8,8,8,8,8,8,8,8,8,8,8,8,8,8,8,8,8,8,8,8,8,8,8,8,8,8,8,8,8,8,8,8,8,8,8,8,8,8,8,8,8,8,8,8,8] : Str)[n]?=some (UInt8.ofNat (bitsLen n)):=by decide +kernel
theorem bitsLen_256 {n : Nat} (h : n < 256) : bitsLen n ≤ 8:=(bitsLen_le_iff n 8).2 h
theorem len_val {n : Nat} (h : n < 16777216) : Ffy (n : Int)=some ((bitsLen n : Nat) : Int):=by
  have tab : ∀ {m : Nat} (k : Int),m < 256→0 ≤ k→k ≤ 100→((getI ([0,1,2,2,3,3,3,3,4,4,4,4,4,4,4,4,5,5,5,5,5,5,5,5,5,5,5,5,5,5,5,5,6,6,6,6,6,6,6,6,6,6,6,6,6,6,6,6,6,6,6,6,6,6,6,6,6,6,6,6,6,6,6,6,7,7,7,7,7,7,7,7,7,7,7,7,7,7,7,7,7,7,7,7,7,7,7,7,7,7,7,7,7,7,7,7,7,7,7,7,7,7,7,7,7,7,7,7,7,7,7,7,7,7,7,7,7,7,7,7,7,7,7,7,7,7,7,7,8,8,8,8,8,8,8,8,8,8,8,8,8,8,8,8,8,8,8,8,8,8,8,8,8,8,8,8,8,8,8,8,8,8,8,8,8,8,8,8,8,8,8,8,8,8,8,8,8,8,8,8,8,8,8,8,8,8,8,8,8,8,8,8,8,8,8,8,8,8,8,8,8,8,8,8,8,8,8,8,8,8,8,8,8,8,8,8,8,8,8,8,8,8,8,8,8,8,8,8,8,8,8,8,8,8,8,8,8,8,8,8,8,8,8,8,8,8,8,8,8,8,8,8,8,8,8,8] : Str) (IntKind.u8.wrap (m : Int))).bind fun c5=>some (w64 (k + (IntKind.i64.wrap (c5.toNat : Int)))))=some (k + ((bitsLen m : Nat) : Int)):=by
    intro m k hm h0 h1
    have hb:=bitsLen_256 hm
    have e : IntKind.u8.wrap (m : Int)=(m : Int):=by
      show (m : Int) % 256=m
      omega
    have e2 : (UInt8.ofNat (bitsLen m)).toNat=bitsLen m:=by
      rw [UInt8.toNat_ofNat']
      omega
    rw [e,getI_nat,len_table m hm,Option.bind_some,e2,show IntKind.i64.wrap ((bitsLen m : Nat) : Int)=((bitsLen m : Nat) : Int) from w64_id (by omega) (by omega),w64_id (by omega) (by omega)]
  unfold Ffy Ffz
  simp only [letJ_eq,decide_eq_false (show ¬ (n : Int) ≥ 4294967296 by omega),cond_false]
  by_cases h2 : n < 65536
  · simp only [decide_eq_false (show ¬ (n : Int) ≥ 65536 by omega),cond_false]
    by_cases h3 : n < 256
    · simp only [decide_eq_false (show ¬ (n : Int) ≥ 256 by omega),cond_false]
      rw [tab 0 h3 (by decide) (by decide),Option.bind_some]
      simp
    · simp only [decide_eq_true (show (n : Int) ≥ 256 by omega),cond_true]
      rw [show shrI .u64 (n : Int) 8=((n / 256 : Nat) : Int) from shr_nat (j:=8) (by decide),show w64 (0 + 8)=8 from by decide,tab 8 (by omega) (by decide) (by decide),Option.bind_some,bitsLen_div (n:=n) (k:=8) (by omega)]
      congr 1
      show (8 : Int) + ((bitsLen (n / 256) : Nat) : Int)=((bitsLen (n / 256) + 8 : Nat) : Int)
      omega
  · simp only [decide_eq_true (show (n : Int) ≥ 65536 by omega),cond_true]
    rw [show shrI .u64 (n : Int) 16=((n / 65536 : Nat) : Int) from shr_nat (j:=16) (by decide),show w64 (0 + 16)=16 from by decide]
    simp only [decide_eq_false (show ¬ ((n / 65536 : Nat) : Int) ≥ 256 by omega),cond_false]
    rw [tab 16 (by omega) (by decide) (by decide),Option.bind_some,bitsLen_div (n:=n) (k:=16) (by omega)]
    congr 1
    show (16 : Int) + ((bitsLen (n / 65536) : Nat) : Int)=((bitsLen (n / 65536) + 16 : Nat) : Int)
    omega
theorem bitsLen_24 {n : Nat} (h : n < 16777216) : bitsLen n ≤ 24:=(bitsLen_le_iff n 24).2 h
theorem pow2_val {n : Nat} (h : n < 16777216) : Ffbm (n : Int)=some ((1 <<< bitsLen n : Nat) : Int):=by
  have hb:=bitsLen_24 h
  unfold Ffbm
  rw [u64_nat (by omega),len_val h,Option.bind_some]
  unfold shlO
  rw [if_neg (by omega),show shlI .u64 1 ((bitsLen n : Nat) : Int)=((1 * 2 ^ bitsLen n % 18446744073709551616 : Nat) : Int) from shl_nat (n:=1) (by omega),Option.bind_some,Nat.one_shiftLeft,Nat.one_mul,Nat.mod_eq_of_lt]
  exact Nat.lt_of_le_of_lt (Nat.pow_le_pow_right (by decide) hb) (by decide)
theorem breakStep_size (a l m : Nat) (st : UInt64 × Array Str) (i : Nat) : (breakStep a l m st i).2.size=st.2.size:=by
  unfold breakStep
  simp only []
  rw [size_swp]
theorem brk_step (D : List Str) (a b : Nat) (i : Nat) (r : UInt64) (d : Array Str) (ha : a ≤ b) (h8 : 8 ≤ b - a) (hb : b ≤ d.size) (hs : d.size ≤ 1048576) (hi : i ≤ a + (b - a) / 4 * 2 + 1) :
    Ffbg_la D (a : Int) (b : Int) ((1 <<< bitsLen (b - a) : Nat) : Int) ((i : Int), d.toList, (r.toNat : Int)) =
      Ffbg_la D (a : Int) (b : Int) ((1 <<< bitsLen (b - a) : Nat) : Int) (((i + 1 : Nat) : Int), (breakStep a (b - a) (1 <<< bitsLen (b - a)) (r, d) i).2.toList, ((breakStep a (b - a) (1 <<< bitsLen (b - a)) (r, d) i).1.toNat : Int)) := by
  have hl := bitsLen_24 (n := b - a) (by omega)
  have hp := two_pow_bitsLen_le (n := b - a) (by omega)
  have hpos : 0 < 2 ^ bitsLen (b - a) := Nat.two_pow_pos _
  have w1 : w64 ((b : Int) - (a : Int)) = ((b - a : Nat) : Int) := by rw [w64_id (by omega) (by omega)]; omega
  have w2 : w64 (((b - a : Nat) : Int).tdiv 4) = (((b - a) / 4 : Nat) : Int) := by rw [Int.tdiv_eq_ediv_of_nonneg (by omega), w64_id (by omega) (by omega)]; omega
  have w3 : w64 ((((b - a) / 4 : Nat) : Int) * 2) = (((b - a) / 4 * 2 : Nat) : Int) := by rw [w64_id (by omega) (by omega)]; omega
  have w4 : w64 ((a : Int) + (((b - a) / 4 * 2 : Nat) : Int)) = ((a + (b - a) / 4 * 2 : Nat) : Int) := by rw [w64_id (by omega) (by omega)]; omega
  have w5 : w64 (((a + (b - a) / 4 * 2 : Nat) : Int) + 1) = ((a + (b - a) / 4 * 2 + 1 : Nat) : Int) := w64_succ (by omega)
  have hm : (xorNext r).toNat &&& (1 <<< bitsLen (b - a) - 1) ≤ 1 <<< bitsLen (b - a) - 1 := Nat.and_le_right
  have hx := (xorNext r).toNat_lt
  rw [Nat.one_shiftLeft] at *
  have e1 : IntKind.u64.wrap (((2 ^ bitsLen (b - a) : Nat) : Int) - 1) = ((2 ^ bitsLen (b - a) - 1 : Nat) : Int) := by
    rw [show ((2 ^ bitsLen (b - a) : Nat) : Int) - 1 = ((2 ^ bitsLen (b - a) - 1 : Nat) : Int) by omega]
    exact u64_nat (by omega)
  have e2 : IntKind.i64.wrap (andI .u64 ((xorNext r).toNat : Int) ((2 ^ bitsLen (b - a) - 1 : Nat) : Int)) = (((xorNext r).toNat &&& (2 ^ bitsLen (b - a) - 1) : Nat) : Int) := by
    rw [and_nat hx (by omega)]
    exact w64_id (by omega) (by omega)
  rw [Ffbg_la_eq, Ffbg_la_F]
  simp only [w1, w2, w3, w4, w5, decide_eq_true (show (i : Int) ≤ ((a + (b - a) / 4 * 2 + 1 : Nat) : Int) by omega), cond_true, xs_next, Option.bind_some, letJ_eq, e1, e2, w64_succ (show i < 9223372036854775807 by omega)]
  unfold breakStep
  simp only []
  by_cases hq : (xorNext r).toNat &&& (2 ^ bitsLen (b - a) - 1) ≥ b - a
  · have w6 : w64 ((((xorNext r).toNat &&& (2 ^ bitsLen (b - a) - 1) : Nat) : Int) - ((b - a : Nat) : Int)) = (((xorNext r).toNat &&& (2 ^ bitsLen (b - a) - 1)) - (b - a) : Nat) := by rw [w64_id (by omega) (by omega)]; omega
    have w7 : w64 ((a : Int) + ((((xorNext r).toNat &&& (2 ^ bitsLen (b - a) - 1)) - (b - a) : Nat) : Int)) = ((a + (((xorNext r).toNat &&& (2 ^ bitsLen (b - a) - 1)) - (b - a)) : Nat) : Int) := by rw [w64_id (by omega) (by omega)]; omega
    rw [if_pos hq]
    simp only [decide_eq_true (show (((xorNext r).toNat &&& (2 ^ bitsLen (b - a) - 1) : Nat) : Int) ≥ ((b - a : Nat) : Int) by omega), cond_true, w6, w7, gA (show a + (((xorNext r).toNat &&& (2 ^ bitsLen (b - a) - 1)) - (b - a)) < d.size by omega), gA (show i < d.size by omega), Option.bind_some, gSb (show a + (((xorNext r).toNat &&& (2 ^ bitsLen (b - a) - 1)) - (b - a)) < d.size by omega), sA]
  · have w7 : w64 ((a : Int) + (((xorNext r).toNat &&& (2 ^ bitsLen (b - a) - 1) : Nat) : Int)) = ((a + ((xorNext r).toNat &&& (2 ^ bitsLen (b - a) - 1)) : Nat) : Int) := by rw [w64_id (by omega) (by omega)]; omega
    rw [if_neg hq]
    simp only [decide_eq_false (show ¬ (((xorNext r).toNat &&& (2 ^ bitsLen (b - a) - 1) : Nat) : Int) ≥ ((b - a : Nat) : Int) by omega), cond_false, w7, gA (show a + ((xorNext r).toNat &&& (2 ^ bitsLen (b - a) - 1)) < d.size by omega), gA (show i < d.size by omega), Option.bind_some, gSb (show a + ((xorNext r).toNat &&& (2 ^ bitsLen (b - a) - 1)) < d.size by omega), sA]
theorem breakPatterns_size (d : Array Str) (a b : Nat) : (breakPatterns d a b).size=d.size:=by
  unfold breakPatterns
  simp only []
  split
  · rw [breakStep_size,breakStep_size,breakStep_size]
  · rfl
theorem gen_brk (d : Array Str) (a b : Nat) (ha : a ≤ b) (hb : b ≤ d.size) (hs : d.size ≤ 1048576) : Ffbg d.toList (a : Int) (b : Int)=some (breakPatterns d a b).toList:=by
  have hz:=breakPatterns_size d a b
  unfold Ffbg
  have w1 : w64 ((b : Int) - (a : Int))=((b - a : Nat) : Int):=by rw [w64_id (by omega) (by omega)]; omega
  rw [w1]
  by_cases h8 : 8 ≤ b - a
  · have w2 : w64 (((b - a : Nat) : Int).tdiv 4)=(((b - a) / 4 : Nat) : Int):=by rw [Int.tdiv_eq_ediv_of_nonneg (by omega),w64_id (by omega) (by omega)]; omega
    have w3 : w64 ((((b - a) / 4 : Nat) : Int) * 2)=(((b - a) / 4 * 2 : Nat) : Int):=by rw [w64_id (by omega) (by omega)]; omega
    have w4 : w64 ((a : Int) + (((b - a) / 4 * 2 : Nat) : Int))=((a + (b - a) / 4 * 2 : Nat) : Int):=by rw [w64_id (by omega) (by omega)]; omega
    have w5 : w64 (((a + (b - a) / 4 * 2 : Nat) : Int) - 1)=((a + (b - a) / 4 * 2 - 1 : Nat) : Int):=by rw [w64_id (by omega) (by omega)]; omega
    have w6 : w64 (((a + (b - a) / 4 * 2 : Nat) : Int) + 1)=((a + (b - a) / 4 * 2 + 1 : Nat) : Int):=w64_succ (by omega)
    have w7 : IntKind.u64.wrap ((b - a : Nat) : Int)=((UInt64.ofNat (b - a)).toNat : Int):=by
      rw [u64_nat (by omega),UInt64.toNat_ofNat']
      omega
    rw [decide_eq_true (show ((b - a : Nat) : Int) ≥ 8 by omega),cond_true,pow2_val (by omega),Option.bind_some,w2,w3,w4,w5,w7]
    rw [brk_step d.toList a b _ _ d ha h8 hb hs (by omega),brk_step d.toList a b _ _ _ ha h8 (by rw [breakStep_size]; exact hb) (by rw [breakStep_size]; exact hs) (by omega),brk_step d.toList a b _ _ _ ha h8 (by rw [breakStep_size,breakStep_size]; exact hb) (by rw [breakStep_size,breakStep_size]; exact hs) (by omega)]
    rw [Ffbg_la_eq,Ffbg_la_F]
    simp only [w1,w2,w3,w4,w6,decide_eq_false (show ¬ ((a + (b - a) / 4 * 2 - 1 + 1 + 1 + 1 : Nat) : Int) ≤ ((a + (b - a) / 4 * 2 + 1 : Nat) : Int) by omega),cond_false,bindL_inr,bindJ_inr]
    unfold breakPatterns at hz ⊢
    simp only [] at hz ⊢
    rw [if_pos h8] at hz ⊢
    rw [beqA hz,cond_true]
  · rw [decide_eq_false (show ¬ ((b - a : Nat) : Int) ≥ 8 by omega),cond_false,bindJ_inr,beqA rfl,cond_true]
    unfold breakPatterns
    simp only []
    rw [if_neg h8]
theorem gen_order2 (d : Array Str) (a b s : Nat) (ha : a < d.size) (hb : b < d.size) (hs : s ≤ 1000) : Ffbn d.toList (a : Int) (b : Int) (s : Int)=some (((order2 ltE d a b s).1 : Int),((order2 ltE d a b s).2.1 : Int),((order2 ltE d a b s).2.2 : Int)):=by
  unfold Ffbn order2
  rw [gA hb,Option.bind_some,gA ha,Option.bind_some,less_val,Option.bind_some,w64_succ (by omega)]
  rw [show ltE d[b]! d[a]! = ltE d[b]! d[a]! from rfl]
  cases ltE d[b]! d[a]! <;> rfl
theorem order2_lt (d : Array Str) (a b s n : Nat) (ha : a < n) (hb : b < n) : (order2 ltE d a b s).1 < n ∧ (order2 ltE d a b s).2.1 < n:=by
  rcases order2_mem ltE d a b s with ⟨h1,h2⟩ | ⟨h1,h2⟩ <;> rw [h1,h2] <;> exact ⟨by assumption,by assumption⟩
theorem gen_median (d : Array Str) (a b c s : Nat) (ha : a < d.size) (hb : b < d.size) (hc : c < d.size) (hs : s ≤ 900) : Ffbl d.toList (a : Int) (b : Int) (c : Int) (s : Int)=some (((median ltE d a b c s).1 : Int),((median ltE d a b c s).2 : Int)):=by
  unfold Ffbl median
  simp only []
  have c1:=order2_count ltE d a b s
  obtain ⟨p1,p2⟩:=order2_lt d a b s d.size ha hb
  have c2:=order2_count ltE d (order2 ltE d a b s).2.1 c (order2 ltE d a b s).2.2
  obtain ⟨p3,p4⟩:=order2_lt d (order2 ltE d a b s).2.1 c (order2 ltE d a b s).2.2 d.size p2 hc
  rw [gen_order2 d a b s ha hb (by omega),Option.bind_some]
  simp only []
  rw [gen_order2 d _ c _ p2 hc (by omega),Option.bind_some]
  simp only []
  rw [gen_order2 d _ _ _ p1 p3 (by omega),Option.bind_some]
theorem gen_medianAdj (d : Array Str) (a s : Nat) (h1 : 1 ≤ a) (ha : a + 1 < d.size) (hz : d.size ≤ 1048576) (hs : s ≤ 800) : Ffbk d.toList (a : Int) (s : Int)=some (((medianAdjacent ltE d a s).1 : Int),((medianAdjacent ltE d a s).2 : Int)):=by
  unfold Ffbk medianAdjacent
  have w1 : w64 ((a : Int) - 1)=((a - 1 : Nat) : Int):=by rw [w64_id (by omega) (by omega)]; omega
  rw [w1,w64_succ (by omega),gen_median d _ _ _ _ (by omega) (by omega) ha (by omega),Option.bind_some]
theorem adj_lt (d : Array Str) (a s n : Nat) (ha : a + 1 < n) : (medianAdjacent ltE d a s).1 < n:=by
  rcases medianAdjacent_mem ltE d a s with h | h | h <;> rw [h] <;> omega
theorem raw_mem (d : Array Str) (a b : Nat) (h : a < b) : a ≤ (rawPivot ltE d a b).1 ∧ (rawPivot ltE d a b).1 < b:=by
  have:=choosePivot_holds ltE d a b h
  rw [choosePivot_eq] at this
  exact this
theorem gen_pivot (d : Array Str) (a b : Nat) (ha : a < b) (hb : b ≤ d.size) (hs : d.size ≤ 1048576) : Ffbh d.toList (a : Int) (b : Int)=some (((choosePivot ltE d a b).1 : Int),hintCode (choosePivot ltE d a b).2):=by
  rw [choosePivot_eq]
  unfold Ffbh
  have w1 : w64 ((b : Int) - (a : Int))=((b - a : Nat) : Int):=by rw [w64_id (by omega) (by omega)]; omega
  have w2 : w64 (((b - a : Nat) : Int).tdiv 4)=(((b - a) / 4 : Nat) : Int):=by rw [Int.tdiv_eq_ediv_of_nonneg (by omega),w64_id (by omega) (by omega)]; omega
  have w3 : w64 ((((b - a) / 4 : Nat) : Int) * 1)=(((b - a) / 4 * 1 : Nat) : Int):=by rw [w64_id (by omega) (by omega)]; omega
  have w4 : w64 ((((b - a) / 4 : Nat) : Int) * 2)=(((b - a) / 4 * 2 : Nat) : Int):=by rw [w64_id (by omega) (by omega)]; omega
  have w5 : w64 ((((b - a) / 4 : Nat) : Int) * 3)=(((b - a) / 4 * 3 : Nat) : Int):=by rw [w64_id (by omega) (by omega)]; omega
  have w6 : w64 ((a : Int) + (((b - a) / 4 * 1 : Nat) : Int))=((a + (b - a) / 4 * 1 : Nat) : Int):=by rw [w64_id (by omega) (by omega)]; omega
  have w7 : w64 ((a : Int) + (((b - a) / 4 * 2 : Nat) : Int))=((a + (b - a) / 4 * 2 : Nat) : Int):=by rw [w64_id (by omega) (by omega)]; omega
  have w8 : w64 ((a : Int) + (((b - a) / 4 * 3 : Nat) : Int))=((a + (b - a) / 4 * 3 : Nat) : Int):=by rw [w64_id (by omega) (by omega)]; omega
  have fin : ∀ (p s : Nat),(bif ((s : Int) == 0) then (some ((p : Int),(1 : Int))) else (bif ((s : Int) == 12) then (some ((p : Int),2)) else (some ((p : Int),0))))=some ((p : Int),hintCode (hintOf s)):=by
    intro p s
    unfold hintOf
    by_cases h0 : s=0
    · subst h0; rfl
    · have e0 : ((s : Int) == 0)=false:=by rw [beq_eq_false_iff_ne]; omega
      rw [e0,cond_false,if_neg h0]
      by_cases h12 : s=12
      · subst h12; rfl
      · have e1 : ((s : Int) == 12)=false:=by rw [beq_eq_false_iff_ne]; omega
        rw [e1,cond_false,if_neg h12]
        rfl
  simp only [w1,w2,w3,w4,w5,w6,w7,w8]
  unfold rawPivot
  by_cases h8 : b - a ≥ 8
  · rw [decide_eq_true (show ((b - a : Nat) : Int) ≥ 8 by omega),cond_true,if_pos h8]
    by_cases h50 : b - a ≥ 50
    · have k1:=medianAdjacent_count ltE d (a + (b - a) / 4 * 1) 0
      have k2:=medianAdjacent_count ltE d (a + (b - a) / 4 * 2) (medianAdjacent ltE d (a + (b - a) / 4 * 1) 0).2
      have k3:=medianAdjacent_count ltE d (a + (b - a) / 4 * 3) (medianAdjacent ltE d (a + (b - a) / 4 * 2) (medianAdjacent ltE d (a + (b - a) / 4 * 1) 0).2).2
      rw [decide_eq_true (show ((b - a : Nat) : Int) ≥ 50 by omega),cond_true,if_pos h50,show (0 : Int)=((0 : Nat) : Int) from rfl,gen_medianAdj d _ _ (by omega) (by omega) hs (by omega),Option.bind_some]
      simp only []
      rw [gen_medianAdj d _ _ (by omega) (by omega) hs (by omega),Option.bind_some]
      simp only []
      rw [gen_medianAdj d _ _ (by omega) (by omega) hs (by omega),Option.bind_some,bindL_inr]
      simp only []
      rw [gen_median d _ _ _ _ (adj_lt d _ _ _ (by omega)) (adj_lt d _ _ _ (by omega)) (adj_lt d _ _ _ (by omega)) (by omega),Option.bind_some,bindJ_inr]
      exact fin _ _
    · rw [decide_eq_false (show ¬ ((b - a : Nat) : Int) ≥ 50 by omega),cond_false,if_neg h50,bindL_inr]
      simp only []
      rw [show (0 : Int)=((0 : Nat) : Int) from rfl,gen_median d _ _ _ _ (by omega) (by omega) (by omega) (by omega),Option.bind_some,bindJ_inr]
      exact fin _ _
  · rw [decide_eq_false (show ¬ ((b - a : Nat) : Int) ≥ 8 by omega),cond_false,if_neg h8,bindJ_inr]
    exact fin _ 0
theorem scanUpG {ρ υ : Type} {L : Int→Option (ρ ⊕ υ)} {out : Nat→υ} {p : Str→Bool} {d : Array Str} {j : Nat} (h1 : ∀ i : Nat,i ≤ j→L (i : Int)=bif p d[i]! then L ((i + 1 : Nat) : Int) else some (.inr (out i))) (h2 : ∀ i : Nat,¬ i ≤ j→L (i : Int)=some (.inr (out i))) : ∀ (n i : Nat),j + 1 - i ≤ n→L (i : Int)=some (.inr (out (scanUp p d j i)))
  | n,i,h=>by
    rw [scanUp]
    by_cases hi : i ≤ j
    · rw [h1 i hi,decide_eq_true hi,Bool.true_and]
      match n,h with
      | 0,h=>omega
      | n + 1,h =>
        cases p d[i]! with
        | true=>rw [cond_true,if_pos rfl]; exact scanUpG h1 h2 n (i + 1) (by omega)
        | false=>rfl
    · rw [h2 i hi,decide_eq_false hi,Bool.false_and]
      rfl
theorem scanDownG {ρ υ : Type} {L : Int→Option (ρ ⊕ υ)} {out : Nat→υ} {p : Str→Bool} {d : Array Str} {i m : Nat} (hi : 1 ≤ i) (h1 : ∀ j : Nat,j ≤ m→i ≤ j→L (j : Int)=bif p d[j]! then L ((j : Int) - 1) else some (.inr (out j))) (h2 : ∀ j : Nat,¬ i ≤ j→L (j : Int)=some (.inr (out j))) : ∀ (j : Nat),j ≤ m→L (j : Int)=some (.inr (out (scanDown p d i j)))
  | 0,_=>by rw [h2 0 (by omega)]; rfl
  | j + 1,hm=>by
    rw [scanDown]
    by_cases hj : i ≤ j + 1
    · rw [h1 (j + 1) hm hj,decide_eq_true hj,Bool.true_and,show ((j + 1 : Nat) : Int) - 1=(j : Int) by omega]
      cases p d[j + 1]! with
      | true=>rw [cond_true,if_pos rfl]; exact scanDownG hi h1 h2 j (by omega)
      | false=>rfl
    · rw [h2 (j + 1) hj,decide_eq_false hj,Bool.false_and]
      rfl
theorem scanDown_ge {p : Str→Bool} {d : Array Str} {i j : Nat} : scanDown p d i j ≤ j:=scanDown_le p d i j
/-! the equal part -/
theorem partEq_la (D : List Str) (B Q : Int) (a : Nat) : ∀ (n i j : Nat) (d : Array Str),j + 1 - i ≤ n→1 ≤ i→a < d.size→j < d.size→d.size ≤ 1048576→Ffbp_la D (a : Int) B Q ((i : Int),(j : Int),d.toList)=some (.inr (((partEqLoop ltE a i j d).1 : Int),(partEqLoop ltE a i j d).2.toList)):=by
  intro n
  induction n with
  | zero =>
    intro i j d h h1 ha hj hs
    have u : scanUp (fun x=>!ltE d[a]! x) d j i=i:=by rw [scanUp,decide_eq_false (by omega),Bool.false_and]; rfl
    rw [Ffbp_la_eq,Ffbp_la_F,partEqLoop_eq,u]
    have hd:=scanDown_ge (p:=fun x=>ltE d[a]! x) (d:=d) (i:=i) (j:=j)
    rw [Ffbp_lb_eq,Ffbp_lb_F]
    simp only [decide_eq_false (show ¬ (i : Int) ≤ (j : Int) by omega),cond_false,bindL_inr]
    rw [Ffbp_lc_eq,Ffbp_lc_F]
    simp only [decide_eq_false (show ¬ (i : Int) ≤ (j : Int) by omega),cond_false,bindL_inr,decide_eq_true (show (i : Int) > (j : Int) by omega),cond_true]
    rw [if_pos (by omega)]
  | succ n ih =>
    intro i j d h h1 ha hj hs
    have hu:=scanUp_ge (fun x=>!ltE d[a]! x) d j i
    have hd:=scanDown_ge (p:=fun x=>ltE d[a]! x) (d:=d) (i:=scanUp (fun x=>!ltE d[a]! x) d j i) (j:=j)
    rw [Ffbp_la_eq,Ffbp_la_F,partEqLoop_eq]
    simp only []
    rw [scanUpG (L:=Ffbp_lb D (a : Int) B Q ((i : Int),(j : Int),d.toList)) (out:=fun k=>(k : Int)) (p:=fun x=>!ltE d[a]! x) (d:=d) (j:=j)
      (fun k hk=>by
        rw [Ffbp_lb_eq,Ffbp_lb_F]
        simp only [decide_eq_true (show (k : Int) ≤ (j : Int) by omega),cond_true,gA ha,gA (show k < d.size by omega),Option.bind_some,less_val,bindL_inr,w64_succ (show k < 9223372036854775807 by omega)]
        try rfl)
      (fun k hk=>by
        rw [Ffbp_lb_eq,Ffbp_lb_F]
        simp only [decide_eq_false (show ¬ (k : Int) ≤ (j : Int) by omega),cond_false,bindL_inr]) _ i (Nat.le_refl _),bindL_inr]
    rw [scanDownG (L:=Ffbp_lc D (a : Int) B Q (((scanUp (fun x=>!ltE d[a]! x) d j i : Nat)) : Int) ((i : Int),(j : Int),d.toList)) (out:=fun k=>(k : Int)) (p:=fun x=>ltE d[a]! x) (d:=d) (i:=scanUp (fun x=>!ltE d[a]! x) d j i) (m:=j) (by omega)
      (fun k hkm hk=>by
        rw [Ffbp_lc_eq,Ffbp_lc_F]
        simp only [decide_eq_true (show ((scanUp (fun x=>!ltE d[a]! x) d j i : Nat) : Int) ≤ (k : Int) by omega),cond_true,gA ha,gA (show k < d.size by omega),Option.bind_some,less_val,bindL_inr,show w64 ((k : Int) - 1)=(k : Int) - 1 from w64_id (by omega) (by omega)]
        try rfl)
      (fun k hk=>by
        rw [Ffbp_lc_eq,Ffbp_lc_F]
        simp only [decide_eq_false (show ¬ ((scanUp (fun x=>!ltE d[a]! x) d j i : Nat) : Int) ≤ (k : Int) by omega),cond_false,bindL_inr]) j (Nat.le_refl j),bindL_inr]
    generalize scanUp (fun x=>!ltE d[a]! x) d j i=i2 at *
    generalize scanDown (fun x=>ltE d[a]! x) d i2 j=j2 at *
    by_cases hq : i2 > j2
    · simp only [decide_eq_true (show (i2 : Int) > (j2 : Int) by omega),cond_true]
      rw [if_pos hq]
    · simp only [decide_eq_false (show ¬ (i2 : Int) > (j2 : Int) by omega),cond_false,gA (show j2 < d.size by omega),gA (show i2 < d.size by omega),Option.bind_some,gSb (show j2 < d.size by omega),sA,w64_succ (show i2 < 9223372036854775807 by omega),show w64 ((j2 : Int) - 1)=((j2 - 1 : Nat) : Int) from by rw [w64_id (by omega) (by omega)]; omega]
      rw [if_neg hq]
      exact ih (i2 + 1) (j2 - 1) _ (by omega) (by omega) (by rw [size_swp]; exact ha) (by rw [size_swp]; omega) (by rw [size_swp]; exact hs)
theorem partEqLoop_size (a : Nat) : ∀ (n i j : Nat) (d : Array Str),j + 1 - i ≤ n→(partEqLoop ltE a i j d).2.size=d.size:=by
  intro n
  induction n with
  | zero =>
    intro i j d h
    have u : scanUp (fun x=>!ltE d[a]! x) d j i=i:=by rw [scanUp,decide_eq_false (by omega),Bool.false_and]; rfl
    have hd:=scanDown_ge (p:=fun x=>ltE d[a]! x) (d:=d) (i:=i) (j:=j)
    rw [partEqLoop_eq,u,if_pos (by omega)]
  | succ n ih =>
    intro i j d h
    have hu:=scanUp_ge (fun x=>!ltE d[a]! x) d j i
    have hd:=scanDown_ge (p:=fun x=>ltE d[a]! x) (d:=d) (i:=scanUp (fun x=>!ltE d[a]! x) d j i) (j:=j)
    rw [partEqLoop_eq]
    split
    · rfl
    · rw [ih _ _ _ (by omega),size_swp]
theorem gen_partEq (d : Array Str) (a b p : Nat) (h1 : a < b) (hb : b ≤ d.size) (hp : p < d.size) (hs : d.size ≤ 1048576) : Ffbp d.toList (a : Int) (b : Int) (p : Int)=some (((partitionEqual ltE d a b p).1 : Int),(partitionEqual ltE d a b p).2.toList):=by
  unfold Ffbp partitionEqual
  have w : w64 ((b : Int) - 1)=((b - 1 : Nat) : Int):=by rw [w64_id (by omega) (by omega)]; omega
  simp only [gA hp,gA (show a < d.size by omega),Option.bind_some,gSb hp,sA,w,w64_succ (show a < 9223372036854775807 by omega)]
  rw [partEq_la d.toList (b : Int) (p : Int) a _ (a + 1) (b - 1) (swp d a p) (Nat.le_refl _) (by omega) (by rw [size_swp]; omega) (by rw [size_swp]; omega) (by rw [size_swp]; exact hs),bindJ_inr]
  simp only []
  rw [beqA (by rw [partEqLoop_size _ _ _ _ _ (Nat.le_refl _),size_swp]),cond_true]
/-! the part -/
theorem part_lc (D : List Str) (B Q : Int) (a : Nat) : ∀ (n i j : Nat) (d : Array Str),j + 1 - i ≤ n→1 ≤ i→a < d.size→j < d.size→d.size ≤ 1048576→Ffbq_lc D (a : Int) B Q ((i : Int),(j : Int),d.toList)=some (.inr (((partLoop ltE a i j d).1 : Int),(partLoop ltE a i j d).2.toList)):=by
  intro n
  induction n with
  | zero =>
    intro i j d h h1 ha hj hs
    have u : scanUp (fun x=>ltE x d[a]!) d j i=i:=by rw [scanUp,decide_eq_false (by omega),Bool.false_and]; rfl
    have hd : scanDown (fun x=>!ltE x d[a]!) d i j=j:=by
      cases j with
      | zero=>rfl
      | succ j=>rw [scanDown,decide_eq_false (by omega),Bool.false_and]; rfl
    rw [Ffbq_lc_eq,Ffbq_lc_F,partLoop_eq,u,hd]
    rw [Ffbq_ld_eq,Ffbq_ld_F]
    simp only [decide_eq_false (show ¬ (i : Int) ≤ (j : Int) by omega),cond_false,bindL_inr]
    rw [Ffbq_le_eq,Ffbq_le_F]
    simp only [decide_eq_false (show ¬ (i : Int) ≤ (j : Int) by omega),cond_false,bindL_inr,decide_eq_true (show (i : Int) > (j : Int) by omega),cond_true]
    rw [if_pos (by omega)]
  | succ n ih =>
    intro i j d h h1 ha hj hs
    have hu:=scanUp_ge (fun x=>ltE x d[a]!) d j i
    have hd:=scanDown_ge (p:=fun x=>!ltE x d[a]!) (d:=d) (i:=scanUp (fun x=>ltE x d[a]!) d j i) (j:=j)
    rw [Ffbq_lc_eq,Ffbq_lc_F,partLoop_eq]
    simp only []
    rw [scanUpG (L:=Ffbq_ld D (a : Int) B Q ((i : Int),(j : Int),d.toList)) (out:=fun k=>(k : Int)) (p:=fun x=>ltE x d[a]!) (d:=d) (j:=j)
      (fun k hk=>by
        rw [Ffbq_ld_eq,Ffbq_ld_F]
        simp only [decide_eq_true (show (k : Int) ≤ (j : Int) by omega),cond_true,gA ha,gA (show k < d.size by omega),Option.bind_some,less_val,bindL_inr,w64_succ (show k < 9223372036854775807 by omega)]
        try rfl)
      (fun k hk=>by
        rw [Ffbq_ld_eq,Ffbq_ld_F]
        simp only [decide_eq_false (show ¬ (k : Int) ≤ (j : Int) by omega),cond_false,bindL_inr]) _ i (Nat.le_refl _),bindL_inr]
    rw [scanDownG (L:=Ffbq_le D (a : Int) B Q (((scanUp (fun x=>ltE x d[a]!) d j i : Nat)) : Int) ((i : Int),(j : Int),d.toList)) (out:=fun k=>(k : Int)) (p:=fun x=>!ltE x d[a]!) (d:=d) (i:=scanUp (fun x=>ltE x d[a]!) d j i) (m:=j) (by omega)
      (fun k hkm hk=>by
        rw [Ffbq_le_eq,Ffbq_le_F]
        simp only [decide_eq_true (show ((scanUp (fun x=>ltE x d[a]!) d j i : Nat) : Int) ≤ (k : Int) by omega),cond_true,gA ha,gA (show k < d.size by omega),Option.bind_some,less_val,bindL_inr,show w64 ((k : Int) - 1)=(k : Int) - 1 from w64_id (by omega) (by omega)]
        try rfl)
      (fun k hk=>by
        rw [Ffbq_le_eq,Ffbq_le_F]
        simp only [decide_eq_false (show ¬ ((scanUp (fun x=>ltE x d[a]!) d j i : Nat) : Int) ≤ (k : Int) by omega),cond_false,bindL_inr]) j (Nat.le_refl j),bindL_inr]
    generalize scanUp (fun x=>ltE x d[a]!) d j i=i2 at *
    generalize scanDown (fun x=>!ltE x d[a]!) d i2 j=j2 at *
    by_cases hq : i2 > j2
    · simp only [decide_eq_true (show (i2 : Int) > (j2 : Int) by omega),cond_true]
      rw [if_pos hq]
    · simp only [decide_eq_false (show ¬ (i2 : Int) > (j2 : Int) by omega),cond_false,gA (show j2 < d.size by omega),gA (show i2 < d.size by omega),Option.bind_some,gSb (show j2 < d.size by omega),sA,w64_succ (show i2 < 9223372036854775807 by omega),show w64 ((j2 : Int) - 1)=((j2 - 1 : Nat) : Int) from by rw [w64_id (by omega) (by omega)]; omega]
      rw [if_neg hq]
      exact ih (i2 + 1) (j2 - 1) _ (by omega) (by omega) (by rw [size_swp]; exact ha) (by rw [size_swp]; omega) (by rw [size_swp]; exact hs)
theorem partLoop_facts (a : Nat) : ∀ (n i j : Nat) (d : Array Str),j + 1 - i ≤ n→(partLoop ltE a i j d).2.size=d.size ∧ (partLoop ltE a i j d).1 ≤ j:=by
  intro n
  induction n with
  | zero =>
    intro i j d h
    have hu:=scanUp_ge (fun x=>ltE x d[a]!) d j i
    have hd:=scanDown_ge (p:=fun x=>!ltE x d[a]!) (d:=d) (i:=scanUp (fun x=>ltE x d[a]!) d j i) (j:=j)
    rw [partLoop_eq,if_pos (by omega)]
    exact ⟨rfl,hd⟩
  | succ n ih =>
    intro i j d h
    have hu:=scanUp_ge (fun x=>ltE x d[a]!) d j i
    have hd:=scanDown_ge (p:=fun x=>!ltE x d[a]!) (d:=d) (i:=scanUp (fun x=>ltE x d[a]!) d j i) (j:=j)
    rw [partLoop_eq]
    split
    · exact ⟨rfl,hd⟩
    · obtain ⟨e1,e2⟩:=ih (scanUp (fun x=>ltE x d[a]!) d j i + 1) (scanDown (fun x=>!ltE x d[a]!) d (scanUp (fun x=>ltE x d[a]!) d j i) j - 1) (swp d (scanUp (fun x=>ltE x d[a]!) d j i) (scanDown (fun x=>!ltE x d[a]!) d (scanUp (fun x=>ltE x d[a]!) d j i) j)) (by omega)
      exact ⟨by rw [e1,size_swp],by omega⟩
theorem partition_size (d : Array Str) (a b p : Nat) : (partition ltE d a b p).2.2.size=d.size:=by
  unfold partition
  simp only []
  split
  · simp only [size_swp]
  · simp only [size_swp,(partLoop_facts a _ _ _ _ (Nat.le_refl _)).1]
theorem gen_part (d : Array Str) (a b p : Nat) (h1 : a < b) (hb : b ≤ d.size) (hp : p < d.size) (hs : d.size ≤ 1048576) : Ffbq d.toList (a : Int) (b : Int) (p : Int) = some (((partition ltE d a b p).1 : Int), (partition ltE d a b p).2.1, (partition ltE d a b p).2.2.toList) := by
  have hz := partition_size d a b p
  unfold Ffbq
  have ha : a < d.size := by omega
  have w : w64 ((b : Int) - 1) = ((b - 1 : Nat) : Int) := by rw [w64_id (by omega) (by omega)]; omega
  simp only [gA hp, gA ha, Option.bind_some, gSb hp, sA, w64_succ (show a < 9223372036854775807 by omega)]
  unfold partition at hz ⊢
  simp only [] at hz ⊢
  have hg : (swp d a p).size = d.size := size_swp d a p
  generalize hD : swp d a p = d1 at *
  have e0 : setI (setI d.toList (a : Int) d[p]!) (p : Int) d[a]! = d1.toList := by rw [sA, hD]
  have hu := scanUp_ge (fun x => ltE x d1[a]!) d1 (b - 1) (a + 1)
  have hd := scanDown_ge (p := fun x => !ltE x d1[a]!) (d := d1) (i := scanUp (fun x => ltE x d1[a]!) d1 (b - 1) (a + 1)) (j := b - 1)
  rw [scanUpG (L := Ffbq_la d.toList (a : Int) (b : Int) (p : Int) d[p]! d[a]!) (out := fun k => ((k : Int), ((b - 1 : Nat) : Int))) (p := fun x => ltE x d1[a]!) (d := d1) (j := b - 1)
      (fun k hk => by
        rw [Ffbq_la_eq, Ffbq_la_F]
        simp only [w, decide_eq_true (show (k : Int) ≤ ((b - 1 : Nat) : Int) by omega), cond_true, e0, gA (show a < d1.size by omega), gA (show k < d1.size by omega), Option.bind_some, less_val, bindL_inr, w64_succ (show k < 9223372036854775807 by omega)]
        try rfl)
      (fun k hk => by
        rw [Ffbq_la_eq, Ffbq_la_F]
        simp only [w, decide_eq_false (show ¬ (k : Int) ≤ ((b - 1 : Nat) : Int) by omega), cond_false, bindL_inr]) _ (a + 1) (Nat.le_refl _), bindJ_inr]
  simp only []
  rw [scanDownG (L := Ffbq_lb d.toList (a : Int) (b : Int) (p : Int) (((scanUp (fun x => ltE x d1[a]!) d1 (b - 1) (a + 1) : Nat) : Int), ((b - 1 : Nat) : Int)) d[p]! d[a]!) (out := fun k => (k : Int)) (p := fun x => !ltE x d1[a]!) (d := d1) (i := scanUp (fun x => ltE x d1[a]!) d1 (b - 1) (a + 1)) (m := b - 1) (by omega)
      (fun k hkm hk => by
        rw [Ffbq_lb_eq, Ffbq_lb_F]
        simp only [decide_eq_true (show ((scanUp (fun x => ltE x d1[a]!) d1 (b - 1) (a + 1) : Nat) : Int) ≤ (k : Int) by omega), cond_true, e0, gA (show a < d1.size by omega), gA (show k < d1.size by omega), Option.bind_some, less_val, bindL_inr, show w64 ((k : Int) - 1) = (k : Int) - 1 from w64_id (by omega) (by omega)]
        try rfl)
      (fun k hk => by
        rw [Ffbq_lb_eq, Ffbq_lb_F]
        simp only [decide_eq_false (show ¬ ((scanUp (fun x => ltE x d1[a]!) d1 (b - 1) (a + 1) : Nat) : Int) ≤ (k : Int) by omega), cond_false, bindL_inr]) (b - 1) (Nat.le_refl _), bindJ_inr]
  generalize scanUp (fun x => ltE x d1[a]!) d1 (b - 1) (a + 1) = i2 at *
  generalize scanDown (fun x => !ltE x d1[a]!) d1 i2 (b - 1) = j2 at *
  have ha1 : a < d1.size := by omega
  by_cases hq : i2 > j2
  · rw [if_pos hq] at hz ⊢
    simp only [decide_eq_true (show (i2 : Int) > (j2 : Int) by omega), cond_true, gA (show j2 < d1.size by omega), gA ha1, Option.bind_some, gSb ha1, sA]
    rw [beqA (by rw [size_swp]; exact hg), cond_true]
  · rw [if_neg hq] at hz ⊢
    simp only [decide_eq_false (show ¬ (i2 : Int) > (j2 : Int) by omega), cond_false, gA (show j2 < d1.size by omega), gA (show i2 < d1.size by omega), Option.bind_some, gSb (show j2 < d1.size by omega), sA, w64_succ (show i2 < 9223372036854775807 by omega), show w64 ((j2 : Int) - 1) = ((j2 - 1 : Nat) : Int) from by rw [w64_id (by omega) (by omega)]; omega]
    rw [part_lc d.toList (b : Int) (p : Int) a _ (i2 + 1) (j2 - 1) _ (Nat.le_refl _) (by omega) (by rw [size_swp]; exact ha1) (by rw [size_swp]; omega) (by rw [size_swp]; omega), bindJ_inr]
    obtain ⟨f1, f2⟩ := partLoop_facts a _ (i2 + 1) (j2 - 1) (swp d1 i2 j2) (Nat.le_refl _)
    rw [size_swp] at f1
    generalize partLoop ltE a (i2 + 1) (j2 - 1) (swp d1 i2 j2) = R at *
    simp only [gA (show a < R.2.size by omega), gA (show R.1 < R.2.size by omega), Option.bind_some, gSb (show a < R.2.size by omega), sA]
    rw [beqA (by rw [size_swp]; omega), cond_true]
/-! the partial insertion sort -/
theorem scanSorted_b (d : Array Str) (b : Nat) : ∀ (n i : Nat),b - i ≤ n→i ≤ b→i ≤ scanSorted ltE d b i ∧ scanSorted ltE d b i ≤ b
  | n,i,h,hi=>by
    rw [scanSorted]
    split
    · rename_i hc
      simp only [Bool.and_eq_true,decide_eq_true_eq] at hc
      match n,h with
      | 0,h=>omega
      | n + 1,h =>
        have:=scanSorted_b d b n (i + 1) (by omega) (by omega)
        omega
    · omega
theorem pis_lb (D : List Str) (A B : Int) (b : Nat) (d : Array Str) (X : Int × Int × Int × Int × List Str) (hX : X.2.1=(b : Int)) (hz : X.2.2.2.2=d.toList) (hb : b ≤ d.size) (hs : d.size ≤ 1048576) : ∀ (n i : Nat),b - i ≤ n→1 ≤ i→Ffbo_lb D A B X (i : Int)=some (.inr ((scanSorted ltE d b i : Nat) : Int))
  | n,i,h,h1=>by
    rw [Ffbo_lb_eq,Ffbo_lb_F,scanSorted,hX,hz]
    by_cases hi : i < b
    · rw [decide_eq_true (show (i : Int) < (b : Int) by omega),decide_eq_true hi,cond_true,Bool.true_and,show w64 ((i : Int) - 1)=((i - 1 : Nat) : Int) from by rw [w64_id (by omega) (by omega)]; omega,gA (show i < d.size by omega),Option.bind_some,gA (show i - 1 < d.size by omega),Option.bind_some,less_val,Option.bind_some,bindL_inr,w64_succ (by omega)]
      rw [show ltE d[i]! d[i - 1]! = ltE d[i]! d[i - 1]! from rfl]
      match n,h with
      | 0,h=>omega
      | n + 1,h =>
        cases ltE d[i]! d[i - 1]! with
        | true=>rfl
        | false=>rw [Bool.not_false,cond_true,if_pos rfl]; exact pis_lb D A B b d X hX hz hb hs n (i + 1) (by omega) (by omega)
    · rw [decide_eq_false (show ¬ (i : Int) < (b : Int) by omega),decide_eq_false hi,cond_false,bindL_inr,cond_false,Bool.false_and]
      rfl
theorem shiftUp_size (b : Nat) : ∀ (n j : Nat) (d : Array Str),b - j ≤ n→(shiftUp ltE b j d).size=d.size
  | n,j,d,h=>by
    rw [shiftUp]
    split
    · split
      · rfl
      · match n,h with
        | 0,h=>omega
        | n + 1,h=>rw [shiftUp_size b n (j + 1) _ (by omega),size_swp]
    · rfl
theorem shiftDown_size : ∀ (j : Nat) (d : Array Str),(shiftDown ltE j d).size=d.size
  | 0,d=>rfl
  | j + 1,d=>by
    rw [shiftDown]
    split
    · rfl
    · rw [shiftDown_size j,size_swp]
theorem pis_lc (D : List Str) (A B U : Int) (b : Nat) (X : Int × Int × Int × Int × List Str) (hX : X.2.1=(b : Int)) : ∀ (n j : Nat) (d : Array Str),b - j ≤ n→1 ≤ j→b ≤ d.size→d.size ≤ 1048576→Ffbo_lc D A B X U ((j : Int),d.toList)=some (.inr (shiftUp ltE b j d).toList)
  | n,j,d,h,h1,hb,hs=>by
    rw [Ffbo_lc_eq,Ffbo_lc_F,shiftUp]
    by_cases hj : j < b
    · have w : w64 ((j : Int) - 1)=((j - 1 : Nat) : Int):=by rw [w64_id (by omega) (by omega)]; omega
      simp only [hX,decide_eq_true (show (j : Int) < (b : Int) by omega),cond_true,w,gA (show j < d.size by omega),gA (show j - 1 < d.size by omega),Option.bind_some,less_val,gSb (show j - 1 < d.size by omega),sA,w64_succ (show j < 9223372036854775807 by omega)]
      rw [if_pos hj]
      rw [show ltE d[j]! d[j - 1]! = ltE d[j]! d[j - 1]! from rfl]
      match n,h with
      | 0,h=>omega
      | n + 1,h =>
        cases ltE d[j]! d[j - 1]! with
        | false=>rfl
        | true=>rw [Bool.not_true,cond_false,if_neg (by decide)]; exact pis_lc D A B U b X hX n (j + 1) _ (by omega) (by omega) (by rw [size_swp]; exact hb) (by rw [size_swp]; exact hs)
    · simp only [hX,decide_eq_false (show ¬ (j : Int) < (b : Int) by omega),cond_false]
      rw [if_neg hj]
theorem pis_ld (D : List Str) (A B U : Int) (X : Int × Int × Int × Int × List Str) : ∀ (j : Nat) (d : Array Str),j < d.size→d.size ≤ 1048576→Ffbo_ld D A B X U ((j : Int),d.toList)=some (.inr (shiftDown ltE j d).toList)
  | 0,d,hj,hs=>by
    rw [Ffbo_ld_eq,Ffbo_ld_F]
    rfl
  | j + 1,d,hj,hs=>by
    have w : w64 (((j + 1 : Nat) : Int) - 1)=(j : Int):=by rw [w64_id (by omega) (by omega)]; omega
    rw [Ffbo_ld_eq,Ffbo_ld_F,shiftDown]
    simp only [decide_eq_true (show ((j + 1 : Nat) : Int) ≥ 1 by omega),cond_true,w,gA hj,gA (show j < d.size by omega),Option.bind_some,less_val,gSb (show j < d.size by omega),sA]
    rw [show ltE d[j + 1]! d[j]! = ltE d[j + 1]! d[j]! from rfl]
    cases ltE d[j + 1]! d[j]! with
    | false=>rfl
    | true=>rw [Bool.not_true,cond_false,if_neg (by decide)]; exact pis_ld D A B U X j _ (by rw [size_swp]; omega) (by rw [size_swp]; exact hs)
theorem partialIns_size (a b : Nat) : ∀ (s i : Nat) (d : Array Str),(partialIns ltE a b s i d).1.size=d.size
  | 0,i,d=>rfl
  | s + 1,i,d=>by
    rw [partialIns]
    simp only []
    split
    · rfl
    · split
      · rfl
      · rw [partialIns_size a b s]
        split
        · rw [shiftUp_size _ _ _ _ (Nat.le_refl _)]
          split
          · rw [shiftDown_size,size_swp]
          · rw [size_swp]
        · split
          · rw [shiftDown_size,size_swp]
          · rw [size_swp]
theorem pis_la (D : List Str) (A B : Int) (a b : Nat) (hab : a < b) : ∀ (s i : Nat) (d : Array Str), s ≤ 5 → a + 1 ≤ i → i ≤ b → b ≤ d.size → d.size ≤ 1048576 → D.length = d.size →
    ∃ y, Ffbo_la D A B ((a : Int), (b : Int), (i : Int), (5 : Int) - (s : Int), d.toList) = some y ∧ (y = .inl ((partialIns ltE a b s i d).2, (partialIns ltE a b s i d).1.toList) ∨ (y = .inr (partialIns ltE a b s i d).1.toList ∧ (partialIns ltE a b s i d).2 = false))
  | 0, i, d, h5, hi, hib, hb, hs, hD => by
    rw [Ffbo_la_eq, Ffbo_la_F]
    simp only [decide_eq_false (show ¬ (5 : Int) - ((0 : Nat) : Int) < 5 by omega), cond_false]
    exact ⟨_, rfl, .inr ⟨rfl, rfl⟩⟩
  | s + 1, i, d, h5, hi, hib, hb, hs, hD => by
    have hsc := scanSorted_b d b _ i (Nat.le_refl _) hib
    have hbq : Nat.beq d.toList.length D.length = true := by rw [hD, Array.length_toList, Nat.beq_refl]
    have wba : w64 ((b : Int) - (a : Int)) = ((b - a : Nat) : Int) := by rw [w64_id (by omega) (by omega)]; omega
    rw [Ffbo_la_eq, Ffbo_la_F]
    simp only [decide_eq_true (show (5 : Int) - ((s + 1 : Nat) : Int) < 5 by omega), cond_true]
    rw [pis_lb D A B b d _ rfl rfl hb hs _ i (Nat.le_refl _) (by omega), bindL_inr, partialIns]
    simp only []
    generalize scanSorted ltE d b i = k at *
    by_cases hk : k = b
    · rw [beq_iff_eq.2 (show (k : Int) = (b : Int) by omega), cond_true, hbq, cond_true, if_pos hk]
      exact ⟨_, rfl, .inl rfl⟩
    rw [beq_eq_false_iff_ne.2 (show (k : Int) ≠ (b : Int) by omega), cond_false, if_neg hk, wba]
    by_cases h50 : b - a < 50
    · rw [decide_eq_true (show ((b - a : Nat) : Int) < 50 by omega), cond_true, hbq, cond_true, if_pos h50]
      exact ⟨_, rfl, .inl rfl⟩
    rw [decide_eq_false (show ¬ ((b - a : Nat) : Int) < 50 by omega), cond_false, if_neg h50]
    have w : w64 ((k : Int) - 1) = ((k - 1 : Nat) : Int) := by rw [w64_id (by omega) (by omega)]; omega
    have wka : w64 ((k : Int) - (a : Int)) = ((k - a : Nat) : Int) := by rw [w64_id (by omega) (by omega)]; omega
    have wbk : w64 ((b : Int) - (k : Int)) = ((b - k : Nat) : Int) := by rw [w64_id (by omega) (by omega)]; omega
    have w5 : w64 ((5 : Int) - ((s + 1 : Nat) : Int) + 1) = (5 : Int) - (s : Int) := by rw [w64_id (by omega) (by omega)]; omega
    simp only [w, wka, wbk, w5, gA (show k < d.size by omega), gA (show k - 1 < d.size by omega), Option.bind_some, gSb (show k - 1 < d.size by omega), sA, w64_succ (show k < 9223372036854775807 by omega)]
    have hz : (swp d k (k - 1)).size = d.size := size_swp d k (k - 1)
    generalize swp d k (k - 1) = d1 at *
    have e1 : (bif decide (((k - a : Nat) : Int) ≥ 2) then (bindL (ρ := Bool × List Str) (Ffbo_ld D A B ((a : Int), (b : Int), (i : Int), (5 : Int) - ((s + 1 : Nat) : Int), d.toList) (k : Int) (((k - 1 : Nat) : Int), d1.toList)) fun u60 : List Str => some (.inr u60)) else some (.inr d1.toList)) = some (.inr (if k - a ≥ 2 then shiftDown ltE (k - 1) d1 else d1).toList) := by
      by_cases h2 : k - a ≥ 2
      · rw [decide_eq_true (show ((k - a : Nat) : Int) ≥ 2 by omega), cond_true, if_pos h2, pis_ld D A B _ _ (k - 1) d1 (by omega) (by omega), bindL_inr]
      · rw [decide_eq_false (show ¬ ((k - a : Nat) : Int) ≥ 2 by omega), cond_false, if_neg h2]
    rw [e1, bindL_inr]
    have hz2 : (if k - a ≥ 2 then shiftDown ltE (k - 1) d1 else d1).size = d.size := by
      split
      · rw [shiftDown_size, hz]
      · exact hz
    generalize (if k - a ≥ 2 then shiftDown ltE (k - 1) d1 else d1) = d2 at *
    have e2 : (bif decide (((b - k : Nat) : Int) ≥ 2) then (bindL (ρ := Bool × List Str) (Ffbo_lc D A B ((a : Int), (b : Int), (i : Int), (5 : Int) - ((s + 1 : Nat) : Int), d.toList) (k : Int) (((k + 1 : Nat) : Int), d2.toList)) fun u42 : List Str => some (.inr u42)) else some (.inr d2.toList)) = some (.inr (if b - k ≥ 2 then shiftUp ltE b (k + 1) d2 else d2).toList) := by
      by_cases h2 : b - k ≥ 2
      · rw [decide_eq_true (show ((b - k : Nat) : Int) ≥ 2 by omega), cond_true, if_pos h2, pis_lc D A B _ b _ rfl _ (k + 1) d2 (Nat.le_refl _) (by omega) (by omega) (by omega), bindL_inr]
      · rw [decide_eq_false (show ¬ ((b - k : Nat) : Int) ≥ 2 by omega), cond_false, if_neg h2]
    rw [e2, bindL_inr]
    have hz3 : (if b - k ≥ 2 then shiftUp ltE b (k + 1) d2 else d2).size = d.size := by
      split
      · rw [shiftUp_size _ _ _ _ (Nat.le_refl _), hz2]
      · exact hz2
    exact pis_la D A B a b hab s k _ (by omega) (by omega) (by omega) (by omega) (by omega) (by omega)
theorem gen_pis (d : Array Str) (a b : Nat) (hab : a < b) (hb : b ≤ d.size) (hs : d.size ≤ 1048576) : Ffbo d.toList (a : Int) (b : Int)=some ((partialInsertionSort ltE d a b).2,(partialInsertionSort ltE d a b).1.toList):=by
  unfold Ffbo partialInsertionSort
  obtain ⟨y,hy,hq⟩:=pis_la d.toList (a : Int) (b : Int) a b hab 5 (a + 1) d (Nat.le_refl _) (Nat.le_refl _) (by omega) hb hs Array.length_toList
  rw [w64_succ (by omega),show Ffbo_la d.toList (a : Int) (b : Int) ((a : Int),(b : Int),((a + 1 : Nat) : Int),0,d.toList)=some y from hy]
  rcases hq with rfl | ⟨rfl,h2⟩
  · rfl
  · rw [bindJ_inr,beqA (partialIns_size a b 5 (a + 1) d),cond_true,h2]
/-! the whole of it -/
theorem pdq_of_la (h : SWO ltE) (d : Array Str) (a b limit : Nat) {R : Array Str} (hz : R.size = d.size)
    (e : Ffbr_la (fixO Ffbr_G) d.toList (a : Int) (b : Int) (limit : Int) ((a : Int), (b : Int), (limit : Int), true, true, d.toList) = some (.inl R.toList)) :
    fixO Ffbr_G (d.toList, (a : Int), (b : Int), (limit : Int)) = some R.toList := by
  have := Ffbr_eq d.toList (a : Int) (b : Int) (limit : Int)
  unfold Ffbr at this
  rw [this]
  unfold Ffbr_B
  rw [e, bindJ_inl]
theorem pdq_la (h : SWO ltE) : ∀ (n a b limit : Nat) (wb wp : Bool) (d : Array Str) (D : List Str) (A B Lm : Int), b - a ≤ n → a ≤ b → b ≤ d.size → d.size ≤ 1048576 → limit ≤ 1000 → D.length = d.size → Below ltE a b d →
    ∃ R : Array Str, Ffbr_la (fixO Ffbr_G) D A B Lm ((a : Int), (b : Int), (limit : Int), wb, wp, d.toList) = some (.inl R.toList) ∧ PermIn a b d R ∧ SortedIn ltE a b R := by
  intro n
  induction n with
  | zero =>
    intro a b limit wb wp d D A B Lm hn hab hb hs hl hD hB
    have hi := insertionSort_holds (lt := ltE) h d a b hab hb
    refine ⟨insertionSort ltE d a b, ?_, hi⟩
    rw [Ffbr_la_eq, Ffbr_la_F]
    simp only [show w64 ((b : Int) - (a : Int)) = ((b - a : Nat) : Int) from by rw [w64_id (by omega) (by omega)]; omega, decide_eq_true (show ((b - a : Nat) : Int) ≤ 12 by omega), cond_true]
    rw [gen_ins d a b hb hab hs, Option.bind_some, beqA hi.1.1, cond_true, show Nat.beq (insertionSort ltE d a b).toList.length D.length = true from by rw [hD, Array.length_toList, hi.1.1, Nat.beq_refl], cond_true]
  | succ n ih =>
    intro a b limit wb wp d D A B Lm hn hab hb hs hl hD hB
    have wba : w64 ((b : Int) - (a : Int)) = ((b - a : Nat) : Int) := by rw [w64_id (by omega) (by omega)]; omega
    have hDq : ∀ R : Array Str, R.size = d.size → Nat.beq R.toList.length D.length = true := fun R hR => by rw [hD, Array.length_toList, hR, Nat.beq_refl]
    rw [Ffbr_la_eq, Ffbr_la_F]
    simp only [wba]
    by_cases h12 : b - a ≤ 12
    · have hi := insertionSort_holds (lt := ltE) h d a b hab hb
      refine ⟨insertionSort ltE d a b, ?_, hi⟩
      rw [decide_eq_true (show ((b - a : Nat) : Int) ≤ 12 by omega), cond_true, gen_ins d a b hb hab hs, Option.bind_some, beqA hi.1.1, cond_true, hDq _ hi.1.1, cond_true]
    rw [decide_eq_false (show ¬ ((b - a : Nat) : Int) ≤ 12 by omega), cond_false]
    by_cases hl0 : limit = 0
    · have hi := heapSort_holds (lt := ltE) h d a b hab hb
      refine ⟨heapSort ltE d a b, ?_, hi⟩
      rw [beq_iff_eq.2 (show (limit : Int) = 0 by omega), cond_true, gen_heap d a b (by omega) hb hs, Option.bind_some, beqA hi.1.1, cond_true, hDq _ hi.1.1, cond_true]
    rw [beq_eq_false_iff_ne.2 (show (limit : Int) ≠ 0 by omega), cond_false]
    -- the patterns
    obtain ⟨l1, d1, e1, s1, hl1⟩ : ∃ (l1 : Nat) (d1 : Array Str), (bif !wb then ((Ffbg d.toList (a : Int) (b : Int)).bind fun r37 => bif Nat.beq r37.length d.toList.length then (some (Sum.inr (α := List Str) (w64 ((limit : Int) - 1), r37))) else none) else (some (.inr ((limit : Int), d.toList)))) = some (.inr ((l1 : Int), d1.toList)) ∧ PermIn a b d d1 ∧ l1 ≤ limit := by
      cases wb with
      | true => exact ⟨limit, d, rfl, permIn_refl d a b, Nat.le_refl _⟩
      | false =>
        refine ⟨limit - 1, breakPatterns d a b, ?_, breakPatterns_holds d a b hab hb, by omega⟩
        rw [Bool.not_false, cond_true, gen_brk d a b hab hb hs, Option.bind_some, beqA (breakPatterns_size d a b), cond_true, show w64 ((limit : Int) - 1) = ((limit - 1 : Nat) : Int) from by rw [w64_id (by omega) (by omega)]; omega]
    rw [e1, bindL_inr]
    have z1 : d1.size = d.size := s1.1
    have b1 : b ≤ d1.size := by rw [z1]; exact hb
    have hc0 := choosePivot_holds ltE d1 a b (by omega)
    simp only []
    rw [gen_pivot d1 a b (by omega) b1 (by omega), Option.bind_some]
    obtain ⟨pv, hint, d2, e2, s2, hp1, hp2⟩ : ∃ (pv : Nat) (hint : Int) (d2 : Array Str), (bif (hintCode (choosePivot ltE d1 a b).2 == 2) then ((Ffbs d1.toList (a : Int) (b : Int)).bind fun r35 => bif Nat.beq r35.length d1.toList.length then (some (Sum.inr (α := List Str) ((w64 ((w64 ((b : Int) - 1)) - (w64 (((choosePivot ltE d1 a b).1 : Int) - (a : Int))))), (1 : Int), r35))) else none) else (some (.inr (((choosePivot ltE d1 a b).1 : Int), hintCode (choosePivot ltE d1 a b).2, d1.toList)))) = some (.inr ((pv : Int), hint, d2.toList)) ∧ PermIn a b d1 d2 ∧ a ≤ pv ∧ pv < b := by
      cases hq : (hintCode (choosePivot ltE d1 a b).2 == 2) with
      | true =>
        refine ⟨(b - 1) - ((choosePivot ltE d1 a b).1 - a), 1, reverseRange d1 a b, ?_, reverseRange_holds d1 a b hab b1, by omega, by omega⟩
        rw [cond_true, gen_rev d1 a b b1 (by omega) (by omega), Option.bind_some, beqA (reverseRange_holds d1 a b hab b1).1, cond_true, show w64 ((b : Int) - 1) = ((b - 1 : Nat) : Int) from by rw [w64_id (by omega) (by omega)]; omega, show w64 (((choosePivot ltE d1 a b).1 : Int) - (a : Int)) = (((choosePivot ltE d1 a b).1 - a : Nat) : Int) from by rw [w64_id (by omega) (by omega)]; omega, show w64 (((b - 1 : Nat) : Int) - (((choosePivot ltE d1 a b).1 - a : Nat) : Int)) = (((b - 1) - ((choosePivot ltE d1 a b).1 - a) : Nat) : Int) from by rw [w64_id (by omega) (by omega)]; omega]
      | false => exact ⟨_, _, d1, rfl, permIn_refl d1 a b, hc0.1, hc0.2⟩
    simp only []
    rw [e2, bindL_inr]
    have z2 : d2.size = d.size := by rw [s2.1, z1]
    have b2 : b ≤ d2.size := by rw [z2]; exact hb
    have B2 : Below ltE a b d2 := (hB.perm hb s1).perm b1 s2
    simp only [letJ_eq]
    generalize (bif wb then (bif wp then (hint == 1) else false) else false) = u16
    have hpi := partialInsertionSort_holds (lt := ltE) h d2 a b (by omega) b2 B2
    obtain ⟨y, e3, hy⟩ : ∃ y : List Str ⊕ List Str, (bif u16 then ((Ffbo d2.toList (a : Int) (b : Int)).bind fun r31 => bif Nat.beq r31.2.length d2.toList.length then (bif r31.1 then (bif Nat.beq r31.2.length D.length then (some (.inl r31.2)) else none) else (some (.inr r31.2))) else none) else (some (.inr d2.toList))) = some y ∧ ((∃ R : Array Str, y = .inl R.toList ∧ PermIn a b d2 R ∧ SortedIn ltE a b R) ∨ ∃ d3 : Array Str, y = .inr d3.toList ∧ PermIn a b d2 d3) := by
      cases u16 with
      | false => exact ⟨_, rfl, .inr ⟨d2, rfl, permIn_refl d2 a b⟩⟩
      | true =>
        rw [cond_true, gen_pis d2 a b (by omega) b2 (by omega), Option.bind_some]
        simp only []
        rw [beqA hpi.1.1, cond_true]
        cases hq : (partialInsertionSort ltE d2 a b).2 with
        | true =>
          rw [cond_true, hDq _ (by rw [hpi.1.1, z2]), cond_true]
          exact ⟨_, rfl, .inl ⟨_, rfl, hpi.1, hpi.2 hq⟩⟩
        | false => exact ⟨_, rfl, .inr ⟨_, rfl, hpi.1⟩⟩
    rw [e3]
    rcases hy with ⟨R, rfl, r1, r2⟩ | ⟨d3, rfl, s3⟩
    · rw [bindL_inl]
      exact ⟨R, rfl, permIn_trans _ _ _ a b (permIn_trans _ _ _ a b s1 s2) r1, r2⟩
    rw [bindL_inr]
    have z3 : d3.size = d.size := by rw [s3.1, z2]
    have b3 : b ≤ d3.size := by rw [z3]; exact hb
    have B3 : Below ltE a b d3 := B2.perm b2 s3
    have P3 : PermIn a b d d3 := permIn_trans _ _ _ a b (permIn_trans _ _ _ a b s1 s2) s3
    obtain ⟨u18, e4, h18⟩ : ∃ u18 : Bool, (bif decide ((a : Int) > 0) then ((getI d3.toList (w64 ((a : Int) - 1))).bind fun e28 => (getI d3.toList (pv : Int)).bind fun e29 => (Ffa e28 e29).bind fun r30 => some (Sum.inr (α := List Str) (!r30))) else (some (.inr false))) = some (.inr u18) ∧ (u18 = true → 0 < a ∧ ltE d3[a - 1]! d3[pv]! = false) := by
      by_cases ha : 0 < a
      · rw [decide_eq_true (show (a : Int) > 0 by omega), cond_true, show w64 ((a : Int) - 1) = ((a - 1 : Nat) : Int) from by rw [w64_id (by omega) (by omega)]; omega, gA (show a - 1 < d3.size by omega), Option.bind_some, gA (show pv < d3.size by omega), Option.bind_some, less_val, Option.bind_some]
        refine ⟨_, rfl, fun hh => ⟨ha, ?_⟩⟩
        simpa [ltE] using hh
      · rw [decide_eq_false (show ¬ (a : Int) > 0 by omega), cond_false]
        exact ⟨_, rfl, fun hh => by cases hh⟩
    rw [e4, bindL_inr]
    cases u18 with
    | true =>
      obtain ⟨ha, hnl⟩ := h18 rfl
      obtain ⟨g1, g2, z4, hB4, hfin⟩ := round_eq h (partitionEqual_holds ltE) (mid := (partitionEqual ltE d3 a b pv).1) (d4 := (partitionEqual ltE d3 a b pv).2) ha hp1 hp2 b3 B3 hnl rfl
      rw [cond_true, gen_partEq d3 a b pv (by omega) b3 (by omega) (by omega), Option.bind_some]
      simp only []
      rw [beqA z4, cond_true]
      obtain ⟨R, e, r1, r2⟩ := ih (partitionEqual ltE d3 a b pv).1 b l1 wb wp (partitionEqual ltE d3 a b pv).2 D A B Lm (by omega) g2 (by omega) (by omega) (by omega) (by omega) hB4
      obtain ⟨q1, q2⟩ := hfin _ r1 r2
      exact ⟨R, e, permIn_trans _ _ _ a b P3 q1, q2⟩
    | false =>
      obtain ⟨g1, g2, z4, hBa, hBr, hleft, hright⟩ := round_part h (partition_holds ltE) (mid := (partition ltE d3 a b pv).1) (ap := (partition ltE d3 a b pv).2.1) (d4 := (partition ltE d3 a b pv).2.2) hp1 hp2 b3 B3 rfl
      rw [cond_false, gen_part d3 a b pv (by omega) b3 (by omega) (by omega), Option.bind_some]
      simp only []
      rw [beqA z4, cond_true]
      generalize partition ltE d3 a b pv = P at *
      have wm1 : w64 ((P.1 : Int) - (a : Int)) = ((P.1 - a : Nat) : Int) := by rw [w64_id (by omega) (by omega)]; omega
      have wm2 : w64 ((b : Int) - (P.1 : Int)) = ((b - P.1 : Nat) : Int) := by rw [w64_id (by omega) (by omega)]; omega
      rw [wm1, wm2, w64_succ (show P.1 < 9223372036854775807 by omega)]
      by_cases hlt : P.1 - a < b - P.1
      · rw [decide_eq_true (show ((P.1 - a : Nat) : Int) < ((b - P.1 : Nat) : Int) by omega), cond_true]
        obtain ⟨L, e, p1, p2⟩ := ih a P.1 l1 true true P.2.2 P.2.2.toList (a : Int) (P.1 : Int) (l1 : Int) (by omega) g1 (by omega) (by omega) (by omega) Array.length_toList hBa
        obtain ⟨hBL, hfin⟩ := hleft _ p1 p2
        rw [pdq_of_la h P.2.2 a P.1 l1 p1.1 e, Option.bind_some, beqA p1.1, cond_true, bindL_inr]
        obtain ⟨R, e', r1, r2⟩ := ih (P.1 + 1) b l1 (decide (((P.1 - a : Nat) : Int) ≥ w64 (((b - a : Nat) : Int).tdiv 8))) P.2.1 L D A B Lm (by omega) (by omega) (by rw [p1.1]; omega) (by rw [p1.1]; omega) (by omega) (by rw [p1.1]; omega) hBL
        obtain ⟨q1, q2⟩ := hfin _ r1 r2
        exact ⟨R, e', permIn_trans _ _ _ a b P3 q1, q2⟩
      · rw [decide_eq_false (show ¬ ((P.1 - a : Nat) : Int) < ((b - P.1 : Nat) : Int) by omega), cond_false]
        obtain ⟨L, e, p1, p2⟩ := ih (P.1 + 1) b l1 true true P.2.2 P.2.2.toList ((P.1 + 1 : Nat) : Int) (b : Int) (l1 : Int) (by omega) (by omega) (by omega) (by omega) (by omega) Array.length_toList hBr
        obtain ⟨hBL, hfin⟩ := hright _ p1 p2
        rw [pdq_of_la h P.2.2 (P.1 + 1) b l1 p1.1 e, Option.bind_some, beqA p1.1, cond_true, bindL_inr]
        obtain ⟨R, e', r1, r2⟩ := ih a P.1 l1 (decide (((b - P.1 : Nat) : Int) ≥ w64 (((b - a : Nat) : Int).tdiv 8))) P.2.1 L D A B Lm (by omega) (by omega) (by rw [p1.1]; omega) (by rw [p1.1]; omega) (by omega) (by rw [p1.1]; omega) hBL
        obtain ⟨q1, q2⟩ := hfin _ r1 r2
        exact ⟨R, e', permIn_trans _ _ _ a b P3 q1, q2⟩
theorem gen_sort (h : SWO ltE) (d : Array Str) (hs : d.size ≤ 1048576) : ∃ R : Array Str,Ffbf d.toList=some R.toList ∧ PermIn 0 d.size d R ∧ SortedIn ltE 0 d.size R:=by
  have hb:=bitsLen_24 (n:=d.size) (by omega)
  obtain ⟨R,e,r1,r2⟩:=pdq_la h d.size 0 d.size (bitsLen d.size) true true d d.toList 0 (d.size : Int) ((bitsLen d.size : Nat) : Int) (by omega) (by omega) (Nat.le_refl _) hs (by omega) Array.length_toList (.inl rfl)
  refine ⟨R,?_,r1,r2⟩
  unfold Ffbf Ffbr
  rw [show len d.toList=((d.size : Nat) : Int) from by simp [len],u64_nat (by omega),len_val (by omega),Option.bind_some,show (0 : Int)=((0 : Nat) : Int) from rfl,pdq_of_la h d 0 d.size (bitsLen d.size) r1.1 e,Option.bind_some,beqA r1.1,cond_true,cond_true]
end PqS
namespace StrL
def ddKeep (a : List Str) (j : Nat) : Bool:=match j with
  | 0=>true
  | j + 1=>match a[j]?,a[j + 1]? with
    | some x,some y=>y != x
    | _,_=>true
def dd (a : List Str) : List Str:=kept (ddKeep a) a a.length
theorem dd_none {a : List Str} (h : ∀ j x y,a[j]?=some x→a[j + 1]?=some y→y ≠ x) {n : Nat} (hn : n ≤ a.length) : kept (ddKeep a) a n=a.take n:=by
  rw [kept_filter (p:=fun _=>true) (fun j x hx=>?_) hn,List.filter_eq_self.2 (fun _ _=>rfl)]
  cases j with
  | zero=>rfl
  | succ j =>
    obtain ⟨h1,_⟩:=List.getElem?_eq_some_iff.1 hx
    have h2:=List.getElem?_eq_getElem (show j < a.length by omega)
    simp only [ddKeep,h2,hx]
    simpa using h j _ _ h2 hx
theorem dd_upto {a : List Str} {k : Nat} (h : ∀ j x y,j + 1 < k→a[j]?=some x→a[j + 1]?=some y→y ≠ x) (hn : k ≤ a.length) : kept (ddKeep a) a k=a.take k:=by
  have e : ∀ n,n ≤ k→kept (ddKeep a) a n=a.take n:=by
    intro n
    induction n with
    | zero=>intro _; rfl
    | succ n ih =>
      intro hk
      have h1 : n < a.length:=by omega
      have hx:=List.getElem?_eq_getElem h1
      rw [kept_yes ?_ hx,ih (by omega),List.take_add_one,hx]
      · rfl
      · cases n with
        | zero=>rfl
        | succ n =>
          have h2:=List.getElem?_eq_getElem (show n < a.length by omega)
          simp only [ddKeep,h2,hx]
          simpa using h n _ _ (by omega) h2 hx
  exact e k (Nat.le_refl k)
theorem getP_at {s z : List Str} {x j : Nat} (h1 : x ≤ j) (h2 : j < s.length) : getP z (0 + Int.toNat (x : Int)) (Int.toNat (len s) - Int.toNat (x : Int)) ((j : Int) - (x : Int))=z[j]?:=by
  unfold getP
  simp only [len,Int.toNat_natCast,Nat.zero_add]
  rw [if_pos (by omega),show x + ((j : Int) - (x : Int)).toNat=j by omega]
theorem compact_rest (s : List Str) (x : Nat) (hl : s.length ≤ 1048576) (hx : x < s.length) (h0 : kept (ddKeep s) s (x + 1)=s.take x) : ∃ (i : Nat) (z : List Str),Ffbc_lb s (x : Int) ((x : Int),1,s)=some (.inr ((i : Int),z)) ∧ z.length=s.length ∧ i ≤ z.length ∧ z.take i=dd s:=by
  have hD:=delLoop (L:=fun q : Int × Int × List Str=>Ffbc_lb s (x : Int) (q.1,q.2.1 - (x : Int),q.2.2)) (keep:=ddKeep s) (a:=s) (i0:=x)
    (by
      intro i j z y hz hi hij hy hy2 hy3
      obtain ⟨h1,_⟩:=List.getElem?_eq_some_iff.1 hy
      have h2:=List.getElem?_eq_getElem (show j - 1 < s.length by omega)
      have h4:=List.getElem?_eq_getElem (show i < z.length by omega)
      show Ffbc_lb s (x : Int) ((i : Int),(j : Int) - (x : Int),z)=bif ddKeep s j then Ffbc_lb s (x : Int) (((i + 1 : Nat) : Int),((j + 1 : Nat) : Int) - (x : Int),z.set i y) else Ffbc_lb s (x : Int) ((i : Int),((j + 1 : Nat) : Int) - (x : Int),z)
      have w1 : w64 ((j : Int) - (x : Int) - 1)=((j - 1 : Nat) : Int) - (x : Int):=by rw [w64_id (by omega) (by omega)]; omega
      have w2 : w64 ((j : Int) - (x : Int) + 1)=((j + 1 : Nat) : Int) - (x : Int):=by rw [w64_id (by omega) (by omega)]; omega
      have c1 : decide ((j : Int) - (x : Int) < (((Int.toNat (len s) - Int.toNat (x : Int)) : Nat) : Int))=true:=decide_eq_true (by simp only [len,Int.toNat_natCast]; omega)
      rw [Ffbc_lb_eq,Ffbc_lb_F]
      simp only [c1,cond_true,w1,w2,getP_at (show x ≤ j by omega) h1,getP_at (show x ≤ j - 1 by omega) (show j - 1 < s.length by omega),hy2,hy3,h2,Option.bind_some,getI_nat,setI_nat,h4,w64_succ (show i < 9223372036854775807 by omega)]
      have hk : ddKeep s j=(y != s[j - 1]):=by
        cases j with
        | zero=>omega
        | succ j =>
          simp only [ddKeep,hy,show j + 1 - 1=j by omega] at h2 ⊢
          simp only [h2]
      rw [hk]
      show _=bif !(y == s[j - 1]) then _ else _
      cases y == s[j - 1] <;> rfl)
    (by
      intro i j z hz hi hij hj
      show Ffbc_lb s (x : Int) ((i : Int),(j : Int) - (x : Int),z)=_
      have c1 : decide ((j : Int) - (x : Int) < (((Int.toNat (len s) - Int.toNat (x : Int)) : Nat) : Int))=false:=decide_eq_false (by simp only [len,Int.toNat_natCast]; omega)
      rw [Ffbc_lb_eq,Ffbc_lb_F]
      simp only [c1,cond_false])
    h0 hx
  simp only [show ((x + 1 : Nat) : Int) - (x : Int)=1 by omega] at hD
  exact hD
theorem compact_loop (s : List Str) (hl : s.length ≤ 1048576) : ∀ (n k : Nat),k + n=s.length→1 ≤ k→(∀ j x y,j + 1 < k→s[j]?=some x→s[j + 1]?=some y→y ≠ x)→∃ y,Ffbc_la s (k : Int)=some y ∧ (y=.inl (dd s) ∨ y=.inr (dd s))
  | 0,k,hk,h1,h=>by
    refine ⟨.inr s,?_,.inr ?_⟩
    · rw [Ffbc_la_eq,Ffbc_la_F,lt_len,decide_eq_false (by omega),cond_false]
    · unfold dd
      rw [dd_upto (k:=s.length) (fun j x y hj=>h j x y (by omega)) (Nat.le_refl _),List.take_length]
  | n + 1,k,hk,h1,h=>by
    have h2 : k < s.length:=by omega
    have e1:=List.getElem?_eq_getElem h2
    have e2:=List.getElem?_eq_getElem (show k - 1 < s.length by omega)
    have w1 : w64 ((k : Int) - 1)=((k - 1 : Nat) : Int):=by rw [w64_id (by omega) (by omega)]; omega
    rw [Ffbc_la_eq,Ffbc_la_F,lt_len,decide_eq_true h2,cond_true,w1,getI_nat,getI_nat,e1,e2,Option.bind_some,Option.bind_some,w64_succ (by omega)]
    by_cases hq : s[k]=s[k - 1]
    · rw [beq_iff_eq.2 hq,cond_true]
      have e3 : subP s.length (k : Int) (len s)=some ():=by unfold subP; rw [if_pos (by simp only [len]; omega)]
      have hno : ddKeep s k=false:=by
        cases k with
        | zero=>omega
        | succ k =>
          simp only [show k + 1 - 1=k by omega] at e2 hq
          simp only [ddKeep,e1,e2,hq,bne_self_eq_false]
      obtain ⟨i,z,e,hz,hi,ht⟩:=compact_rest s k hl h2 (by rw [kept_no hno,dd_upto h (by omega)])
      rw [e3,Option.bind_some,e,bindL_inr]
      refine ⟨.inl (dd s),?_,.inl rfl⟩
      rw [← ht]
      exact cutL (c:=([] : Str)) (F:=fun p19=>some (Sum.inl p19)) hi
    · rw [beq_eq_false_iff_ne.2 hq,cond_false]
      refine compact_loop s hl n (k + 1) (by omega) (by omega) fun j x y hj hx hy=>?_
      by_cases hj2 : j + 1 < k
      · exact h j x y hj2 hx hy
      · obtain rfl : k=j + 1:=by omega
        simp only [show j + 1 - 1=j by omega] at e2 hq
        rw [e2] at hx
        rw [e1] at hy
        cases hx
        cases hy
        exact hq
theorem compact_val (s : List Str) (hl : s.length ≤ 1048576) : Ffbc s=some (dd s):=by
  unfold Ffbc
  by_cases h : len s < 2
  · rw [decide_eq_true h,cond_true]
    have h' : s.length < 2:=by simp only [len] at h; omega
    unfold dd
    rw [dd_upto (k:=s.length) (fun j x y hj=>by omega) (Nat.le_refl _),List.take_length]
  · rw [decide_eq_false h,cond_false]
    have h' : ¬ s.length < 2:=by simp only [len] at h; omega
    obtain ⟨y,hy,hq⟩:=compact_loop s hl (s.length - 1) 1 (by omega) (Nat.le_refl _) (fun j x y hj=>by omega)
    rw [show Ffbc_la s 1=some y from hy]
    rcases hq with rfl | rfl <;> rfl
end StrL
/-! texts sorted,without doubles -/
namespace StrL
theorem lt_irrefl : ∀ (a : Str),Op.bytesLess a a=false
  | []=>rfl
  | x :: xs=>by
    have h : ¬ x < x:=by simp
    simp [Op.bytesLess,h,lt_irrefl xs]
theorem lt_trans : ∀ (a b c : Str),Op.bytesLess a b=true→Op.bytesLess b c=true→Op.bytesLess a c=true
  | _,[],_,h,_=>by simp [Op.bytesLess] at h
  | _,_ :: _,[],_,h=>by simp [Op.bytesLess] at h
  | [],_ :: _,_ :: _,_,_=>rfl
  | x :: xs,y :: ys,z :: zs,h1,h2=>by
    simp only [Op.bytesLess,Bool.or_eq_true,decide_eq_true_eq,Bool.and_eq_true,beq_iff_eq] at h1 h2 ⊢
    rcases h1 with h1 | ⟨h1,h3⟩ <;> rcases h2 with h2 | ⟨h2,h4⟩
    · exact .inl (UInt8.lt_trans h1 h2)
    · subst h2; exact .inl h1
    · subst h1; exact .inl h2
    · subst h1; subst h2; exact .inr ⟨rfl,lt_trans xs ys zs h3 h4⟩
def Lt (a b : Str) : Prop:=Op.bytesLess a b=true
theorem tri (a b : Str) : Lt a b ∨ a=b ∨ Lt b a:=by
  have:=less_tri a b
  unfold Lt
  cases h : Op.bytesLess a b
  · cases h2 : a == b
    · rw [h,h2] at this; exact .inr (.inr this.symm)
    · exact .inr (.inl (by simpa using h2))
  · exact .inl rfl
theorem Lt.irrefl {a : Str} (h : Lt a a) : False:=by unfold Lt at h; rw [lt_irrefl] at h; cases h
theorem Lt.trans {a b c : Str} (h : Lt a b) (h2 : Lt b c) : Lt a c:=lt_trans a b c h h2
theorem Lt.asymm {a b : Str} (h : Lt a b) (h2 : Lt b a) : False:=(h.trans h2).irrefl
/-- not behind -/
def Le (a b : Str) : Prop:=¬ Lt b a
theorem Le.lt_or {a b : Str} (h : Le a b) : Lt a b ∨ a=b:=by
  rcases tri a b with h1 | h1 | h1
  · exact .inl h1
  · exact .inr h1
  · exact (h h1).elim
theorem Le.trans {a b c : Str} (h : Le a b) (h2 : Le b c) : Le a c:=by
  intro h3
  rcases h.lt_or with h4 | rfl
  · rcases h2.lt_or with h5 | rfl
    · exact (h4.trans h5).asymm h3
    · exact h h3
  · exact h2 h3
theorem Lt.le {a b : Str} (h : Lt a b) : Le a b:=fun h2=>h.asymm h2
theorem Lt.ne {a b : Str} (h : Lt a b) : a ≠ b:=fun e=>by subst e; exact h.irrefl
theorem Lt.lt_le {a b c : Str} (h : Lt a b) (h2 : Le b c) : Lt a c:=by
  rcases h2.lt_or with h3 | rfl
  · exact h.trans h3
  · exact h
theorem Le.le_lt {a b c : Str} (h : Le a b) (h2 : Lt b c) : Lt a c:=by
  rcases h.lt_or with h3 | rfl
  · exact h3.trans h2
  · exact h2
theorem lt_iff {x y : Str} : PqS.ltE x y=true ↔ Lt x y:=Iff.rfl
theorem lt_not {x y : Str} : PqS.ltE x y=false ↔ ¬ Lt x y:=by unfold Lt PqS.ltE; simp
theorem swo : Go.Sort.SWO PqS.ltE where
  irrefl:=fun x=>by rw [lt_not]; exact fun h=>h.irrefl
  trans:=fun x y z h1 h2=>by rw [lt_iff] at *; exact h1.trans h2
  ntrans:=fun x y z h1 h2=>by rw [lt_not] at *; exact Le.trans (a:=z) (b:=y) (c:=x) h2 h1
theorem str_sort (a : List Str) (ha : a.length ≤ 1048576) : Ffbf a=some (a.mergeSort (fun x y=>!PqS.ltE y x)):=by
  obtain ⟨R,e,r1,r2⟩:=PqS.gen_sort swo a.toArray (by simpa using ha)
  have:=Go.Sort.sorted_unique_holds (lt:=PqS.ltE) swo (fun x y h1 h2=>by
    rw [lt_not] at h1 h2
    rcases tri x y with h | h | h
    · exact (h1 h).elim
    · exact h
    · exact (h2 h).elim) a.toArray R r1 r2
  rw [show a=a.toArray.toList from rfl] at *
  rw [e,this]
theorem sort_pw (a : List Str) : (a.mergeSort (fun x y=>!PqS.ltE y x)).Pairwise Le:=by
  have h:=List.pairwise_mergeSort (le:=fun x y=>!PqS.ltE y x) (fun x y z h1 h2=>by
    simp only [Bool.not_eq_true',lt_not] at *; exact Le.trans (a:=x) (b:=y) (c:=z) h1 h2) (fun x y=>by
    simp only [Bool.or_eq_true,Bool.not_eq_true',lt_not]
    rcases tri x y with h | h | h
    · exact .inl h.le
    · subst h; exact .inl fun h=>h.irrefl
    · exact .inr h.le) a
  exact h.imp fun {x y} h=>by
    simp only [Bool.not_eq_true',lt_not] at h; exact h
theorem dd_sorted {a : List Str} (hs : a.Pairwise Le) : ∀ n,n ≤ a.length→(kept (ddKeep a) a n).Pairwise Lt ∧ ∀ x,x ∈ kept (ddKeep a) a n ↔ x ∈ a.take n
  | 0,_=>by
    have e : kept (ddKeep a) a 0=[]:=rfl
    rw [e]
    exact ⟨List.Pairwise.nil,fun x=>by simp⟩
  | n + 1,hn=>by
    obtain ⟨h1,h2⟩:=dd_sorted hs n (by omega)
    have hlt : n < a.length:=by omega
    have hx:=List.getElem?_eq_getElem hlt
    have hle : ∀ y ∈ a.take n,Le y a[n]:=by
      intro y hy
      obtain ⟨i,hi,rfl⟩:=List.mem_iff_getElem.1 hy
      rw [List.length_take] at hi
      rw [List.getElem_take]
      exact List.pairwise_iff_getElem.1 hs i n (by omega) hlt (by omega)
    cases hk : ddKeep a n with
    | true =>
      rw [kept_yes hk hx]
      have hstrict : ∀ y ∈ a.take n,Lt y a[n]:=by
        intro y hy
        cases n with
        | zero=>simp at hy
        | succ j =>
          have h3:=List.getElem?_eq_getElem (show j < a.length by omega)
          have hne : a[j + 1] ≠ a[j]:=by
            simp only [ddKeep,h3,hx] at hk
            simpa using hk
          have hj : Le a[j] a[j + 1]:=List.pairwise_iff_getElem.1 hs j (j + 1) (by omega) hlt (by omega)
          obtain ⟨i,hi,rfl⟩:=List.mem_iff_getElem.1 hy
          rw [List.length_take] at hi
          rw [List.getElem_take]
          have hlt2 : Lt a[j] a[j + 1]:=hj.lt_or.resolve_right fun e=>hne e.symm
          by_cases e : i=j
          · subst e; exact hlt2
          · have:=List.pairwise_iff_getElem.1 hs i j (by omega) (by omega) (by omega)
            exact this.le_lt hlt2
      refine ⟨List.pairwise_append.2 ⟨h1,List.pairwise_singleton _ _,fun y hy z hz=>?_⟩,fun x=>?_⟩
      · rw [List.mem_singleton] at hz
        subst hz
        exact hstrict y ((h2 y).1 hy)
      · rw [List.take_add_one,hx,List.mem_append,List.mem_append,h2]
        rfl
    | false =>
      rw [kept_no hk]
      refine ⟨h1,fun x=>?_⟩
      rw [h2,List.take_add_one,hx,List.mem_append]
      constructor
      · exact .inl
      · rintro (h | h)
        · exact h
        · have e : x=a[n]:=by simpa using h
          subst e
          cases n with
          | zero=>simp [ddKeep] at hk
          | succ j =>
            have h3:=List.getElem?_eq_getElem (show j < a.length by omega)
            simp only [ddKeep,h3,hx] at hk
            have e : a[j + 1]=a[j]:=by simpa using hk
            rw [e]
            have : a[j] ∈ a.take (j + 1):=by
              rw [List.mem_iff_getElem]
              exact ⟨j,by rw [List.length_take]; omega,by rw [List.getElem_take]⟩
            exact this
theorem dd_ok {a : List Str} (hs : a.Pairwise Le) : (dd a).Pairwise Lt ∧ ∀ x,x ∈ dd a ↔ x ∈ a:=by
  have:=dd_sorted hs a.length (Nat.le_refl _)
  rw [List.take_length] at this
  exact this
theorem dd_len (a : List Str) : (dd a).length ≤ a.length:=by
  have h : ∀ n,(kept (ddKeep a) a n).length ≤ n:=by
    intro n
    have:=List.length_filterMap_le (fun j=>if ddKeep a j=true then a[j]? else none) (List.range n)
    rw [List.length_range] at this
    exact this
  exact h _
/-- Two strictly ascending lists of the same numbers are one. -/
theorem asc_uniq : ∀ {a b : List Str},a.Pairwise Lt→b.Pairwise Lt→(∀ x,x ∈ a ↔ x ∈ b)→a=b
  | [],[],_,_,_=>rfl
  | [],y :: b,_,_,h=>absurd ((h y).2 (by simp)) (by simp)
  | x :: a,[],_,_,h=>absurd ((h x).1 (by simp)) (by simp)
  | x :: a,y :: b,ha,hb,h=>by
    rw [List.pairwise_cons] at ha hb
    have e : x=y:=by
      have h1:=(h x).1 (by simp)
      have h2:=(h y).2 (by simp)
      rw [List.mem_cons] at h1 h2
      rcases h1 with h1 | h1
      · exact h1
      · rcases h2 with h2 | h2
        · exact h2.symm
        · exact ((ha.1 y h2).asymm (hb.1 x h1)).elim
    subst e
    rw [asc_uniq ha.2 hb.2 fun z=>?_]
    constructor
    · intro hz
      have h1:=(h z).1 (List.mem_cons_of_mem _ hz)
      rcases List.mem_cons.1 h1 with e | h1
      · subst e; exact (ha.1 z hz).irrefl.elim
      · exact h1
    · intro hz
      have h1:=(h z).2 (List.mem_cons_of_mem _ hz)
      rcases List.mem_cons.1 h1 with e | h1
      · subst e; exact (hb.1 z hz).irrefl.elim
      · exact h1
theorem appI_two {b : Nat} {xs ys : List Str} (h : (xs.length + ys.length) * b ≤ 1099511627776) (h2 : xs.length + ys.length ≤ 1099511627776) : appI b xs ys=some (xs ++ ys):=by
  unfold appI
  rw [if_pos]
  simp only [lim]
  omega
theorem put_loop (l : List Str) (n : Str) (m : Nat) (hm : m ≤ l.length) (hl : l.length ≤ 1048576) (h1 : ∀ (j : Nat) x,j < m→l[j]?=some x→Lt x n) (h2 : ∀ x,l[m]?=some x→¬ Lt x n) : ∀ (k j : Nat),j + k=m→Ffcj_la l n (j : Int)=some (.inr (n,(m : Int),l))
  | 0,j,hj=>by
    obtain rfl : j=m:=by omega
    rw [Ffcj_la_eq,Ffcj_la_F,lt_len]
    by_cases h : j < l.length
    · rw [decide_eq_true h,cond_true,getI_nat,List.getElem?_eq_getElem h,Option.bind_some,bindL_inr,show Op.bytesLess l[j] n=false from by simpa [Lt] using h2 _ (List.getElem?_eq_getElem h),cond_false]
    · rw [decide_eq_false h,cond_false,bindL_inr,cond_false]
  | k + 1,j,hj=>by
    have h : j < l.length:=by omega
    rw [Ffcj_la_eq,Ffcj_la_F,lt_len,decide_eq_true h,cond_true,getI_nat,List.getElem?_eq_getElem h,Option.bind_some,bindL_inr,show Op.bytesLess l[j] n=true from h1 j _ (by omega) (List.getElem?_eq_getElem h),cond_true,w64_succ (by omega)]
    exact put_loop l n m hm hl h1 h2 k (j + 1) (by omega)
/-- A text put into a strictly ascending list. -/
theorem put_val (l : List Str) (n : Str) (hl : l.length ≤ 1000000) (hs : l.Pairwise Lt) : ∃ r,Ffcj l n=some r ∧ r.Pairwise Lt ∧ (∀ x,x ∈ r ↔ x ∈ l ∨ x=n) ∧ r.length ≤ l.length + 1:=by
  have key : ∃ m,m ≤ l.length ∧ (∀ (j : Nat) x,j < m→l[j]?=some x→Lt x n) ∧ (∀ x,l[m]?=some x→¬ Lt x n):=by
    clear hl
    induction l with
    | nil=>exact ⟨0,by simp,fun j x hj=>by omega,fun x hx=>by simp at hx⟩
    | cons y l ih =>
      by_cases hy : Lt y n
      · obtain ⟨m,h1,h2,h3⟩:=ih (List.pairwise_cons.1 hs).2
        refine ⟨m + 1,by simp; omega,fun j x hj hx=>?_,fun x hx=>h3 x (by simpa using hx)⟩
        cases j with
        | zero=>simp at hx; subst hx; exact hy
        | succ j=>exact h2 j x (by omega) (by simpa using hx)
      · exact ⟨0,by simp,fun j x hj=>by omega,fun x hx=>by simp at hx; subst hx; exact hy⟩
  obtain ⟨m,hm,h1,h2⟩:=key
  have hlow : ∀ x ∈ l.take m,Lt x n:=by
    intro x hx
    obtain ⟨i,hi,rfl⟩:=List.mem_iff_getElem.1 hx
    rw [List.length_take] at hi
    rw [List.getElem_take]
    exact h1 i _ (by omega) (List.getElem?_eq_getElem (by omega))
  have hloop:=put_loop l n m hm (by omega) h1 h2 m 0 (by omega)
  rw [show ((0 : Nat) : Int)=0 from rfl] at hloop
  unfold Ffcj
  rw [hloop]
  simp only [bindJ_inr,lt_len]
  have s1 : subP l.length 0 (m : Int)=some ():=by unfold subP; rw [if_pos (by omega)]
  have s2 : subP l.length (m : Int) (len l)=some ():=by unfold subP; rw [if_pos (by simp only [len]; omega)]
  have p1 : partP l (0 + Int.toNat 0) (Int.toNat (m : Int) - Int.toNat 0)=some (l.take m):=by
    unfold partP
    simp only [Int.toNat_zero,Int.toNat_natCast,Nat.zero_add,Nat.sub_zero,List.drop_zero]
    rw [if_pos hm]
  have p2 : partP l (0 + Int.toNat (m : Int)) (Int.toNat (len l) - Int.toNat (m : Int))=some (l.drop m):=by
    unfold partP
    simp only [Int.toNat_natCast,Nat.zero_add,len]
    rw [if_pos (by omega),List.take_of_length_le (by rw [List.length_drop]; omega)]
  have a1 : appI 16 ([] : List Str) (l.take m)=some (l.take m):=by rw [appI_two (by simp only [List.length_nil,List.length_take]; omega) (by simp only [List.length_nil,List.length_take]; omega)]; rfl
  have a2 : appI 16 (l.take m) [n]=some (l.take m ++ [n]):=appI_one (by rw [List.length_take]; omega) (by rw [List.length_take]; omega)
  have a3 : appI 16 (l.take m ++ [n]) (l.drop m)=some (l.take m ++ [n] ++ l.drop m):=appI_two (by simp only [List.length_append,List.length_take,List.length_drop,List.length_singleton]; omega) (by simp only [List.length_append,List.length_take,List.length_drop,List.length_singleton]; omega)
  have hins : (∀ x ∈ l.drop m,Lt n x)→(l.take m ++ [n] ++ l.drop m).Pairwise Lt ∧ (∀ x,x ∈ l.take m ++ [n] ++ l.drop m ↔ x ∈ l ∨ x=n) ∧ (l.take m ++ [n] ++ l.drop m).length ≤ l.length + 1:=by
    intro hhi
    have hs2:=hs
    rw [← List.take_append_drop m l,List.pairwise_append] at hs2
    refine ⟨List.pairwise_append.2 ⟨List.pairwise_append.2 ⟨hs2.1,List.pairwise_singleton _ _,fun x hx y hy=>?_⟩,hs2.2.1,fun x hx y hy=>?_⟩,fun x=>?_,?_⟩
    · rw [List.mem_singleton] at hy; subst hy; exact hlow x hx
    · rcases List.mem_append.1 hx with hx | hx
      · exact hs2.2.2 x hx y hy
      · rw [List.mem_singleton] at hx; subst hx; exact hhi y hy
    · have : x ∈ l ↔ x ∈ l.take m ∨ x ∈ l.drop m:=by
        rw [← List.mem_append,List.take_append_drop]
      rw [List.mem_append,List.mem_append,List.mem_singleton,this]
      constructor
      · rintro ((h | h) | h)
        · exact .inl (.inl h)
        · exact .inr h
        · exact .inl (.inr h)
      · rintro ((h | h) | h)
        · exact .inl (.inl h)
        · exact .inr h
        · exact .inl (.inr h)
    · simp only [List.length_append,List.length_take,List.length_drop,List.length_singleton]; omega
  by_cases hb : m < l.length
  · have hx:=List.getElem?_eq_getElem hb
    have hge:=h2 _ hx
    have hrest : ∀ x ∈ l.drop (m + 1),Lt l[m] x:=by
      intro x hx
      obtain ⟨i,hi,rfl⟩:=List.mem_iff_getElem.1 hx
      rw [List.length_drop] at hi
      rw [List.getElem_drop]
      exact List.pairwise_iff_getElem.1 hs m (m + 1 + i) hb (by omega) (by omega)
    rw [decide_eq_true hb,cond_true,getI_nat,hx,Option.bind_some,bindJ_inr,str_beq]
    by_cases he : l[m]=n
    · rw [decide_eq_true he,cond_true]
      refine ⟨l,rfl,hs,fun x=>⟨.inl,?_⟩,by omega⟩
      rintro (h | h)
      · exact h
      · rw [h,← he]; exact List.getElem_mem hb
    · rw [decide_eq_false he,cond_false]
      simp only [s1,p1,a1,a2,s2,p2,a3,Option.bind_some]
      refine ⟨_,rfl,hins ?_⟩
      intro x hx
      rw [List.drop_eq_getElem_cons hb] at hx
      rcases List.mem_cons.1 hx with rfl | hx
      · exact (tri n l[m]).resolve_right fun h=>h.elim (fun e=>he e.symm) hge
      · have h1 : Lt n l[m]:=(tri n l[m]).resolve_right fun h=>h.elim (fun e=>he e.symm) hge
        exact h1.trans (hrest x hx)
  · rw [decide_eq_false hb,cond_false,bindJ_inr,cond_false]
    simp only [s1,p1,a1,a2,s2,p2,a3,Option.bind_some]
    refine ⟨_,rfl,hins ?_⟩
    intro x hx
    rw [List.drop_of_length_le (by omega)] at hx
    cases hx
end StrL
/-! between -/
theorem cond_and (b x : Bool) : (bif b then x else false)=(b && x):=by cases b <;> rfl
def inB (x a b : Int) : Bool:=decide (x ≥ a) && decide (x ≤ b)
theorem spec_in (x a b : Int) : spec_l1In x a b=some (inB x a b):=by simp only [spec_l1In,letJ_eq,cond_and,inB]
theorem impl_in (x a b : Int) : Ffm x a b=some (inB x a b):=by simp only [Ffm,letJ_eq,cond_and,inB]

/-! names -/
def signB (c : UInt8) : Bool:=(decide (97 ≤ c.toNat) && decide (c.toNat ≤ 122)) || (decide (48 ≤ c.toNat) && decide (c.toNat ≤ 57))
theorem spec_sign (c : UInt8) : Ffck (c.toNat : Int)=some (signB c):=by
  simp only [Ffck,signB,letJ_eq]
  by_cases h1 : 97 ≤ c.toNat <;> by_cases h2 : c.toNat ≤ 122 <;> by_cases h3 : 48 ≤ c.toNat <;> by_cases h4 : c.toNat ≤ 57 <;> simp [h1,h2,h3,h4,show ((97 : Int) ≤ c.toNat) ↔ 97 ≤ c.toNat by omega,show ((c.toNat : Int) ≤ 122) ↔ c.toNat ≤ 122 by omega,show ((48 : Int) ≤ c.toNat) ↔ 48 ≤ c.toNat by omega,show ((c.toNat : Int) ≤ 57) ↔ c.toNat ≤ 57 by omega]
def words : List Str:=[[116,114,117,101],[102,114,111,109],[110,111,116],[97,110,100],[111,114],[98,111,116,104],[101,105,116,104,101,114],[105,116],[105,110]]
def nameB (s : Str) : Bool:=match s with
  | []=>false
  | c :: r=>decide (r.length < 8) && decide (97 ≤ c.toNat) && decide (c.toNat ≤ 122) && s.all signB && !words.contains s
theorem cond_or (b x : Bool) : (bif b then b else x)=(b || x):=by cases b <;> rfl
theorem split_words : Ffcp [116,114,117,101,32,102,114,111,109,32,110,111,116,32,97,110,100,32,111,114,32,98,111,116,104,32,101,105,116,104,101,114,32,105,116,32,105,110] [32]=some words:=by
  have h : Ffcq_la [116,114,117,101,32,102,114,111,109,32,110,111,116,32,97,110,100,32,111,114,32,98,111,116,104,32,101,105,116,104,101,114,32,105,116,32,105,110] [32] 0 (-1) 9 ([116,114,117,101,32,102,114,111,109,32,110,111,116,32,97,110,100,32,111,114,32,98,111,116,104,32,101,105,116,104,101,114,32,105,116,32,105,110],0,List.replicate 9 [])=some (.inr ([105,110],8,[[116,114,117,101],[102,114,111,109],[110,111,116],[97,110,100],[111,114],[98,111,116,104],[101,105,116,104,101,114],[105,116],[]])) :=
    (fixO_iff (fun a=>(Ffcq_la_fin _ _ _ _ _ a).1)).2 ⟨20,by decide +kernel⟩
  have e : Ffcp [116,114,117,101,32,102,114,111,109,32,110,111,116,32,97,110,100,32,111,114,32,98,111,116,104,32,101,105,116,104,101,114,32,105,116,32,105,110] [32]=(bindJ (Ffcq_la [116,114,117,101,32,102,114,111,109,32,110,111,116,32,97,110,100,32,111,114,32,98,111,116,104,32,101,105,116,104,101,114,32,105,116,32,105,110] [32] 0 (-1) 9 ([116,114,117,101,32,102,114,111,109,32,110,111,116,32,97,110,100,32,111,114,32,98,111,116,104,32,101,105,116,104,101,114,32,105,116,32,105,110],0,List.replicate 9 [])) fun u12 : Str × Int × (List Str)=>(getI u12.2.2 u12.2.1).bind fun e13=>(subP (setI u12.2.2 u12.2.1 u12.1).length 0 (w64 (u12.2.1 + 1))).bind fun s14=>(partP (setI u12.2.2 u12.2.1 u12.1) (0 + Int.toNat (0)) (Int.toNat ((w64 (u12.2.1 + 1))) - Int.toNat (0))).bind fun p15=>some p15).bind fun r=>some r:=by rfl
  rw [e,h]
  rfl
theorem contains_words (s : Str) : Ffbd words s=some (words.contains s):=by
  unfold Ffbd Ffbe
  rw [idxLoop (L:=Ffbe_la words s) (a:=words) (p:=fun e=>some (s == e)) (q:=fun e=>s == e) (fun _ _=>rfl) (fun x=>by rw [Ffbe_la_eq,Ffbe_la_F] <;> rfl) (by decide)]
  cases h : words.findIdx? (fun e=>s == e) with
  | none =>
    have : words.contains s=false:=by
      rw [List.findIdx?_eq_none_iff] at h
      rw [Bool.eq_false_iff]
      intro hc
      rw [List.contains_iff_exists_mem_beq] at hc
      obtain ⟨w,hw,he⟩:=hc
      rw [h w hw] at he
      cases he
    rw [this]
    rfl
  | some i =>
    have : words.contains s=true:=by
      rw [List.findIdx?_eq_some_iff_getElem] at h
      obtain ⟨hi,he,_⟩:=h
      rw [List.contains_iff_exists_mem_beq]
      exact ⟨_,List.getElem_mem hi,he⟩
    rw [this]
    simp
theorem spec_words (s : Str) : (bif s == [116,114,117,101] then s == [116,114,117,101] else bif s == [102,114,111,109] then s == [102,114,111,109] else bif s == [110,111,116] then s == [110,111,116] else bif s == [97,110,100] then s == [97,110,100] else bif s == [111,114] then s == [111,114] else bif s == [98,111,116,104] then s == [98,111,116,104] else bif s == [101,105,116,104,101,114] then s == [101,105,116,104,101,114] else bif s == [105,116] then s == [105,116] else s == [105,110])=words.contains s:=by
  simp only [cond_or,words,List.contains_cons,List.contains_nil,Bool.or_false]
theorem spec_name (s : Str) (hs : s.length ≤ 1048576) : Ffch s=some (nameB s):=by
  unfold Ffch spec_l1In nameB
  simp only [letJ_eq,Option.bind_some,spec_words]
  cases s with
  | nil=>rfl
  | cons c r =>
    have e1 : decide (len (c :: r) ≥ 1)=true:=decide_eq_true (by simp [len]; omega)
    have e2 : decide (len (c :: r) ≤ 8)=decide (r.length < 8):=by simp only [len,List.length_cons]; congr 1; apply propext; omega
    have e3 : getI (c :: r) (0 : Int)=some c:=rfl
    have e4 : decide ((c.toNat : Int) < 97)=!decide (97 ≤ c.toNat):=by rw [← decide_not]; congr 1; apply propext; omega
    have e5 : decide ((c.toNat : Int) > 122)=!decide (c.toNat ≤ 122):=by rw [← decide_not]; congr 1; apply propext; omega
    rw [e1,e2,e3,anyLoop (r:=false) (L:=Ffch_la (c :: r)) (a:=c :: r) (p:=fun c=>(Ffck (c.toNat : Int)).bind fun r=>some (!r)) (q:=fun c=>!signB c) (fun x _=>by rw [spec_sign]; rfl) (fun x=>by rw [Ffch_la_eq,Ffch_la_F]; simp only [Option.bind_assoc,Option.bind_some]) (by omega)]
    simp only [cond_true,Option.bind_some,e4,e5]
    have e6 : ((c :: r).any fun c=>!signB c)=!((c :: r).all signB):=by rw [List.not_all_eq_any_not]
    rw [e6]
    cases decide (r.length < 8) <;> cases decide (97 ≤ c.toNat) <;> cases decide (c.toNat ≤ 122) <;> cases (c :: r).all signB <;> cases words.contains (c :: r) <;> rfl
theorem impl_name (s : Str) (hs : s.length ≤ 1048576) : Ffe s=some (nameB s):=by
  unfold Ffe Ffm nameB
  simp only [letJ_eq,Option.bind_some,split_words,contains_words]
  cases s with
  | nil=>rfl
  | cons c r =>
    have e1 : decide (len (c :: r) ≥ 1)=true:=decide_eq_true (by simp [len]; omega)
    have e2 : decide (len (c :: r) ≤ 8)=decide (r.length < 8):=by simp only [len,List.length_cons]; congr 1; apply propext; omega
    have e3 : getI (c :: r) (0 : Int)=some c:=rfl
    have e4 : decide ((c.toNat : Int) < 97)=!decide (97 ≤ c.toNat):=by rw [← decide_not]; congr 1; apply propext; omega
    have e5 : decide ((c.toNat : Int) > 122)=!decide (c.toNat ≤ 122):=by rw [← decide_not]; congr 1; apply propext; omega
    have hp : ∀ c : UInt8,(bif decide ((c.toNat : Int) < 97) then (bif decide ((c.toNat : Int) < 48) then true else decide ((c.toNat : Int) > 57)) else (bif decide ((c.toNat : Int) > 122) then (bif decide ((c.toNat : Int) < 48) then true else decide ((c.toNat : Int) > 57)) else false))=!signB c:=by
      intro c
      have f1 : decide ((c.toNat : Int) < 97)=!decide (97 ≤ c.toNat):=by rw [← decide_not]; congr 1; apply propext; omega
      have f2 : decide ((c.toNat : Int) > 122)=!decide (c.toNat ≤ 122):=by rw [← decide_not]; congr 1; apply propext; omega
      have f3 : decide ((c.toNat : Int) < 48)=!decide (48 ≤ c.toNat):=by rw [← decide_not]; congr 1; apply propext; omega
      have f4 : decide ((c.toNat : Int) > 57)=!decide (c.toNat ≤ 57):=by rw [← decide_not]; congr 1; apply propext; omega
      rw [f1,f2,f3,f4]
      unfold signB
      by_cases g1 : 97 ≤ c.toNat
      · have g3 : 48 ≤ c.toNat:=by omega
        have g4 : ¬ c.toNat ≤ 57:=by omega
        simp only [g1,g3,g4,decide_true,decide_false]
        cases decide (c.toNat ≤ 122) <;> rfl
      · simp only [g1,decide_false]
        cases decide (48 ≤ c.toNat) <;> cases decide (c.toNat ≤ 57) <;> rfl
    rw [e1,e2,e3,anyLoop (r:=false) (L:=Ffe_la (c :: r)) (a:=c :: r) (p:=fun c=>some (!signB c)) (q:=fun c=>!signB c) (fun x _=>rfl) (fun x=>by rw [Ffe_la_eq,Ffe_la_F]; simp only [letJ_eq,hp,Option.bind_some]) (by omega)]
    simp only [cond_true,Option.bind_some,e4,e5]
    have e6 : ((c :: r).any fun c=>!signB c)=!((c :: r).all signB):=by rw [List.not_all_eq_any_not]
    rw [e6]
    cases decide (r.length < 8) <;> cases decide (97 ≤ c.toNat) <;> cases decide (c.toNat ≤ 122) <;> cases (c :: r).all signB <;> cases words.contains (c :: r) <;> rfl

/-! loops by their steps -/
theorem goLoop {ρ υ σ : Type} {L : Nat → σ → Option (ρ ⊕ υ)} (N : Nat) (J : Nat → σ → Prop) (T : ρ ⊕ υ → Prop)
    (hs : ∀ i s, i < N → J i s → (∃ s', J (i + 1) s' ∧ L i s = L (i + 1) s') ∨ ∃ y, T y ∧ L i s = some y)
    (he : ∀ s, J N s → ∃ y, T y ∧ L N s = some y) {s : σ} (h0 : J 0 s) : ∃ y, T y ∧ L 0 s = some y := by
  have key : ∀ k i s, i + k = N → J i s → ∃ y, T y ∧ L i s = some y := by
    intro k
    induction k with
    | zero => intro i s hi hj; obtain rfl : i = N := by omega
              exact he s hj
    | succ k ih =>
      intro i s hi hj
      rcases hs i s (by omega) hj with ⟨s', h1, h2⟩ | h
      · rw [h2]; exact ih (i + 1) s' (by omega) h1
      · exact h
  exact key N 0 s (by omega) h0
theorem allLoop {α : Type} {L : Int → Option (Bool ⊕ Unit)} {a : List α} {f : α → Option Bool} {p : α → Bool} (hf : ∀ x ∈ a, f x = some (p x))
    (hL : ∀ x, L x = bif decide (x < len a) then (getI a x).bind fun e => (f e).bind fun r => bif !r then some (.inl false) else L (w64 (x + 1)) else some (.inr ()))
    (hb : a.length < 9223372036854775807) : L 0 = some (if a.all p then .inr () else .inl false) := by
  obtain ⟨y, h1, h2⟩ := goLoop (L := fun i (_ : Unit) => L (i : Int)) a.length (fun i _ => (a.take i).all p = true) (fun y => y = if a.all p then .inr () else .inl false) (s := ())
    (by
      intro i _ hi hj
      have hx := List.getElem?_eq_getElem hi
      rw [show L (i : Int) = _ from hL _, lt_len, decide_eq_true hi, cond_true, getI_nat, hx, Option.bind_some, hf _ (List.getElem_mem hi), Option.bind_some, w64_succ (by omega)]
      cases hp : p a[i] with
      | true =>
        refine .inl ⟨(), ?_, rfl⟩
        rw [List.take_add_one, hx, List.all_append, hj]
        simp [hp]
      | false =>
        refine .inr ⟨_, ?_, rfl⟩
        rw [if_neg]
        intro h
        rw [List.all_eq_true] at h
        rw [h _ (List.getElem_mem hi)] at hp
        cases hp)
    (by
      intro _ hj
      refine ⟨_, rfl, ?_⟩
      rw [List.take_length] at hj
      rw [show L (a.length : Int) = _ from hL _, lt_len, decide_eq_false (by omega), cond_false, if_pos hj]) (by simp)
  rw [show L 0 = some y from h2, h1]
theorem anyLoopG {ρ υ α : Type} {q : α→Bool} {y0 y1 : ρ ⊕ υ} : ∀ {a : List α} {L : Nat→Option (ρ ⊕ υ)},(∀ (i : Nat) x,a[i]?=some x→L i=bif q x then some y0 else L (i + 1))→L a.length=some y1→L 0=some (if a.any q then y0 else y1)
  | [],L,_,he=>by simpa using he
  | x :: a,L,hL,he=>by
    rw [hL 0 x rfl,anyLoopG (a:=a) (L:=fun i=>L (i + 1)) (y0:=y0) (y1:=y1) (fun i z hz=>hL (i + 1) z (by simpa using hz)) (by simpa using he),List.any_cons]
    cases q x <;> rfl
/-! conditions: the valid ones -/
def formB (c : Condition) : Bool :=
  if c.Op=1 then decide (c.Parts.length=0) && (decide (c.Name=[]) && decide (c.Day=0))
  else if c.Op=2 then decide (c.Parts.length=0) && (nameB c.Name && decide (c.Day=0))
  else if c.Op=3 then decide (c.Parts.length=0) && (decide (c.Name=[]) && inB c.Day 0 36524)
  else if c.Op=4 then decide (c.Parts.length=1) && (decide (c.Name=[]) && decide (c.Day=0))
  else if c.Op=5 ∨ c.Op=6 then decide (c.Parts.length=2) && (decide (c.Name=[]) && decide (c.Day=0))
  else false
mutual
def formsB : Condition→Bool
  | ⟨a0,a1,a2,a3⟩=>formB ⟨a0,a1,a2,a3⟩ && formsBs a3
def formsBs : List Condition→Bool
  | []=>true
  | x :: xs=>formsB x && formsBs xs
end
theorem formsBs_all : ∀ a,formsBs a=a.all formsB
  | []=>rfl
  | x :: xs=>by simp [formsBs,formsBs_all xs]
theorem formsB_eq (c : Condition) : formsB c=(formB c && c.Parts.all formsB):=by cases c; simp only [formsB,formsBs_all]
theorem len_eq0 {α : Type} {a : List α} {n : Nat} : (len a == (n : Int))=decide (a.length=n):=by
  rw [int_beq]
  by_cases h : a.length=n
  · rw [decide_eq_true h,decide_eq_true]; simp only [len]; omega
  · rw [decide_eq_false h,decide_eq_false]; simp only [len]; omega
theorem spec_form (c : Condition) (hn : c.Name.length ≤ 1048576) : Ffcb c=some (formB c):=by
  have l0 : (len c.Parts == 0)=decide (c.Parts.length=0):=len_eq0 (n:=0)
  have l1 : (len c.Parts == 1)=decide (c.Parts.length=1):=len_eq0 (n:=1)
  have l2 : (len c.Parts == 2)=decide (c.Parts.length=2):=len_eq0 (n:=2)
  unfold Ffcb formB
  simp only [letJ_eq,spec_name _ hn,Option.bind_some,Ffbz,spec_in,l0,l1,l2,str_beq,int_beq,cond_and]
  by_cases o1 : c.Op=1
  · simp only [o1,decide_true,cond_true,if_true]
  by_cases o2 : c.Op=2
  · rw [decide_eq_false o1,decide_eq_true o2,cond_false,cond_true,if_neg o1,if_pos o2]
    cases decide (c.Parts.length=0) <;> rfl
  by_cases o3 : c.Op=3
  · rw [decide_eq_false o1,decide_eq_false o2,decide_eq_true o3,cond_false,cond_false,cond_true,if_neg o1,if_neg o2,if_pos o3]
    cases decide (c.Parts.length=0) <;> cases decide (c.Name=[]) <;> rfl
  by_cases o4 : c.Op=4
  · rw [decide_eq_false o1,decide_eq_false o2,decide_eq_false o3,decide_eq_true o4,if_neg o1,if_neg o2,if_neg o3,if_pos o4]
    rfl
  rw [decide_eq_false o1,decide_eq_false o2,decide_eq_false o3,decide_eq_false o4,if_neg o1,if_neg o2,if_neg o3,if_neg o4]
  by_cases o5 : c.Op=5
  · simp only [o5,decide_true,cond_true,cond_false,true_or,if_true]
  · by_cases o6 : c.Op=6
    · rw [if_pos (.inr o6),decide_eq_false o5,decide_eq_true o6]; rfl
    · rw [if_neg (by omega),decide_eq_false o5,decide_eq_false o6]; rfl
theorem spec_forms (c : Condition) : sm_Condition c→Ffcc c=some (formsB c):=by
  refine rec_Condition (P:=fun c=>sm_Condition c→Ffcc c=some (formsB c)) ?_ c
  intro c ih hc
  rw [sm_Condition_iff] at hc
  rw [Ffcc_eq]
  unfold Ffcc_B
  rw [spec_form c hc.2.1,Option.bind_some,formsB_eq]
  cases formB c with
  | false=>rfl
  | true =>
    have hl : c.Parts.length ≤ 1048576:=hc.2.2.2.1.1
    simp only [Bool.not_true,cond_false,Bool.true_and]
    rw [allLoop (L:=Ffcc_la (fixO Ffcc_G) c) (a:=c.Parts) (f:=fun e=>Ffcc e) (p:=formsB) (fun x hx=>ih x hx (hc.2.2.2.1.2 x hx)) (fun x=>by rw [Ffcc_la_eq,Ffcc_la_F] <;> rfl) (by omega)]
    cases c.Parts.all formsB <;> rfl
theorem nc_take (a : List Condition) (i : Nat) (h : i < a.length) : nc_Conditions (a.take (i + 1))=nc_Conditions (a.take i) + nc_Condition a[i]:=by
  have app : ∀ (x y : List Condition),nc_Conditions (x ++ y)=nc_Conditions x + nc_Conditions y:=by
    intro x y
    induction x with
    | nil=>simp [nc_Conditions]
    | cons z x ih=>simp only [List.cons_append,nc_Conditions,ih]; omega
  rw [List.take_add_one,List.getElem?_eq_getElem h,app]
  simp [nc_Conditions]
theorem nc_take_le (a : List Condition) (i : Nat) : nc_Conditions (a.take i) ≤ nc_Conditions a:=by
  have app : ∀ (x y : List Condition),nc_Conditions (x ++ y)=nc_Conditions x + nc_Conditions y:=by
    intro x y
    induction x with
    | nil=>simp [nc_Conditions]
    | cons z x ih=>simp only [List.cons_append,nc_Conditions,ih]; omega
  have:=app (a.take i) (a.drop i)
  rw [List.take_append_drop] at this
  omega
theorem nc_mem {a : List Condition} {i : Nat} (h : i < a.length) : nc_Condition a[i] ≤ nc_Conditions a:=by
  have h1:=nc_take a i h
  have h2:=nc_take_le a (i + 1)
  omega
theorem spec_size (c : Condition) : nc_Condition c ≤ 2000000→Ffcl c=some ((nc_Condition c : Nat) : Int):=by
  refine rec_Condition (P:=fun c=>nc_Condition c ≤ 2000000→Ffcl c=some ((nc_Condition c : Nat) : Int)) ?_ c
  intro c ih hc
  have hc':=nc_Condition_eq c
  have hcs:=nc_Conditions_eq c.Parts
  rw [Ffcl_eq]
  unfold Ffcl_B
  obtain ⟨y,h1,h2⟩:=goLoop (L:=fun i (s : Int)=>Ffcl_la (fixO Ffcl_G) c (s,(i : Int))) c.Parts.length (fun i s=>s=((1 + nc_Conditions (c.Parts.take i) : Nat) : Int)) (fun y=>y=.inr ((nc_Condition c : Nat) : Int)) (s:=1)
    (by
      intro i s hi hj
      have hx:=List.getElem?_eq_getElem hi
      have h3:=nc_take c.Parts i hi
      have h4:=nc_take_le c.Parts (i + 1)
      refine .inl ⟨((1 + nc_Conditions (c.Parts.take (i + 1)) : Nat) : Int),rfl,?_⟩
      show Ffcl_la (fixO Ffcl_G) c (s,(i : Int))=_
      rw [Ffcl_la_eq,Ffcl_la_F]
      simp only [lt_len,decide_eq_true hi,cond_true,getI_nat,hx,Option.bind_some]
      rw [show fixO Ffcl_G c.Parts[i]=some ((nc_Condition c.Parts[i] : Nat) : Int) from ih _ (List.getElem_mem hi) (by omega),Option.bind_some,w64_succ (by omega),hj,w64_id (by omega) (by omega)]
      congr 2
      omega)
    (by
      intro s hj
      refine ⟨_,rfl,?_⟩
      rw [List.take_length] at hj
      show Ffcl_la (fixO Ffcl_G) c (s,(c.Parts.length : Int))=_
      rw [Ffcl_la_eq,Ffcl_la_F]
      simp only [lt_len,decide_eq_false (Nat.lt_irrefl _),cond_false]
      rw [hj,hc']) (by simp [nc_Conditions])
  rw [show Ffcl_la (fixO Ffcl_G) c (1,0)=some y from h2,h1]
  rfl
/-- what makes a condition valid -/
def condB (c : Condition) : Bool:=formsB c && decide (nc_Condition c ≤ 15)
theorem sm_nc {c : Condition} (h : sm_Condition c) : nc_Condition c ≤ 1048577:=by
  rw [sm_Condition_iff] at h
  rw [nc_Condition_eq]
  omega
theorem spec_cond (c : Condition) (h : sm_Condition c) : Ffcd c=some (condB c):=by
  unfold Ffcd condB
  rw [spec_forms c h,Option.bind_some]
  cases formsB c with
  | false=>rfl
  | true =>
    have:=sm_nc h
    simp only [cond_true,Bool.true_and]
    rw [spec_size c (by omega),Option.bind_some,bindJ_inr]
    congr 1
    by_cases h : nc_Condition c ≤ 15
    · rw [decide_eq_true h,decide_eq_true (by omega)]
    · rw [decide_eq_false h,decide_eq_false (by omega)]
def tabN (op : Int) : Nat:=if op=4 then 1 else if op=5 ∨ op=6 then 2 else 0
def preB (c : Condition) : Bool:=inB c.Op 1 6 && decide (c.Parts.length=tabN c.Op)
def postB (c : Condition) : Bool:=((c.Op == 2) == !(c.Name == ([] : Str))) && ((if c.Op=2 then nameB c.Name else true) && ((if c.Op=3 then true else decide (c.Day=0)) && inB c.Day 0 36524))
theorem inB_iff {x a b : Int} : inB x a b=true ↔ a ≤ x ∧ x ≤ b:=by simp [inB]
theorem impl_pre1 (c : Condition) : ((Ffm c.Op 1 6).bind fun r20=>bindL (ρ:=Int) (bif (!r20) then (some (.inr true)) else ((getI [(-1),0,0,0,1,2,2] c.Op).bind fun e22=>some (.inr ((len c.Parts) != e22)))) fun u21 : Bool=>(some (.inr u21) : Option (Int ⊕ Bool)))=some (.inr (!preB c)):=by
  rw [impl_in,Option.bind_some]
  unfold preB
  cases h : inB c.Op 1 6 with
  | false=>rfl
  | true =>
    rw [inB_iff] at h
    have ho : c.Op=1 ∨ c.Op=2 ∨ c.Op=3 ∨ c.Op=4 ∨ c.Op=5 ∨ c.Op=6:=by omega
    have key : getI [(-1),0,0,0,1,2,2] c.Op=some ((tabN c.Op : Nat) : Int):=by rcases ho with h | h | h | h | h | h <;> rw [h] <;> rfl
    simp only [Bool.not_true,cond_false,key,Option.bind_some,bindL_inr,Bool.true_and,bne,len_eq0]
theorem impl_pre2 (c : Condition) (hn : c.Name.length ≤ 1048576) : (bif (!((c.Op == 2) == (!(c.Name == ([] : Str))))) then (some (.inr true)) else (bindL (ρ:=Int) (bif (c.Op == 2) then ((Ffe c.Name).bind fun r10=>bindL (ρ:=Int) (bif (!r10) then (some (.inr true)) else (bindL (ρ:=Int) (bif (c.Op != 3) then (bindL (ρ:=Int) (bif (c.Day != 0) then (some (.inr true)) else ((Ffj c.Day).bind fun r14=>some (.inr (!r14)))) fun u13 : Bool=>some (.inr u13)) else ((Ffj c.Day).bind fun r15=>some (.inr (!r15)))) fun u12 : Bool=>some (.inr u12))) fun u11 : Bool=>some (.inr u11)) else (bindL (ρ:=Int) (bif (c.Op != 3) then (bindL (ρ:=Int) (bif (c.Day != 0) then (some (.inr true)) else ((Ffj c.Day).bind fun r18=>some (.inr (!r18)))) fun u17 : Bool=>some (.inr u17)) else ((Ffj c.Day).bind fun r19=>some (.inr (!r19)))) fun u16 : Bool=>some (.inr u16))) fun u9 : Bool=>(some (.inr u9) : Option (Int ⊕ Bool))))=some (.inr (!postB c)):=by
  unfold postB
  simp only [impl_name _ hn,Ffj,impl_in,Option.bind_some,int_bne]
  cases ((c.Op == 2) == !(c.Name == ([] : Str))) with
  | false=>rfl
  | true =>
    simp only [Bool.not_true,cond_false,Bool.true_and]
    by_cases o2 : c.Op=2
    · simp only [o2,if_true,show ((2 : Int) == 2)=true from rfl,cond_true,show ¬ (2 : Int)=3 by omega,if_false,decide_false,Bool.not_false]
      cases nameB c.Name <;> by_cases hd : c.Day=0 <;> simp [hd]
    · have : (c.Op == 2)=false:=beq_eq_false_iff_ne.2 o2
      rw [this,cond_false,if_neg o2]
      by_cases o3 : c.Op=3
      · simp [o3]
      · by_cases hd : c.Day=0 <;> simp [o3,hd]
theorem form_split (c : Condition) : formB c=(preB c && postB c):=by
  have name0 : c.Name=[]→nameB c.Name=false:=fun h=>by rw [h]; rfl
  have d0 : c.Day=0→inB c.Day 0 36524=true:=fun h=>by rw [h]; rfl
  have in1 : inB c.Op 1 6=decide (1 ≤ c.Op ∧ c.Op ≤ 6):=by rw [Bool.eq_iff_iff,inB_iff,decide_eq_true_iff]
  unfold formB preB postB
  rw [in1,show tabN c.Op=if c.Op=4 then 1 else if c.Op=5 ∨ c.Op=6 then 2 else 0 from rfl]
  by_cases hn : c.Name=[]
  · by_cases hd : c.Day=0
    · by_cases o1 : c.Op=1
      · simp [o1,hn,hd,inB]
      by_cases o2 : c.Op=2
      · simp [o2,hn,hd,nameB]
      by_cases o3 : c.Op=3
      · simp [o3,hn,hd,inB]
      by_cases o4 : c.Op=4
      · simp [o4,hn,hd,inB]
      by_cases o5 : c.Op=5
      · simp [o5,hn,hd,inB]
      by_cases o6 : c.Op=6
      · simp [o6,hn,hd,inB]
      have : ¬ (1 ≤ c.Op ∧ c.Op ≤ 6):=by omega
      simp [o1,o2,o3,o4,o5,o6,decide_eq_false this]
    · by_cases o3 : c.Op=3
      · simp [o3,hn]
      · by_cases o2 : c.Op=2 <;> simp [o2,o3,hd]
  · have hb : (c.Name == ([] : Str))=false:=beq_eq_false_iff_ne.2 hn
    by_cases o2 : c.Op=2
    · by_cases hd : c.Day=0 <;> simp [o2,hn,hd,inB,hb]
    · simp [o2,hn,hb]
theorem impl_count (c : Condition) : sm_Condition c→∀ so : Nat,so ≤ 15→Ffh c (so : Int)=some (if formsB c=true ∧ so + nc_Condition c ≤ 15 then ((so + nc_Condition c : Nat) : Int) else -1):=by
  refine rec_Condition (P:=fun c=>sm_Condition c→∀ so : Nat,so ≤ 15→Ffh c (so : Int)=some (if formsB c=true ∧ so + nc_Condition c ≤ 15 then ((so + nc_Condition c : Nat) : Int) else -1)) ?_ c
  intro c ih hc so hso
  rw [sm_Condition_iff] at hc
  have hnc:=nc_Condition_eq c
  rw [Ffh_eq]
  unfold Ffh_B
  rw [impl_pre1,impl_pre2 c hc.2.1,w64_succ (by omega),formsB_eq,form_split]
  by_cases h15 : so + 1 ≤ 15
  · rw [decide_eq_false (by omega),cond_false]
    cases preB c with
    | false=>rfl
    | true =>
    cases postB c with
    | false=>rfl
    | true =>
      simp only [Bool.not_true,bindJ_inr,cond_false,Bool.true_and]
      obtain ⟨y,h1,h2⟩:=goLoop (L:=fun i (s : Int)=>Ffh_la (fixO Ffh_G) c (so : Int) (s,(i : Int))) c.Parts.length
        (fun i s=>s=((so + 1 + nc_Conditions (c.Parts.take i) : Nat) : Int) ∧ so + 1 + nc_Conditions (c.Parts.take i) ≤ 15 ∧ (c.Parts.take i).all formsB=true)
        (fun y=>y=if c.Parts.all formsB=true ∧ so + nc_Condition c ≤ 15 then .inr ((so + nc_Condition c : Nat) : Int) else .inl (-1)) (s:=((so + 1 : Nat) : Int))
        (by
          rintro i s hi ⟨hj,hj2,hj3⟩
          have hx:=List.getElem?_eq_getElem hi
          have h3:=nc_take c.Parts i hi
          have h4:=nc_take_le c.Parts (i + 1)
          have h5:=ih _ (List.getElem_mem hi) (hc.2.2.2.1.2 _ (List.getElem_mem hi)) (so + 1 + nc_Conditions (c.Parts.take i)) hj2
          show (∃ s',_ ∧ Ffh_la (fixO Ffh_G) c (so : Int) (s,(i : Int))=_) ∨ ∃ y,_ ∧ Ffh_la (fixO Ffh_G) c (so : Int) (s,(i : Int))=_
          rw [Ffh_la_eq,Ffh_la_F]
          simp only [lt_len,decide_eq_true hi,cond_true,getI_nat,hx,Option.bind_some,hj]
          rw [show fixO Ffh_G (c.Parts[i],((so + 1 + nc_Conditions (c.Parts.take i) : Nat) : Int))=_ from h5,Option.bind_some,w64_succ (by have:=hc.2.2.2.1.1; omega)]
          by_cases hq : formsB c.Parts[i]=true ∧ so + 1 + nc_Conditions (c.Parts.take i) + nc_Condition c.Parts[i] ≤ 15
          · rw [if_pos hq,decide_eq_false (by omega),cond_false]
            refine .inl ⟨_,⟨?_,?_,?_⟩,rfl⟩
            · congr 1; omega
            · omega
            · rw [List.take_add_one,hx,List.all_append,hj3]; simp [hq.1]
          · rw [if_neg hq,decide_eq_true (by omega),cond_true]
            refine .inr ⟨_,?_,rfl⟩
            rw [if_neg]
            rintro ⟨h6,h7⟩
            rw [List.all_eq_true] at h6
            exact hq ⟨h6 _ (List.getElem_mem hi),by omega⟩)
        (by
          rintro s ⟨hj,hj2,hj3⟩
          rw [List.take_length] at *
          show ∃ y,_ ∧ Ffh_la (fixO Ffh_G) c (so : Int) (s,(c.Parts.length : Int))=_
          rw [Ffh_la_eq,Ffh_la_F]
          simp only [lt_len,decide_eq_false (Nat.lt_irrefl _),cond_false]
          refine ⟨_,?_,rfl⟩
          rw [if_pos ⟨hj3,by omega⟩,hj]
          congr 2; omega) ⟨by simp [nc_Conditions],by simp [nc_Conditions]; omega,by simp⟩
      rw [show Ffh_la (fixO Ffh_G) c (so : Int) (((so + 1 : Nat) : Int),0)=some y from h2,h1]
      by_cases hq : c.Parts.all formsB=true ∧ so + nc_Condition c ≤ 15
      · rw [if_pos hq,if_pos hq]; rfl
      · rw [if_neg hq,if_neg hq]; rfl
  · rw [decide_eq_true (by omega),cond_true,bindJ_inr,cond_true,if_neg (by omega)]
theorem impl_cond (c : Condition) (h : sm_Condition c) : Ffd c=some (condB c):=by
  unfold Ffd condB
  rw [show (0 : Int)=((0 : Nat) : Int) from rfl,impl_count c h 0 (by omega),Option.bind_some]
  have:=nc_Condition_eq c
  congr 1
  cases formsB c with
  | false=>rfl
  | true =>
    by_cases h : nc_Condition c ≤ 15
    · rw [if_pos ⟨rfl,by omega⟩,decide_eq_true (by omega),decide_eq_true h]; rfl
    · rw [if_neg (by omega),decide_eq_false h]; rfl
/-! put into a sorted list -/
theorem put_loop (l : List Int) (n : Int) (m : Nat) (hm : m ≤ l.length) (hl : l.length ≤ 1048576) (h1 : ∀ (j : Nat) x,j < m→l[j]?=some x→x < n) (h2 : ∀ x,l[m]?=some x→¬ x < n) : ∀ (k j : Nat),j + k=m→Ffby_la l n (j : Int)=some (.inr (n,(m : Int),l))
  | 0,j,hj=>by
    obtain rfl : j=m:=by omega
    rw [Ffby_la_eq,Ffby_la_F,lt_len]
    by_cases h : j < l.length
    · rw [decide_eq_true h,cond_true,getI_nat,List.getElem?_eq_getElem h,Option.bind_some,bindL_inr,decide_eq_false (h2 _ (List.getElem?_eq_getElem h)),cond_false]
    · rw [decide_eq_false h,cond_false,bindL_inr,cond_false]
  | k + 1,j,hj=>by
    have h : j < l.length:=by omega
    rw [Ffby_la_eq,Ffby_la_F,lt_len,decide_eq_true h,cond_true,getI_nat,List.getElem?_eq_getElem h,Option.bind_some,bindL_inr,decide_eq_true (h1 j _ (by omega) (List.getElem?_eq_getElem h)),cond_true,w64_succ (by omega)]
    exact put_loop l n m hm hl h1 h2 k (j + 1) (by omega)
/-! a number put into a list -/
theorem appI_two {b : Nat} {xs ys : List Int} (h : (xs.length + ys.length) * b ≤ 1099511627776) (h2 : xs.length + ys.length ≤ 1099511627776) : appI b xs ys=some (xs ++ ys):=by
  unfold appI
  rw [if_pos]
  simp only [lim]
  omega
/-- A number put into a strictly ascending list. -/
theorem put_val (l : List Int) (n : Int) (hl : l.length ≤ 1000000) (hs : l.Pairwise (· < ·)) : ∃ r,Ffby l n=some r ∧ r.Pairwise (· < ·) ∧ (∀ x,x ∈ r ↔ x ∈ l ∨ x=n) ∧ r.length ≤ l.length + 1:=by
  have key : ∃ m,m ≤ l.length ∧ (∀ (j : Nat) x,j < m→l[j]?=some x→x < n) ∧ (∀ x,l[m]?=some x→¬ x < n):=by
    clear hl
    induction l with
    | nil=>exact ⟨0,by simp,fun j x hj=>by omega,fun x hx=>by simp at hx⟩
    | cons y l ih =>
      by_cases hy : y < n
      · obtain ⟨m,h1,h2,h3⟩:=ih (List.pairwise_cons.1 hs).2
        refine ⟨m + 1,by simp; omega,fun j x hj hx=>?_,fun x hx=>h3 x (by simpa using hx)⟩
        cases j with
        | zero=>simp at hx; omega
        | succ j=>exact h2 j x (by omega) (by simpa using hx)
      · exact ⟨0,by simp,fun j x hj=>by omega,fun x hx=>by simp at hx; omega⟩
  obtain ⟨m,hm,h1,h2⟩:=key
  have hlow : ∀ x ∈ l.take m,x < n:=by
    intro x hx
    obtain ⟨i,hi,rfl⟩:=List.mem_iff_getElem.1 hx
    rw [List.length_take] at hi
    rw [List.getElem_take]
    exact h1 i _ (by omega) (List.getElem?_eq_getElem (by omega))
  have hloop:=put_loop l n m hm (by omega) h1 h2 m 0 (by omega)
  rw [show ((0 : Nat) : Int)=0 from rfl] at hloop
  unfold Ffby
  rw [hloop]
  simp only [bindJ_inr,lt_len]
  have s1 : subP l.length 0 (m : Int)=some ():=by unfold subP; rw [if_pos (by omega)]
  have s2 : subP l.length (m : Int) (len l)=some ():=by unfold subP; rw [if_pos (by simp only [len]; omega)]
  have p1 : partP l (0 + Int.toNat 0) (Int.toNat (m : Int) - Int.toNat 0)=some (l.take m):=by
    unfold partP
    simp only [Int.toNat_zero,Int.toNat_natCast,Nat.zero_add,Nat.sub_zero,List.drop_zero]
    rw [if_pos hm]
  have p2 : partP l (0 + Int.toNat (m : Int)) (Int.toNat (len l) - Int.toNat (m : Int))=some (l.drop m):=by
    unfold partP
    simp only [Int.toNat_natCast,Nat.zero_add,len]
    rw [if_pos (by omega),List.take_of_length_le (by rw [List.length_drop]; omega)]
  have a1 : appI 8 ([] : List Int) (l.take m)=some (l.take m):=by rw [appI_two (by simp only [List.length_nil,List.length_take]; omega) (by simp only [List.length_nil,List.length_take]; omega)]; rfl
  have a2 : appI 8 (l.take m) [n]=some (l.take m ++ [n]):=appI_one (by rw [List.length_take]; omega) (by rw [List.length_take]; omega)
  have a3 : appI 8 (l.take m ++ [n]) (l.drop m)=some (l.take m ++ [n] ++ l.drop m):=appI_two (by simp only [List.length_append,List.length_take,List.length_drop,List.length_singleton]; omega) (by simp only [List.length_append,List.length_take,List.length_drop,List.length_singleton]; omega)
  have hins : (∀ x ∈ l.drop m,n < x)→(l.take m ++ [n] ++ l.drop m).Pairwise (· < ·) ∧ (∀ x,x ∈ l.take m ++ [n] ++ l.drop m ↔ x ∈ l ∨ x=n) ∧ (l.take m ++ [n] ++ l.drop m).length ≤ l.length + 1:=by
    intro hhi
    have hs2:=hs
    rw [← List.take_append_drop m l,List.pairwise_append] at hs2
    refine ⟨List.pairwise_append.2 ⟨List.pairwise_append.2 ⟨hs2.1,List.pairwise_singleton _ _,fun x hx y hy=>?_⟩,hs2.2.1,fun x hx y hy=>?_⟩,fun x=>?_,?_⟩
    · rw [List.mem_singleton] at hy; subst hy; exact hlow x hx
    · rcases List.mem_append.1 hx with hx | hx
      · exact hs2.2.2 x hx y hy
      · rw [List.mem_singleton] at hx; subst hx; exact hhi y hy
    · have : x ∈ l ↔ x ∈ l.take m ∨ x ∈ l.drop m:=by
        rw [← List.mem_append,List.take_append_drop]
      rw [List.mem_append,List.mem_append,List.mem_singleton,this]
      constructor
      · rintro ((h | h) | h)
        · exact .inl (.inl h)
        · exact .inr h
        · exact .inl (.inr h)
      · rintro ((h | h) | h)
        · exact .inl (.inl h)
        · exact .inr h
        · exact .inl (.inr h)
    · simp only [List.length_append,List.length_take,List.length_drop,List.length_singleton]; omega
  by_cases hb : m < l.length
  · have hx:=List.getElem?_eq_getElem hb
    have hge:=h2 _ hx
    have hrest : ∀ x ∈ l.drop (m + 1),l[m] < x:=by
      intro x hx
      obtain ⟨i,hi,rfl⟩:=List.mem_iff_getElem.1 hx
      rw [List.length_drop] at hi
      rw [List.getElem_drop]
      exact List.pairwise_iff_getElem.1 hs m (m + 1 + i) hb (by omega) (by omega)
    rw [decide_eq_true hb,cond_true,getI_nat,hx,Option.bind_some,bindJ_inr,int_beq]
    by_cases he : l[m]=n
    · rw [decide_eq_true he,cond_true]
      refine ⟨l,rfl,hs,fun x=>⟨.inl,?_⟩,by omega⟩
      rintro (h | h)
      · exact h
      · rw [h,← he]; exact List.getElem_mem hb
    · rw [decide_eq_false he,cond_false]
      simp only [s1,p1,a1,a2,s2,p2,a3,Option.bind_some]
      refine ⟨_,rfl,hins ?_⟩
      intro x hx
      rw [List.drop_eq_getElem_cons hb] at hx
      rcases List.mem_cons.1 hx with rfl | hx
      · omega
      · have:=hrest x hx; omega
  · rw [decide_eq_false hb,cond_false,bindJ_inr,cond_false]
    simp only [s1,p1,a1,a2,s2,p2,a3,Option.bind_some]
    refine ⟨_,rfl,hins ?_⟩
    intro x hx
    rw [List.drop_of_length_le (by omega)] at hx
    cases hx
/-! conditions: their names and days -/
mutual
def namesC : Condition→List Str
  | ⟨op,name,_,parts⟩=>(if op=2 then [name] else []) ++ namesCs parts
def namesCs : List Condition→List Str
  | []=>[]
  | x :: xs=>namesC x ++ namesCs xs
end
mutual
def daysC : Condition→List Int
  | ⟨op,_,day,parts⟩=>(if op=3 then [day] else []) ++ daysCs parts
def daysCs : List Condition→List Int
  | []=>[]
  | x :: xs=>daysC x ++ daysCs xs
end
theorem namesC_eq (c : Condition) : namesC c=(if c.Op=2 then [c.Name] else []) ++ namesCs c.Parts:=by cases c; simp only [namesC]
theorem daysC_eq (c : Condition) : daysC c=(if c.Op=3 then [c.Day] else []) ++ daysCs c.Parts:=by cases c; simp only [daysC]
theorem namesCs_app : ∀ (a b : List Condition),namesCs (a ++ b)=namesCs a ++ namesCs b
  | [],b=>rfl
  | x :: a,b=>by simp only [List.cons_append,namesCs,namesCs_app a b,List.append_assoc]
theorem daysCs_app : ∀ (a b : List Condition),daysCs (a ++ b)=daysCs a ++ daysCs b
  | [],b=>rfl
  | x :: a,b=>by simp only [List.cons_append,daysCs,daysCs_app a b,List.append_assoc]
theorem namesCs_take (a : List Condition) (i : Nat) (h : i < a.length) : namesCs (a.take (i + 1))=namesCs (a.take i) ++ namesC a[i]:=by
  rw [List.take_add_one,List.getElem?_eq_getElem h,namesCs_app]
  simp [namesCs]
theorem daysCs_take (a : List Condition) (i : Nat) (h : i < a.length) : daysCs (a.take (i + 1))=daysCs (a.take i) ++ daysC a[i]:=by
  rw [List.take_add_one,List.getElem?_eq_getElem h,daysCs_app]
  simp [daysCs]
mutual
theorem namesC_len : ∀ c,(namesC c).length ≤ nc_Condition c
  | ⟨op,name,day,parts⟩=>by
    have:=namesCs_len parts
    simp only [namesC,nc_Condition,List.length_append]
    split <;> simp <;> omega
theorem namesCs_len : ∀ a,(namesCs a).length ≤ nc_Conditions a
  | []=>by simp [namesCs]
  | x :: a=>by
    have h1:=namesC_len x
    have h2:=namesCs_len a
    simp only [namesCs,nc_Conditions,List.length_append]
    omega
end
mutual
theorem daysC_len : ∀ c,(daysC c).length ≤ nc_Condition c
  | ⟨op,name,day,parts⟩=>by
    have:=daysCs_len parts
    simp only [daysC,nc_Condition,List.length_append]
    split <;> simp <;> omega
theorem daysCs_len : ∀ a,(daysCs a).length ≤ nc_Conditions a
  | []=>by simp [daysCs]
  | x :: a=>by
    have h1:=daysC_len x
    have h2:=daysCs_len a
    simp only [daysCs,nc_Conditions,List.length_append]
    omega
end
theorem impl_names (c : Condition) : ∀ l : List Str,l.length + nc_Condition c ≤ 1000000→Ffg c l=some (l ++ namesC c):=by
  refine rec_Condition (P:=fun c=>∀ l : List Str,l.length + nc_Condition c ≤ 1000000→Ffg c l=some (l ++ namesC c)) ?_ c
  intro c ih l hl
  have hnc:=nc_Condition_eq c
  have hpl:=nc_Conditions_eq c.Parts
  rw [Ffg_eq]
  unfold Ffg_B
  have h0 : (bif (c.Op == 2) then ((appI 16 l [c.Name]).bind fun a8=>some (.inr a8)) else (some (.inr l)) : Option (List Str ⊕ List Str))=some (.inr (l ++ if c.Op=2 then [c.Name] else [])):=by
    rw [int_beq]
    by_cases h : c.Op=2
    · rw [decide_eq_true h,cond_true,appI_one (by omega) (by omega),if_pos h]; rfl
    · rw [decide_eq_false h,cond_false,if_neg h,List.append_nil]
  rw [h0,bindJ_inr]
  have hlen : (l ++ if c.Op=2 then [c.Name] else []).length ≤ l.length + 1:=by
    rw [List.length_append]; split <;> simp
  rw [namesC_eq,← List.append_assoc]
  generalize (l ++ if c.Op=2 then [c.Name] else [])=l1 at hlen ⊢
  obtain ⟨y,h1,h2⟩:=goLoop (L:=fun i (s : List Str)=>Ffg_la (fixO Ffg_G) c l ((i : Int),s)) c.Parts.length (fun i s=>s=l1 ++ namesCs (c.Parts.take i)) (fun y=>y=.inr (l1 ++ namesCs c.Parts)) (s:=l1)
    (by
      intro i s hi hj
      have hx:=List.getElem?_eq_getElem hi
      have h3:=nc_take c.Parts i hi
      have h4:=nc_take_le c.Parts (i + 1)
      have h5:=namesCs_len (c.Parts.take i)
      refine .inl ⟨l1 ++ namesCs (c.Parts.take (i + 1)),rfl,?_⟩
      show Ffg_la (fixO Ffg_G) c l ((i : Int),s)=_
      rw [Ffg_la_eq,Ffg_la_F]
      simp only [lt_len,decide_eq_true hi,cond_true,getI_nat,hx,Option.bind_some]
      rw [show fixO Ffg_G (c.Parts[i],s)=_ from ih _ (List.getElem_mem hi) s (by rw [hj,List.length_append]; omega),Option.bind_some,w64_succ (by omega),hj,namesCs_take _ _ hi,List.append_assoc])
    (by
      intro s hj
      refine ⟨_,rfl,?_⟩
      rw [List.take_length] at hj
      show Ffg_la (fixO Ffg_G) c l ((c.Parts.length : Int),s)=_
      rw [Ffg_la_eq,Ffg_la_F]
      simp only [lt_len,decide_eq_false (Nat.lt_irrefl _),cond_false]
      rw [hj]) (by simp [namesCs])
  rw [show Ffg_la (fixO Ffg_G) c l (0,l1)=some y from h2,h1]
  rfl
theorem impl_days (c : Condition) : ∀ l : List Int,l.length + nc_Condition c ≤ 1000000→Fff c l=some (l ++ daysC c):=by
  refine rec_Condition (P:=fun c=>∀ l : List Int,l.length + nc_Condition c ≤ 1000000→Fff c l=some (l ++ daysC c)) ?_ c
  intro c ih l hl
  have hnc:=nc_Condition_eq c
  have hpl:=nc_Conditions_eq c.Parts
  rw [Fff_eq]
  unfold Fff_B
  have h0 : (bif (c.Op == 3) then ((appI 8 l [c.Day]).bind fun a8=>some (.inr a8)) else (some (.inr l)) : Option (List Int ⊕ List Int))=some (.inr (l ++ if c.Op=3 then [c.Day] else [])):=by
    rw [int_beq]
    by_cases h : c.Op=3
    · rw [decide_eq_true h,cond_true,appI_one (by omega) (by omega),if_pos h]; rfl
    · rw [decide_eq_false h,cond_false,if_neg h,List.append_nil]
  rw [h0,bindJ_inr]
  have hlen : (l ++ if c.Op=3 then [c.Day] else []).length ≤ l.length + 1:=by
    rw [List.length_append]; split <;> simp
  rw [daysC_eq,← List.append_assoc]
  generalize (l ++ if c.Op=3 then [c.Day] else [])=l1 at hlen ⊢
  obtain ⟨y,h1,h2⟩:=goLoop (L:=fun i (s : List Int)=>Fff_la (fixO Fff_G) c l ((i : Int),s)) c.Parts.length (fun i s=>s=l1 ++ daysCs (c.Parts.take i)) (fun y=>y=.inr (l1 ++ daysCs c.Parts)) (s:=l1)
    (by
      intro i s hi hj
      have hx:=List.getElem?_eq_getElem hi
      have h3:=nc_take c.Parts i hi
      have h4:=nc_take_le c.Parts (i + 1)
      have h5:=daysCs_len (c.Parts.take i)
      refine .inl ⟨l1 ++ daysCs (c.Parts.take (i + 1)),rfl,?_⟩
      show Fff_la (fixO Fff_G) c l ((i : Int),s)=_
      rw [Fff_la_eq,Fff_la_F]
      simp only [lt_len,decide_eq_true hi,cond_true,getI_nat,hx,Option.bind_some]
      rw [show fixO Fff_G (c.Parts[i],s)=_ from ih _ (List.getElem_mem hi) s (by rw [hj,List.length_append]; omega),Option.bind_some,w64_succ (by omega),hj,daysCs_take _ _ hi,List.append_assoc])
    (by
      intro s hj
      refine ⟨_,rfl,?_⟩
      rw [List.take_length] at hj
      show Fff_la (fixO Fff_G) c l ((c.Parts.length : Int),s)=_
      rw [Fff_la_eq,Fff_la_F]
      simp only [lt_len,decide_eq_false (Nat.lt_irrefl _),cond_false]
      rw [hj]) (by simp [daysCs])
  rw [show Fff_la (fixO Fff_G) c l (0,l1)=some y from h2,h1]
  rfl
/-- in a valid condition a fact and a day have no parts -/
theorem form_parts {c : Condition} (h : formB c=true) (ho : c.Op=2 ∨ c.Op=3) : c.Parts=[]:=by
  rw [form_split,preB,tabN] at h
  rw [Bool.and_eq_true,Bool.and_eq_true,decide_eq_true_iff] at h
  have:=h.1.2
  rw [if_neg (by omega),if_neg (by omega)] at this
  exact List.length_eq_zero_iff.1 this
theorem spec_names (c : Condition) : formsB c=true→∀ l : List Str,l.length + nc_Condition c ≤ 1000000→l.Pairwise StrL.Lt→∃ r,Ffci l c=some r ∧ r.Pairwise StrL.Lt ∧ (∀ x,x ∈ r ↔ x ∈ l ∨ x ∈ namesC c) ∧ r.length ≤ l.length + nc_Condition c:=by
  refine rec_Condition (P:=fun c=>formsB c=true→∀ l : List Str,l.length + nc_Condition c ≤ 1000000→l.Pairwise StrL.Lt→∃ r,Ffci l c=some r ∧ r.Pairwise StrL.Lt ∧ (∀ x,x ∈ r ↔ x ∈ l ∨ x ∈ namesC c) ∧ r.length ≤ l.length + nc_Condition c) ?_ c
  intro c ih hf l hl hs
  have hnc:=nc_Condition_eq c
  have hpl:=nc_Conditions_eq c.Parts
  rw [formsB_eq,Bool.and_eq_true,List.all_eq_true] at hf
  rw [Ffci_eq]
  unfold Ffci_B
  rw [int_beq,namesC_eq]
  by_cases ho : c.Op=2
  · obtain ⟨r,e,r1,r2,r3⟩:=StrL.put_val l c.Name (by omega) hs
    rw [decide_eq_true ho,cond_true,e,if_pos ho,form_parts hf.1 (.inl ho)]
    exact ⟨r,rfl,r1,fun x=>by rw [r2]; simp [namesCs],by omega⟩
  rw [decide_eq_false ho,cond_false,if_neg ho,List.nil_append]
  obtain ⟨y,h1,h2⟩:=goLoop (L:=fun i (s : List Str)=>Ffci_la (fixO Ffci_G) l c ((i : Int),s)) c.Parts.length
    (fun i s=>s.Pairwise StrL.Lt ∧ (∀ x,x ∈ s ↔ x ∈ l ∨ x ∈ namesCs (c.Parts.take i)) ∧ s.length ≤ l.length + nc_Conditions (c.Parts.take i))
    (fun y=>∃ r,y=.inr r ∧ r.Pairwise StrL.Lt ∧ (∀ x,x ∈ r ↔ x ∈ l ∨ x ∈ namesCs c.Parts) ∧ r.length ≤ l.length + nc_Condition c) (s:=l)
    (by
      rintro i s hi ⟨j1,j2,j3⟩
      have hx:=List.getElem?_eq_getElem hi
      have h3:=nc_take c.Parts i hi
      have h4:=nc_take_le c.Parts (i + 1)
      obtain ⟨r,e,r1,r2,r3⟩:=ih _ (List.getElem_mem hi) (hf.2 _ (List.getElem_mem hi)) s (by omega) j1
      refine .inl ⟨r,⟨r1,fun x=>?_,by omega⟩,?_⟩
      · rw [r2,j2,namesCs_take _ _ hi,List.mem_append,or_assoc]
      show Ffci_la (fixO Ffci_G) l c ((i : Int),s)=_
      rw [Ffci_la_eq,Ffci_la_F]
      simp only [lt_len,decide_eq_true hi,cond_true,getI_nat,hx,Option.bind_some]
      rw [show fixO Ffci_G (s,c.Parts[i])=_ from e,Option.bind_some,w64_succ (by omega)])
    (by
      rintro s ⟨j1,j2,j3⟩
      rw [List.take_length] at *
      refine ⟨.inr s,⟨s,rfl,j1,j2,by omega⟩,?_⟩
      show Ffci_la (fixO Ffci_G) l c ((c.Parts.length : Int),s)=_
      rw [Ffci_la_eq,Ffci_la_F]
      simp only [lt_len,decide_eq_false (Nat.lt_irrefl _),cond_false]) ⟨hs,fun x=>by simp [namesCs],by simp [nc_Conditions]⟩
  obtain ⟨r,rfl,hr⟩:=h1
  rw [show Ffci_la (fixO Ffci_G) l c (0,l)=some (.inr r) from h2]
  exact ⟨r,rfl,hr⟩
theorem spec_days (c : Condition) : formsB c=true→∀ l : List Int,l.length + nc_Condition c ≤ 1000000→l.Pairwise (· < ·)→∃ r,Ffca l c=some r ∧ r.Pairwise (· < ·) ∧ (∀ x,x ∈ r ↔ x ∈ l ∨ x ∈ daysC c) ∧ r.length ≤ l.length + nc_Condition c:=by
  refine rec_Condition (P:=fun c=>formsB c=true→∀ l : List Int,l.length + nc_Condition c ≤ 1000000→l.Pairwise (· < ·)→∃ r,Ffca l c=some r ∧ r.Pairwise (· < ·) ∧ (∀ x,x ∈ r ↔ x ∈ l ∨ x ∈ daysC c) ∧ r.length ≤ l.length + nc_Condition c) ?_ c
  intro c ih hf l hl hs
  have hnc:=nc_Condition_eq c
  have hpl:=nc_Conditions_eq c.Parts
  rw [formsB_eq,Bool.and_eq_true,List.all_eq_true] at hf
  rw [Ffca_eq]
  unfold Ffca_B
  rw [int_beq,daysC_eq]
  by_cases ho : c.Op=3
  · obtain ⟨r,e,r1,r2,r3⟩:=put_val l c.Day (by omega) hs
    rw [decide_eq_true ho,cond_true,e,if_pos ho,form_parts hf.1 (.inr ho)]
    exact ⟨r,rfl,r1,fun x=>by rw [r2]; simp [daysCs],by omega⟩
  rw [decide_eq_false ho,cond_false,if_neg ho,List.nil_append]
  obtain ⟨y,h1,h2⟩:=goLoop (L:=fun i (s : List Int)=>Ffca_la (fixO Ffca_G) l c ((i : Int),s)) c.Parts.length
    (fun i s=>s.Pairwise (· < ·) ∧ (∀ x,x ∈ s ↔ x ∈ l ∨ x ∈ daysCs (c.Parts.take i)) ∧ s.length ≤ l.length + nc_Conditions (c.Parts.take i))
    (fun y=>∃ r,y=.inr r ∧ r.Pairwise (· < ·) ∧ (∀ x,x ∈ r ↔ x ∈ l ∨ x ∈ daysCs c.Parts) ∧ r.length ≤ l.length + nc_Condition c) (s:=l)
    (by
      rintro i s hi ⟨j1,j2,j3⟩
      have hx:=List.getElem?_eq_getElem hi
      have h3:=nc_take c.Parts i hi
      have h4:=nc_take_le c.Parts (i + 1)
      obtain ⟨r,e,r1,r2,r3⟩:=ih _ (List.getElem_mem hi) (hf.2 _ (List.getElem_mem hi)) s (by omega) j1
      refine .inl ⟨r,⟨r1,fun x=>?_,by omega⟩,?_⟩
      · rw [r2,j2,daysCs_take _ _ hi,List.mem_append,or_assoc]
      show Ffca_la (fixO Ffca_G) l c ((i : Int),s)=_
      rw [Ffca_la_eq,Ffca_la_F]
      simp only [lt_len,decide_eq_true hi,cond_true,getI_nat,hx,Option.bind_some]
      rw [show fixO Ffca_G (s,c.Parts[i])=_ from e,Option.bind_some,w64_succ (by omega)])
    (by
      rintro s ⟨j1,j2,j3⟩
      rw [List.take_length] at *
      refine ⟨.inr s,⟨s,rfl,j1,j2,by omega⟩,?_⟩
      show Ffca_la (fixO Ffca_G) l c ((c.Parts.length : Int),s)=_
      rw [Ffca_la_eq,Ffca_la_F]
      simp only [lt_len,decide_eq_false (Nat.lt_irrefl _),cond_false]) ⟨hs,fun x=>by simp [daysCs],by simp [nc_Conditions]⟩
  obtain ⟨r,rfl,hr⟩:=h1
  rw [show Ffca_la (fixO Ffca_G) l c (0,l)=some (.inr r) from h2]
  exact ⟨r,rfl,hr⟩
/-- both sorted lists of names are one -/
theorem Ffk_val (l r : List Str) (hl : l.length ≤ 1048576) (hr : r.Pairwise StrL.Lt) (hm : ∀ x,x ∈ r ↔ x ∈ l) : Ffk l=some r:=by
  unfold Ffk
  have hl2 : (l.mergeSort fun x y=>!PqS.ltE y x).length=l.length:=(List.mergeSort_perm l _).length_eq
  rw [StrL.str_sort l hl,Option.bind_some,hl2,Nat.beq_refl,cond_true,StrL.compact_val _ (by omega),Option.bind_some]
  obtain ⟨h1,h2⟩:=StrL.dd_ok (StrL.sort_pw l)
  congr 1
  refine StrL.asc_uniq h1 hr fun x=>?_
  rw [h2,hm]
  exact (List.mergeSort_perm l _).mem_iff
/-! conditions: their values -/
theorem contains_val (a : List Str) (s : Str) (ha : a.length ≤ 1048576) : Ffbd a s=some (a.contains s):=by
  unfold Ffbd Ffbe
  rw [idxLoop (L:=Ffbe_la a s) (a:=a) (p:=fun e=>some (s == e)) (q:=fun e=>s == e) (fun _ _=>rfl) (fun x=>by rw [Ffbe_la_eq,Ffbe_la_F] <;> rfl) (by omega)]
  cases h : a.findIdx? (fun e=>s == e) with
  | none =>
    have : a.contains s=false:=by
      rw [List.findIdx?_eq_none_iff] at h
      rw [Bool.eq_false_iff]
      intro hc
      rw [List.contains_iff_exists_mem_beq] at hc
      obtain ⟨w,hw,he⟩:=hc
      rw [h w hw] at he
      cases he
    rw [this]
    rfl
  | some i =>
    have : a.contains s=true:=by
      rw [List.findIdx?_eq_some_iff_getElem] at h
      obtain ⟨hi,he,_⟩:=h
      rw [List.contains_iff_exists_mem_beq]
      exact ⟨_,List.getElem_mem hi,he⟩
    rw [this]
    simp
theorem has_val (a : List Str) (s : Str) (ha : a.length ≤ 1048576) : Ffce a s=some (a.contains s):=by
  unfold Ffce
  rw [anyLoop (L:=Ffce_la a s) (a:=a) (p:=fun e=>some (e == s)) (r:=true) (q:=fun e=>e == s) (fun x _=>rfl) (fun x=>by rw [Ffce_la_eq,Ffce_la_F] <;> rfl) (by omega)]
  have : a.any (fun e=>e == s)=a.contains s:=by
    rw [List.contains_eq_any_beq]
    congr 1
    funext e
    exact Bool.beq_comm
  rw [this]
  cases a.contains s <;> rfl
theorem form_two {c : Condition} (h : formB c=true) : (c.Op=1 ∧ c.Parts=[]) ∨ (c.Op=2 ∧ c.Parts=[]) ∨ (c.Op=3 ∧ c.Parts=[]) ∨ (c.Op=4 ∧ ∃ p,c.Parts=[p]) ∨ (c.Op=5 ∧ ∃ p q,c.Parts=[p,q]) ∨ (c.Op=6 ∧ ∃ p q,c.Parts=[p,q]):=by
  rw [form_split,preB,tabN] at h
  rw [Bool.and_eq_true,Bool.and_eq_true,decide_eq_true_iff,inB_iff] at h
  obtain ⟨⟨⟨h1,h2⟩,h3⟩,_⟩:=h
  have ho : c.Op=1 ∨ c.Op=2 ∨ c.Op=3 ∨ c.Op=4 ∨ c.Op=5 ∨ c.Op=6:=by omega
  have two : ∀ {a : List Condition},a.length=2→∃ p q,a=[p,q]:=fun {a} h=>by
    match a,h with
    | [p,q],_=>exact ⟨p,q,rfl⟩
  have one : ∀ {a : List Condition},a.length=1→∃ p,a=[p]:=fun {a} h=>by
    match a,h with
    | [p],_=>exact ⟨p,rfl⟩
  rcases ho with h | h | h | h | h | h <;> simp only [h] at h3 ⊢
  · exact .inl ⟨trivial,List.length_eq_zero_iff.1 (by simpa using h3)⟩
  · exact .inr (.inl ⟨trivial,List.length_eq_zero_iff.1 (by simpa using h3)⟩)
  · exact .inr (.inr (.inl ⟨trivial,List.length_eq_zero_iff.1 (by simpa using h3)⟩))
  · exact .inr (.inr (.inr (.inl ⟨trivial,one (by simpa using h3)⟩)))
  · exact .inr (.inr (.inr (.inr (.inl ⟨trivial,two (by simpa using h3)⟩))))
  · exact .inr (.inr (.inr (.inr (.inr ⟨trivial,two (by simpa using h3)⟩))))
theorem hold_ex (c : Condition) : formsB c=true→∀ (f : List Str) (d : Int),f.length ≤ 1048576→∃ b,Ffcf c f d=some b ∧ Ffi c f d=some b:=by
  refine rec_Condition (P:=fun c=>formsB c=true→∀ (f : List Str) (d : Int),f.length ≤ 1048576→∃ b,Ffcf c f d=some b ∧ Ffi c f d=some b) ?_ c
  intro c ih hf f d hl
  rw [formsB_eq,Bool.and_eq_true,List.all_eq_true] at hf
  obtain ⟨hf,hp⟩:=hf
  rw [Ffcf_eq,Ffi_eq]
  unfold Ffcf_B Ffi_B
  have g0 : ∀ {p : Condition} {l : List Condition},getI (p :: l) 0=some p:=rfl
  have g1 : ∀ {p q : Condition} {l : List Condition},getI (p :: q :: l) 1=some q:=rfl
  rcases form_two hf with ⟨o,e⟩ | ⟨o,e⟩ | ⟨o,e⟩ | ⟨o,p,e⟩ | ⟨o,p,q,e⟩ | ⟨o,p,q,e⟩
  · exact ⟨true,by rw [o]; rfl,by rw [o]; rfl⟩
  · exact ⟨f.contains c.Name,by rw [o,has_val f _ hl]; rfl,by rw [o,contains_val f _ hl]; rfl⟩
  · exact ⟨decide (d ≥ c.Day),by rw [o]; rfl,by rw [o]; rfl⟩
  · rw [e] at ih hp
    obtain ⟨b,h1,h2⟩:=ih p (by simp) (hp p (by simp)) f d hl
    refine ⟨!b,?_,?_⟩
    · rw [o,e]
      simp only [Int.reduceBEq,cond_false,cond_true]
      rw [g0,Option.bind_some,show fixO Ffcf_G (p,f,d)=_ from h1]; rfl
    · rw [o,e]
      simp only [Int.reduceBEq,cond_false,cond_true]
      rw [g0,Option.bind_some,show fixO Ffi_G (p,f,d)=_ from h2]; rfl
  · rw [e] at ih hp
    obtain ⟨b,h1,h2⟩:=ih p (by simp) (hp p (by simp)) f d hl
    obtain ⟨b',h3,h4⟩:=ih q (by simp) (hp q (by simp)) f d hl
    refine ⟨b && b',?_,?_⟩
    · rw [o,e]
      simp only [Int.reduceBEq,cond_false,cond_true]
      rw [g0,g1,Option.bind_some,show fixO Ffcf_G (p,f,d)=_ from h1,Option.bind_some]
      cases b with
      | false=>rfl
      | true=>rw [cond_true,Option.bind_some,show fixO Ffcf_G (q,f,d)=_ from h3]; rfl
    · rw [o,e]
      simp only [Int.reduceBEq,cond_false,cond_true]
      rw [g0,g1,Option.bind_some,show fixO Ffi_G (p,f,d)=_ from h2,Option.bind_some]
      cases b with
      | false=>rfl
      | true=>rw [cond_true,Option.bind_some,show fixO Ffi_G (q,f,d)=_ from h4]; rfl
  · rw [e] at ih hp
    obtain ⟨b,h1,h2⟩:=ih p (by simp) (hp p (by simp)) f d hl
    obtain ⟨b',h3,h4⟩:=ih q (by simp) (hp q (by simp)) f d hl
    refine ⟨b || b',?_,?_⟩
    · rw [o,e]
      simp only [Int.reduceBEq,cond_false,cond_true]
      rw [g0,g1,Option.bind_some,show fixO Ffcf_G (p,f,d)=_ from h1,Option.bind_some]
      cases b with
      | true=>rfl
      | false=>rw [cond_false,Option.bind_some,show fixO Ffcf_G (q,f,d)=_ from h3]; rfl
    · rw [o,e]
      simp only [Int.reduceBEq,cond_false,cond_true]
      rw [g0,g1,Option.bind_some,show fixO Ffi_G (p,f,d)=_ from h2,Option.bind_some]
      cases b with
      | true=>rfl
      | false=>rw [cond_false,Option.bind_some,show fixO Ffi_G (q,f,d)=_ from h4]; rfl
/-- a valid condition's value -/
noncomputable def holdB (c : Condition) (f : List Str) (d : Int) : Bool:=(Ffi c f d).getD false
theorem spec_hold {c : Condition} (h : formsB c=true) {f : List Str} {d : Int} (hl : f.length ≤ 1048576) : Ffcf c f d=some (holdB c f d):=by
  obtain ⟨b,h1,h2⟩:=hold_ex c h f d hl
  unfold holdB
  rw [h1,h2]; rfl
theorem impl_hold {c : Condition} (h : formsB c=true) {f : List Str} {d : Int} (hl : f.length ≤ 1048576) : Ffi c f d=some (holdB c f d):=by
  obtain ⟨b,h1,h2⟩:=hold_ex c h f d hl
  unfold holdB
  rw [h2]; rfl
/-! two conditions together -/
theorem wrap_u64 {n : Nat} (h : n ≤ 1048576) : IntKind.u64.wrap (n : Int)=(n : Int):=PqS.u64_nat (by omega)
theorem sub_ex (a b : Condition) (h : Bool) (names : List Str) (m : Int) (days : List Int) (q : Int) (hl : names.length ≤ 1000) : ∃ f,Ffcm names m=some f ∧ Ffl_lb a b h names m days q (0,[])=some (.inr f) ∧ f.length ≤ names.length:=by
  have key : ∀ (k i : Nat) (out : List Str),i + k=names.length→out.length ≤ i→∃ f,Ffcm_la names m ((i : Int),out)=some (.inr f) ∧ Ffl_lb a b h names m days q ((i : Int),out)=some (.inr f) ∧ f.length ≤ names.length:=by
    intro k
    induction k with
    | zero =>
      intro i out hi ho
      refine ⟨out,?_,?_,by omega⟩
      · rw [Ffcm_la_eq,Ffcm_la_F]
        simp only [lt_len,decide_eq_false (show ¬ i < names.length by omega),cond_false]
      · rw [Ffl_lb_eq,Ffl_lb_F]
        simp only [lt_len,decide_eq_false (show ¬ i < names.length by omega),cond_false]
    | succ k ih =>
      intro i out hi ho
      have hi1 : i < names.length:=by omega
      have hx:=List.getElem?_eq_getElem hi1
      have hs : shrO .i64 m (i : Int)=some (shrI .i64 m (i : Int)):=by unfold shrO; rw [if_neg (by omega)]
      rw [Ffcm_la_eq,Ffcm_la_F,Ffl_lb_eq,Ffl_lb_F]
      simp only [lt_len,decide_eq_true hi1,cond_true,getI_nat,hx,Option.bind_some,wrap_u64 (show i ≤ 1048576 by omega),hs,w64_succ (show i < 9223372036854775807 by omega)]
      cases andI .i64 (shrI .i64 m (i : Int)) 1 == 1 with
      | false=>exact ih (i + 1) out (by omega) (by omega)
      | true =>
        rw [cond_true,cond_true,appI_one (by omega) (by omega)]
        exact ih (i + 1) (out ++ [names[i]]) (by omega) (by rw [List.length_append,List.length_singleton]; omega)
  obtain ⟨f,h1,h2,h3⟩:=key names.length 0 [] (by omega) (by simp)
  refine ⟨f,?_,h2,h3⟩
  unfold Ffcm
  rw [show Ffcm_la names m (0,[])=_ from h1]
  rfl
theorem names_not {l r : List Str} {b : Condition} (h : Ffci l b=some r) : Ffci l ⟨4,[],0,[b]⟩=some r:=by
  rw [Ffci_eq]
  show (bindJ (ρ:=List Str) (Ffci_la (fixO Ffci_G) l ⟨4,[],0,[b]⟩ (0,l)) fun u7 : (List Str)=>some u7)=_
  rw [Ffci_la_eq,Ffci_la_F]
  show (bindJ (ρ:=List Str) ((fixO Ffci_G (l,b)).bind fun r6=>Ffci_la (fixO Ffci_G) l ⟨4,[],0,[b]⟩ (w64 (0 + 1),r6)) fun u7 : (List Str)=>some u7)=_
  rw [show fixO Ffci_G (l,b)=_ from h,Option.bind_some,Ffci_la_eq]
  rfl
theorem days_not {l r : List Int} {b : Condition} (h : Ffca l b=some r) : Ffca l ⟨4,[],0,[b]⟩=some r:=by
  rw [Ffca_eq]
  show (bindJ (ρ:=List Int) (Ffca_la (fixO Ffca_G) l ⟨4,[],0,[b]⟩ (0,l)) fun u7 : (List Int)=>some u7)=_
  rw [Ffca_la_eq,Ffca_la_F]
  show (bindJ (ρ:=List Int) ((fixO Ffca_G (l,b)).bind fun r6=>Ffca_la (fixO Ffca_G) l ⟨4,[],0,[b]⟩ (w64 (0 + 1),r6)) fun u7 : (List Int)=>some u7)=_
  rw [show fixO Ffca_G (l,b)=_ from h,Option.bind_some,Ffca_la_eq]
  rfl
theorem holds_not {f : List Str} {d : Int} {b : Condition} {r : Bool} (h : Ffcf b f d=some r) : Ffcf ⟨4,[],0,[b]⟩ f d=some (!r):=by
  rw [Ffcf_eq]
  show ((fixO Ffcf_G (b,f,d)).bind fun r6=>some (!r6))=_
  rw [show fixO Ffcf_G (b,f,d)=_ from h]
  rfl
theorem shl_pow {n : Nat} (h : n ≤ 40) : shlO .i64 1 (n : Int)=some ((2 ^ n : Nat) : Int):=by
  have h2 : 2 ^ n ≤ 1099511627776:=Nat.pow_le_pow_right (n:=2) (by omega) h
  unfold shlO
  rw [if_neg (by omega),shlI,Int.one_mul,Int.toNat_natCast,show min n IntKind.i64.bits=n from Nat.min_eq_left (show n ≤ 64 by omega)]
  rw [show ((2 : Int) ^ n)=((2 ^ n : Nat) : Int) by simp]
  generalize 2 ^ n=z at h2
  congr 1
  exact w64_id (by omega) (by omega)
theorem meet_ex (a b : Condition) (ha : formsB a = true) (hb : formsB b = true) (hna : nc_Condition a ≤ 1000) (hnb : nc_Condition b ≤ 1000) :
    ∃ few r, Ffbw a b = some few ∧ Ffl a b true = some (bif few then (r, true) else (false, false)) ∧ (few = true → Ffbx a b = some r) := by
  obtain ⟨n1, e1, p1, m1, l1⟩ := spec_names a ha [] (by simp; omega) List.Pairwise.nil
  obtain ⟨N, e2, p2, m2, l2⟩ := spec_names b hb n1 (by simp at l1; omega) p1
  have hN : Ffk (namesC a ++ namesC b) = some N := Ffk_val _ _ (by have := namesC_len a; have := namesC_len b; rw [List.length_append]; omega) p2 fun x => by rw [m2, m1, List.mem_append]; simp
  have a1 := impl_names a [] (by simp; omega)
  have a2 := impl_names b ([] ++ namesC a) (by have := namesC_len a; simp; omega)
  simp only [List.nil_append] at a1 a2
  have hlen : N.length ≤ 2000 := by simp at l1; omega
  have hfew : Ffbw a b = some (decide (N.length ≤ 10)) := by
    unfold Ffbw
    rw [e1, Option.bind_some, e2, Option.bind_some]
    congr 1
    by_cases h : N.length ≤ 10
    · rw [decide_eq_true h, decide_eq_true]; simp only [len]; omega
    · rw [decide_eq_false h, decide_eq_false]; simp only [len]; omega
  by_cases h10 : ¬ N.length ≤ 10
  · refine ⟨false, false, by rw [hfew, decide_eq_false h10], ?_, fun h => by cases h⟩
    unfold Ffl
    rw [a1, Option.bind_some, a2, Option.bind_some, hN, Option.bind_some, decide_eq_true (by simp only [len]; omega)]
    rfl
  replace h10 : N.length ≤ 10 := Decidable.not_not.1 h10
  obtain ⟨d1, f1, q1, k1, g1⟩ := spec_days a ha [] (by simp; omega) List.Pairwise.nil
  obtain ⟨d2, f2, q2, k2, g2⟩ := spec_days b hb d1 (by simp at g1; omega) q1
  obtain ⟨D, f3, q3, k3, g3⟩ := put_val d2 0 (by simp at g1; omega) q2
  have b1 := impl_days a [0] (by simp; omega)
  have b2 := impl_days b ([0] ++ daysC a) (by have := daysC_len a; simp; omega)
  have hmem : ∀ x, x ∈ D ↔ x ∈ [0] ++ daysC a ++ daysC b := fun x => by
    rw [k3, k2, k1, List.mem_append, List.mem_append]
    simp only [List.not_mem_nil, false_or, List.mem_singleton]
    constructor
    · rintro ((h | h) | h)
      · exact .inl (.inr h)
      · exact .inr h
      · exact .inl (.inl h)
    · rintro ((h | h) | h)
      · exact .inr h
      · exact .inl (.inl h)
      · exact .inl (.inr h)
  have hD2 : D.length ≤ 3000 := by simp at g1; omega
  have hE2 : ([0] ++ daysC a ++ daysC b).length ≤ 3000 := by have := daysC_len a; have := daysC_len b; simp; omega
  generalize ([0] ++ daysC a ++ daysC b) = E at *
  have pw : 2 ^ N.length ≤ 2 ^ 10 := Nat.pow_le_pow_right (by omega) h10
  let F : Nat → List Str := fun i => (Ffcm N (i : Int)).getD []
  have hF : ∀ i : Nat, Ffcm N (i : Int) = some (F i) ∧ (∀ h days q, Ffl_lb a b h N (i : Int) days q (0, []) = some (.inr (F i))) ∧ (F i).length ≤ 1000 := by
    intro i
    have h0 := sub_ex a b true N (i : Int) E 0 (by omega)
    obtain ⟨f, z1, z2, z3⟩ := h0
    have hf : F i = f := by show (Ffcm N (i : Int)).getD [] = f; rw [z1]; rfl
    refine ⟨by rw [z1, hf], fun h days q => ?_, by rw [hf]; omega⟩
    obtain ⟨f', y1, y2, y3⟩ := sub_ex a b h N (i : Int) days q (by omega)
    rw [z1] at y1
    cases y1
    rw [hf]; exact y2
  let Q : Nat → Int → Bool := fun i d => holdB a (F i) d && holdB b (F i) d
  have hany : ∀ i, D.any (Q i) = E.any (Q i) := fun i => by
    rw [Bool.eq_iff_iff, List.any_eq_true, List.any_eq_true]
    constructor
    · rintro ⟨x, h1, h2⟩; exact ⟨x, (hmem x).1 h1, h2⟩
    · rintro ⟨x, h1, h2⟩; exact ⟨x, (hmem x).2 h1, h2⟩
  have hsb : ∀ i : Nat, Ffcg_lb a ⟨4, [], 0, [b]⟩ D (F i) N (i : Int) 0 = some (if D.any (Q i) then .inl false else .inr ()) := by
    intro i
    have hl := (hF i).2.2
    refine anyLoopG (L := fun j => Ffcg_lb a ⟨4, [], 0, [b]⟩ D (F i) N (i : Int) (j : Int)) (fun j x hx => ?_) ?_
    · obtain ⟨hj, _⟩ := List.getElem?_eq_some_iff.1 hx
      show Ffcg_lb a ⟨4, [], 0, [b]⟩ D (F i) N (i : Int) (j : Int) = _
      rw [Ffcg_lb_eq, Ffcg_lb_F, lt_len, decide_eq_true hj, cond_true, getI_nat, hx, Option.bind_some, spec_hold ha (by omega), Option.bind_some, Option.bind_some, holds_not (spec_hold hb (by omega)), Option.bind_some, w64_succ (by omega)]
      show _ = bif holdB a (F i) x && holdB b (F i) x then _ else _
      cases holdB a (F i) x <;> cases holdB b (F i) x <;> rfl
    · show Ffcg_lb a ⟨4, [], 0, [b]⟩ D (F i) N (i : Int) (D.length : Int) = _
      rw [Ffcg_lb_eq, Ffcg_lb_F, lt_len, decide_eq_false (Nat.lt_irrefl _), cond_false]
  have hib : ∀ i : Nat, Ffl_lc a b true E (F i) N ((2 ^ N.length : Nat) : Int) (i : Int) 0 = some (if E.any (Q i) then .inl (true, true) else .inr ()) := by
    intro i
    have hl := (hF i).2.2
    refine anyLoopG (L := fun j => Ffl_lc a b true E (F i) N ((2 ^ N.length : Nat) : Int) (i : Int) (j : Int)) (fun j x hx => ?_) ?_
    · obtain ⟨hj, _⟩ := List.getElem?_eq_some_iff.1 hx
      show Ffl_lc a b true E (F i) N ((2 ^ N.length : Nat) : Int) (i : Int) (j : Int) = _
      rw [Ffl_lc_eq, Ffl_lc_F, lt_len, decide_eq_true hj, cond_true, getI_nat, hx, Option.bind_some, impl_hold ha (by omega), Option.bind_some, impl_hold hb (by omega), Option.bind_some, w64_succ (by omega)]
      show _ = bif holdB a (F i) x && holdB b (F i) x then _ else _
      cases holdB a (F i) x <;> cases holdB b (F i) x <;> rfl
    · show Ffl_lc a b true E (F i) N ((2 ^ N.length : Nat) : Int) (i : Int) (E.length : Int) = _
      rw [Ffl_lc_eq, Ffl_lc_F, lt_len, decide_eq_false (Nat.lt_irrefl _), cond_false]
  let R : Bool := (List.range (2 ^ N.length)).any fun i => E.any (Q i)
  have rl : (List.range (2 ^ N.length)).length = 2 ^ N.length := List.length_range
  refine ⟨true, R, by rw [hfew, decide_eq_true h10], ?_, fun _ => ?_⟩
  · unfold Ffl
    have hL := anyLoopG (a := List.range (2 ^ N.length)) (q := fun i => E.any (Q i)) (y0 := (Sum.inl (true, true) : (Bool × Bool) ⊕ Unit)) (y1 := .inr ()) (L := fun i => Ffl_la a b true ((2 ^ N.length : Nat) : Int) N E (i : Int))
      (fun i x hx => by
        obtain ⟨hi, hx'⟩ := List.getElem?_eq_some_iff.1 hx
        rw [List.getElem_range] at hx'
        subst hx'
        rw [rl] at hi
        show Ffl_la a b true ((2 ^ N.length : Nat) : Int) N E (i : Int) = _
        rw [Ffl_la_eq, Ffl_la_F, decide_eq_true (by omega), cond_true, (hF i).2.1, bindL_inr, hib, w64_succ (by omega)]
        cases E.any (Q i) <;> rfl)
      (by
        rw [rl]
        show Ffl_la a b true ((2 ^ N.length : Nat) : Int) N E ((2 ^ N.length : Nat) : Int) = _
        rw [Ffl_la_eq, Ffl_la_F, decide_eq_false (by omega), cond_false])
    rw [a1, Option.bind_some, a2, Option.bind_some, hN, Option.bind_some, decide_eq_false (by simp only [len]; omega), cond_false, b1, Option.bind_some, b2, Option.bind_some, show shlO .i64 1 (len N) = _ from shl_pow (by omega), Option.bind_some]
    rw [show Ffl_la a b true ((2 ^ N.length : Nat) : Int) N E 0 = _ from hL]
    show _ = some (R, true)
    show bindJ (some (if R = true then _ else _)) _ = _
    cases R <;> rfl
  · unfold Ffbx Ffcg
    have hL := anyLoopG (a := List.range (2 ^ N.length)) (q := fun i => E.any (Q i)) (y0 := (Sum.inl false : Bool ⊕ Unit)) (y1 := .inr ()) (L := fun i => Ffcg_la a ⟨4, [], 0, [b]⟩ N D (i : Int))
      (fun i x hx => by
        obtain ⟨hi, hx'⟩ := List.getElem?_eq_some_iff.1 hx
        rw [List.getElem_range] at hx'
        subst hx'
        rw [rl] at hi
        show Ffcg_la a ⟨4, [], 0, [b]⟩ N D (i : Int) = _
        rw [Ffcg_la_eq, Ffcg_la_F, show IntKind.u64.wrap (len N) = _ from wrap_u64 (by omega), shl_pow (by omega), Option.bind_some, decide_eq_true (by omega), cond_true, (hF i).1, Option.bind_some, hsb, hany, w64_succ (by omega)]
        cases E.any (Q i) <;> rfl)
      (by
        rw [rl]
        show Ffcg_la a ⟨4, [], 0, [b]⟩ N D ((2 ^ N.length : Nat) : Int) = _
        rw [Ffcg_la_eq, Ffcg_la_F, show IntKind.u64.wrap (len N) = _ from wrap_u64 (by omega), shl_pow (by omega), Option.bind_some, decide_eq_false (by omega), cond_false])
    rw [e1, Option.bind_some, names_not e2, Option.bind_some, f1, Option.bind_some, days_not f2, Option.bind_some, f3, Option.bind_some]
    rw [show Ffcg_la a ⟨4, [], 0, [b]⟩ N D 0 = _ from hL]
    show (bindJ (some (if R = true then _ else _)) _).bind _ = some R
    cases R <;> rfl
theorem meet_val (a b : Condition) (ha : sm_Condition a) (hb : sm_Condition b) : ∃ r,Ffbv a b=some r ∧ Ffc a b=some r:=by
  unfold Ffbv Ffc
  rw [spec_cond a ha,spec_cond b hb,impl_cond a ha,impl_cond b hb]
  cases ca : condB a with
  | false=>exact ⟨_,rfl,rfl⟩
  | true =>
    cases cb : condB b with
    | false=>exact ⟨_,rfl,rfl⟩
    | true =>
      unfold condB at ca cb
      rw [Bool.and_eq_true,decide_eq_true_iff] at ca cb
      obtain ⟨few,r,h1,h2,h3⟩:=meet_ex a b ca.1 cb.1 (by omega) (by omega)
      rw [h1,h2]
      cases few with
      | false=>exact ⟨_,rfl,rfl⟩
      | true =>
        rw [h3 rfl]
        exact ⟨_,rfl,rfl⟩
theorem law_FnExactConditionsMeet (a : Condition) (ha : Ffba a) (b : Condition) (hb : Ffba b) : laws_FnExactConditionsMeet a b=some true:=by
  unfold laws_FnExactConditionsMeet
  obtain ⟨r1,e1,q1⟩:=sz_Condition a ha (l:=1048576) (by decide) (by decide)
  rw [e1,Option.bind_some]
  rcases q1 with q1 | ⟨q1,p1,s1⟩
  · rw [decide_eq_true q1,cond_true]
  rw [decide_eq_false (by omega),cond_false]
  obtain ⟨r2,e2,q2⟩:=sz_Condition b hb (l:=r1) (by omega) (by omega)
  rw [e2,Option.bind_some]
  rcases q2 with q2 | ⟨q2,p2,s2⟩
  · rw [decide_eq_true q2,cond_true]
  rw [decide_eq_false (by omega),cond_false]
  obtain ⟨r,g1,g2⟩:=meet_val a b s1 s2
  simp only [to_Condition a s1,to_Condition b s2,Option.bind_some,g1,g2,eq_Condition a s1,eq_Condition b s2,beq_self_eq_true,Bool.not_true,letJ_eq,cond_false]
end Go.Ln
