/-
  The plain law: the plain functions answer true.
-/
import Derived.Test.YtlgahmmileaohaaFnBusinessDaysLib
import Derived.Sort.AssemblyPlain
import Derived.Sort.LotD4
import Derived.Sort.LotD5
set_option linter.unusedVariables false
set_option linter.unusedSimpArgs false
set_option maxRecDepth 100000
namespace Go.Ln
open Go
theorem u64_nat {n : Nat} (h : n < 18446744073709551616) : IntKind.u64.wrap (n : Int)=(n : Int):=by
  show (n : Int) % 18446744073709551616=n
  omega
theorem appI_one {α : Type} {b : Nat} {xs : List α} {y : α} (h : (xs.length + 1) * b ≤ 1099511627776) (h2 : xs.length + 1 ≤ 1099511627776) : appI b xs [y]=some (xs ++ [y]):=by
  unfold appI
  rw [if_pos]
  simp only [List.length_cons,List.length_nil,lim,Nat.zero_add]
  omega
theorem len_le1 {α β : Type} {f : α→List β} (hf : ∀ x,(f x).length ≤ 1) : ∀ (xs : List α),(xs.flatMap f).length ≤ xs.length
  | []=>by simp
  | x :: xs=>by
    have h1:=hf x
    have h2:=len_le1 hf xs
    rw [List.flatMap_cons,List.length_append,List.length_cons]
    omega
theorem flatMap_filter' {α : Type} {p : α→Bool} : ∀ (xs : List α),(xs.flatMap fun x=>bif p x then [x] else [])=xs.filter p
  | []=>rfl
  | x :: xs=>by
    rw [List.flatMap_cons,flatMap_filter' xs,List.filter_cons]
    cases p x <;> rfl
theorem take_len {α : Type} {xs : List α} {n : Nat} : (xs.take n).length ≤ n:=by rw [List.length_take]; omega
namespace PqI
/-! pdqsort: the printed functions are the plain ones -/
open Go.Sort
def ltE (x y : Int) : Bool:=decide (x < y)
theorem less_val (x y : Int) : Ffa x y=some (ltE x y):=by
  unfold Ffa Ffb ltE
  simp [bne]
theorem gA {d : Array Int} {n : Nat} (h : n < d.size) : getI d.toList (n : Int)=some d[n]! := by
  rw [getI_nat]
  simp [h]
theorem sA {d : Array Int} {i j : Nat} : setI (setI d.toList (i : Int) d[j]!) (j : Int) d[i]! = (swp d i j).toList:=by
  rw [setI_nat,setI_nat]
  unfold swp
  simp
theorem gS {d : Array Int} {i j : Nat} {x : Int} (h : j < d.size) : ∃ y,getI (setI d.toList (i : Int) x) (j : Int)=some y:=by
  rw [getI_nat,setI_nat]
  exact ⟨_,List.getElem?_eq_getElem (by simpa using h)⟩
theorem gSb {d : Array Int} {j : Nat} (h : j < d.size) {β : Type} {I : Int} {x : Int} {k : Option β} : (getI (setI d.toList I x) (j : Int)).bind (fun _=>k)=k:=by
  rw [getI_nat]
  have : j < (setI d.toList I x).length:=by unfold setI; simpa using h
  rw [List.getElem?_eq_getElem this]
  rfl
theorem beqA {d d' : Array Int} (h : d'.size=d.size) : Nat.beq d'.toList.length d.toList.length=true:=by
  rw [Array.length_toList,Array.length_toList,h,Nat.beq_refl]
theorem insInner_size (a : Nat) : ∀ (j : Nat) (d : Array Int),(insInner ltE a j d).size=d.size
  | 0,d=>rfl
  | j + 1,d=>by
    unfold insInner
    split
    · rw [insInner_size,size_swp]
    · rfl
theorem ins_lb (D : List Int) (A B : Int) (a : Nat) (X : Int × Int × Int × List Int) (hX : X.1=(a : Int)) : ∀ (j : Nat) (d : Array Int),j < d.size→d.size ≤ 1048576→Ffy_lb D A B X ((j : Int),d.toList)=some (.inr (insInner ltE a j d).toList)
  | 0,d,hj,hs=>by
    rw [Ffy_lb_eq,Ffy_lb_F]
    rw [decide_eq_false (show ¬ ((0 : Nat) : Int) > X.1 by omega),cond_false,bindL_inr,cond_false]
    rfl
  | j + 1,d,hj,hs=>by
    have w : w64 (((j + 1 : Nat) : Int) - 1)=(j : Int):=by rw [w64_id (by omega) (by omega)]; omega
    rw [Ffy_lb_eq,Ffy_lb_F,insInner]
    simp only [w,gA hj,gA (show j < d.size by omega),Option.bind_some,less_val,gSb (show j < d.size by omega),sA]
    by_cases h1 : j + 1 > a
    · rw [decide_eq_true (show ((j + 1 : Nat) : Int) > X.1 by omega),decide_eq_true h1,cond_true,bindL_inr,Bool.true_and]
      show (bif ltE d[j + 1]! d[j]! then _ else _)=_
      cases h2 : ltE d[j + 1]! d[j]! with
      | true=>rw [cond_true,if_pos rfl]; exact ins_lb D A B a X hX j _ (by rw [size_swp]; omega) (by rw [size_swp]; exact hs)
      | false=>rfl
    · rw [decide_eq_false (show ¬ ((j + 1 : Nat) : Int) > X.1 by omega),decide_eq_false h1,cond_false,bindL_inr,cond_false]
      rfl
theorem insOuter_size (a b : Nat) : ∀ (n i : Nat) (d : Array Int),b - i=n→(insOuter ltE a b i d).size=d.size
  | 0,i,d,h=>by rw [insOuter,if_neg (by omega)]
  | n + 1,i,d,h=>by rw [insOuter,if_pos (by omega),insOuter_size a b n (i + 1) _ (by omega),insInner_size]
theorem ins_la (D : List Int) (A B : Int) (a b : Nat) : ∀ (n i : Nat) (d : Array Int),b - i=n→b ≤ d.size→d.size ≤ 1048576→Ffy_la D A B ((a : Int),(b : Int),(i : Int),d.toList)=some (.inr (insOuter ltE a b i d).toList)
  | 0,i,d,h,hb,hs=>by
    rw [Ffy_la_eq,Ffy_la_F,insOuter,if_neg (by omega)]
    simp only [decide_eq_false (show ¬ (i : Int) < (b : Int) by omega),cond_false]
  | n + 1,i,d,h,hb,hs=>by
    rw [Ffy_la_eq,Ffy_la_F,insOuter,if_pos (by omega)]
    simp only [decide_eq_true (show (i : Int) < (b : Int) by omega),cond_true]
    rw [ins_lb D A B a _ rfl i d (by omega) hs,bindL_inr,w64_succ (by omega)]
    exact ins_la D A B a b n (i + 1) _ (by omega) (by rw [insInner_size]; exact hb) (by rw [insInner_size]; exact hs)
theorem gen_ins (d : Array Int) (a b : Nat) (hb : b ≤ d.size) (ha : a ≤ b) (hs : d.size ≤ 1048576) : Ffy d.toList (a : Int) (b : Int)=some (insertionSort ltE d a b).toList:=by
  unfold Ffy insertionSort
  rw [w64_succ (by omega),ins_la d.toList a b a b (b - (a + 1)) (a + 1) d rfl hb hs,bindJ_inr,beqA (insOuter_size a b _ _ _ rfl),cond_true]
theorem reverseLoop_size : ∀ (n i j : Nat) (d : Array Int),j - i ≤ n→(reverseLoop i j d).size=d.size
  | 0,i,j,d,h=>by rw [reverseLoop,if_neg (by omega)]
  | n + 1,i,j,d,h=>by
    rw [reverseLoop]
    split
    · rw [reverseLoop_size n _ _ _ (by omega),size_swp]
    · rfl
theorem rev_la (D : List Int) (A B : Int) : ∀ (n i j : Nat) (d : Array Int),j - i ≤ n→1 ≤ j→j < d.size→d.size ≤ 1048576→Ffbh_la D A B ((i : Int),(j : Int),d.toList)=some (.inr (reverseLoop i j d).toList)
  | n,i,j,d,h,h1,hb,hs=>by
    rw [Ffbh_la_eq,Ffbh_la_F,reverseLoop]
    by_cases hij : i < j
    · have w : w64 ((j : Int) - 1)=((j - 1 : Nat) : Int):=by rw [w64_id (by omega) (by omega)]; omega
      simp only [decide_eq_true (show (i : Int) < (j : Int) by omega),cond_true,w,w64_succ (show i < 9223372036854775807 by omega),gA hb,gA (show i < d.size by omega),Option.bind_some,gSb hb,sA]
      rw [if_pos hij]
      match n,h with
      | 0,h=>omega
      | n + 1,h =>
        by_cases h2 : 1 ≤ j - 1
        · exact rev_la D A B n (i + 1) (j - 1) _ (by omega) h2 (by rw [size_swp]; omega) (by rw [size_swp]; exact hs)
        · rw [Ffbh_la_eq,Ffbh_la_F,reverseLoop,if_neg (by omega)]
          simp only [decide_eq_false (show ¬ ((i + 1 : Nat) : Int) < ((j - 1 : Nat) : Int) by omega),cond_false]
    · simp only [decide_eq_false (show ¬ (i : Int) < (j : Int) by omega),cond_false]
      rw [if_neg hij]
theorem gen_rev (d : Array Int) (a b : Nat) (hb : b ≤ d.size) (h1 : 2 ≤ b) (hs : d.size ≤ 1048576) : Ffbh d.toList (a : Int) (b : Int)=some (reverseRange d a b).toList:=by
  unfold Ffbh reverseRange
  have w : w64 ((b : Int) - 1)=((b - 1 : Nat) : Int):=by rw [w64_id (by omega) (by omega)]; omega
  rw [w,rev_la d.toList a b _ a (b - 1) d (Nat.le_refl _) (by omega) (by omega) hs,bindJ_inr,beqA (reverseLoop_size _ _ _ _ (Nat.le_refl _)),cond_true]
theorem siftDown_size (hi first : Nat) : ∀ (n root : Nat) (d : Array Int),hi - root ≤ n→(siftDown ltE hi first root d).size=d.size:=by
  intro n
  induction n with
  | zero=>intro root d h; rw [siftDown,dif_pos (by omega)]
  | succ n ih =>
    intro root d h
    rw [siftDown]
    split
    · rfl
    · split
      · split
        · rfl
        · split
          · rw [ih _ _ (by omega),size_swp]
          · rfl
      · split
        · rfl
        · rw [ih _ _ (by omega),size_swp]
theorem sift_la (D : List Int) (L0 : Int) (hi first : Nat) : ∀ (n root : Nat) (d : Array Int),hi - root ≤ n→root < hi→first + hi ≤ d.size→d.size ≤ 1048576→D.length=d.size→∃ y,Ffbi_la D L0 (hi : Int) (first : Int) ((root : Int),d.toList)=some y ∧ (y=.inl (siftDown ltE hi first root d).toList ∨ y=.inr (siftDown ltE hi first root d).toList):=by
  intro n
  induction n with
  | zero=>intro root d h hr hb hs hD; omega
  | succ n ih =>
    intro root d h hr hb hs hD
    have w1 : w64 (2 * (root : Int))=((2 * root : Nat) : Int):=by rw [w64_id (by omega) (by omega)]; omega
    have w2 : w64 (((2 * root : Nat) : Int) + 1)=((2 * root + 1 : Nat) : Int):=w64_succ (by omega)
    have w3 : w64 (((2 * root + 1 : Nat) : Int) + 1)=((2 * root + 2 : Nat) : Int):=w64_succ (by omega)
    have w4 : w64 ((first : Int) + ((2 * root + 1 : Nat) : Int))=((first + (2 * root + 1) : Nat) : Int):=by rw [w64_id (by omega) (by omega)]; omega
    have w5 : w64 (((first + (2 * root + 1) : Nat) : Int) + 1)=((first + (2 * root + 1) + 1 : Nat) : Int):=w64_succ (by omega)
    have w6 : w64 ((first : Int) + (root : Int))=((first + root : Nat) : Int):=by rw [w64_id (by omega) (by omega)]; omega
    have w7 : w64 ((first : Int) + ((2 * root + 2 : Nat) : Int))=((first + (2 * root + 2) : Nat) : Int):=by rw [w64_id (by omega) (by omega)]; omega
    rw [Ffbi_la_eq,Ffbi_la_F,siftDown]
    simp only [w1,w2,w3,w4,w5,w6]
    by_cases h1 : 2 * root + 1 ≥ hi
    · rw [decide_eq_true (show ((2 * root + 1 : Nat) : Int) ≥ (hi : Int) by omega),cond_true,dif_pos h1]
      exact ⟨_,rfl,.inr rfl⟩
    rw [decide_eq_false (show ¬ ((2 * root + 1 : Nat) : Int) ≥ (hi : Int) by omega),cond_false,dif_neg h1]
    by_cases h2 : 2 * root + 2 < hi
    · rw [decide_eq_true (show ((2 * root + 2 : Nat) : Int) < (hi : Int) by omega),cond_true,gA (show first + (2 * root + 1) < d.size by omega),gA (show first + (2 * root + 1) + 1 < d.size by omega),Option.bind_some,Option.bind_some,less_val,Option.bind_some,bindL_inr,decide_eq_true (show 2 * root + 1 + 1 < hi by omega),Bool.true_and]
      rw [show ltE d[first + (2 * root + 1)]! d[first + (2 * root + 1) + 1]! = ltE d[first + (2 * root + 1)]! d[first + (2 * root + 1) + 1]! from rfl]
      cases hq : ltE d[first + (2 * root + 1)]! d[first + (2 * root + 1) + 1]! with
      | true =>
        simp only [cond_true,letJ_eq,w7,gA (show first + root < d.size by omega),gA (show first + (2 * root + 2) < d.size by omega),Option.bind_some,less_val,gSb (show first + (2 * root + 2) < d.size by omega),sA,if_true]
        rw [show ltE d[first + root]! d[first + (2 * root + 2)]! = ltE d[first + root]! d[first + (2 * root + 2)]! from rfl]
        cases hz : ltE d[first + root]! d[first + (2 * root + 2)]! with
        | false =>
          rw [show Nat.beq d.toList.length D.length=true from by rw [hD,Array.length_toList,Nat.beq_refl]]
          exact ⟨_,rfl,.inl rfl⟩
        | true =>
          rw [Bool.not_true,cond_false,if_neg (by decide),dif_pos h2]
          exact ih (2 * root + 2) _ (by omega) h2 (by rw [size_swp]; exact hb) (by rw [size_swp]; exact hs) (by rw [size_swp]; exact hD)
      | false =>
        simp only [cond_false,letJ_eq,w4,gA (show first + root < d.size by omega),gA (show first + (2 * root + 1) < d.size by omega),Option.bind_some,less_val,gSb (show first + (2 * root + 1) < d.size by omega),sA,Bool.false_eq_true,if_false]
        rw [show ltE d[first + root]! d[first + (2 * root + 1)]! = ltE d[first + root]! d[first + (2 * root + 1)]! from rfl]
        cases hz : ltE d[first + root]! d[first + (2 * root + 1)]! with
        | false =>
          rw [show Nat.beq d.toList.length D.length=true from by rw [hD,Array.length_toList,Nat.beq_refl]]
          exact ⟨_,rfl,.inl rfl⟩
        | true =>
          rw [Bool.not_true,cond_false,if_neg (by decide)]
          exact ih (2 * root + 1) _ (by omega) (by omega) (by rw [size_swp]; exact hb) (by rw [size_swp]; exact hs) (by rw [size_swp]; exact hD)
    · rw [decide_eq_false (show ¬ ((2 * root + 2 : Nat) : Int) < (hi : Int) by omega),cond_false,bindL_inr,decide_eq_false (show ¬ 2 * root + 1 + 1 < hi by omega),Bool.false_and]
      simp only [cond_false,letJ_eq,w4,gA (show first + root < d.size by omega),gA (show first + (2 * root + 1) < d.size by omega),Option.bind_some,less_val,gSb (show first + (2 * root + 1) < d.size by omega),sA,Bool.false_eq_true,if_false]
      rw [show ltE d[first + root]! d[first + (2 * root + 1)]! = ltE d[first + root]! d[first + (2 * root + 1)]! from rfl]
      cases hz : ltE d[first + root]! d[first + (2 * root + 1)]! with
      | false =>
        rw [show Nat.beq d.toList.length D.length=true from by rw [hD,Array.length_toList,Nat.beq_refl]]
        exact ⟨_,rfl,.inl rfl⟩
      | true =>
        rw [Bool.not_true,cond_false,if_neg (by decide)]
        exact ih (2 * root + 1) _ (by omega) (by omega) (by rw [size_swp]; exact hb) (by rw [size_swp]; exact hs) (by rw [size_swp]; exact hD)
theorem gen_sift (d : Array Int) (hi first root : Nat) (hb : first + hi ≤ d.size) (hs : d.size ≤ 1048576) (hr : root ≤ hi) : Ffbi d.toList (root : Int) (hi : Int) (first : Int)=some (siftDown ltE hi first root d).toList:=by
  unfold Ffbi
  by_cases h : root < hi
  · obtain ⟨y,hy,hq⟩:=sift_la d.toList (root : Int) hi first (hi - root) root d (Nat.le_refl _) h hb hs (Array.length_toList)
    rw [hy]
    rcases hq with rfl | rfl
    · rfl
    · rw [bindJ_inr,beqA (siftDown_size hi first _ root d (Nat.le_refl _)),cond_true]
  · have w1 : w64 (2 * (root : Int))=((2 * root : Nat) : Int):=by rw [w64_id (by omega) (by omega)]; omega
    have w2 : w64 (((2 * root : Nat) : Int) + 1)=((2 * root + 1 : Nat) : Int):=w64_succ (by omega)
    rw [Ffbi_la_eq,Ffbi_la_F,siftDown]
    simp only [w1,w2]
    rw [decide_eq_true (show ((2 * root + 1 : Nat) : Int) ≥ (hi : Int) by omega),cond_true,dif_pos (by omega),bindJ_inr,beqA rfl,cond_true]
theorem heapBuild_size (hi first : Nat) : ∀ (k : Nat) (d : Array Int),(heapBuild ltE hi first k d).size=d.size
  | 0,d=>rfl
  | k + 1,d=>by rw [heapBuild,heapBuild_size,siftDown_size _ _ _ _ _ (Nat.le_refl _)]
theorem heapPop_size (first : Nat) : ∀ (k : Nat) (d : Array Int),(heapPop ltE first k d).size=d.size
  | 0,d=>rfl
  | k + 1,d=>by rw [heapPop,heapPop_size,siftDown_size _ _ _ _ _ (Nat.le_refl _),size_swp]
theorem heap_la (D : List Int) (a b : Nat) (ha : a ≤ b) : ∀ (k : Nat) (d : Array Int),k ≤ b - a→b ≤ d.size→d.size ≤ 1048576→Ffx_la D (a : Int) (b : Int) ((k : Int) - 1,d.toList)=some (.inr ((a : Int),((b - a : Nat) : Int),(heapBuild ltE (b - a) a k d).toList))
  | 0,d,hk,hb,hs=>by
    have w : w64 ((b : Int) - (a : Int))=((b - a : Nat) : Int):=by rw [w64_id (by omega) (by omega)]; omega
    rw [Ffx_la_eq,Ffx_la_F]
    simp only [decide_eq_false (show ¬ ((0 : Nat) : Int) - 1 ≥ 0 by omega),cond_false,w]
    rfl
  | k + 1,d,hk,hb,hs=>by
    have w : w64 ((b : Int) - (a : Int))=((b - a : Nat) : Int):=by rw [w64_id (by omega) (by omega)]; omega
    have w2 : w64 ((k : Int) - 1)=(k : Int) - 1:=w64_id (by omega) (by omega)
    rw [Ffx_la_eq,Ffx_la_F]
    simp only [show ((k + 1 : Nat) : Int) - 1=(k : Int) by omega,decide_eq_true (show (k : Int) ≥ 0 by omega),cond_true,w,w2]
    rw [gen_sift d (b - a) a k (by omega) hs (by omega),Option.bind_some,beqA (siftDown_size _ _ _ _ _ (Nat.le_refl _)),cond_true,heapBuild]
    exact heap_la D a b ha k _ (by omega) (by rw [siftDown_size _ _ _ _ _ (Nat.le_refl _)]; exact hb) (by rw [siftDown_size _ _ _ _ _ (Nat.le_refl _)]; exact hs)
theorem heap_lb (D : List Int) (A B : Int) (a : Nat) (U : Int × Int × List Int) (hU : U.1=(a : Int)) : ∀ (k : Nat) (d : Array Int),a + k ≤ d.size→d.size ≤ 1048576→Ffx_lb D A B U ((k : Int) - 1,d.toList)=some (.inr (heapPop ltE a k d).toList)
  | 0,d,hb,hs=>by
    rw [Ffx_lb_eq,Ffx_lb_F]
    simp only [decide_eq_false (show ¬ ((0 : Nat) : Int) - 1 ≥ 0 by omega),cond_false]
    rfl
  | k + 1,d,hb,hs=>by
    have w2 : w64 ((k : Int) - 1)=(k : Int) - 1:=w64_id (by omega) (by omega)
    have w3 : w64 ((a : Int) + (k : Int))=((a + k : Nat) : Int):=by rw [w64_id (by omega) (by omega)]; omega
    rw [Ffx_lb_eq,Ffx_lb_F]
    simp only [hU,show ((k + 1 : Nat) : Int) - 1=(k : Int) by omega,decide_eq_true (show (k : Int) ≥ 0 by omega),cond_true,w2,w3,gA (show a + k < d.size by omega),gA (show a < d.size by omega),Option.bind_some,gSb (show a + k < d.size by omega),sA]
    rw [show (0 : Int)=((0 : Nat) : Int) from rfl,gen_sift _ k a 0 (by rw [size_swp]; omega) (by rw [size_swp]; exact hs) (by omega),Option.bind_some,beqA (siftDown_size _ _ _ _ _ (Nat.le_refl _)),cond_true,heapPop]
    exact heap_lb D A B a U hU k _ (by rw [siftDown_size _ _ _ _ _ (Nat.le_refl _),size_swp]; omega) (by rw [siftDown_size _ _ _ _ _ (Nat.le_refl _),size_swp]; exact hs)
theorem heapSort_size (d : Array Int) (a b : Nat) : (heapSort ltE d a b).size=d.size:=by unfold heapSort; rw [heapPop_size,heapBuild_size]
theorem gen_heap (d : Array Int) (a b : Nat) (ha : a + 2 ≤ b) (hb : b ≤ d.size) (hs : d.size ≤ 1048576) : Ffx d.toList (a : Int) (b : Int)=some (heapSort ltE d a b).toList:=by
  unfold Ffx
  have w : w64 ((b : Int) - (a : Int))=((b - a : Nat) : Int):=by rw [w64_id (by omega) (by omega)]; omega
  have w1 : w64 (((b - a : Nat) : Int) - 1)=((b - a - 1 : Nat) : Int):=by rw [w64_id (by omega) (by omega)]; omega
  have w2 : w64 (((b - a - 1 : Nat) : Int).tdiv 2)=((((b - a - 1) / 2 + 1 : Nat)) : Int) - 1:=by
    rw [Int.tdiv_eq_ediv_of_nonneg (by omega),w64_id (by omega) (by omega)]
    omega
  rw [w,w1,w2,heap_la d.toList a b (by omega) ((b - a - 1) / 2 + 1) d (by omega) hb hs,bindJ_inr]
  simp only [show w64 (((b - a : Nat) : Int) - 1)=((b - a : Nat) : Int) - 1 from w64_id (by omega) (by omega)]
  rw [heap_lb d.toList a b a _ rfl (b - a) _ (by rw [heapBuild_size]; omega) (by rw [heapBuild_size]; exact hs),bindJ_inr]
  have:=heapSort_size d a b
  unfold heapSort at this
  rw [beqA this,cond_true]
  rfl
theorem bitsLen_div {n k : Nat} (h : 2 ^ k ≤ n) : bitsLen n=bitsLen (n / 2 ^ k) + k:=by
  have h1 : ∀ m,bitsLen n ≤ m + k ↔ bitsLen (n / 2 ^ k) ≤ m:=by
    intro m
    rw [bitsLen_le_iff,bitsLen_le_iff,Nat.div_lt_iff_lt_mul (Nat.two_pow_pos k),Nat.pow_add]
  have h2 : k ≤ bitsLen n:=by
    rcases Nat.lt_or_ge (bitsLen n) k with h3 | h3
    · have:=(bitsLen_le_iff n (k - 1)).1 (by omega)
      have : 2 ^ (k - 1) ≤ 2 ^ k:=Nat.pow_le_pow_right (by decide) (by omega)
      omega
    · exact h3
  have h4:=(h1 (bitsLen n - k)).1 (by omega)
  have h5:=(h1 (bitsLen (n / 2 ^ k))).2 (Nat.le_refl _)
  omega
theorem shr_nat {n j : Nat} (hj : j ≤ 64) : shrI .u64 (n : Int) (j : Int)=((n / 2 ^ j : Nat) : Int):=by
  unfold shrI
  rw [Int.toNat_natCast,show min j (IntKind.bits .u64)=j from Nat.min_eq_left hj,Int.fdiv_eq_ediv_of_nonneg _ (Int.le_of_lt (Int.pow_pos (by decide)))]
  simp
theorem u64_nat {n : Nat} (h : n < 18446744073709551616) : IntKind.u64.wrap (n : Int)=(n : Int):=by
  show (n : Int) % 18446744073709551616=n
  omega
theorem shl_nat {n j : Nat} (hj : j ≤ 64) : shlI .u64 (n : Int) (j : Int)=((n * 2 ^ j % 18446744073709551616 : Nat) : Int):=by
  unfold shlI
  rw [Int.toNat_natCast,show min j (IntKind.bits .u64)=j from Nat.min_eq_left hj]
  show ((n : Int) * 2 ^ j) % 18446744073709551616=_
  simp
theorem bv_nat {n : Nat} (h : n < 18446744073709551616) : (BitVec.ofInt (IntKind.bits .u64) (n : Int)).toNat=n:=by
  show (BitVec.ofInt 64 (n : Int)).toNat=n
  rw [BitVec.toNat_ofInt]
  omega
theorem xor_nat {x y : Nat} (hx : x < 18446744073709551616) (hy : y < 18446744073709551616) : xorI .u64 (x : Int) (y : Int)=((x ^^^ y : Nat) : Int):=by
  unfold xorI
  rw [BitVec.toNat_xor,bv_nat hx,bv_nat hy]
  exact u64_nat (Nat.xor_lt_two_pow (n:=64) hx hy)
theorem and_nat {x y : Nat} (hx : x < 18446744073709551616) (hy : y < 18446744073709551616) : andI .u64 (x : Int) (y : Int)=((x &&& y : Nat) : Int):=by
  unfold andI
  rw [BitVec.toNat_and,bv_nat hx,bv_nat hy]
  exact u64_nat (Nat.lt_of_le_of_lt Nat.and_le_left hx)
theorem xs_next (r : UInt64) : Ffbj (r.toNat : Int)=some (((xorNext r).toNat : Int),((xorNext r).toNat : Int)):=by
  have hr:=r.toNat_lt
  have p : (18446744073709551616 : Nat)=2 ^ 64:=by decide
  unfold Ffbj
  have e1 : shlI .u64 (r.toNat : Int) 13=((r.toNat * 8192 % 18446744073709551616 : Nat) : Int):=shl_nat (j:=13) (by decide)
  have l1 : r.toNat * 8192 % 18446744073709551616 < 18446744073709551616:=Nat.mod_lt _ (by decide)
  have ha : (r.toNat ^^^ (r.toNat * 8192 % 18446744073709551616)) < 18446744073709551616:=Nat.xor_lt_two_pow (n:=64) hr l1
  have e2 : shrI .u64 ((r.toNat ^^^ (r.toNat * 8192 % 18446744073709551616) : Nat) : Int) 7=(((r.toNat ^^^ (r.toNat * 8192 % 18446744073709551616)) / 128 : Nat) : Int):=shr_nat (j:=7) (by decide)
  have l2 : (r.toNat ^^^ (r.toNat * 8192 % 18446744073709551616)) / 128 < 18446744073709551616:=by omega
  have hb : ((r.toNat ^^^ (r.toNat * 8192 % 18446744073709551616)) ^^^ ((r.toNat ^^^ (r.toNat * 8192 % 18446744073709551616)) / 128)) < 18446744073709551616:=Nat.xor_lt_two_pow (n:=64) ha l2
  have e3 : shlI .u64 (((r.toNat ^^^ (r.toNat * 8192 % 18446744073709551616)) ^^^ ((r.toNat ^^^ (r.toNat * 8192 % 18446744073709551616)) / 128) : Nat) : Int) 17=((((r.toNat ^^^ (r.toNat * 8192 % 18446744073709551616)) ^^^ ((r.toNat ^^^ (r.toNat * 8192 % 18446744073709551616)) / 128)) * 131072 % 18446744073709551616 : Nat) : Int):=shl_nat (j:=17) (by decide)
  rw [e1,xor_nat hr l1,e2,xor_nat ha l2,e3,xor_nat hb (Nat.mod_lt _ (by decide)),xorNext_toNat]
  rfl
theorem len_table : ∀ n,n < 256→([0,1,2,2,3,3,3,3,4,4,4,4,4,4,4,4,5,5,5,5,5,5,5,5,5,5,5,5,5,5,5,5,6,6,6,6,6,6,6,6,6,6,6,6,6,6,6,6,6,6,6,6,6,6,6,6,6,6,6,6,6,6,6,6,7,7,7,7,7,7,7,7,7,7,7,7,7,7,7,7,7,7,7,7,7,7,7,7,7,7,7,7,7,7,7,7,7,7,7,7,7,7,7,7,7,7,7,7,7,7,7,7,7,7,7,7,7,7,7,7,7,7,7,7,7,7,7,7,8,8,8,8,8,8,8,8,8,8,8,8,8,8,8,8,8,8,8,8,8,8,8,8,8,8,8,8,8,8,8,8,8,8,8,8,8,8,8,8,8,8,8,8,8,8,8,8,8,8,8,8,8,8,8,8,8,8,8,8,8,8,8,8,8,8,8,8,8,8,8,8,8,8,8,8,8,8,8,8,8,8,8,8,8,8,8,8,8,8,8,8,8,8,8,8,8,8,8,8,8,8,8,8,8,8,8,8,8,8,8,8,8,8,8,8,8,8,8,8,8,8,8,8,8,8,8,8] : Str)[n]?=some (UInt8.ofNat (bitsLen n)):=by decide +kernel
theorem bitsLen_256 {n : Nat} (h : n < 256) : bitsLen n ≤ 8:=(bitsLen_le_iff n 8).2 h
theorem len_val {n : Nat} (h : n < 16777216) : Ffo (n : Int)=some ((bitsLen n : Nat) : Int):=by
  have tab : ∀ {m : Nat} (k : Int),m < 256→0 ≤ k→k ≤ 100→((getI ([0,1,2,2,3,3,3,3,4,4,4,4,4,4,4,4,5,5,5,5,5,5,5,5,5,5,5,5,5,5,5,5,6,6,6,6,6,6,6,6,6,6,6,6,6,6,6,6,6,6,6,6,6,6,6,6,6,6,6,6,6,6,6,6,7,7,7,7,7,7,7,7,7,7,7,7,7,7,7,7,7,7,7,7,7,7,7,7,7,7,7,7,7,7,7,7,7,7,7,7,7,7,7,7,7,7,7,7,7,7,7,7,7,7,7,7,7,7,7,7,7,7,7,7,7,7,7,7,8,8,8,8,8,8,8,8,8,8,8,8,8,8,8,8,8,8,8,8,8,8,8,8,8,8,8,8,8,8,8,8,8,8,8,8,8,8,8,8,8,8,8,8,8,8,8,8,8,8,8,8,8,8,8,8,8,8,8,8,8,8,8,8,8,8,8,8,8,8,8,8,8,8,8,8,8,8,8,8,8,8,8,8,8,8,8,8,8,8,8,8,8,8,8,8,8,8,8,8,8,8,8,8,8,8,8,8,8,8,8,8,8,8,8,8,8,8,8,8,8,8,8,8,8,8,8,8] : Str) (IntKind.u8.wrap (m : Int))).bind fun c5=>some (w64 (k + (IntKind.i64.wrap (c5.toNat : Int)))))=some (k + ((bitsLen m : Nat) : Int)):=by
    intro m k hm h0 h1
    have hb:=bitsLen_256 hm
    have e : IntKind.u8.wrap (m : Int)=(m : Int):=by
      show (m : Int) % 256=m
      omega
    have e2 : (UInt8.ofNat (bitsLen m)).toNat=bitsLen m:=by
      rw [UInt8.toNat_ofNat']
      omega
    rw [e,getI_nat,len_table m hm,Option.bind_some,e2,show IntKind.i64.wrap ((bitsLen m : Nat) : Int)=((bitsLen m : Nat) : Int) from w64_id (by omega) (by omega),w64_id (by omega) (by omega)]
  unfold Ffo Ffp
  simp only [letJ_eq,decide_eq_false (show ¬ (n : Int) ≥ 4294967296 by omega),cond_false]
  by_cases h2 : n < 65536
  · simp only [decide_eq_false (show ¬ (n : Int) ≥ 65536 by omega),cond_false]
    by_cases h3 : n < 256
    · simp only [decide_eq_false (show ¬ (n : Int) ≥ 256 by omega),cond_false]
      rw [tab 0 h3 (by decide) (by decide),Option.bind_some]
      simp
    · simp only [decide_eq_true (show (n : Int) ≥ 256 by omega),cond_true]
      rw [show shrI .u64 (n : Int) 8=((n / 256 : Nat) : Int) from shr_nat (j:=8) (by decide),show w64 (0 + 8)=8 from by decide,tab 8 (by omega) (by decide) (by decide),Option.bind_some,bitsLen_div (n:=n) (k:=8) (by omega)]
      congr 1
      show (8 : Int) + ((bitsLen (n / 256) : Nat) : Int)=((bitsLen (n / 256) + 8 : Nat) : Int)
      omega
  · simp only [decide_eq_true (show (n : Int) ≥ 65536 by omega),cond_true]
    rw [show shrI .u64 (n : Int) 16=((n / 65536 : Nat) : Int) from shr_nat (j:=16) (by decide),show w64 (0 + 16)=16 from by decide]
    simp only [decide_eq_false (show ¬ ((n / 65536 : Nat) : Int) ≥ 256 by omega),cond_false]
    rw [tab 16 (by omega) (by decide) (by decide),Option.bind_some,bitsLen_div (n:=n) (k:=16) (by omega)]
    congr 1
    show (16 : Int) + ((bitsLen (n / 65536) : Nat) : Int)=((bitsLen (n / 65536) + 16 : Nat) : Int)
    omega
theorem bitsLen_24 {n : Nat} (h : n < 16777216) : bitsLen n ≤ 24:=(bitsLen_le_iff n 24).2 h
theorem pow2_val {n : Nat} (h : n < 16777216) : Ffbb (n : Int)=some ((1 <<< bitsLen n : Nat) : Int):=by
  have hb:=bitsLen_24 h
  unfold Ffbb
  rw [u64_nat (by omega),len_val h,Option.bind_some]
  unfold shlO
  rw [if_neg (by omega),show shlI .u64 1 ((bitsLen n : Nat) : Int)=((1 * 2 ^ bitsLen n % 18446744073709551616 : Nat) : Int) from shl_nat (n:=1) (by omega),Option.bind_some,Nat.one_shiftLeft,Nat.one_mul,Nat.mod_eq_of_lt]
  exact Nat.lt_of_le_of_lt (Nat.pow_le_pow_right (by decide) hb) (by decide)
theorem breakStep_size (a l m : Nat) (st : UInt64 × Array Int) (i : Nat) : (breakStep a l m st i).2.size=st.2.size:=by
  unfold breakStep
  simp only []
  rw [size_swp]
theorem brk_step (D : List Int) (a b : Nat) (i : Nat) (r : UInt64) (d : Array Int) (ha : a ≤ b) (h8 : 8 ≤ b - a) (hb : b ≤ d.size) (hs : d.size ≤ 1048576) (hi : i ≤ a + (b - a) / 4 * 2 + 1) :
    Ffv_la D (a : Int) (b : Int) ((1 <<< bitsLen (b - a) : Nat) : Int) ((i : Int), d.toList, (r.toNat : Int)) =
      Ffv_la D (a : Int) (b : Int) ((1 <<< bitsLen (b - a) : Nat) : Int) (((i + 1 : Nat) : Int), (breakStep a (b - a) (1 <<< bitsLen (b - a)) (r, d) i).2.toList, ((breakStep a (b - a) (1 <<< bitsLen (b - a)) (r, d) i).1.toNat : Int)) := by
  have hl := bitsLen_24 (n := b - a) (by omega)
  have hp := two_pow_bitsLen_le (n := b - a) (by omega)
  have hpos : 0 < 2 ^ bitsLen (b - a) := Nat.two_pow_pos _
  have w1 : w64 ((b : Int) - (a : Int)) = ((b - a : Nat) : Int) := by rw [w64_id (by omega) (by omega)]; omega
  have w2 : w64 (((b - a : Nat) : Int).tdiv 4) = (((b - a) / 4 : Nat) : Int) := by rw [Int.tdiv_eq_ediv_of_nonneg (by omega), w64_id (by omega) (by omega)]; omega
  have w3 : w64 ((((b - a) / 4 : Nat) : Int) * 2) = (((b - a) / 4 * 2 : Nat) : Int) := by rw [w64_id (by omega) (by omega)]; omega
  have w4 : w64 ((a : Int) + (((b - a) / 4 * 2 : Nat) : Int)) = ((a + (b - a) / 4 * 2 : Nat) : Int) := by rw [w64_id (by omega) (by omega)]; omega
  have w5 : w64 (((a + (b - a) / 4 * 2 : Nat) : Int) + 1) = ((a + (b - a) / 4 * 2 + 1 : Nat) : Int) := w64_succ (by omega)
  have hm : (xorNext r).toNat &&& (1 <<< bitsLen (b - a) - 1) ≤ 1 <<< bitsLen (b - a) - 1 := Nat.and_le_right
  have hx := (xorNext r).toNat_lt
  rw [Nat.one_shiftLeft] at *
  have e1 : IntKind.u64.wrap (((2 ^ bitsLen (b - a) : Nat) : Int) - 1) = ((2 ^ bitsLen (b - a) - 1 : Nat) : Int) := by
    rw [show ((2 ^ bitsLen (b - a) : Nat) : Int) - 1 = ((2 ^ bitsLen (b - a) - 1 : Nat) : Int) by omega]
    exact u64_nat (by omega)
  have e2 : IntKind.i64.wrap (andI .u64 ((xorNext r).toNat : Int) ((2 ^ bitsLen (b - a) - 1 : Nat) : Int)) = (((xorNext r).toNat &&& (2 ^ bitsLen (b - a) - 1) : Nat) : Int) := by
    rw [and_nat hx (by omega)]
    exact w64_id (by omega) (by omega)
  rw [Ffv_la_eq, Ffv_la_F]
  simp only [w1, w2, w3, w4, w5, decide_eq_true (show (i : Int) ≤ ((a + (b - a) / 4 * 2 + 1 : Nat) : Int) by omega), cond_true, xs_next, Option.bind_some, letJ_eq, e1, e2, w64_succ (show i < 9223372036854775807 by omega)]
  unfold breakStep
  simp only []
  by_cases hq : (xorNext r).toNat &&& (2 ^ bitsLen (b - a) - 1) ≥ b - a
  · have w6 : w64 ((((xorNext r).toNat &&& (2 ^ bitsLen (b - a) - 1) : Nat) : Int) - ((b - a : Nat) : Int)) = (((xorNext r).toNat &&& (2 ^ bitsLen (b - a) - 1)) - (b - a) : Nat) := by rw [w64_id (by omega) (by omega)]; omega
    have w7 : w64 ((a : Int) + ((((xorNext r).toNat &&& (2 ^ bitsLen (b - a) - 1)) - (b - a) : Nat) : Int)) = ((a + (((xorNext r).toNat &&& (2 ^ bitsLen (b - a) - 1)) - (b - a)) : Nat) : Int) := by rw [w64_id (by omega) (by omega)]; omega
    rw [if_pos hq]
    simp only [decide_eq_true (show (((xorNext r).toNat &&& (2 ^ bitsLen (b - a) - 1) : Nat) : Int) ≥ ((b - a : Nat) : Int) by omega), cond_true, w6, w7, gA (show a + (((xorNext r).toNat &&& (2 ^ bitsLen (b - a) - 1)) - (b - a)) < d.size by omega), gA (show i < d.size by omega), Option.bind_some, gSb (show a + (((xorNext r).toNat &&& (2 ^ bitsLen (b - a) - 1)) - (b - a)) < d.size by omega), sA]
  · have w7 : w64 ((a : Int) + (((xorNext r).toNat &&& (2 ^ bitsLen (b - a) - 1) : Nat) : Int)) = ((a + ((xorNext r).toNat &&& (2 ^ bitsLen (b - a) - 1)) : Nat) : Int) := by rw [w64_id (by omega) (by omega)]; omega
    rw [if_neg hq]
    simp only [decide_eq_false (show ¬ (((xorNext r).toNat &&& (2 ^ bitsLen (b - a) - 1) : Nat) : Int) ≥ ((b - a : Nat) : Int) by omega), cond_false, w7, gA (show a + ((xorNext r).toNat &&& (2 ^ bitsLen (b - a) - 1)) < d.size by omega), gA (show i < d.size by omega), Option.bind_some, gSb (show a + ((xorNext r).toNat &&& (2 ^ bitsLen (b - a) - 1)) < d.size by omega), sA]
theorem breakPatterns_size (d : Array Int) (a b : Nat) : (breakPatterns d a b).size=d.size:=by
  unfold breakPatterns
  simp only []
  split
  · rw [breakStep_size,breakStep_size,breakStep_size]
  · rfl
theorem gen_brk (d : Array Int) (a b : Nat) (ha : a ≤ b) (hb : b ≤ d.size) (hs : d.size ≤ 1048576) : Ffv d.toList (a : Int) (b : Int)=some (breakPatterns d a b).toList:=by
  have hz:=breakPatterns_size d a b
  unfold Ffv
  have w1 : w64 ((b : Int) - (a : Int))=((b - a : Nat) : Int):=by rw [w64_id (by omega) (by omega)]; omega
  rw [w1]
  by_cases h8 : 8 ≤ b - a
  · have w2 : w64 (((b - a : Nat) : Int).tdiv 4)=(((b - a) / 4 : Nat) : Int):=by rw [Int.tdiv_eq_ediv_of_nonneg (by omega),w64_id (by omega) (by omega)]; omega
    have w3 : w64 ((((b - a) / 4 : Nat) : Int) * 2)=(((b - a) / 4 * 2 : Nat) : Int):=by rw [w64_id (by omega) (by omega)]; omega
    have w4 : w64 ((a : Int) + (((b - a) / 4 * 2 : Nat) : Int))=((a + (b - a) / 4 * 2 : Nat) : Int):=by rw [w64_id (by omega) (by omega)]; omega
    have w5 : w64 (((a + (b - a) / 4 * 2 : Nat) : Int) - 1)=((a + (b - a) / 4 * 2 - 1 : Nat) : Int):=by rw [w64_id (by omega) (by omega)]; omega
    have w6 : w64 (((a + (b - a) / 4 * 2 : Nat) : Int) + 1)=((a + (b - a) / 4 * 2 + 1 : Nat) : Int):=w64_succ (by omega)
    have w7 : IntKind.u64.wrap ((b - a : Nat) : Int)=((UInt64.ofNat (b - a)).toNat : Int):=by
      rw [u64_nat (by omega),UInt64.toNat_ofNat']
      omega
    rw [decide_eq_true (show ((b - a : Nat) : Int) ≥ 8 by omega),cond_true,pow2_val (by omega),Option.bind_some,w2,w3,w4,w5,w7]
    rw [brk_step d.toList a b _ _ d ha h8 hb hs (by omega),brk_step d.toList a b _ _ _ ha h8 (by rw [breakStep_size]; exact hb) (by rw [breakStep_size]; exact hs) (by omega),brk_step d.toList a b _ _ _ ha h8 (by rw [breakStep_size,breakStep_size]; exact hb) (by rw [breakStep_size,breakStep_size]; exact hs) (by omega)]
    rw [Ffv_la_eq,Ffv_la_F]
    simp only [w1,w2,w3,w4,w6,decide_eq_false (show ¬ ((a + (b - a) / 4 * 2 - 1 + 1 + 1 + 1 : Nat) : Int) ≤ ((a + (b - a) / 4 * 2 + 1 : Nat) : Int) by omega),cond_false,bindL_inr,bindJ_inr]
    unfold breakPatterns at hz ⊢
    simp only [] at hz ⊢
    rw [if_pos h8] at hz ⊢
    rw [beqA hz,cond_true]
  · rw [decide_eq_false (show ¬ ((b - a : Nat) : Int) ≥ 8 by omega),cond_false,bindJ_inr,beqA rfl,cond_true]
    unfold breakPatterns
    simp only []
    rw [if_neg h8]
theorem gen_order2 (d : Array Int) (a b s : Nat) (ha : a < d.size) (hb : b < d.size) (hs : s ≤ 1000) : Ffbc d.toList (a : Int) (b : Int) (s : Int)=some (((order2 ltE d a b s).1 : Int),((order2 ltE d a b s).2.1 : Int),((order2 ltE d a b s).2.2 : Int)):=by
  unfold Ffbc order2
  rw [gA hb,Option.bind_some,gA ha,Option.bind_some,less_val,Option.bind_some,w64_succ (by omega)]
  rw [show ltE d[b]! d[a]! = ltE d[b]! d[a]! from rfl]
  cases ltE d[b]! d[a]! <;> rfl
theorem order2_lt (d : Array Int) (a b s n : Nat) (ha : a < n) (hb : b < n) : (order2 ltE d a b s).1 < n ∧ (order2 ltE d a b s).2.1 < n:=by
  rcases order2_mem ltE d a b s with ⟨h1,h2⟩ | ⟨h1,h2⟩ <;> rw [h1,h2] <;> exact ⟨by assumption,by assumption⟩
theorem gen_median (d : Array Int) (a b c s : Nat) (ha : a < d.size) (hb : b < d.size) (hc : c < d.size) (hs : s ≤ 900) : Ffba d.toList (a : Int) (b : Int) (c : Int) (s : Int)=some (((median ltE d a b c s).1 : Int),((median ltE d a b c s).2 : Int)):=by
  unfold Ffba median
  simp only []
  have c1:=order2_count ltE d a b s
  obtain ⟨p1,p2⟩:=order2_lt d a b s d.size ha hb
  have c2:=order2_count ltE d (order2 ltE d a b s).2.1 c (order2 ltE d a b s).2.2
  obtain ⟨p3,p4⟩:=order2_lt d (order2 ltE d a b s).2.1 c (order2 ltE d a b s).2.2 d.size p2 hc
  rw [gen_order2 d a b s ha hb (by omega),Option.bind_some]
  simp only []
  rw [gen_order2 d _ c _ p2 hc (by omega),Option.bind_some]
  simp only []
  rw [gen_order2 d _ _ _ p1 p3 (by omega),Option.bind_some]
theorem gen_medianAdj (d : Array Int) (a s : Nat) (h1 : 1 ≤ a) (ha : a + 1 < d.size) (hz : d.size ≤ 1048576) (hs : s ≤ 800) : Ffz d.toList (a : Int) (s : Int)=some (((medianAdjacent ltE d a s).1 : Int),((medianAdjacent ltE d a s).2 : Int)):=by
  unfold Ffz medianAdjacent
  have w1 : w64 ((a : Int) - 1)=((a - 1 : Nat) : Int):=by rw [w64_id (by omega) (by omega)]; omega
  rw [w1,w64_succ (by omega),gen_median d _ _ _ _ (by omega) (by omega) ha (by omega),Option.bind_some]
theorem adj_lt (d : Array Int) (a s n : Nat) (ha : a + 1 < n) : (medianAdjacent ltE d a s).1 < n:=by
  rcases medianAdjacent_mem ltE d a s with h | h | h <;> rw [h] <;> omega
theorem raw_mem (d : Array Int) (a b : Nat) (h : a < b) : a ≤ (rawPivot ltE d a b).1 ∧ (rawPivot ltE d a b).1 < b:=by
  have:=choosePivot_holds ltE d a b h
  rw [choosePivot_eq] at this
  exact this
theorem gen_pivot (d : Array Int) (a b : Nat) (ha : a < b) (hb : b ≤ d.size) (hs : d.size ≤ 1048576) : Ffw d.toList (a : Int) (b : Int)=some (((choosePivot ltE d a b).1 : Int),hintCode (choosePivot ltE d a b).2):=by
  rw [choosePivot_eq]
  unfold Ffw
  have w1 : w64 ((b : Int) - (a : Int))=((b - a : Nat) : Int):=by rw [w64_id (by omega) (by omega)]; omega
  have w2 : w64 (((b - a : Nat) : Int).tdiv 4)=(((b - a) / 4 : Nat) : Int):=by rw [Int.tdiv_eq_ediv_of_nonneg (by omega),w64_id (by omega) (by omega)]; omega
  have w3 : w64 ((((b - a) / 4 : Nat) : Int) * 1)=(((b - a) / 4 * 1 : Nat) : Int):=by rw [w64_id (by omega) (by omega)]; omega
  have w4 : w64 ((((b - a) / 4 : Nat) : Int) * 2)=(((b - a) / 4 * 2 : Nat) : Int):=by rw [w64_id (by omega) (by omega)]; omega
  have w5 : w64 ((((b - a) / 4 : Nat) : Int) * 3)=(((b - a) / 4 * 3 : Nat) : Int):=by rw [w64_id (by omega) (by omega)]; omega
  have w6 : w64 ((a : Int) + (((b - a) / 4 * 1 : Nat) : Int))=((a + (b - a) / 4 * 1 : Nat) : Int):=by rw [w64_id (by omega) (by omega)]; omega
  have w7 : w64 ((a : Int) + (((b - a) / 4 * 2 : Nat) : Int))=((a + (b - a) / 4 * 2 : Nat) : Int):=by rw [w64_id (by omega) (by omega)]; omega
  have w8 : w64 ((a : Int) + (((b - a) / 4 * 3 : Nat) : Int))=((a + (b - a) / 4 * 3 : Nat) : Int):=by rw [w64_id (by omega) (by omega)]; omega
  have fin : ∀ (p s : Nat),(bif ((s : Int) == 0) then (some ((p : Int),(1 : Int))) else (bif ((s : Int) == 12) then (some ((p : Int),2)) else (some ((p : Int),0))))=some ((p : Int),hintCode (hintOf s)):=by
    intro p s
    unfold hintOf
    by_cases h0 : s=0
    · subst h0; rfl
    · have e0 : ((s : Int) == 0)=false:=by rw [beq_eq_false_iff_ne]; omega
      rw [e0,cond_false,if_neg h0]
      by_cases h12 : s=12
      · subst h12; rfl
      · have e1 : ((s : Int) == 12)=false:=by rw [beq_eq_false_iff_ne]; omega
        rw [e1,cond_false,if_neg h12]
        rfl
  simp only [w1,w2,w3,w4,w5,w6,w7,w8]
  unfold rawPivot
  by_cases h8 : b - a ≥ 8
  · rw [decide_eq_true (show ((b - a : Nat) : Int) ≥ 8 by omega),cond_true,if_pos h8]
    by_cases h50 : b - a ≥ 50
    · have k1:=medianAdjacent_count ltE d (a + (b - a) / 4 * 1) 0
      have k2:=medianAdjacent_count ltE d (a + (b - a) / 4 * 2) (medianAdjacent ltE d (a + (b - a) / 4 * 1) 0).2
      have k3:=medianAdjacent_count ltE d (a + (b - a) / 4 * 3) (medianAdjacent ltE d (a + (b - a) / 4 * 2) (medianAdjacent ltE d (a + (b - a) / 4 * 1) 0).2).2
      rw [decide_eq_true (show ((b - a : Nat) : Int) ≥ 50 by omega),cond_true,if_pos h50,show (0 : Int)=((0 : Nat) : Int) from rfl,gen_medianAdj d _ _ (by omega) (by omega) hs (by omega),Option.bind_some]
      simp only []
      rw [gen_medianAdj d _ _ (by omega) (by omega) hs (by omega),Option.bind_some]
      simp only []
      rw [gen_medianAdj d _ _ (by omega) (by omega) hs (by omega),Option.bind_some,bindL_inr]
      simp only []
      rw [gen_median d _ _ _ _ (adj_lt d _ _ _ (by omega)) (adj_lt d _ _ _ (by omega)) (adj_lt d _ _ _ (by omega)) (by omega),Option.bind_some,bindJ_inr]
      exact fin _ _
    · rw [decide_eq_false (show ¬ ((b - a : Nat) : Int) ≥ 50 by omega),cond_false,if_neg h50,bindL_inr]
      simp only []
      rw [show (0 : Int)=((0 : Nat) : Int) from rfl,gen_median d _ _ _ _ (by omega) (by omega) (by omega) (by omega),Option.bind_some,bindJ_inr]
      exact fin _ _
  · rw [decide_eq_false (show ¬ ((b - a : Nat) : Int) ≥ 8 by omega),cond_false,if_neg h8,bindJ_inr]
    exact fin _ 0
theorem scanUpG {ρ υ : Type} {L : Int→Option (ρ ⊕ υ)} {out : Nat→υ} {p : Int→Bool} {d : Array Int} {j : Nat} (h1 : ∀ i : Nat,i ≤ j→L (i : Int)=bif p d[i]! then L ((i + 1 : Nat) : Int) else some (.inr (out i))) (h2 : ∀ i : Nat,¬ i ≤ j→L (i : Int)=some (.inr (out i))) : ∀ (n i : Nat),j + 1 - i ≤ n→L (i : Int)=some (.inr (out (scanUp p d j i)))
  | n,i,h=>by
    rw [scanUp]
    by_cases hi : i ≤ j
    · rw [h1 i hi,decide_eq_true hi,Bool.true_and]
      match n,h with
      | 0,h=>omega
      | n + 1,h =>
        cases p d[i]! with
        | true=>rw [cond_true,if_pos rfl]; exact scanUpG h1 h2 n (i + 1) (by omega)
        | false=>rfl
    · rw [h2 i hi,decide_eq_false hi,Bool.false_and]
      rfl
theorem scanDownG {ρ υ : Type} {L : Int→Option (ρ ⊕ υ)} {out : Nat→υ} {p : Int→Bool} {d : Array Int} {i m : Nat} (hi : 1 ≤ i) (h1 : ∀ j : Nat,j ≤ m→i ≤ j→L (j : Int)=bif p d[j]! then L ((j : Int) - 1) else some (.inr (out j))) (h2 : ∀ j : Nat,¬ i ≤ j→L (j : Int)=some (.inr (out j))) : ∀ (j : Nat),j ≤ m→L (j : Int)=some (.inr (out (scanDown p d i j)))
  | 0,_=>by rw [h2 0 (by omega)]; rfl
  | j + 1,hm=>by
    rw [scanDown]
    by_cases hj : i ≤ j + 1
    · rw [h1 (j + 1) hm hj,decide_eq_true hj,Bool.true_and,show ((j + 1 : Nat) : Int) - 1=(j : Int) by omega]
      cases p d[j + 1]! with
      | true=>rw [cond_true,if_pos rfl]; exact scanDownG hi h1 h2 j (by omega)
      | false=>rfl
    · rw [h2 (j + 1) hj,decide_eq_false hj,Bool.false_and]
      rfl
theorem scanDown_ge {p : Int→Bool} {d : Array Int} {i j : Nat} : scanDown p d i j ≤ j:=scanDown_le p d i j
/-! the equal part -/
theorem partEq_la (D : List Int) (B Q : Int) (a : Nat) : ∀ (n i j : Nat) (d : Array Int),j + 1 - i ≤ n→1 ≤ i→a < d.size→j < d.size→d.size ≤ 1048576→Ffbe_la D (a : Int) B Q ((i : Int),(j : Int),d.toList)=some (.inr (((partEqLoop ltE a i j d).1 : Int),(partEqLoop ltE a i j d).2.toList)):=by
  intro n
  induction n with
  | zero =>
    intro i j d h h1 ha hj hs
    have u : scanUp (fun x=>!ltE d[a]! x) d j i=i:=by rw [scanUp,decide_eq_false (by omega),Bool.false_and]; rfl
    rw [Ffbe_la_eq,Ffbe_la_F,partEqLoop_eq,u]
    have hd:=scanDown_ge (p:=fun x=>ltE d[a]! x) (d:=d) (i:=i) (j:=j)
    rw [Ffbe_lb_eq,Ffbe_lb_F]
    simp only [decide_eq_false (show ¬ (i : Int) ≤ (j : Int) by omega),cond_false,bindL_inr]
    rw [Ffbe_lc_eq,Ffbe_lc_F]
    simp only [decide_eq_false (show ¬ (i : Int) ≤ (j : Int) by omega),cond_false,bindL_inr,decide_eq_true (show (i : Int) > (j : Int) by omega),cond_true]
    rw [if_pos (by omega)]
  | succ n ih =>
    intro i j d h h1 ha hj hs
    have hu:=scanUp_ge (fun x=>!ltE d[a]! x) d j i
    have hd:=scanDown_ge (p:=fun x=>ltE d[a]! x) (d:=d) (i:=scanUp (fun x=>!ltE d[a]! x) d j i) (j:=j)
    rw [Ffbe_la_eq,Ffbe_la_F,partEqLoop_eq]
    simp only []
    rw [scanUpG (L:=Ffbe_lb D (a : Int) B Q ((i : Int),(j : Int),d.toList)) (out:=fun k=>(k : Int)) (p:=fun x=>!ltE d[a]! x) (d:=d) (j:=j)
      (fun k hk=>by
        rw [Ffbe_lb_eq,Ffbe_lb_F]
        simp only [decide_eq_true (show (k : Int) ≤ (j : Int) by omega),cond_true,gA ha,gA (show k < d.size by omega),Option.bind_some,less_val,bindL_inr,w64_succ (show k < 9223372036854775807 by omega)]
        try rfl)
      (fun k hk=>by
        rw [Ffbe_lb_eq,Ffbe_lb_F]
        simp only [decide_eq_false (show ¬ (k : Int) ≤ (j : Int) by omega),cond_false,bindL_inr]) _ i (Nat.le_refl _),bindL_inr]
    rw [scanDownG (L:=Ffbe_lc D (a : Int) B Q (((scanUp (fun x=>!ltE d[a]! x) d j i : Nat)) : Int) ((i : Int),(j : Int),d.toList)) (out:=fun k=>(k : Int)) (p:=fun x=>ltE d[a]! x) (d:=d) (i:=scanUp (fun x=>!ltE d[a]! x) d j i) (m:=j) (by omega)
      (fun k hkm hk=>by
        rw [Ffbe_lc_eq,Ffbe_lc_F]
        simp only [decide_eq_true (show ((scanUp (fun x=>!ltE d[a]! x) d j i : Nat) : Int) ≤ (k : Int) by omega),cond_true,gA ha,gA (show k < d.size by omega),Option.bind_some,less_val,bindL_inr,show w64 ((k : Int) - 1)=(k : Int) - 1 from w64_id (by omega) (by omega)]
        try rfl)
      (fun k hk=>by
        rw [Ffbe_lc_eq,Ffbe_lc_F]
        simp only [decide_eq_false (show ¬ ((scanUp (fun x=>!ltE d[a]! x) d j i : Nat) : Int) ≤ (k : Int) by omega),cond_false,bindL_inr]) j (Nat.le_refl j),bindL_inr]
    generalize scanUp (fun x=>!ltE d[a]! x) d j i=i2 at *
    generalize scanDown (fun x=>ltE d[a]! x) d i2 j=j2 at *
    by_cases hq : i2 > j2
    · simp only [decide_eq_true (show (i2 : Int) > (j2 : Int) by omega),cond_true]
      rw [if_pos hq]
    · simp only [decide_eq_false (show ¬ (i2 : Int) > (j2 : Int) by omega),cond_false,gA (show j2 < d.size by omega),gA (show i2 < d.size by omega),Option.bind_some,gSb (show j2 < d.size by omega),sA,w64_succ (show i2 < 9223372036854775807 by omega),show w64 ((j2 : Int) - 1)=((j2 - 1 : Nat) : Int) from by rw [w64_id (by omega) (by omega)]; omega]
      rw [if_neg hq]
      exact ih (i2 + 1) (j2 - 1) _ (by omega) (by omega) (by rw [size_swp]; exact ha) (by rw [size_swp]; omega) (by rw [size_swp]; exact hs)
theorem partEqLoop_size (a : Nat) : ∀ (n i j : Nat) (d : Array Int),j + 1 - i ≤ n→(partEqLoop ltE a i j d).2.size=d.size:=by
  intro n
  induction n with
  | zero =>
    intro i j d h
    have u : scanUp (fun x=>!ltE d[a]! x) d j i=i:=by rw [scanUp,decide_eq_false (by omega),Bool.false_and]; rfl
    have hd:=scanDown_ge (p:=fun x=>ltE d[a]! x) (d:=d) (i:=i) (j:=j)
    rw [partEqLoop_eq,u,if_pos (by omega)]
  | succ n ih =>
    intro i j d h
    have hu:=scanUp_ge (fun x=>!ltE d[a]! x) d j i
    have hd:=scanDown_ge (p:=fun x=>ltE d[a]! x) (d:=d) (i:=scanUp (fun x=>!ltE d[a]! x) d j i) (j:=j)
    rw [partEqLoop_eq]
    split
    · rfl
    · rw [ih _ _ _ (by omega),size_swp]
theorem gen_partEq (d : Array Int) (a b p : Nat) (h1 : a < b) (hb : b ≤ d.size) (hp : p < d.size) (hs : d.size ≤ 1048576) : Ffbe d.toList (a : Int) (b : Int) (p : Int)=some (((partitionEqual ltE d a b p).1 : Int),(partitionEqual ltE d a b p).2.toList):=by
  unfold Ffbe partitionEqual
  have w : w64 ((b : Int) - 1)=((b - 1 : Nat) : Int):=by rw [w64_id (by omega) (by omega)]; omega
  simp only [gA hp,gA (show a < d.size by omega),Option.bind_some,gSb hp,sA,w,w64_succ (show a < 9223372036854775807 by omega)]
  rw [partEq_la d.toList (b : Int) (p : Int) a _ (a + 1) (b - 1) (swp d a p) (Nat.le_refl _) (by omega) (by rw [size_swp]; omega) (by rw [size_swp]; omega) (by rw [size_swp]; exact hs),bindJ_inr]
  simp only []
  rw [beqA (by rw [partEqLoop_size _ _ _ _ _ (Nat.le_refl _),size_swp]),cond_true]
/-! the part -/
theorem part_lc (D : List Int) (B Q : Int) (a : Nat) : ∀ (n i j : Nat) (d : Array Int),j + 1 - i ≤ n→1 ≤ i→a < d.size→j < d.size→d.size ≤ 1048576→Ffbf_lc D (a : Int) B Q ((i : Int),(j : Int),d.toList)=some (.inr (((partLoop ltE a i j d).1 : Int),(partLoop ltE a i j d).2.toList)):=by
  intro n
  induction n with
  | zero =>
    intro i j d h h1 ha hj hs
    have u : scanUp (fun x=>ltE x d[a]!) d j i=i:=by rw [scanUp,decide_eq_false (by omega),Bool.false_and]; rfl
    have hd : scanDown (fun x=>!ltE x d[a]!) d i j=j:=by
      cases j with
      | zero=>rfl
      | succ j=>rw [scanDown,decide_eq_false (by omega),Bool.false_and]; rfl
    rw [Ffbf_lc_eq,Ffbf_lc_F,partLoop_eq,u,hd]
    rw [Ffbf_ld_eq,Ffbf_ld_F]
    simp only [decide_eq_false (show ¬ (i : Int) ≤ (j : Int) by omega),cond_false,bindL_inr]
    rw [Ffbf_le_eq,Ffbf_le_F]
    simp only [decide_eq_false (show ¬ (i : Int) ≤ (j : Int) by omega),cond_false,bindL_inr,decide_eq_true (show (i : Int) > (j : Int) by omega),cond_true]
    rw [if_pos (by omega)]
  | succ n ih =>
    intro i j d h h1 ha hj hs
    have hu:=scanUp_ge (fun x=>ltE x d[a]!) d j i
    have hd:=scanDown_ge (p:=fun x=>!ltE x d[a]!) (d:=d) (i:=scanUp (fun x=>ltE x d[a]!) d j i) (j:=j)
    rw [Ffbf_lc_eq,Ffbf_lc_F,partLoop_eq]
    simp only []
    rw [scanUpG (L:=Ffbf_ld D (a : Int) B Q ((i : Int),(j : Int),d.toList)) (out:=fun k=>(k : Int)) (p:=fun x=>ltE x d[a]!) (d:=d) (j:=j)
      (fun k hk=>by
        rw [Ffbf_ld_eq,Ffbf_ld_F]
        simp only [decide_eq_true (show (k : Int) ≤ (j : Int) by omega),cond_true,gA ha,gA (show k < d.size by omega),Option.bind_some,less_val,bindL_inr,w64_succ (show k < 9223372036854775807 by omega)]
        try rfl)
      (fun k hk=>by
        rw [Ffbf_ld_eq,Ffbf_ld_F]
        simp only [decide_eq_false (show ¬ (k : Int) ≤ (j : Int) by omega),cond_false,bindL_inr]) _ i (Nat.le_refl _),bindL_inr]
    rw [scanDownG (L:=Ffbf_le D (a : Int) B Q (((scanUp (fun x=>ltE x d[a]!) d j i : Nat)) : Int) ((i : Int),(j : Int),d.toList)) (out:=fun k=>(k : Int)) (p:=fun x=>!ltE x d[a]!) (d:=d) (i:=scanUp (fun x=>ltE x d[a]!) d j i) (m:=j) (by omega)
      (fun k hkm hk=>by
        rw [Ffbf_le_eq,Ffbf_le_F]
        simp only [decide_eq_true (show ((scanUp (fun x=>ltE x d[a]!) d j i : Nat) : Int) ≤ (k : Int) by omega),cond_true,gA ha,gA (show k < d.size by omega),Option.bind_some,less_val,bindL_inr,show w64 ((k : Int) - 1)=(k : Int) - 1 from w64_id (by omega) (by omega)]
        try rfl)
      (fun k hk=>by
        rw [Ffbf_le_eq,Ffbf_le_F]
        simp only [decide_eq_false (show ¬ ((scanUp (fun x=>ltE x d[a]!) d j i : Nat) : Int) ≤ (k : Int) by omega),cond_false,bindL_inr]) j (Nat.le_refl j),bindL_inr]
    generalize scanUp (fun x=>ltE x d[a]!) d j i=i2 at *
    generalize scanDown (fun x=>!ltE x d[a]!) d i2 j=j2 at *
    by_cases hq : i2 > j2
    · simp only [decide_eq_true (show (i2 : Int) > (j2 : Int) by omega),cond_true]
      rw [if_pos hq]
    · simp only [decide_eq_false (show ¬ (i2 : Int) > (j2 : Int) by omega),cond_false,gA (show j2 < d.size by omega),gA (show i2 < d.size by omega),Option.bind_some,gSb (show j2 < d.size by omega),sA,w64_succ (show i2 < 9223372036854775807 by omega),show w64 ((j2 : Int) - 1)=((j2 - 1 : Nat) : Int) from by rw [w64_id (by omega) (by omega)]; omega]
      rw [if_neg hq]
      exact ih (i2 + 1) (j2 - 1) _ (by omega) (by omega) (by rw [size_swp]; exact ha) (by rw [size_swp]; omega) (by rw [size_swp]; exact hs)
theorem partLoop_facts (a : Nat) : ∀ (n i j : Nat) (d : Array Int),j + 1 - i ≤ n→(partLoop ltE a i j d).2.size=d.size ∧ (partLoop ltE a i j d).1 ≤ j:=by
  intro n
  induction n with
  | zero =>
    intro i j d h
    have hu:=scanUp_ge (fun x=>ltE x d[a]!) d j i
    have hd:=scanDown_ge (p:=fun x=>!ltE x d[a]!) (d:=d) (i:=scanUp (fun x=>ltE x d[a]!) d j i) (j:=j)
    rw [partLoop_eq,if_pos (by omega)]
    exact ⟨rfl,hd⟩
  | succ n ih =>
    intro i j d h
    have hu:=scanUp_ge (fun x=>ltE x d[a]!) d j i
    have hd:=scanDown_ge (p:=fun x=>!ltE x d[a]!) (d:=d) (i:=scanUp (fun x=>ltE x d[a]!) d j i) (j:=j)
    rw [partLoop_eq]
    split
    · exact ⟨rfl,hd⟩
    · obtain ⟨e1,e2⟩:=ih (scanUp (fun x=>ltE x d[a]!) d j i + 1) (scanDown (fun x=>!ltE x d[a]!) d (scanUp (fun x=>ltE x d[a]!) d j i) j - 1) (swp d (scanUp (fun x=>ltE x d[a]!) d j i) (scanDown (fun x=>!ltE x d[a]!) d (scanUp (fun x=>ltE x d[a]!) d j i) j)) (by omega)
      exact ⟨by rw [e1,size_swp],by omega⟩
theorem partition_size (d : Array Int) (a b p : Nat) : (partition ltE d a b p).2.2.size=d.size:=by
  unfold partition
  simp only []
  split
  · simp only [size_swp]
  · simp only [size_swp,(partLoop_facts a _ _ _ _ (Nat.le_refl _)).1]
theorem gen_part (d : Array Int) (a b p : Nat) (h1 : a < b) (hb : b ≤ d.size) (hp : p < d.size) (hs : d.size ≤ 1048576) : Ffbf d.toList (a : Int) (b : Int) (p : Int) = some (((partition ltE d a b p).1 : Int), (partition ltE d a b p).2.1, (partition ltE d a b p).2.2.toList) := by
  have hz := partition_size d a b p
  unfold Ffbf
  have ha : a < d.size := by omega
  have w : w64 ((b : Int) - 1) = ((b - 1 : Nat) : Int) := by rw [w64_id (by omega) (by omega)]; omega
  simp only [gA hp, gA ha, Option.bind_some, gSb hp, sA, w64_succ (show a < 9223372036854775807 by omega)]
  unfold partition at hz ⊢
  simp only [] at hz ⊢
  have hg : (swp d a p).size = d.size := size_swp d a p
  generalize hD : swp d a p = d1 at *
  have e0 : setI (setI d.toList (a : Int) d[p]!) (p : Int) d[a]! = d1.toList := by rw [sA, hD]
  have hu := scanUp_ge (fun x => ltE x d1[a]!) d1 (b - 1) (a + 1)
  have hd := scanDown_ge (p := fun x => !ltE x d1[a]!) (d := d1) (i := scanUp (fun x => ltE x d1[a]!) d1 (b - 1) (a + 1)) (j := b - 1)
  rw [scanUpG (L := Ffbf_la d.toList (a : Int) (b : Int) (p : Int) d[p]! d[a]!) (out := fun k => ((k : Int), ((b - 1 : Nat) : Int))) (p := fun x => ltE x d1[a]!) (d := d1) (j := b - 1)
      (fun k hk => by
        rw [Ffbf_la_eq, Ffbf_la_F]
        simp only [w, decide_eq_true (show (k : Int) ≤ ((b - 1 : Nat) : Int) by omega), cond_true, e0, gA (show a < d1.size by omega), gA (show k < d1.size by omega), Option.bind_some, less_val, bindL_inr, w64_succ (show k < 9223372036854775807 by omega)]
        try rfl)
      (fun k hk => by
        rw [Ffbf_la_eq, Ffbf_la_F]
        simp only [w, decide_eq_false (show ¬ (k : Int) ≤ ((b - 1 : Nat) : Int) by omega), cond_false, bindL_inr]) _ (a + 1) (Nat.le_refl _), bindJ_inr]
  simp only []
  rw [scanDownG (L := Ffbf_lb d.toList (a : Int) (b : Int) (p : Int) (((scanUp (fun x => ltE x d1[a]!) d1 (b - 1) (a + 1) : Nat) : Int), ((b - 1 : Nat) : Int)) d[p]! d[a]!) (out := fun k => (k : Int)) (p := fun x => !ltE x d1[a]!) (d := d1) (i := scanUp (fun x => ltE x d1[a]!) d1 (b - 1) (a + 1)) (m := b - 1) (by omega)
      (fun k hkm hk => by
        rw [Ffbf_lb_eq, Ffbf_lb_F]
        simp only [decide_eq_true (show ((scanUp (fun x => ltE x d1[a]!) d1 (b - 1) (a + 1) : Nat) : Int) ≤ (k : Int) by omega), cond_true, e0, gA (show a < d1.size by omega), gA (show k < d1.size by omega), Option.bind_some, less_val, bindL_inr, show w64 ((k : Int) - 1) = (k : Int) - 1 from w64_id (by omega) (by omega)]
        try rfl)
      (fun k hk => by
        rw [Ffbf_lb_eq, Ffbf_lb_F]
        simp only [decide_eq_false (show ¬ ((scanUp (fun x => ltE x d1[a]!) d1 (b - 1) (a + 1) : Nat) : Int) ≤ (k : Int) by omega), cond_false, bindL_inr]) (b - 1) (Nat.le_refl _), bindJ_inr]
  generalize scanUp (fun x => ltE x d1[a]!) d1 (b - 1) (a + 1) = i2 at *
  generalize scanDown (fun x => !ltE x d1[a]!) d1 i2 (b - 1) = j2 at *
  have ha1 : a < d1.size := by omega
  by_cases hq : i2 > j2
  · rw [if_pos hq] at hz ⊢
    simp only [decide_eq_true (show (i2 : Int) > (j2 : Int) by omega), cond_true, gA (show j2 < d1.size by omega), gA ha1, Option.bind_some, gSb ha1, sA]
    rw [beqA (by rw [size_swp]; exact hg), cond_true]
  · rw [if_neg hq] at hz ⊢
    simp only [decide_eq_false (show ¬ (i2 : Int) > (j2 : Int) by omega), cond_false, gA (show j2 < d1.size by omega), gA (show i2 < d1.size by omega), Option.bind_some, gSb (show j2 < d1.size by omega), sA, w64_succ (show i2 < 9223372036854775807 by omega), show w64 ((j2 : Int) - 1) = ((j2 - 1 : Nat) : Int) from by rw [w64_id (by omega) (by omega)]; omega]
    rw [part_lc d.toList (b : Int) (p : Int) a _ (i2 + 1) (j2 - 1) _ (Nat.le_refl _) (by omega) (by rw [size_swp]; exact ha1) (by rw [size_swp]; omega) (by rw [size_swp]; omega), bindJ_inr]
    obtain ⟨f1, f2⟩ := partLoop_facts a _ (i2 + 1) (j2 - 1) (swp d1 i2 j2) (Nat.le_refl _)
    rw [size_swp] at f1
    generalize partLoop ltE a (i2 + 1) (j2 - 1) (swp d1 i2 j2) = R at *
    simp only [gA (show a < R.2.size by omega), gA (show R.1 < R.2.size by omega), Option.bind_some, gSb (show a < R.2.size by omega), sA]
    rw [beqA (by rw [size_swp]; omega), cond_true]
/-! the partial insertion sort -/
theorem scanSorted_b (d : Array Int) (b : Nat) : ∀ (n i : Nat),b - i ≤ n→i ≤ b→i ≤ scanSorted ltE d b i ∧ scanSorted ltE d b i ≤ b
  | n,i,h,hi=>by
    rw [scanSorted]
    split
    · rename_i hc
      simp only [Bool.and_eq_true,decide_eq_true_eq] at hc
      match n,h with
      | 0,h=>omega
      | n + 1,h =>
        have:=scanSorted_b d b n (i + 1) (by omega) (by omega)
        omega
    · omega
theorem pis_lb (D : List Int) (A B : Int) (b : Nat) (d : Array Int) (X : Int × Int × Int × Int × List Int) (hX : X.2.1=(b : Int)) (hz : X.2.2.2.2=d.toList) (hb : b ≤ d.size) (hs : d.size ≤ 1048576) : ∀ (n i : Nat),b - i ≤ n→1 ≤ i→Ffbd_lb D A B X (i : Int)=some (.inr ((scanSorted ltE d b i : Nat) : Int))
  | n,i,h,h1=>by
    rw [Ffbd_lb_eq,Ffbd_lb_F,scanSorted,hX,hz]
    by_cases hi : i < b
    · rw [decide_eq_true (show (i : Int) < (b : Int) by omega),decide_eq_true hi,cond_true,Bool.true_and,show w64 ((i : Int) - 1)=((i - 1 : Nat) : Int) from by rw [w64_id (by omega) (by omega)]; omega,gA (show i < d.size by omega),Option.bind_some,gA (show i - 1 < d.size by omega),Option.bind_some,less_val,Option.bind_some,bindL_inr,w64_succ (by omega)]
      rw [show ltE d[i]! d[i - 1]! = ltE d[i]! d[i - 1]! from rfl]
      match n,h with
      | 0,h=>omega
      | n + 1,h =>
        cases ltE d[i]! d[i - 1]! with
        | true=>rfl
        | false=>rw [Bool.not_false,cond_true,if_pos rfl]; exact pis_lb D A B b d X hX hz hb hs n (i + 1) (by omega) (by omega)
    · rw [decide_eq_false (show ¬ (i : Int) < (b : Int) by omega),decide_eq_false hi,cond_false,bindL_inr,cond_false,Bool.false_and]
      rfl
theorem shiftUp_size (b : Nat) : ∀ (n j : Nat) (d : Array Int),b - j ≤ n→(shiftUp ltE b j d).size=d.size
  | n,j,d,h=>by
    rw [shiftUp]
    split
    · split
      · rfl
      · match n,h with
        | 0,h=>omega
        | n + 1,h=>rw [shiftUp_size b n (j + 1) _ (by omega),size_swp]
    · rfl
theorem shiftDown_size : ∀ (j : Nat) (d : Array Int),(shiftDown ltE j d).size=d.size
  | 0,d=>rfl
  | j + 1,d=>by
    rw [shiftDown]
    split
    · rfl
    · rw [shiftDown_size j,size_swp]
theorem pis_lc (D : List Int) (A B U : Int) (b : Nat) (X : Int × Int × Int × Int × List Int) (hX : X.2.1=(b : Int)) : ∀ (n j : Nat) (d : Array Int),b - j ≤ n→1 ≤ j→b ≤ d.size→d.size ≤ 1048576→Ffbd_lc D A B X U ((j : Int),d.toList)=some (.inr (shiftUp ltE b j d).toList)
  | n,j,d,h,h1,hb,hs=>by
    rw [Ffbd_lc_eq,Ffbd_lc_F,shiftUp]
    by_cases hj : j < b
    · have w : w64 ((j : Int) - 1)=((j - 1 : Nat) : Int):=by rw [w64_id (by omega) (by omega)]; omega
      simp only [hX,decide_eq_true (show (j : Int) < (b : Int) by omega),cond_true,w,gA (show j < d.size by omega),gA (show j - 1 < d.size by omega),Option.bind_some,less_val,gSb (show j - 1 < d.size by omega),sA,w64_succ (show j < 9223372036854775807 by omega)]
      rw [if_pos hj]
      rw [show ltE d[j]! d[j - 1]! = ltE d[j]! d[j - 1]! from rfl]
      match n,h with
      | 0,h=>omega
      | n + 1,h =>
        cases ltE d[j]! d[j - 1]! with
        | false=>rfl
        | true=>rw [Bool.not_true,cond_false,if_neg (by decide)]; exact pis_lc D A B U b X hX n (j + 1) _ (by omega) (by omega) (by rw [size_swp]; exact hb) (by rw [size_swp]; exact hs)
    · simp only [hX,decide_eq_false (show ¬ (j : Int) < (b : Int) by omega),cond_false]
      rw [if_neg hj]
theorem pis_ld (D : List Int) (A B U : Int) (X : Int × Int × Int × Int × List Int) : ∀ (j : Nat) (d : Array Int),j < d.size→d.size ≤ 1048576→Ffbd_ld D A B X U ((j : Int),d.toList)=some (.inr (shiftDown ltE j d).toList)
  | 0,d,hj,hs=>by
    rw [Ffbd_ld_eq,Ffbd_ld_F]
    rfl
  | j + 1,d,hj,hs=>by
    have w : w64 (((j + 1 : Nat) : Int) - 1)=(j : Int):=by rw [w64_id (by omega) (by omega)]; omega
    rw [Ffbd_ld_eq,Ffbd_ld_F,shiftDown]
    simp only [decide_eq_true (show ((j + 1 : Nat) : Int) ≥ 1 by omega),cond_true,w,gA hj,gA (show j < d.size by omega),Option.bind_some,less_val,gSb (show j < d.size by omega),sA]
    rw [show ltE d[j + 1]! d[j]! = ltE d[j + 1]! d[j]! from rfl]
    cases ltE d[j + 1]! d[j]! with
    | false=>rfl
    | true=>rw [Bool.not_true,cond_false,if_neg (by decide)]; exact pis_ld D A B U X j _ (by rw [size_swp]; omega) (by rw [size_swp]; exact hs)
theorem partialIns_size (a b : Nat) : ∀ (s i : Nat) (d : Array Int),(partialIns ltE a b s i d).1.size=d.size
  | 0,i,d=>rfl
  | s + 1,i,d=>by
    rw [partialIns]
    simp only []
    split
    · rfl
    · split
      · rfl
      · rw [partialIns_size a b s]
        split
        · rw [shiftUp_size _ _ _ _ (Nat.le_refl _)]
          split
          · rw [shiftDown_size,size_swp]
          · rw [size_swp]
        · split
          · rw [shiftDown_size,size_swp]
          · rw [size_swp]
theorem pis_la (D : List Int) (A B : Int) (a b : Nat) (hab : a < b) : ∀ (s i : Nat) (d : Array Int), s ≤ 5 → a + 1 ≤ i → i ≤ b → b ≤ d.size → d.size ≤ 1048576 → D.length = d.size →
    ∃ y, Ffbd_la D A B ((a : Int), (b : Int), (i : Int), (5 : Int) - (s : Int), d.toList) = some y ∧ (y = .inl ((partialIns ltE a b s i d).2, (partialIns ltE a b s i d).1.toList) ∨ (y = .inr (partialIns ltE a b s i d).1.toList ∧ (partialIns ltE a b s i d).2 = false))
  | 0, i, d, h5, hi, hib, hb, hs, hD => by
    rw [Ffbd_la_eq, Ffbd_la_F]
    simp only [decide_eq_false (show ¬ (5 : Int) - ((0 : Nat) : Int) < 5 by omega), cond_false]
    exact ⟨_, rfl, .inr ⟨rfl, rfl⟩⟩
  | s + 1, i, d, h5, hi, hib, hb, hs, hD => by
    have hsc := scanSorted_b d b _ i (Nat.le_refl _) hib
    have hbq : Nat.beq d.toList.length D.length = true := by rw [hD, Array.length_toList, Nat.beq_refl]
    have wba : w64 ((b : Int) - (a : Int)) = ((b - a : Nat) : Int) := by rw [w64_id (by omega) (by omega)]; omega
    rw [Ffbd_la_eq, Ffbd_la_F]
    simp only [decide_eq_true (show (5 : Int) - ((s + 1 : Nat) : Int) < 5 by omega), cond_true]
    rw [pis_lb D A B b d _ rfl rfl hb hs _ i (Nat.le_refl _) (by omega), bindL_inr, partialIns]
    simp only []
    generalize scanSorted ltE d b i = k at *
    by_cases hk : k = b
    · rw [beq_iff_eq.2 (show (k : Int) = (b : Int) by omega), cond_true, hbq, cond_true, if_pos hk]
      exact ⟨_, rfl, .inl rfl⟩
    rw [beq_eq_false_iff_ne.2 (show (k : Int) ≠ (b : Int) by omega), cond_false, if_neg hk, wba]
    by_cases h50 : b - a < 50
    · rw [decide_eq_true (show ((b - a : Nat) : Int) < 50 by omega), cond_true, hbq, cond_true, if_pos h50]
      exact ⟨_, rfl, .inl rfl⟩
    rw [decide_eq_false (show ¬ ((b - a : Nat) : Int) < 50 by omega), cond_false, if_neg h50]
    have w : w64 ((k : Int) - 1) = ((k - 1 : Nat) : Int) := by rw [w64_id (by omega) (by omega)]; omega
    have wka : w64 ((k : Int) - (a : Int)) = ((k - a : Nat) : Int) := by rw [w64_id (by omega) (by omega)]; omega
    have wbk : w64 ((b : Int) - (k : Int)) = ((b - k : Nat) : Int) := by rw [w64_id (by omega) (by omega)]; omega
    have w5 : w64 ((5 : Int) - ((s + 1 : Nat) : Int) + 1) = (5 : Int) - (s : Int) := by rw [w64_id (by omega) (by omega)]; omega
    simp only [w, wka, wbk, w5, gA (show k < d.size by omega), gA (show k - 1 < d.size by omega), Option.bind_some, gSb (show k - 1 < d.size by omega), sA, w64_succ (show k < 9223372036854775807 by omega)]
    have hz : (swp d k (k - 1)).size = d.size := size_swp d k (k - 1)
    generalize swp d k (k - 1) = d1 at *
    have e1 : (bif decide (((k - a : Nat) : Int) ≥ 2) then (bindL (ρ := Bool × List Int) (Ffbd_ld D A B ((a : Int), (b : Int), (i : Int), (5 : Int) - ((s + 1 : Nat) : Int), d.toList) (k : Int) (((k - 1 : Nat) : Int), d1.toList)) fun u60 : List Int => some (.inr u60)) else some (.inr d1.toList)) = some (.inr (if k - a ≥ 2 then shiftDown ltE (k - 1) d1 else d1).toList) := by
      by_cases h2 : k - a ≥ 2
      · rw [decide_eq_true (show ((k - a : Nat) : Int) ≥ 2 by omega), cond_true, if_pos h2, pis_ld D A B _ _ (k - 1) d1 (by omega) (by omega), bindL_inr]
      · rw [decide_eq_false (show ¬ ((k - a : Nat) : Int) ≥ 2 by omega), cond_false, if_neg h2]
    rw [e1, bindL_inr]
    have hz2 : (if k - a ≥ 2 then shiftDown ltE (k - 1) d1 else d1).size = d.size := by
      split
      · rw [shiftDown_size, hz]
      · exact hz
    generalize (if k - a ≥ 2 then shiftDown ltE (k - 1) d1 else d1) = d2 at *
    have e2 : (bif decide (((b - k : Nat) : Int) ≥ 2) then (bindL (ρ := Bool × List Int) (Ffbd_lc D A B ((a : Int), (b : Int), (i : Int), (5 : Int) - ((s + 1 : Nat) : Int), d.toList) (k : Int) (((k + 1 : Nat) : Int), d2.toList)) fun u42 : List Int => some (.inr u42)) else some (.inr d2.toList)) = some (.inr (if b - k ≥ 2 then shiftUp ltE b (k + 1) d2 else d2).toList) := by
      by_cases h2 : b - k ≥ 2
      · rw [decide_eq_true (show ((b - k : Nat) : Int) ≥ 2 by omega), cond_true, if_pos h2, pis_lc D A B _ b _ rfl _ (k + 1) d2 (Nat.le_refl _) (by omega) (by omega) (by omega), bindL_inr]
      · rw [decide_eq_false (show ¬ ((b - k : Nat) : Int) ≥ 2 by omega), cond_false, if_neg h2]
    rw [e2, bindL_inr]
    have hz3 : (if b - k ≥ 2 then shiftUp ltE b (k + 1) d2 else d2).size = d.size := by
      split
      · rw [shiftUp_size _ _ _ _ (Nat.le_refl _), hz2]
      · exact hz2
    exact pis_la D A B a b hab s k _ (by omega) (by omega) (by omega) (by omega) (by omega) (by omega)
theorem gen_pis (d : Array Int) (a b : Nat) (hab : a < b) (hb : b ≤ d.size) (hs : d.size ≤ 1048576) : Ffbd d.toList (a : Int) (b : Int)=some ((partialInsertionSort ltE d a b).2,(partialInsertionSort ltE d a b).1.toList):=by
  unfold Ffbd partialInsertionSort
  obtain ⟨y,hy,hq⟩:=pis_la d.toList (a : Int) (b : Int) a b hab 5 (a + 1) d (Nat.le_refl _) (Nat.le_refl _) (by omega) hb hs Array.length_toList
  rw [w64_succ (by omega),show Ffbd_la d.toList (a : Int) (b : Int) ((a : Int),(b : Int),((a + 1 : Nat) : Int),0,d.toList)=some y from hy]
  rcases hq with rfl | ⟨rfl,h2⟩
  · rfl
  · rw [bindJ_inr,beqA (partialIns_size a b 5 (a + 1) d),cond_true,h2]
/-! the whole of it -/
theorem pdq_of_la (h : SWO ltE) (d : Array Int) (a b limit : Nat) {R : Array Int} (hz : R.size = d.size)
    (e : Ffbg_la (fixO Ffbg_G) d.toList (a : Int) (b : Int) (limit : Int) ((a : Int), (b : Int), (limit : Int), true, true, d.toList) = some (.inl R.toList)) :
    fixO Ffbg_G (d.toList, (a : Int), (b : Int), (limit : Int)) = some R.toList := by
  have := Ffbg_eq d.toList (a : Int) (b : Int) (limit : Int)
  unfold Ffbg at this
  rw [this]
  unfold Ffbg_B
  rw [e, bindJ_inl]
theorem pdq_la (h : SWO ltE) : ∀ (n a b limit : Nat) (wb wp : Bool) (d : Array Int) (D : List Int) (A B Lm : Int), b - a ≤ n → a ≤ b → b ≤ d.size → d.size ≤ 1048576 → limit ≤ 1000 → D.length = d.size → Below ltE a b d →
    ∃ R : Array Int, Ffbg_la (fixO Ffbg_G) D A B Lm ((a : Int), (b : Int), (limit : Int), wb, wp, d.toList) = some (.inl R.toList) ∧ PermIn a b d R ∧ SortedIn ltE a b R := by
  intro n
  induction n with
  | zero =>
    intro a b limit wb wp d D A B Lm hn hab hb hs hl hD hB
    have hi := insertionSort_holds (lt := ltE) h d a b hab hb
    refine ⟨insertionSort ltE d a b, ?_, hi⟩
    rw [Ffbg_la_eq, Ffbg_la_F]
    simp only [show w64 ((b : Int) - (a : Int)) = ((b - a : Nat) : Int) from by rw [w64_id (by omega) (by omega)]; omega, decide_eq_true (show ((b - a : Nat) : Int) ≤ 12 by omega), cond_true]
    rw [gen_ins d a b hb hab hs, Option.bind_some, beqA hi.1.1, cond_true, show Nat.beq (insertionSort ltE d a b).toList.length D.length = true from by rw [hD, Array.length_toList, hi.1.1, Nat.beq_refl], cond_true]
  | succ n ih =>
    intro a b limit wb wp d D A B Lm hn hab hb hs hl hD hB
    have wba : w64 ((b : Int) - (a : Int)) = ((b - a : Nat) : Int) := by rw [w64_id (by omega) (by omega)]; omega
    have hDq : ∀ R : Array Int, R.size = d.size → Nat.beq R.toList.length D.length = true := fun R hR => by rw [hD, Array.length_toList, hR, Nat.beq_refl]
    rw [Ffbg_la_eq, Ffbg_la_F]
    simp only [wba]
    by_cases h12 : b - a ≤ 12
    · have hi := insertionSort_holds (lt := ltE) h d a b hab hb
      refine ⟨insertionSort ltE d a b, ?_, hi⟩
      rw [decide_eq_true (show ((b - a : Nat) : Int) ≤ 12 by omega), cond_true, gen_ins d a b hb hab hs, Option.bind_some, beqA hi.1.1, cond_true, hDq _ hi.1.1, cond_true]
    rw [decide_eq_false (show ¬ ((b - a : Nat) : Int) ≤ 12 by omega), cond_false]
    by_cases hl0 : limit = 0
    · have hi := heapSort_holds (lt := ltE) h d a b hab hb
      refine ⟨heapSort ltE d a b, ?_, hi⟩
      rw [beq_iff_eq.2 (show (limit : Int) = 0 by omega), cond_true, gen_heap d a b (by omega) hb hs, Option.bind_some, beqA hi.1.1, cond_true, hDq _ hi.1.1, cond_true]
    rw [beq_eq_false_iff_ne.2 (show (limit : Int) ≠ 0 by omega), cond_false]
    -- the patterns
    obtain ⟨l1, d1, e1, s1, hl1⟩ : ∃ (l1 : Nat) (d1 : Array Int), (bif !wb then ((Ffv d.toList (a : Int) (b : Int)).bind fun r37 => bif Nat.beq r37.length d.toList.length then (some (Sum.inr (α := List Int) (w64 ((limit : Int) - 1), r37))) else none) else (some (.inr ((limit : Int), d.toList)))) = some (.inr ((l1 : Int), d1.toList)) ∧ PermIn a b d d1 ∧ l1 ≤ limit := by
      cases wb with
      | true => exact ⟨limit, d, rfl, permIn_refl d a b, Nat.le_refl _⟩
      | false =>
        refine ⟨limit - 1, breakPatterns d a b, ?_, breakPatterns_holds d a b hab hb, by omega⟩
        rw [Bool.not_false, cond_true, gen_brk d a b hab hb hs, Option.bind_some, beqA (breakPatterns_size d a b), cond_true, show w64 ((limit : Int) - 1) = ((limit - 1 : Nat) : Int) from by rw [w64_id (by omega) (by omega)]; omega]
    rw [e1, bindL_inr]
    have z1 : d1.size = d.size := s1.1
    have b1 : b ≤ d1.size := by rw [z1]; exact hb
    have hc0 := choosePivot_holds ltE d1 a b (by omega)
    simp only []
    rw [gen_pivot d1 a b (by omega) b1 (by omega), Option.bind_some]
    obtain ⟨pv, hint, d2, e2, s2, hp1, hp2⟩ : ∃ (pv : Nat) (hint : Int) (d2 : Array Int), (bif (hintCode (choosePivot ltE d1 a b).2 == 2) then ((Ffbh d1.toList (a : Int) (b : Int)).bind fun r35 => bif Nat.beq r35.length d1.toList.length then (some (Sum.inr (α := List Int) ((w64 ((w64 ((b : Int) - 1)) - (w64 (((choosePivot ltE d1 a b).1 : Int) - (a : Int))))), (1 : Int), r35))) else none) else (some (.inr (((choosePivot ltE d1 a b).1 : Int), hintCode (choosePivot ltE d1 a b).2, d1.toList)))) = some (.inr ((pv : Int), hint, d2.toList)) ∧ PermIn a b d1 d2 ∧ a ≤ pv ∧ pv < b := by
      cases hq : (hintCode (choosePivot ltE d1 a b).2 == 2) with
      | true =>
        refine ⟨(b - 1) - ((choosePivot ltE d1 a b).1 - a), 1, reverseRange d1 a b, ?_, reverseRange_holds d1 a b hab b1, by omega, by omega⟩
        rw [cond_true, gen_rev d1 a b b1 (by omega) (by omega), Option.bind_some, beqA (reverseRange_holds d1 a b hab b1).1, cond_true, show w64 ((b : Int) - 1) = ((b - 1 : Nat) : Int) from by rw [w64_id (by omega) (by omega)]; omega, show w64 (((choosePivot ltE d1 a b).1 : Int) - (a : Int)) = (((choosePivot ltE d1 a b).1 - a : Nat) : Int) from by rw [w64_id (by omega) (by omega)]; omega, show w64 (((b - 1 : Nat) : Int) - (((choosePivot ltE d1 a b).1 - a : Nat) : Int)) = (((b - 1) - ((choosePivot ltE d1 a b).1 - a) : Nat) : Int) from by rw [w64_id (by omega) (by omega)]; omega]
      | false => exact ⟨_, _, d1, rfl, permIn_refl d1 a b, hc0.1, hc0.2⟩
    simp only []
    rw [e2, bindL_inr]
    have z2 : d2.size = d.size := by rw [s2.1, z1]
    have b2 : b ≤ d2.size := by rw [z2]; exact hb
    have B2 : Below ltE a b d2 := (hB.perm hb s1).perm b1 s2
    simp only [letJ_eq]
    generalize (bif wb then (bif wp then (hint == 1) else false) else false) = u16
    have hpi := partialInsertionSort_holds (lt := ltE) h d2 a b (by omega) b2 B2
    obtain ⟨y, e3, hy⟩ : ∃ y : List Int ⊕ List Int, (bif u16 then ((Ffbd d2.toList (a : Int) (b : Int)).bind fun r31 => bif Nat.beq r31.2.length d2.toList.length then (bif r31.1 then (bif Nat.beq r31.2.length D.length then (some (.inl r31.2)) else none) else (some (.inr r31.2))) else none) else (some (.inr d2.toList))) = some y ∧ ((∃ R : Array Int, y = .inl R.toList ∧ PermIn a b d2 R ∧ SortedIn ltE a b R) ∨ ∃ d3 : Array Int, y = .inr d3.toList ∧ PermIn a b d2 d3) := by
      cases u16 with
      | false => exact ⟨_, rfl, .inr ⟨d2, rfl, permIn_refl d2 a b⟩⟩
      | true =>
        rw [cond_true, gen_pis d2 a b (by omega) b2 (by omega), Option.bind_some]
        simp only []
        rw [beqA hpi.1.1, cond_true]
        cases hq : (partialInsertionSort ltE d2 a b).2 with
        | true =>
          rw [cond_true, hDq _ (by rw [hpi.1.1, z2]), cond_true]
          exact ⟨_, rfl, .inl ⟨_, rfl, hpi.1, hpi.2 hq⟩⟩
        | false => exact ⟨_, rfl, .inr ⟨_, rfl, hpi.1⟩⟩
    rw [e3]
    rcases hy with ⟨R, rfl, r1, r2⟩ | ⟨d3, rfl, s3⟩
    · rw [bindL_inl]
      exact ⟨R, rfl, permIn_trans _ _ _ a b (permIn_trans _ _ _ a b s1 s2) r1, r2⟩
    rw [bindL_inr]
    have z3 : d3.size = d.size := by rw [s3.1, z2]
    have b3 : b ≤ d3.size := by rw [z3]; exact hb
    have B3 : Below ltE a b d3 := B2.perm b2 s3
    have P3 : PermIn a b d d3 := permIn_trans _ _ _ a b (permIn_trans _ _ _ a b s1 s2) s3
    obtain ⟨u18, e4, h18⟩ : ∃ u18 : Bool, (bif decide ((a : Int) > 0) then ((getI d3.toList (w64 ((a : Int) - 1))).bind fun e28 => (getI d3.toList (pv : Int)).bind fun e29 => (Ffa e28 e29).bind fun r30 => some (Sum.inr (α := List Int) (!r30))) else (some (.inr false))) = some (.inr u18) ∧ (u18 = true → 0 < a ∧ ltE d3[a - 1]! d3[pv]! = false) := by
      by_cases ha : 0 < a
      · rw [decide_eq_true (show (a : Int) > 0 by omega), cond_true, show w64 ((a : Int) - 1) = ((a - 1 : Nat) : Int) from by rw [w64_id (by omega) (by omega)]; omega, gA (show a - 1 < d3.size by omega), Option.bind_some, gA (show pv < d3.size by omega), Option.bind_some, less_val, Option.bind_some]
        refine ⟨_, rfl, fun hh => ⟨ha, ?_⟩⟩
        simpa [ltE] using hh
      · rw [decide_eq_false (show ¬ (a : Int) > 0 by omega), cond_false]
        exact ⟨_, rfl, fun hh => by cases hh⟩
    rw [e4, bindL_inr]
    cases u18 with
    | true =>
      obtain ⟨ha, hnl⟩ := h18 rfl
      obtain ⟨g1, g2, z4, hB4, hfin⟩ := round_eq h (partitionEqual_holds ltE) (mid := (partitionEqual ltE d3 a b pv).1) (d4 := (partitionEqual ltE d3 a b pv).2) ha hp1 hp2 b3 B3 hnl rfl
      rw [cond_true, gen_partEq d3 a b pv (by omega) b3 (by omega) (by omega), Option.bind_some]
      simp only []
      rw [beqA z4, cond_true]
      obtain ⟨R, e, r1, r2⟩ := ih (partitionEqual ltE d3 a b pv).1 b l1 wb wp (partitionEqual ltE d3 a b pv).2 D A B Lm (by omega) g2 (by omega) (by omega) (by omega) (by omega) hB4
      obtain ⟨q1, q2⟩ := hfin _ r1 r2
      exact ⟨R, e, permIn_trans _ _ _ a b P3 q1, q2⟩
    | false =>
      obtain ⟨g1, g2, z4, hBa, hBr, hleft, hright⟩ := round_part h (partition_holds ltE) (mid := (partition ltE d3 a b pv).1) (ap := (partition ltE d3 a b pv).2.1) (d4 := (partition ltE d3 a b pv).2.2) hp1 hp2 b3 B3 rfl
      rw [cond_false, gen_part d3 a b pv (by omega) b3 (by omega) (by omega), Option.bind_some]
      simp only []
      rw [beqA z4, cond_true]
      generalize partition ltE d3 a b pv = P at *
      have wm1 : w64 ((P.1 : Int) - (a : Int)) = ((P.1 - a : Nat) : Int) := by rw [w64_id (by omega) (by omega)]; omega
      have wm2 : w64 ((b : Int) - (P.1 : Int)) = ((b - P.1 : Nat) : Int) := by rw [w64_id (by omega) (by omega)]; omega
      rw [wm1, wm2, w64_succ (show P.1 < 9223372036854775807 by omega)]
      by_cases hlt : P.1 - a < b - P.1
      · rw [decide_eq_true (show ((P.1 - a : Nat) : Int) < ((b - P.1 : Nat) : Int) by omega), cond_true]
        obtain ⟨L, e, p1, p2⟩ := ih a P.1 l1 true true P.2.2 P.2.2.toList (a : Int) (P.1 : Int) (l1 : Int) (by omega) g1 (by omega) (by omega) (by omega) Array.length_toList hBa
        obtain ⟨hBL, hfin⟩ := hleft _ p1 p2
        rw [pdq_of_la h P.2.2 a P.1 l1 p1.1 e, Option.bind_some, beqA p1.1, cond_true, bindL_inr]
        obtain ⟨R, e', r1, r2⟩ := ih (P.1 + 1) b l1 (decide (((P.1 - a : Nat) : Int) ≥ w64 (((b - a : Nat) : Int).tdiv 8))) P.2.1 L D A B Lm (by omega) (by omega) (by rw [p1.1]; omega) (by rw [p1.1]; omega) (by omega) (by rw [p1.1]; omega) hBL
        obtain ⟨q1, q2⟩ := hfin _ r1 r2
        exact ⟨R, e', permIn_trans _ _ _ a b P3 q1, q2⟩
      · rw [decide_eq_false (show ¬ ((P.1 - a : Nat) : Int) < ((b - P.1 : Nat) : Int) by omega), cond_false]
        obtain ⟨L, e, p1, p2⟩ := ih (P.1 + 1) b l1 true true P.2.2 P.2.2.toList ((P.1 + 1 : Nat) : Int) (b : Int) (l1 : Int) (by omega) (by omega) (by omega) (by omega) (by omega) Array.length_toList hBr
        obtain ⟨hBL, hfin⟩ := hright _ p1 p2
        rw [pdq_of_la h P.2.2 (P.1 + 1) b l1 p1.1 e, Option.bind_some, beqA p1.1, cond_true, bindL_inr]
        obtain ⟨R, e', r1, r2⟩ := ih a P.1 l1 (decide (((b - P.1 : Nat) : Int) ≥ w64 (((b - a : Nat) : Int).tdiv 8))) P.2.1 L D A B Lm (by omega) (by omega) (by rw [p1.1]; omega) (by rw [p1.1]; omega) (by omega) (by rw [p1.1]; omega) hBL
        obtain ⟨q1, q2⟩ := hfin _ r1 r2
        exact ⟨R, e', permIn_trans _ _ _ a b P3 q1, q2⟩
theorem gen_sort (h : SWO ltE) (d : Array Int) (hs : d.size ≤ 1048576) : ∃ R : Array Int,Ffu d.toList=some R.toList ∧ PermIn 0 d.size d R ∧ SortedIn ltE 0 d.size R:=by
  have hb:=bitsLen_24 (n:=d.size) (by omega)
  obtain ⟨R,e,r1,r2⟩:=pdq_la h d.size 0 d.size (bitsLen d.size) true true d d.toList 0 (d.size : Int) ((bitsLen d.size : Nat) : Int) (by omega) (by omega) (Nat.le_refl _) hs (by omega) Array.length_toList (.inl rfl)
  refine ⟨R,?_,r1,r2⟩
  unfold Ffu Ffbg
  rw [show len d.toList=((d.size : Nat) : Int) from by simp [len],u64_nat (by omega),len_val (by omega),Option.bind_some,show (0 : Int)=((0 : Nat) : Int) from rfl,pdq_of_la h d 0 d.size (bitsLen d.size) r1.1 e,Option.bind_some,beqA r1.1,cond_true,cond_true]
end PqI
def ddKeep (a : List Int) (j : Nat) : Bool:=match j with
  | 0=>true
  | j + 1=>match a[j]?,a[j + 1]? with
    | some x,some y=>y != x
    | _,_=>true
def dd (a : List Int) : List Int:=kept (ddKeep a) a a.length
theorem dd_none {a : List Int} (h : ∀ j x y,a[j]?=some x→a[j + 1]?=some y→y ≠ x) {n : Nat} (hn : n ≤ a.length) : kept (ddKeep a) a n=a.take n:=by
  rw [kept_filter (p:=fun _=>true) (fun j x hx=>?_) hn,List.filter_eq_self.2 (fun _ _=>rfl)]
  cases j with
  | zero=>rfl
  | succ j =>
    obtain ⟨h1,_⟩:=List.getElem?_eq_some_iff.1 hx
    have h2:=List.getElem?_eq_getElem (show j < a.length by omega)
    simp only [ddKeep,h2,hx]
    simpa using h j _ _ h2 hx
theorem dd_upto {a : List Int} {k : Nat} (h : ∀ j x y,j + 1 < k→a[j]?=some x→a[j + 1]?=some y→y ≠ x) (hn : k ≤ a.length) : kept (ddKeep a) a k=a.take k:=by
  have e : ∀ n,n ≤ k→kept (ddKeep a) a n=a.take n:=by
    intro n
    induction n with
    | zero=>intro _; rfl
    | succ n ih =>
      intro hk
      have h1 : n < a.length:=by omega
      have hx:=List.getElem?_eq_getElem h1
      rw [kept_yes ?_ hx,ih (by omega),List.take_add_one,hx]
      · rfl
      · cases n with
        | zero=>rfl
        | succ n =>
          have h2:=List.getElem?_eq_getElem (show n < a.length by omega)
          simp only [ddKeep,h2,hx]
          simpa using h n _ _ (by omega) h2 hx
  exact e k (Nat.le_refl k)
theorem getP_at {s z : List Int} {x j : Nat} (h1 : x ≤ j) (h2 : j < s.length) : getP z (0 + Int.toNat (x : Int)) (Int.toNat (len s) - Int.toNat (x : Int)) ((j : Int) - (x : Int))=z[j]?:=by
  unfold getP
  simp only [len,Int.toNat_natCast,Nat.zero_add]
  rw [if_pos (by omega),show x + ((j : Int) - (x : Int)).toNat=j by omega]
theorem compact_rest (s : List Int) (x : Nat) (hl : s.length ≤ 1048576) (hx : x < s.length) (h0 : kept (ddKeep s) s (x + 1)=s.take x) : ∃ (i : Nat) (z : List Int),Ffr_lb s (x : Int) ((x : Int),1,s)=some (.inr ((i : Int),z)) ∧ z.length=s.length ∧ i ≤ z.length ∧ z.take i=dd s:=by
  have hD:=delLoop (L:=fun q : Int × Int × List Int=>Ffr_lb s (x : Int) (q.1,q.2.1 - (x : Int),q.2.2)) (keep:=ddKeep s) (a:=s) (i0:=x)
    (by
      intro i j z y hz hi hij hy hy2 hy3
      obtain ⟨h1,_⟩:=List.getElem?_eq_some_iff.1 hy
      have h2:=List.getElem?_eq_getElem (show j - 1 < s.length by omega)
      have h4:=List.getElem?_eq_getElem (show i < z.length by omega)
      show Ffr_lb s (x : Int) ((i : Int),(j : Int) - (x : Int),z)=bif ddKeep s j then Ffr_lb s (x : Int) (((i + 1 : Nat) : Int),((j + 1 : Nat) : Int) - (x : Int),z.set i y) else Ffr_lb s (x : Int) ((i : Int),((j + 1 : Nat) : Int) - (x : Int),z)
      have w1 : w64 ((j : Int) - (x : Int) - 1)=((j - 1 : Nat) : Int) - (x : Int):=by rw [w64_id (by omega) (by omega)]; omega
      have w2 : w64 ((j : Int) - (x : Int) + 1)=((j + 1 : Nat) : Int) - (x : Int):=by rw [w64_id (by omega) (by omega)]; omega
      have c1 : decide ((j : Int) - (x : Int) < (((Int.toNat (len s) - Int.toNat (x : Int)) : Nat) : Int))=true:=decide_eq_true (by simp only [len,Int.toNat_natCast]; omega)
      rw [Ffr_lb_eq,Ffr_lb_F]
      simp only [c1,cond_true,w1,w2,getP_at (show x ≤ j by omega) h1,getP_at (show x ≤ j - 1 by omega) (show j - 1 < s.length by omega),hy2,hy3,h2,Option.bind_some,getI_nat,setI_nat,h4,w64_succ (show i < 9223372036854775807 by omega)]
      have hk : ddKeep s j=(y != s[j - 1]):=by
        cases j with
        | zero=>omega
        | succ j =>
          simp only [ddKeep,hy,show j + 1 - 1=j by omega] at h2 ⊢
          simp only [h2]
      rw [hk]
      cases y != s[j - 1] <;> rfl)
    (by
      intro i j z hz hi hij hj
      show Ffr_lb s (x : Int) ((i : Int),(j : Int) - (x : Int),z)=_
      have c1 : decide ((j : Int) - (x : Int) < (((Int.toNat (len s) - Int.toNat (x : Int)) : Nat) : Int))=false:=decide_eq_false (by simp only [len,Int.toNat_natCast]; omega)
      rw [Ffr_lb_eq,Ffr_lb_F]
      simp only [c1,cond_false])
    h0 hx
  simp only [show ((x + 1 : Nat) : Int) - (x : Int)=1 by omega] at hD
  exact hD
theorem compact_loop (s : List Int) (hl : s.length ≤ 1048576) : ∀ (n k : Nat),k + n=s.length→1 ≤ k→(∀ j x y,j + 1 < k→s[j]?=some x→s[j + 1]?=some y→y ≠ x)→∃ y,Ffr_la s (k : Int)=some y ∧ (y=.inl (dd s) ∨ y=.inr (dd s))
  | 0,k,hk,h1,h=>by
    refine ⟨.inr s,?_,.inr ?_⟩
    · rw [Ffr_la_eq,Ffr_la_F,lt_len,decide_eq_false (by omega),cond_false]
    · unfold dd
      rw [dd_upto (k:=s.length) (fun j x y hj=>h j x y (by omega)) (Nat.le_refl _),List.take_length]
  | n + 1,k,hk,h1,h=>by
    have h2 : k < s.length:=by omega
    have e1:=List.getElem?_eq_getElem h2
    have e2:=List.getElem?_eq_getElem (show k - 1 < s.length by omega)
    have w1 : w64 ((k : Int) - 1)=((k - 1 : Nat) : Int):=by rw [w64_id (by omega) (by omega)]; omega
    rw [Ffr_la_eq,Ffr_la_F,lt_len,decide_eq_true h2,cond_true,w1,getI_nat,getI_nat,e1,e2,Option.bind_some,Option.bind_some,w64_succ (by omega)]
    by_cases hq : s[k]=s[k - 1]
    · rw [beq_iff_eq.2 hq,cond_true]
      have e3 : subP s.length (k : Int) (len s)=some ():=by unfold subP; rw [if_pos (by simp only [len]; omega)]
      have hno : ddKeep s k=false:=by
        cases k with
        | zero=>omega
        | succ k =>
          simp only [show k + 1 - 1=k by omega] at e2 hq
          simp only [ddKeep,e1,e2,hq,bne_self_eq_false]
      obtain ⟨i,z,e,hz,hi,ht⟩:=compact_rest s k hl h2 (by rw [kept_no hno,dd_upto h (by omega)])
      rw [e3,Option.bind_some,e,bindL_inr]
      refine ⟨.inl (dd s),?_,.inl rfl⟩
      rw [← ht]
      exact cutL (c:=(0 : Int)) (F:=fun p19=>some (Sum.inl p19)) hi
    · rw [beq_eq_false_iff_ne.2 hq,cond_false]
      refine compact_loop s hl n (k + 1) (by omega) (by omega) fun j x y hj hx hy=>?_
      by_cases hj2 : j + 1 < k
      · exact h j x y hj2 hx hy
      · obtain rfl : k=j + 1:=by omega
        simp only [show j + 1 - 1=j by omega] at e2 hq
        rw [e2] at hx
        rw [e1] at hy
        cases hx
        cases hy
        exact hq
theorem compact_val (s : List Int) (hl : s.length ≤ 1048576) : Ffr s=some (dd s):=by
  unfold Ffr
  by_cases h : len s < 2
  · rw [decide_eq_true h,cond_true]
    have h' : s.length < 2:=by simp only [len] at h; omega
    unfold dd
    rw [dd_upto (k:=s.length) (fun j x y hj=>by omega) (Nat.le_refl _),List.take_length]
  · rw [decide_eq_false h,cond_false]
    have h' : ¬ s.length < 2:=by simp only [len] at h; omega
    obtain ⟨y,hy,hq⟩:=compact_loop s hl (s.length - 1) 1 (by omega) (Nat.le_refl _) (fun j x y hj=>by omega)
    rw [show Ffr_la s 1=some y from hy]
    rcases hq with rfl | rfl <;> rfl
/-! put into a sorted list -/
theorem put_loop (l : List Int) (n : Int) (m : Nat) (hm : m ≤ l.length) (hl : l.length ≤ 1048576) (h1 : ∀ (j : Nat) x,j < m→l[j]?=some x→x < n) (h2 : ∀ x,l[m]?=some x→¬ x < n) : ∀ (k j : Nat),j + k=m→Ffcc_la l n (j : Int)=some (.inr (n,(m : Int),l))
  | 0,j,hj=>by
    obtain rfl : j=m:=by omega
    rw [Ffcc_la_eq,Ffcc_la_F,lt_len]
    by_cases h : j < l.length
    · rw [decide_eq_true h,cond_true,getI_nat,List.getElem?_eq_getElem h,Option.bind_some,bindL_inr,decide_eq_false (h2 _ (List.getElem?_eq_getElem h)),cond_false]
    · rw [decide_eq_false h,cond_false,bindL_inr,cond_false]
  | k + 1,j,hj=>by
    have h : j < l.length:=by omega
    rw [Ffcc_la_eq,Ffcc_la_F,lt_len,decide_eq_true h,cond_true,getI_nat,List.getElem?_eq_getElem h,Option.bind_some,bindL_inr,decide_eq_true (h1 j _ (by omega) (List.getElem?_eq_getElem h)),cond_true,w64_succ (by omega)]
    exact put_loop l n m hm hl h1 h2 k (j + 1) (by omega)
/-! numbers sorted,without doubles -/
theorem PqI.lt_iff {x y : Int} : PqI.ltE x y=true ↔ x < y:=by unfold PqI.ltE; exact decide_eq_true_iff
theorem PqI.lt_not {x y : Int} : PqI.ltE x y=false ↔ ¬ x < y:=by unfold PqI.ltE; exact decide_eq_false_iff_not
theorem swoI : Go.Sort.SWO PqI.ltE where
  irrefl:=fun x=>by rw [PqI.lt_not]; omega
  trans:=fun x y z h1 h2=>by rw [PqI.lt_iff] at *; omega
  ntrans:=fun x y z h1 h2=>by rw [PqI.lt_not] at *; omega
theorem int_sort (a : List Int) (ha : a.length ≤ 1048576) : Ffu a=some (a.mergeSort (fun x y=>!PqI.ltE y x)):=by
  obtain ⟨R,e,r1,r2⟩:=PqI.gen_sort swoI a.toArray (by simpa using ha)
  have:=Go.Sort.sorted_unique_holds (lt:=PqI.ltE) swoI (fun x y h1 h2=>by rw [PqI.lt_not] at h1 h2; omega) a.toArray R r1 r2
  rw [show a=a.toArray.toList from rfl] at *
  rw [e,this]
theorem sort_pw (a : List Int) : (a.mergeSort (fun x y=>!PqI.ltE y x)).Pairwise (· ≤ ·):=by
  have h:=List.pairwise_mergeSort (le:=fun x y=>!PqI.ltE y x) (fun x y z h1 h2=>by
    simp only [Bool.not_eq_true',PqI.lt_not] at *; omega) (fun x y=>by
    simp only [Bool.or_eq_true,Bool.not_eq_true',PqI.lt_not]; omega) a
  exact h.imp fun {x y} h=>by
    simp only [Bool.not_eq_true',PqI.lt_not] at h; omega
theorem dd_sorted {a : List Int} (hs : a.Pairwise (· ≤ ·)) : ∀ n,n ≤ a.length→(kept (ddKeep a) a n).Pairwise (· < ·) ∧ ∀ x,x ∈ kept (ddKeep a) a n ↔ x ∈ a.take n
  | 0,_=>by
    have e : kept (ddKeep a) a 0=[]:=rfl
    rw [e]
    exact ⟨List.Pairwise.nil,fun x=>by simp⟩
  | n + 1,hn=>by
    obtain ⟨h1,h2⟩:=dd_sorted hs n (by omega)
    have hlt : n < a.length:=by omega
    have hx:=List.getElem?_eq_getElem hlt
    have hle : ∀ y ∈ a.take n,y ≤ a[n]:=by
      intro y hy
      obtain ⟨i,hi,rfl⟩:=List.mem_iff_getElem.1 hy
      rw [List.length_take] at hi
      rw [List.getElem_take]
      exact List.pairwise_iff_getElem.1 hs i n (by omega) hlt (by omega)
    cases hk : ddKeep a n with
    | true =>
      rw [kept_yes hk hx]
      have hstrict : ∀ y ∈ a.take n,y < a[n]:=by
        intro y hy
        cases n with
        | zero=>simp at hy
        | succ j =>
          have h3:=List.getElem?_eq_getElem (show j < a.length by omega)
          have hne : a[j + 1] ≠ a[j]:=by
            simp only [ddKeep,h3,hx] at hk
            simpa using hk
          have hj : a[j] ≤ a[j + 1]:=List.pairwise_iff_getElem.1 hs j (j + 1) (by omega) hlt (by omega)
          obtain ⟨i,hi,rfl⟩:=List.mem_iff_getElem.1 hy
          rw [List.length_take] at hi
          rw [List.getElem_take]
          by_cases e : i=j
          · subst e; omega
          · have:=List.pairwise_iff_getElem.1 hs i j (by omega) (by omega) (by omega)
            omega
      refine ⟨List.pairwise_append.2 ⟨h1,List.pairwise_singleton _ _,fun y hy z hz=>?_⟩,fun x=>?_⟩
      · rw [List.mem_singleton] at hz
        subst hz
        exact hstrict y ((h2 y).1 hy)
      · rw [List.take_add_one,hx,List.mem_append,List.mem_append,h2]
        rfl
    | false =>
      rw [kept_no hk]
      refine ⟨h1,fun x=>?_⟩
      rw [h2,List.take_add_one,hx,List.mem_append]
      constructor
      · exact .inl
      · rintro (h | h)
        · exact h
        · have e : x=a[n]:=by simpa using h
          subst e
          cases n with
          | zero=>simp [ddKeep] at hk
          | succ j =>
            have h3:=List.getElem?_eq_getElem (show j < a.length by omega)
            simp only [ddKeep,h3,hx] at hk
            have e : a[j + 1]=a[j]:=by simpa using hk
            rw [e]
            have : a[j] ∈ a.take (j + 1):=by
              rw [List.mem_iff_getElem]
              exact ⟨j,by rw [List.length_take]; omega,by rw [List.getElem_take]⟩
            exact this
theorem dd_ok {a : List Int} (hs : a.Pairwise (· ≤ ·)) : (dd a).Pairwise (· < ·) ∧ ∀ x,x ∈ dd a ↔ x ∈ a:=by
  have:=dd_sorted hs a.length (Nat.le_refl _)
  rw [List.take_length] at this
  exact this
theorem dd_len (a : List Int) : (dd a).length ≤ a.length:=by
  have h : ∀ n,(kept (ddKeep a) a n).length ≤ n:=by
    intro n
    have:=List.length_filterMap_le (fun j=>if ddKeep a j=true then a[j]? else none) (List.range n)
    rw [List.length_range] at this
    exact this
  exact h _
/-- Two strictly ascending lists of the same numbers are one. -/
theorem asc_uniq : ∀ {a b : List Int},a.Pairwise (· < ·)→b.Pairwise (· < ·)→(∀ x,x ∈ a ↔ x ∈ b)→a=b
  | [],[],_,_,_=>rfl
  | [],y :: b,_,_,h=>absurd ((h y).2 (by simp)) (by simp)
  | x :: a,[],_,_,h=>absurd ((h x).1 (by simp)) (by simp)
  | x :: a,y :: b,ha,hb,h=>by
    rw [List.pairwise_cons] at ha hb
    have e : x=y:=by
      have h1:=(h x).1 (by simp)
      have h2:=(h y).2 (by simp)
      rw [List.mem_cons] at h1 h2
      rcases h1 with h1 | h1
      · exact h1
      · rcases h2 with h2 | h2
        · exact h2.symm
        · have:=ha.1 y h2
          have:=hb.1 x h1
          omega
    subst e
    rw [asc_uniq ha.2 hb.2 fun z=>?_]
    constructor
    · intro hz
      have h1:=(h z).1 (List.mem_cons_of_mem _ hz)
      rcases List.mem_cons.1 h1 with e | h1
      · subst e; have:=ha.1 z hz; omega
      · exact h1
    · intro hz
      have h1:=(h z).2 (List.mem_cons_of_mem _ hz)
      rcases List.mem_cons.1 h1 with e | h1
      · subst e; have:=hb.1 z hz; omega
      · exact h1
theorem appI_two {b : Nat} {xs ys : List Int} (h : (xs.length + ys.length) * b ≤ 1099511627776) (h2 : xs.length + ys.length ≤ 1099511627776) : appI b xs ys=some (xs ++ ys):=by
  unfold appI
  rw [if_pos]
  simp only [lim]
  omega
/-- A number put into a strictly ascending list. -/
theorem put_val (l : List Int) (n : Int) (hl : l.length ≤ 1000000) (hs : l.Pairwise (· < ·)) : ∃ r,Ffcc l n=some r ∧ r.Pairwise (· < ·) ∧ (∀ x,x ∈ r ↔ x ∈ l ∨ x=n) ∧ r.length ≤ l.length + 1:=by
  have key : ∃ m,m ≤ l.length ∧ (∀ (j : Nat) x,j < m→l[j]?=some x→x < n) ∧ (∀ x,l[m]?=some x→¬ x < n):=by
    clear hl
    induction l with
    | nil=>exact ⟨0,by simp,fun j x hj=>by omega,fun x hx=>by simp at hx⟩
    | cons y l ih =>
      by_cases hy : y < n
      · obtain ⟨m,h1,h2,h3⟩:=ih (List.pairwise_cons.1 hs).2
        refine ⟨m + 1,by simp; omega,fun j x hj hx=>?_,fun x hx=>h3 x (by simpa using hx)⟩
        cases j with
        | zero=>simp at hx; omega
        | succ j=>exact h2 j x (by omega) (by simpa using hx)
      · exact ⟨0,by simp,fun j x hj=>by omega,fun x hx=>by simp at hx; omega⟩
  obtain ⟨m,hm,h1,h2⟩:=key
  have hlow : ∀ x ∈ l.take m,x < n:=by
    intro x hx
    obtain ⟨i,hi,rfl⟩:=List.mem_iff_getElem.1 hx
    rw [List.length_take] at hi
    rw [List.getElem_take]
    exact h1 i _ (by omega) (List.getElem?_eq_getElem (by omega))
  have hloop:=put_loop l n m hm (by omega) h1 h2 m 0 (by omega)
  rw [show ((0 : Nat) : Int)=0 from rfl] at hloop
  unfold Ffcc
  rw [hloop]
  simp only [bindJ_inr,lt_len]
  have s1 : subP l.length 0 (m : Int)=some ():=by unfold subP; rw [if_pos (by omega)]
  have s2 : subP l.length (m : Int) (len l)=some ():=by unfold subP; rw [if_pos (by simp only [len]; omega)]
  have p1 : partP l (0 + Int.toNat 0) (Int.toNat (m : Int) - Int.toNat 0)=some (l.take m):=by
    unfold partP
    simp only [Int.toNat_zero,Int.toNat_natCast,Nat.zero_add,Nat.sub_zero,List.drop_zero]
    rw [if_pos hm]
  have p2 : partP l (0 + Int.toNat (m : Int)) (Int.toNat (len l) - Int.toNat (m : Int))=some (l.drop m):=by
    unfold partP
    simp only [Int.toNat_natCast,Nat.zero_add,len]
    rw [if_pos (by omega),List.take_of_length_le (by rw [List.length_drop]; omega)]
  have a1 : appI 8 ([] : List Int) (l.take m)=some (l.take m):=by rw [appI_two (by simp only [List.length_nil,List.length_take]; omega) (by simp only [List.length_nil,List.length_take]; omega)]; rfl
  have a2 : appI 8 (l.take m) [n]=some (l.take m ++ [n]):=appI_one (by rw [List.length_take]; omega) (by rw [List.length_take]; omega)
  have a3 : appI 8 (l.take m ++ [n]) (l.drop m)=some (l.take m ++ [n] ++ l.drop m):=appI_two (by simp only [List.length_append,List.length_take,List.length_drop,List.length_singleton]; omega) (by simp only [List.length_append,List.length_take,List.length_drop,List.length_singleton]; omega)
  have hins : (∀ x ∈ l.drop m,n < x)→(l.take m ++ [n] ++ l.drop m).Pairwise (· < ·) ∧ (∀ x,x ∈ l.take m ++ [n] ++ l.drop m ↔ x ∈ l ∨ x=n) ∧ (l.take m ++ [n] ++ l.drop m).length ≤ l.length + 1:=by
    intro hhi
    have hs2:=hs
    rw [← List.take_append_drop m l,List.pairwise_append] at hs2
    refine ⟨List.pairwise_append.2 ⟨List.pairwise_append.2 ⟨hs2.1,List.pairwise_singleton _ _,fun x hx y hy=>?_⟩,hs2.2.1,fun x hx y hy=>?_⟩,fun x=>?_,?_⟩
    · rw [List.mem_singleton] at hy; subst hy; exact hlow x hx
    · rcases List.mem_append.1 hx with hx | hx
      · exact hs2.2.2 x hx y hy
      · rw [List.mem_singleton] at hx; subst hx; exact hhi y hy
    · have : x ∈ l ↔ x ∈ l.take m ∨ x ∈ l.drop m:=by
        rw [← List.mem_append,List.take_append_drop]
      rw [List.mem_append,List.mem_append,List.mem_singleton,this]
      constructor
      · rintro ((h | h) | h)
        · exact .inl (.inl h)
        · exact .inr h
        · exact .inl (.inr h)
      · rintro ((h | h) | h)
        · exact .inl (.inl h)
        · exact .inr h
        · exact .inl (.inr h)
    · simp only [List.length_append,List.length_take,List.length_drop,List.length_singleton]; omega
  by_cases hb : m < l.length
  · have hx:=List.getElem?_eq_getElem hb
    have hge:=h2 _ hx
    have hrest : ∀ x ∈ l.drop (m + 1),l[m] < x:=by
      intro x hx
      obtain ⟨i,hi,rfl⟩:=List.mem_iff_getElem.1 hx
      rw [List.length_drop] at hi
      rw [List.getElem_drop]
      exact List.pairwise_iff_getElem.1 hs m (m + 1 + i) hb (by omega) (by omega)
    rw [decide_eq_true hb,cond_true,getI_nat,hx,Option.bind_some,bindJ_inr,int_beq]
    by_cases he : l[m]=n
    · rw [decide_eq_true he,cond_true]
      refine ⟨l,rfl,hs,fun x=>⟨.inl,?_⟩,by omega⟩
      rintro (h | h)
      · exact h
      · rw [h,← he]; exact List.getElem_mem hb
    · rw [decide_eq_false he,cond_false]
      simp only [s1,p1,a1,a2,s2,p2,a3,Option.bind_some]
      refine ⟨_,rfl,hins ?_⟩
      intro x hx
      rw [List.drop_eq_getElem_cons hb] at hx
      rcases List.mem_cons.1 hx with rfl | hx
      · omega
      · have:=hrest x hx; omega
  · rw [decide_eq_false hb,cond_false,bindJ_inr,cond_false]
    simp only [s1,p1,a1,a2,s2,p2,a3,Option.bind_some]
    refine ⟨_,rfl,hins ?_⟩
    intro x hx
    rw [List.drop_of_length_le (by omega)] at hx
    cases hx
/-! the draws -/
def okC (c : l1Cur) (n : Nat) : Prop:=okL (okI .u8) c.f_code ∧ 0 ≤ c.f_at ∧ c.f_at ≤ n
theorem okC_mono {c : l1Cur} {n m : Nat} (h : okC c n) (hm : n ≤ m) : okC c m:=⟨h.1,h.2.1,by have:=h.2.2; omega⟩
theorem byte_range {x : Int} (h : okI .u8 x) : 0 ≤ x ∧ x ≤ 255:=by
  have e1 : IntKind.u8.min=0:=by decide
  have e2 : IntKind.u8.max=255:=by decide
  unfold okI at h
  rw [e1,e2] at h
  exact h
theorem and255 (x : Int) : 0 ≤ andI .u64 x 255 ∧ andI .u64 x 255 ≤ 255:=by
  unfold andI
  have h : (BitVec.ofInt (IntKind.bits .u64) x &&& BitVec.ofInt (IntKind.bits .u64) 255).toNat ≤ 255:=by
    rw [BitVec.toNat_and]
    exact Nat.le_trans Nat.and_le_right (by decide)
  rw [u64_nat (by omega)]
  omega
theorem next_ok (c : l1Cur) (n : Nat) (h : okC c n) (hn : n ≤ 1000000) : ∃ x c',Ffbv c=some (x,c') ∧ 0 ≤ x ∧ x ≤ 255 ∧ okC c' (n + 1):=by
  obtain ⟨hc,h0,h1⟩:=h
  have hw : w64 (c.f_at + 1)=c.f_at + 1:=w64_id (by omega) (by omega)
  have hok : ∀ s,okC (l1Cur.mk c.f_code (c.f_at + 1) s) (n + 1):=fun s=>⟨hc,by show 0 ≤ c.f_at + 1; omega,by show c.f_at + 1 ≤ ((n + 1 : Nat) : Int); omega⟩
  unfold Ffbv
  simp only [hw]
  obtain ⟨u,hu,hu0,hu1⟩ : ∃ u,(bif (decide (c.f_at < (len c.f_code))) then ((getI c.f_code c.f_at).bind fun e3=>some (Sum.inr (α:=Int × l1Cur) (IntKind.i64.wrap e3))) else (some (.inr 0)))=some (.inr u) ∧ 0 ≤ u ∧ u ≤ 255:=by
    by_cases hq : c.f_at < len c.f_code
    · rw [decide_eq_true hq,cond_true]
      obtain ⟨k,hk⟩ : ∃ k : Nat,c.f_at=k:=⟨c.f_at.toNat,by omega⟩
      rw [hk] at hq ⊢
      have hlt : k < c.f_code.length:=by simp only [len] at hq; omega
      have hb:=byte_range (hc.2 _ (List.getElem_mem hlt))
      rw [getI_nat,List.getElem?_eq_getElem hlt,Option.bind_some]
      exact ⟨_,rfl,by rw [show IntKind.i64.wrap c.f_code[k]=c.f_code[k] from w64_id (by omega) (by omega)]; omega,by rw [show IntKind.i64.wrap c.f_code[k]=c.f_code[k] from w64_id (by omega) (by omega)]; omega⟩
    · rw [decide_eq_false hq,cond_false]
      exact ⟨0,rfl,by decide,by decide⟩
  rw [hu,bindJ_inr]
  cases decide (c.f_at + 1 ≤ len c.f_code) with
  | true=>exact ⟨_,_,rfl,hu0,hu1,hok _⟩
  | false =>
    have ha:=and255 (shrI .u64 (IntKind.u64.wrap ((IntKind.u64.wrap ((IntKind.u64.wrap (c.f_seed * 6364136223846793005)) + (IntKind.u64.wrap u))) + 902902)) 40)
    refine ⟨_,_,rfl,?_,?_,hok _⟩
    · rw [show IntKind.i64.wrap _=_ from w64_id (by omega) (by omega)]; exact ha.1
    · rw [show IntKind.i64.wrap _=_ from w64_id (by omega) (by omega)]; exact ha.2
theorem pick_ok (c : l1Cur) (n : Nat) (k : Int) (h : okC c n) (hn : n ≤ 900000) (hk : k ≤ 1000000) : ∃ x c',Ffbx c k=some (x,c') ∧ 0 ≤ x ∧ (x < k ∨ x=0) ∧ okC c' (n + 2):=by
  unfold Ffbx
  by_cases h1 : k ≤ 1
  · rw [decide_eq_true h1,cond_true]
    exact ⟨0,c,rfl,by decide,.inr rfl,okC_mono h (by omega)⟩
  rw [decide_eq_false h1,cond_false]
  obtain ⟨x,c1,e1,x0,x1,ok1⟩:=next_ok c n h (by omega)
  rw [e1,Option.bind_some]
  have fin : ∀ y : Int,0 ≤ y→∃ q,remI y k=some q ∧ 0 ≤ q ∧ q < k:=by
    intro y hy
    unfold remI
    rw [if_neg (by omega)]
    exact ⟨_,rfl,Int.tmod_nonneg _ hy,Int.tmod_lt_of_pos _ (by omega)⟩
  by_cases h2 : k > 200
  · obtain ⟨x2,c2,e2,y0,y1,ok2⟩:=next_ok c1 (n + 1) ok1 (by omega)
    simp only [decide_eq_true h2,cond_true,e2,Option.bind_some,bindJ_inr]
    rw [show w64 (x * 256)=x * 256 from w64_id (by omega) (by omega),show w64 (x * 256 + x2)=x * 256 + x2 from w64_id (by omega) (by omega)]
    obtain ⟨q,f1,f2,f3⟩:=fin (x * 256 + x2) (by omega)
    rw [f1,Option.bind_some]
    exact ⟨q,_,rfl,f2,.inl f3,ok2⟩
  · simp only [decide_eq_false h2,cond_false,bindJ_inr]
    obtain ⟨q,f1,f2,f3⟩:=fin x x0
    rw [f1,Option.bind_some]
    exact ⟨q,_,rfl,f2,.inl f3,okC_mono ok1 (by omega)⟩
theorem among_ok (c : l1Cur) (n : Nat) (l : List Int) (h : okC c n) (hn : n ≤ 900000) (hl : 1 ≤ l.length) (hl2 : l.length ≤ 1000) : ∃ x c',Ffbp c l=some (x,c') ∧ x ∈ l ∧ okC c' (n + 2):=by
  unfold Ffbp
  obtain ⟨x,c1,e1,x0,x1,ok1⟩:=pick_ok c n (len l) h hn (by simp only [len]; omega)
  obtain ⟨k,hk⟩ : ∃ k : Nat,x=k:=⟨x.toNat,by omega⟩
  subst hk
  have hlt : k < l.length:=by simp only [len] at x1; omega
  rw [e1,Option.bind_some,getI_nat,List.getElem?_eq_getElem hlt,Option.bind_some]
  exact ⟨_,_,rfl,List.getElem_mem hlt,ok1⟩
theorem start_ok {code : List Int} (h : okL (okI .u8) code) : okC (l1Cur.mk code 0 0) 0:=⟨h,by show (0 : Int) ≤ 0; omega,by show (0 : Int) ≤ ((0 : Nat) : Int); omega⟩
theorem one_ok (c : l1Cur) (n : Nat) (k : Int) (h : okC c n) (hn : n ≤ 900000) (hk : k ≤ 1000000) : ∃ x c',Ffbw c k=some (x,c') ∧ okC c' (n + 2):=by
  unfold Ffbw
  obtain ⟨x,c1,e1,_,_,k1⟩:=pick_ok c n k h hn hk
  rw [e1,Option.bind_some]
  exact ⟨_,_,rfl,k1⟩
theorem day_ok (c : l1Cur) (n : Nat) (h : okC c n) (hn : n ≤ 800000) : ∃ x c',Ffbt c=some (x,c') ∧ okC c' (n + 4):=by
  unfold Ffbt
  obtain ⟨x,c1,e1,_,_,k1⟩:=pick_ok c n 6 h (by omega) (by decide)
  rw [e1,Option.bind_some]
  simp only []
  cases x == 0
  · cases x == 1
    · obtain ⟨y,c2,e2,_,_,k2⟩:=pick_ok c1 (n + 2) 1500 k1 (by omega) (by decide)
      simp only [cond_false,e2,Option.bind_some]
      exact ⟨_,_,rfl,k2⟩
    · obtain ⟨y,c2,e2,_,_,k2⟩:=pick_ok c1 (n + 2) 36525 k1 (by omega) (by decide)
      simp only [cond_false,cond_true,e2,Option.bind_some]
      exact ⟨_,_,rfl,k2⟩
  · obtain ⟨y,c2,e2,_,k2⟩:=among_ok c1 (n + 2) [0,59,60,365,366,424,425,36524,36523,30,31] k1 (by omega) (by decide) (by decide)
    simp only [cond_true,e2,Option.bind_some]
    exact ⟨_,_,rfl,k2⟩
theorem anyDay_ok (c : l1Cur) (n : Nat) (h : okC c n) (hn : n ≤ 700000) : ∃ x c',Ffbr c=some (x,c') ∧ okC c' (n + 6):=by
  unfold Ffbr
  obtain ⟨x,c1,e1,k1⟩:=one_ok c n 16 h (by omega) (by decide)
  rw [e1,Option.bind_some]
  cases x
  · obtain ⟨y,c2,e2,k2⟩:=day_ok c1 (n + 2) k1 (by omega)
    simp only [cond_false,e2,Option.bind_some]
    exact ⟨_,_,rfl,okC_mono k2 (by omega)⟩
  · obtain ⟨y,c2,e2,_,k2⟩:=among_ok c1 (n + 2) [(-1),36524,36525,1099511627776] k1 (by omega) (by decide) (by decide)
    simp only [cond_true,e2,Option.bind_some]
    exact ⟨_,_,rfl,okC_mono k2 (by omega)⟩
theorem within_ok {x a b : Int} (h1 : a ≤ x) (h2 : x ≤ b) : Ffn x a b=some true:=by
  unfold Ffn
  rw [decide_eq_true (by omega),cond_true,letJ_eq,decide_eq_true h2]
theorem within_val (x a b : Int) : Ffn x a b=some (decide (a ≤ x ∧ x ≤ b)):=by
  unfold Ffn
  by_cases h : x ≥ a
  · rw [decide_eq_true h,cond_true,letJ_eq]
    congr 1
    exact decide_eq_decide.2 ⟨fun h2=>⟨h,h2⟩,fun h2=>h2.2⟩
  · rw [decide_eq_false h,cond_false,letJ_eq,decide_eq_false (by omega)]
/-! dates -/
def leap (y : Int) : Int:=if y % 4=0 then 1 else 0
def mlen (y m : Int) : Int:=if m=2 then 28 + leap y else if m=4 ∨ m=6 ∨ m=9 ∨ m=11 then 30 else 31
def m0 (y : Int) : Nat→Int
  | 0=>0
  | k + 1=>m0 y k + mlen y ((k + 1 : Nat) : Int)
def y0 (y : Int) : Int:=365 * (y - 2000) + (y - 2000 + 3) / 4
theorem leap_le (y : Int) : 0 ≤ leap y ∧ leap y ≤ 1:=by unfold leap; split <;> omega
theorem mlen_le (y m : Int) : 28 ≤ mlen y m ∧ mlen y m ≤ 31:=by
  have:=leap_le y
  unfold mlen
  split
  · omega
  · split <;> omega
theorem m0_le (y : Int) : ∀ k : Nat,28 * (k : Int) ≤ m0 y k ∧ m0 y k ≤ 31 * (k : Int)
  | 0=>by simp [m0]
  | k + 1=>by
    have:=m0_le y k
    have:=mlen_le y ((k + 1 : Nat) : Int)
    simp only [m0]
    omega
theorem m0_mono (y : Int) {a b : Nat} (h : a ≤ b) : m0 y a ≤ m0 y b := by
  induction b with
  | zero => have : a = 0 := by omega
            subst this; exact Int.le_refl _
  | succ b ih =>
    by_cases e : a = b + 1
    · subst e; exact Int.le_refl _
    · have := ih (by omega)
      have := mlen_le y ((b + 1 : Nat) : Int)
      simp only [m0]
      omega
theorem m0_12 (y : Int) : m0 y 12=365 + leap y:=by simp [m0,mlen]; omega
theorem y0_succ (y : Int) : y0 (y + 1)=y0 y + 365 + leap y:=by unfold y0 leap; split <;> omega
theorem y0_uniq {a b day : Int} (h1 : y0 a ≤ day) (h2 : day < y0 (a + 1)) (h3 : y0 b ≤ day) (h4 : day < y0 (b + 1)) : a=b:=by unfold y0 at *; omega
theorem m0_uniq {y r : Int} {a b : Nat} (h1 : m0 y a ≤ r) (h2 : r < m0 y (a + 1)) (h3 : m0 y b ≤ r) (h4 : r < m0 y (b + 1)) : a=b:=by
  rcases Nat.lt_trichotomy a b with h | h | h
  · have:=m0_mono y (show a + 1 ≤ b from h); omega
  · exact h
  · have:=m0_mono y (show b + 1 ≤ a from h); omega
theorem tmod4 {y : Int} (hy : 0 ≤ y) : y.tmod 4=y % 4:=Int.tmod_eq_emod_of_nonneg hy
theorem y0_2000 : y0 2000=0:=by unfold y0; omega
/-- What a date says of a day. -/
def DateOk (day Y : Int) (M : Nat) (D : Int) : Prop:=2000 ≤ Y ∧ Y ≤ 2099 ∧ M ≤ 11 ∧ 1 ≤ D ∧ D ≤ mlen Y ((M + 1 : Nat) : Int) ∧ day=y0 Y + m0 Y M + D - 1
theorem DateOk.b {day Y : Int} {M : Nat} {D : Int} (h : DateOk day Y M D) : y0 Y ≤ day ∧ day < y0 (Y + 1) ∧ m0 Y M ≤ day - y0 Y ∧ day - y0 Y < m0 Y (M + 1):=by
  obtain ⟨h1,h2,h3,h4,h5,h6⟩:=h
  have he : m0 Y (M + 1)=m0 Y M + mlen Y ((M + 1 : Nat) : Int):=rfl
  have hm:=m0_mono Y (show M + 1 ≤ 12 by omega)
  have h12:=m0_12 Y
  have hs:=y0_succ Y
  have hk:=m0_le Y M
  omega
theorem DateOk.uniq {day Y Y' : Int} {M M' : Nat} {D D' : Int} (h : DateOk day Y M D) (h' : DateOk day Y' M' D') : Y=Y' ∧ M=M' ∧ D=D':=by
  have b:=h.b
  have b':=h'.b
  have e:=y0_uniq b.1 b.2.1 b'.1 b'.2.1
  subst e
  have e:=m0_uniq b.2.2.1 b.2.2.2 b'.2.2.1 b'.2.2.2
  subst e
  have h6:=h.2.2.2.2.2
  have h6':=h'.2.2.2.2.2
  exact ⟨rfl,rfl,by omega⟩
theorem DateOk.range {day Y : Int} {M : Nat} {D : Int} (h : DateOk day Y M D) : 0 ≤ day ∧ day ≤ 36524:=by
  have b:=h.b
  have hb : 0 ≤ y0 Y ∧ y0 (Y + 1) ≤ 36525:=by have h1:=h.1; have h2:=h.2.1; unfold y0; omega
  omega
theorem spec_len (y m : Int) (hy : 0 ≤ y) : Ffch y m=some (mlen y m):=by
  simp only [Ffch,letJ_eq,tmod4 hy,mlen,leap]
  by_cases a : m=4
  · subst a; rfl
  by_cases b : m=6
  · subst b; rfl
  by_cases c : m=9
  · subst c; rfl
  by_cases d : m=11
  · subst d; rfl
  by_cases e : m=2
  · subst e
    by_cases f : y % 4=0
    · simp [f]
    · simp [f,beq_eq_false_iff_ne.2 f]
  · simp [a,b,c,d,e,beq_eq_false_iff_ne.2 a,beq_eq_false_iff_ne.2 b,beq_eq_false_iff_ne.2 c,beq_eq_false_iff_ne.2 d,beq_eq_false_iff_ne.2 e]
theorem spec_day_la (d : Date) (hy : 0 ≤ d.Year) : ∀ (n k : Nat) (acc : Int),((k + 1 + n : Nat) : Int)=d.Month→d.Month ≤ 13→0 ≤ acc→acc + 31 * (n : Int) ≤ 1000000→Ffcf_la d (acc,((k + 1 : Nat) : Int))=some (.inr (acc + m0 d.Year (k + n) - m0 d.Year k))
  | 0,k,acc,hm,h13,ha,hb=>by
    rw [Ffcf_la_eq,Ffcf_la_F]
    rw [decide_eq_false (by omega),cond_false]
    simp only [Nat.add_zero]
    congr 2
    omega
  | n + 1,k,acc,hm,h13,ha,hb=>by
    rw [Ffcf_la_eq,Ffcf_la_F]
    rw [decide_eq_true (by omega),cond_true]
    simp only [spec_len _ _ hy,Option.bind_some]
    have hl:=mlen_le d.Year ((k + 1 : Nat) : Int)
    rw [w64_id (by omega) (by omega),w64_succ (by omega)]
    rw [spec_day_la d hy n (k + 1) _ (by omega) h13 (by omega) (by omega)]
    rw [show k + (n + 1)=k + 1 + n by omega]
    congr 2
    simp only [m0]
    omega
theorem spec_day (y dd : Int) (k : Nat) (hy : 2000 ≤ y) (hy2 : y ≤ 2100) (hm : k ≤ 12) (hd : 0 ≤ dd) (hd2 : dd ≤ 100000) : Ffcf ⟨y,((k + 1 : Nat) : Int),dd⟩=some (y0 y + m0 y k + dd - 1):=by
  have hk:=m0_le y k
  unfold Ffcf
  simp only
  have e1 : w64 (y - 2000)=y - 2000:=w64_id (by omega) (by omega)
  rw [e1]
  have e2 : w64 (y - 2000 + 3)=y - 2000 + 3:=w64_id (by omega) (by omega)
  have e3 : w64 (365 * (y - 2000))=365 * (y - 2000):=w64_id (by omega) (by omega)
  rw [e2,e3,Int.tdiv_eq_ediv_of_nonneg (by omega : 0 ≤ y - 2000 + 3)]
  have e4 : w64 ((y - 2000 + 3) / 4)=(y - 2000 + 3) / 4:=w64_id (by omega) (by omega)
  rw [e4]
  have e5 : w64 (365 * (y - 2000) + (y - 2000 + 3) / 4)=y0 y:=w64_id (by omega) (by omega)
  rw [e5]
  have hb : 0 ≤ y0 y ∧ y0 y ≤ 40000:=by unfold y0; omega
  rw [show (1 : Int)=((0 + 1 : Nat) : Int) by rfl,spec_day_la ⟨y,((k + 1 : Nat) : Int),dd⟩ (by simp only; omega) k 0 (y0 y) (by simp only; omega) (by simp only; omega) hb.1 (by omega)]
  simp only [bindJ_inr,Nat.zero_add,m0]
  rw [show w64 (y0 y + m0 y k - 0 + dd)=y0 y + m0 y k - 0 + dd from w64_id (by omega) (by omega),w64_id (by omega) (by omega)]
  congr 1
  omega
theorem spec_year (day : Int) (hd : 0 ≤ day) (hd2 : day ≤ 36524) : ∀ (n : Nat) (x : Int),x + n=2099→2000 ≤ x→y0 x ≤ day→∃ Y,Ffce_la day x=some (.inr Y) ∧ 2000 ≤ Y ∧ Y ≤ 2099 ∧ y0 Y ≤ day ∧ day < y0 (Y + 1)
  | 0,x,hn,h0,hx=>by
    rw [Ffce_la_eq,Ffce_la_F]
    rw [decide_eq_false (by omega),cond_false]
    refine ⟨x,rfl,h0,by omega,hx,?_⟩
    have : x=2099:=by omega
    subst this
    unfold y0
    omega
  | n + 1,x,hn,h0,hx=>by
    rw [Ffce_la_eq,Ffce_la_F]
    rw [decide_eq_true (by omega),cond_true,w64_id (by omega) (by omega)]
    rw [show (1 : Int)=((0 + 1 : Nat) : Int) by rfl,spec_day (x + ((0 + 1 : Nat) : Int)) _ 0 (by omega) (by omega) (by omega) (by omega) (by omega)]
    simp only [Option.bind_some,m0]
    have e : y0 (x + ((0 + 1 : Nat) : Int)) + 0 + ((0 + 1 : Nat) : Int) - 1=y0 (x + 1):=by simp
    rw [e]
    by_cases h : y0 (x + 1) ≤ day
    · rw [decide_eq_true h]
      exact spec_year day hd hd2 n (x + 1) (by omega) (by omega) h
    · rw [decide_eq_false h]
      exact ⟨x,rfl,h0,by omega,hx,by omega⟩
theorem spec_month (day Y : Int) (hd : 0 ≤ day) (hd2 : day ≤ 36524) (hY : 2000 ≤ Y) (hY2 : Y ≤ 2099) (hy : day < y0 (Y + 1)) : ∀ (n k : Nat),k + n=11→y0 Y + m0 Y k ≤ day→∃ M : Nat,Ffce_lb day Y ((k + 1 : Nat) : Int)=some (.inr ((M + 1 : Nat) : Int)) ∧ M ≤ 11 ∧ y0 Y + m0 Y M ≤ day ∧ day < y0 Y + m0 Y (M + 1)
  | 0,k,hn,hx=>by
    obtain rfl : k=11:=by omega
    rw [Ffce_lb_eq,Ffce_lb_F]
    rw [decide_eq_false (by omega),cond_false]
    refine ⟨11,rfl,by omega,hx,?_⟩
    rw [m0_12]
    rw [y0_succ] at hy
    omega
  | n + 1,k,hn,hx=>by
    rw [Ffce_lb_eq,Ffce_lb_F]
    rw [decide_eq_true (by omega),cond_true,w64_succ (by omega)]
    rw [spec_day Y 1 (k + 1) (by omega) (by omega) (by omega) (by omega) (by omega)]
    simp only [Option.bind_some]
    have e : y0 Y + m0 Y (k + 1) + 1 - 1=y0 Y + m0 Y (k + 1):=by omega
    rw [e]
    by_cases h : y0 Y + m0 Y (k + 1) ≤ day
    · rw [decide_eq_true h]
      exact spec_month day Y hd hd2 hY hY2 hy n (k + 1) (by omega) h
    · rw [decide_eq_false h]
      exact ⟨k,rfl,by omega,hx,by omega⟩
theorem spec_date (day : Int) (hd : 0 ≤ day) (hd2 : day ≤ 36524) : ∃ (Y : Int) (M : Nat),Ffce day=some ⟨Y,((M + 1 : Nat) : Int),day - y0 Y - m0 Y M + 1⟩ ∧ 2000 ≤ Y ∧ Y ≤ 2099 ∧ y0 Y ≤ day ∧ day < y0 (Y + 1) ∧ M ≤ 11 ∧ m0 Y M ≤ day - y0 Y ∧ day - y0 Y < m0 Y (M + 1):=by
  obtain ⟨Y,h1,h2,h3,h4,h5⟩:=spec_year day hd hd2 99 2000 (by omega) (by omega) (by rw [y0_2000]; exact hd)
  obtain ⟨M,g1,g2,g3,g4⟩:=spec_month day Y hd hd2 h2 h3 h5 11 0 (by omega) (by simp only [m0]; omega)
  refine ⟨Y,M,?_,h2,h3,h4,h5,g2,by omega,by omega⟩
  have hk:=m0_le Y M
  have hb : 0 ≤ y0 Y ∧ y0 Y ≤ 40000:=by unfold y0; omega
  unfold Ffce
  rw [h1]
  simp only [bindJ_inr]
  rw [show (1 : Int)=((0 + 1 : Nat) : Int) by rfl,g1]
  simp only [bindJ_inr]
  rw [spec_day Y _ M h2 (by omega) (by omega) (by omega) (by omega)]
  simp only [Option.bind_some]
  have e : w64 (w64 (day - (y0 Y + m0 Y M + ((0 + 1 : Nat) : Int) - 1)) + ((0 + 1 : Nat) : Int))=day - y0 Y - m0 Y M + 1:=by
    rw [show w64 (day - (y0 Y + m0 Y M + ((0 + 1 : Nat) : Int) - 1))=day - y0 Y - m0 Y M from by rw [w64_id (by omega) (by omega)]; omega,w64_id (by omega) (by omega)]
    rfl
  rw [e]
  rfl
theorem spec_dates (day : Int) (hd : 0 ≤ day) (hd2 : day ≤ 36524) : ∃ (Y : Int) (M : Nat) (D : Int),Ffce day=some ⟨Y,((M + 1 : Nat) : Int),D⟩ ∧ DateOk day Y M D:=by
  obtain ⟨Y,M,h1,h2,h3,h4,h5,h6,h7,h8⟩:=spec_date day hd hd2
  have he : m0 Y (M + 1)=m0 Y M + mlen Y ((M + 1 : Nat) : Int):=rfl
  exact ⟨Y,M,_,h1,h2,h3,h6,by omega,by omega,by omega⟩
theorem least_val (a b : Int) : Ffbz a b=some (min a b):=by
  unfold Ffbz
  by_cases h : a < b
  · rw [decide_eq_true h,cond_true,show min a b=a by omega]
  · rw [decide_eq_false h,cond_false,show min a b=b by omega]
theorem in_val (x a b : Int) : spec_l1In x a b=some (decide (a ≤ x ∧ x ≤ b)):=by
  unfold spec_l1In
  by_cases h : x ≥ a
  · rw [decide_eq_true h,cond_true,letJ_eq]
    congr 1
    exact decide_eq_decide.2 ⟨fun h2=>⟨h,h2⟩,fun h2=>h2.2⟩
  · rw [decide_eq_false h,cond_false,letJ_eq,decide_eq_false (by omega)]
theorem impl_size_nat {n : Nat} (h : n < 9223372036854775807) : impl_size (n : Int)=some (n : Int):=by
  unfold impl_size
  rw [w64_id (by omega) (by omega)]
  congr 1
  split <;> omega
/-! calendars -/
def badR (l : List Int) (lo hi : Int) (k : Nat) : Bool:=match l[k]? with
  | some e=>!decide (lo ≤ e ∧ e ≤ hi) || (match k with
    | 0=>false
    | j + 1=>match l[j]? with
      | some p=>decide (e ≤ p)
      | none=>false)
  | none=>false
def risB (l : List Int) (lo hi : Int) : Nat→Nat→Bool
  | 0,_=>true
  | n + 1,k=>!badR l lo hi k && risB l lo hi n (k + 1)
theorem impl_ris_la (l : List Int) (lo hi m : Int) (hl : l.length ≤ 1000000) : ∀ (n k : Nat),k + n=l.length→Ffj_la l lo hi m (k : Int)=some (bif risB l lo hi n k then .inr () else .inl false)
  | 0,k,hk=>by
    rw [Ffj_la_eq,Ffj_la_F]
    simp only [lt_len]
    rw [decide_eq_false (by omega)]
    rfl
  | n + 1,k,hk=>by
    obtain ⟨e,he⟩ : ∃ e,l[k]?=some e:=⟨_,List.getElem?_eq_getElem (by omega)⟩
    rw [Ffj_la_eq,Ffj_la_F]
    simp only [lt_len]
    rw [decide_eq_true (by omega),w64_succ (by omega),impl_ris_la l lo hi m hl n (k + 1) (by omega)]
    simp only [cond_true,getI_nat,he,Option.bind_some,within_val]
    cases hw : decide (lo ≤ e ∧ e ≤ hi) with
    | false=>simp [risB,badR,he,hw]
    | true =>
      cases k with
      | zero =>
        simp only [show decide (((0 : Nat) : Int) > 0)=false by rfl]
        simp [risB,badR,he,hw]
      | succ j =>
        obtain ⟨p,hp⟩ : ∃ p,l[j]?=some p:=⟨_,List.getElem?_eq_getElem (by omega)⟩
        rw [decide_eq_true (show ((j + 1 : Nat) : Int) > 0 by omega)]
        have e1 : w64 (((j + 1 : Nat) : Int) - 1)=(j : Int):=by rw [w64_id (by omega) (by omega)]; omega
        simp only [e1,getI_nat,hp,Option.bind_some,risB,badR,he,hw]
        cases decide (e ≤ p) <;> simp
theorem spec_ris_la (l : List Int) (lo hi : Int) (hl : l.length ≤ 1000000) : ∀ (n k : Nat),k + n=l.length→Ffcd_la l lo hi (k : Int)=some (bif risB l lo hi n k then .inr () else .inl false)
  | 0,k,hk=>by
    rw [Ffcd_la_eq,Ffcd_la_F]
    simp only [lt_len]
    rw [decide_eq_false (by omega)]
    rfl
  | n + 1,k,hk=>by
    obtain ⟨e,he⟩ : ∃ e,l[k]?=some e:=⟨_,List.getElem?_eq_getElem (by omega)⟩
    rw [Ffcd_la_eq,Ffcd_la_F]
    simp only [lt_len]
    rw [decide_eq_true (by omega),w64_succ (by omega),spec_ris_la l lo hi hl n (k + 1) (by omega)]
    simp only [cond_true,getI_nat,he,Option.bind_some,in_val]
    cases hw : decide (lo ≤ e ∧ e ≤ hi) with
    | false=>simp [risB,badR,he,hw]
    | true =>
      cases k with
      | zero =>
        simp only [show decide (((0 : Nat) : Int) > 0)=false by rfl]
        simp [risB,badR,he,hw]
      | succ j =>
        obtain ⟨p,hp⟩ : ∃ p,l[j]?=some p:=⟨_,List.getElem?_eq_getElem (by omega)⟩
        rw [decide_eq_true (show ((j + 1 : Nat) : Int) > 0 by omega)]
        have e1 : w64 (((j + 1 : Nat) : Int) - 1)=(j : Int):=by rw [w64_id (by omega) (by omega)]; omega
        have e2 : decide (p ≥ e)=decide (e ≤ p):=rfl
        simp only [e1,e2,getI_nat,hp,Option.bind_some,risB,badR,he,hw]
        cases decide (e ≤ p) <;> simp
def risingB (l : List Int) (lo hi : Int) : Bool:=risB l lo hi l.length 0
theorem impl_ris (l : List Int) (lo hi m : Int) (hl : l.length ≤ 1000000) : Ffj l lo hi m=some (risingB l lo hi && decide (len l ≤ m)):=by
  unfold Ffj risingB
  have:=impl_ris_la l lo hi m hl l.length 0 (by omega)
  rw [show (0 : Int)=((0 : Nat) : Int) by rfl,this]
  cases risB l lo hi l.length 0 <;> simp
theorem spec_ris (l : List Int) (lo hi : Int) (hl : l.length ≤ 1000000) : Ffcd l lo hi=some (risingB l lo hi):=by
  unfold Ffcd risingB
  have:=spec_ris_la l lo hi hl l.length 0 (by omega)
  rw [show (0 : Int)=((0 : Nat) : Int) by rfl,this]
  cases risB l lo hi l.length 0 <;> rfl
def smC (c : Calendar) : Prop:=c.Weekend.length ≤ 1000000 ∧ c.Holidays.length ≤ 1000000
def calB (c : Calendar) : Bool:=(risingB c.Weekend 0 6 && decide (len c.Weekend ≤ 6)) && (risingB c.Holidays 0 36524 && decide (len c.Holidays ≤ 40))
theorem impl_cal (c : Calendar) (h : smC c) : Fff c=some (calB c):=by
  unfold Fff calB
  rw [impl_ris _ _ _ _ h.1,impl_ris _ _ _ _ h.2]
  cases risingB c.Weekend 0 6 <;> cases decide (len c.Weekend ≤ 6) <;> rfl
theorem spec_cal (c : Calendar) (h : smC c) : Ffcj c=some (calB c):=by
  unfold Ffcj calB
  rw [spec_ris _ _ _ h.1,spec_ris _ _ _ h.2]
  cases risingB c.Weekend 0 6 <;> cases decide (len c.Weekend ≤ 6) <;> cases risingB c.Holidays 0 36524 <;> cases decide (len c.Holidays ≤ 40) <;> rfl
theorem int_swap (a b : Int) : (a == b)=(b == a):=by
  rw [int_beq,int_beq]
  exact decide_eq_decide.2 ⟨Eq.symm,Eq.symm⟩
theorem impl_cont (l : List Int) (n : Int) (hl : l.length ≤ 1000000) : Ffs l n=some (l.contains n):=by
  unfold Ffs Fft
  rw [idxLoop (L:=Fft_la l n) (a:=l) (p:=fun e=>some (n == e)) (q:=fun e=>n == e) (fun _ _=>rfl) (fun x=>by rw [Fft_la_eq,Fft_la_F] <;> rfl) (by omega)]
  cases h : l.findIdx? (fun e=>n == e) with
  | none =>
    have : l.contains n=false:=by
      rw [List.findIdx?_eq_none_iff] at h
      rw [Bool.eq_false_iff]
      intro hc
      rw [List.contains_iff_exists_mem_beq] at hc
      obtain ⟨w,hw,he⟩:=hc
      rw [h w hw] at he
      cases he
    rw [this]
    rfl
  | some i =>
    have : l.contains n=true:=by
      rw [List.findIdx?_eq_some_iff_getElem] at h
      obtain ⟨hi,he,_⟩:=h
      rw [List.contains_iff_exists_mem_beq]
      exact ⟨_,List.getElem_mem hi,he⟩
    rw [this]
    simp
theorem spec_cont (l : List Int) (n : Int) (hl : l.length ≤ 1000000) : Ffby l n=some (l.contains n):=by
  unfold Ffby
  rw [anyLoop (L:=Ffby_la l n) (a:=l) (p:=fun e=>some (e == n)) (q:=fun e=>e == n) (r:=true) (fun _ _=>rfl) (fun x=>by rw [Ffby_la_eq,Ffby_la_F] <;> rfl) (by omega)]
  have : (l.any fun e=>e == n)=l.contains n:=by
    rw [List.contains_eq_any_beq]
    congr 1
    funext e
    exact int_swap e n
  rw [this]
  cases l.contains n <;> rfl
def openB (c : Calendar) (d : Int) : Bool:=!c.Weekend.contains ((w64 (d + 5)).tmod 7) && !c.Holidays.contains d
theorem impl_open (c : Calendar) (d : Int) (h : smC c) : Ffh c d=some (openB c d):=by
  unfold Ffh Ffm openB
  simp only [Option.bind_some,impl_cont _ _ h.1,impl_cont _ _ h.2]
  cases c.Weekend.contains ((w64 (d + 5)).tmod 7) <;> rfl
theorem spec_open (c : Calendar) (d : Int) (h : smC c) : Ffck c d=some (openB c d):=by
  unfold Ffck Ffci openB
  simp only [Option.bind_some,spec_cont _ _ h.1,spec_cont _ _ h.2]
  cases c.Weekend.contains ((w64 (d + 5)).tmod 7) <;> rfl
/-- Seeking back: both find the same day,the nearest that is open. -/
theorem seek_down (c : Calendar) (h : smC c) (d d' : Int) : ∀ (n : Nat) (x : Int), x < n → -1 ≤ x → x ≤ 36524 → ∃ y, Ffk_la c d (-1) x = some y ∧ Ffcl_la c d' (-1) x = some y ∧
    ((∃ z, y = .inl z ∧ 0 ≤ z ∧ z ≤ x ∧ openB c z = true ∧ ∀ t, z < t → t ≤ x → openB c t = false) ∨ (y = .inr () ∧ ∀ t, 0 ≤ t → t ≤ x → openB c t = false))
  | 0, x, hx, h0, h1 => by
    obtain rfl : x = -1 := by omega
    rw [Ffk_la_eq, Ffk_la_F, Ffcl_la_eq, Ffcl_la_F]
    exact ⟨.inr (), rfl, rfl, .inr ⟨rfl, fun t _ _ => by omega⟩⟩
  | n + 1, x, hx, h0, h1 => by
    rw [Ffk_la_eq, Ffk_la_F, Ffcl_la_eq, Ffcl_la_F]
    unfold Ffi Ffcg
    rw [within_val, in_val]
    by_cases hr : 0 ≤ x
    · rw [decide_eq_true ⟨hr, h1⟩]
      simp only [Option.bind_some, cond_true, impl_open c x h, spec_open c x h]
      cases ho : openB c x with
      | true => exact ⟨_, rfl, rfl, .inl ⟨x, rfl, hr, by omega, ho, fun t _ _ => by omega⟩⟩
      | false =>
        simp only [cond_false]
        rw [show w64 (x + -1) = x - 1 by rw [w64_id (by omega) (by omega)]; omega]
        obtain ⟨y, y1, y2, y3⟩ := seek_down c h d d' n (x - 1) (by omega) (by omega) (by omega)
        refine ⟨y, y1, y2, ?_⟩
        rcases y3 with ⟨z, e, z1, z2, z3, z4⟩ | ⟨e, z1⟩
        · refine .inl ⟨z, e, z1, by omega, z3, fun t t1 t2 => ?_⟩
          by_cases ht : t = x
          · rw [ht]; exact ho
          · exact z4 t t1 (by omega)
        · refine .inr ⟨e, fun t t1 t2 => ?_⟩
          by_cases ht : t = x
          · rw [ht]; exact ho
          · exact z1 t t1 (by omega)
    · rw [decide_eq_false (by omega)]
      exact ⟨.inr (), rfl, rfl, .inr ⟨rfl, fun t _ _ => by omega⟩⟩
theorem seek_up (c : Calendar) (h : smC c) (d d' : Int) : ∀ (n : Nat) (x : Int), 36525 < x + n → 0 ≤ x → x ≤ 36525 → ∃ y, Ffk_la c d 1 x = some y ∧ Ffcl_la c d' 1 x = some y ∧
    ((∃ z, y = .inl z ∧ x ≤ z ∧ z ≤ 36524 ∧ openB c z = true ∧ ∀ t, x ≤ t → t < z → openB c t = false) ∨ (y = .inr () ∧ ∀ t, x ≤ t → t ≤ 36524 → openB c t = false))
  | 0, x, hx, h0, h1 => by omega
  | n + 1, x, hx, h0, h1 => by
    rw [Ffk_la_eq, Ffk_la_F, Ffcl_la_eq, Ffcl_la_F]
    unfold Ffi Ffcg
    rw [within_val, in_val]
    by_cases hr : x ≤ 36524
    · rw [decide_eq_true ⟨h0, hr⟩]
      simp only [Option.bind_some, cond_true, impl_open c x h, spec_open c x h]
      cases ho : openB c x with
      | true => exact ⟨_, rfl, rfl, .inl ⟨x, rfl, by omega, hr, ho, fun t _ _ => by omega⟩⟩
      | false =>
        simp only [cond_false]
        rw [show w64 (x + 1) = x + 1 from w64_id (by omega) (by omega)]
        obtain ⟨y, y1, y2, y3⟩ := seek_up c h d d' n (x + 1) (by omega) (by omega) (by omega)
        refine ⟨y, y1, y2, ?_⟩
        rcases y3 with ⟨z, e, z1, z2, z3, z4⟩ | ⟨e, z1⟩
        · refine .inl ⟨z, e, by omega, z2, z3, fun t t1 t2 => ?_⟩
          by_cases ht : t = x
          · rw [ht]; exact ho
          · exact z4 t (by omega) t2
        · refine .inr ⟨e, fun t t1 t2 => ?_⟩
          by_cases ht : t = x
          · rw [ht]; exact ho
          · exact z1 t (by omega) t2
    · rw [decide_eq_false (by omega)]
      exact ⟨.inr (), rfl, rfl, .inr ⟨rfl, fun t _ _ => by omega⟩⟩
theorem near_down (c : Calendar) (h : smC c) (x : Int) (h0 : -1 ≤ x) (h1 : x ≤ 36524) : ∃ z,Ffk c x (-1)=some z ∧ Ffcl c x (-1)=some z ∧ ((0 ≤ z ∧ z ≤ x ∧ openB c z=true ∧ ∀ t,z < t→t ≤ x→openB c t=false) ∨ (z=-1 ∧ ∀ t,0 ≤ t→t ≤ x→openB c t=false)):=by
  obtain ⟨y,y1,y2,y3⟩:=seek_down c h x x (x + 1).toNat.succ x (by omega) h0 h1
  unfold Ffk Ffcl
  rw [y1,y2]
  rcases y3 with ⟨z,rfl,q⟩ | ⟨rfl,q⟩
  · exact ⟨z,rfl,rfl,.inl q⟩
  · exact ⟨-1,rfl,rfl,.inr ⟨rfl,q⟩⟩
theorem near_up (c : Calendar) (h : smC c) (x : Int) (h0 : 0 ≤ x) (h1 : x ≤ 36525) : ∃ z,Ffk c x 1=some z ∧ Ffcl c x 1=some z ∧ ((x ≤ z ∧ z ≤ 36524 ∧ openB c z=true ∧ ∀ t,x ≤ t→t < z→openB c t=false) ∨ (z=-1 ∧ ∀ t,x ≤ t→t ≤ 36524→openB c t=false)):=by
  obtain ⟨y,y1,y2,y3⟩:=seek_up c h x x 36527 x (by omega) h0 h1
  unfold Ffk Ffcl
  rw [y1,y2]
  rcases y3 with ⟨z,rfl,q⟩ | ⟨rfl,q⟩
  · exact ⟨z,rfl,rfl,.inl q⟩
  · exact ⟨-1,rfl,rfl,.inr ⟨rfl,q⟩⟩
theorem day_rng (c : l1Cur) (n : Nat) (h : okC c n) (hn : n ≤ 800000) : ∃ x c',Ffbt c=some (x,c') ∧ okC c' (n + 4) ∧ 0 ≤ x ∧ x ≤ 36524:=by
  unfold Ffbt
  obtain ⟨x,c1,e1,_,_,k1⟩:=pick_ok c n 6 h (by omega) (by decide)
  rw [e1,Option.bind_some]
  simp only []
  cases x == 0
  · cases x == 1
    · obtain ⟨y,c2,e2,q1,q2,k2⟩:=pick_ok c1 (n + 2) 1500 k1 (by omega) (by decide)
      simp only [cond_false,e2,Option.bind_some]
      exact ⟨_,_,rfl,k2,q1,by omega⟩
    · obtain ⟨y,c2,e2,q1,q2,k2⟩:=pick_ok c1 (n + 2) 36525 k1 (by omega) (by decide)
      simp only [cond_false,cond_true,e2,Option.bind_some]
      exact ⟨_,_,rfl,k2,q1,by omega⟩
  · obtain ⟨y,c2,e2,hm,k2⟩:=among_ok c1 (n + 2) [0,59,60,365,366,424,425,36524,36523,30,31] k1 (by omega) (by decide) (by decide)
    simp only [cond_true,e2,Option.bind_some]
    refine ⟨_,_,rfl,k2,?_⟩
    simp only [List.mem_cons,List.not_mem_nil,or_false] at hm
    omega
theorem near4_ok (c : l1Cur) (n : Nat) (h : okC c n) (hn : n ≤ 700000) : ∃ x c',Ffbu c=some (x,c') ∧ okC c' (n + 8) ∧ 0 ≤ x ∧ x ≤ 36524:=by
  unfold Ffbu
  obtain ⟨x,c1,e1,k1,x0,x1⟩:=day_rng c n h (by omega)
  rw [e1,Option.bind_some]
  obtain ⟨b,c2,e2,k2⟩:=one_ok c1 (n + 4) 3 k1 (by omega) (by decide)
  simp only [e2,Option.bind_some]
  cases b with
  | false =>
    simp only [cond_false,bindJ_inr]
    exact ⟨_,_,rfl,okC_mono k2 (by omega),x0,x1⟩
  | true =>
    obtain ⟨Y,M,D,g1,g2⟩:=spec_dates x x0 x1
    have hm:=mlen_le Y ((M + 1 : Nat) : Int)
    obtain ⟨h1,h2,h3,h4,h5,h6⟩:=g2
    obtain ⟨y,c3,e3,q1,q2,k3⟩:=pick_ok c2 (n + 6) 3 k2 (by omega) (by decide)
    simp only [cond_true,g1,Option.bind_some,spec_len Y _ (show 0 ≤ Y by omega),e3]
    rw [w64_id (by omega) (by omega),spec_day Y _ M h1 (by omega) (by omega) (by omega) (by omega)]
    simp only [Option.bind_some,bindJ_inr]
    have hd : DateOk (y0 Y + m0 Y M + (mlen Y ((M + 1 : Nat) : Int) - y) - 1) Y M (mlen Y ((M + 1 : Nat) : Int) - y):=⟨h1,h2,h3,by omega,by omega,rfl⟩
    have hr:=hd.range
    exact ⟨_,_,rfl,okC_mono k3 (by omega),hr.1,hr.2⟩
theorem most_val (a b : Int) : Ffca a b=some (max a b):=by
  unfold Ffca
  by_cases h : a > b
  · rw [decide_eq_true h,cond_true,show max a b=a by omega]
  · rw [decide_eq_false h,cond_false,show max a b=b by omega]
theorem cal_la (c0 : l1Cur) (nr : Int) (u : Int × (List Int) × Int × Int × (List Int)) : ∀ (k : Nat) (d : Int) (c : l1Cur) (n : Nat) (l : List Int),okC c n→k ≤ 100→n + 2 * k ≤ 700000→0 ≤ d→d ≤ 1000000→l.length + k ≤ 1000→∃ (c' : l1Cur) (l' : List Int),Ffbs_la c0 nr u (d,(k : Int),c.f_code,c.f_at,c.f_seed,l)=some (.inr (c'.f_code,c'.f_at,c'.f_seed,l')) ∧ okC c' (n + 2 * k) ∧ l'.length ≤ l.length + k
  | 0,d,c,n,l,h,hk,hn,h0,h1,hz=>by
    refine ⟨c,l,?_,h,Nat.le_refl _⟩
    rw [Ffbs_la_eq,Ffbs_la_F]
    rfl
  | k + 1,d,c,n,l,h,hk,hn,h0,h1,hz=>by
    rw [Ffbs_la_eq,Ffbs_la_F]
    simp only [decide_eq_true (show ((k + 1 : Nat) : Int) > 0 by omega),cond_true,letJ_eq]
    by_cases hd : d ≤ 36524
    · obtain ⟨y,c1,e1,q1,q2,k1⟩:=pick_ok c n 4 h (by omega) (by decide)
      rw [decide_eq_true hd,cond_true,appI_one (by omega) (by omega),Option.bind_some,show l1Cur.mk c.f_code c.f_at c.f_seed=c from rfl,e1,Option.bind_some]
      simp only []
      rw [show w64 (((k + 1 : Nat) : Int) - 1)=(k : Int) from by rw [w64_id (by omega) (by omega)]; omega,w64_id (n:=d + 1) (by omega) (by omega),w64_id (by omega) (by omega)]
      obtain ⟨c',l',e2,k2,z2⟩:=cal_la c0 nr u k (d + 1 + y) c1 (n + 2) (l ++ [d]) k1 (by omega) (by omega) (by omega) (by omega) (by rw [List.length_append]; simp; omega)
      exact ⟨c',l',e2,okC_mono k2 (by omega),by rw [List.length_append] at z2; simp at z2; omega⟩
    · rw [decide_eq_false hd,cond_false]
      exact ⟨c,l,rfl,okC_mono h (by omega),by omega⟩
theorem cal_lb (c0 : l1Cur) (nr : Int) : ∀ (m : Nat) (k : Nat) (c : l1Cur) (n : Nat) (l : List Int),k + m=6→okC c n→n + 2 * m ≤ 700000→l.length + m ≤ 1000→∃ (c' : l1Cur) (l' : List Int),Ffbs_lb c0 nr ((k : Int),c.f_code,c.f_at,c.f_seed,l)=some (.inr (c'.f_code,c'.f_at,c'.f_seed,l')) ∧ okC c' (n + 2 * m) ∧ l'.length ≤ l.length + m
  | 0,k,c,n,l,hm,h,hn,hz=>by
    refine ⟨c,l,?_,h,Nat.le_refl _⟩
    rw [Ffbs_lb_eq,Ffbs_lb_F]
    rw [decide_eq_false (by omega)]
    rfl
  | m + 1,k,c,n,l,hm,h,hn,hz=>by
    obtain ⟨b,c1,e1,k1⟩:=one_ok c n 3 h (by omega) (by decide)
    rw [Ffbs_lb_eq,Ffbs_lb_F]
    rw [decide_eq_true (by omega),cond_true]
    simp only [show l1Cur.mk c.f_code c.f_at c.f_seed=c from rfl,e1,Option.bind_some]
    rw [w64_succ (by omega)]
    cases b with
    | false =>
      simp only [cond_false,bindL_inr]
      obtain ⟨c',l',e2,k2,z2⟩:=cal_lb c0 nr m (k + 1) c1 (n + 2) l (by omega) k1 (by omega) (by omega)
      exact ⟨c',l',e2,okC_mono k2 (by omega),by omega⟩
    | true =>
      rw [cond_true,appI_one (by omega) (by omega)]
      simp only [Option.bind_some,bindL_inr]
      obtain ⟨c',l',e2,k2,z2⟩:=cal_lb c0 nr m (k + 1) c1 (n + 2) (l ++ [(k : Int)]) (by omega) k1 (by omega) (by rw [List.length_append]; simp; omega)
      exact ⟨c',l',e2,okC_mono k2 (by omega),by rw [List.length_append] at z2; simp at z2; omega⟩
theorem calendar_ok (c : l1Cur) (n : Nat) (nr : Int) (h : okC c n) (hn : n ≤ 600000) (h0 : 0 ≤ nr) (h1 : nr ≤ 36524) : ∃ x c',Ffbs c nr=some (x,c') ∧ okC c' (n + 40) ∧ x.Weekend.length ≤ 10 ∧ x.Holidays.length ≤ 10:=by
  unfold Ffbs
  obtain ⟨x,c1,e1,_,_,k1⟩:=pick_ok c n 6 h (by omega) (by decide)
  simp only [e1,Option.bind_some]
  have fin : ∀ (c2 : l1Cur) (l : List Int),okC c2 (n + 20)→l.length ≤ 10→∃ x' c',((Ffca (w64 (nr - 8)) 0).bind fun r5=>(Ffbx (l1Cur.mk c2.f_code c2.f_at c2.f_seed) 7).bind fun r6=>bindJ (ρ:=Calendar × l1Cur) (Ffbs_la c nr (nr,c2.f_code,c2.f_at,c2.f_seed,l) (r5,r6.1,r6.2.f_code,r6.2.f_at,r6.2.f_seed,[])) fun u11 : (List Int) × Int × Int × (List Int)=>some ((Calendar.mk l u11.2.2.2),(l1Cur.mk u11.1 u11.2.1 u11.2.2.1)))=some (x',c') ∧ okC c' (n + 40) ∧ x'.Weekend.length ≤ 10 ∧ x'.Holidays.length ≤ 10:=by
    intro c2 l hc hl
    obtain ⟨y,c3,e3,q1,q2,k3⟩:=pick_ok c2 (n + 20) 7 hc (by omega) (by decide)
    rw [most_val,w64_id (by omega) (by omega)]
    simp only [Option.bind_some,show l1Cur.mk c2.f_code c2.f_at c2.f_seed=c2 from rfl,e3]
    obtain ⟨k,rfl⟩ : ∃ k : Nat,y=k:=⟨y.toNat,by omega⟩
    obtain ⟨c',l',g1,g2,g3⟩:=cal_la c nr (nr,c2.f_code,c2.f_at,c2.f_seed,l) k (max (nr - 8) 0) c3 (n + 22) [] k3 (by omega) (by omega) (by omega) (by omega) (by simp; omega)
    rw [g1]
    simp only [bindJ_inr]
    exact ⟨_,_,rfl,okC_mono g2 (by omega),hl,by simp at g3; show l'.length ≤ 10; omega⟩
  cases x == 0
  · cases x == 1
    · simp only [cond_false,bindL_inr,bindJ_inr]
      exact fin c1 [5,6] (okC_mono k1 (by omega)) (by decide)
    · obtain ⟨c',l',g1,g2,g3⟩:=cal_lb c nr 6 0 c1 (n + 2) [] (by omega) k1 (by omega) (by simp)
      rw [show ((0 : Nat) : Int)=0 by rfl] at g1
      simp only [cond_false,cond_true,g1,bindL_inr,bindJ_inr]
      exact fin c' l' (okC_mono g2 (by omega)) (by simp at g3; omega)
  · simp only [cond_true,bindJ_inr]
    exact fin c1 [4,5] (okC_mono k1 (by omega)) (by decide)
theorem anyCal_la (c0 : l1Cur) (nr : Int) (r3 : Calendar × l1Cur) (h0 : 0 ≤ nr) (h1 : nr ≤ 36524) : ∀ (m k : Nat) (c : l1Cur) (n : Nat) (l : List Int),k + m=41→okC c n→n + 2 * m ≤ 600000→l.length + m ≤ 1000→∃ (c' : l1Cur) (l' : List Int),Ffbq_la c0 nr r3 ((k : Int),c.f_code,c.f_at,c.f_seed,l)=some (.inr (c'.f_code,c'.f_at,c'.f_seed,l')) ∧ okC c' (n + 2 * m + 2) ∧ l'.length ≤ l.length + m
  | 0,k,c,n,l,hm,h,hn,hz=>by
    obtain ⟨y,c1,e1,q1,q2,k1⟩:=pick_ok c n 2 h (by omega) (by decide)
    rw [Ffbq_la_eq,Ffbq_la_F]
    simp only [show l1Cur.mk c.f_code c.f_at c.f_seed=c from rfl,e1,Option.bind_some]
    rw [w64_id (by omega) (by omega),decide_eq_false (by omega)]
    exact ⟨c1,l,rfl,okC_mono k1 (by omega),by omega⟩
  | m + 1,k,c,n,l,hm,h,hn,hz=>by
    obtain ⟨y,c1,e1,q1,q2,k1⟩:=pick_ok c n 2 h (by omega) (by decide)
    rw [Ffbq_la_eq,Ffbq_la_F]
    simp only [show l1Cur.mk c.f_code c.f_at c.f_seed=c from rfl,e1,Option.bind_some]
    rw [w64_id (n:=40 + y) (by omega) (by omega)]
    by_cases hd : (k : Int) < 40 + y
    · rw [decide_eq_true hd,cond_true,w64_id (n:=nr - 20) (by omega) (by omega),most_val]
      simp only [Option.bind_some,least_val]
      rw [appI_one (by omega) (by omega),Option.bind_some,w64_succ (by omega)]
      obtain ⟨c',l',e2,k2,z2⟩:=anyCal_la c0 nr r3 h0 h1 m (k + 1) c1 (n + 2) (l ++ [w64 (min (max (nr - 20) 0) 36464 + (k : Int))]) (by omega) k1 (by omega) (by rw [List.length_append]; simp; omega)
      exact ⟨c',l',e2,okC_mono k2 (by omega),by rw [List.length_append] at z2; simp at z2; omega⟩
    · rw [decide_eq_false hd,cond_false]
      exact ⟨c1,l,rfl,okC_mono k1 (by omega),by omega⟩
theorem anyCal_small (c : l1Cur) (n : Nat) (nr : Int) (h : okC c n) (hn : n ≤ 500000) (h0 : 0 ≤ nr) (h1 : nr ≤ 36524) : ∃ x c',Ffbq c nr=some (x,c') ∧ okC c' (n + 200) ∧ (x.Weekend.length ≤ 1000 ∧ x.Holidays.length ≤ 1000):=by
  unfold Ffbq
  obtain ⟨cal,c1,e1,k1,w1,w2⟩:=calendar_ok c n nr h (by omega) h0 h1
  simp only [e1,Option.bind_some]
  obtain ⟨x,c2,e2,_,_,k2⟩:=pick_ok c1 (n + 40) 30 k1 (by omega) (by decide)
  simp only [e2,Option.bind_some]
  cases x == 0
  · cases x == 1
    · cases x == 2
      · cases x == 3
        · simp only [cond_false,bindL_inr,bindJ_inr]
          exact ⟨_,_,rfl,okC_mono k2 (by omega),by show cal.Weekend.length ≤ 1000; omega,by show cal.Holidays.length ≤ 1000; omega⟩
        · obtain ⟨c',l',g1,g2,g3⟩:=anyCal_la c nr (cal,c1) h0 h1 41 0 c2 (n + 42) [] (by omega) k2 (by omega) (by simp)
          rw [show ((0 : Nat) : Int)=0 by rfl] at g1
          simp only [cond_false,cond_true,g1,bindL_inr,bindJ_inr]
          exact ⟨_,_,rfl,okC_mono g2 (by omega),by show cal.Weekend.length ≤ 1000; omega,by show l'.length ≤ 1000; simp at g3; omega⟩
      · simp only [cond_false,cond_true,bindL_inr,bindJ_inr]
        exact ⟨_,_,rfl,okC_mono k2 (by omega),by show ([0,1,2,3,4,5,6] : List Int).length ≤ 1000; decide,by show cal.Holidays.length ≤ 1000; omega⟩
    · obtain ⟨y,c3,e3,_,k3⟩:=among_ok c2 (n + 42) [36524,36525,0] k2 (by omega) (by decide) (by decide)
      simp only [cond_false,cond_true,e3,Option.bind_some]
      rw [appI_one (by omega) (by omega)]
      simp only [Option.bind_some,bindL_inr,bindJ_inr]
      exact ⟨_,_,rfl,okC_mono k3 (by omega),by show cal.Weekend.length ≤ 1000; omega,by show (cal.Holidays ++ [y]).length ≤ 1000; rw [List.length_append]; simp; omega⟩
  · obtain ⟨y,c3,e3,_,k3⟩:=among_ok c2 (n + 42) [6,7,(-1)] k2 (by omega) (by decide) (by decide)
    simp only [cond_true,e3,Option.bind_some]
    rw [appI_one (by omega) (by omega)]
    simp only [Option.bind_some,bindJ_inr]
    exact ⟨_,_,rfl,okC_mono k3 (by omega),by show (cal.Weekend ++ [y]).length ≤ 1000; rw [List.length_append]; simp; omega,by show cal.Holidays.length ≤ 1000; omega⟩
theorem anyCal_ok (c : l1Cur) (n : Nat) (nr : Int) (h : okC c n) (hn : n ≤ 500000) (h0 : 0 ≤ nr) (h1 : nr ≤ 36524) : ∃ x c',Ffbq c nr=some (x,c') ∧ okC c' (n + 200) ∧ smC x:=by
  obtain ⟨x,c',e,k,h2,h3⟩:=anyCal_small c n nr h hn h0 h1
  exact ⟨x,c',e,k,by omega,by omega⟩
theorem ris_all {l : List Int} {lo hi : Int} : ∀ {n k : Nat},risB l lo hi n k=true→∀ j,k ≤ j→j < k + n→badR l lo hi j=false
  | 0,k,_,j,h1,h2=>by omega
  | n + 1,k,h,j,h1,h2=>by
    simp only [risB,Bool.and_eq_true,Bool.not_eq_true'] at h
    by_cases e : j=k
    · rw [e]; exact h.1
    · exact ris_all h.2 j (by omega) (by omega)
theorem rising_pw {l : List Int} {lo hi : Int} (h : risingB l lo hi=true) : l.Pairwise (· < ·):=by
  have hb:=ris_all (n:=l.length) (k:=0) h
  have step : ∀ j (h1 : j + 1 < l.length),l[j] < l[j + 1]:=by
    intro j h1
    have:=hb (j + 1) (by omega) (by omega)
    simp only [badR,List.getElem?_eq_getElem h1,List.getElem?_eq_getElem (show j < l.length by omega),Bool.or_eq_false_iff,decide_eq_false_iff_not] at this
    omega
  rw [List.pairwise_iff_getElem]
  intro i j hi hj hij
  induction j with
  | zero=>omega
  | succ j ih =>
    by_cases e : i=j
    · subst e; exact step i hj
    · have:=ih (by omega) (by omega)
      have:=step j hj
      omega
theorem united_val (a b : List Int) (ha : a.length ≤ 1000) (hb : b.length ≤ 1000) : ∃ r,Ffl a b=some r ∧ r.Pairwise (· < ·) ∧ (∀ x,x ∈ r ↔ x ∈ a ∨ x ∈ b) ∧ r.length ≤ 2000:=by
  unfold Ffl
  have hc : Ffq a=some a:=by
    unfold Ffq nilO appI
    rw [if_pos (by simp only [List.length_nil,lim]; omega)]
    cases a <;> simp [bothO]
  rw [hc,Option.bind_some,appI_two (by omega) (by omega),Option.bind_some,int_sort _ (by rw [List.length_append]; omega),Option.bind_some]
  rw [List.length_mergeSort,Nat.beq_refl,cond_true,compact_val _ (by rw [List.length_mergeSort,List.length_append]; omega)]
  obtain ⟨h1,h2⟩:=dd_ok (sort_pw (a ++ b))
  refine ⟨_,rfl,h1,fun x=>?_,?_⟩
  · rw [h2,List.mem_mergeSort,List.mem_append]
  · have:=dd_len ((a ++ b).mergeSort (fun x y=>!PqI.ltE y x))
    rw [List.length_mergeSort,List.length_append] at this
    omega
theorem union_la (a b : List Int) (hb : b.length ≤ 1000) : ∀ (n k : Nat) (l : List Int),k + n=b.length→l.Pairwise (· < ·)→l.length ≤ 1000 + k→∃ r,Ffcm_la a b ((k : Int),l)=some (.inr r) ∧ r.Pairwise (· < ·) ∧ (∀ x,x ∈ r ↔ x ∈ l ∨ x ∈ b.drop k) ∧ r.length ≤ 2000
  | 0,k,l,hk,hl,hz=>by
    rw [Ffcm_la_eq,Ffcm_la_F]
    simp only [lt_len]
    rw [decide_eq_false (by omega),cond_false]
    exact ⟨l,rfl,hl,fun x=>by rw [List.drop_of_length_le (by omega)]; simp,by omega⟩
  | n + 1,k,l,hk,hl,hz=>by
    obtain ⟨r,r1,r2,r3,r4⟩:=put_val l b[k] (by omega) hl
    rw [Ffcm_la_eq,Ffcm_la_F]
    simp only [lt_len]
    rw [decide_eq_true (by omega),cond_true]
    simp only [getI_nat,List.getElem?_eq_getElem (show k < b.length by omega),Option.bind_some,r1]
    rw [w64_succ (by omega)]
    obtain ⟨s,s1,s2,s3,s4⟩:=union_la a b hb n (k + 1) r (by omega) r2 (by omega)
    refine ⟨s,s1,s2,fun x=>?_,s4⟩
    rw [s3,r3,List.drop_eq_getElem_cons (show k < b.length by omega),List.mem_cons]
    constructor
    · rintro ((h | h) | h)
      · exact .inl h
      · exact .inr (.inl h)
      · exact .inr (.inr h)
    · rintro (h | h | h)
      · exact .inl (.inl h)
      · exact .inl (.inr h)
      · exact .inr h
theorem union_val (a b : List Int) (ha : a.length ≤ 1000) (hb : b.length ≤ 1000) (hs : a.Pairwise (· < ·)) : ∃ r,Ffcm a b=some r ∧ r.Pairwise (· < ·) ∧ (∀ x,x ∈ r ↔ x ∈ a ∨ x ∈ b) ∧ r.length ≤ 2000:=by
  unfold Ffcm Ffcb
  rw [appI_two (by simp only [List.length_nil]; omega) (by simp only [List.length_nil]; omega)]
  obtain ⟨r,r1,r2,r3,r4⟩:=union_la a b hb b.length 0 a (by omega) hs (by omega)
  rw [show ((0 : Nat) : Int)=0 from rfl] at r1
  simp only [Option.bind_some,List.nil_append,r1,bindJ_inr]
  exact ⟨r,rfl,r2,fun x=>by rw [r3,List.drop_zero],r4⟩
theorem drawIB (code : List Int) (h : okL (okI .u8) code) : ∃ c d,Ffbm code=some (c,d) ∧ smC c ∧ -1 ≤ d ∧ d ≤ 1099511627776:=by
  unfold Ffbm
  obtain ⟨x,c1,e1,k1,x0,x1⟩:=near4_ok (l1Cur.mk code 0 0) 0 (start_ok h) (by omega)
  simp only [e1,Option.bind_some]
  obtain ⟨cal,c2,e2,k2,hs⟩:=anyCal_ok c1 (0 + 8) x k1 (by omega) x0 x1
  simp only [e2,Option.bind_some]
  obtain ⟨b,c3,e3,k3⟩:=one_ok c2 208 20 k2 (by omega) (by decide)
  simp only [e3,Option.bind_some]
  cases b with
  | false=>exact ⟨cal,x,rfl,hs,by omega,by omega⟩
  | true =>
    unfold Ffbr
    obtain ⟨b4,c4,e4,k4⟩:=one_ok c3 210 16 k3 (by omega) (by decide)
    simp only [cond_true,e4,Option.bind_some]
    cases b4 with
    | false =>
      obtain ⟨d,c6,e6,k6,d0,d1⟩:=day_rng c4 212 k4 (by omega)
      simp only [cond_false,e6,Option.bind_some,bindJ_inr]
      exact ⟨cal,d,rfl,hs,by omega,by omega⟩
    | true =>
      obtain ⟨d,c6,e6,hm,k6⟩:=among_ok c4 212 [(-1),36524,36525,1099511627776] k4 (by omega) (by decide) (by decide)
      simp only [cond_true,e6,Option.bind_some,bindJ_inr]
      simp only [List.mem_cons,List.not_mem_nil,or_false] at hm
      exact ⟨cal,d,rfl,hs,by omega,by omega⟩
theorem drawAB (code : List Int) (h : okL (okI .u8) code) : ∃ c d n,Ffbl code=some (c,d,n) ∧ smC c ∧ -1 ≤ d ∧ d ≤ 1099511627776:=by
  unfold Ffbl
  obtain ⟨c,d,e1,hs,d0,d1⟩:=drawIB code h
  obtain ⟨x,c2,e2,q1,q2,k2⟩:=pick_ok (l1Cur.mk code 0 0) 0 9 (start_ok h) (by omega) (by decide)
  simp only [e1,e2,Option.bind_some]
  have hx : ∃ k : Nat,w64 (9 + w64 (x.tdiv 4))=k ∧ 9 ≤ k ∧ k ≤ 11:=by
    rw [Int.tdiv_eq_ediv_of_nonneg q1,w64_id (n:=x / 4) (by omega) (by omega),w64_id (by omega) (by omega)]
    exact ⟨(9 + x / 4).toNat,by omega,by omega,by omega⟩
  obtain ⟨k,hk,k1,k3⟩:=hx
  rw [hk]
  have s1 : subP ([1,2,5,0,(-1),(-3),20,(-20),300,1001,(-1001)] : List Int).length 0 (k : Int)=some ():=by unfold subP; rw [if_pos (by simp only [List.length_cons,List.length_nil]; omega)]
  have p1 : partP ([1,2,5,0,(-1),(-3),20,(-20),300,1001,(-1001)] : List Int) (0 + Int.toNat 0) (Int.toNat (k : Int) - Int.toNat 0)=some (([1,2,5,0,(-1),(-3),20,(-20),300,1001,(-1001)] : List Int).take k):=by
    unfold partP
    simp only [Int.toNat_zero,Int.toNat_natCast,Nat.zero_add,Nat.sub_zero,List.drop_zero]
    rw [if_pos (by simp only [List.length_cons,List.length_nil]; omega)]
  rw [s1,Option.bind_some,p1,Option.bind_some]
  obtain ⟨y,c5,e5,_,_⟩:=among_ok c2 2 (([1,2,5,0,(-1),(-3),20,(-20),300,1001,(-1001)] : List Int).take k) k2 (by omega) (by rw [List.length_take]; simp only [List.length_cons,List.length_nil]; omega) (by rw [List.length_take]; simp only [List.length_cons,List.length_nil]; omega)
  rw [e5]
  exact ⟨c,d,y,rfl,hs,d0,d1⟩
theorem drawJC (code : List Int) (h : okL (okI .u8) code) : ∃ a b,Ffbn code=some (a,b) ∧ (a.Weekend.length ≤ 1000 ∧ a.Holidays.length ≤ 1000) ∧ (b.Weekend.length ≤ 1000 ∧ b.Holidays.length ≤ 1000):=by
  unfold Ffbn
  obtain ⟨x,c1,e1,k1,x0,x1⟩:=near4_ok (l1Cur.mk code 0 0) 0 (start_ok h) (by omega)
  simp only [e1,Option.bind_some]
  obtain ⟨a,c2,e2,k2,hs⟩:=anyCal_small c1 (0 + 8) x k1 (by omega) x0 x1
  simp only [e2,Option.bind_some]
  obtain ⟨b,c3,e3,k3,hs3⟩:=anyCal_small c2 208 x k2 (by omega) x0 x1
  simp only [e3,Option.bind_some]
  exact ⟨a,b,rfl,hs,hs3⟩
/-- How many days are open among so many from a day on. -/
def cntO (c : Calendar) (d : Int) : Nat→Nat
  | 0=>0
  | n + 1=>(bif openB c d then 1 else 0) + cntO c (d + 1) n
theorem cntO_le (c : Calendar) : ∀ (n : Nat) (d : Int),cntO c d n ≤ n
  | 0,d=>Nat.le_refl _
  | n + 1,d=>by
    have:=cntO_le c n (d + 1)
    simp only [cntO]
    cases openB c d <;> simp <;> omega
theorem cntO_add (c : Calendar) : ∀ (n m : Nat) (d : Int),cntO c d (n + m)=cntO c d n + cntO c (d + n) m
  | 0,m,d=>by simp [cntO]
  | n + 1,m,d=>by
    rw [show n + 1 + m=(n + m) + 1 by omega]
    simp only [cntO]
    rw [cntO_add c n m (d + 1),show d + 1 + (n : Int)=d + ((n + 1 : Nat) : Int) by omega]
    omega
theorem cntO_none (c : Calendar) : ∀ (n : Nat) (d : Int),(∀ t,d ≤ t→t < d + n→openB c t=false)→cntO c d n=0
  | 0,d,_=>rfl
  | n + 1,d,h=>by
    simp only [cntO]
    rw [h d (by omega) (by omega),cntO_none c n (d + 1) fun t h1 h2=>h t (by omega) (by omega)]
    rfl
theorem impl_cb_la (c : Calendar) (hs : smC c) (f t : Int) : ∀ (n : Nat) (x acc : Int),x + n=t→0 ≤ x→t ≤ 100000→0 ≤ acc→acc + n ≤ 1000000→Ffd_la c f t (acc,x)=some (.inr (acc + (cntO c x n : Nat)))
  | 0,x,acc,hn,h0,ht,ha,hb=>by
    rw [Ffd_la_eq,Ffd_la_F]
    rw [decide_eq_false (by omega),cond_false]
    simp [cntO]
  | n + 1,x,acc,hn,h0,ht,ha,hb=>by
    rw [Ffd_la_eq,Ffd_la_F]
    rw [decide_eq_true (by omega),cond_true]
    simp only [impl_open c x hs,Option.bind_some,letJ_eq]
    have e : (bif openB c x then w64 (acc + 1) else acc)=acc + ((bif openB c x then 1 else 0 : Nat) : Int):=by
      cases openB c x
      · simp
      · simp only [cond_true]; rw [w64_id (by omega) (by omega)]; rfl
    have e2 : ((bif openB c x then 1 else 0 : Nat) : Int) ≤ 1:=by cases openB c x <;> simp
    have e3 : 0 ≤ ((bif openB c x then 1 else 0 : Nat) : Int):=Int.natCast_nonneg _
    rw [e,w64_id (n:=x + 1) (by omega) (by omega),impl_cb_la c hs f t n (x + 1) _ (by omega) (by omega) ht (by omega) (by omega)]
    simp only [cntO]
    congr 2
    omega
/-- Adding business days: the same in both,and so many are open on the way. -/
theorem add_la (c : Calendar) (hs : smC c) (d d' n n' sz : Int) (u : Int × Int) (st : Int) (hst : st=1 ∨ st=-1) (hu : u.2=st) : ∀ (m : Nat) (i x : Int),i + m=sz→0 ≤ i→sz ≤ 100000→0 ≤ x→x ≤ 36524→∃ y,Ffc_la c d n sz st (x,i)=some y ∧ Ffbk_la c d' n' u (x,(m : Int))=some y ∧ (y=.inl (0,false) ∨ ∃ z,y=.inr z ∧ 0 ≤ z ∧ z ≤ 36524 ∧ (st=1→x ≤ z ∧ cntO c (x + 1) (z - x).toNat=m))
  | 0,i,x,hi,h0,hz,x0,x1=>by
    rw [Ffc_la_eq,Ffc_la_F,Ffbk_la_eq,Ffbk_la_F]
    rw [decide_eq_false (show ¬ i < sz by omega),cond_false,decide_eq_false (show ¬ ((0 : Nat) : Int) > 0 by omega),cond_false]
    refine ⟨.inr x,rfl,rfl,.inr ⟨x,rfl,x0,x1,fun _=>⟨by omega,?_⟩⟩⟩
    rw [show (x - x).toNat=0 by omega]
    rfl
  | m + 1,i,x,hi,h0,hz,x0,x1=>by
    rw [Ffc_la_eq,Ffc_la_F,Ffbk_la_eq,Ffbk_la_F]
    rw [decide_eq_true (show i < sz by omega),cond_true,decide_eq_true (show ((m + 1 : Nat) : Int) > 0 by omega),cond_true,hu]
    have hw : w64 (x + st)=x + st:=w64_id (by omega) (by omega)
    simp only [hw]
    have hnear : ∃ z,Ffk c (x + st) st=some z ∧ Ffcl c (x + st) st=some z ∧ (z=-1 ∨ (0 ≤ z ∧ z ≤ 36524 ∧ (st=1→x + 1 ≤ z ∧ openB c z=true ∧ ∀ t,x + 1 ≤ t→t < z→openB c t=false))):=by
      rcases hst with rfl | rfl
      · obtain ⟨z,z1,z2,z3⟩:=near_up c hs (x + 1) (by omega) (by omega)
        refine ⟨z,z1,z2,?_⟩
        rcases z3 with ⟨p1,p2,p3,p4⟩ | ⟨p,_⟩
        · exact .inr ⟨by omega,p2,fun _=>⟨p1,p3,p4⟩⟩
        · exact .inl p
      · obtain ⟨z,z1,z2,z3⟩:=near_down c hs (x + -1) (by omega) (by omega)
        refine ⟨z,z1,z2,?_⟩
        rcases z3 with ⟨p1,p2,p3,p4⟩ | ⟨p,_⟩
        · exact .inr ⟨p1,by omega,fun h=>by omega⟩
        · exact .inl p
    obtain ⟨z,z1,z2,z3⟩:=hnear
    simp only [z1,z2,Option.bind_some]
    rcases z3 with rfl | ⟨p1,p2,p3⟩
    · exact ⟨.inl (0,false),rfl,rfl,.inl rfl⟩
    · rw [decide_eq_false (show ¬ z < 0 by omega),cond_false,cond_false,w64_id (n:=i + 1) (by omega) (by omega),show w64 (((m + 1 : Nat) : Int) - 1)=(m : Int) by rw [w64_id (by omega) (by omega)]; omega]
      obtain ⟨y,y1,y2,y3⟩:=add_la c hs d d' n n' sz u st hst hu m (i + 1) z (by omega) (by omega) hz p1 p2
      refine ⟨y,y1,y2,?_⟩
      rcases y3 with h | ⟨v,rfl,v0,v1,v2⟩
      · exact .inl h
      · refine .inr ⟨v,rfl,v0,v1,fun h=>?_⟩
        obtain ⟨a1,a2⟩:=v2 h
        obtain ⟨b1,b2,b3⟩:=p3 h
        refine ⟨by omega,?_⟩
        have e : (v - x).toNat=(z - x - 1).toNat + (1 + (v - z).toNat):=by omega
        rw [e,cntO_add,cntO_add,cntO_none c _ _ fun t t1 t2=>b3 t t1 (by omega)]
        rw [show x + 1 + (((z - x - 1).toNat : Nat) : Int)=z by omega]
        rw [show z + ((1 : Nat) : Int)=z + 1 by omega,a2]
        simp only [cntO,b2,cond_true]
        omega
theorem add_same (c : Calendar) (hs : smC c) (d n : Int) : ∃ z b,Ffc c d n=some (z,b) ∧ Ffbk c d n=some (z,b) ∧ (b=true→calB c=true ∧ 0 ≤ d ∧ 0 ≤ z ∧ z ≤ 36524 ∧ (n > 0→d ≤ z ∧ cntO c (d + 1) (z - d).toNat=n.toNat)):=by
  unfold Ffc Ffbk Ffi Ffcg
  rw [impl_cal c hs,spec_cal c hs,within_val,in_val,within_val,in_val]
  cases hc : calB c with
  | false=>exact ⟨0,false,rfl,rfl,fun e=>by cases e⟩
  | true =>
    by_cases hd : 0 ≤ d ∧ d ≤ 36524
    · rw [decide_eq_true hd]
      by_cases hn : -1000 ≤ n ∧ n ≤ 1000
      · rw [decide_eq_true hn]
        simp only [Option.bind_some,Bool.not_true,cond_false,bindL_inr,bindJ_inr]
        by_cases hneg : n < 0
        · rw [decide_eq_true hneg,cond_true,cond_true,letJ_eq,letJ_eq]
          have hw : w64 (0 - n)=-n:=by rw [w64_id (by omega) (by omega)]; omega
          have hsz : impl_size n=some (-n):=by
            unfold impl_size
            rw [hw]
            congr 1
            split <;> omega
          obtain ⟨m,hm⟩ : ∃ m : Nat,-n=m:=⟨(-n).toNat,by omega⟩
          simp only [hsz,Option.bind_some,hw,hm]
          obtain ⟨y,y1,y2,y3⟩:=add_la c hs d d n n (m : Int) ((m : Int),-1) (-1) (.inr rfl) rfl m 0 d (by omega) (by omega) (by omega) hd.1 hd.2
          rw [y1,y2]
          rcases y3 with rfl | ⟨z,rfl,z0,z1,z2⟩
          · exact ⟨0,false,rfl,rfl,fun e=>by cases e⟩
          · exact ⟨z,true,rfl,rfl,fun _=>⟨by trivial,hd.1,z0,z1,fun h=>by omega⟩⟩
        · rw [decide_eq_false hneg,cond_false,cond_false,letJ_eq,letJ_eq]
          obtain ⟨m,rfl⟩ : ∃ m : Nat,n=m:=⟨n.toNat,by omega⟩
          have hsz : impl_size (m : Int)=some (m : Int):=impl_size_nat (by omega)
          simp only [hsz,Option.bind_some]
          obtain ⟨y,y1,y2,y3⟩:=add_la c hs d d (m : Int) (m : Int) (m : Int) ((m : Int),1) 1 (.inl rfl) rfl m 0 d (by omega) (by omega) (by omega) hd.1 hd.2
          rw [y1,y2]
          rcases y3 with rfl | ⟨z,rfl,z0,z1,z2⟩
          · exact ⟨0,false,rfl,rfl,fun e=>by cases e⟩
          · obtain ⟨q1,q2⟩:=z2 rfl
            exact ⟨z,true,rfl,rfl,fun _=>⟨by trivial,hd.1,z0,z1,fun _=>⟨q1,by rw [q2]; omega⟩⟩⟩
      · rw [decide_eq_false hn]
        exact ⟨0,false,rfl,rfl,fun e=>by cases e⟩
    · rw [decide_eq_false hd]
      exact ⟨0,false,rfl,rfl,fun e=>by cases e⟩
theorem cnt_ok (c : Calendar) (hs : smC c) (hc : calB c=true) (d z : Int) (h0 : 0 ≤ d) (h1 : d ≤ z) (h2 : z < 36524) : Ffd c (d + 1) (z + 1)=some (((cntO c (d + 1) (z - d).toNat : Nat) : Int),true):=by
  unfold Ffd
  rw [impl_cal c hs,hc]
  rw [decide_eq_false (show ¬ d + 1 < 0 by omega),decide_eq_false (show ¬ d + 1 > z + 1 by omega),decide_eq_false (show ¬ z + 1 > 36524 by omega)]
  simp only [Option.bind_some,Bool.not_true,cond_false,letJ_eq]
  rw [impl_cb_la c hs (d + 1) (z + 1) (z - d).toNat (d + 1) 0 (by omega) (by omega) (by omega) (by omega) (by omega)]
  simp only [bindJ_inr,Int.zero_add]
theorem calB_pw {c : Calendar} (h : calB c=true) : c.Weekend.Pairwise (· < ·) ∧ c.Holidays.Pairwise (· < ·):=by
  simp only [calB,Bool.and_eq_true] at h
  exact ⟨rising_pw h.1.1,rising_pw h.2.1⟩
theorem join_same (a b : Calendar) (ha : a.Weekend.length ≤ 1000 ∧ a.Holidays.length ≤ 1000) (hb : b.Weekend.length ≤ 1000 ∧ b.Holidays.length ≤ 1000) : ∃ j t,Ffg a b=some (j,t) ∧ (∃ j',Ffbo a b=some (j',t)) ∧ (t=true→calB a=true ∧ calB b=true ∧ calB j=true ∧ smC j ∧ (∀ d,openB j d=(openB a d && openB b d))):=by
  have sa : smC a:=⟨by omega,by omega⟩
  have sb : smC b:=⟨by omega,by omega⟩
  obtain ⟨w,w1,w2,w3,w4⟩:=united_val a.Weekend b.Weekend ha.1 hb.1
  obtain ⟨h,h1,h2,h3,h4⟩:=united_val a.Holidays b.Holidays ha.2 hb.2
  have sj : smC ⟨w,h⟩:=⟨by show w.length ≤ 1000000; omega,by show h.length ≤ 1000000; omega⟩
  unfold Ffg Ffbo
  rw [w1,h1]
  simp only [Option.bind_some,impl_cal a sa,impl_cal b sb,impl_cal ⟨w,h⟩ sj,spec_cal a sa,spec_cal b sb]
  cases ca : calB a with
  | false=>exact ⟨_,false,rfl,⟨_,rfl⟩,fun e=>by cases e⟩
  | true =>
    cases cb : calB b with
    | false=>exact ⟨_,false,rfl,⟨_,rfl⟩,fun e=>by cases e⟩
    | true =>
      obtain ⟨w',x1,x2,x3,x4⟩:=union_val a.Weekend b.Weekend ha.1 hb.1 (calB_pw ca).1
      obtain ⟨h',y1,y2,y3,y4⟩:=union_val a.Holidays b.Holidays ha.2 hb.2 (calB_pw ca).2
      obtain rfl : w=w':=asc_uniq w2 x2 fun z=>by rw [w3,x3]
      obtain rfl : h=h':=asc_uniq h2 y2 fun z=>by rw [h3,y3]
      simp only [Bool.not_true,cond_false,bindL_inr,bindJ_inr,Option.bind_some,x1,y1,spec_cal ⟨w,h⟩ sj]
      cases cj : calB ⟨w,h⟩ with
      | false=>exact ⟨_,false,rfl,⟨_,rfl⟩,fun e=>by cases e⟩
      | true =>
        refine ⟨⟨w,h⟩,true,rfl,⟨_,rfl⟩,fun _=>⟨by trivial,by trivial,cj,sj,fun d=>?_⟩⟩
        have hc : ∀ (l m r : List Int) (n : Int),(∀ x,x ∈ r ↔ x ∈ l ∨ x ∈ m)→r.contains n=(l.contains n || m.contains n):=by
          intro l m r n hh
          rw [Bool.eq_iff_iff]
          simp only [List.contains_iff_mem,Bool.or_eq_true]
          exact hh n
        unfold openB
        simp only
        rw [hc _ _ _ _ w3,hc _ _ _ _ h3]
        cases a.Weekend.contains ((w64 (d + 5)).tmod 7) <;> cases b.Weekend.contains ((w64 (d + 5)).tmod 7) <;> cases a.Holidays.contains d <;> cases b.Holidays.contains d <;> rfl
theorem isB_val (c : Calendar) (hs : smC c) (hc : calB c=true) (d : Int) : Ffe c d=some (decide (0 ≤ d ∧ d ≤ 36524) && openB c d,decide (0 ≤ d ∧ d ≤ 36524)):=by
  unfold Ffe Ffi
  rw [impl_cal c hs,hc,within_val,impl_open c d hs]
  cases decide (0 ≤ d ∧ d ≤ 36524) <;> simp
theorem law_la (code : List Int) (r3 : Calendar × Int × Int) (a b j : Calendar) (t : Bool) (hd0 : -1 ≤ r3.2.1) (hd1 : r3.2.1 ≤ 1099511627776) (sa : smC a) (sb : smC b) (sj : smC j) (ca : calB a=true) (cb : calB b=true) (cj : calB j=true) (ho : ∀ d,openB j d=(openB a d && openB b d)) : ∀ (n : Nat) (x : Int),x + n=r3.2.1 + 4→-10 ≤ x→laws_FnBusinessDays_la code r3 (a,b) (j,t) x=some (.inr ())
  | 0,x,hn,h0=>by
    rw [laws_FnBusinessDays_la_eq,laws_FnBusinessDays_la_F]
    rw [w64_id (by omega) (by omega),decide_eq_false (by omega),cond_false]
  | n + 1,x,hn,h0=>by
    rw [laws_FnBusinessDays_la_eq,laws_FnBusinessDays_la_F]
    rw [w64_id (n:=r3.2.1 + 4) (by omega) (by omega),decide_eq_true (by omega),cond_true]
    simp only [isB_val a sa ca,isB_val b sb cb,isB_val j sj cj,Option.bind_some,letJ_eq,beq_self_eq_true,Bool.not_true,cond_false]
    rw [w64_id (by omega) (by omega),law_la code r3 a b j t hd0 hd1 sa sb sj ca cb cj ho n (x + 1) (by omega) (by omega),ho x]
    cases decide (0 ≤ x ∧ x ≤ 36524) <;> cases openB a x <;> cases openB b x <;> rfl
theorem law_FnBusinessDays (code : List Int) (h : okL (okI .u8) code) : laws_FnBusinessDays code=some true:=by
  unfold laws_FnBusinessDays laws_vBig
  rw [Option.bind_some]
  cases hb : decide (len code > 65536) with
  | true=>rfl
  | false =>
    obtain ⟨c,d,n,hd,hs,d0,d1⟩:=drawAB code h
    obtain ⟨z,b,z1,z2,z3⟩:=add_same c hs d n
    obtain ⟨a',b',hj,ha,hbb⟩:=drawJC code h
    obtain ⟨j,t,j1,⟨j',j2⟩,j3⟩:=join_same a' b' ha hbb
    have ez : (z != z)=false:=by rw [bne,beq_self_eq_true]; rfl
    simp only [cond_false,hd,Option.bind_some,z1,z2,ez,beq_self_eq_true,Bool.not_true,letJ_eq,hj,j1,j2]
    have rest : (bif !t then (some true) else (bindJ (ρ:=Bool) (laws_FnBusinessDays_la code (c,d,n) (a',b') (j,t) (w64 (d - 3))) fun u20 : Unit=>some true))=some true:=by
      cases ht : t with
      | false=>rfl
      | true =>
        obtain ⟨ca,cb,cj,sj,ho⟩:=j3 ht
        rw [w64_id (by omega) (by omega),law_la code (c,d,n) a' b' j true d0 d1 ⟨by omega,by omega⟩ ⟨by omega,by omega⟩ sj ca cb cj ho 7 (d - 3) (by simp only; omega) (by omega)]
        rfl
    cases hbt : b with
    | false =>
      simp only [cond_false,bindJ_inr]
      exact rest
    | true =>
      obtain ⟨hc,q0,q1,q2,q3⟩:=z3 hbt
      rw [cond_true]
      by_cases hn : n > 0
      · rw [decide_eq_true hn,cond_true]
        by_cases hz : z < 36524
        · obtain ⟨p1,p2⟩:=q3 hn
          rw [decide_eq_true hz,cond_true,w64_id (n:=d + 1) (by omega) (by omega),w64_id (n:=z + 1) (by omega) (by omega),cnt_ok c hs hc d z q0 p1 hz,p2]
          have en : (((n.toNat : Nat) : Int) != n)=false:=by
            rw [show ((n.toNat : Nat) : Int)=n by omega,bne,beq_self_eq_true]; rfl
          simp only [Option.bind_some,Bool.not_true,cond_false,en,bindJ_inr]
          exact rest
        · rw [decide_eq_false hz]
          simp only [cond_false,bindJ_inr]
          exact rest
      · rw [decide_eq_false hn]
        simp only [cond_false,bindJ_inr]
        exact rest
end Go.Ln
