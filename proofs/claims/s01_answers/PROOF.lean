import PyProof.Rows.All
import PyKyk
import PyFlatLaws
import Wide.All
import OpenK.AllK
import Wide.FinOn
import PyProof.EqAt
import PyProof.EqKinds
import PyProof.TupleCall
import Open.SpecLaws
import KE.OsGo
import PySem.Challenge.RW_washloads_s01_answers
import HandS.ForSpec
import HandS.HeadHook1
import HandS.ExcInit
import HandS.ExcField
import KE.HD4
import PyProof.NeKinds
import KE.GoesMore
import HandS.Iter
import HandS.Comp
import HandS.NoneIn
import HandS.TupAny
import HandS.SortRule
import HandS.SortKw
import HandS.Dict
import HandS.More
import KE.GoesEnum
import KE.DataMinMax
import HandS.WrittenGet
import KE.KDictZip
import KE.KTurns
import HandS.Zip0
import HandS.ListItems
import HandS.WordsExc
section
set_option Elab.async false
set_option linter.all false
/-! # Washloads: the state as the program holds it, and labels in signs -/
namespace Wl
open Kyk1 (Label Thing)
/-- a label as the program holds it -/
structure Lb where
  signs : List Nat
  heat : Nat
  gentle : Nat
  bleach : Nat
  dry : Nat
  iron : Nat
structure Th where
  order : Nat
  lb : Lb
  need : Nat
  colour : Nat
  runs : Nat
  weight : Nat
  washed : Bool
  mach : Int
structure Od where
  due : Nat
  stands : Nat
  things : List Nat
structure Mc where
  bears : Nat
  broken : Bool
  things : List Nat
  prog : List Nat
  till : Nat
structure La where
  price : Nat
  machines : List Mc
  orders : List Od
  things : List Th
  now : Nat
  till : Nat

/-! ## labels -/
def digI (b : Nat) : Int := if 48 ≤ b ∧ b ≤ 57 then (b : Int) - 48 else -1
def heatI : List Nat → Int
  | a :: b :: c :: _ => if a ≠ 87 ∨ digI b < 0 ∨ digI c < 0 then -1 else if 10 * digI b + digI c ∈ [(0 : Int), 30, 40, 60, 95] then 10 * digI b + digI c else -1
  | _ => -1
def endsI : List Nat → List Int
  | [a, x, b, y, c, z] => if a = 66 ∧ 0 ≤ digI x ∧ digI x ≤ 2 ∧ b = 68 ∧ 0 ≤ digI y ∧ digI y ≤ 2 ∧ c = 73 ∧ 0 ≤ digI z ∧ digI z ≤ 3 then [digI x, digI y, digI z] else []
  | _ => []
/-- how many _ stand ahead -/
def under : List Nat → Nat
  | [] => 0
  | a :: l => if a = 95 then under l + 1 else 0
def absLb (x : Lb) : Label := ⟨x.heat, x.gentle, x.bleach, x.dry, x.iron⟩
def readI (t : List Nat) : Option Lb :=
  if heatI t < 0 then none else
  let g := under (t.drop 3)
  match endsI ((t.drop 3).drop g) with
  | [x, y, z] => if 2 < g ∨ (heatI t = 0 ∧ 0 < g) then none else some ⟨t, (heatI t).toNat, g, x.toNat, y.toNat, z.toNat⟩
  | _ => none
theorem digit_digI (b m : Nat) (hm : m ≤ 9) : Kyk1.digit b m = if 0 ≤ digI b ∧ digI b ≤ m then some (digI b).toNat else none := by
  unfold Kyk1.digit digI
  split <;> split <;> (try split at *) <;> first | rfl | (exfalso; omega) | (congr 1; omega)
theorem digI_le (b : Nat) : digI b ≤ 9 := by
  unfold digI; split <;> omega
theorem digI_ge (b : Nat) : -1 ≤ digI b := by
  unfold digI; split <;> omega
theorem digI_cases (b : Nat) : digI b = -1 ∨ (0 ≤ digI b ∧ digI b ≤ 9 ∧ b = 48 + (digI b).toNat) := by
  unfold digI; split <;> omega
theorem mem_heats {n : Nat} : Kyk1.heats.contains n = true ↔ n = 30 ∨ n = 40 ∨ n = 60 ∨ n = 95 := by
  simp [Kyk1.heats]
theorem okLabel_iff (w g x y z : Nat) : Kyk1.okLabel ⟨w, g, x, y, z⟩ = true ↔ ((w = 0 ∨ w = 30 ∨ w = 40 ∨ w = 60 ∨ w = 95) ∧ g ≤ 2 ∧ x ≤ 2 ∧ y ≤ 2 ∧ z ≤ 3 ∧ (w ≠ 0 ∨ g = 0)) := by
  unfold Kyk1.okLabel
  simp only [Bool.and_eq_true, Bool.or_eq_true, decide_eq_true_eq, beq_iff_eq, bne_iff_ne, mem_heats]
  omega
theorem rest_ends (w g : Nat) (hg : g ≤ 2) (l : List Nat) : Kyk1.rest w g l =
    match endsI l with
    | [x, y, z] => if Kyk1.okLabel ⟨w, g, x.toNat, y.toNat, z.toNat⟩ = true then some ⟨w, g, x.toNat, y.toNat, z.toNat⟩ else none
    | _ => none := by
  unfold Kyk1.rest
  split
  · rename_i b d i
    rw [digit_digI b 2 (by omega), digit_digI d 2 (by omega), digit_digI i 3 (by omega)]
    have h : endsI [66, b, 68, d, 73, i] = if (0 ≤ digI b ∧ digI b ≤ 2) ∧ (0 ≤ digI d ∧ digI d ≤ 2) ∧ (0 ≤ digI i ∧ digI i ≤ 3) then [digI b, digI d, digI i] else [] := by
      unfold endsI
      simp only [true_and]
      congr 1
      apply propext
      constructor <;> (intro h; omega)
    rw [h]
    by_cases h1 : 0 ≤ digI b ∧ digI b ≤ (2 : Nat)
    · by_cases h2 : 0 ≤ digI d ∧ digI d ≤ (2 : Nat)
      · by_cases h3 : 0 ≤ digI i ∧ digI i ≤ (3 : Nat)
        · rw [if_pos h1, if_pos h2, if_pos h3, if_pos (show _ from ⟨⟨by omega, by omega⟩, ⟨by omega, by omega⟩, by omega, by omega⟩)]; rfl
        · have q : ¬ ((0 ≤ digI b ∧ digI b ≤ 2) ∧ (0 ≤ digI d ∧ digI d ≤ 2) ∧ (0 ≤ digI i ∧ digI i ≤ 3)) := fun z => h3 z.2.2
          rw [if_pos h1, if_pos h2, if_neg h3, if_neg q]; rfl
      · have q : ¬ ((0 ≤ digI b ∧ digI b ≤ 2) ∧ (0 ≤ digI d ∧ digI d ≤ 2) ∧ (0 ≤ digI i ∧ digI i ≤ 3)) := fun z => h2 z.2.1
        rw [if_pos h1, if_neg h2, if_neg q]; rfl
    · have q : ¬ ((0 ≤ digI b ∧ digI b ≤ 2) ∧ (0 ≤ digI d ∧ digI d ≤ 2) ∧ (0 ≤ digI i ∧ digI i ≤ 3)) := fun z => h1 z.1
      rw [if_neg h1, if_neg q]; rfl
  · rename_i hne
    have h : endsI l = [] := by
      unfold endsI
      split
      · rename_i a x b y c z
        split
        · rename_i h; obtain ⟨rfl, _, _, rfl, _, _, rfl, _, _⟩ := h
          exact absurd rfl (hne _ _ _)
        · rfl
      · rfl
    rw [h]
theorem endsI_95 (l : List Nat) : endsI (95 :: l) = [] := by
  unfold endsI
  split
  · rename_i a x b y c z e
    cases e
    rw [if_neg (fun q => absurd q.1 (by decide))]
  · rfl
theorem under_match (w : Nat) (l : List Nat) : (match l with
    | 95 :: 95 :: m => Kyk1.rest w 2 m
    | 95 :: m => Kyk1.rest w 1 m
    | m => Kyk1.rest w 0 m) = if under l ≤ 2 then Kyk1.rest w (under l) (l.drop (under l)) else none := by
  have big : ∀ m, under m ≠ 0 → ∃ m', m = 95 :: m' := by
    intro m h
    cases m with
    | nil => exact absurd rfl h
    | cons a m' =>
      by_cases e : a = 95
      · subst e; exact ⟨m', rfl⟩
      · exact absurd (by unfold under; rw [if_neg e]) h
  split
  · rename_i m
    have e : under (95 :: 95 :: m) = under m + 2 := rfl
    by_cases h : under m = 0
    · rw [e, h, if_pos (by omega)]; rfl
    · rw [e, if_neg (by omega)]
      obtain ⟨m', rfl⟩ := big m h
      rw [rest_ends w 2 (by omega), endsI_95]
  · rename_i m hm
    have e : under (95 :: m) = under m + 1 := rfl
    by_cases h : under m = 0
    · rw [e, h, if_pos (by omega)]; rfl
    · obtain ⟨m', rfl⟩ := big m h
      exact absurd rfl (hm m')
  · rename_i hm hn
    by_cases h : under l = 0
    · rw [h, if_pos (by omega)]; rfl
    · obtain ⟨m', rfl⟩ := big l h
      exact absurd rfl (hn m')
theorem endsI_shape (l : List Nat) : endsI l = [] ∨ ∃ x y z : Int, endsI l = [x, y, z] ∧ 0 ≤ x ∧ x ≤ 2 ∧ 0 ≤ y ∧ y ≤ 2 ∧ 0 ≤ z ∧ z ≤ 3 ∧ l = [66, 48 + x.toNat, 68, 48 + y.toNat, 73, 48 + z.toNat] := by
  unfold endsI
  split
  · rename_i a x b y c z
    split
    · rename_i h
      obtain ⟨rfl, h1, h2, rfl, h3, h4, rfl, h5, h6⟩ := h
      refine .inr ⟨_, _, _, rfl, h1, h2, h3, h4, h5, h6, ?_⟩
      have := digI_cases x; have := digI_cases y; have := digI_cases z
      have ex : x = 48 + (digI x).toNat := by omega
      have ey : y = 48 + (digI y).toNat := by omega
      have ez : z = 48 + (digI z).toNat := by omega
      rw [← ex, ← ey, ← ez]
    · exact .inl rfl
  · exact .inl rfl
theorem readI_neg {t : List Nat} (h : heatI t < 0) : readI t = none := if_pos h
theorem heatI_bad {a b c : Nat} {l : List Nat} (h : a ≠ 87 ∨ digI b < 0 ∨ digI c < 0) : heatI (a :: b :: c :: l) = -1 := if_pos h
theorem heatI_ok {b c : Nat} {l : List Nat} (h1 : ¬ digI b < 0) (h2 : ¬ digI c < 0) : heatI (87 :: b :: c :: l) = if 10 * digI b + digI c ∈ [(0 : Int), 30, 40, 60, 95] then 10 * digI b + digI c else -1 :=
  if_neg (show ¬ (87 ≠ 87 ∨ digI b < 0 ∨ digI c < 0) by omega)
theorem readI_cons (a b c : Nat) (l : List Nat) : readI (a :: b :: c :: l) = if heatI (a :: b :: c :: l) < 0 then none else match endsI (l.drop (under l)) with
  | [x, y, z] => if 2 < under l ∨ (heatI (a :: b :: c :: l) = 0 ∧ 0 < under l) then none else some ⟨a :: b :: c :: l, (heatI (a :: b :: c :: l)).toNat, under l, x.toNat, y.toNat, z.toNat⟩
  | _ => none := rfl
theorem read_readI (t : List Nat) : Kyk1.read t = (readI t).map absLb := by
  unfold Kyk1.read
  split
  · rename_i a b l
    rw [digit_digI a 9 (by omega), digit_digI b 9 (by omega)]
    have ha := digI_cases a; have hb := digI_cases b
    by_cases h1 : digI a < 0
    · rw [if_neg (by omega), readI_neg (by rw [heatI_bad (.inr (.inl h1))]; decide)]; rfl
    · by_cases h2 : digI b < 0
      · rw [if_pos (show 0 ≤ digI a ∧ digI a ≤ (9 : Nat) by omega), if_neg (show ¬ (0 ≤ digI b ∧ digI b ≤ (9 : Nat)) by omega)]
        rw [readI_neg (by rw [heatI_bad (.inr (.inr h2))]; decide)]; rfl
      · rw [if_pos (show 0 ≤ digI a ∧ digI a ≤ (9 : Nat) by omega), if_pos (show 0 ≤ digI b ∧ digI b ≤ (9 : Nat) by omega)]
        show (match l with
          | 95 :: 95 :: m => Kyk1.rest (10 * (digI a).toNat + (digI b).toNat) 2 m
          | 95 :: m => Kyk1.rest (10 * (digI a).toNat + (digI b).toNat) 1 m
          | m => Kyk1.rest (10 * (digI a).toNat + (digI b).toNat) 0 m) = _
        rw [under_match, readI_cons, heatI_ok h1 h2]
        generalize hw : 10 * digI a + digI b = w
        have ew : 10 * (digI a).toNat + (digI b).toNat = w.toNat := by omega
        rw [ew]
        have w0 : 0 ≤ w := by omega
        by_cases hm : w ∈ [(0 : Int), 30, 40, 60, 95]
        · rw [if_pos hm, if_neg (show ¬ w < 0 by omega)]
          by_cases hu : under l ≤ 2
          · rw [if_pos hu, rest_ends _ _ hu]
            rcases endsI_shape (l.drop (under l)) with e | ⟨x, y, z, e, x1, x2, y1, y2, z1, z2, _⟩
            · rw [e]; rfl
            · rw [e]
              show (if _ then _ else _) = Option.map absLb (if _ then _ else _)
              have hm' : w = 0 ∨ w = 30 ∨ w = 40 ∨ w = 60 ∨ w = 95 := by simpa using hm
              by_cases hk : w = 0 ∧ 0 < under l
              · rw [if_neg (show ¬ Kyk1.okLabel ⟨_, _, _, _, _⟩ = true by rw [okLabel_iff]; omega), if_pos (show _ ∨ _ from .inr hk)]; rfl
              · rw [if_pos (show Kyk1.okLabel ⟨_, _, _, _, _⟩ = true by rw [okLabel_iff]; omega), if_neg (show ¬ (_ ∨ _) by omega)]; rfl
          · rw [if_neg hu]
            rcases endsI_shape (l.drop (under l)) with e | ⟨x, y, z, e, _⟩
            · rw [e]; rfl
            · rw [e]
              show none = Option.map absLb (if _ then _ else _)
              rw [if_pos (.inl (by omega))]; rfl
        · rw [if_neg hm, if_pos (show (-1 : Int) < 0 by omega)]
          by_cases hu : under l ≤ 2
          · rw [if_pos hu, rest_ends _ _ hu]
            rcases endsI_shape (l.drop (under l)) with e | ⟨x, y, z, e, _⟩
            · rw [e]; rfl
            · rw [e]
              show (if _ then _ else _) = none
              rw [if_neg]
              rw [okLabel_iff]
              intro q
              apply hm
              simp
              omega
          · rw [if_neg hu]; rfl
  · rename_i hne
    have hh : heatI t = -1 := by
      unfold heatI
      split
      · rename_i a b c l
        exact if_pos (.inl (fun e => hne b c l (by rw [e])))
      · rfl
    rw [readI_neg (by rw [hh]; decide)]; rfl
/-- what a read label holds -/
structure LbOk (x : Lb) : Prop where
  heat : x.heat = 0 ∨ x.heat = 30 ∨ x.heat = 40 ∨ x.heat = 60 ∨ x.heat = 95
  gentle : x.gentle ≤ 2
  bleach : x.bleach ≤ 2
  dry : x.dry ≤ 2
  iron : x.iron ≤ 3
  cold : x.heat = 0 → x.gentle = 0
  told : Kyk1.told (absLb x) = x.signs
theorem under_split : ∀ l : List Nat, l = List.replicate (under l) 95 ++ l.drop (under l)
  | [] => rfl
  | a :: l => by
    unfold under
    by_cases e : a = 95
    · subst e
      rw [if_pos rfl]
      show 95 :: l = 95 :: (List.replicate (under l) 95 ++ l.drop (under l))
      rw [← under_split l]
    · rw [if_neg e]; rfl
theorem readI_ok {t : List Nat} {x : Lb} (h : readI t = some x) : LbOk x ∧ x.signs = t := by
  have hp : ∃ a b c l, t = a :: b :: c :: l := by
    cases t with
    | nil => rw [readI_neg (by decide)] at h; cases h
    | cons a t => cases t with
      | nil => rw [readI_neg (show heatI [a] < 0 from (by decide : (-1 : Int) < 0))] at h; cases h
      | cons b t => cases t with
        | nil => rw [readI_neg (show heatI [a, b] < 0 from (by decide : (-1 : Int) < 0))] at h; cases h
        | cons c l => exact ⟨a, b, c, l, rfl⟩
  obtain ⟨a, b, c, l, rfl⟩ := hp
  by_cases hd : a ≠ 87 ∨ digI b < 0 ∨ digI c < 0
  · rw [readI_neg (by rw [heatI_bad hd]; decide)] at h; cases h
  obtain rfl : a = 87 := by omega
  rw [readI_cons, heatI_ok (by omega) (by omega)] at h
  by_cases hm : 10 * digI b + digI c ∈ [(0 : Int), 30, 40, 60, 95]
  · rw [if_pos hm] at h
    have hm' : 10 * digI b + digI c = 0 ∨ 10 * digI b + digI c = 30 ∨ 10 * digI b + digI c = 40 ∨ 10 * digI b + digI c = 60 ∨ 10 * digI b + digI c = 95 := by simpa using hm
    have eb := digI_cases b; have ec := digI_cases c
    rw [if_neg (by omega)] at h
    rcases endsI_shape (l.drop (under l)) with e | ⟨x1, y1, z1, e, hx1, hx2, hy1, hy2, hz1, hz2, el⟩
    · rw [e] at h; cases h
    · rw [e] at h
      have h2 : (if 2 < under l ∨ (10 * digI b + digI c = 0 ∧ 0 < under l) then none else some (⟨87 :: b :: c :: l, (10 * digI b + digI c).toNat, under l, x1.toNat, y1.toNat, z1.toNat⟩ : Lb)) = some x := h
      by_cases hk : 2 < under l ∨ (10 * digI b + digI c = 0 ∧ 0 < under l)
      · rw [if_pos hk] at h2; cases h2
      · rw [if_neg hk] at h2
        have ex := (Option.some.inj h2).symm
        subst ex
        refine ⟨⟨?_, ?_, ?_, ?_, ?_, ?_, ?_⟩, rfl⟩ <;> try (dsimp only; omega)
        show Kyk1.told ⟨_, _, _, _, _⟩ = 87 :: b :: c :: l
        unfold Kyk1.told
        dsimp only
        have e1 : 48 + (10 * digI b + digI c).toNat / 10 = b := by omega
        have e2 : 48 + (10 * digI b + digI c).toNat % 10 = c := by omega
        rw [e1, e2]
        have := under_split l
        rw [el] at this
        rw [List.append_assoc, ← this]
        rfl
  · rw [if_neg hm, if_pos (by omega)] at h; cases h
end Wl
end
section
set_option Elab.async false
set_option linter.all false
/-! # Washloads: together, the mildest program, loads -/
namespace Wl
open Kyk1 (Label Thing)
def absX (t : Th) : Thing := ⟨absLb t.lb, t.need, t.colour, t.runs == 1⟩
def pieceT (t : Th) : Kyk2.Piece := ⟨absX t, t.weight⟩
structure ThOk (t : Th) : Prop where
  lb : LbOk t.lb
  need : t.need = 0 ∨ t.need = 30 ∨ t.need = 40 ∨ t.need = 60 ∨ t.need = 95
  colour : t.colour ≤ 9
  runs : t.runs ≤ 1
  w1 : 1 ≤ t.weight
  w2 : t.weight ≤ 20000
/-- are_colours_right -/
def crB (x y : Th) : Bool := x.colour == y.colour || (x.runs == 0 && y.runs == 0)
theorem cr_colours {x y : Th} (hx : x.runs ≤ 1) (hy : y.runs ≤ 1) : Kyk1.colours (absX x) (absX y) = crB x y := by
  unfold Kyk1.colours crB absX
  have e : ∀ n : Nat, n ≤ 1 → (!(n == 1)) = (n == 0) := by
    intro n h
    match n, h with
    | 0, _ => rfl
    | 1, _ => rfl
  dsimp only
  rw [e _ hx, e _ hy]
theorem crB_comm (x y : Th) : crB x y = crB y x := by
  unfold crB
  rw [Bool.beq_comm (a := x.colour)]
  rw [Bool.and_comm]
theorem crB_self (x : Th) : crB x x = true := by
  unfold crB; simp
theorem coloursAll_iff {ts : List Th} (h : ∀ t ∈ ts, t.runs ≤ 1) : Kyk1.coloursAll (ts.map absX) = true ↔ ∀ (k j : Nat) (x y : Th), j < k → ts[k]? = some x → ts[j]? = some y → crB x y = true := by
  unfold Kyk1.coloursAll
  simp only [List.all_eq_true, List.mem_map, forall_exists_index, and_imp, forall_apply_eq_imp_iff₂]
  constructor
  · intro q k j x y _ hk hj
    have hx := List.mem_of_getElem? hk
    have hy := List.mem_of_getElem? hj
    rw [← cr_colours (h x hx) (h y hy)]
    exact q x hx y hy
  · intro q x hx y hy
    rw [cr_colours (h x hx) (h y hy)]
    obtain ⟨k, hk⟩ := List.getElem?_of_mem hx
    obtain ⟨j, hj⟩ := List.getElem?_of_mem hy
    rcases Nat.lt_trichotomy j k with c | c | c
    · exact q k j x y c hk hj
    · subst c; rw [hk] at hj; cases hj; exact crB_self x
    · rw [crB_comm]; exact q j k y x c hj hk
/-! ## folds -/
theorem foldl_max {α : Type} (f : α → Nat) : ∀ (l : List α) (a : Nat), a ≤ l.foldl (fun n x => max n (f x)) a ∧ (∀ x ∈ l, f x ≤ l.foldl (fun n x => max n (f x)) a) ∧ (l.foldl (fun n x => max n (f x)) a = a ∨ ∃ x ∈ l, l.foldl (fun n x => max n (f x)) a = f x)
  | [], a => ⟨Nat.le_refl _, fun x h => absurd h (by simp), .inl rfl⟩
  | y :: l, a => by
    obtain ⟨h1, h2, h3⟩ := foldl_max f l (max a (f y))
    rw [List.foldl_cons]
    refine ⟨by omega, fun x hx => ?_, ?_⟩
    · rcases List.mem_cons.mp hx with rfl | hx
      · omega
      · exact h2 x hx
    · rcases h3 with e | ⟨x, hx, e⟩
      · rw [e]
        by_cases c : a ≤ f y
        · exact .inr ⟨y, List.mem_cons_self, by omega⟩
        · exact .inl (by omega)
      · exact .inr ⟨x, List.mem_cons_of_mem _ hx, e⟩
theorem foldl_min {α : Type} (f : α → Nat) : ∀ (l : List α) (a : Nat), l.foldl (fun n x => min n (f x)) a ≤ a ∧ (∀ x ∈ l, l.foldl (fun n x => min n (f x)) a ≤ f x) ∧ (l.foldl (fun n x => min n (f x)) a = a ∨ ∃ x ∈ l, l.foldl (fun n x => min n (f x)) a = f x)
  | [], a => ⟨Nat.le_refl _, fun x h => absurd h (by simp), .inl rfl⟩
  | y :: l, a => by
    obtain ⟨h1, h2, h3⟩ := foldl_min f l (min a (f y))
    rw [List.foldl_cons]
    refine ⟨by omega, fun x hx => ?_, ?_⟩
    · rcases List.mem_cons.mp hx with rfl | hx
      · omega
      · exact h2 x hx
    · rcases h3 with e | ⟨x, hx, e⟩
      · rw [e]
        by_cases c : f y ≤ a
        · exact .inr ⟨y, List.mem_cons_self, by omega⟩
        · exact .inl (by omega)
      · exact .inr ⟨x, List.mem_cons_of_mem _ hx, e⟩
/-- what max(..) of a list of numbers is: one of it, none is greater -/
def IsMax (l : List Nat) (m : Nat) : Prop := m ∈ l ∧ ∀ x ∈ l, x ≤ m
def IsMin (l : List Nat) (m : Nat) : Prop := m ∈ l ∧ ∀ x ∈ l, m ≤ x
theorem IsMax.fold {α : Type} {f : α → Nat} {l : List α} {m : Nat} (h : IsMax (l.map f) m) : l.foldl (fun n x => max n (f x)) 0 = m := by
  obtain ⟨hm, hle⟩ := h
  obtain ⟨h1, h2, h3⟩ := foldl_max f l 0
  obtain ⟨x, hx, rfl⟩ := List.mem_map.mp hm
  have a := h2 x hx
  rcases h3 with e | ⟨y, hy, e⟩
  · omega
  · have := hle (f y) (List.mem_map_of_mem hy)
    omega
theorem IsMin.fold {α : Type} {f : α → Nat} {l : List α} {m b : Nat} (h : IsMin (l.map f) m) (hb : ∀ x ∈ l, f x ≤ b) : l.foldl (fun n x => min n (f x)) b = m := by
  obtain ⟨hm, hle⟩ := h
  obtain ⟨h1, h2, h3⟩ := foldl_min f l b
  obtain ⟨x, hx, rfl⟩ := List.mem_map.mp hm
  have a := h2 x hx
  have := hb x hx
  rcases h3 with e | ⟨y, hy, e⟩
  · omega
  · have := hle (f y) (List.mem_map_of_mem hy)
    omega
/-! ## the mildest program -/
/-- what mildest hands back -/
def mildP (ts : List Th) : List Nat := match Kyk1.program (ts.map absX) with
  | none => []
  | some p => Kyk1.programNumbers p
theorem heats_pick {ts : List Th} {M W : Nat} (hM : IsMax (ts.map Th.need) M) (hW : IsMin (ts.map fun t => t.lb.heat) W) :
    (Kyk1.heats.find? fun h => (ts.map absX).all fun x => decide (x.need ≤ h) && decide (h ≤ x.label.wash)) = ((Kyk1.heats.filter fun h => decide (M ≤ h)).filter fun h => decide (h ≤ W)).head? := by
  rw [List.filter_filter, List.head?_filter]
  congr 1
  funext h
  rw [Bool.eq_iff_iff]
  simp only [List.all_eq_true, List.mem_map, Bool.and_eq_true, decide_eq_true_eq, forall_exists_index, and_imp, forall_apply_eq_imp_iff₂]
  constructor
  · intro q
    obtain ⟨x, hx, e⟩ := List.mem_map.mp hM.1
    obtain ⟨y, hy, e'⟩ := List.mem_map.mp hW.1
    have a := (q x hx).1
    have b := (q y hy).2
    have a' : x.need ≤ h := a
    have b' : h ≤ y.lb.heat := b
    exact ⟨by omega, by omega⟩
  · rintro ⟨q1, q2⟩ t ht
    have a := hM.2 _ (List.mem_map_of_mem (f := Th.need) ht)
    have b := hW.2 _ (List.mem_map_of_mem (f := fun t => t.lb.heat) ht)
    show t.need ≤ h ∧ h ≤ t.lb.heat
    omega
/-- mildest: heats that are left, and the rest -/
theorem mild_none {ts : List Th} {M W : Nat} (hM : IsMax (ts.map Th.need) M) (hW : IsMin (ts.map fun t => t.lb.heat) W)
    (h : (Kyk1.heats.filter fun h => decide (M ≤ h)).filter (fun h => decide (h ≤ W)) = []) : mildP ts = [] := by
  unfold mildP Kyk1.program
  rw [heats_pick hM hW, h]; rfl
theorem mild_some {ts : List Th} {M W G B D h : Nat} {r : List Nat} (ok : ∀ t ∈ ts, LbOk t.lb) (hM : IsMax (ts.map Th.need) M) (hW : IsMin (ts.map fun t => t.lb.heat) W)
    (hG : IsMax (ts.map fun t => t.lb.gentle) G) (hB : IsMin (ts.map fun t => t.lb.bleach) B) (hD : IsMin (ts.map fun t => t.lb.dry) D)
    (e : (Kyk1.heats.filter fun h => decide (M ≤ h)).filter (fun h => decide (h ≤ W)) = h :: r) : mildP ts = [h, G, B, D] := by
  unfold mildP Kyk1.program
  rw [heats_pick hM hW, e]
  show Kyk1.programNumbers ⟨h, (ts.map absX).foldl (fun n x => max n x.label.gentle) 0, (ts.map absX).foldl (fun n x => min n x.label.bleach) 2, (ts.map absX).foldl (fun n x => min n x.label.dry) 2⟩ = _
  rw [List.foldl_map, List.foldl_map, List.foldl_map]
  have e1 : ts.foldl (fun n x => max n (absX x).label.gentle) 0 = G := IsMax.fold (f := fun t : Th => t.lb.gentle) hG
  have e2 : ts.foldl (fun n x => min n (absX x).label.bleach) 2 = B := IsMin.fold (f := fun t : Th => t.lb.bleach) hB fun t ht => (ok t ht).bleach
  have e3 : ts.foldl (fun n x => min n (absX x).label.dry) 2 = D := IsMin.fold (f := fun t : Th => t.lb.dry) hD fun t ht => (ok t ht).dry
  rw [e1, e2, e3]; rfl
theorem mildP_isSome (ts : List Th) : (Kyk1.program (ts.map absX)).isSome = decide (mildP ts ≠ []) := by
  unfold mildP
  cases Kyk1.program (ts.map absX) with
  | none => rfl
  | some p => rfl
def togetherB (ts : List Th) : Bool := Kyk1.together (ts.map absX)
theorem together_no {ts : List Th} (h : ∀ t ∈ ts, t.runs ≤ 1) {k j : Nat} {x y : Th} (hj : j < k) (hk : ts[k]? = some x) (hy : ts[j]? = some y) (c : crB x y = false) : togetherB ts = false := by
  unfold togetherB Kyk1.together
  cases e : Kyk1.coloursAll (ts.map absX) with
  | false => rfl
  | true =>
    have := (coloursAll_iff h).mp e k j x y hj hk hy
    rw [c] at this; cases this
theorem together_yes {ts : List Th} (h : ∀ t ∈ ts, t.runs ≤ 1) (c : ∀ (k j : Nat) (x y : Th), j < k → ts[k]? = some x → ts[j]? = some y → crB x y = true) : togetherB ts = decide (mildP ts ≠ []) := by
  unfold togetherB Kyk1.together
  rw [(coloursAll_iff h).mpr c, Bool.true_and, mildP_isSome]
def loadB (bears : Nat) (ts : List Th) : Bool := Kyk2.load bears (ts.map pieceT)
theorem sum_foldl : ∀ (l : List Nat) (a : Nat), l.foldl (· + ·) a = a + l.sum
  | [], a => by simp
  | x :: r, a => by rw [List.foldl_cons, sum_foldl r, List.sum_cons]; omega
theorem loadB_eq (bears : Nat) (ts : List Th) : loadB bears ts = (togetherB ts && decide ((ts.map Th.weight).sum ≤ bears)) := by
  unfold loadB Kyk2.load togetherB
  rw [List.map_map, List.map_map]
  have e : Kyk2.sum (ts.map ((fun p => p.w) ∘ pieceT)) = (ts.map Th.weight).sum := by
    unfold Kyk2.sum
    rw [sum_foldl, Nat.zero_add]; rfl
  rw [e]; rfl
end Wl
end
section
set_option Elab.async false
set_option linter.all false
/-! # Washloads: the ways to share out -/
namespace Wl
open Kyk2 (Piece inLoad wayOn firstSome best)
def nl (a : List Nat) : Nat := a.foldl (fun n x => max n (x + 1)) 0
theorem nl_snoc (a : List Nat) (i : Nat) : nl (a ++ [i]) = max (nl a) (i + 1) := by
  unfold nl; rw [List.foldl_append]; rfl
theorem nl_max {a : List Nat} {m : Nat} (h : IsMax a m) : nl a = m + 1 := by
  have h' : IsMax (a.map fun x => x + 1) (m + 1) := ⟨List.mem_map_of_mem (f := fun x => x + 1) h.1, fun x hx => by
    obtain ⟨y, hy, rfl⟩ := List.mem_map.mp hx
    have := h.2 y hy
    omega⟩
  exact IsMax.fold (f := fun x => x + 1) h'
theorem nl_le {a : List Nat} {k : Nat} : nl a ≤ k ↔ ∀ x ∈ a, x < k := by
  obtain ⟨_, h2, h3⟩ := foldl_max (fun x => x + 1) a 0
  constructor
  · intro h x hx
    have := h2 x hx
    unfold nl at h
    omega
  · intro h
    unfold nl
    rcases h3 with e | ⟨x, hx, e⟩
    · rw [e]; omega
    · rw [e]; exact h x hx
theorem nl_mem {a : List Nat} (h : a ≠ []) : nl a - 1 ∈ a ∧ 1 ≤ nl a := by
  obtain ⟨_, h2, h3⟩ := foldl_max (fun x => x + 1) a 0
  unfold nl
  rcases h3 with e | ⟨x, hx, e⟩
  · cases a with
    | nil => exact absurd rfl h
    | cons y r => have := h2 y List.mem_cons_self; omega
  · rw [e]; exact ⟨by simpa using hx, by omega⟩
theorem firstSome_filter (p : Nat → Bool) (f : Nat → Option (List Nat)) : ∀ l : List Nat, firstSome (fun i => if p i = true then f i else none) l = (l.filter p).findSome? f
  | [] => rfl
  | x :: r => by
    unfold firstSome
    rw [firstSome_filter p f r, List.filter_cons]
    by_cases h : p x = true
    · rw [if_pos h, if_pos h, List.findSome?_cons]
      cases f x <;> rfl
    · rw [if_neg h, if_neg h]
def succ (bears k : Nat) (l : List Piece) (a : List Nat) : Option (List Nat) := wayOn bears k l (l.drop a.length) (nl a) a
def next (bears k : Nat) (l : List Piece) (a : List Nat) : List Nat := (List.range (min k (nl a + 1))).filter fun i => Kyk2.load bears (inLoad l (a ++ [i]) i)
theorem succ_done {bears k : Nat} {l : List Piece} {a : List Nat} (h : a.length = l.length) : succ bears k l a = some a := by
  unfold succ
  rw [h, List.drop_length]; rfl
theorem succ_step {bears k : Nat} {l : List Piece} {a : List Nat} (h : a.length < l.length) : succ bears k l a = (next bears k l a).findSome? fun i => succ bears k l (a ++ [i]) := by
  unfold succ next
  rw [List.drop_eq_getElem_cons h]
  show firstSome (fun i => if Kyk2.load bears (inLoad l (a ++ [i]) i) = true then wayOn bears k l (l.drop (a.length + 1)) (max (nl a) (i + 1)) (a ++ [i]) else none) (List.range (min k (nl a + 1))) = _
  rw [firstSome_filter]
  congr 1
  funext i
  rw [nl_snoc, List.length_append]; rfl
theorem next_mem {bears k : Nat} {l : List Piece} {a : List Nat} {i : Nat} (h : i ∈ next bears k l a) : i < k ∧ i ≤ nl a ∧ Kyk2.load bears (inLoad l (a ++ [i]) i) = true := by
  unfold next at h
  obtain ⟨h1, h2⟩ := List.mem_filter.mp h
  have := List.mem_range.mp h1
  exact ⟨by omega, by omega, h2⟩
theorem next_length (bears k : Nat) (l : List Piece) (a : List Nat) : (next bears k l a).length ≤ k := by
  unfold next
  refine Nat.le_trans (List.length_filter_le _ _) ?_
  rw [List.length_range]; omega
/-! ## the stack, its top first -/
def searchS (bears k : Nat) (l : List Piece) (st : List (List Nat)) : Option (List Nat) := st.findSome? (succ bears k l)
def grow (bears k : Nat) (l : List Piece) (a : List Nat) : List (List Nat) := (next bears k l a).map fun i => a ++ [i]
theorem search_step {bears k : Nat} {l : List Piece} {a : List Nat} {st : List (List Nat)} (h : a.length < l.length) : searchS bears k l (a :: st) = searchS bears k l (grow bears k l a ++ st) := by
  unfold searchS grow
  rw [List.findSome?_cons, List.findSome?_append, List.findSome?_map, succ_step h]
  rw [Function.comp_def]
  cases List.findSome? (fun i => succ bears k l (a ++ [i])) (next bears k l a) <;> rfl
theorem search_done {bears k : Nat} {l : List Piece} {a : List Nat} {st : List (List Nat)} (h : a.length = l.length) : searchS bears k l (a :: st) = some a := by
  unfold searchS
  rw [List.findSome?_cons, succ_done h]
def wt (n B : Nat) (st : List (List Nat)) : Nat := (st.map fun w => B ^ (n - w.length)).sum
theorem wt_grow {bears k : Nat} {l : List Piece} {a : List Nat} {st : List (List Nat)} (h : a.length < l.length) : wt l.length (k + 1) (grow bears k l a ++ st) < wt l.length (k + 1) (a :: st) := by
  unfold wt
  rw [List.map_append, List.sum_append, List.map_cons, List.sum_cons]
  have e : ∀ m : List Nat, ((m.map fun i => a ++ [i]).map fun w => (k + 1) ^ (l.length - w.length)).sum = m.length * (k + 1) ^ (l.length - (a.length + 1)) := by
    intro m
    induction m with
    | nil => simp
    | cons x r ih =>
      rw [List.map_cons, List.map_cons, List.sum_cons, ih, List.length_append, List.length_cons, List.length_cons, List.length_nil, Nat.zero_add, Nat.add_mul]
      omega
  unfold grow
  rw [e]
  have hp : (k + 1) ^ (l.length - a.length) = (k + 1) ^ (l.length - (a.length + 1)) * (k + 1) := by
    rw [← Nat.pow_succ]; congr 1; omega
  rw [hp]
  have h1 : (next bears k l a).length * (k + 1) ^ (l.length - (a.length + 1)) ≤ k * (k + 1) ^ (l.length - (a.length + 1)) := Nat.mul_le_mul_right _ (next_length _ _ _ _)
  have h2 : 0 < (k + 1) ^ (l.length - (a.length + 1)) := Nat.pow_pos (by omega)
  rw [Nat.mul_succ, Nat.mul_comm]
  rw [Nat.mul_comm] at h1
  rw [Nat.mul_comm k] at h1
  omega
/-- the stack is short: 7 for each place of its top, and one -/
def Short : List (List Nat) → Prop
  | [] => True
  | w :: r => (w :: r).length ≤ 1 + 7 * w.length ∧ Short r
theorem short_push {a : List Nat} {st : List (List Nat)} (h : Short (a :: st)) : ∀ m : List Nat, m.length ≤ 8 → Short (m.map (fun i => a ++ [i]) ++ st)
  | [], _ => h.2
  | x :: r, hm => by
    refine ⟨?_, short_push h r (by simp at hm; omega)⟩
    have h1 := h.1
    have e : (r.map (fun i => a ++ [i]) ++ st).length = r.length + st.length := by simp
    have e2 : (a ++ [x]).length = a.length + 1 := by simp
    have e3 : (a :: st).length = st.length + 1 := rfl
    have e4 : (x :: r).length = r.length + 1 := rfl
    show (r.map (fun i => a ++ [i]) ++ st).length + 1 ≤ 1 + 7 * (a ++ [x]).length
    omega
theorem short_grow {bears k : Nat} {l : List Piece} {a : List Nat} {st : List (List Nat)} (h : Short (a :: st)) (hk : k ≤ 8) : Short (grow bears k l a ++ st) :=
  short_push h _ (Nat.le_trans (next_length _ _ _ _) hk)
theorem Short.le {st : List (List Nat)} {n : Nat} (h : Short st) (hn : ∀ w ∈ st, w.length ≤ n) : st.length ≤ 1 + 7 * n := by
  cases st with
  | nil => simp
  | cons w r => have := h.1; have := hn w List.mem_cons_self; omega
/-! ## what a way found is -/
/-- a way on from a: what follows -/
theorem succ_spec {bears k : Nat} {l : List Piece} : ∀ (d : Nat) {a b : List Nat}, l.length - a.length = d → a.length ≤ l.length → succ bears k l a = some b → b.length = l.length ∧ ∃ c, b = a ++ c ∧ (∀ x ∈ c, x < k) ∧
    ((∀ j, inLoad l a j = [] ∨ Kyk2.load bears (inLoad l a j) = true) → ∀ j, inLoad l b j = [] ∨ Kyk2.load bears (inLoad l b j) = true)
  | 0, a, b, hd, hl, h => by
    rw [succ_done (by omega)] at h
    cases h
    exact ⟨by omega, [], by simp, by simp, id⟩
  | d + 1, a, b, hd, hl, h => by
    have hlt : a.length < l.length := by omega
    rw [succ_step hlt] at h
    obtain ⟨i, hi, e⟩ := List.exists_of_findSome?_eq_some h
    obtain ⟨h1, h2, h3⟩ := next_mem hi
    have hlen : (a ++ [i]).length = a.length + 1 := by simp
    obtain ⟨q1, c, rfl, q2, q3⟩ := succ_spec d (a := a ++ [i]) (b := b) (by omega) (by omega) e
    refine ⟨q1, i :: c, by simp, fun x hx => ?_, fun hP => ?_⟩
    · rcases List.mem_cons.mp hx with rfl | hx
      · exact h1
      · exact q2 x hx
    · refine q3 fun j => ?_
      by_cases e : j = i
      · subst e; exact .inr h3
      · have : inLoad l (a ++ [i]) j = inLoad l a j := by
          have hz : ∀ (l : List Piece) (a : List Nat), inLoad l (a ++ [i]) j = inLoad l a j := by
            intro l
            induction l with
            | nil => intro a; unfold inLoad; simp
            | cons p l ih =>
              intro a
              cases a with
              | nil =>
                unfold inLoad
                have : (i == j) = false := by simpa using fun z => e z.symm
                simp [this]
              | cons x a =>
                have := ih a
                unfold inLoad at this ⊢
                simp only [List.cons_append, List.zip_cons_cons, List.filter_cons]
                split
                · simp only [List.map_cons, this]
                · exact this
          exact hz l a
        rw [this]
        exact hP j
/-- a way with fewer loads would be found with fewer -/
theorem succ_fewer {bears k k' : Nat} {l : List Piece} (hk : k' ≤ k) : ∀ (d : Nat) {a b : List Nat}, l.length - a.length = d → a.length ≤ l.length → succ bears k l a = some b → (∀ x ∈ b, x < k') → (succ bears k' l a).isSome = true
  | 0, a, b, hd, hl, h, _ => by
    rw [succ_done (by omega)]; rfl
  | d + 1, a, b, hd, hl, h, hb => by
    have hlt : a.length < l.length := by omega
    rw [succ_step hlt] at h
    obtain ⟨i, hi, e⟩ := List.exists_of_findSome?_eq_some h
    obtain ⟨h1, h2, h3⟩ := next_mem hi
    have hlen : (a ++ [i]).length = a.length + 1 := by simp
    have q := succ_fewer hk d (a := a ++ [i]) (b := b) (by omega) (by omega) e hb
    obtain ⟨_, c, rfl, _, _⟩ := succ_spec d (a := a ++ [i]) (b := b) (by omega) (by omega) e
    have hik : i < k' := hb i (by simp)
    have hm : i ∈ next bears k' l a := by
      unfold next
      exact List.mem_filter.mpr ⟨List.mem_range.mpr (by omega), h3⟩
    rw [succ_step hlt, List.findSome?_isSome_iff]
    exact ⟨i, hm, q⟩
/-- each by itself: a way -/
theorem succ_each {bears k : Nat} {l : List Piece} (hk : l.length ≤ k) (h1 : ∀ p ∈ l, Kyk2.load bears [p] = true) : ∀ (d m : Nat), l.length - m = d → m ≤ l.length → (succ bears k l (List.range m)).isSome = true
  | 0, m, hd, hm => by
    rw [succ_done (by rw [List.length_range]; omega)]; rfl
  | d + 1, m, hd, hm => by
    have hlt : (List.range m).length < l.length := by rw [List.length_range]; omega
    have hn : nl (List.range m) ≤ m := nl_le.mpr fun x hx => List.mem_range.mp hx
    have hn2 : m ≤ nl (List.range m) := by
      cases m with
      | zero => omega
      | succ m' => have := (nl_le (a := List.range (m' + 1)) (k := nl (List.range (m' + 1)))).mp (Nat.le_refl _) m' (List.mem_range.mpr (by omega)); omega
    have hload : inLoad l (List.range m ++ [m]) m = [l[m]'(by omega)] := by
      have hz : ∀ (l : List Piece) (a : List Nat) (h : a.length < l.length), (∀ x ∈ a, x ≠ m) → inLoad l (a ++ [m]) m = [l[a.length]] := by
        intro l
        induction l with
        | nil => intro a h _; simp at h
        | cons p l ih =>
          intro a h hx
          cases a with
          | nil => unfold inLoad; simp
          | cons x a =>
            have := ih a (by simpa using h) fun y hy => hx y (List.mem_cons_of_mem _ hy)
            unfold inLoad at this ⊢
            have hxm : (x == m) = false := by simpa using hx x List.mem_cons_self
            simp only [List.cons_append, List.zip_cons_cons, List.filter_cons, hxm]
            simpa using this
      have := hz l (List.range m) hlt fun x hx => by have := List.mem_range.mp hx; omega
      simpa using this
    rw [succ_step hlt, List.findSome?_isSome_iff]
    refine ⟨m, ?_, ?_⟩
    · unfold next
      refine List.mem_filter.mpr ⟨List.mem_range.mpr (by omega), ?_⟩
      rw [hload]
      exact h1 _ (List.getElem_mem _)
    · rw [← List.range_succ]
      exact succ_each hk h1 d (m + 1) (by omega) (by omega)
theorem succ_nil_eq (bears k : Nat) (l : List Piece) : wayOn bears k l l 0 [] = succ bears k l [] := rfl
theorem best_def (bears : Nat) (l : List Piece) : best bears l = ((List.range (l.length + 1)).find? fun k => (succ bears k l []).isSome).bind fun k => (succ bears k l []).map fun a => (k, a) := rfl
theorem succ_zero {bears : Nat} {l : List Piece} (h : l ≠ []) : succ bears 0 l [] = none := by
  rw [succ_step (show ([] : List Nat).length < l.length from List.length_pos_iff.mpr h)]
  unfold next
  simp
theorem find_range {p : Nat → Bool} {m : Nat} : ∀ (n : Nat), (∀ k, k < m → p k = false) → p m = true → m < n → (List.range n).find? p = some m := by
  intro n h1 h2 h3
  rw [List.find?_eq_some_iff_getElem]
  refine ⟨h2, m, by simpa using h3, by simp, fun j hj => ?_⟩
  simp [h1 j hj]
theorem best_some {bears m : Nat} {l : List Piece} {a : List Nat} (hl : l ≠ []) (h : ∀ k, 1 ≤ k → k < m → succ bears k l [] = none) (hm : succ bears m l [] = some a) (hn : m ≤ l.length) : best bears l = some (m, a) := by
  rw [best_def, find_range (m := m) _ (fun k hk => ?_) (by rw [hm]; rfl) (by omega)]
  · show (succ bears m l []).map _ = _
    rw [hm]; rfl
  · cases k with
    | zero => rw [succ_zero hl]; rfl
    | succ k => rw [h (k + 1) (by omega) hk]; rfl
theorem best_none {bears : Nat} {l : List Piece} (hl : l ≠ []) (h : ∀ k, 1 ≤ k → k ≤ l.length → succ bears k l [] = none) : best bears l = none := by
  rw [best_def]
  have : (List.range (l.length + 1)).find? (fun k => (succ bears k l []).isSome) = none := by
    rw [List.find?_eq_none]
    intro k hk
    have := List.mem_range.mp hk
    cases k with
    | zero => rw [succ_zero hl]; simp
    | succ k => rw [h (k + 1) (by omega) (by omega)]; simp
  rw [this]; rfl
/-- what the best is -/
theorem best_spec {bears k : Nat} {l : List Piece} {a : List Nat} (hl : l ≠ []) (h : best bears l = some (k, a)) : a.length = l.length ∧ nl a = k ∧ ∀ j, inLoad l a j = [] ∨ Kyk2.load bears (inLoad l a j) = true := by
  rw [best_def] at h
  cases e : (List.range (l.length + 1)).find? (fun k => (succ bears k l []).isSome) with
  | none => rw [e] at h; cases h
  | some k' =>
    rw [e] at h
    have h' : (succ bears k' l []).map (fun a => (k', a)) = some (k, a) := h
    obtain ⟨b, hb, e2⟩ := Option.map_eq_some_iff.mp h'
    cases e2
    obtain ⟨q1, c, ec, q2, q3⟩ := succ_spec l.length (a := []) (b := a) (by simp) (by simp) hb
    have ec' : a = c := by simpa using ec
    subst ec'
    refine ⟨q1, ?_, q3 fun j => .inl (by unfold inLoad; simp)⟩
    have hle : nl a ≤ k := nl_le.mpr q2
    rcases Nat.lt_or_ge (nl a) k with hlt | hge
    · have hs := succ_fewer (k' := nl a) (Nat.le_of_lt hlt) l.length (a := []) (b := a) (by simp) (by simp) hb (nl_le.mp (Nat.le_refl _))
      rw [List.find?_eq_some_iff_getElem] at e
      obtain ⟨_, i, hi, ei, hall⟩ := e
      have ek : i = k := by simpa using ei
      subst ek
      have := hall (nl a) hlt
      simp [hs] at this
    · omega
theorem best_isSome {bears : Nat} {l : List Piece} (h1 : ∀ p ∈ l, Kyk2.load bears [p] = true) : (best bears l).isSome = true := by
  rw [best_def]
  have hs := succ_each (Nat.le_refl l.length) h1 l.length 0 (by simp) (Nat.zero_le _)
  cases e : (List.range (l.length + 1)).find? (fun k => (succ bears k l []).isSome) with
  | none =>
    rw [List.find?_eq_none] at e
    have := e l.length (List.mem_range.mpr (by omega))
    exact absurd hs this
  | some k =>
    have := List.find?_some e
    show ((succ bears k l []).map _).isSome = true
    rw [Option.isSome_map]; exact this
/-! ## by things -/
def pickT (ts : List Th) (a : List Nat) (i : Nat) : List Th := ((ts.zip a).filter fun y => y.2 == i).map fun y => y.1
theorem inLoad_pick (ts : List Th) (a : List Nat) (i : Nat) : inLoad (ts.map pieceT) a i = (pickT ts a i).map pieceT := by
  unfold inLoad pickT
  rw [List.zip_map_left, List.filter_map, List.map_map, List.map_map]; rfl
theorem pick_snoc {i : Nat} : ∀ {ts : List Th} {a : List Nat} {x : Th}, ts[a.length]? = some x → pickT ts (a ++ [i]) i = pickT ts a i ++ [x]
  | [], a, x, h => by simp at h
  | t :: ts, [], x, h => by
    have : t = x := by simpa using h
    subst this
    unfold pickT; simp
  | t :: ts, y :: a, x, h => by
    have ih := pick_snoc (i := i) (ts := ts) (a := a) (x := x) (by simpa using h)
    unfold pickT at ih ⊢
    simp only [List.cons_append, List.zip_cons_cons, List.filter_cons]
    split
    · simp only [List.map_cons, ih, List.cons_append]
    · exact ih
end Wl
end
section
set_option Elab.async false
set_option linter.all false
/-! # Washloads: the state, as the document tells it; who waits -/
namespace Wl
open Kyk1 (Label Thing)
def noLb : Lb := ⟨[], 0, 0, 0, 0, 0⟩
def noTh : Th := ⟨0, noLb, 0, 0, 0, 0, false, -1⟩
def noOd : Od := ⟨0, 4, []⟩
def noMc : Mc := ⟨0, true, [], [], 0⟩
def th (m : La) (i : Nat) : Th := m.things.getD i noTh
def od (m : La) (o : Nat) : Od := m.orders.getD o noOd
def mc (m : La) (k : Nat) : Mc := m.machines.getD k noMc
theorem th_at {m : La} {i : Nat} {t : Th} (h : m.things[i]? = some t) : th m i = t := by
  unfold th; rw [List.getD_eq_getElem?_getD, h]; rfl
theorem od_at {m : La} {i : Nat} {t : Od} (h : m.orders[i]? = some t) : od m i = t := by
  unfold od; rw [List.getD_eq_getElem?_getD, h]; rfl
theorem mc_at {m : La} {i : Nat} {t : Mc} (h : m.machines[i]? = some t) : mc m i = t := by
  unfold mc; rw [List.getD_eq_getElem?_getD, h]; rfl
theorem th_some {m : La} {i : Nat} (h : i < m.things.length) : m.things[i]? = some (th m i) := by
  unfold th; rw [List.getD_eq_getElem?_getD, List.getElem?_eq_getElem h]; rfl
theorem od_some {m : La} {i : Nat} (h : i < m.orders.length) : m.orders[i]? = some (od m i) := by
  unfold od; rw [List.getD_eq_getElem?_getD, List.getElem?_eq_getElem h]; rfl
theorem mc_some {m : La} {i : Nat} (h : i < m.machines.length) : m.machines[i]? = some (mc m i) := by
  unfold mc; rw [List.getD_eq_getElem?_getD, List.getElem?_eq_getElem h]; rfl
/-- where a thing is -/
def placeOf (stands : Nat) (t : Th) : Nat := if stands = 3 ∨ stands = 4 then 4 else if stands = 2 then 3 else if t.washed = true then 2 else if 0 ≤ t.mach then 1 else 0
def absI (m : La) (t : Th) : Kyk.Item := ⟨absX t, t.weight, t.order, placeOf (od m t.order).stands t⟩
def absO (o : Od) : Kyk.Order := ⟨o.due, o.stands⟩
def absP : List Nat → Kyk1.Program
  | [h, g, b, d] => ⟨h, g, b, d⟩
  | _ => Kyk.mild
def absM (c : Mc) : Kyk.Machine := ⟨c.bears, c.broken, c.things, c.till, absP c.prog⟩
def absL (m : La) : Kyk.Laundry := ⟨m.now, m.price, m.machines.map absM, m.orders.map absO, m.things.map (absI m), m.till⟩
/-- the numbers of an order's things -/
def ofO (m : La) (o : Nat) : List Nat := (List.range m.things.length).filter fun i => (th m i).order == o
structure Inv (m : La) : Prop where
  th_ok : ∀ t ∈ m.things, ThOk t ∧ t.order < m.orders.length ∧ togetherB [t] = true
  od_ok : ∀ o, o < m.orders.length → (od m o).stands ≤ 4 ∧ (od m o).things = ofO m o
  mc_ok : ∀ k, k < m.machines.length → ∀ i ∈ (mc m k).things, i < m.things.length ∧ (th m i).mach = (k : Int) ∧ (th m i).washed = false ∧ (od m (th m i).order).stands = 1
  mc_pr : ∀ c ∈ m.machines, (c.things = [] ∨ ∃ h g b d, c.prog = [h, g, b, d]) ∧ c.things.length ≤ 8 ∧ c.things.Nodup
  ths : m.things.length ≤ 150
  ods : m.orders.length ≤ 60
  mcs : m.machines.length ≤ 4
  pr : m.price ≤ 1000
theorem item_abs {m : La} {i : Nat} (h : i < m.things.length) : Kyk.item (absL m) i = absI m (th m i) := by
  show (m.things.map (absI m)).getD i Kyk.noItem = _
  rw [List.getD_eq_getElem?_getD, List.getElem?_map, th_some h]; rfl
theorem order_abs (m : La) (o : Nat) : Kyk.order (absL m) o = absO (od m o) := by
  show (m.orders.map absO).getD o ⟨0, 4⟩ = absO (m.orders.getD o noOd)
  rw [List.getD_eq_getElem?_getD, List.getD_eq_getElem?_getD, List.getElem?_map]
  cases m.orders[o]? <;> rfl
theorem machine_abs (m : La) (k : Nat) : Kyk.machine (absL m) k = absM (mc m k) := by
  show (m.machines.map absM).getD k ⟨0, true, [], 0, Kyk.mild⟩ = absM (m.machines.getD k noMc)
  rw [List.getD_eq_getElem?_getD, List.getD_eq_getElem?_getD, List.getElem?_map]
  cases m.machines[k]? <;> rfl
theorem numbers_abs (m : La) : Kyk.numbers (absL m) = List.range m.things.length := by
  show List.range (m.things.map (absI m)).length = _
  rw [List.length_map]
theorem ofOrder_abs (m : La) (o : Nat) : Kyk.ofOrder (absL m) o = ofO m o := by
  unfold Kyk.ofOrder ofO
  rw [numbers_abs]
  refine List.filter_congr fun i hi => ?_
  rw [item_abs (List.mem_range.mp hi)]; rfl
/-! ## who waits -/
def waitsB (m : La) (i : Nat) : Bool := ((od m (th m i).order).stands == 1) && (!(th m i).washed && decide ((th m i).mach < 0))
def waitL (m : La) : List Nat := Kyk.waiting (absL m)
def pre (m : La) : List Nat := (List.range m.things.length).filter (waitsB m)
theorem place_waits {m : La} {i : Nat} : ((absI m (th m i)).place == 0 && (Kyk.order (absL m) (absI m (th m i)).order).state == 1) = waitsB m i := by
  rw [order_abs]
  show (placeOf (od m (th m i).order).stands (th m i) == 0 && (od m (th m i).order).stands == 1) = waitsB m i
  unfold waitsB placeOf
  by_cases h : (od m (th m i).order).stands = 1
  · rw [h]
    cases (th m i).washed with
    | true => simp
    | false =>
      by_cases c : 0 ≤ (th m i).mach
      · have : ¬ (th m i).mach < 0 := by omega
        simp [c, this]
      · have : (th m i).mach < 0 := by omega
        simp [c, this]
  · have : ((od m (th m i).order).stands == 1) = false := by simpa using h
    rw [this, Bool.and_false, Bool.false_and]
theorem waitL_fold (m : La) : waitL m = (pre m).foldl (fun l i => Kyk.put (absL m) i l) [] := by
  unfold waitL Kyk.waiting pre
  rw [numbers_abs]
  congr 1
  refine List.filter_congr fun i hi => ?_
  rw [item_abs (List.mem_range.mp hi), place_waits]
/-- due of a thing's order -/
def dueT (m : La) (i : Nat) : Nat := (od m (th m i).order).due
theorem sooner_abs {m : La} {i j : Nat} (hi : i < m.things.length) (hj : j < m.things.length) : Kyk.sooner (absL m) i j = (decide (dueT m i < dueT m j) || (dueT m i == dueT m j && decide (i < j))) := by
  unfold Kyk.sooner
  rw [item_abs hi, item_abs hj, order_abs, order_abs]; rfl
theorem put_perm (q : Kyk.Laundry) (i : Nat) : ∀ l : List Nat, (Kyk.put q i l).Perm (i :: l)
  | [] => List.Perm.refl _
  | j :: l => by
    unfold Kyk.put
    split
    · exact List.Perm.refl _
    · exact ((put_perm q i l).cons j).trans (List.Perm.swap i j l)
def Ltw (m : La) (i j : Nat) : Prop := dueT m i < dueT m j ∨ (dueT m i = dueT m j ∧ i < j)
theorem sooner_iff {m : La} {i j : Nat} (hi : i < m.things.length) (hj : j < m.things.length) : Kyk.sooner (absL m) i j = true ↔ Ltw m i j := by
  rw [sooner_abs hi hj]
  unfold Ltw
  simp
theorem put_sorted {m : La} {i : Nat} (hi : i < m.things.length) : ∀ l : List Nat, (∀ j ∈ l, j < m.things.length ∧ j ≠ i) → l.Pairwise (Ltw m) → (Kyk.put (absL m) i l).Pairwise (Ltw m)
  | [], _, _ => by simp [Kyk.put]
  | j :: l, hl, hs => by
    obtain ⟨hj, hne⟩ := hl j List.mem_cons_self
    have hs' := List.pairwise_cons.mp hs
    unfold Kyk.put
    by_cases h : Kyk.sooner (absL m) i j = true
    · rw [if_pos h]
      have hij := (sooner_iff hi hj).mp h
      refine List.pairwise_cons.mpr ⟨fun k hk => ?_, hs⟩
      rcases List.mem_cons.mp hk with rfl | hk
      · exact hij
      · have := hs'.1 k hk
        unfold Ltw at *
        omega
    · rw [if_neg h]
      have hij : ¬ Ltw m i j := fun q => h ((sooner_iff hi hj).mpr q)
      refine List.pairwise_cons.mpr ⟨fun k hk => ?_, put_sorted hi l (fun k hk => hl k (List.mem_cons_of_mem _ hk)) hs'.2⟩
      rcases List.mem_cons.mp ((put_perm _ i l).mem_iff.mp hk) with rfl | hk
      · unfold Ltw at *
        omega
      · exact hs'.1 k hk
theorem fold_put {m : La} : ∀ (l acc : List Nat), (∀ i ∈ l, i < m.things.length) → (∀ i ∈ acc, i < m.things.length) → (l ++ acc).Nodup → acc.Pairwise (Ltw m) →
    (l.foldl (fun l i => Kyk.put (absL m) i l) acc).Perm (l ++ acc) ∧ (l.foldl (fun l i => Kyk.put (absL m) i l) acc).Pairwise (Ltw m)
  | [], acc, _, _, _, hs => ⟨List.Perm.refl _, hs⟩
  | x :: l, acc, hl, ha, hn, hs => by
    have hx := hl x List.mem_cons_self
    have hn' : x ∉ l ++ acc ∧ (l ++ acc).Nodup := by simpa using hn
    have hp := put_perm (absL m) x acc
    have hp2 : (l ++ Kyk.put (absL m) x acc).Perm (x :: (l ++ acc)) := (hp.append_left l).trans List.perm_middle
    obtain ⟨q1, q2⟩ := fold_put l (Kyk.put (absL m) x acc) (fun i hi => hl i (List.mem_cons_of_mem _ hi)) (fun i hi => by
        rcases List.mem_cons.mp (hp.mem_iff.mp hi) with rfl | hi
        · exact hx
        · exact ha i hi) (hp2.symm.nodup hn) (put_sorted hx acc (fun j hj => ⟨ha j hj, fun e => hn'.1 (by subst e; simp [hj])⟩) hs)
    exact ⟨q1.trans hp2, q2⟩
theorem pre_lt {m : La} {i : Nat} (h : i ∈ pre m) : i < m.things.length ∧ waitsB m i = true := by
  obtain ⟨h1, h2⟩ := List.mem_filter.mp h
  exact ⟨List.mem_range.mp h1, h2⟩
theorem pre_nodup (m : La) : (pre m).Nodup := List.Pairwise.filter _ List.nodup_range
theorem waitL_spec (m : La) : (waitL m).Perm (pre m) ∧ (waitL m).Pairwise (Ltw m) := by
  rw [waitL_fold]
  have := fold_put (m := m) (pre m) [] (fun i hi => (pre_lt hi).1) (by simp) (by simpa using pre_nodup m) List.Pairwise.nil
  simpa using this
/-- whatever is a sorted arrangement is it -/
theorem waitL_uniq {m : La} {zs : List Nat} (hp : zs.Perm (pre m)) (hs : zs.Pairwise fun i j => ¬ Ltw m j i) : zs = waitL m := by
  obtain ⟨q1, q2⟩ := waitL_spec m
  refine List.Perm.eq_of_pairwise (le := fun i j => ¬ Ltw m j i) (fun a b _ _ h1 h2 => ?_) hs (q2.imp fun {a b} h => ?_) (hp.trans q1.symm)
  · unfold Ltw at h1 h2
    omega
  · unfold Ltw at *
    omega
theorem waitL_mem {m : La} {i : Nat} (h : i ∈ waitL m) : i < m.things.length ∧ waitsB m i = true := pre_lt ((waitL_spec m).1.mem_iff.mp h)
theorem waitL_nodup (m : La) : (waitL m).Nodup := (waitL_spec m).1.symm.nodup (pre_nodup m)
theorem waitL_length (m : La) : (waitL m).length ≤ m.things.length := by
  rw [(waitL_spec m).1.length_eq]
  unfold pre
  refine Nat.le_trans (List.length_filter_le _ _) ?_
  rw [List.length_range]; exact Nat.le_refl _
/-! ## for a machine -/
def chosenB (m : La) (b : Nat) : List Nat := ((waitL m).filter fun i => decide ((th m i).weight ≤ b)).take 8
theorem chosen_abs (m : La) (k : Nat) : Kyk.chosen (absL m) k = chosenB m (mc m k).bears := by
  unfold Kyk.chosen chosenB
  rw [machine_abs]
  congr 1
  refine List.filter_congr fun i hi => ?_
  rw [item_abs (waitL_mem hi).1]; rfl
theorem chosenB_mem {m : La} {b i : Nat} (h : i ∈ chosenB m b) : i < m.things.length ∧ waitsB m i = true ∧ (th m i).weight ≤ b := by
  have h1 := List.mem_of_mem_take h
  obtain ⟨h2, h3⟩ := List.mem_filter.mp h1
  exact ⟨(waitL_mem h2).1, (waitL_mem h2).2, of_decide_eq_true h3⟩
theorem chosenB_length (m : La) (b : Nat) : (chosenB m b).length ≤ 8 := by
  unfold chosenB; rw [List.length_take]; omega
theorem chosenB_nodup (m : La) (b : Nat) : (chosenB m b).Nodup := List.Nodup.sublist (List.take_sublist _ _) (List.Pairwise.filter _ (waitL_nodup m))
def piecesB (m : La) (l : List Nat) : List Kyk2.Piece := l.map fun i => pieceT (th m i)
def planB (m : La) (b : Nat) : Option (Nat × List Nat) := Kyk2.best b (piecesB m (chosenB m b))
theorem shares_abs (m : La) (k : Nat) : Kyk.shares (absL m) k = planB m (mc m k).bears := by
  unfold Kyk.shares planB piecesB
  rw [machine_abs, chosen_abs]
  congr 1
  refine List.map_congr_left fun i hi => ?_
  unfold Kyk.piece
  rw [item_abs (chosenB_mem hi).1]; rfl
theorem together_load {t : Th} {b : Nat} (h : togetherB [t] = true) (hw : t.weight ≤ b) : Kyk2.load b [pieceT t] = true := by
  have := loadB_eq b [t]
  rw [h] at this
  have e : loadB b [t] = Kyk2.load b [pieceT t] := rfl
  rw [← e, this]
  simp [hw]
theorem planB_some {m : La} (I : Inv m) (b : Nat) : ∃ k a, planB m b = some (k, a) := by
  have := best_isSome (bears := b) (l := piecesB m (chosenB m b)) fun p hp => by
    obtain ⟨i, hi, rfl⟩ := List.mem_map.mp hp
    obtain ⟨h1, _, h3⟩ := chosenB_mem hi
    exact together_load (I.th_ok _ (List.mem_of_getElem? (th_some h1))).2.2 h3
  cases e : planB m b with
  | none => unfold planB at e; rw [e] at this; cases this
  | some x => exact ⟨x.1, x.2, rfl⟩
end Wl
end
section
set_option Elab.async false
set_option linter.all false
/-! # Washloads: what each call does, and that it is what is due -/
namespace Wl
open Kyk1 (Label Thing)
inductive Out where
  | no (n : Int)
  | yes (m : La) (out : List Int)
def told (m : La) : Out → La × List Int
  | .no n => (m, [n])
  | .yes m' out => (m', out)
abbrev inz (l : List Nat) : List Int := l.map fun (x : Nat) => (x : Int)
def Good (m : La) (c : Kyk.Call) (r : Out) : Prop := ∃ ans, Kyk.acts (some (absL m)) c = some (some (absL (told m r).1), ans) ∧ ans.value :: KykNeutral.ints ans.out = (told m r).2
theorem Good.no {m : La} {c : Kyk.Call} {n : Int} (h : Kyk.acts (some (absL m)) c = some (some (absL m), Kyk.say n)) : Good m c (.no n) := ⟨_, h, rfl⟩
theorem Good.yes {m m' : La} {c : Kyk.Call} {v : Int} {out : List Nat} {l : List Int} (h : Kyk.acts (some (absL m)) c = some (some (absL m'), ⟨v, out⟩)) (e : l = v :: inz out) : Good m c (.yes m' l) := ⟨_, h, by subst e; rfl⟩
/-! ## the calls -/
def setSt (m : La) (o s : Nat) : La := { m with orders := m.orders.set o { od m o with stands := s } }
def orderM (m : La) (due : Nat) : Out := if due < m.now ∨ 1000000 < due then .no (-22) else if m.orders.length = 60 then .no (-28) else .yes { m with orders := m.orders ++ [⟨due, 0, []⟩] } [(m.orders.length : Int)]
def okN (need colour runs w : Nat) : Prop := (need = 0 ∨ need = 30 ∨ need = 40 ∨ need = 60 ∨ need = 95) ∧ colour ≤ 9 ∧ runs ≤ 1 ∧ 1 ≤ w ∧ w ≤ 20000
instance (a b c d : Nat) : Decidable (okN a b c d) := by unfold okN; infer_instance
def addT (m : La) (o : Nat) (x : Th) : La := { m with things := m.things ++ [x], orders := m.orders.set o { od m o with things := (od m o).things ++ [m.things.length] } }
def addM (m : La) (o need colour runs w : Nat) (t : List Nat) : Out := if m.orders.length ≤ o then .no (-2) else if (od m o).stands ≠ 0 then .no (-16) else match readI t with
  | none => .no (-71)
  | some lb => if ¬ okN need colour runs w then .no (-22) else if (m.machines.any fun c => loadB c.bears [⟨o, lb, need, colour, runs, w, false, -1⟩]) = false then .no (-33) else if m.things.length = 150 then .no (-28) else
      .yes (addT m o ⟨o, lb, need, colour, runs, w, false, -1⟩) [(m.things.length : Int)]
def closeM (m : La) (o : Nat) : Out := if m.orders.length ≤ o then .no (-2) else if (od m o).stands ≠ 0 then .no (-16) else if (od m o).things = [] then .no (-6) else .yes (setSt m o 1) [0]
def planM (m : La) (k : Nat) : Out := if m.machines.length ≤ k then .no (-2) else if chosenB m (mc m k).bears = [] then .no (-6) else match planB m (mc m k).bears with
  | none => .no (-6)
  | some x => .yes m ((x.1 : Int) :: inz ((chosenB m (mc m k).bears).length :: ((chosenB m (mc m k).bears).zip x.2).flatMap fun y => [y.1, y.2]))
def loadI (m : La) (b j : Nat) : List Nat := match planB m b with
  | none => []
  | some s => ((chosenB m b).zip s.2).filterMap fun x => if x.2 = j then some x.1 else none
/-- some things are changed -/
def modL (f : Th → Th) (l : List Nat) (ts : List Th) : List Th := l.foldl (fun ts i => ts.set i (f (ts.getD i noTh))) ts
def minP (p : List Nat) : Nat := (if p.getD 0 0 = 30 then 45 else if p.getD 0 0 = 40 then 60 else if p.getD 0 0 = 60 then 75 else 90) + 10 * p.getD 3 0
def runL (m : La) (k : Nat) (l : List Nat) : La := { m with things := modL (fun t => { t with mach := (k : Int) }) l m.things, machines := m.machines.set k { mc m k with things := l, prog := mildP (l.map (th m)), till := m.now + minP (mildP (l.map (th m))) } }
def runM (m : La) (k j : Nat) : Out := if m.machines.length ≤ k then .no (-2) else if (mc m k).broken = true then .no (-4) else if (mc m k).things ≠ [] then .no (-16) else if chosenB m (mc m k).bears = [] then .no (-6) else
  if loadI m (mc m k).bears j = [] then .no (-22) else .yes (runL m k (loadI m (mc m k).bears j)) (inz (minP (mildP ((loadI m (mc m k).bears j).map (th m))) :: mildP ((loadI m (mc m k).bears j).map (th m))))
def emptyL (m : La) (k : Nat) (w : Bool) : La := { m with things := modL (fun t => { t with mach := -1, washed := w }) (mc m k).things m.things, machines := m.machines.set k { mc m k with things := [] } }
def readyB (c : Mc) (t : Nat) : Bool := !c.things.isEmpty && decide (c.till ≤ t)
def tick1 (t : Nat) (s : La × Nat) (k : Nat) : La × Nat := if readyB (mc s.1 k) t = true then (emptyL s.1 k true, s.2 + (mc s.1 k).things.length) else s
def tickS (m : La) (t n : Nat) : La × Nat := (List.range n).foldl (tick1 t) ({ m with now := t }, 0)
def tickM (m : La) (t : Nat) : Out := if t < m.now ∨ 1000000 < t then .no (-22) else .yes (tickS m t m.machines.length).1 [((tickS m t m.machines.length).2 : Int)]
def breakL (m : La) (k : Nat) (b : Bool) : La := { m with machines := m.machines.set k { mc m k with broken := b } }
def brokenM (m : La) (k on : Nat) : Out := if m.machines.length ≤ k then .no (-2) else if 1 < on then .no (-22) else if (mc m k).broken = (on == 1) then .no (-17) else .yes (emptyL (breakL m k (on == 1)) k false) [((mc m k).things.length : Int)]
def packM (m : La) (o : Nat) : Out := if m.orders.length ≤ o then .no (-2) else if (od m o).stands ≠ 1 then .no (-16) else if ((od m o).things.any fun i => !(th m i).washed) = true then .no (-61) else .yes (setSt m o 2) [((od m o).things.length : Int)]
def billN (m : La) (o : Nat) : Nat := m.price * ((((od m o).things.map fun i => (th m i).weight).sum + 99) / 100)
def handM (m : La) (o : Nat) : Out := if m.orders.length ≤ o then .no (-2) else if (od m o).stands ≠ 2 then .no (-16) else .yes { setSt m o 3 with till := m.till + billN m o } [(billN m o : Int)]
def cancelM (m : La) (o : Nat) : Out := if m.orders.length ≤ o then .no (-2) else if 1 < (od m o).stands then .no (-16) else if ((od m o).things.any fun i => (th m i).washed || decide (0 ≤ (th m i).mach)) = true then .no (-17) else .yes (setSt m o 4) [((od m o).things.length : Int)]
def billM (m : La) (o : Nat) : Out := if m.orders.length ≤ o then .no (-2) else .yes m [(billN m o : Int)]
def placeT (m : La) (i : Nat) : Nat := placeOf (od m (th m i).order).stands (th m i)
def whereM (m : La) (i : Nat) : Out := if m.things.length ≤ i then .no (-2) else .yes m [(placeT m i : Int), ((th m i).order : Int)]
def labelM (m : La) (i : Nat) : Out := if m.things.length ≤ i then .no (-2) else .yes m (inz ((th m i).lb.signs.length :: (th m i).lb.signs))
def thingM (m : La) (i : Nat) : Out := if m.things.length ≤ i then .no (-2) else .yes m (inz [(th m i).weight, (th m i).need, (th m i).colour, (th m i).runs])
def apartM (m : La) (l : List Nat) : Out := if l = [] ∨ 20 < l.length ∨ (l.any fun i => decide (m.things.length ≤ i)) = true then .no (-22) else match Kyk1.apart (l.map fun i => absX (th m i)) with
  | none => .no (-33)
  | some x => .yes m (inz [l.getD x.1 0, l.getD x.2 0])
def waitingM (m : La) : Out := .yes m (inz ((waitL m).length :: waitL m))
def machineM (m : La) (k : Nat) : Out := if m.machines.length ≤ k then .no (-2) else if (mc m k).broken = true then .yes m [2] else if (mc m k).things ≠ [] then .yes m (inz (1 :: (mc m k).till :: (mc m k).prog)) else .yes m [0]
def insideM (m : La) (k : Nat) : Out := if m.machines.length ≤ k then .no (-2) else .yes m (inz ((mc m k).things.length :: (mc m k).things))
def stateM (m : La) (o : Nat) : Out := if m.orders.length ≤ o then .no (-2) else .yes m (inz [(od m o).stands, (od m o).due, (od m o).things.length, ((od m o).things.filter fun i => placeT m i == 2).length])
def lateL (m : La) : List Nat := (List.range m.orders.length).filter fun o => decide ((od m o).stands ≤ 2) && decide ((od m o).due < m.now)
def lateM (m : La) : Out := .yes m (inz ((lateL m).length :: lateL m))
def runs (m : La) : List Nat := (m.machines.filter fun c => !c.things.isEmpty).map Mc.till
def nextM (m : La) : Out := match runs m with
  | [] => .no (-6)
  | a :: l => .yes m [((l.foldl min a : Nat) : Int)]
def tillM (m : La) : Out := .yes m [(m.till : Int)]
def allM (m : La) : Out := .yes m (inz [m.now, m.orders.length, m.things.length, (waitL m).length])
/-! ## that it is what is due: the questions -/
section
variable {m : La}
theorem there_abs (o : Nat) : Kyk.there (absL m) o = decide (o < m.orders.length) := by
  show decide (o < (m.orders.map absO).length) = _
  rw [List.length_map]
theorem machines_abs : (absL m).machines.length = m.machines.length := List.length_map _
theorem items_abs : (absL m).items.length = m.things.length := List.length_map _
theorem ofO_mem {o i : Nat} (h : i ∈ ofO m o) : i < m.things.length ∧ (th m i).order = o := by
  obtain ⟨h1, h2⟩ := List.mem_filter.mp h
  exact ⟨List.mem_range.mp h1, by simpa using h2⟩
theorem bill_abs (I : Inv m) {o : Nat} (h : o < m.orders.length) : Kyk.bill (absL m) o = billN m o := by
  unfold Kyk.bill billN
  rw [ofOrder_abs, (I.od_ok o h).2]
  have e : (ofO m o).map (fun i => (Kyk.item (absL m) i).w) = (ofO m o).map fun i => (th m i).weight := List.map_congr_left fun i hi => by rw [item_abs (ofO_mem hi).1]; rfl
  rw [e]
  unfold Kyk.sum
  rw [sum_foldl, Nat.zero_add]; rfl
theorem good_bill (I : Inv m) (o : Nat) : Good m (.bill o) (billM m o) := by
  unfold billM
  by_cases h : m.orders.length ≤ o
  · rw [if_pos h]
    refine Good.no ?_
    show some (some (absL m), if Kyk.there (absL m) o = false then _ else _) = _
    rw [there_abs, if_pos (by simpa using h)]
  · rw [if_neg h]
    refine Good.yes (v := (billN m o : Int)) (out := []) ?_ rfl
    show some (some (absL m), if Kyk.there (absL m) o = false then _ else _) = _
    rw [there_abs, if_neg (by simpa using h), bill_abs I (by omega)]; rfl
theorem good_where (i : Nat) : Good m (.where_ i) (whereM m i) := by
  unfold whereM
  by_cases h : m.things.length ≤ i
  · rw [if_pos h]
    refine Good.no ?_
    show some (some (absL m), if (absL m).items.length ≤ i then _ else _) = _
    rw [items_abs, if_pos h]
  · rw [if_neg h]
    refine Good.yes (v := (placeT m i : Int)) (out := [(th m i).order]) ?_ rfl
    show some (some (absL m), if (absL m).items.length ≤ i then _ else _) = _
    rw [items_abs, if_neg h, item_abs (by omega)]; rfl
theorem good_label (I : Inv m) (i : Nat) : Good m (.label i) (labelM m i) := by
  unfold labelM
  by_cases h : m.things.length ≤ i
  · rw [if_pos h]
    refine Good.no ?_
    show some (some (absL m), if (absL m).items.length ≤ i then _ else _) = _
    rw [items_abs, if_pos h]
  · rw [if_neg h]
    refine Good.yes (v := ((th m i).lb.signs.length : Int)) (out := (th m i).lb.signs) ?_ rfl
    show some (some (absL m), if (absL m).items.length ≤ i then _ else _) = _
    have e : Kyk1.told (Kyk.item (absL m) i).x.label = (th m i).lb.signs := by
      rw [item_abs (by omega)]
      exact (I.th_ok _ (List.mem_of_getElem? (th_some (by omega)))).1.lb.told
    rw [items_abs, if_neg h, e]
theorem good_thing (I : Inv m) (i : Nat) : Good m (.thing i) (thingM m i) := by
  unfold thingM
  by_cases h : m.things.length ≤ i
  · rw [if_pos h]
    refine Good.no ?_
    show some (some (absL m), if (absL m).items.length ≤ i then _ else _) = _
    rw [items_abs, if_pos h]
  · rw [if_neg h]
    refine Good.yes (v := ((th m i).weight : Int)) (out := [(th m i).need, (th m i).colour, (th m i).runs]) ?_ rfl
    show some (some (absL m), if (absL m).items.length ≤ i then _ else _) = _
    have e : (if (absI m (th m i)).x.runs = true then 1 else 0) = (th m i).runs := by
      have := (I.th_ok _ (List.mem_of_getElem? (th_some (show i < m.things.length by omega)))).1.runs
      show (if ((th m i).runs == 1) = true then 1 else 0) = (th m i).runs
      by_cases c : (th m i).runs = 1
      · rw [c]; rfl
      · rw [if_neg (by simpa using c)]; omega
    rw [items_abs, if_neg h, item_abs (by omega), e]; rfl
theorem good_apart (l : List Nat) : Good m (.apart l) (apartM m l) := by
  unfold apartM
  have hs : Kyk.someThings (absL m) l = if l = [] ∨ 20 < l.length ∨ (l.any fun i => decide (m.things.length ≤ i)) = true then none else some (l.map fun i => absX (th m i)) := by
    unfold Kyk.someThings
    rw [items_abs]
    have e : (l.isEmpty = true ∨ 20 < l.length ∨ (l.any fun i => decide (m.things.length ≤ i)) = true) = (l = [] ∨ 20 < l.length ∨ (l.any fun i => decide (m.things.length ≤ i)) = true) := by
      rw [List.isEmpty_iff]
    by_cases c : l = [] ∨ 20 < l.length ∨ (l.any fun i => decide (m.things.length ≤ i)) = true
    · rw [if_pos c, if_pos (e ▸ c)]
    · rw [if_neg c, if_neg (fun q => c (e ▸ q))]
      congr 1
      refine List.map_congr_left fun i hi => ?_
      have : ¬ m.things.length ≤ i := fun q => c (.inr (.inr (List.any_eq_true.mpr ⟨i, hi, decide_eq_true q⟩)))
      rw [item_abs (by omega)]; rfl
  by_cases c : l = [] ∨ 20 < l.length ∨ (l.any fun i => decide (m.things.length ≤ i)) = true
  · rw [if_pos c]
    refine Good.no ?_
    show some (some (absL m), match Kyk.someThings (absL m) l with | none => _ | some m => _) = _
    rw [hs, if_pos c]
  · rw [if_neg c]
    have key : Kyk.acts (some (absL m)) (.apart l) = some (some (absL m), match Kyk1.apart (l.map fun i => absX (th m i)) with
      | none => Kyk.say (-33)
      | some x => ⟨(l.getD x.1 0 : Nat), [l.getD x.2 0]⟩) := by
      show some (some (absL m), match Kyk.someThings (absL m) l with | none => _ | some m => _) = _
      rw [hs, if_neg c]; rfl
    cases e : Kyk1.apart (l.map fun i => absX (th m i)) with
    | none => rw [e] at key; exact Good.no key
    | some x => rw [e] at key; exact Good.yes key rfl
theorem good_waiting : Good m .waiting (waitingM m) := Good.yes (v := ((waitL m).length : Int)) (out := waitL m) rfl rfl
theorem runs_abs (c : Mc) : Kyk.runs (absM c) = !c.things.isEmpty := rfl
theorem prog_abs {c : Mc} (h : ∃ a b d e, c.prog = [a, b, d, e]) : Kyk1.programNumbers (absM c).p = c.prog := by
  obtain ⟨a, b, d, e, q⟩ := h
  show Kyk1.programNumbers (absP c.prog) = _
  rw [q]; rfl
theorem mc_mem {k : Nat} (h : k < m.machines.length) : mc m k ∈ m.machines := List.mem_of_getElem? (mc_some h)
theorem good_machine (I : Inv m) (k : Nat) : Good m (.machine k) (machineM m k) := by
  unfold machineM
  by_cases h : m.machines.length ≤ k
  · rw [if_pos h]
    refine Good.no ?_
    show some (some (absL m), if (absL m).machines.length ≤ k then _ else _) = _
    rw [machines_abs, if_pos h]
  · rw [if_neg h]
    have key : Kyk.acts (some (absL m)) (.machine k) = some (some (absL m), if (mc m k).broken = true then ⟨2, []⟩ else if (!(mc m k).things.isEmpty) = true then ⟨1, (mc m k).till :: Kyk1.programNumbers (absM (mc m k)).p⟩ else ⟨0, []⟩) := by
      show some (some (absL m), if (absL m).machines.length ≤ k then _ else _) = _
      rw [machines_abs, if_neg h, machine_abs]; rfl
    by_cases hb : (mc m k).broken = true
    · rw [if_pos hb] at key ⊢
      exact Good.yes key rfl
    · rw [if_neg hb] at key ⊢
      by_cases ht : (mc m k).things = []
      · rw [if_neg (by rw [ht]; simp)] at key
        rw [if_neg (by simpa using ht)]
        exact Good.yes key rfl
      · rw [if_pos (by simpa using ht)] at key ⊢
        rcases (I.mc_pr _ (mc_mem (k := k) (by omega))).1 with q | q
        · exact absurd q ht
        · rw [prog_abs q] at key
          exact Good.yes key rfl
theorem good_inside (k : Nat) : Good m (.inside k) (insideM m k) := by
  unfold insideM
  by_cases h : m.machines.length ≤ k
  · rw [if_pos h]
    refine Good.no ?_
    show some (some (absL m), if (absL m).machines.length ≤ k then _ else _) = _
    rw [machines_abs, if_pos h]
  · rw [if_neg h]
    refine Good.yes (v := ((mc m k).things.length : Int)) (out := (mc m k).things) ?_ rfl
    show some (some (absL m), if (absL m).machines.length ≤ k then _ else _) = _
    rw [machines_abs, if_neg h, machine_abs]; rfl
theorem good_state (I : Inv m) (o : Nat) : Good m (.state o) (stateM m o) := by
  unfold stateM
  by_cases h : m.orders.length ≤ o
  · rw [if_pos h]
    refine Good.no ?_
    show some (some (absL m), if Kyk.there (absL m) o = false then _ else _) = _
    rw [there_abs, if_pos (by simpa using h)]
  · rw [if_neg h]
    refine Good.yes (v := ((od m o).stands : Int)) (out := [(od m o).due, (od m o).things.length, ((od m o).things.filter fun i => placeT m i == 2).length]) ?_ rfl
    show some (some (absL m), if Kyk.there (absL m) o = false then _ else _) = _
    have e : (ofO m o).filter (fun i => (Kyk.item (absL m) i).place == 2) = (ofO m o).filter fun i => placeT m i == 2 := List.filter_congr fun i hi => by rw [item_abs (ofO_mem hi).1]; rfl
    rw [there_abs, if_neg (by simpa using h), order_abs, ofOrder_abs, e, (I.od_ok o (by omega)).2]; rfl
theorem good_late : Good m .late (lateM m) := by
  unfold lateM
  refine Good.yes (v := ((lateL m).length : Int)) (out := lateL m) ?_ rfl
  have e : (List.range (absL m).orders.length).filter (fun o => decide ((Kyk.order (absL m) o).state ≤ 2) && decide ((Kyk.order (absL m) o).due < (absL m).now)) = lateL m := by
    unfold lateL
    have e1 : (absL m).orders.length = m.orders.length := List.length_map _
    rw [e1]
    refine List.filter_congr fun o _ => ?_
    rw [order_abs]; rfl
  show some (some (absL m), (⟨(((List.range (absL m).orders.length).filter (fun o => decide ((Kyk.order (absL m) o).state ≤ 2) && decide ((Kyk.order (absL m) o).due < (absL m).now))).length : Nat), _⟩ : Kyk.Ans)) = _
  rw [e]
theorem good_next : Good m .next (nextM m) := by
  have e : ((absL m).machines.filter Kyk.runs).map (fun m => m.until_) = runs m := by
    show ((m.machines.map absM).filter Kyk.runs).map (fun m => m.until_) = (m.machines.filter fun c => !c.things.isEmpty).map Mc.till
    rw [List.filter_map, List.map_map]; rfl
  have key : Kyk.acts (some (absL m)) .next = some (some (absL m), match runs m with
    | [] => Kyk.say (-6)
    | a :: l => Kyk.say ((l.foldl min a : Nat) : Int)) := by
    rw [← e]; rfl
  unfold nextM
  cases q : runs m with
  | nil => rw [q] at key; exact Good.no key
  | cons a l => rw [q] at key; exact Good.yes key rfl
theorem good_till : Good m .till (tillM m) := Good.yes (v := (m.till : Int)) (out := []) rfl rfl
theorem good_all : Good m .all (allM m) := by
  refine Good.yes (v := (m.now : Int)) (out := [m.orders.length, m.things.length, (waitL m).length]) ?_ rfl
  have e1 : (absL m).orders.length = m.orders.length := List.length_map _
  show some (some (absL m), (⟨_, [(absL m).orders.length, (absL m).items.length, (Kyk.waiting (absL m)).length]⟩ : Kyk.Ans)) = _
  rw [e1, items_abs]; rfl
theorem good_plan (k : Nat) : Good m (.plan k) (planM m k) := by
  unfold planM
  by_cases h : m.machines.length ≤ k
  · rw [if_pos h]
    refine Good.no ?_
    show some (some (absL m), if (absL m).machines.length ≤ k then _ else _) = _
    rw [machines_abs, if_pos h]
  · rw [if_neg h]
    have key : Kyk.acts (some (absL m)) (.plan k) = some (some (absL m), if (chosenB m (mc m k).bears).isEmpty = true then Kyk.say (-6) else match planB m (mc m k).bears with
      | none => Kyk.say (-6)
      | some x => ⟨(x.1 : Nat), (chosenB m (mc m k).bears).length :: ((chosenB m (mc m k).bears).zip x.2).flatMap fun y => [y.1, y.2]⟩) := by
      show some (some (absL m), if (absL m).machines.length ≤ k then _ else _) = _
      rw [machines_abs, if_neg h, chosen_abs, shares_abs]; rfl
    by_cases hc : chosenB m (mc m k).bears = []
    · rw [if_pos hc]
      rw [if_pos (by rw [hc]; rfl)] at key
      exact Good.no key
    · rw [if_neg hc]
      rw [if_neg (by simpa using hc)] at key
      cases e : planB m (mc m k).bears with
      | none => rw [e] at key; exact Good.no key
      | some x => rw [e] at key; exact Good.yes key rfl
end
end Wl
end
section
set_option Elab.async false
set_option linter.all false
/-! # Washloads: what changes the laundry: orders, closing, packing, handing, calling off, adding -/
namespace Wl
open Kyk1 (Label Thing)
section
variable {m : La}
theorem getD_set {α : Type} {l : List α} {i j : Nat} {x d : α} (h : i < l.length) : (l.set i x).getD j d = if j = i then x else l.getD j d := by
  rw [List.getD_eq_getElem?_getD, List.getD_eq_getElem?_getD, List.getElem?_set]
  by_cases c : i = j
  · subst c; rw [if_pos rfl, if_pos h, if_pos rfl]; rfl
  · rw [if_neg c, if_neg (fun e => c e.symm)]
theorem ofMap {α β : Type} {f g : α → β} {l : List α} (h : ∀ (i : Nat) (x : α), l[i]? = some x → f x = g x) : l.map f = l.map g :=
  List.map_congr_left fun x hx => by
    obtain ⟨i, hi⟩ := List.getElem?_of_mem hx
    exact h i x hi
theorem state_abs (o : Nat) : (Kyk.order (absL m) o).state = (od m o).stands := by rw [order_abs]; rfl
/-- the places told anew -/
theorem placed_eq {m m' : La} {who : List Nat} {p : Nat} (hl : m'.things.length = m.things.length)
    (h : ∀ i, i < m.things.length → absI m' (th m' i) = if i ∈ who then { absI m (th m i) with place := p } else absI m (th m i)) :
    m'.things.map (absI m') = Kyk.placed (m.things.map (absI m)) who p := by
  unfold Kyk.placed
  refine List.ext_getElem? fun i => ?_
  rw [List.getElem?_map, List.getElem?_map, List.length_map]
  by_cases c : i < m.things.length
  · rw [th_some (m := m') (by omega), List.getElem?_range c]
    show some (absI m' (th m' i)) = some _
    have e : (m.things.map (absI m)).getD i Kyk.noItem = absI m (th m i) := item_abs c
    rw [h i c]
    show _ = some (if who.contains i = true then { (m.things.map (absI m)).getD i Kyk.noItem with place := p } else (m.things.map (absI m)).getD i Kyk.noItem)
    rw [e]
    by_cases hw : i ∈ who
    · rw [if_pos hw, if_pos (by simpa using hw)]
    · rw [if_neg hw, if_neg (by simpa using hw)]
  · rw [List.getElem?_eq_none (by omega), List.getElem?_eq_none (by rw [List.length_range]; omega)]; rfl
theorem items_same {m m' : La} (hl : m'.things = m.things) (h : ∀ i, i < m.things.length → (placeOf (od m' (th m i).order).stands (th m i)) = placeOf (od m (th m i).order).stands (th m i)) :
    m'.things.map (absI m') = m.things.map (absI m) := by
  rw [hl]
  refine ofMap fun i x hx => ?_
  have hi : i < m.things.length := (List.getElem?_eq_some_iff.mp hx).1
  have e := th_at hx
  have := h i hi
  rw [e] at this
  unfold absI
  rw [this]
/-! ### a changed order -/
theorem od_setSt {o s o' : Nat} (h : o < m.orders.length) : od (setSt m o s) o' = if o' = o then { od m o with stands := s } else od m o' := getD_set h
theorem orders_setSt (o s : Nat) : (setSt m o s).orders.map absO = (m.orders.map absO).set o (absO { od m o with stands := s }) := by
  show (m.orders.set o _).map absO = _
  rw [List.map_set]
theorem setSt_len (o s : Nat) : (setSt m o s).orders.length = m.orders.length := List.length_set
theorem Inv.setSt (I : Inv m) {o s : Nat} (h : o < m.orders.length) (hs : s ≤ 4) (hn : ∀ k, k < m.machines.length → ∀ i ∈ (mc m k).things, (th m i).order ≠ o) : Inv (setSt m o s) where
  th_ok := fun t ht => ⟨(I.th_ok t ht).1, by rw [setSt_len]; exact (I.th_ok t ht).2.1, (I.th_ok t ht).2.2⟩
  od_ok := fun o' ho' => by
    rw [setSt_len] at ho'
    rw [od_setSt h]
    by_cases c : o' = o
    · subst c; rw [if_pos rfl]; exact ⟨hs, (I.od_ok _ h).2⟩
    · rw [if_neg c]; exact I.od_ok o' ho'
  mc_ok := fun k hk i hi => by
    obtain ⟨h1, h2, h3, h4⟩ := I.mc_ok k hk i hi
    refine ⟨h1, h2, h3, ?_⟩
    show (od (Wl.setSt m o s) (th m i).order).stands = 1
    rw [od_setSt h, if_neg (hn k hk i hi)]; exact h4
  mc_pr := I.mc_pr
  ths := I.ths
  ods := by rw [setSt_len]; exact I.ods
  mcs := I.mcs
  pr := I.pr
/-- an order that isn't closed, or all of which is washed, or none of which is in a machine, has nothing in a machine -/
theorem Inv.none_in (I : Inv m) {o : Nat} (ho : o < m.orders.length) (h : (od m o).stands ≠ 1 ∨ (∀ i ∈ (od m o).things, (th m i).washed = true) ∨ ∀ i ∈ (od m o).things, (th m i).mach < 0) :
    ∀ k, k < m.machines.length → ∀ i ∈ (mc m k).things, (th m i).order ≠ o := by
  intro k hk i hi e
  obtain ⟨h1, h2, h3, h4⟩ := I.mc_ok k hk i hi
  rw [e] at h4
  have hm : i ∈ (od m o).things := by
    rw [(I.od_ok o ho).2]
    exact List.mem_filter.mpr ⟨List.mem_range.mpr h1, by simpa using e⟩
  rcases h with h | h | h
  · exact h h4
  · rw [h i hm] at h3; cases h3
  · have := h i hm
    omega
theorem good_close (I : Inv m) (o : Nat) : Good m (.close o) (closeM m o) ∧ Inv (told m (closeM m o)).1 := by
  unfold closeM
  have key : Kyk.acts (some (absL m)) (.close o) = some (if Kyk.there (absL m) o = false then (some (absL m), Kyk.say (-2)) else if (Kyk.order (absL m) o).state ≠ 0 then (some (absL m), Kyk.say (-16)) else if (Kyk.ofOrder (absL m) o).isEmpty = true then (some (absL m), Kyk.say (-6)) else (some (Kyk.setOrder (absL m) o 1), Kyk.say 0)) := rfl
  rw [there_abs, state_abs, ofOrder_abs] at key
  by_cases h : m.orders.length ≤ o
  · rw [if_pos h]
    rw [if_pos (by simpa using h)] at key
    exact ⟨Good.no key, I⟩
  · rw [if_neg h]
    rw [if_neg (by simpa using h)] at key
    by_cases h2 : (od m o).stands ≠ 0
    · rw [if_pos h2]
      rw [if_pos h2] at key
      exact ⟨Good.no key, I⟩
    · rw [if_neg h2]
      rw [if_neg h2, ← (I.od_ok o (by omega)).2] at key
      by_cases h3 : (od m o).things = []
      · rw [if_pos h3]
        rw [if_pos (by rw [h3]; rfl)] at key
        exact ⟨Good.no key, I⟩
      · rw [if_neg h3]
        rw [if_neg (by simpa using h3)] at key
        have h2' : (od m o).stands = 0 := by omega
        have e : Kyk.setOrder (absL m) o 1 = absL (setSt m o 1) := by
          unfold Kyk.setOrder
          rw [order_abs]
          have e1 := orders_setSt (m := m) o 1
          have e2 : (setSt m o 1).things.map (absI (setSt m o 1)) = m.things.map (absI m) := by
            refine items_same rfl fun i hi => ?_
            rw [od_setSt (by omega)]
            by_cases c : (th m i).order = o
            · rw [if_pos c, c, h2']; rfl
            · rw [if_neg c]
          show _ = (⟨m.now, m.price, m.machines.map absM, (setSt m o 1).orders.map absO, (setSt m o 1).things.map (absI (setSt m o 1)), m.till⟩ : Kyk.Laundry)
          rw [e1, e2]; rfl
        rw [e] at key
        exact ⟨Good.yes key rfl, I.setSt (by omega) (by omega) (I.none_in (by omega) (.inl (by omega)))⟩
/-- an order's state with its things' place -/
theorem setSt_placed (I : Inv m) {o s p : Nat} (ho : o < m.orders.length) (hp : ∀ t, placeOf s t = p) : (setSt m o s).things.map (absI (setSt m o s)) = Kyk.placed (m.things.map (absI m)) (ofO m o) p := by
  refine placed_eq rfl fun i hi => ?_
  show absI (setSt m o s) (th m i) = _
  unfold absI
  rw [od_setSt ho]
  by_cases c : (th m i).order = o
  · rw [if_pos c, if_pos (show i ∈ ofO m o from List.mem_filter.mpr ⟨List.mem_range.mpr hi, by simpa using c⟩)]
    show (⟨_, _, _, placeOf s (th m i)⟩ : Kyk.Item) = _
    rw [hp]
  · rw [if_neg c, if_neg (fun q => c (ofO_mem q).2)]
theorem good_pack (I : Inv m) (o : Nat) : Good m (.pack o) (packM m o) ∧ Inv (told m (packM m o)).1 := by
  unfold packM
  have key : Kyk.acts (some (absL m)) (.pack o) = some (if Kyk.there (absL m) o = false then (some (absL m), Kyk.say (-2)) else if (Kyk.order (absL m) o).state ≠ 1 then (some (absL m), Kyk.say (-16)) else if (Kyk.ofOrder (absL m) o).any (fun i => (Kyk.item (absL m) i).place != 2) = true then (some (absL m), Kyk.say (-61)) else
      (some { Kyk.setOrder (absL m) o 2 with items := Kyk.placed (absL m).items (Kyk.ofOrder (absL m) o) 3 }, Kyk.say ((Kyk.ofOrder (absL m) o).length : Nat))) := rfl
  rw [there_abs, state_abs, ofOrder_abs] at key
  by_cases h : m.orders.length ≤ o
  · rw [if_pos h]
    rw [if_pos (by simpa using h)] at key
    exact ⟨Good.no key, I⟩
  · rw [if_neg h]
    rw [if_neg (by simpa using h)] at key
    by_cases h2 : (od m o).stands ≠ 1
    · rw [if_pos h2]
      rw [if_pos h2] at key
      exact ⟨Good.no key, I⟩
    · rw [if_neg h2]
      have h2' : (od m o).stands = 1 := by omega
      have ea : (ofO m o).any (fun i => (Kyk.item (absL m) i).place != 2) = (od m o).things.any fun i => !(th m i).washed := by
        rw [(I.od_ok o (by omega)).2]
        have : ∀ i ∈ ofO m o, ((Kyk.item (absL m) i).place != 2) = !(th m i).washed := fun i hi => by
          rw [item_abs (ofO_mem hi).1]
          show (placeOf (od m (th m i).order).stands (th m i) != 2) = _
          rw [(ofO_mem hi).2, h2']
          unfold placeOf
          cases (th m i).washed with
          | true => rfl
          | false => by_cases c : 0 ≤ (th m i).mach <;> simp [c]
        rw [Bool.eq_iff_iff, List.any_eq_true, List.any_eq_true]
        constructor
        · rintro ⟨i, hi, q⟩; exact ⟨i, hi, by rw [← this i hi]; exact q⟩
        · rintro ⟨i, hi, q⟩; exact ⟨i, hi, by rw [this i hi]; exact q⟩
      rw [if_neg h2, ea] at key
      by_cases h3 : ((od m o).things.any fun i => !(th m i).washed) = true
      · rw [if_pos h3] at key ⊢
        exact ⟨Good.no key, I⟩
      · rw [if_neg h3] at key ⊢
        have e : ({ Kyk.setOrder (absL m) o 2 with items := Kyk.placed (absL m).items (ofO m o) 3 } : Kyk.Laundry) = absL (setSt m o 2) := by
          unfold Kyk.setOrder
          rw [order_abs]
          show _ = (⟨m.now, m.price, m.machines.map absM, (setSt m o 2).orders.map absO, (setSt m o 2).things.map (absI (setSt m o 2)), m.till⟩ : Kyk.Laundry)
          rw [orders_setSt, setSt_placed I (p := 3) (by omega) fun t => rfl]; rfl
        rw [e, ← (I.od_ok o (by omega)).2] at key
        refine ⟨Good.yes key rfl, I.setSt (by omega) (by omega) (I.none_in (by omega) (.inr (.inl fun i hi => ?_)))⟩
        cases q : (th m i).washed with
        | true => rfl
        | false => exact absurd (List.any_eq_true.mpr ⟨i, hi, by rw [q]; rfl⟩) h3
theorem good_hand (I : Inv m) (o : Nat) : Good m (.hand o) (handM m o) ∧ Inv (told m (handM m o)).1 := by
  unfold handM
  have key : Kyk.acts (some (absL m)) (.hand o) = some (if Kyk.there (absL m) o = false then (some (absL m), Kyk.say (-2)) else if (Kyk.order (absL m) o).state ≠ 2 then (some (absL m), Kyk.say (-16)) else
      (some { Kyk.setOrder (absL m) o 3 with items := Kyk.placed (absL m).items (Kyk.ofOrder (absL m) o) 4, till := (absL m).till + Kyk.bill (absL m) o }, Kyk.say (Kyk.bill (absL m) o : Nat))) := rfl
  rw [there_abs, state_abs, ofOrder_abs] at key
  by_cases h : m.orders.length ≤ o
  · rw [if_pos h]
    rw [if_pos (by simpa using h)] at key
    exact ⟨Good.no key, I⟩
  · rw [if_neg h]
    rw [if_neg (by simpa using h), bill_abs I (by omega)] at key
    by_cases h2 : (od m o).stands ≠ 2
    · rw [if_pos h2]
      rw [if_pos h2] at key
      exact ⟨Good.no key, I⟩
    · rw [if_neg h2] at key ⊢
      have e : ({ Kyk.setOrder (absL m) o 3 with items := Kyk.placed (absL m).items (ofO m o) 4, till := (absL m).till + billN m o } : Kyk.Laundry) = absL { setSt m o 3 with till := m.till + billN m o } := by
        unfold Kyk.setOrder
        rw [order_abs]
        show _ = (⟨m.now, m.price, m.machines.map absM, (setSt m o 3).orders.map absO, (setSt m o 3).things.map (absI (setSt m o 3)), m.till + billN m o⟩ : Kyk.Laundry)
        rw [orders_setSt, setSt_placed I (p := 4) (by omega) fun t => rfl]; rfl
      rw [e] at key
      have J : Inv (setSt m o 3) := I.setSt (by omega) (by omega) (I.none_in (by omega) (.inl (by omega)))
      exact ⟨Good.yes key rfl, ⟨J.th_ok, J.od_ok, J.mc_ok, J.mc_pr, J.ths, J.ods, J.mcs, J.pr⟩⟩
theorem good_cancel (I : Inv m) (o : Nat) : Good m (.cancel o) (cancelM m o) ∧ Inv (told m (cancelM m o)).1 := by
  unfold cancelM
  have key : Kyk.acts (some (absL m)) (.cancel o) = some (if Kyk.there (absL m) o = false then (some (absL m), Kyk.say (-2)) else if 1 < (Kyk.order (absL m) o).state then (some (absL m), Kyk.say (-16)) else if (Kyk.ofOrder (absL m) o).any (fun i => (Kyk.item (absL m) i).place != 0) = true then (some (absL m), Kyk.say (-17)) else
      (some { Kyk.setOrder (absL m) o 4 with items := Kyk.placed (absL m).items (Kyk.ofOrder (absL m) o) 4 }, Kyk.say ((Kyk.ofOrder (absL m) o).length : Nat))) := rfl
  rw [there_abs, state_abs, ofOrder_abs] at key
  by_cases h : m.orders.length ≤ o
  · rw [if_pos h]
    rw [if_pos (by simpa using h)] at key
    exact ⟨Good.no key, I⟩
  · rw [if_neg h]
    rw [if_neg (by simpa using h)] at key
    by_cases h2 : 1 < (od m o).stands
    · rw [if_pos h2]
      rw [if_pos h2] at key
      exact ⟨Good.no key, I⟩
    · rw [if_neg h2]
      have ea : (ofO m o).any (fun i => (Kyk.item (absL m) i).place != 0) = (od m o).things.any fun i => (th m i).washed || decide (0 ≤ (th m i).mach) := by
        rw [(I.od_ok o (by omega)).2]
        have : ∀ i ∈ ofO m o, ((Kyk.item (absL m) i).place != 0) = ((th m i).washed || decide (0 ≤ (th m i).mach)) := fun i hi => by
          rw [item_abs (ofO_mem hi).1]
          show (placeOf (od m (th m i).order).stands (th m i) != 0) = _
          rw [(ofO_mem hi).2]
          unfold placeOf
          rw [if_neg (by omega), if_neg (by omega)]
          cases (th m i).washed with
          | true => rfl
          | false => by_cases c : 0 ≤ (th m i).mach <;> simp [c]
        rw [Bool.eq_iff_iff, List.any_eq_true, List.any_eq_true]
        constructor
        · rintro ⟨i, hi, q⟩; exact ⟨i, hi, by rw [← this i hi]; exact q⟩
        · rintro ⟨i, hi, q⟩; exact ⟨i, hi, by rw [this i hi]; exact q⟩
      rw [if_neg h2, ea] at key
      by_cases h3 : ((od m o).things.any fun i => (th m i).washed || decide (0 ≤ (th m i).mach)) = true
      · rw [if_pos h3] at key ⊢
        exact ⟨Good.no key, I⟩
      · rw [if_neg h3] at key ⊢
        have e : ({ Kyk.setOrder (absL m) o 4 with items := Kyk.placed (absL m).items (ofO m o) 4 } : Kyk.Laundry) = absL (setSt m o 4) := by
          unfold Kyk.setOrder
          rw [order_abs]
          show _ = (⟨m.now, m.price, m.machines.map absM, (setSt m o 4).orders.map absO, (setSt m o 4).things.map (absI (setSt m o 4)), m.till⟩ : Kyk.Laundry)
          rw [orders_setSt, setSt_placed I (p := 4) (by omega) fun t => rfl]; rfl
        rw [e, ← (I.od_ok o (by omega)).2] at key
        refine ⟨Good.yes key rfl, I.setSt (by omega) (by omega) (I.none_in (by omega) (.inr (.inr fun i hi => ?_)))⟩
        by_cases q : (th m i).mach < 0
        · exact q
        · have q' : 0 ≤ (th m i).mach := by omega
          exact absurd (List.any_eq_true.mpr ⟨i, hi, by simp [q']⟩) h3
/-! ### one order more, one thing more -/
theorem od_app {x : Od} {o : Nat} (h : o < m.orders.length) : od { m with orders := m.orders ++ [x] } o = od m o := by
  unfold od
  rw [List.getD_eq_getElem?_getD, List.getD_eq_getElem?_getD]
  show ((m.orders ++ [x])[o]?).getD noOd = _
  rw [List.getElem?_append_left h]
theorem od_app_new {x : Od} : od { m with orders := m.orders ++ [x] } m.orders.length = x := by
  unfold od
  rw [List.getD_eq_getElem?_getD]
  show ((m.orders ++ [x])[m.orders.length]?).getD noOd = _
  simp
theorem th_order (I : Inv m) {i : Nat} (h : i < m.things.length) : (th m i).order < m.orders.length := (I.th_ok _ (List.mem_of_getElem? (th_some h))).2.1
theorem good_order (I : Inv m) (d : Nat) : Good m (.order d) (orderM m d) ∧ Inv (told m (orderM m d)).1 := by
  unfold orderM
  have key : Kyk.acts (some (absL m)) (.order d) = some (if d < m.now ∨ 1000000 < d then (some (absL m), Kyk.say (-22)) else if (m.orders.map absO).length = 60 then (some (absL m), Kyk.say (-28)) else (some { absL m with orders := m.orders.map absO ++ [⟨d, 0⟩] }, Kyk.say ((m.orders.map absO).length : Nat))) := rfl
  rw [List.length_map] at key
  by_cases h : d < m.now ∨ 1000000 < d
  · rw [if_pos h] at key ⊢
    exact ⟨Good.no key, I⟩
  · rw [if_neg h] at key ⊢
    by_cases h2 : m.orders.length = 60
    · rw [if_pos h2] at key ⊢
      exact ⟨Good.no key, I⟩
    · rw [if_neg h2] at key ⊢
      have e : ({ absL m with orders := m.orders.map absO ++ [⟨d, 0⟩] } : Kyk.Laundry) = absL { m with orders := m.orders ++ [⟨d, 0, []⟩] } := by
        have e2 : m.things.map (absI { m with orders := m.orders ++ [⟨d, 0, []⟩] }) = m.things.map (absI m) := by
          refine items_same (m := m) (m' := { m with orders := m.orders ++ [⟨d, 0, []⟩] }) rfl fun i hi => ?_
          rw [od_app (th_order I hi)]
        show _ = (⟨m.now, m.price, m.machines.map absM, (m.orders ++ [(⟨d, 0, []⟩ : Od)]).map absO, m.things.map (absI { m with orders := m.orders ++ [⟨d, 0, []⟩] }), m.till⟩ : Kyk.Laundry)
        rw [e2, List.map_append]; rfl
      rw [e] at key
      have len : (m.orders ++ [(⟨d, 0, []⟩ : Od)]).length = m.orders.length + 1 := by simp
      refine ⟨Good.yes key rfl, fun t ht => ⟨(I.th_ok t ht).1, by show t.order < (m.orders ++ [_]).length; rw [len]; have := (I.th_ok t ht).2.1; omega, (I.th_ok t ht).2.2⟩, fun o ho => ?_, fun k hk i hi => ?_, I.mc_pr, I.ths, ?_, I.mcs, I.pr⟩
      · have ho' : o < (m.orders ++ [(⟨d, 0, []⟩ : Od)]).length := ho
        rw [len] at ho'
        by_cases c : o < m.orders.length
        · show (od { m with orders := m.orders ++ [⟨d, 0, []⟩] } o).stands ≤ 4 ∧ (od { m with orders := m.orders ++ [⟨d, 0, []⟩] } o).things = ofO m o
          rw [od_app c]
          exact I.od_ok o c
        · obtain rfl : o = m.orders.length := by omega
          show (od { m with orders := m.orders ++ [⟨d, 0, []⟩] } m.orders.length).stands ≤ 4 ∧ (od { m with orders := m.orders ++ [⟨d, 0, []⟩] } m.orders.length).things = ofO m m.orders.length
          rw [od_app_new]
          refine ⟨by show 0 ≤ 4; omega, ?_⟩
          show [] = ofO m m.orders.length
          unfold ofO
          rw [eq_comm, List.filter_eq_nil_iff]
          intro i hi
          have := th_order I (List.mem_range.mp hi)
          simp; omega
      · obtain ⟨h1, h2, h3, h4⟩ := I.mc_ok k hk i hi
        refine ⟨h1, h2, h3, ?_⟩
        show (od { m with orders := m.orders ++ [⟨d, 0, []⟩] } (th m i).order).stands = 1
        rw [od_app (th_order I h1)]; exact h4
      · show (m.orders ++ [(⟨d, 0, []⟩ : Od)]).length ≤ 60
        have := I.ods
        rw [len]; omega
end
section
variable {m : La} {o : Nat} {x : Th}
theorem th_addT {i : Nat} (h : i < m.things.length) : th (addT m o x) i = th m i := by
  unfold th
  rw [List.getD_eq_getElem?_getD, List.getD_eq_getElem?_getD]
  show ((m.things ++ [x])[i]?).getD noTh = _
  rw [List.getElem?_append_left h]
theorem th_addT_new : th (addT m o x) m.things.length = x := by
  unfold th
  rw [List.getD_eq_getElem?_getD]
  show ((m.things ++ [x])[m.things.length]?).getD noTh = _
  simp
theorem od_addT (h : o < m.orders.length) (o' : Nat) : od (addT m o x) o' = if o' = o then { od m o with things := (od m o).things ++ [m.things.length] } else od m o' := getD_set h
theorem st_addT (h : o < m.orders.length) (o' : Nat) : (od (addT m o x) o').stands = (od m o').stands := by
  rw [od_addT h]
  by_cases c : o' = o
  · subst c; rw [if_pos rfl]
  · rw [if_neg c]
theorem ofO_addT (o' : Nat) : ofO (addT m o x) o' = ofO m o' ++ if x.order = o' then [m.things.length] else [] := by
  unfold ofO
  have e : (addT m o x).things.length = m.things.length + 1 := by show (m.things ++ [x]).length = _; simp
  rw [e, List.range_succ, List.filter_append]
  congr 1
  · refine List.filter_congr fun i hi => ?_
    rw [th_addT (List.mem_range.mp hi)]
  · rw [List.filter_cons, th_addT_new]
    by_cases c : x.order = o'
    · rw [if_pos c, if_pos (by simpa using c)]; rfl
    · rw [if_neg c, if_neg (by simpa using c)]; rfl
theorem Inv.addT (I : Inv m) (ho : o < m.orders.length) (hx : ThOk x) (hxo : x.order = o) (hs : (od m o).stands = 0) (ht : togetherB [x] = true) (hl : m.things.length < 150) : Inv (addT m o x) where
  th_ok := fun t h => by
    have e : (Wl.addT m o x).orders.length = m.orders.length := List.length_set
    rw [e]
    rcases List.mem_append.mp h with q | q
    · exact I.th_ok t q
    · obtain rfl : t = x := by simpa using q
      exact ⟨hx, by omega, ht⟩
  od_ok := fun o' ho' => by
    have e : (Wl.addT m o x).orders.length = m.orders.length := List.length_set
    rw [e] at ho'
    rw [st_addT ho, ofO_addT, od_addT ho]
    refine ⟨(I.od_ok o' ho').1, ?_⟩
    by_cases c : o' = o
    · subst c
      rw [if_pos rfl, if_pos hxo, (I.od_ok _ ho).2]
    · rw [if_neg c, if_neg (fun q => c (by omega)), (I.od_ok _ ho').2, List.append_nil]
  mc_ok := fun k hk i hi => by
    obtain ⟨h1, h2, h3, h4⟩ := I.mc_ok k hk i hi
    rw [th_addT h1, st_addT ho]
    exact ⟨by show i < (m.things ++ [x]).length; simp; omega, h2, h3, h4⟩
  mc_pr := I.mc_pr
  ths := by show (m.things ++ [x]).length ≤ 150; simp; omega
  ods := by show (m.orders.set o _).length ≤ 60; rw [List.length_set]; exact I.ods
  mcs := I.mcs
  pr := I.pr
theorem okThing_iff {lb : Lb} (h : LbOk lb) (need colour : Nat) (r : Bool) : Kyk1.okThing ⟨absLb lb, need, colour, r⟩ = true ↔ (need = 0 ∨ need = 30 ∨ need = 40 ∨ need = 60 ∨ need = 95) ∧ colour ≤ 9 := by
  unfold Kyk1.okThing
  have e : Kyk1.okLabel (absLb lb) = true := by
    unfold absLb
    rw [okLabel_iff]
    have h1 := h.heat; have h2 := h.gentle; have h3 := h.bleach; have h4 := h.dry; have h5 := h.iron
    refine ⟨h1, h2, h3, h4, h5, ?_⟩
    by_cases c : lb.heat = 0
    · exact .inr (h.cold c)
    · exact .inl c
  rw [e]
  simp only [Bool.and_eq_true, Bool.or_eq_true, decide_eq_true_eq, beq_iff_eq, mem_heats, Bool.true_and]
theorem good_add (I : Inv m) (o need colour runs w : Nat) (t : List Nat) : Good m (.add o t need colour runs w) (addM m o need colour runs w t) ∧ Inv (told m (addM m o need colour runs w t)).1 := by
  unfold addM
  have key : Kyk.acts (some (absL m)) (.add o t need colour runs w) = some (if Kyk.there (absL m) o = false then (some (absL m), Kyk.say (-2)) else if (Kyk.order (absL m) o).state ≠ 0 then (some (absL m), Kyk.say (-16)) else match Kyk1.read t with
    | none => (some (absL m), Kyk.say (-71))
    | some x => Kyk.added (absL m) o need colour runs w x) := rfl
  rw [there_abs, state_abs, read_readI] at key
  by_cases h : m.orders.length ≤ o
  · rw [if_pos h]
    rw [if_pos (by simpa using h)] at key
    exact ⟨Good.no key, I⟩
  rw [if_neg h]
  rw [if_neg (by simpa using h)] at key
  by_cases h2 : (od m o).stands ≠ 0
  · rw [if_pos h2]
    rw [if_pos h2] at key
    exact ⟨Good.no key, I⟩
  rw [if_neg h2]
  rw [if_neg h2] at key
  cases er : readI t with
  | none => rw [er] at key; exact ⟨Good.no key, I⟩
  | some lb =>
    rw [er] at key
    obtain ⟨hlb, _⟩ := readI_ok er
    have key2 : Kyk.acts (some (absL m)) (.add o t need colour runs w) = some (if Kyk1.okThing ⟨absLb lb, need, colour, runs == 1⟩ = false ∨ 1 < runs ∨ w < 1 ∨ 20000 < w then (some (absL m), Kyk.say (-22)) else
        if ((m.machines.map absM).any fun c => Kyk2.load c.bears [⟨⟨absLb lb, need, colour, runs == 1⟩, w⟩]) = false then (some (absL m), Kyk.say (-33)) else if (m.things.map (absI m)).length = 150 then (some (absL m), Kyk.say (-28)) else
        (some { absL m with items := m.things.map (absI m) ++ [⟨⟨absLb lb, need, colour, runs == 1⟩, w, o, 0⟩] }, Kyk.say ((m.things.map (absI m)).length : Nat))) := key
    rw [List.length_map, List.any_map] at key2
    dsimp only
    by_cases h3 : okN need colour runs w
    · have n3 : ¬ (Kyk1.okThing ⟨absLb lb, need, colour, runs == 1⟩ = false ∨ 1 < runs ∨ w < 1 ∨ 20000 < w) := by
        obtain ⟨a1, a2, a3, a4, a5⟩ := h3
        have := (okThing_iff hlb need colour (runs == 1)).mpr ⟨a1, a2⟩
        rintro (q | q | q | q)
        · rw [this] at q; cases q
        · omega
        · omega
        · omega
      rw [if_neg n3] at key2
      rw [if_neg (fun q => q h3)]
      have e4 : m.machines.any ((fun c => Kyk2.load c.bears [⟨⟨absLb lb, need, colour, runs == 1⟩, w⟩]) ∘ absM) = m.machines.any fun c => loadB c.bears [⟨o, lb, need, colour, runs, w, false, -1⟩] := rfl
      rw [e4] at key2
      by_cases h4 : (m.machines.any fun c => loadB c.bears [⟨o, lb, need, colour, runs, w, false, -1⟩]) = false
      · rw [if_pos h4] at key2 ⊢
        exact ⟨Good.no key2, I⟩
      · rw [if_neg h4] at key2 ⊢
        by_cases h5 : m.things.length = 150
        · rw [if_pos h5] at key2 ⊢
          exact ⟨Good.no key2, I⟩
        · rw [if_neg h5] at key2 ⊢
          obtain ⟨a1, a2, a3, a4, a5⟩ := h3
          have ho : o < m.orders.length := by omega
          have e : ({ absL m with items := m.things.map (absI m) ++ [⟨⟨absLb lb, need, colour, runs == 1⟩, w, o, 0⟩] } : Kyk.Laundry) = absL (addT m o ⟨o, lb, need, colour, runs, w, false, -1⟩) := by
            have e1 : (addT m o ⟨o, lb, need, colour, runs, w, false, -1⟩).orders.map absO = m.orders.map absO := by
              show (m.orders.set o _).map absO = _
              rw [List.map_set]
              show (m.orders.map absO).set o (absO (od m o)) = _
              have := od_some ho
              rw [List.getElem?_eq_some_iff] at this
              obtain ⟨hh, hq⟩ := this
              rw [← hq]
              have : absO (m.orders[o]) = (m.orders.map absO)[o]'(by rw [List.length_map]; exact ho) := by simp
              rw [this, List.set_getElem_self]
            have e2 : (addT m o ⟨o, lb, need, colour, runs, w, false, -1⟩).things.map (absI (addT m o ⟨o, lb, need, colour, runs, w, false, -1⟩)) = m.things.map (absI m) ++ [⟨⟨absLb lb, need, colour, runs == 1⟩, w, o, 0⟩] := by
              show (m.things ++ [_]).map _ = _
              rw [List.map_append]
              congr 1
              · refine ofMap fun i t _ => ?_
                unfold absI
                rw [st_addT ho]
              · show [absI _ _] = _
                unfold absI
                rw [st_addT ho]
                have : (od m o).stands = 0 := by omega
                show [(⟨_, _, _, placeOf (od m o).stands _⟩ : Kyk.Item)] = _
                rw [this]; rfl
            show _ = (⟨m.now, m.price, m.machines.map absM, (addT m o ⟨o, lb, need, colour, runs, w, false, -1⟩).orders.map absO, (addT m o ⟨o, lb, need, colour, runs, w, false, -1⟩).things.map (absI (addT m o ⟨o, lb, need, colour, runs, w, false, -1⟩)), m.till⟩ : Kyk.Laundry)
            rw [e1, e2]; rfl
          rw [e] at key2
          refine ⟨Good.yes key2 rfl, I.addT ho ⟨hlb, a1, a2, a3, a4, a5⟩ rfl (by omega) ?_ (by have := I.ths; omega)⟩
          have h4' : (m.machines.any fun c => loadB c.bears [⟨o, lb, need, colour, runs, w, false, -1⟩]) = true := by simpa using h4
          obtain ⟨c, _, hc⟩ := List.any_eq_true.mp h4'
          rw [loadB_eq] at hc
          exact (Bool.and_eq_true_iff.mp hc).1
    · have n3 : Kyk1.okThing ⟨absLb lb, need, colour, runs == 1⟩ = false ∨ 1 < runs ∨ w < 1 ∨ 20000 < w := by
        cases q : Kyk1.okThing ⟨absLb lb, need, colour, runs == 1⟩ with
        | false => exact .inl rfl
        | true =>
          obtain ⟨b1, b2⟩ := (okThing_iff hlb need colour (runs == 1)).mp q
          refine .inr ?_
          unfold okN at h3
          omega
      rw [if_pos n3] at key2
      rw [if_pos h3]
      exact ⟨Good.no key2, I⟩
end
end Wl
end
section
set_option Elab.async false
set_option linter.all false
/-! # Washloads: running, ticking, breaking -/
namespace Wl
open Kyk1 (Label Thing)
theorem modL_length (f : Th → Th) : ∀ (l : List Nat) (ts : List Th), (modL f l ts).length = ts.length
  | [], _ => rfl
  | x :: l, ts => by
    show (modL f l (ts.set x _)).length = _
    rw [modL_length f l, List.length_set]
theorem modL_get (f : Th → Th) : ∀ (l : List Nat) (ts : List Th) (i : Nat), l.Nodup → (modL f l ts)[i]? = if i ∈ l then (ts[i]?).map f else ts[i]?
  | [], ts, i, _ => by rw [if_neg (by simp)]; rfl
  | x :: l, ts, i, hn => by
    have hn' := List.nodup_cons.mp hn
    show (modL f l (ts.set x (f (ts.getD x noTh))))[i]? = _
    rw [modL_get f l _ i hn'.2]
    by_cases c : i = x
    · subst c
      rw [if_neg hn'.1, if_pos List.mem_cons_self, List.getElem?_set, if_pos rfl]
      by_cases h : i < ts.length
      · rw [if_pos h, List.getD_eq_getElem?_getD, List.getElem?_eq_getElem h]; rfl
      · rw [if_neg h, List.getElem?_eq_none (by omega)]; rfl
    · have e : (ts.set x (f (ts.getD x noTh)))[i]? = ts[i]? := List.getElem?_set_ne (fun q => c q.symm)
      rw [e]
      by_cases h : i ∈ l
      · rw [if_pos h, if_pos (List.mem_cons_of_mem _ h)]
      · rw [if_neg h, if_neg (fun q => by rcases List.mem_cons.mp q with q | q; exact c q; exact h q)]
section
variable {m : La}
/-- some things changed, machines changed -/
def mixL (m : La) (f : Th → Th) (l : List Nat) (ms : List Mc) : La := { m with things := modL f l m.things, machines := ms }
theorem th_mix {f : Th → Th} {l : List Nat} {ms : List Mc} {i : Nat} (hn : l.Nodup) (hi : i < m.things.length) : th (mixL m f l ms) i = if i ∈ l then f (th m i) else th m i := by
  have h := modL_get f l m.things i hn
  rw [th_some hi] at h
  by_cases c : i ∈ l
  · rw [if_pos c] at h ⊢
    exact th_at (m := mixL m f l ms) h
  · rw [if_neg c] at h ⊢
    exact th_at (m := mixL m f l ms) h
theorem mix_len {f : Th → Th} {l : List Nat} {ms : List Mc} : (mixL m f l ms).things.length = m.things.length := modL_length f l m.things
theorem od_mix {f : Th → Th} {l : List Nat} {ms : List Mc} (o : Nat) : od (mixL m f l ms) o = od m o := rfl
/-- what a thing keeps -/
structure Keeps (f : Th → Th) : Prop where
  order : ∀ t, (f t).order = t.order
  x : ∀ t, absX (f t) = absX t
  w : ∀ t, (f t).weight = t.weight
  ok : ∀ t, ThOk t → ThOk (f t)
theorem keeps_at (k : Int) (w : Bool) : Keeps fun t => { t with mach := k, washed := w } := ⟨fun _ => rfl, fun _ => rfl, fun _ => rfl, fun _ h => ⟨h.lb, h.need, h.colour, h.runs, h.w1, h.w2⟩⟩
theorem keeps_mach (k : Int) : Keeps fun t => { t with mach := k } := ⟨fun _ => rfl, fun _ => rfl, fun _ => rfl, fun _ h => ⟨h.lb, h.need, h.colour, h.runs, h.w1, h.w2⟩⟩
theorem mix_mem {f : Th → Th} {l : List Nat} {ms : List Mc} (hn : l.Nodup) {t : Th} (h : t ∈ (mixL m f l ms).things) : ∃ u ∈ m.things, t = u ∨ t = f u := by
  obtain ⟨i, hi⟩ := List.getElem?_of_mem h
  have h2 := modL_get f l m.things i hn
  rw [show (modL f l m.things)[i]? = some t from hi] at h2
  split at h2
  · obtain ⟨u, hu, e⟩ := Option.map_eq_some_iff.mp h2.symm
    exact ⟨u, List.mem_of_getElem? hu, .inr e.symm⟩
  · exact ⟨t, List.mem_of_getElem? h2.symm, .inl rfl⟩
theorem ofO_mix {f : Th → Th} (kf : Keeps f) {l : List Nat} {ms : List Mc} (hn : l.Nodup) (o : Nat) : ofO (mixL m f l ms) o = ofO m o := by
  unfold ofO
  rw [mix_len]
  refine List.filter_congr fun i hi => ?_
  rw [th_mix hn (List.mem_range.mp hi)]
  split
  · rw [kf.order]
  · rfl
theorem Inv.mix (I : Inv m) {f : Th → Th} (kf : Keeps f) {l : List Nat} {ms : List Mc} (hn : l.Nodup) (hl : ms.length = m.machines.length)
    (hok : ∀ k, k < ms.length → ∀ i ∈ (mc (mixL m f l ms) k).things, i < m.things.length ∧ (th (mixL m f l ms) i).mach = (k : Int) ∧ (th (mixL m f l ms) i).washed = false ∧ (od m (th m i).order).stands = 1)
    (hpr : ∀ c ∈ ms, (c.things = [] ∨ ∃ h g b d, c.prog = [h, g, b, d]) ∧ c.things.length ≤ 8 ∧ c.things.Nodup) : Inv (mixL m f l ms) where
  th_ok := fun t ht => by
    obtain ⟨u, hu, e⟩ := mix_mem hn ht
    have h := I.th_ok u hu
    rcases e with rfl | rfl
    · exact h
    · refine ⟨kf.ok _ h.1, by rw [kf.order]; exact h.2.1, ?_⟩
      have : togetherB [f u] = togetherB [u] := by unfold togetherB; show Kyk1.together [absX (f u)] = Kyk1.together [absX u]; rw [kf.x]
      rw [this]; exact h.2.2
  od_ok := fun o ho => by rw [ofO_mix kf hn]; exact I.od_ok o ho
  mc_ok := fun k hk i hi => by
    obtain ⟨h1, h2, h3, h4⟩ := hok k hk i hi
    refine ⟨by rw [mix_len]; exact h1, h2, h3, ?_⟩
    rw [th_mix hn h1]
    show (od m _).stands = 1
    split
    · rw [kf.order]; exact h4
    · exact h4
  mc_pr := hpr
  ths := by rw [mix_len]; exact I.ths
  ods := I.ods
  mcs := by show ms.length ≤ 4; rw [hl]; exact I.mcs
  pr := I.pr
theorem mc_set {k j : Nat} {c : Mc} {f : Th → Th} {l : List Nat} (h : k < m.machines.length) : mc (mixL m f l (m.machines.set k c)) j = if j = k then c else mc m j := getD_set h
theorem mix_items {f : Th → Th} (kf : Keeps f) {l : List Nat} {ms : List Mc} {p : Nat} (hn : l.Nodup) (hp : ∀ i ∈ l, i < m.things.length ∧ placeOf (od m (th m i).order).stands (f (th m i)) = p) :
    (mixL m f l ms).things.map (absI (mixL m f l ms)) = Kyk.placed (m.things.map (absI m)) l p := by
  refine placed_eq mix_len fun i hi => ?_
  rw [th_mix hn hi]
  by_cases c : i ∈ l
  · rw [if_pos c, if_pos c]
    unfold absI
    have e1 := (hp i c).2
    show (⟨absX (f (th m i)), (f (th m i)).weight, (f (th m i)).order, placeOf (od m (f (th m i)).order).stands (f (th m i))⟩ : Kyk.Item) = ⟨absX (th m i), (th m i).weight, (th m i).order, p⟩
    rw [kf.x, kf.w, kf.order, e1]
  · rw [if_neg c, if_neg c]; rfl
/-! ### emptying -/
theorem emptyL_mix (k : Nat) (w : Bool) : emptyL m k w = mixL m (fun t => { t with mach := -1, washed := w }) (mc m k).things (m.machines.set k { mc m k with things := [] }) := rfl
theorem mc_nodup (I : Inv m) {k : Nat} (h : k < m.machines.length) : (mc m k).things.Nodup := (I.mc_pr _ (mc_mem h)).2.2
theorem Inv.empty (I : Inv m) {k : Nat} {w : Bool} (h : k < m.machines.length) : Inv (emptyL m k w) := by
  rw [emptyL_mix]
  refine I.mix (keeps_at (-1) w) (mc_nodup I h) List.length_set (fun j hj i hi => ?_) fun c hc => ?_
  · rw [mc_set h] at hi
    rw [List.length_set] at hj
    by_cases c : j = k
    · rw [if_pos c] at hi; cases hi
    · rw [if_neg c] at hi
      obtain ⟨h1, h2, h3, h4⟩ := I.mc_ok j hj i hi
      have hni : i ∉ (mc m k).things := fun q => by
        have := (I.mc_ok k h i q).2.1
        omega
      rw [th_mix (mc_nodup I h) h1, if_neg hni]
      exact ⟨h1, h2, h3, h4⟩
  · rcases List.mem_or_eq_of_mem_set hc with q | q
    · exact I.mc_pr c q
    · subst q; exact ⟨.inl rfl, by simp, by simp⟩
theorem machines_set (k : Nat) (c : Mc) : (m.machines.set k c).map absM = (m.machines.map absM).set k (absM c) := List.map_set
theorem good_broken (I : Inv m) (k on : Nat) : Good m (.broken k on) (brokenM m k on) ∧ Inv (told m (brokenM m k on)).1 := by
  unfold brokenM
  have key : Kyk.acts (some (absL m)) (.broken k on) = some (if (absL m).machines.length ≤ k then (some (absL m), Kyk.say (-2)) else if 1 < on then (some (absL m), Kyk.say (-22)) else if ((Kyk.machine (absL m) k).broken == (on == 1)) = true then (some (absL m), Kyk.say (-17)) else
      (some { absL m with items := Kyk.placed (absL m).items (Kyk.machine (absL m) k).load 0, machines := (absL m).machines.set k { Kyk.emptied (Kyk.machine (absL m) k) with broken := on == 1 } }, Kyk.say ((Kyk.machine (absL m) k).load.length : Nat))) := rfl
  rw [machines_abs, machine_abs] at key
  by_cases h : m.machines.length ≤ k
  · rw [if_pos h] at key ⊢
    exact ⟨Good.no key, I⟩
  rw [if_neg h] at key ⊢
  by_cases h2 : 1 < on
  · rw [if_pos h2] at key ⊢
    exact ⟨Good.no key, I⟩
  rw [if_neg h2] at key ⊢
  by_cases h3 : (mc m k).broken = (on == 1)
  · rw [if_pos (show ((absM (mc m k)).broken == (on == 1)) = true from by simpa [absM] using h3)] at key
    rw [if_pos h3]
    exact ⟨Good.no key, I⟩
  rw [if_neg (show ¬ ((absM (mc m k)).broken == (on == 1)) = true from by simpa [absM] using h3)] at key
  rw [if_neg h3]
  have hk : k < m.machines.length := by omega
  have J : Inv (breakL m k (on == 1)) := by
    have e : breakL m k (on == 1) = mixL m (fun t => { t with mach := -1 }) [] (m.machines.set k { mc m k with broken := on == 1 }) := rfl
    rw [e]
    refine I.mix (keeps_mach (-1)) List.nodup_nil List.length_set (fun j hj i hi => ?_) fun c hc => ?_
    · rw [mc_set hk] at hi
      rw [List.length_set] at hj
      have hi' : i ∈ (mc m j).things := by
        by_cases c : j = k
        · rw [if_pos c] at hi; rw [c]; exact hi
        · rw [if_neg c] at hi; exact hi
      obtain ⟨h1, h2, h3, h4⟩ := I.mc_ok j hj i hi'
      rw [th_mix List.nodup_nil h1, if_neg (by simp)]
      exact ⟨h1, h2, h3, h4⟩
    · rcases List.mem_or_eq_of_mem_set hc with q | q
      · exact I.mc_pr c q
      · subst q; have z := I.mc_pr (mc m k) (mc_mem hk); exact z
  have hk' : k < (breakL m k (on == 1)).machines.length := by show k < (m.machines.set k _).length; rw [List.length_set]; exact hk
  have em : mc (breakL m k (on == 1)) k = { mc m k with broken := on == 1 } := by
    have := getD_set (l := m.machines) (i := k) (j := k) (x := { mc m k with broken := on == 1 }) (d := noMc) hk
    rw [if_pos rfl] at this
    exact this
  have e : ({ absL m with items := Kyk.placed (absL m).items (absM (mc m k)).load 0, machines := (absL m).machines.set k { Kyk.emptied (absM (mc m k)) with broken := on == 1 } } : Kyk.Laundry) = absL (emptyL (breakL m k (on == 1)) k false) := by
    have e1 : (emptyL (breakL m k (on == 1)) k false).things.map (absI (emptyL (breakL m k (on == 1)) k false)) = Kyk.placed (m.things.map (absI m)) (mc m k).things 0 := by
      rw [emptyL_mix, em]
      refine (mix_items (m := breakL m k (on == 1)) (keeps_at (-1) false) (mc_nodup I hk) fun i hi => ?_)
      obtain ⟨q1, q2, q3, q4⟩ := I.mc_ok k hk i hi
      refine ⟨q1, ?_⟩
      show placeOf (od m (th m i).order).stands _ = 0
      rw [q4]; rfl
    have e2 : (emptyL (breakL m k (on == 1)) k false).machines.map absM = (m.machines.map absM).set k { Kyk.emptied (absM (mc m k)) with broken := on == 1 } := by
      rw [emptyL_mix, em]
      show ((m.machines.set k _).set k _).map absM = _
      rw [List.set_set, machines_set]; rfl
    show _ = (⟨m.now, m.price, (emptyL (breakL m k (on == 1)) k false).machines.map absM, m.orders.map absO, (emptyL (breakL m k (on == 1)) k false).things.map (absI (emptyL (breakL m k (on == 1)) k false)), m.till⟩ : Kyk.Laundry)
    rw [e1, e2]; rfl
  rw [e] at key
  exact ⟨Good.yes key rfl, J.empty hk'⟩
/-! ### ticking -/
def readyL (m : La) (t n : Nat) : List Nat := ((m.machines.take n).filter fun c => readyB c t).flatMap Mc.things
theorem readyL_succ {t n : Nat} (h : n < m.machines.length) : readyL m t (n + 1) = readyL m t n ++ if readyB (mc m n) t = true then (mc m n).things else [] := by
  unfold readyL
  rw [List.take_succ, mc_some h]
  show ((m.machines.take n ++ [mc m n]).filter _).flatMap _ = _
  rw [List.filter_append, List.flatMap_append]
  congr 1
  rw [List.filter_cons]
  split <;> simp
theorem readyL_mem {t n i : Nat} (h : i ∈ readyL m t n) : ∃ k, k < n ∧ k < m.machines.length ∧ readyB (mc m k) t = true ∧ i ∈ (mc m k).things := by
  unfold readyL at h
  obtain ⟨c, hc, hi⟩ := List.mem_flatMap.mp h
  obtain ⟨h1, h2⟩ := List.mem_filter.mp hc
  obtain ⟨k, hk⟩ := List.getElem?_of_mem h1
  rw [List.getElem?_take] at hk
  split at hk
  · rename_i hlt
    have := mc_at hk
    subst this
    exact ⟨k, hlt, (List.getElem?_eq_some_iff.mp hk).1, h2, hi⟩
  · cases hk
structure TickAt (m : La) (t n : Nat) (s : La × Nat) : Prop where
  inv : Inv s.1
  now : s.1.now = t
  price : s.1.price = m.price
  orders : s.1.orders = m.orders
  till : s.1.till = m.till
  len : s.1.machines.length = m.machines.length
  ms : ∀ k, k < m.machines.length → mc s.1 k = if k < n ∧ readyB (mc m k) t = true then { mc m k with things := [] } else mc m k
  tl : s.1.things.length = m.things.length
  ts : ∀ i, i < m.things.length → th s.1 i = if i ∈ readyL m t n then { th m i with mach := -1, washed := true } else th m i
  cnt : s.2 = (readyL m t n).length
theorem tick_at (I : Inv m) (t : Nat) : ∀ n, n ≤ m.machines.length → TickAt m t n (tickS m t n)
  | 0, _ => ⟨⟨I.th_ok, I.od_ok, I.mc_ok, I.mc_pr, I.ths, I.ods, I.mcs, I.pr⟩, rfl, rfl, rfl, rfl, rfl, fun k _ => by rw [if_neg (by omega)]; rfl, rfl, fun i _ => by rw [if_neg (by simp [readyL])]; rfl, by simp [readyL]; rfl⟩
  | n + 1, h => by
    have T := tick_at I t n (by omega)
    have e : tickS m t (n + 1) = tick1 t (tickS m t n) n := by
      unfold tickS
      rw [List.range_succ, List.foldl_append]; rfl
    rw [e]
    generalize tickS m t n = s at T
    have hn : n < m.machines.length := by omega
    have em : mc s.1 n = mc m n := by rw [T.ms n hn, if_neg (by omega)]
    unfold tick1
    rw [em, ]
    by_cases hr : readyB (mc m n) t = true
    · rw [if_pos hr]
      have hns : n < s.1.machines.length := by rw [T.len]; exact hn
      have nd : (mc s.1 n).things.Nodup := mc_nodup T.inv hns
      refine ⟨T.inv.empty hns, T.now, T.price, T.orders, T.till, ?_, fun k hk => ?_, ?_, fun i hi => ?_, ?_⟩
      · show (s.1.machines.set n _).length = _
        rw [List.length_set]; exact T.len
      · show mc (emptyL s.1 n true) k = _
        rw [emptyL_mix, mc_set hns]
        by_cases c : k = n
        · subst c
          rw [if_pos rfl, if_pos ⟨by omega, hr⟩, em]
        · rw [if_neg c, T.ms k hk]
          by_cases c2 : k < n ∧ readyB (mc m k) t = true
          · rw [if_pos c2, if_pos ⟨by omega, c2.2⟩]
          · rw [if_neg c2, if_neg (fun q => c2 ⟨by omega, q.2⟩)]
      · show (emptyL s.1 n true).things.length = _
        rw [emptyL_mix, mix_len]; exact T.tl
      · show th (emptyL s.1 n true) i = _
        rw [emptyL_mix, th_mix nd (by rw [T.tl]; exact hi), readyL_succ hn, if_pos hr, em, T.ts i hi]
        by_cases c1 : i ∈ (mc m n).things
        · rw [if_pos c1, if_pos (List.mem_append_right _ c1)]
          split <;> rfl
        · rw [if_neg c1]
          by_cases c2 : i ∈ readyL m t n
          · rw [if_pos c2, if_pos (List.mem_append_left _ c2)]
          · rw [if_neg c2, if_neg (fun q => by rcases List.mem_append.mp q with q | q; exact c2 q; exact c1 q)]
      · show s.2 + (mc m n).things.length = _
        rw [readyL_succ hn, if_pos hr, List.length_append, T.cnt]
    · rw [if_neg hr]
      refine ⟨T.inv, T.now, T.price, T.orders, T.till, T.len, fun k hk => ?_, T.tl, fun i hi => ?_, ?_⟩
      · rw [T.ms k hk]
        by_cases c2 : k < n ∧ readyB (mc m k) t = true
        · rw [if_pos c2, if_pos ⟨by omega, c2.2⟩]
        · rw [if_neg c2, if_neg (fun q => by
            by_cases ck : k = n
            · subst ck; exact hr q.2
            · exact c2 ⟨by omega, q.2⟩)]
      · rw [readyL_succ hn, if_neg hr, List.append_nil]; exact T.ts i hi
      · rw [readyL_succ hn, if_neg hr, List.append_nil]; exact T.cnt
theorem ready_abs (t : Nat) (c : Mc) : Kyk.ready t (absM c) = readyB c t := rfl
theorem good_tick (I : Inv m) (t : Nat) : Good m (.tick t) (tickM m t) ∧ Inv (told m (tickM m t)).1 := by
  unfold tickM
  have key : Kyk.acts (some (absL m)) (.tick t) = some (if t < m.now ∨ 1000000 < t then (some (absL m), Kyk.say (-22)) else (some (Kyk.till (absL m) t), Kyk.say ((((m.machines.map absM).filter (Kyk.ready t)).flatMap fun m => m.load).length : Nat))) := rfl
  by_cases h : t < m.now ∨ 1000000 < t
  · rw [if_pos h] at key ⊢
    exact ⟨Good.no key, I⟩
  rw [if_neg h] at key ⊢
  have T := tick_at I t m.machines.length (Nat.le_refl _)
  have er : ((m.machines.map absM).filter (Kyk.ready t)).flatMap (fun m => m.load) = readyL m t m.machines.length := by
    unfold readyL
    rw [List.filter_map, List.flatMap_map, List.take_length]; rfl
  generalize tickS m t m.machines.length = s at T
  have e : Kyk.till (absL m) t = absL s.1 := by
    have e1 : s.1.machines.map absM = (m.machines.map absM).map fun m => if Kyk.ready t m = true then Kyk.emptied m else m := by
      refine List.ext_getElem? fun k => ?_
      rw [List.getElem?_map, List.getElem?_map, List.getElem?_map]
      by_cases hk : k < m.machines.length
      · rw [mc_some hk, mc_some (m := s.1) (by rw [T.len]; exact hk), T.ms k hk]
        show some (absM _) = some (if readyB (mc m k) t = true then _ else _)
        by_cases c : readyB (mc m k) t = true
        · rw [if_pos ⟨hk, c⟩, if_pos c]; rfl
        · rw [if_neg (fun q => c q.2), if_neg c]
      · rw [List.getElem?_eq_none (show s.1.machines.length ≤ k by rw [T.len]; omega), List.getElem?_eq_none (show m.machines.length ≤ k by omega)]; rfl
    have e2 : s.1.things.map (absI s.1) = Kyk.placed (m.things.map (absI m)) (readyL m t m.machines.length) 2 := by
      refine placed_eq T.tl fun i hi => ?_
      have eo : ∀ o, od s.1 o = od m o := fun o => by unfold od; rw [T.orders]
      rw [T.ts i hi]
      by_cases c : i ∈ readyL m t m.machines.length
      · rw [if_pos c, if_pos c]
        obtain ⟨k, _, hk, _, hm⟩ := readyL_mem c
        obtain ⟨_, _, _, q4⟩ := I.mc_ok k hk i hm
        unfold absI
        dsimp only
        rw [eo, q4]; rfl
      · rw [if_neg c, if_neg c]
        unfold absI
        rw [eo]
    unfold Kyk.till
    show (⟨t, m.price, (m.machines.map absM).map (fun m => if Kyk.ready t m = true then Kyk.emptied m else m), m.orders.map absO, Kyk.placed (m.things.map (absI m)) (((m.machines.map absM).filter (Kyk.ready t)).flatMap fun m => m.load) 2, m.till⟩ : Kyk.Laundry) = ⟨s.1.now, s.1.price, s.1.machines.map absM, s.1.orders.map absO, s.1.things.map (absI s.1), s.1.till⟩
    rw [e1, e2, er, T.now, T.price, T.orders, T.till]
  rw [e, er] at key
  exact ⟨Good.yes key (by rw [T.cnt]; rfl), T.inv⟩
/-! ### running -/
theorem loadI_sub (b j : Nat) : (loadI m b j).Sublist (chosenB m b) := by
  unfold loadI
  split
  · exact List.nil_sublist _
  · rename_i s _
    generalize chosenB m b = c
    generalize s.2 = a
    induction c generalizing a with
    | nil => simp
    | cons x c ih =>
      cases a with
      | nil => simp
      | cons y a =>
        rw [List.zip_cons_cons, List.filterMap_cons]
        by_cases e : y = j
        · simp only [e, if_true]
          exact (ih a).cons₂ x
        · simp only [e, if_false]
          exact (ih a).cons x
theorem loadI_abs (k j : Nat) : Kyk.loadOf (absL m) k j = loadI m (mc m k).bears j := by
  unfold Kyk.loadOf loadI
  rw [shares_abs, chosen_abs]; rfl
theorem loadI_pieces {b n : Nat} {a : List Nat} (h : planB m b = some (n, a)) (j : Nat) : (loadI m b j).map (fun i => pieceT (th m i)) = Kyk2.inLoad (piecesB m (chosenB m b)) a j := by
  unfold loadI
  rw [h]
  show (((chosenB m b).zip a).filterMap fun x => if x.2 = j then some x.1 else none).map _ = _
  unfold Kyk2.inLoad piecesB
  generalize chosenB m b = c
  clear h
  induction c generalizing a with
  | nil => simp
  | cons x c ih =>
    cases a with
    | nil => simp
    | cons y a =>
      rw [List.zip_cons_cons, List.filterMap_cons, List.map_cons, List.zip_cons_cons, List.filter_cons]
      by_cases e : y = j
      · simp only [e, if_true, beq_self_eq_true, List.map_cons, ih]
      · have e' : (y == j) = false := by simpa using e
        simp only [e, e', if_false]
        exact ih
/-- a load has its program -/
theorem loadI_prog {b j : Nat} (h : loadI m b j ≠ []) : ∃ p, Kyk1.program ((loadI m b j).map fun i => absX (th m i)) = some p ∧ mildP ((loadI m b j).map (th m)) = Kyk1.programNumbers p := by
  cases e : planB m b with
  | none =>
    exfalso
    apply h
    unfold loadI
    rw [e]
  | some s =>
    obtain ⟨n, a⟩ := s
    have hc : piecesB m (chosenB m b) ≠ [] := by
      intro q
      have : chosenB m b = [] := by simpa [piecesB] using q
      have h2 := loadI_sub (m := m) b j
      rw [this] at h2
      exact h (List.sublist_nil.mp h2)
    have hs := (best_spec hc e).2.2 j
    rw [← loadI_pieces e] at hs
    rcases hs with q | q
    · exact absurd (List.map_eq_nil_iff.mp q) h
    · have q' : loadB b ((loadI m b j).map (th m)) = true := by
        unfold loadB
        rw [List.map_map]; exact q
      rw [loadB_eq] at q'
      have q2 := (Bool.and_eq_true_iff.mp q').1
      unfold togetherB Kyk1.together at q2
      rw [List.map_map] at q2
      have q3 := (Bool.and_eq_true_iff.mp q2).2
      obtain ⟨p, hp⟩ := Option.isSome_iff_exists.mp q3
      refine ⟨p, hp, ?_⟩
      unfold mildP
      rw [List.map_map, hp]
theorem good_run (I : Inv m) (k j : Nat) : Good m (.run k j) (runM m k j) ∧ Inv (told m (runM m k j)).1 := by
  unfold runM
  have key : Kyk.acts (some (absL m)) (.run k j) = some (if (absL m).machines.length ≤ k then (some (absL m), Kyk.say (-2)) else if (Kyk.machine (absL m) k).broken = true then (some (absL m), Kyk.say (-4)) else if Kyk.runs (Kyk.machine (absL m) k) = true then (some (absL m), Kyk.say (-16)) else if (Kyk.chosen (absL m) k).isEmpty = true then (some (absL m), Kyk.say (-6)) else
      match Kyk.loadOf (absL m) k j, Kyk1.program ((Kyk.loadOf (absL m) k j).map fun i => (Kyk.item (absL m) i).x) with
      | [], _ => (some (absL m), Kyk.say (-22))
      | _, none => (some (absL m), Kyk.say (-22))
      | i :: l, some p => (some { absL m with items := Kyk.placed (absL m).items (i :: l) 1, machines := (absL m).machines.set k ⟨(Kyk.machine (absL m) k).bears, false, i :: l, (absL m).now + Kyk.minutes p, p⟩ }, ⟨(Kyk.minutes p : Nat), Kyk1.programNumbers p⟩)) := rfl
  rw [machines_abs, machine_abs, chosen_abs, loadI_abs] at key
  by_cases h : m.machines.length ≤ k
  · rw [if_pos h] at key ⊢
    exact ⟨Good.no key, I⟩
  rw [if_neg h] at key ⊢
  by_cases h2 : (mc m k).broken = true
  · rw [if_pos h2]
    rw [if_pos (show (absM (mc m k)).broken = true from h2)] at key
    exact ⟨Good.no key, I⟩
  rw [if_neg h2]
  rw [if_neg (show ¬ (absM (mc m k)).broken = true from h2)] at key
  by_cases h3 : (mc m k).things ≠ []
  · rw [if_pos h3]
    rw [if_pos (show Kyk.runs (absM (mc m k)) = true by rw [runs_abs]; simpa using h3)] at key
    exact ⟨Good.no key, I⟩
  rw [if_neg h3]
  rw [if_neg (show ¬ Kyk.runs (absM (mc m k)) = true by rw [runs_abs]; simpa using h3)] at key
  by_cases h4 : chosenB m (mc m k).bears = []
  · rw [if_pos h4]
    rw [if_pos (by rw [h4]; rfl)] at key
    exact ⟨Good.no key, I⟩
  rw [if_neg h4]
  rw [if_neg (by simpa using h4)] at key
  have hm : ∀ i ∈ loadI m (mc m k).bears j, i < m.things.length ∧ waitsB m i = true := fun i hi => by
    have := chosenB_mem ((loadI_sub _ _).mem hi)
    exact ⟨this.1, this.2.1⟩
  have ei : (loadI m (mc m k).bears j).map (fun i => (Kyk.item (absL m) i).x) = (loadI m (mc m k).bears j).map fun i => absX (th m i) :=
    List.map_congr_left fun i hi => by rw [item_abs (hm i hi).1]; rfl
  rw [ei] at key
  by_cases h5 : loadI m (mc m k).bears j = []
  · rw [if_pos h5]
    rw [h5] at key
    exact ⟨Good.no key, I⟩
  rw [if_neg h5]
  obtain ⟨p, hp, em⟩ := loadI_prog h5
  have nd : (loadI m (mc m k).bears j).Nodup := List.Nodup.sublist (loadI_sub _ _) (chosenB_nodup m _)
  have hl8 : (loadI m (mc m k).bears j).length ≤ 8 := Nat.le_trans (loadI_sub _ _).length_le (chosenB_length m _)
  rw [hp] at key
  have hk : k < m.machines.length := by omega
  have key2 : Kyk.acts (some (absL m)) (.run k j) = some (some { absL m with items := Kyk.placed (absL m).items (loadI m (mc m k).bears j) 1, machines := (absL m).machines.set k ⟨(mc m k).bears, false, loadI m (mc m k).bears j, m.now + Kyk.minutes p, p⟩ }, ⟨(Kyk.minutes p : Nat), Kyk1.programNumbers p⟩) := by
    cases q : loadI m (mc m k).bears j with
    | nil => exact absurd q h5
    | cons i l => rw [q] at key; exact key
  generalize loadI m (mc m k).bears j = L at *
  have emin : minP (mildP (L.map (th m))) = Kyk.minutes p := by rw [em]; rfl
  have er : runL m k L = mixL m (fun t => { t with mach := (k : Int) }) L (m.machines.set k { mc m k with things := L, prog := Kyk1.programNumbers p, till := m.now + Kyk.minutes p }) := by
    unfold runL
    rw [emin, em]; rfl
  have wb : ∀ i ∈ L, (od m (th m i).order).stands = 1 ∧ (th m i).washed = false ∧ (th m i).mach < 0 := fun i hi => by
    have := (hm i hi).2
    unfold waitsB at this
    simp only [Bool.and_eq_true, beq_iff_eq, Bool.not_eq_true', decide_eq_true_eq] at this
    exact ⟨this.1, this.2.1, this.2.2⟩
  have e : ({ absL m with items := Kyk.placed (absL m).items L 1, machines := (absL m).machines.set k ⟨(mc m k).bears, false, L, m.now + Kyk.minutes p, p⟩ } : Kyk.Laundry) = absL (runL m k L) := by
    have e1 : (runL m k L).things.map (absI (runL m k L)) = Kyk.placed (m.things.map (absI m)) L 1 := by
      rw [er]
      refine mix_items (keeps_mach k) nd fun i hi => ⟨(hm i hi).1, ?_⟩
      obtain ⟨q1, q2, _⟩ := wb i hi
      rw [q1]
      unfold placeOf
      dsimp only
      rw [q2]
      have : (0 : Int) ≤ (k : Int) := by omega
      simp [this]
    have e2 : (runL m k L).machines.map absM = (m.machines.map absM).set k ⟨(mc m k).bears, false, L, m.now + Kyk.minutes p, p⟩ := by
      rw [er]
      show (m.machines.set k _).map absM = _
      rw [machines_set]
      congr 1
      have hb : (mc m k).broken = false := by simpa using h2
      unfold absM
      dsimp only
      rw [hb]; rfl
    show _ = (⟨m.now, m.price, (runL m k L).machines.map absM, m.orders.map absO, (runL m k L).things.map (absI (runL m k L)), m.till⟩ : Kyk.Laundry)
    rw [e1, e2]; rfl
  rw [e] at key2
  refine ⟨Good.yes key2 (by rw [emin, em]; rfl), ?_⟩
  show Inv (runL m k L)
  rw [er]
  refine I.mix (keeps_mach k) nd List.length_set (fun k' hk' i hi => ?_) fun c hc => ?_
  · rw [mc_set hk] at hi
    rw [List.length_set] at hk'
    by_cases c : k' = k
    · rw [if_pos c] at hi
      have hi' : i ∈ L := hi
      obtain ⟨q1, q2, _⟩ := wb i hi'
      rw [th_mix nd (hm i hi').1, if_pos hi', c]
      exact ⟨(hm i hi').1, rfl, q2, q1⟩
    · rw [if_neg c] at hi
      obtain ⟨q1, q2, q3, q4⟩ := I.mc_ok k' hk' i hi
      have hni : i ∉ L := fun q => by
        have := (wb i q).2.2
        omega
      rw [th_mix nd q1, if_neg hni]
      exact ⟨q1, q2, q3, q4⟩
  · rcases List.mem_or_eq_of_mem_set hc with q | q
    · exact I.mc_pr c q
    · subst q; exact ⟨.inr ⟨_, _, _, _, rfl⟩, hl8, nd⟩
end
end Wl
end
section
set_option Elab.async false
set_option linter.all false
/-! # Washloads: a list of calls -/
namespace Wl
open Kyk1 (Label Thing)
/-! ### start -/
def startL (p : Nat) (b : List Nat) : La := ⟨p, b.map fun x => ⟨x, false, [], [], 0⟩, [], [], 0, 0⟩
def StartOk (p : Nat) (b : List Nat) : Prop := p ≤ 1000 ∧ 1 ≤ b.length ∧ b.length ≤ 4 ∧ ∀ x ∈ b, 1000 ≤ x ∧ x ≤ 20000
instance (p : Nat) (b : List Nat) : Decidable (StartOk p b) := by unfold StartOk; infer_instance
theorem okStart_iff (p : Nat) (b : List Nat) : Kyk.okStart p b = true ↔ StartOk p b := by
  unfold Kyk.okStart StartOk
  simp [and_assoc]
theorem inv_start {p : Nat} {b : List Nat} (h : StartOk p b) : Inv (startL p b) where
  th_ok := fun t ht => by cases ht
  od_ok := fun o ho => absurd ho (by simp [startL])
  mc_ok := fun k hk i hi => by
    have hk' : k < (b.map fun x => (⟨x, false, [], [], 0⟩ : Mc)).length := hk
    rw [List.length_map] at hk'
    have e : mc (startL p b) k = ⟨b[k], false, [], [], 0⟩ := mc_at (by show (b.map _)[k]? = _; rw [List.getElem?_map, List.getElem?_eq_getElem hk']; rfl)
    rw [e] at hi
    cases hi
  mc_pr := fun c hc => by
    obtain ⟨x, _, rfl⟩ := List.mem_map.mp hc
    exact ⟨.inl rfl, by simp, by simp⟩
  ths := by simp [startL]
  ods := by simp [startL]
  mcs := by show (b.map _).length ≤ 4; rw [List.length_map]; exact h.2.2.1
  pr := h.1
theorem abs_start (p : Nat) (b : List Nat) : absL (startL p b) = ⟨0, p, b.map fun x => ⟨x, false, [], 0, Kyk.mild⟩, [], [], 0⟩ := by
  show (⟨0, p, (b.map _).map absM, [], [], 0⟩ : Kyk.Laundry) = _
  rw [List.map_map]; rfl
theorem acts_start (s : Option Kyk.Laundry) (p : Nat) (b : List Nat) : Kyk.acts s (.start p b) = some (if StartOk p b then (some (absL (startL p b)), Kyk.say 0) else (s, Kyk.say (-22))) := by
  show some (if Kyk.okStart p b = false then (s, Kyk.say (-22)) else (some _, Kyk.say 0)) = _
  rw [abs_start]
  by_cases h : StartOk p b
  · rw [if_pos h, (okStart_iff p b).mpr h, if_neg (by simp)]
  · have : Kyk.okStart p b = false := by
      cases q : Kyk.okStart p b with
      | false => rfl
      | true => exact absurd ((okStart_iff p b).mp q) h
    rw [if_neg h, this, if_pos rfl]
/-! ### a call: its place, its numbers, its row -/
structure Cl where
  s : Nat
  ns : List Nat
  r : List Nat
def numA : List Nat := [1, 1, 5, 1, 1, 2, 1, 2, 1, 1, 1, 1, 1, 1, 1, 0, 0, 1, 1, 1, 0, 0, 0, 0]
def hasR (s : Nat) : Prop := s = 0 ∨ s = 2 ∨ s = 15
instance (s : Nat) : Decidable (hasR s) := by unfold hasR; infer_instance
structure ClOk (c : Cl) : Prop where
  s : c.s ≤ 23
  ns : c.ns.length = numA.getD c.s 0
  r : ¬ hasR c.s → c.r = []
  rl : c.r.length ≤ 200
  rb : c.s ≠ 0 → ∀ x ∈ c.r, x ≤ 255
def rowsOf (c : Cl) : List (List Int) := ((c.s : Int) :: inz c.ns) :: if hasR c.s then [inz c.r] else []
def flat (c : Cl) : List Int := (c.s : Int) :: (inz c.ns ++ if hasR c.s then (c.r.length : Int) :: inz c.r else [])
theorem flat_put1 (c : Cl) : PyFlat.put1 (rowsOf c) = flat c := by
  unfold rowsOf flat
  split
  · show ((c.s : Int) :: inz c.ns) ++ ((((inz c.r).length : Nat) : Int) :: inz c.r ++ []) = _
    rw [List.length_map, List.append_nil]; rfl
  · rfl
/-- what a call but start asks -/
def callK (c : Cl) : Option Kyk.Call := match c.s, c.ns with
  | 1, [d] => some (.order d)
  | 2, [o, n, cc, r, w] => some (.add o c.r n cc r w)
  | 3, [o] => some (.close o)
  | 4, [k] => some (.plan k)
  | 5, [k, j] => some (.run k j)
  | 6, [t] => some (.tick t)
  | 7, [k, o] => some (.broken k o)
  | 8, [o] => some (.pack o)
  | 9, [o] => some (.hand o)
  | 10, [o] => some (.cancel o)
  | 11, [o] => some (.bill o)
  | 12, [i] => some (.where_ i)
  | 13, [i] => some (.label i)
  | 14, [i] => some (.thing i)
  | 15, [] => some (.apart c.r)
  | 16, [] => some .waiting
  | 17, [k] => some (.machine k)
  | 18, [k] => some (.inside k)
  | 19, [o] => some (.state o)
  | 20, [] => some .late
  | 21, [] => some .next
  | 22, [] => some .till
  | 23, [] => some .all
  | _, _ => none
def askM (m : La) (c : Cl) : Out := match c.s, c.ns with
  | 1, [d] => orderM m d
  | 2, [o, n, cc, r, w] => addM m o n cc r w c.r
  | 3, [o] => closeM m o
  | 4, [k] => planM m k
  | 5, [k, j] => runM m k j
  | 6, [t] => tickM m t
  | 7, [k, o] => brokenM m k o
  | 8, [o] => packM m o
  | 9, [o] => handM m o
  | 10, [o] => cancelM m o
  | 11, [o] => billM m o
  | 12, [i] => whereM m i
  | 13, [i] => labelM m i
  | 14, [i] => thingM m i
  | 15, [] => apartM m c.r
  | 16, [] => waitingM m
  | 17, [k] => machineM m k
  | 18, [k] => insideM m k
  | 19, [o] => stateM m o
  | 20, [] => lateM m
  | 21, [] => nextM m
  | 22, [] => tillM m
  | _, _ => allM m
/-- all of the answers that leave the laundry as it is -/
theorem inv_same {m : La} (I : Inv m) {r : Out} (h : ∀ m' out, r = .yes m' out → m' = m) : Inv (told m r).1 := by
  cases r with
  | no n => exact I
  | yes m' out => rw [show (told m (.yes m' out)).1 = m' from rfl, h m' out rfl]; exact I
theorem ask_good {m : La} (I : Inv m) {c : Cl} {k : Kyk.Call} (h : callK c = some k) : Good m k (askM m c) ∧ Inv (told m (askM m c)).1 := by
  unfold callK at h
  unfold askM
  have q : ∀ {r : Out} {k : Kyk.Call}, Good m k r → (∀ m' out, r = .yes m' out → m' = m) → Good m k r ∧ Inv (told m r).1 := fun g e => ⟨g, inv_same I e⟩
  split at h <;> first | cases h | skip
  · simp only [*]; exact good_order I _
  · simp only [*]; exact good_add I _ _ _ _ _ _
  · simp only [*]; exact good_close I _
  · simp only [*]; exact q (good_plan _) fun m' out e => by
      unfold planM at e
      split at e
      · cases e
      · split at e
        · cases e
        · split at e <;> cases e; rfl
  · simp only [*]; exact good_run I _ _
  · simp only [*]; exact good_tick I _
  · simp only [*]; exact good_broken I _ _
  · simp only [*]; exact good_pack I _
  · simp only [*]; exact good_hand I _
  · simp only [*]; exact good_cancel I _
  · simp only [*]; exact q (good_bill I _) fun m' out e => by unfold billM at e; split at e <;> cases e; rfl
  · simp only [*]; exact q (good_where _) fun m' out e => by unfold whereM at e; split at e <;> cases e; rfl
  · simp only [*]; exact q (good_label I _) fun m' out e => by unfold labelM at e; split at e <;> cases e; rfl
  · simp only [*]; exact q (good_thing I _) fun m' out e => by unfold thingM at e; split at e <;> cases e; rfl
  · simp only [*]; exact q (good_apart _) fun m' out e => by
      unfold apartM at e
      split at e
      · cases e
      · split at e <;> cases e; rfl
  · simp only [*]; exact q good_waiting fun m' out e => by cases e; rfl
  · simp only [*]; exact q (good_machine I _) fun m' out e => by
      unfold machineM at e
      split at e
      · cases e
      · split at e
        · cases e; rfl
        · split at e <;> cases e <;> rfl
  · simp only [*]; exact q (good_inside _) fun m' out e => by unfold insideM at e; split at e <;> cases e; rfl
  · simp only [*]; exact q (good_state I _) fun m' out e => by unfold stateM at e; split at e <;> cases e; rfl
  · simp only [*]; exact q good_late fun m' out e => by cases e; rfl
  · simp only [*]; exact q good_next fun m' out e => by unfold nextM at e; split at e <;> cases e; rfl
  · simp only [*]; exact q good_till fun m' out e => by cases e; rfl
  · simp only [*]; exact q good_all fun m' out e => by cases e; rfl
/-! ### a line -/
def stepD (s : Option La) (c : Cl) : Option La × List Int := if c.s = 0 then (if StartOk (c.ns.getD 0 0) c.r then (some (startL (c.ns.getD 0 0) c.r), [0]) else (s, [-22])) else match s with
  | none => (none, [])
  | some m => (some (told m (askM m c)).1, (told m (askM m c)).2)
def outD : Option La → List Cl → List Int
  | _, [] => []
  | s, c :: r => ((stepD s c).2.length : Int) :: (stepD s c).2 ++ outD (stepD s c).1 r
def mayD : Option La → List Cl → Prop
  | _, [] => True
  | s, c :: r => (c.s ≠ 0 → s ≠ none) ∧ mayD (stepD s c).1 r
end Wl
end
section
set_option Elab.async false
set_option linter.all false
/-! # Washloads: what is handed in, and what is due, by calls -/
namespace Wl
open KykNeutral (natural row asked1 callOf natsOf)
def toCl (c : List (List Int)) : Cl := match c with
  | (p :: a) :: [r] => ⟨p.toNat, natsOf a, natsOf r⟩
  | (p :: a) :: _ => ⟨p.toNat, natsOf a, []⟩
  | _ => ⟨0, [], []⟩
theorem nat_of {z : Int} {b : Nat} (h : natural z b = true) : ((z.toNat : Nat) : Int) = z ∧ z.toNat < 2 ^ b := by
  unfold natural at h
  simp only [Bool.and_eq_true, decide_eq_true_eq] at h
  have h2 : z < ((2 ^ b : Nat) : Int) := by
    have := h.2
    have e : ((2 ^ b : Nat) : Int) = (2 : Int) ^ b := by simp
    rw [e]; exact this
  omega
theorem row_of {l : List Int} {b n : Nat} (h : row l b n = true) : inz (natsOf l) = l ∧ (natsOf l).length ≤ n ∧ ∀ x ∈ natsOf l, x < 2 ^ b := by
  unfold row at h
  simp only [Bool.and_eq_true, List.all_eq_true, decide_eq_true_eq] at h
  refine ⟨?_, by unfold natsOf; rw [List.length_map]; exact h.2, fun x hx => ?_⟩
  · unfold inz natsOf
    rw [List.map_map]
    conv => rhs; rw [← List.map_id l]
    exact List.map_congr_left fun z hz => (nat_of (h.1 z hz)).1
  · obtain ⟨z, hz, rfl⟩ := List.mem_map.mp hx
    exact (nat_of (h.1 z hz)).2
structure Read (c : List (List Int)) : Prop where
  rows : rowsOf (toCl c) = c
  ok : ClOk (toCl c)
  call : callOf c = if (toCl c).s = 0 then some (.start ((toCl c).ns.getD 0 0) (toCl c).r) else callK (toCl c)
  some : (toCl c).s ≠ 0 → (callK (toCl c)).isSome = true
theorem read1 {p a : Int} {k : Kyk.Call} (hp : p = p.toNat) (h : natural a 32 = true) (s : p.toNat ≤ 23) (hr : ¬ hasR p.toNat) (h0 : p.toNat ≠ 0) (hn : numA.getD p.toNat 0 = 1) (hc : callOf [[p, a]] = some k) (hk : callK ⟨p.toNat, [a.toNat], []⟩ = some k) : Read [[p, a]] := by
  have e : toCl [[p, a]] = ⟨p.toNat, [a.toNat], []⟩ := rfl
  refine ⟨?_, ?_, ?_, ?_⟩
  · rw [e]; unfold rowsOf; rw [if_neg hr]
    show [[((p.toNat : Nat) : Int), ((a.toNat : Nat) : Int)]] = _
    rw [(nat_of h).1, ← hp]
  · rw [e]; exact ⟨s, by rw [hn]; rfl, fun _ => rfl, by simp, fun _ x hx => by cases hx⟩
  · rw [e, if_neg h0, hc, hk]
  · rw [e, hk]; exact fun _ => rfl
theorem read2 {p a b : Int} {k : Kyk.Call} (hp : p = p.toNat) (h : natural a 32 = true) (h' : natural b 32 = true) (s : p.toNat ≤ 23) (hr : ¬ hasR p.toNat) (h0 : p.toNat ≠ 0) (hn : numA.getD p.toNat 0 = 2) (hc : callOf [[p, a, b]] = some k) (hk : callK ⟨p.toNat, [a.toNat, b.toNat], []⟩ = some k) : Read [[p, a, b]] := by
  have e : toCl [[p, a, b]] = ⟨p.toNat, [a.toNat, b.toNat], []⟩ := rfl
  refine ⟨?_, ?_, ?_, ?_⟩
  · rw [e]; unfold rowsOf; rw [if_neg hr]
    show [[((p.toNat : Nat) : Int), ((a.toNat : Nat) : Int), ((b.toNat : Nat) : Int)]] = _
    rw [(nat_of h).1, (nat_of h').1, ← hp]
  · rw [e]; exact ⟨s, by rw [hn]; rfl, fun _ => rfl, by simp, fun _ x hx => by cases hx⟩
  · rw [e, if_neg h0, hc, hk]
  · rw [e, hk]; exact fun _ => rfl
theorem read0 {p : Int} {k : Kyk.Call} (hp : p = p.toNat) (s : p.toNat ≤ 23) (hr : ¬ hasR p.toNat) (h0 : p.toNat ≠ 0) (hn : numA.getD p.toNat 0 = 0) (hc : callOf [[p]] = some k) (hk : callK ⟨p.toNat, [], []⟩ = some k) : Read [[p]] := by
  have e : toCl [[p]] = ⟨p.toNat, [], []⟩ := rfl
  refine ⟨?_, ?_, ?_, ?_⟩
  · rw [e]; unfold rowsOf; rw [if_neg hr]
    show [[((p.toNat : Nat) : Int)]] = _
    rw [← hp]
  · rw [e]; exact ⟨s, by rw [hn]; rfl, fun _ => rfl, by simp, fun _ x hx => by cases hx⟩
  · rw [e, if_neg h0, hc, hk]
  · rw [e, hk]; exact fun _ => rfl
theorem read_all {c : List (List Int)} (h : asked1 c = true) : Read c := by
  unfold asked1 at h
  split at h
  · rename_i b a
    obtain ⟨h1, h2⟩ := Bool.and_eq_true_iff.mp h
    obtain ⟨r1, r2, r3⟩ := row_of h2
    have e : toCl [[0, b], a] = ⟨0, [b.toNat], natsOf a⟩ := rfl
    refine ⟨?_, ?_, ?_, ?_⟩
    · rw [e]
      show [[((0 : Nat) : Int), ((b.toNat : Nat) : Int)], inz (natsOf a)] = _
      rw [(nat_of h1).1, r1]; rfl
    · rw [e]; exact ⟨by simp, rfl, fun q => absurd (.inl rfl) q, by dsimp only; omega, fun q => absurd rfl q⟩
    · rfl
    · rw [e]; exact fun q => absurd rfl q
  · rename_i a; exact read1 rfl h (by decide) (by decide) (by decide) rfl rfl rfl
  · rename_i a b c d e' t
    simp only [Bool.and_eq_true] at h
    obtain ⟨h1, h2, h3, h4, h5, h6⟩ := h
    obtain ⟨r1, r2, r3⟩ := row_of h6
    have e : toCl [[2, a, b, c, d, e'], t] = ⟨2, [a.toNat, b.toNat, c.toNat, d.toNat, e'.toNat], natsOf t⟩ := rfl
    refine ⟨?_, ?_, ?_, ?_⟩
    · rw [e]
      show [[((2 : Nat) : Int), ((a.toNat : Nat) : Int), ((b.toNat : Nat) : Int), ((c.toNat : Nat) : Int), ((d.toNat : Nat) : Int), ((e'.toNat : Nat) : Int)], inz (natsOf t)] = _
      rw [(nat_of h1).1, (nat_of h2).1, (nat_of h3).1, (nat_of h4).1, (nat_of h5).1, r1]; rfl
    · rw [e]; exact ⟨by simp, rfl, fun q => absurd (.inr (.inl rfl)) q, r2, fun _ x hx => by have := r3 x hx; omega⟩
    · rfl
    · rw [e]; exact fun _ => rfl
  · rename_i a; exact read1 rfl h (by decide) (by decide) (by decide) rfl rfl rfl
  · rename_i a; exact read1 rfl h (by decide) (by decide) (by decide) rfl rfl rfl
  · rename_i a b; exact read2 rfl (Bool.and_eq_true_iff.mp h).1 (Bool.and_eq_true_iff.mp h).2 (by decide) (by decide) (by decide) rfl rfl rfl
  · rename_i a; exact read1 rfl h (by decide) (by decide) (by decide) rfl rfl rfl
  · rename_i a b; exact read2 rfl (Bool.and_eq_true_iff.mp h).1 (Bool.and_eq_true_iff.mp h).2 (by decide) (by decide) (by decide) rfl rfl rfl
  · rename_i a; exact read1 rfl h (by decide) (by decide) (by decide) rfl rfl rfl
  · rename_i a; exact read1 rfl h (by decide) (by decide) (by decide) rfl rfl rfl
  · rename_i a; exact read1 rfl h (by decide) (by decide) (by decide) rfl rfl rfl
  · rename_i a; exact read1 rfl h (by decide) (by decide) (by decide) rfl rfl rfl
  · rename_i a; exact read1 rfl h (by decide) (by decide) (by decide) rfl rfl rfl
  · rename_i a; exact read1 rfl h (by decide) (by decide) (by decide) rfl rfl rfl
  · rename_i a; exact read1 rfl h (by decide) (by decide) (by decide) rfl rfl rfl
  · rename_i a
    obtain ⟨r1, r2, r3⟩ := row_of h
    have e : toCl [[15], a] = ⟨15, [], natsOf a⟩ := rfl
    refine ⟨?_, ?_, ?_, ?_⟩
    · rw [e]
      show [[((15 : Nat) : Int)], inz (natsOf a)] = _
      rw [r1]; rfl
    · rw [e]; exact ⟨by simp, rfl, fun q => absurd (.inr (.inr rfl)) q, by dsimp only; omega, fun _ x hx => by have := r3 x hx; omega⟩
    · rfl
    · rw [e]; exact fun _ => rfl
  · exact read0 rfl (by decide) (by decide) (by decide) rfl rfl rfl
  · rename_i a; exact read1 rfl h (by decide) (by decide) (by decide) rfl rfl rfl
  · rename_i a; exact read1 rfl h (by decide) (by decide) (by decide) rfl rfl rfl
  · rename_i a; exact read1 rfl h (by decide) (by decide) (by decide) rfl rfl rfl
  · exact read0 rfl (by decide) (by decide) (by decide) rfl rfl rfl
  · exact read0 rfl (by decide) (by decide) (by decide) rfl rfl rfl
  · exact read0 rfl (by decide) (by decide) (by decide) rfl rfl rfl
  · exact read0 rfl (by decide) (by decide) (by decide) rfl rfl rfl
  · cases h
def InvO : Option La → Prop
  | none => True
  | some m => Inv m
theorem step_abs {s : Option La} (I : InvO s) {c : List (List Int)} (R : Read c) (h : (toCl c).s ≠ 0 → s ≠ none) :
    KykNeutral.step (s.map absL) c = ((stepD s (toCl c)).1.map absL, (stepD s (toCl c)).2) ∧ InvO (stepD s (toCl c)).1 := by
  unfold KykNeutral.step stepD
  rw [R.call]
  by_cases h0 : (toCl c).s = 0
  · rw [if_pos h0, if_pos h0]
    show (match Kyk.acts (s.map absL) (.start ((toCl c).ns.getD 0 0) (toCl c).r) with | none => (s.map absL, []) | some (t, a) => (t, a.value :: KykNeutral.ints a.out)) = _ ∧ _
    rw [acts_start]
    by_cases hs : StartOk ((toCl c).ns.getD 0 0) (toCl c).r
    · rw [if_pos hs, if_pos hs]; exact ⟨rfl, inv_start hs⟩
    · rw [if_neg hs, if_neg hs]; exact ⟨rfl, I⟩
  · rw [if_neg h0, if_neg h0]
    cases s with
    | none => exact absurd rfl (h h0)
    | some m =>
      obtain ⟨k, hk⟩ := Option.isSome_iff_exists.mp (R.some h0)
      obtain ⟨⟨ans, g1, g2⟩, J⟩ := ask_good (m := m) I hk
      rw [hk]
      show (match Kyk.acts (some (absL m)) k with | none => (some (absL m), []) | some (t, a) => (t, a.value :: KykNeutral.ints a.out)) = _ ∧ _
      rw [g1]
      exact ⟨Prod.ext rfl g2, J⟩
theorem step_none {c : List (List Int)} (R : Read c) (h : (toCl c).s ≠ 0) : KykNeutral.step none c = (none, []) := by
  unfold KykNeutral.step
  rw [R.call, if_neg h]
  obtain ⟨k, hk⟩ := Option.isSome_iff_exists.mp (R.some h)
  rw [hk]
  have : Kyk.acts none k = none := by
    unfold callK at hk
    split at hk <;> first | cases hk | skip
    all_goals rfl
  show (match Kyk.acts none k with | none => ((none : KykNeutral.S), ([] : List Int)) | some (t, a) => (t, a.value :: KykNeutral.ints a.out)) = _
  rw [this]
theorem line_abs : ∀ (cs : List (List (List Int))) (s : Option La), InvO s → (∀ c ∈ cs, Read c) → KykNeutral.may (s.map absL) cs = true →
    mayD s (cs.map toCl) ∧ PyFlat.told (PyFlat.played KykNeutral.step (s.map absL) cs) = outD s (cs.map toCl)
  | [], s, _, _, _ => ⟨trivial, rfl⟩
  | c :: cs, s, I, hr, hm => by
    have R := hr c List.mem_cons_self
    have hm' : (!((KykNeutral.step (s.map absL) c).2.isEmpty) && KykNeutral.may (KykNeutral.step (s.map absL) c).1 cs) = true := hm
    obtain ⟨m1, m2⟩ := Bool.and_eq_true_iff.mp hm'
    have hs : (toCl c).s ≠ 0 → s ≠ none := fun h0 e => by
      subst e
      rw [show (Option.map absL none) = none from rfl, step_none R h0] at m1
      cases m1
    obtain ⟨e, J⟩ := step_abs I R hs
    rw [e] at m2
    obtain ⟨q1, q2⟩ := line_abs cs _ J (fun d hd => hr d (List.mem_cons_of_mem _ hd)) m2
    refine ⟨⟨hs, q1⟩, ?_⟩
    show (((KykNeutral.step (s.map absL) c).2.length : Int) :: (KykNeutral.step (s.map absL) c).2) ++ PyFlat.told (PyFlat.played KykNeutral.step (KykNeutral.step (s.map absL) c).1 cs) = _
    rw [e, q2]; rfl
theorem whole_id (c : List (List Int)) : PyKyk.whole c = c := by
  unfold PyKyk.whole
  split <;> rfl
theorem map_whole (cs : List (List (List Int))) : cs.map PyKyk.whole = cs := by
  rw [show PyKyk.whole = id from funext whole_id, List.map_id]
theorem put_flat : ∀ raw : List (List (List Int)), (∀ c ∈ raw, Read c) → PyFlat.put raw = (raw.map toCl).flatMap flat
  | [], _ => rfl
  | c :: r, h => by
    show PyFlat.put1 c ++ PyFlat.put r = _
    rw [put_flat r fun d hd => h d (List.mem_cons_of_mem _ hd), List.map_cons, List.flatMap_cons, ← flat_put1, (h c List.mem_cons_self).rows]
/-- what is handed in is a line of calls, and what is due is told call by call -/
theorem line_of {l : List Int} (h : PyKyk.answers_asked l = true) : ∃ cs : List Cl, (∀ c ∈ cs, ClOk c) ∧ l = cs.flatMap flat ∧ mayD none cs ∧ PyKyk.answers l = outD none cs ∧ (outD none cs).length ≤ 10000000 ∧ cs.length ≤ 500 := by
  unfold PyKyk.answers_asked at h
  cases e : PyFlat.calls PyKyk.shape l.length l with
  | none => rw [e] at h; cases h
  | some raw =>
    rw [e] at h
    have h' : (!raw.isEmpty && PyFlat.atMost 500 raw && PyInside.calls PyKyk.bound raw && KykNeutral.asked (raw.map PyKyk.whole) && PyFlat.short 10000000 (PyKyk.answers l)) = true := h
    simp only [Bool.and_eq_true] at h'
    obtain ⟨⟨⟨⟨_, h2⟩, _⟩, h4⟩, h5⟩ := h'
    rw [map_whole] at h4
    unfold KykNeutral.asked at h4
    simp only [Bool.and_eq_true, List.all_eq_true, decide_eq_true_eq] at h4
    obtain ⟨⟨⟨_, _⟩, h6⟩, h7⟩ := h4
    obtain ⟨p1, _⟩ := PyFlat.put_calls _ _ _ e
    have hr : ∀ c ∈ raw, Read c := fun c hc => read_all (h6 c hc)
    obtain ⟨q1, q2⟩ := line_abs raw none trivial hr h7
    have ea : PyKyk.answers l = outD none (raw.map toCl) := by
      unfold PyKyk.answers PyKyk.calls
      rw [e]
      show PyFlat.told (PyFlat.played KykNeutral.step KykNeutral.start (raw.map PyKyk.whole)) = _
      rw [map_whole]; exact q2
    refine ⟨raw.map toCl, fun c hc => ?_, ?_, q1, ea, ?_, ?_⟩
    · obtain ⟨d, hd, rfl⟩ := List.mem_map.mp hc
      exact (hr d hd).ok
    · rw [p1, put_flat raw hr]
    · rw [← ea]
      exact of_decide_eq_true h5
    · rw [List.length_map]
      exact of_decide_eq_true h2
end Wl
end
section
set_option Elab.async false
set_option linter.all false
set_option maxRecDepth 100000
set_option maxHeartbeats 2000000
/-! # The text's parts by name; what the head tells of them -/
namespace Wt
open PySem PySem.Spec PyProof.Rows L2
def topS (i : Nat) : Stmt := PySem.Challenge.pw_washloads_s01_answers.main.body.getD i (.Pass ⟨0, 0, 0, 0⟩)
abbrev sLabelI : Stmt := inClass (topS 6) 0
abbrev sThingI : Stmt := inClass (topS 11) 0
abbrev sMachineI : Stmt := inClass (topS 28) 0
abbrev sOrderI : Stmt := inClass (topS 29) 0
abbrev sLaundryI : Stmt := inClass (topS 30) 0
abbrev sRefusedI : Stmt := inClass (topS 51) 0
abbrev sDeskI : Stmt := inClass (topS 53) 0
abbrev s_digit_of : Stmt := topS 7
abbrev s_heat_of : Stmt := topS 8
abbrev s_ends_of : Stmt := topS 9
abbrev s_read_label : Stmt := topS 10
abbrev s_mildest : Stmt := topS 12
abbrev s_are_colours_right : Stmt := topS 13
abbrev s_go_together : Stmt := topS 14
abbrev s_minutes_of : Stmt := topS 15
abbrev s_is_load : Stmt := topS 17
abbrev s_longer_ways : Stmt := topS 18
abbrev s_first_way : Stmt := topS 19
abbrev s_shared_out : Stmt := topS 20
abbrev s_waits : Stmt := topS 31
abbrev s_waiting : Stmt := topS 32
abbrev s_waiting_for : Stmt := topS 33
abbrev s_plan_of : Stmt := topS 34
abbrev s_is_running : Stmt := topS 35
abbrev s_run_load : Stmt := topS 36
abbrev s_empty : Stmt := topS 37
abbrev s_go_to : Stmt := topS 38
abbrev s_bill_of : Stmt := topS 39
abbrev s_where_is : Stmt := topS 40
abbrev s_ask : Stmt := topS 52
abbrev s_start : Stmt := topS 54
abbrev s_order_at : Stmt := topS 55
abbrev s_machine_at : Stmt := topS 56
abbrev s_thing_at : Stmt := topS 57
abbrev s_new_order : Stmt := topS 58
abbrev s_add : Stmt := topS 59
abbrev s_close : Stmt := topS 60
abbrev s_plan : Stmt := topS 61
abbrev s_run : Stmt := topS 62
abbrev s_tick : Stmt := topS 63
abbrev s_broken : Stmt := topS 64
abbrev s_pack : Stmt := topS 65
abbrev s_hand : Stmt := topS 66
abbrev s_cancel : Stmt := topS 67
abbrev s_where : Stmt := topS 68
abbrev s_label_told : Stmt := topS 69
abbrev s_thing_told : Stmt := topS 70
abbrev s_apart : Stmt := topS 71
abbrev s_machine_told : Stmt := topS 72
abbrev s_inside : Stmt := topS 73
abbrev s_state : Stmt := topS 74
abbrev s_late : Stmt := topS 75
abbrev s_next_done : Stmt := topS 76
abbrev s_waiting_told : Stmt := topS 77
abbrev s_of_orders : Stmt := topS 78
abbrev s_of_machines : Stmt := topS 79
abbrev s_of_all : Stmt := topS 80
abbrev s_asked : Stmt := topS 81
abbrev s_answer : Stmt := topS 82
abbrev s_answers : Stmt := topS 86
abbrev N_LabelI : List Str := ["self", "signs", "heat", "gentle", "bleach", "dry", "iron"]
abbrev P_LabelI : List Str := ["self", "signs", "heat", "gentle", "bleach", "dry", "iron"]
theorem sc_LabelI : FnScope N_LabelI P_LabelI (defScope sLabelI) := ⟨rfl, rfl, rfl, by decide +kernel, rfl, by decide +kernel, by decide +kernel⟩
abbrev N_ThingI : List Str := ["self", "order", "label", "need", "colour", "runs", "weight"]
abbrev P_ThingI : List Str := ["self", "order", "label", "need", "colour", "runs", "weight"]
theorem sc_ThingI : FnScope N_ThingI P_ThingI (defScope sThingI) := ⟨rfl, rfl, rfl, by decide +kernel, rfl, by decide +kernel, by decide +kernel⟩
abbrev N_MachineI : List Str := ["self", "bears"]
abbrev P_MachineI : List Str := ["self", "bears"]
theorem sc_MachineI : FnScope N_MachineI P_MachineI (defScope sMachineI) := ⟨rfl, rfl, rfl, by decide +kernel, rfl, by decide +kernel, by decide +kernel⟩
abbrev N_OrderI : List Str := ["self", "due"]
abbrev P_OrderI : List Str := ["self", "due"]
theorem sc_OrderI : FnScope N_OrderI P_OrderI (defScope sOrderI) := ⟨rfl, rfl, rfl, by decide +kernel, rfl, by decide +kernel, by decide +kernel⟩
abbrev N_LaundryI : List Str := ["self", "price", "bears", "one"]
abbrev P_LaundryI : List Str := ["self", "price", "bears"]
theorem sc_LaundryI : FnScope N_LaundryI P_LaundryI (defScope sLaundryI) := ⟨rfl, rfl, rfl, by decide +kernel, rfl, by decide +kernel, by decide +kernel⟩
abbrev N_RefusedI : List Str := ["self", "number"]
abbrev P_RefusedI : List Str := ["self", "number"]
theorem sc_RefusedI : FnScope N_RefusedI P_RefusedI (defScope sRefusedI) := ⟨rfl, rfl, rfl, by decide +kernel, rfl, by decide +kernel, by decide +kernel⟩
abbrev N_DeskI : List Str := ["self"]
abbrev P_DeskI : List Str := ["self"]
theorem sc_DeskI : FnScope N_DeskI P_DeskI (defScope sDeskI) := ⟨rfl, rfl, rfl, by decide +kernel, rfl, by decide +kernel, by decide +kernel⟩
abbrev N_digit_of : List Str := ["byte"]
abbrev P_digit_of : List Str := ["byte"]
theorem sc_digit_of : FnScope N_digit_of P_digit_of (defScope s_digit_of) := ⟨rfl, rfl, rfl, by decide +kernel, rfl, by decide +kernel, by decide +kernel⟩
abbrev N_heat_of : List Str := ["signs", "found"]
abbrev P_heat_of : List Str := ["signs"]
theorem sc_heat_of : FnScope N_heat_of P_heat_of (defScope s_heat_of) := ⟨rfl, rfl, rfl, by decide +kernel, rfl, by decide +kernel, by decide +kernel⟩
abbrev N_ends_of : List Str := ["signs", "found", "k", "letter", "most", "digit"]
abbrev P_ends_of : List Str := ["signs"]
theorem sc_ends_of : FnScope N_ends_of P_ends_of (defScope s_ends_of) := ⟨rfl, rfl, rfl, by decide +kernel, rfl, by decide +kernel, by decide +kernel⟩
abbrev N_read_label : List Str := ["signs", "heat", "at", "gentle", "ends"]
abbrev P_read_label : List Str := ["signs"]
theorem sc_read_label : FnScope N_read_label P_read_label (defScope s_read_label) := ⟨rfl, rfl, rfl, by decide +kernel, rfl, by decide +kernel, by decide +kernel⟩
abbrev N_mildest : List Str := ["things", "heats", "gentle", "bleach", "heat", "thing"]
abbrev P_mildest : List Str := ["things"]
theorem sc_mildest : FnScope N_mildest P_mildest (defScope s_mildest) := ⟨rfl, rfl, rfl, by decide +kernel, rfl, by decide +kernel, by decide +kernel⟩
abbrev N_are_colours_right : List Str := ["one", "other"]
abbrev P_are_colours_right : List Str := ["one", "other"]
theorem sc_are_colours_right : FnScope N_are_colours_right P_are_colours_right (defScope s_are_colours_right) := ⟨rfl, rfl, rfl, by decide +kernel, rfl, by decide +kernel, by decide +kernel⟩
abbrev N_go_together : List Str := ["things", "k", "one", "other"]
abbrev P_go_together : List Str := ["things"]
theorem sc_go_together : FnScope N_go_together P_go_together (defScope s_go_together) := ⟨rfl, rfl, rfl, by decide +kernel, rfl, by decide +kernel, by decide +kernel⟩
abbrev N_minutes_of : List Str := ["program"]
abbrev P_minutes_of : List Str := ["program"]
theorem sc_minutes_of : FnScope N_minutes_of P_minutes_of (defScope s_minutes_of) := ⟨rfl, rfl, rfl, by decide +kernel, rfl, by decide +kernel, by decide +kernel⟩
abbrev N_is_load : List Str := ["things", "bears", "thing"]
abbrev P_is_load : List Str := ["things", "bears"]
theorem sc_is_load : FnScope N_is_load P_is_load (defScope s_is_load) := ⟨rfl, rfl, rfl, by decide +kernel, rfl, by decide +kernel, by decide +kernel⟩
abbrev N_longer_ways : List Str := ["things", "bears", "way", "most", "found", "loads", "load", "some", "k", "own"]
abbrev P_longer_ways : List Str := ["things", "bears", "way", "most"]
theorem sc_longer_ways : FnScope N_longer_ways P_longer_ways (defScope s_longer_ways) := ⟨rfl, rfl, rfl, by decide +kernel, rfl, by decide +kernel, by decide +kernel⟩
abbrev N_first_way : List Str := ["things", "bears", "most", "left", "way"]
abbrev P_first_way : List Str := ["things", "bears", "most"]
theorem sc_first_way : FnScope N_first_way P_first_way (defScope s_first_way) := ⟨rfl, rfl, rfl, by decide +kernel, rfl, by decide +kernel, by decide +kernel⟩
abbrev N_shared_out : List Str := ["things", "bears", "most", "way"]
abbrev P_shared_out : List Str := ["things", "bears"]
theorem sc_shared_out : FnScope N_shared_out P_shared_out (defScope s_shared_out) := ⟨rfl, rfl, rfl, by decide +kernel, rfl, by decide +kernel, by decide +kernel⟩
abbrev N_waits : List Str := ["laundry", "i", "thing", "is_closed"]
abbrev P_waits : List Str := ["laundry", "i"]
theorem sc_waits : FnScope N_waits P_waits (defScope s_waits) := ⟨rfl, rfl, rfl, by decide +kernel, rfl, by decide +kernel, by decide +kernel⟩
abbrev N_waiting : List Str := ["laundry", "some", "i", "due"]
abbrev P_waiting : List Str := ["laundry"]
theorem sc_waiting : FnScope N_waiting P_waiting (defScope s_waiting) := ⟨rfl, rfl, rfl, by decide +kernel, rfl, by decide +kernel, by decide +kernel⟩
abbrev N_waiting_for : List Str := ["laundry", "machine", "i"]
abbrev P_waiting_for : List Str := ["laundry", "machine"]
theorem sc_waiting_for : FnScope N_waiting_for P_waiting_for (defScope s_waiting_for) := ⟨rfl, rfl, rfl, by decide +kernel, rfl, by decide +kernel, by decide +kernel⟩
abbrev N_plan_of : List Str := ["laundry", "machine", "some", "way", "i"]
abbrev P_plan_of : List Str := ["laundry", "machine"]
theorem sc_plan_of : FnScope N_plan_of P_plan_of (defScope s_plan_of) := ⟨rfl, rfl, rfl, by decide +kernel, rfl, by decide +kernel, by decide +kernel⟩
abbrev N_is_running : List Str := ["machine"]
abbrev P_is_running : List Str := ["machine"]
theorem sc_is_running : FnScope N_is_running P_is_running (defScope s_is_running) := ⟨rfl, rfl, rfl, by decide +kernel, rfl, by decide +kernel, by decide +kernel⟩
abbrev N_run_load : List Str := ["laundry", "k", "some", "machine", "i", "thing"]
abbrev P_run_load : List Str := ["laundry", "k", "some"]
theorem sc_run_load : FnScope N_run_load P_run_load (defScope s_run_load) := ⟨rfl, rfl, rfl, by decide +kernel, rfl, by decide +kernel, by decide +kernel⟩
abbrev N_empty : List Str := ["laundry", "machine", "are_washed", "some", "i", "thing"]
abbrev P_empty : List Str := ["laundry", "machine", "are_washed"]
theorem sc_empty : FnScope N_empty P_empty (defScope s_empty) := ⟨rfl, rfl, rfl, by decide +kernel, rfl, by decide +kernel, by decide +kernel⟩
abbrev N_go_to : List Str := ["laundry", "time", "many", "machine"]
abbrev P_go_to : List Str := ["laundry", "time"]
theorem sc_go_to : FnScope N_go_to P_go_to (defScope s_go_to) := ⟨rfl, rfl, rfl, by decide +kernel, rfl, by decide +kernel, by decide +kernel⟩
abbrev N_bill_of : List Str := ["laundry", "order", "weight", "i"]
abbrev P_bill_of : List Str := ["laundry", "order"]
theorem sc_bill_of : FnScope N_bill_of P_bill_of (defScope s_bill_of) := ⟨rfl, rfl, rfl, by decide +kernel, rfl, by decide +kernel, by decide +kernel⟩
abbrev N_where_is : List Str := ["laundry", "i", "thing", "stands"]
abbrev P_where_is : List Str := ["laundry", "i"]
theorem sc_where_is : FnScope N_where_is P_where_is (defScope s_where_is) := ⟨rfl, rfl, rfl, by decide +kernel, rfl, by decide +kernel, by decide +kernel⟩
abbrev N_ask : List Str := ["holds", "number"]
abbrev P_ask : List Str := ["holds", "number"]
theorem sc_ask : FnScope N_ask P_ask (defScope s_ask) := ⟨rfl, rfl, rfl, by decide +kernel, rfl, by decide +kernel, by decide +kernel⟩
abbrev N_start : List Str := ["desk", "price", "bears"]
abbrev P_start : List Str := ["desk", "price", "bears"]
theorem sc_start : FnScope N_start P_start (defScope s_start) := ⟨rfl, rfl, rfl, by decide +kernel, rfl, by decide +kernel, by decide +kernel⟩
abbrev N_order_at : List Str := ["laundry", "o"]
abbrev P_order_at : List Str := ["laundry", "o"]
theorem sc_order_at : FnScope N_order_at P_order_at (defScope s_order_at) := ⟨rfl, rfl, rfl, by decide +kernel, rfl, by decide +kernel, by decide +kernel⟩
abbrev N_machine_at : List Str := ["laundry", "k"]
abbrev P_machine_at : List Str := ["laundry", "k"]
theorem sc_machine_at : FnScope N_machine_at P_machine_at (defScope s_machine_at) := ⟨rfl, rfl, rfl, by decide +kernel, rfl, by decide +kernel, by decide +kernel⟩
abbrev N_thing_at : List Str := ["laundry", "i"]
abbrev P_thing_at : List Str := ["laundry", "i"]
theorem sc_thing_at : FnScope N_thing_at P_thing_at (defScope s_thing_at) := ⟨rfl, rfl, rfl, by decide +kernel, rfl, by decide +kernel, by decide +kernel⟩
abbrev N_new_order : List Str := ["laundry", "due"]
abbrev P_new_order : List Str := ["laundry", "due"]
theorem sc_new_order : FnScope N_new_order P_new_order (defScope s_new_order) := ⟨rfl, rfl, rfl, by decide +kernel, rfl, by decide +kernel, by decide +kernel⟩
abbrev N_add : List Str := ["laundry", "numbers", "signs", "o", "need", "colour", "runs", "weight", "order", "label", "thing", "machine"]
abbrev P_add : List Str := ["laundry", "numbers", "signs"]
theorem sc_add : FnScope N_add P_add (defScope s_add) := ⟨rfl, rfl, rfl, by decide +kernel, rfl, by decide +kernel, by decide +kernel⟩
abbrev N_close : List Str := ["laundry", "o", "order"]
abbrev P_close : List Str := ["laundry", "o"]
theorem sc_close : FnScope N_close P_close (defScope s_close) := ⟨rfl, rfl, rfl, by decide +kernel, rfl, by decide +kernel, by decide +kernel⟩
abbrev N_plan : List Str := ["laundry", "k", "found", "i", "load", "told"]
abbrev P_plan : List Str := ["laundry", "k"]
theorem sc_plan : FnScope N_plan P_plan (defScope s_plan) := ⟨rfl, rfl, rfl, by decide +kernel, rfl, by decide +kernel, by decide +kernel⟩
abbrev N_run : List Str := ["laundry", "k", "j", "machine", "found", "some", "i", "load"]
abbrev P_run : List Str := ["laundry", "k", "j"]
theorem sc_run : FnScope N_run P_run (defScope s_run) := ⟨rfl, rfl, rfl, by decide +kernel, rfl, by decide +kernel, by decide +kernel⟩
abbrev N_tick : List Str := ["laundry", "time"]
abbrev P_tick : List Str := ["laundry", "time"]
theorem sc_tick : FnScope N_tick P_tick (defScope s_tick) := ⟨rfl, rfl, rfl, by decide +kernel, rfl, by decide +kernel, by decide +kernel⟩
abbrev N_broken : List Str := ["laundry", "k", "on", "machine"]
abbrev P_broken : List Str := ["laundry", "k", "on"]
theorem sc_broken : FnScope N_broken P_broken (defScope s_broken) := ⟨rfl, rfl, rfl, by decide +kernel, rfl, by decide +kernel, by decide +kernel⟩
abbrev N_pack : List Str := ["laundry", "o", "order", "i"]
abbrev P_pack : List Str := ["laundry", "o"]
theorem sc_pack : FnScope N_pack P_pack (defScope s_pack) := ⟨rfl, rfl, rfl, by decide +kernel, rfl, by decide +kernel, by decide +kernel⟩
abbrev N_hand : List Str := ["laundry", "o", "order"]
abbrev P_hand : List Str := ["laundry", "o"]
theorem sc_hand : FnScope N_hand P_hand (defScope s_hand) := ⟨rfl, rfl, rfl, by decide +kernel, rfl, by decide +kernel, by decide +kernel⟩
abbrev N_cancel : List Str := ["laundry", "o", "order", "things", "i", "thing"]
abbrev P_cancel : List Str := ["laundry", "o"]
theorem sc_cancel : FnScope N_cancel P_cancel (defScope s_cancel) := ⟨rfl, rfl, rfl, by decide +kernel, rfl, by decide +kernel, by decide +kernel⟩
abbrev N_where : List Str := ["laundry", "i", "thing"]
abbrev P_where : List Str := ["laundry", "i"]
theorem sc_where : FnScope N_where P_where (defScope s_where) := ⟨rfl, rfl, rfl, by decide +kernel, rfl, by decide +kernel, by decide +kernel⟩
abbrev N_label_told : List Str := ["laundry", "i", "thing"]
abbrev P_label_told : List Str := ["laundry", "i"]
theorem sc_label_told : FnScope N_label_told P_label_told (defScope s_label_told) := ⟨rfl, rfl, rfl, by decide +kernel, rfl, by decide +kernel, by decide +kernel⟩
abbrev N_thing_told : List Str := ["laundry", "i", "thing"]
abbrev P_thing_told : List Str := ["laundry", "i"]
theorem sc_thing_told : FnScope N_thing_told P_thing_told (defScope s_thing_told) := ⟨rfl, rfl, rfl, by decide +kernel, rfl, by decide +kernel, by decide +kernel⟩
abbrev N_apart : List Str := ["laundry", "some", "k", "i", "other"]
abbrev P_apart : List Str := ["laundry", "some"]
theorem sc_apart : FnScope N_apart P_apart (defScope s_apart) := ⟨rfl, rfl, rfl, by decide +kernel, rfl, by decide +kernel, by decide +kernel⟩
abbrev N_machine_told : List Str := ["laundry", "k", "machine"]
abbrev P_machine_told : List Str := ["laundry", "k"]
theorem sc_machine_told : FnScope N_machine_told P_machine_told (defScope s_machine_told) := ⟨rfl, rfl, rfl, by decide +kernel, rfl, by decide +kernel, by decide +kernel⟩
abbrev N_inside : List Str := ["laundry", "k", "machine"]
abbrev P_inside : List Str := ["laundry", "k"]
theorem sc_inside : FnScope N_inside P_inside (defScope s_inside) := ⟨rfl, rfl, rfl, by decide +kernel, rfl, by decide +kernel, by decide +kernel⟩
abbrev N_state : List Str := ["laundry", "o", "order", "washed", "i"]
abbrev P_state : List Str := ["laundry", "o"]
theorem sc_state : FnScope N_state P_state (defScope s_state) := ⟨rfl, rfl, rfl, by decide +kernel, rfl, by decide +kernel, by decide +kernel⟩
abbrev N_late : List Str := ["laundry", "found", "o", "order"]
abbrev P_late : List Str := ["laundry"]
theorem sc_late : FnScope N_late P_late (defScope s_late) := ⟨rfl, rfl, rfl, by decide +kernel, rfl, by decide +kernel, by decide +kernel⟩
abbrev N_next_done : List Str := ["laundry", "found", "machine"]
abbrev P_next_done : List Str := ["laundry"]
theorem sc_next_done : FnScope N_next_done P_next_done (defScope s_next_done) := ⟨rfl, rfl, rfl, by decide +kernel, rfl, by decide +kernel, by decide +kernel⟩
abbrev N_waiting_told : List Str := ["laundry", "found"]
abbrev P_waiting_told : List Str := ["laundry"]
theorem sc_waiting_told : FnScope N_waiting_told P_waiting_told (defScope s_waiting_told) := ⟨rfl, rfl, rfl, by decide +kernel, rfl, by decide +kernel, by decide +kernel⟩
abbrev N_of_orders : List Str := ["laundry", "sort", "o"]
abbrev P_of_orders : List Str := ["laundry", "sort", "o"]
theorem sc_of_orders : FnScope N_of_orders P_of_orders (defScope s_of_orders) := ⟨rfl, rfl, rfl, by decide +kernel, rfl, by decide +kernel, by decide +kernel⟩
abbrev N_of_machines : List Str := ["laundry", "sort", "numbers"]
abbrev P_of_machines : List Str := ["laundry", "sort", "numbers"]
theorem sc_of_machines : FnScope N_of_machines P_of_machines (defScope s_of_machines) := ⟨rfl, rfl, rfl, by decide +kernel, rfl, by decide +kernel, by decide +kernel⟩
abbrev N_of_all : List Str := ["laundry", "sort"]
abbrev P_of_all : List Str := ["laundry", "sort"]
theorem sc_of_all : FnScope N_of_all P_of_all (defScope s_of_all) := ⟨rfl, rfl, rfl, by decide +kernel, rfl, by decide +kernel, by decide +kernel⟩
abbrev N_asked : List Str := ["laundry", "sort", "numbers", "some"]
abbrev P_asked : List Str := ["laundry", "sort", "numbers", "some"]
theorem sc_asked : FnScope N_asked P_asked (defScope s_asked) := ⟨rfl, rfl, rfl, by decide +kernel, rfl, by decide +kernel, by decide +kernel⟩
abbrev N_answer : List Str := ["desk", "sort", "numbers", "some", "refused"]
abbrev P_answer : List Str := ["desk", "sort", "numbers", "some"]
theorem sc_answer : FnScope N_answer P_answer (defScope s_answer) := ⟨rfl, rfl, rfl, by decide +kernel, rfl, by decide +kernel, by decide +kernel⟩
abbrev N_answers : List Str := ["calls", "desk", "found", "at", "sort", "behind", "numbers", "some", "one"]
abbrev P_answers : List Str := ["calls"]
theorem sc_answers : FnScope N_answers P_answers (defScope s_answers) := ⟨rfl, rfl, rfl, by decide +kernel, rfl, by decide +kernel, by decide +kernel⟩
/-! ### where each def stands -/
def d_LabelI : He.FnD := ⟨("Label", some "__init__"), "__init__", "Label.__init__", defArgs sLabelI, defBody sLabelI, defScope sLabelI⟩
def d_ThingI : He.FnD := ⟨("Thing", some "__init__"), "__init__", "Thing.__init__", defArgs sThingI, defBody sThingI, defScope sThingI⟩
def d_MachineI : He.FnD := ⟨("Machine", some "__init__"), "__init__", "Machine.__init__", defArgs sMachineI, defBody sMachineI, defScope sMachineI⟩
def d_OrderI : He.FnD := ⟨("Order", some "__init__"), "__init__", "Order.__init__", defArgs sOrderI, defBody sOrderI, defScope sOrderI⟩
def d_LaundryI : He.FnD := ⟨("Laundry", some "__init__"), "__init__", "Laundry.__init__", defArgs sLaundryI, defBody sLaundryI, defScope sLaundryI⟩
def d_RefusedI : He.FnD := ⟨("Refused", some "__init__"), "__init__", "Refused.__init__", defArgs sRefusedI, defBody sRefusedI, defScope sRefusedI⟩
def d_DeskI : He.FnD := ⟨("Desk", some "__init__"), "__init__", "Desk.__init__", defArgs sDeskI, defBody sDeskI, defScope sDeskI⟩
def d_digit_of : He.FnD := ⟨("digit_of", none), "digit_of", "digit_of", defArgs s_digit_of, defBody s_digit_of, defScope s_digit_of⟩
def d_heat_of : He.FnD := ⟨("heat_of", none), "heat_of", "heat_of", defArgs s_heat_of, defBody s_heat_of, defScope s_heat_of⟩
def d_ends_of : He.FnD := ⟨("ends_of", none), "ends_of", "ends_of", defArgs s_ends_of, defBody s_ends_of, defScope s_ends_of⟩
def d_read_label : He.FnD := ⟨("read_label", none), "read_label", "read_label", defArgs s_read_label, defBody s_read_label, defScope s_read_label⟩
def d_mildest : He.FnD := ⟨("mildest", none), "mildest", "mildest", defArgs s_mildest, defBody s_mildest, defScope s_mildest⟩
def d_are_colours_right : He.FnD := ⟨("are_colours_right", none), "are_colours_right", "are_colours_right", defArgs s_are_colours_right, defBody s_are_colours_right, defScope s_are_colours_right⟩
def d_go_together : He.FnD := ⟨("go_together", none), "go_together", "go_together", defArgs s_go_together, defBody s_go_together, defScope s_go_together⟩
def d_minutes_of : He.FnD := ⟨("minutes_of", none), "minutes_of", "minutes_of", defArgs s_minutes_of, defBody s_minutes_of, defScope s_minutes_of⟩
def d_is_load : He.FnD := ⟨("is_load", none), "is_load", "is_load", defArgs s_is_load, defBody s_is_load, defScope s_is_load⟩
def d_longer_ways : He.FnD := ⟨("longer_ways", none), "longer_ways", "longer_ways", defArgs s_longer_ways, defBody s_longer_ways, defScope s_longer_ways⟩
def d_first_way : He.FnD := ⟨("first_way", none), "first_way", "first_way", defArgs s_first_way, defBody s_first_way, defScope s_first_way⟩
def d_shared_out : He.FnD := ⟨("shared_out", none), "shared_out", "shared_out", defArgs s_shared_out, defBody s_shared_out, defScope s_shared_out⟩
def d_waits : He.FnD := ⟨("waits", none), "waits", "waits", defArgs s_waits, defBody s_waits, defScope s_waits⟩
def d_waiting : He.FnD := ⟨("waiting", none), "waiting", "waiting", defArgs s_waiting, defBody s_waiting, defScope s_waiting⟩
def d_waiting_for : He.FnD := ⟨("waiting_for", none), "waiting_for", "waiting_for", defArgs s_waiting_for, defBody s_waiting_for, defScope s_waiting_for⟩
def d_plan_of : He.FnD := ⟨("plan_of", none), "plan_of", "plan_of", defArgs s_plan_of, defBody s_plan_of, defScope s_plan_of⟩
def d_is_running : He.FnD := ⟨("is_running", none), "is_running", "is_running", defArgs s_is_running, defBody s_is_running, defScope s_is_running⟩
def d_run_load : He.FnD := ⟨("run_load", none), "run_load", "run_load", defArgs s_run_load, defBody s_run_load, defScope s_run_load⟩
def d_empty : He.FnD := ⟨("empty", none), "empty", "empty", defArgs s_empty, defBody s_empty, defScope s_empty⟩
def d_go_to : He.FnD := ⟨("go_to", none), "go_to", "go_to", defArgs s_go_to, defBody s_go_to, defScope s_go_to⟩
def d_bill_of : He.FnD := ⟨("bill_of", none), "bill_of", "bill_of", defArgs s_bill_of, defBody s_bill_of, defScope s_bill_of⟩
def d_where_is : He.FnD := ⟨("where_is", none), "where_is", "where_is", defArgs s_where_is, defBody s_where_is, defScope s_where_is⟩
def d_ask : He.FnD := ⟨("ask", none), "ask", "ask", defArgs s_ask, defBody s_ask, defScope s_ask⟩
def d_start : He.FnD := ⟨("start", none), "start", "start", defArgs s_start, defBody s_start, defScope s_start⟩
def d_order_at : He.FnD := ⟨("order_at", none), "order_at", "order_at", defArgs s_order_at, defBody s_order_at, defScope s_order_at⟩
def d_machine_at : He.FnD := ⟨("machine_at", none), "machine_at", "machine_at", defArgs s_machine_at, defBody s_machine_at, defScope s_machine_at⟩
def d_thing_at : He.FnD := ⟨("thing_at", none), "thing_at", "thing_at", defArgs s_thing_at, defBody s_thing_at, defScope s_thing_at⟩
def d_new_order : He.FnD := ⟨("new_order", none), "new_order", "new_order", defArgs s_new_order, defBody s_new_order, defScope s_new_order⟩
def d_add : He.FnD := ⟨("add", none), "add", "add", defArgs s_add, defBody s_add, defScope s_add⟩
def d_close : He.FnD := ⟨("close", none), "close", "close", defArgs s_close, defBody s_close, defScope s_close⟩
def d_plan : He.FnD := ⟨("plan", none), "plan", "plan", defArgs s_plan, defBody s_plan, defScope s_plan⟩
def d_run : He.FnD := ⟨("run", none), "run", "run", defArgs s_run, defBody s_run, defScope s_run⟩
def d_tick : He.FnD := ⟨("tick", none), "tick", "tick", defArgs s_tick, defBody s_tick, defScope s_tick⟩
def d_broken : He.FnD := ⟨("broken", none), "broken", "broken", defArgs s_broken, defBody s_broken, defScope s_broken⟩
def d_pack : He.FnD := ⟨("pack", none), "pack", "pack", defArgs s_pack, defBody s_pack, defScope s_pack⟩
def d_hand : He.FnD := ⟨("hand", none), "hand", "hand", defArgs s_hand, defBody s_hand, defScope s_hand⟩
def d_cancel : He.FnD := ⟨("cancel", none), "cancel", "cancel", defArgs s_cancel, defBody s_cancel, defScope s_cancel⟩
def d_where : He.FnD := ⟨("where", none), "where", "where", defArgs s_where, defBody s_where, defScope s_where⟩
def d_label_told : He.FnD := ⟨("label_told", none), "label_told", "label_told", defArgs s_label_told, defBody s_label_told, defScope s_label_told⟩
def d_thing_told : He.FnD := ⟨("thing_told", none), "thing_told", "thing_told", defArgs s_thing_told, defBody s_thing_told, defScope s_thing_told⟩
def d_apart : He.FnD := ⟨("apart", none), "apart", "apart", defArgs s_apart, defBody s_apart, defScope s_apart⟩
def d_machine_told : He.FnD := ⟨("machine_told", none), "machine_told", "machine_told", defArgs s_machine_told, defBody s_machine_told, defScope s_machine_told⟩
def d_inside : He.FnD := ⟨("inside", none), "inside", "inside", defArgs s_inside, defBody s_inside, defScope s_inside⟩
def d_state : He.FnD := ⟨("state", none), "state", "state", defArgs s_state, defBody s_state, defScope s_state⟩
def d_late : He.FnD := ⟨("late", none), "late", "late", defArgs s_late, defBody s_late, defScope s_late⟩
def d_next_done : He.FnD := ⟨("next_done", none), "next_done", "next_done", defArgs s_next_done, defBody s_next_done, defScope s_next_done⟩
def d_waiting_told : He.FnD := ⟨("waiting_told", none), "waiting_told", "waiting_told", defArgs s_waiting_told, defBody s_waiting_told, defScope s_waiting_told⟩
def d_of_orders : He.FnD := ⟨("of_orders", none), "of_orders", "of_orders", defArgs s_of_orders, defBody s_of_orders, defScope s_of_orders⟩
def d_of_machines : He.FnD := ⟨("of_machines", none), "of_machines", "of_machines", defArgs s_of_machines, defBody s_of_machines, defScope s_of_machines⟩
def d_of_all : He.FnD := ⟨("of_all", none), "of_all", "of_all", defArgs s_of_all, defBody s_of_all, defScope s_of_all⟩
def d_asked : He.FnD := ⟨("asked", none), "asked", "asked", defArgs s_asked, defBody s_asked, defScope s_asked⟩
def d_answer : He.FnD := ⟨("answer", none), "answer", "answer", defArgs s_answer, defBody s_answer, defScope s_answer⟩
def d_answers : He.FnD := ⟨("answers", none), "answers", "answers", defArgs s_answers, defBody s_answers, defScope s_answers⟩
def fn : List He.FnD := [d_LabelI, d_ThingI, d_MachineI, d_OrderI, d_LaundryI, d_RefusedI, d_DeskI, d_digit_of, d_heat_of, d_ends_of, d_read_label, d_mildest, d_are_colours_right, d_go_together, d_minutes_of, d_is_load, d_longer_ways, d_first_way, d_shared_out, d_waits] ++ [d_waiting, d_waiting_for, d_plan_of, d_is_running, d_run_load, d_empty, d_go_to, d_bill_of, d_where_is, d_ask, d_start, d_order_at, d_machine_at, d_thing_at, d_new_order, d_add, d_close, d_plan, d_run, d_tick] ++ [d_broken, d_pack, d_hand, d_cancel, d_where, d_label_told, d_thing_told, d_apart, d_machine_told, d_inside, d_state, d_late, d_next_done, d_waiting_told, d_of_orders, d_of_machines, d_of_all, d_asked, d_answer, d_answers]
def faGlo0 : List Str := ["Label", "Thing", "Machine", "Order", "Laundry", "Refused", "Desk", "digit_of", "heat_of", "ends_of", "read_label", "mildest", "are_colours_right", "go_together", "minutes_of", "is_load", "longer_ways", "first_way", "shared_out", "waits"]
def faGlo1 : List Str := ["waiting", "waiting_for", "plan_of", "is_running", "run_load", "empty", "go_to", "bill_of", "where_is", "ask", "start", "order_at", "machine_at", "thing_at", "new_order", "add", "close", "plan", "run", "tick"]
def faGlo2 : List Str := ["broken", "pack", "hand", "cancel", "where", "label_told", "thing_told", "apart", "machine_told", "inside", "state", "late", "next_done", "waiting_told", "of_orders", "of_machines", "of_all", "asked", "answer", "answers"]
def faGlo3 : List Str := ["HEATS", "NEEDS", "ENDS", "NUMBERS", "WITH_LIST", "MINUTES"]
def faGlo : List Str := faGlo0 ++ faGlo1 ++ faGlo2 ++ faGlo3
def faKeep0 : List Str := ["digit_of", "heat_of", "ends_of", "read_label", "mildest", "are_colours_right", "go_together", "minutes_of", "is_load", "longer_ways", "first_way", "shared_out", "waits", "waiting", "waiting_for", "plan_of", "is_running", "run_load", "empty", "go_to"]
def faKeep1 : List Str := ["bill_of", "where_is", "ask", "start", "order_at", "machine_at", "thing_at", "new_order", "add", "close", "plan", "run", "tick", "broken", "pack", "hand", "cancel", "where", "label_told", "thing_told"]
def faKeep2 : List Str := ["apart", "machine_told", "inside", "state", "late", "next_done", "waiting_told", "of_orders", "of_machines", "of_all", "asked", "answer", "answers"]
def faKeep : List Str := faKeep0 ++ faKeep1 ++ faKeep2
def faFree : List Str := ["len", "max", "min", "sum", "range", "enumerate", "sorted", "list", "zip", "int"]
def faInt : List (Str × Int) := [("MOST_GENTLE", 2), ("OPEN", 0), ("CLOSED", 1), ("PACKED", 2), ("GIVEN", 3), ("CALLED_OFF", 4), ("FIRST", 8), ("MOST_PRICE", 1000), ("MOST_MACHINES", 4), ("LEAST_BEARS", 1000), ("MOST_WEIGHT", 20000), ("LATEST", 1000000), ("MOST_ORDERS", 60), ("MOST_THINGS", 150), ("MOST_APART", 20), ("MOST_COLOUR", 9)]
def faCls : List Str := ["Label", "Thing", "Machine", "Order", "Laundry", "Desk"]
def faAt : List (Str × Str) := [("Label", "signs"), ("Label", "heat"), ("Label", "gentle"), ("Label", "bleach"), ("Label", "dry"), ("Label", "iron"), ("Thing", "order"), ("Thing", "label"), ("Thing", "need"), ("Thing", "colour"), ("Thing", "runs"), ("Thing", "weight"), ("Thing", "is_washed"), ("Thing", "machine"), ("Machine", "bears"), ("Machine", "is_broken"), ("Machine", "things"), ("Machine", "program"), ("Machine", "until"), ("Order", "due"), ("Order", "stands"), ("Order", "things"), ("Laundry", "price"), ("Laundry", "machines"), ("Laundry", "orders"), ("Laundry", "things"), ("Laundry", "now"), ("Laundry", "till"), ("Desk", "laundry")]
def fa : List He.Fa := faGlo.map He.Fa.glo ++ faKeep.map He.Fa.keep ++ faFree.map He.Fa.free ++ faInt.map (fun p => He.Fa.int p.1 p.2) ++ faCls.map He.Fa.cls ++ faCls.map He.Fa.mkr ++ faCls.map (fun x => He.Fa.meth x "__init__") ++ faAt.map (fun p => He.Fa.noat p.1 p.2)
/-! ### tables, the error's class -/
open PySem.W (Frag nsIn findIn)
/-- a tuple that the text writes, by its address -/
def tupAt (K : Frag) (a : Addr) : List Value := match K.lookup a with
  | some ⟨.type c, _, .seq its _, _⟩ => if c = "tuple" ∧ its.size ≤ sizeLine then its.toList else []
  | _ => []
def intsB : List Int → List Value → Bool
  | [], [] => true
  | i :: r, .int j _ :: u => decide (i = j) && intsB r u
  | _, _ => false
theorem intsB_ok : ∀ {ns : List Int} {us : List Value}, intsB ns us = true → Vals (ns.map V.int) us
  | [], [], _ => .nil
  | [], _ :: _, h => by cases h
  | _ :: _, [], h => by cases h
  | i :: r, u :: us, h => by
    cases u with
    | int j t =>
      have h1 : (decide (i = j) && intsB r us) = true := h
      obtain ⟨h2, h3⟩ := He.ba h1
      exact .cons ⟨t, by rw [of_decide_eq_true h2]⟩ (intsB_ok h3)
    | _ => cases h
theorem tupAt_ok {K : Frag} {a : Addr} {xs : List V} (r : Vals xs (tupAt K a)) (ne : xs ≠ []) (H : Hp) : SqT K H a xs := by
  unfold tupAt at r
  split at r
  · rename_i c od its n sl q
    split at r
    · rename_i h
      exact .inr ⟨_, its, n, q, congrArg Value.type h.1, rfl, h.2, r⟩
    · exact absurd (by cases r; rfl) ne
  · exact absurd (by cases r; rfl) ne
def nthRef (us : List Value) (i : Nat) : Addr := match us[i]? with
  | some (.ref a) => a
  | _ => 0
def endA (K : Frag) (i : Nat) : Addr := nthRef (tupAt K (He.ga K "ENDS")) i
def refsB (us : List Value) : Bool := us.all fun u => match u with | .ref _ => true | _ => false
/-- the entries of MINUTES -/
def minB : List DictEntry → List (Int × Int) → Bool
  | [], [] => true
  | e :: r, (k, v) :: s => (match e.key, e.val with
    | .int i _, .int j _ => decide (i = k) && decide (j = v) && decide (e.hash = hashInt k)
    | _, _ => false) && minB r s
  | _, _ => false
def minutesT : List (Int × Int) := [(30, 45), (40, 60), (60, 75), (95, 90)]
def minOk (K : Frag) : Bool := match K.lookup (He.ga K "MINUTES") with
  | some ⟨.type c, none, .dict es _, sl⟩ => decide (c = "dict") && (decide (sl.size = 0) && minB es.toList minutesT)
  | _ => false
/-- the class of the error -/
def refB (K : Frag) (C : Addr) : Bool := (match K.lookup C with
  | some ⟨.type c, _, .cls cd, sl⟩ => (match cd.mro, sl.toList with
    | .ref C' :: bm, [_, _, _, _, some (.builtin n), _] => decide (c = "type") && (C' == C && (n == "ValueError.__new__" && (!cd.hasDel && (cd.hasDict && PySem.HandSPX.refsVE bm))))
    | _, _ => false)
  | _ => false)
def refFacts (K : Frag) : Bool := refB K (He.ga K "Refused") && (He.eqO (findIn K (.ref (He.ga K "Refused")) "__setattr__") (some (some (.builtin "object.__setattr__"))) && (decide (PySem.W.subIn K (.ref (He.ga K "Refused")) (.type "BaseException") = some true) &&
  (decide (PySem.W.typeIn K (.ref (He.ga K "Refused")) = some (.type "type")) && (PySem.W.keepIn K (.ref (He.ga K "Refused")) && (xfB K (He.ga K "Refused") && (He.eqO (findIn K (.ref (He.ga K "Refused")) "number") (some none) &&
  (He.eqO (findIn K (.ref (He.ga K "Refused")) "__init__") (some (some (.ref (He.ma K (He.ga K "Refused") "__init__")))) && (decide (PySem.W.typeIn K (.ref (He.ma K (He.ga K "Refused") "__init__")) = some (.type "function")) &&
  (PySem.W.keepIn K (.ref (He.ma K (He.ga K "Refused") "__init__")) && decide (PySem.W.exmOne K (.ref (He.ga K "Refused")) (.ref (He.ga K "Refused")) = some true))))))))))
def exB (K : Frag) : Bool := refFacts K && (minOk K && (intsB [30, 40, 60, 95] (tupAt K (He.ga K "HEATS")) && (intsB [0, 30, 40, 60, 95] (tupAt K (He.ga K "NEEDS")) && (intsB [1, 1, 5, 1, 1, 2, 1, 2, 1, 1, 1, 1, 1, 1, 1, 0, 0, 1, 1, 1, 0, 0, 0, 0] (tupAt K (He.ga K "NUMBERS")) &&
  (intsB [0, 2, 15] (tupAt K (He.ga K "WITH_LIST")) && (refsB (tupAt K (He.ga K "ENDS")) && (decide ((tupAt K (He.ga K "ENDS")).length = 3) && (intsB [66, 2] (tupAt K (endA K 0)) && (intsB [68, 2] (tupAt K (endA K 1)) && intsB [73, 3] (tupAt K (endA K 2)))))))))))
/-! ### the Hook -/
def obsW (K : Frag) : He.Al := ((fa.all fun f => f.ok K) && ((fn.all fun d => (He.Fa.code d.at_ d.qual).ok K) && exB K), fn.map fun d => He.fnObs K d.at_)
def valW : He.Al := (true, fn.map He.FnD.val)
def SaysW (K : Frag) : Prop := obsW K = valW
def obsWG (g : Addr → Option Obj) : He.Al := obsW (He.frG g (He.asG g 5))
def hookW : PySem.W.Hook where
  α := He.Al
  obs := fun s => obsWG s.heap.get?
  val := fun _ => valW
  says := fun _ h => ∃ K : Frag, K.In h ∧ SaysW K
  of := fun _ _ e => ⟨_, He.frG_in, e⟩
  keeps := fun _ _ _ ⟨K, hK, c⟩ k => ⟨K, PySem.W.Frag.In.keeps hK k, c⟩
theorem obsWG_eq {g : Addr → Option Obj} {s : Shared} (h : ∀ a, g a = s.heap.get? a) : obsWG g = hookW.obs s := by
  have e : g = s.heap.get? := funext h
  rw [e] <;> rfl
end Wt
end
section
set_option Elab.async false
set_option linter.all false
set_option maxRecDepth 100000
set_option maxHeartbeats 0
namespace Wt
open PySem PySem.Spec PyProof.Rows L2
abbrev R : PySem.W.OpenSpec := PySem.Challenge.rw_washloads_s01_answers
def ob (s : PySem.W.SharedT) : He.Al := obsWG (HeadRun.getT s)
theorem ob_eq (s : PySem.W.SharedT) : ob s = hookW.obs s.abs := obsWG_eq (HeadRun.getT_eq s)
def faLoose0 : List Str := ["HEATS", "NEEDS", "MOST_GENTLE", "ENDS", "MINUTES", "Label", "digit_of", "heat_of", "ends_of", "read_label", "Thing", "mildest", "are_colours_right", "go_together", "minutes_of", "is_load", "longer_ways", "first_way", "shared_out", "OPEN"]
def faLoose1 : List Str := ["CLOSED", "PACKED", "GIVEN", "CALLED_OFF", "FIRST", "Machine", "Order", "Laundry", "waits", "waiting", "waiting_for", "plan_of", "is_running", "run_load", "empty", "go_to", "bill_of", "where_is", "MOST_PRICE", "MOST_MACHINES"]
def faLoose2 : List Str := ["LEAST_BEARS", "MOST_WEIGHT", "LATEST", "MOST_ORDERS", "MOST_THINGS", "MOST_APART", "MOST_COLOUR", "Refused", "ask", "Desk", "start", "order_at", "machine_at", "thing_at", "new_order", "add", "close", "plan", "run", "tick"]
def faLoose3 : List Str := ["broken", "pack", "hand", "cancel", "where", "label_told", "thing_told", "apart", "machine_told", "inside", "state", "late", "next_done", "waiting_told", "of_orders", "of_machines", "of_all", "asked", "answer", "NUMBERS"]
def faLoose4 : List Str := ["WITH_LIST"]
def faLoose : List Str := faLoose0 ++ faLoose1 ++ faLoose2 ++ faLoose3 ++ faLoose4
def loose : List Str := faLoose
def qv : Program := PySem.W.view R.prog [86]
theorem runF (w : World) : HeadRun.RunEqS R qv hookW ob 9000 loose (w.withFollow "special-get-raises" false) := by
  intro os
  kernel_rfl
theorem runT (w : World) : HeadRun.RunEqS R qv hookW ob 9000 loose (w.withFollow "special-get-raises" true) := by
  intro os
  kernel_rfl
theorem run (w : World) : HeadRun.RunEqS R qv hookW ob 9000 loose w := PySem.W.byRow2 "special-get-raises" runF runT w
end Wt
end
section
set_option Elab.async false
set_option linter.all false
set_option maxRecDepth 100000
set_option maxHeartbeats 2000000
/-! # Rules of my own over the layer: what is empty, enumerate over a tuple, calls by name -/
namespace Wr
open PySem PySem.Spec PyProof.Rows L2
/-! ### xs == [], xs != [], t == (), t != () -/
def rNilL (K : PySem.W.Frag) (neg : Bool) : R2 := fun x y H Q => ∃ a b xs, x = .ref a ∧ y = .ref b ∧ SqL K H a xs ∧ SqL K H b [] ∧ Q (.bl (if neg then !xs.isEmpty else xs.isEmpty)) H
def rNilT (K : PySem.W.Frag) (neg : Bool) : R2 := fun x y H Q => ∃ a b xs, x = .ref a ∧ y = .ref b ∧ SqT K H a xs ∧ SqT K H b [] ∧ Q (.bl (if neg then !xs.isEmpty else xs.isEmpty)) H
theorem vals_nil {us : List Value} (h : Vals [] us) : us = [] := by cases h; rfl
theorem vals_size {xs : List V} {us : List Value} (h : Vals xs us) : us.toArray.size = xs.length := by rw [List.size_toArray]; exact h.length.symm
section
variable {X : Cx}
theorem op_eqNil (hu : X.A.units < cLine) : OpR X (compareOp .Eq) (rNilL X.K false) := by
  intro pins s σ H x y v u Q I rx ry ⟨a, b, xs, ex, ey, ha, hb, q⟩
  subst ex ey
  cases rx; cases ry
  obtain ⟨i1, r1, p1, _⟩ := I.list ha
  obtain ⟨i2, r2, p2, _⟩ := I.list hb
  obtain rfl := vals_nil r2
  cases xs with
  | nil =>
    obtain rfl := vals_nil r1
    exact SeqAt.eq_listAt (e := fun _ => true) p1.isList p2.isList rfl hu (fun j h1 _ => absurd h1 (by simp)) ⟨.bl true, H, I, rfl, q⟩
  | cons z zs => exact SeqAt.eq_list_lengthsAt p1.isList p2.isList (by rw [vals_size r1]; simp) hu ⟨.bl false, H, I, rfl, q⟩
theorem op_neNil (hu : X.A.units < cLine) : OpR X (compareOp .NotEq) (rNilL X.K true) := by
  intro pins s σ H x y v u Q I rx ry ⟨a, b, xs, ex, ey, ha, hb, q⟩
  subst ex ey
  cases rx; cases ry
  obtain ⟨i1, r1, p1, _⟩ := I.list ha
  obtain ⟨i2, r2, p2, _⟩ := I.list hb
  obtain rfl := vals_nil r2
  cases xs with
  | nil =>
    obtain rfl := vals_nil r1
    exact SeqAt.RcNeAt.lists (e := fun _ => true) p1.isList p2.isList rfl hu (fun j h1 _ => absurd h1 (by simp)) X.prog X.w _ _ ⟨.bl false, H, I, rfl, q⟩
  | cons z zs => exact SeqAt.RcNeAt.lists_lengths p1.isList p2.isList (by rw [vals_size r1]; simp) hu X.prog X.w _ _ ⟨.bl true, H, I, rfl, q⟩
theorem op_neNilT (hu : X.A.units < cLine) : OpR X (compareOp .NotEq) (rNilT X.K true) := by
  intro pins s σ H x y v u Q I rx ry ⟨a, b, xs, ex, ey, ha, hb, q⟩
  subst ex ey
  cases rx; cases ry
  obtain ⟨i1, r1, p1, _⟩ := I.tuple ha
  obtain ⟨i2, r2, p2, _⟩ := I.tuple hb
  obtain rfl := vals_nil r2
  have t1 : s.heap.IsTuple a i1.toArray := p1
  have t2 : s.heap.IsTuple b ([] : List Value).toArray := p2
  have hz := vals_size r1
  refine SeqAt.RcNeAt.tuples (e := fun _ => true) t1 t2 hu (fun j _ h2 => absurd h2 (by simp)) X.prog X.w _ _ ⟨.bl _, H, I, rfl, ?_⟩
  have e : (!((List.range (min i1.toArray.size ([] : List Value).toArray.size)).all (fun _ => true) && i1.toArray.size == ([] : List Value).toArray.size)) = !xs.isEmpty := by
    rw [hz]
    cases xs <;> simp
  rw [e]
  exact q
end
/-! ### the empty text of a display of whole numbers, item by item, in one step -/
def intsE : List Int → List Expr → Prop
  | [], [] => True
  | i :: r, .Constant (.int j) _ _ :: es => i = j ∧ intsE r es
  | _, _ => False
theorem pa_ints {X : Cx} : ∀ {ns : List Int} {es : List Expr}, intsE ns es → PA X es (fun _ H Q => Q (ns.map V.int) H)
  | [], [], _ => pa_nil
  | [], _ :: _, h => h.elim
  | _ :: _, [], h => h.elim
  | i :: r, e :: es, h => by
    cases e with
    | Constant c k p =>
      cases c with
      | int j =>
        obtain ⟨rfl, h2⟩ := (show i = j ∧ intsE r es from h)
        exact pa_cons (pe_int) (pa_ints h2)
      | _ => exact False.elim h
    | _ => exact False.elim h
/-! ### a def by its name: its promise, all that a caller asks -/
def DefOk (P : Program) (w : World) (K : PySem.W.Frag) (mg : Str → Option Value) (base : Heap) (CX : CXT) (k : Nat) (x : Str) (ps : List Str) (sp : Sp) : Prop :=
  ∃ fd, FnOk P w K mg base CX k (He.ga K x) fd ps sp ∧ Binds K fd ps [] ∧ mg x = some (.ref (He.ga K x)) ∧ PySem.W.keepIn K (.ref (He.ga K x)) = true
/-- a class whose instances are made by an __init__ that is walked -/
def MkOk (P : Program) (w : World) (K : PySem.W.Frag) (mg : Str → Option Value) (base : Heap) (k : Nat) (x : Str) (ps : List Str) (sp : Sp) : Prop :=
  ∃ fd, FnOk P w K mg base CX0 k (He.ma K (He.ga K x) "__init__") fd ps sp ∧ Binds K fd ps [] ∧ mg x = some (.ref (He.ga K x)) ∧ Mk K (He.ga K x) (He.ma K (He.ga K x) "__init__")
section
variable {X : Cx} {k : Nat} {x : Str} {ps : List Str} {sp : Sp} {e : Expr} {es : List Expr} {t : TA} {p pos : Pos}
/-- a call of a def that nothing leaves -/
theorem pe_d (D : DefOk X.prog X.w X.K X.mg X.base CX0 k x ps sp) (hr : Room k X.A) (hg : Gl X x) (ha : PA X (e :: es) t) (hdb : (x == ("__debug__" : Str)) = false := by decide)
    (he : starEach (e :: es) X.env = (false, eval e X.env) :: starEach es X.env := by rfl) (hpl : (backTo pos (starEach es X.env)).any (·.1) = false := by rfl) :
    PE X (.Call (.Name x p) (e :: es) [] pos) (tCall sp [] E0 t) := by
  obtain ⟨fd, F, b, m, kp⟩ := D
  exact pe_call F hr hg m kp b .nil pass0 ha hdb he hpl
/-- a new instance -/
theorem pe_n (D : MkOk X.prog X.w X.K X.mg X.base k x ps sp) (hr : Room (k + 1) X.A) (hg : Gl X x) (ha : PA X (e :: es) t) (hdb : (x == ("__debug__" : Str)) = false := by decide)
    (he : starEach (e :: es) X.env = (false, eval e X.env) :: starEach es X.env := by rfl) (hpl : (backTo pos (starEach es X.env)).any (·.1) = false := by rfl) :
    PE X (.Call (.Name x p) (e :: es) [] pos) (tMake (He.ga X.K x) sp [] E0 t) := by
  obtain ⟨fd, F, b, m, mk⟩ := D
  exact pe_make mk F hr hg m b .nil pass0 ha hdb he hpl
end
end Wr
end
section
set_option Elab.async false
set_option linter.all false
set_option maxRecDepth 100000
set_option maxHeartbeats 4000000
/-! # enumerate over a tuple -/
namespace Wr
open PySem PySem.Spec PyProof.Rows L2
open Sem (wp)
/-! ### its making -/
theorem enum_new1 {v : Value} {o : Obj} {Hq : Heap → Prop} (B : Begins v o Hq) :
    Meets (Builtin.«enumerate.__new__» ⟨[.type "enumerate", v], []⟩) (fun _ R s => Hq s.heap ∧
      R (.ok (.ret (.ref (s.heap.push o).objs.size))) { s with heap := (s.heap.push o).push { cls := .type "enumerate", data := .fields #[.none, .bool false, .ref s.heap.objs.size, rawInt 0, .none, .none] } }) :=
  .of_wp fun prog w A R s ⟨hq, hr⟩ => by
    obtain ⟨hp, g, d, tk, os⟩ := s
    have sb := sub_enumerate
    have it : ∀ {A' : Around} {E : Value → Shared → Prop} {Q : Value → Shared → Prop}, Q (.ref hp.objs.size) ⟨hp.push o, g, d, tk, os⟩ → wpAny (model prog w) A' (pyIter v) Q E ⟨hp, g, d, tk, os⟩ :=
      fun q => B.iter prog w _ _ ⟨hp, g, d, tk, os⟩ _ hq q
    wp_walk using it
    refine wpAny_stack_any fun st => wpAny_pure ?_
    split
    · rename_i c _ _ _ _ _
      cases (c == Value.type "enumerate") <;> (wp_walk using it; exact ⟨_, rfl, hr⟩)
    · wp_walk using it
      exact ⟨_, rfl, hr⟩
theorem call_enumT {prog : Program} {w : World} {A : Around} {E : Value → Shared → Prop} {s : Shared} {t : Addr} {items : Array Value} {Q : Value → Shared → Prop} (ht : s.heap.IsTuple t items)
    (h : ∀ h', IsEnum h' (s.heap.objs.size + 1) s.heap.objs.size 0 .none → h'.IsTupleIter s.heap.objs.size t 0 → (∀ b o, s.heap.get? b = some o → h'.get? b = some o) → Q (.ref (s.heap.objs.size + 1)) { s with heap := h' }) :
    wpAny (model prog w) A (call (.type "enumerate") [.ref t]) Q E s := by
  refine callType_new F.called_enumerate (by decide) (F.typeCall_enumerate_1 _) (F.newCall_enumerate_1 _) (fun obj => F.args_object_init_2 obj _) F.entry_enumerate_new (enum_new1 (begins_tuple t items)) ⟨ht, ?_⟩
  have hz : (s.heap.push { cls := .type "tuple_iterator", data := .fields #[.ref t, .int 0 0] }).objs.size = s.heap.objs.size + 1 := Heap.size_push ..
  show _ ∧ _
  rw [hz]
  have he : IsEnum ((s.heap.push { cls := .type "tuple_iterator", data := .fields #[.ref t, .int 0 0] }).push { cls := .type "enumerate", data := .fields #[.none, .bool false, .ref s.heap.objs.size, rawInt 0, .none, .none] }) (s.heap.objs.size + 1) s.heap.objs.size 0 .none := by
    have q := Heap.get?_push_size (s.heap.push { cls := .type "tuple_iterator", data := .fields #[.ref t, .int 0 0] }) (o := { cls := .type "enumerate", data := .fields #[.none, .bool false, .ref s.heap.objs.size, rawInt 0, .none, .none] }) rfl
    rw [hz] at q; exact q
  exact ⟨⟨_, he, rfl⟩, h _ he ⟨_, Heap.get?_push_of_some _ (Heap.get?_push_size _ rfl), rfl, rfl⟩ fun b o x => Heap.get?_push_of_some _ (Heap.get?_push_of_some _ x)⟩
/-! ### its turns -/
/-- the tuple at a as it stands at each turn, each item in a new pair -/
def Iet (K : PySem.W.Frag) (a : Addr) : It :=
  ⟨fun i H => ∃ (xs : List V) (x : V), SqT K H a xs ∧ xs[i]? = some x, fun i H v H' => ∃ T x, v = .ref T ∧ H T = none ∧ H' = upd H T (.tup [.int (i : Nat), x]) ∧ ∀ xs, SqT K H a xs → xs[i]? = some x, fun i H => ∃ xs : List V, SqT K H a xs ∧ xs.length = i⟩
theorem turn_enumT {P : Program} {w : World} {K : PySem.W.Frag} {elts : List Expr} {kk : Nat} {tpos : Pos} (a e it : Addr) :
    Turn P w K (.Tuple elts kk tpos) (Iet K a) [e, it] e (fun i h => (∃ old, IsEnum h e it ((i : Nat) : Int) old) ∧ h.IsTupleIter it a i ∧ e ≠ it) where
  mem := by simp
  obj := fun i h st b hb => by
    obtain ⟨⟨old, he⟩, ⟨o, ho, _, hd⟩, _⟩ := st
    have z : b = e ∨ b = it := by simpa using hb
    rcases z with rfl | rfl
    · exact ⟨_, he, fun v q => nomatch q⟩
    · exact ⟨o, ho, fun v q => by rw [hd] at q; cases q⟩
  keep := fun i h h' ⟨⟨old, he⟩, hi, hne⟩ k => ⟨⟨old, k e (by simp) _ he⟩, hi.at fun o q => k it (by simp) o q, hne⟩
  item := by
    intro X hP hw hK hc i pins s σ H E I hf st ⟨xs, x, hq, hx⟩
    subst hP hw hK
    obtain ⟨⟨old, he⟩, hit, hne⟩ := st
    obtain ⟨its, rv, p, hz⟩ := I.tuple hq
    obtain ⟨u, hu, ru⟩ := rv.get hx
    have tp : s.heap.IsTuple a its.toArray := p
    have el : e < s.heap.objs.size := Heap.lt_size he
    have il : it < s.heap.objs.size := by obtain ⟨_, q, _⟩ := hit; exact Heap.lt_size q
    have nai : a ≠ it := fun z => by
      obtain ⟨o1, e1, c1, _⟩ := tp
      obtain ⟨o2, e2, c2, _⟩ := hit
      rw [z, e2] at e1
      cases e1
      rw [c1] at c2
      exact absurd (Value.type.inj c2) (by decide)
    have nae : e ≠ a := fun z => by
      obtain ⟨o1, e1, c1, _⟩ := tp
      rw [← z, show s.heap.get? e = some _ from he] at e1
      cases e1
      exact absurd (Value.type.inj c1) (by decide)
    have D := Draws.tuple (prog := X.prog) (w := X.w) (A := X.A.in1) (I.ok.hd hc) it a nai its.toArray
    have hlt : i < its.toArray.size := by
      have := (List.getElem?_eq_some_iff.mp hu).1
      simpa using this
    refine wpAny_pyNext_enum_itemD D he ⟨hit, tp⟩ hlt hne (by simp [hne, nae]) fun y h' tk hP ho hit' hT hsz hk => ?_
    obtain rfl : y = u := by
      have hP' : its.toArray[i]? = some y := hP
      rw [List.getElem?_toArray, hu] at hP'
      exact (Option.some.inj hP').symm
    refine ⟨_, rfl, wpAny_letOwnedTupleGo_enum (s := { s with heap := h', toks := tk + 1 }) ho fun h2 he2 sb => ?_⟩
    have hT2 : h2.get? s.heap.objs.size = some { cls := .type "tuple", data := .seq #[.int i tk, y] } := (sb.2 _ (Nat.ne_of_gt el)).trans hT
    have new : ObjOk X.prog X.w (upd H s.heap.objs.size (.tup [.int (i : Nat), x])) h2 s.heap.objs.size (.tup [.int (i : Nat), x]) :=
      ⟨by show 2 ≤ sizeLine; decide, [.int i tk, y], .cons ⟨_, rfl⟩ (.cons ru .nil), ⟨_, hT2, rfl, _, rfl⟩⟩
    have J : Inv X pins σ (upd H s.heap.objs.size (.tup [.int (i : Nat), x])) { s with heap := h2, toks := tk + 1 } :=
      I.turnedNew (ch := [e, it]) (fun b ob hb q => (sb.2 b (fun z => hb (by simp [z]))).trans (hk b ob (fun z => hb (by simp [z])) (fun z => hb (by simp [z])) q)) hf (Nat.le_refl _) new
    refine ⟨.ref s.heap.objs.size, _, J, rfl, ⟨_, x, rfl, I.hok.fresh (Nat.le_refl _), rfl, fun ys hy => ?_⟩, ⟨⟨y, ?_⟩, hit'.1.at fun o q => (sb.2 it (Ne.symm hne)).trans q, hne⟩, fun b hb => ?_⟩
    · rw [I.tuple_inj hy hq]; exact hx
    · have e1 : ((i + 1 : Nat) : Int) = (i : Int) + 1 := by omega
      rw [e1]; exact he2
    · have hb' : b < s.heap.objs.size := by
        have z : b = e ∨ b = it := by simpa using hb
        rcases z with rfl | rfl
        · exact el
        · exact il
      rw [upd_ne (Nat.ne_of_lt hb')]
      exact (hf b hb).1
  done := by
    intro X hP hw hK hc i pins s σ H E I hf st ⟨xs, hq, hx⟩
    subst hP hw hK
    obtain ⟨⟨old, he⟩, hit, hne⟩ := st
    obtain ⟨its, rv, p, hz⟩ := I.tuple hq
    have tp : s.heap.IsTuple a its.toArray := p
    obtain ⟨f0, f1, f2, f3, f4, f5⟩ := hf it (by simp)
    have nai : a ≠ it := fun z => by
      obtain ⟨o1, e1, c1, _⟩ := tp
      obtain ⟨o2, e2, c2, _⟩ := hit
      rw [z, e2] at e1
      cases e1
      rw [c1] at c2
      exact absurd (Value.type.inj c2) (by decide)
    have hn : its.toArray.size = i := by rw [List.size_toArray, ← rv.length]; exact hx
    have D := Draws.tuple (prog := X.prog) (w := X.w) (A := X.A.in1) (I.ok.hd hc) it a nai its.toArray
    rw [hn] at D
    exact wpAny_pyNext_enum_endD D he ⟨hit, tp⟩ fun h' eb => ⟨rfl, I.turned (t' := s.toks) (fun b o hb q => eb b o hb q) f0 f1 f3 f4 f5⟩
  self := fun A i s Q E st h => let ⟨⟨_, he⟩, _⟩ := st; wpAny_pyIter_enum he h
def iEnumT (K : PySem.W.Frag) (ta : TA) : TI := fun σ H R => ta σ H fun vs H1 => ∃ a xs, vs = [.ref a] ∧ SqT K H1 a xs ∧ R (Iet K a) H1
theorem pi_enumT {X : Cx} {e : Expr} {ta : TA} {p pos tpos : Pos} {elts : List Expr} {kk : Nat} (hg : Gl X "enumerate") (hm : X.mg "enumerate" = none) (ha : PA X [e] ta) (hs : starEach [e] X.env = [(false, eval e X.env)] := by rfl) :
    PI X (.Tuple elts kk tpos) (.Call (.Name "enumerate" p) [e] [] pos) (iEnumT X.K ta) := by
  refine ⟨fun pins s σ H R I h => Call_ (ld_blt I hg hm boot_enumerate (PyProof.Rows.callWith_type1 (thn (ha.run pos pins s σ H _ I h) fun us s1 ⟨vs, H1, I1, r1, a, xs, ex, hq, q⟩ => ?_) hs rfl))⟩
  subst ex
  obtain ⟨u, rfl, ru⟩ := vals1 r1
  cases ru
  obtain ⟨its, rv, p', hz⟩ := I1.tuple hq
  have tp : s1.heap.IsTuple a its.toArray := p'
  refine call_enumT tp fun h' he hit hk => wpAny_pyIter_enum he ?_
  have J : Inv X pins σ H1 { s1 with heap := h' } := I1.kept (t' := s1.toks) hk
  refine ⟨s1.heap.objs.size + 1, [s1.heap.objs.size + 1, s1.heap.objs.size], _, _, H1, rfl, J, turn_enumT a (s1.heap.objs.size + 1) s1.heap.objs.size, ⟨⟨.none, he⟩, hit, Nat.succ_ne_self _⟩, fun b hb => ?_, q⟩
  have z : b = s1.heap.objs.size + 1 ∨ b = s1.heap.objs.size := by simpa using hb
  have le : s1.heap.objs.size ≤ b := by
    rcases z with rfl | rfl
    · exact Nat.le_succ _
    · exact Nat.le_refl _
  exact I1.fpOk le (I1.hok.fresh le)
/-! ### loops over it -/
theorem for_enumT {K : PySem.W.Frag} {a : Addr} {xs : List V} {g : TG} {tb : TS} {D : Ends} {σ : L2.St} {H : Hp} (Pv : Nat → L2.St → Hp → Prop) (h0 : Pv 0 σ H) (hl : ∀ i σ H, i ≤ xs.length → Pv i σ H → SqT K H a xs)
    (hs : ∀ i x T σ H, xs[i]? = some x → Pv i σ H → H T = none → g (.ref T) σ (upd H T (.tup [.int (i : Nat), x])) fun σ2 H2 => tb { D with nx := Pv (i + 1), ct := Pv (i + 1), bk := D.nx } σ2 H2) (hd : ∀ σ H, Pv xs.length σ H → D.nx σ H) :
    ∃ W : Nat → Nat → L2.St → Hp → Prop, (∃ m, W 0 m σ H) ∧ ∀ i m σ H, W i m σ H →
      ((Iet K a).stop i H ∧ D.nx σ H) ∨ ((Iet K a).go i H ∧ ∃ N : L2.St → Hp → Prop, (∀ σ' H', N σ' H' → ∃ m', m' < m ∧ W (i + 1) m' σ' H') ∧ ∀ x H', (Iet K a).yld i H x H' → g x σ H' fun σ2 H2 => tb { D with nx := N, ct := N, bk := D.nx } σ2 H2) := by
  refine ⟨fun i m σ H => m = xs.length - i ∧ i ≤ xs.length ∧ Pv i σ H, ⟨xs.length, by simp, Nat.zero_le _, h0⟩, ?_⟩
  rintro i m σ H ⟨rfl, hi, p⟩
  have q := hl i σ H hi p
  rcases Nat.lt_or_eq_of_le hi with hlt | rfl
  · refine .inr ⟨⟨xs, xs[i], q, by simp [hlt]⟩, Pv (i + 1), fun σ' H' p' => ⟨xs.length - (i + 1), by omega, rfl, hlt, p'⟩, fun x H' y => ?_⟩
    obtain ⟨T, z, rfl, hT, rfl, hz⟩ := y
    exact hs i z T σ H (hz xs q) p hT
  · exact .inl ⟨⟨xs, q, rfl⟩, hd σ H p⟩
theorem lc_enumT {K : PySem.W.Frag} {a : Addr} {xs : List V} {g : TG} {tt : TT} {te : TE} {vs : List Nat} {σ : L2.St} {H1 : Hp} {D : Addr} {Qd : Hp → Prop} (Pv : Nat → Hp → Prop) (h0 : Pv 0 (upd H1 D (.lst []))) (hl : ∀ i H, i ≤ xs.length → Pv i H → SqT K H a xs)
    (hs : ∀ i x T H, xs[i]? = some x → Pv i H → H T = none → g (.ref T) (wipe σ vs) (upd H T (.tup [.int (i : Nat), x])) fun σ2 H2 => wipe σ2 vs = wipe σ vs ∧ tt σ2 H2 fun b H3 =>
      if b = true then te σ2 H3 fun y H4 => ∃ acc, H4 D = some (.lst acc) ∧ acc.length < sizeLine ∧ Pv (i + 1) (upd H4 D (.lst (acc ++ [y]))) else Pv (i + 1) H3) (hd : ∀ H, Pv xs.length H → Qd H) :
    ∃ W : Nat → Nat → Hp → Prop, (∃ m, W 0 m (upd H1 D (.lst []))) ∧ ∀ i m H, W i m H →
      ((Iet K a).stop i H ∧ Qd H) ∨ ((Iet K a).go i H ∧ ∃ Nx : Hp → Prop, (∀ H', Nx H' → ∃ m', m' < m ∧ W (i + 1) m' H') ∧ ∀ x H', (Iet K a).yld i H x H' → g x (wipe σ vs) H' fun σ2 H2 => wipe σ2 vs = wipe σ vs ∧ tt σ2 H2 fun b H3 =>
        if b = true then te σ2 H3 fun y H4 => ∃ acc, H4 D = some (.lst acc) ∧ acc.length < sizeLine ∧ Nx (upd H4 D (.lst (acc ++ [y]))) else Nx H3) := by
  refine ⟨fun i m H => m = xs.length - i ∧ i ≤ xs.length ∧ Pv i H, ⟨xs.length, by simp, Nat.zero_le _, h0⟩, ?_⟩
  rintro i m H ⟨rfl, hi, p⟩
  have q := hl i H hi p
  rcases Nat.lt_or_eq_of_le hi with hlt | rfl
  · refine .inr ⟨⟨xs, xs[i], q, by simp [hlt]⟩, Pv (i + 1), fun H' p' => ⟨xs.length - (i + 1), by omega, rfl, hlt, p'⟩, fun x H' y => ?_⟩
    obtain ⟨T, z, rfl, hT, rfl, hz⟩ := y
    exact hs i z T H (hz xs q) p hT
  · exact .inl ⟨⟨xs, q, rfl⟩, hd H p⟩
/-! ### the same over a list -/
theorem for_enumL {K : PySem.W.Frag} {a : Addr} {xs : List V} {g : TG} {tb : TS} {D : Ends} {σ : L2.St} {H : Hp} (Pv : Nat → L2.St → Hp → Prop) (h0 : Pv 0 σ H) (hl : ∀ i σ H, i ≤ xs.length → Pv i σ H → SqL K H a xs)
    (hs : ∀ i x T σ H, xs[i]? = some x → Pv i σ H → H T = none → g (.ref T) σ (upd H T (.tup [.int (i : Nat), x])) fun σ2 H2 => tb { D with nx := Pv (i + 1), ct := Pv (i + 1), bk := D.nx } σ2 H2) (hd : ∀ σ H, Pv xs.length σ H → D.nx σ H) :
    ∃ W : Nat → Nat → L2.St → Hp → Prop, (∃ m, W 0 m σ H) ∧ ∀ i m σ H, W i m σ H →
      ((Ite K a).stop i H ∧ D.nx σ H) ∨ ((Ite K a).go i H ∧ ∃ N : L2.St → Hp → Prop, (∀ σ' H', N σ' H' → ∃ m', m' < m ∧ W (i + 1) m' σ' H') ∧ ∀ x H', (Ite K a).yld i H x H' → g x σ H' fun σ2 H2 => tb { D with nx := N, ct := N, bk := D.nx } σ2 H2) := by
  refine ⟨fun i m σ H => m = xs.length - i ∧ i ≤ xs.length ∧ Pv i σ H, ⟨xs.length, by simp, Nat.zero_le _, h0⟩, ?_⟩
  rintro i m σ H ⟨rfl, hi, p⟩
  have q := hl i σ H hi p
  rcases Nat.lt_or_eq_of_le hi with hlt | rfl
  · refine .inr ⟨⟨xs, xs[i], q, by simp [hlt]⟩, Pv (i + 1), fun σ' H' p' => ⟨xs.length - (i + 1), by omega, rfl, hlt, p'⟩, fun x H' y => ?_⟩
    obtain ⟨T, z, rfl, hT, rfl, hz⟩ := y
    exact hs i z T σ H (hz xs q) p hT
  · exact .inl ⟨⟨xs, q, Nat.le_refl _⟩, hd σ H p⟩
end Wr
end
section
set_option Elab.async false
set_option linter.all false
set_option maxRecDepth 100000
set_option maxHeartbeats 4000000
/-! # Comprehensions whose blocks leave what is there -/
namespace Wr
open PySem PySem.Spec PyProof.Rows L2
theorem same_tup {K : PySem.W.Frag} {H H' : Hp} {a : Addr} {xs : List V} (e : Same H H') (h : SqT K H a xs) : SqT K H' a xs := by
  rcases h with (h | ⟨o, h⟩) | h
  · exact .inl (.inl (e _ _ h))
  · exact .inl (.inr ⟨o, e _ _ h⟩)
  · exact .inr h
theorem same_new {H : Hp} {p : Addr} {o : HO} (h : H p = none) : Same H (upd H p o) := fun b u e => by rw [upd_ne (ne_of_none e h)]; exact e
theorem rng_snoc {α : Type} (p : Nat → Bool) (f : Nat → α) (i : Nat) : ((List.range (i + 1)).filter p).map f = ((List.range i).filter p).map f ++ (if p i = true then [f i] else []) := by
  rw [List.range_succ, List.filter_append, List.map_append]
  congr 1
  by_cases c : p i = true
  · rw [if_pos c, List.filter_cons_of_pos c]; rfl
  · rw [if_neg c, List.filter_cons_of_neg c]; rfl
theorem lcG {J : It} {n : Nat} {g : TG} {tt : TT} {te : TE} {vs : List Nat} {σ : L2.St} {H0 : Hp} {D : Addr} {Qd : Hp → Prop} (hD : H0 D = none) (p : Nat → Bool) (f : Nat → V)
    (hgo : ∀ i H, Same H0 H → i < n → J.go i H) (hstop : ∀ H, Same H0 H → J.stop n H) (hy : ∀ i x H H', Same H0 H → J.yld i H x H' → Same H H') (hn : n ≤ sizeLine)
    (hs : ∀ i x H H' (Rt : VK) (Rf : Hp → Prop), i < n → Same H0 H → J.yld i H x H' → (∀ H4, Same H' H4 → p i = true → Rt (f i) H4) → (∀ H3, Same H' H3 → p i = false → Rf H3) →
      g x (wipe σ vs) H' fun σ2 H2 => wipe σ2 vs = wipe σ vs ∧ tt σ2 H2 fun b H3 => if b = true then te σ2 H3 Rt else Rf H3)
    (hq : ∀ H', Same H0 H' → H' D = some (.lst (((List.range n).filter p).map f)) → Qd H') :
    ∃ W : Nat → Nat → Hp → Prop, (∃ m, W 0 m (upd H0 D (.lst []))) ∧ ∀ i m H, W i m H →
  (J.stop i H ∧ Qd H) ∨ (J.go i H ∧ ∃ Nx : Hp → Prop, (∀ H', Nx H' → ∃ m', m' < m ∧ W (i + 1) m' H') ∧ ∀ x H', J.yld i H x H' → g x (wipe σ vs) H' fun σ2 H2 => wipe σ2 vs = wipe σ vs ∧ tt σ2 H2 fun b H3 =>
    if b = true then te σ2 H3 fun y H4 => ∃ acc, H4 D = some (.lst acc) ∧ acc.length < sizeLine ∧ Nx (upd H4 D (.lst (acc ++ [y]))) else Nx H3) := by
  refine ⟨fun i m H => m = n - i ∧ i ≤ n ∧ Same H0 H ∧ H D = some (.lst (((List.range i).filter p).map f)), ⟨n, by simp, Nat.zero_le _, same_new hD, upd_same⟩, ?_⟩
  rintro i m H ⟨rfl, hi, sm, hl⟩
  rcases Nat.lt_or_eq_of_le hi with hlt | rfl
  · refine .inr ⟨hgo i H sm hlt, fun H' => Same H0 H' ∧ H' D = some (.lst (((List.range (i + 1)).filter p).map f)), fun H' q => ⟨n - (i + 1), by omega, rfl, hlt, q⟩, fun x H' y => ?_⟩
    have s1 := hy i x H H' sm y
    refine hs i x H H' _ _ hlt sm y (fun H4 s4 c => ?_) (fun H3 s3 c => ?_)
    · have hl4 := s4 _ _ (s1 _ _ hl)
      refine ⟨_, hl4, ?_, ?_, ?_⟩
      · have := List.length_filter_le p (List.range i)
        rw [List.length_range] at this
        rw [List.length_map]
        omega
      · intro b u e
        rw [upd_ne (ne_of_none e hD)]
        exact s4 _ _ (s1 _ _ (sm _ _ e))
      · rw [upd_same, rng_snoc, if_pos c]
    · refine ⟨(sm.trans s1).trans s3, ?_⟩
      rw [rng_snoc, c, if_neg (by simp), List.append_nil]
      exact s3 _ _ (s1 _ _ hl)
  · exact .inl ⟨hstop H sm, hq H sm hl⟩
section
variable {K : PySem.W.Frag} {a : Addr} {xs : List V} {g : TG} {tt : TT} {te : TE} {vs : List Nat} {σ : L2.St} {H0 : Hp} {D : Addr} {Qd : Hp → Prop}
theorem lcL (hD : H0 D = none) (p : Nat → Bool) (f : Nat → V) (ha : SqL K H0 a xs) (hn : xs.length ≤ sizeLine)
    (hs : ∀ i x H (Rt : VK) (Rf : Hp → Prop), xs[i]? = some x → Same H0 H → (∀ H4, Same H H4 → p i = true → Rt (f i) H4) → (∀ H3, Same H H3 → p i = false → Rf H3) →
      g x (wipe σ vs) H fun σ2 H2 => wipe σ2 vs = wipe σ vs ∧ tt σ2 H2 fun b H3 => if b = true then te σ2 H3 Rt else Rf H3)
    (hq : ∀ H', Same H0 H' → H' D = some (.lst (((List.range xs.length).filter p).map f)) → Qd H') :
    ∃ W : Nat → Nat → Hp → Prop, (∃ m, W 0 m (upd H0 D (.lst []))) ∧ ∀ i m H, W i m H →
  ((Itl K a).stop i H ∧ Qd H) ∨ ((Itl K a).go i H ∧ ∃ Nx : Hp → Prop, (∀ H', Nx H' → ∃ m', m' < m ∧ W (i + 1) m' H') ∧ ∀ x H', (Itl K a).yld i H x H' → g x (wipe σ vs) H' fun σ2 H2 => wipe σ2 vs = wipe σ vs ∧ tt σ2 H2 fun b H3 =>
    if b = true then te σ2 H3 fun y H4 => ∃ acc, H4 D = some (.lst acc) ∧ acc.length < sizeLine ∧ Nx (upd H4 D (.lst (acc ++ [y]))) else Nx H3) := by
  refine lcG hD p f (fun i H s hi => ⟨xs, xs[i], s.seq ha, by simp [hi]⟩) (fun H s => ⟨xs, s.seq ha, Nat.le_refl _⟩) (fun i x H H' s y => ?_) hn (fun i x H H' Rt Rf hi s y h1 h2 => ?_) hq
  · obtain ⟨e, _⟩ := y; subst e; exact Same.refl _
  · obtain ⟨e, y⟩ := y
    subst e
    exact hs i x _ Rt Rf (y xs (s.seq ha)) s h1 h2
theorem lcT (hD : H0 D = none) (p : Nat → Bool) (f : Nat → V) (ha : SqT K H0 a xs) (hn : xs.length ≤ sizeLine)
    (hs : ∀ i x H (Rt : VK) (Rf : Hp → Prop), xs[i]? = some x → Same H0 H → (∀ H4, Same H H4 → p i = true → Rt (f i) H4) → (∀ H3, Same H H3 → p i = false → Rf H3) →
      g x (wipe σ vs) H fun σ2 H2 => wipe σ2 vs = wipe σ vs ∧ tt σ2 H2 fun b H3 => if b = true then te σ2 H3 Rt else Rf H3)
    (hq : ∀ H', Same H0 H' → H' D = some (.lst (((List.range xs.length).filter p).map f)) → Qd H') :
    ∃ W : Nat → Nat → Hp → Prop, (∃ m, W 0 m (upd H0 D (.lst []))) ∧ ∀ i m H, W i m H →
  ((Itt K a).stop i H ∧ Qd H) ∨ ((Itt K a).go i H ∧ ∃ Nx : Hp → Prop, (∀ H', Nx H' → ∃ m', m' < m ∧ W (i + 1) m' H') ∧ ∀ x H', (Itt K a).yld i H x H' → g x (wipe σ vs) H' fun σ2 H2 => wipe σ2 vs = wipe σ vs ∧ tt σ2 H2 fun b H3 =>
    if b = true then te σ2 H3 fun y H4 => ∃ acc, H4 D = some (.lst acc) ∧ acc.length < sizeLine ∧ Nx (upd H4 D (.lst (acc ++ [y]))) else Nx H3) := by
  refine lcG hD p f (fun i H s hi => ⟨xs, xs[i], same_tup s ha, by simp [hi]⟩) (fun H s => ⟨xs, same_tup s ha, Nat.le_refl _⟩) (fun i x H H' s y => ?_) hn (fun i x H H' Rt Rf hi s y h1 h2 => ?_) hq
  · obtain ⟨e, _⟩ := y; subst e; exact Same.refl _
  · obtain ⟨e, y⟩ := y
    subst e
    exact hs i x _ Rt Rf (y xs (same_tup s ha)) s h1 h2
theorem lcR {lo : Int} {n : Nat} (hD : H0 D = none) (p : Nat → Bool) (f : Nat → V) (hn : n ≤ sizeLine)
    (hs : ∀ i H (Rt : VK) (Rf : Hp → Prop), i < n → Same H0 H → (∀ H4, Same H H4 → p i = true → Rt (f i) H4) → (∀ H3, Same H H3 → p i = false → Rf H3) →
      g (.int (lo + (i : Nat))) (wipe σ vs) H fun σ2 H2 => wipe σ2 vs = wipe σ vs ∧ tt σ2 H2 fun b H3 => if b = true then te σ2 H3 Rt else Rf H3)
    (hq : ∀ H', Same H0 H' → H' D = some (.lst (((List.range n).filter p).map f)) → Qd H') :
    ∃ W : Nat → Nat → Hp → Prop, (∃ m, W 0 m (upd H0 D (.lst []))) ∧ ∀ i m H, W i m H →
  ((Itr lo n).stop i H ∧ Qd H) ∨ ((Itr lo n).go i H ∧ ∃ Nx : Hp → Prop, (∀ H', Nx H' → ∃ m', m' < m ∧ W (i + 1) m' H') ∧ ∀ x H', (Itr lo n).yld i H x H' → g x (wipe σ vs) H' fun σ2 H2 => wipe σ2 vs = wipe σ vs ∧ tt σ2 H2 fun b H3 =>
    if b = true then te σ2 H3 fun y H4 => ∃ acc, H4 D = some (.lst acc) ∧ acc.length < sizeLine ∧ Nx (upd H4 D (.lst (acc ++ [y]))) else Nx H3) := by
  refine lcG hD p f (fun i H s hi => hi) (fun H s => Nat.le_refl _) (fun i x H H' s y => ?_) hn (fun i x H H' Rt Rf hi s y h1 h2 => ?_) hq
  · obtain ⟨e, _⟩ := y; subst e; exact Same.refl _
  · obtain ⟨e, y⟩ := y
    subst e y
    exact hs i _ Rt Rf hi s h1 h2
theorem lcE (hD : H0 D = none) (p : Nat → Bool) (f : Nat → V) (ha : SqT K H0 a xs) (hn : xs.length ≤ sizeLine)
    (hs : ∀ i x U H (Rt : VK) (Rf : Hp → Prop), xs[i]? = some x → Same H0 H → SqT K H U [.int (i : Nat), x] → (∀ H4, Same H H4 → p i = true → Rt (f i) H4) → (∀ H3, Same H H3 → p i = false → Rf H3) →
      g (.ref U) (wipe σ vs) H fun σ2 H2 => wipe σ2 vs = wipe σ vs ∧ tt σ2 H2 fun b H3 => if b = true then te σ2 H3 Rt else Rf H3)
    (hq : ∀ H', Same H0 H' → H' D = some (.lst (((List.range xs.length).filter p).map f)) → Qd H') :
    ∃ W : Nat → Nat → Hp → Prop, (∃ m, W 0 m (upd H0 D (.lst []))) ∧ ∀ i m H, W i m H →
  ((Iet K a).stop i H ∧ Qd H) ∨ ((Iet K a).go i H ∧ ∃ Nx : Hp → Prop, (∀ H', Nx H' → ∃ m', m' < m ∧ W (i + 1) m' H') ∧ ∀ x H', (Iet K a).yld i H x H' → g x (wipe σ vs) H' fun σ2 H2 => wipe σ2 vs = wipe σ vs ∧ tt σ2 H2 fun b H3 =>
    if b = true then te σ2 H3 fun y H4 => ∃ acc, H4 D = some (.lst acc) ∧ acc.length < sizeLine ∧ Nx (upd H4 D (.lst (acc ++ [y]))) else Nx H3) := by
  refine lcG hD p f (fun i H s hi => ⟨xs, xs[i], same_tup s ha, by simp [hi]⟩) (fun H s => ⟨xs, same_tup s ha, rfl⟩) (fun i x H H' s y => ?_) hn (fun i x H H' Rt Rf hi s y h1 h2 => ?_) hq
  · obtain ⟨T, z, rfl, hT, rfl, hz⟩ := y; exact same_new hT
  · obtain ⟨T, z, rfl, hT, rfl, hz⟩ := y
    exact hs i z T _ Rt Rf (hz xs (same_tup s ha)) (s.trans (same_new hT)) (SqT.of upd_same) h1 h2
end
/-! ### lists by place -/
theorem list_rng {α : Type} (l : List α) (d : α) : (List.range l.length).map (fun i => l.getD i d) = l := by
  apply List.ext_getElem?
  intro i
  rw [List.getElem?_map]
  by_cases h : i < l.length
  · rw [List.getElem?_range h]
    simp [h]
  · rw [List.getElem?_eq_none (by simpa using h), List.getElem?_eq_none (by simpa using h)]; rfl
theorem rng_fm {α β : Type} (l : List α) (d : α) (p : α → Bool) (f : α → β) {n : Nat} (hn : n = l.length) : ((List.range n).filter fun i => p (l.getD i d)).map (fun i => f (l.getD i d)) = (l.filter p).map f := by
  subst hn
  conv => rhs; rw [← list_rng l d, List.filter_map, List.map_map]
  rfl
theorem rng_m {α β : Type} (l : List α) (d : α) (f : α → β) {n : Nat} (hn : n = l.length) : ((List.range n).filter fun _ => true).map (fun i => f (l.getD i d)) = l.map f := by
  subst hn
  rw [List.filter_eq_self.mpr (fun _ _ => rfl)]
  conv => rhs; rw [← list_rng l d, List.map_map]
  rfl
theorem getD_of {α : Type} {l : List α} {i : Nat} {x d : α} (h : l[i]? = some x) : l.getD i d = x := by
  rw [List.getD_eq_getElem?_getD, h]; rfl
end Wr
end
section
set_option Elab.async false
set_option linter.all false
set_option maxRecDepth 100000
set_option maxHeartbeats 2000000
/-! # What the head tells, in the form that a def's proof asks -/
namespace Wt
open PySem PySem.Spec PyProof.Rows L2 Wr
open PySem.W (Frag nsIn findIn)
def Txt (K : Frag) (mg : Str → Option Value) : Prop := SaysW K ∧ ∃ h : Heap, K.In h ∧ h.Ns mainGlobals mg
section
variable {K : Frag} {mg : Str → Option Value}
theorem Txt.bits (T : Txt K mg) : (fa.all fun f => f.ok K) = true ∧ (fn.all fun d => (He.Fa.code d.at_ d.qual).ok K) = true ∧ exB K = true := by
  have h : ((fa.all fun f => f.ok K) && ((fn.all fun d => (He.Fa.code d.at_ d.qual).ok K) && exB K)) = true := congrArg (fun z : He.Al => z.1) T.1
  obtain ⟨h1, h2⟩ := He.ba h
  obtain ⟨h3, h4⟩ := He.ba h2
  exact ⟨h1, h3, h4⟩
theorem Txt.fact (T : Txt K mg) {f : He.Fa} (h : f ∈ fa) : f.ok K = true := List.all_eq_true.mp T.bits.1 f h
theorem mem_fa {f : He.Fa} (h : f ∈ faGlo.map He.Fa.glo ∨ f ∈ faKeep.map He.Fa.keep ∨ f ∈ faFree.map He.Fa.free ∨ f ∈ faInt.map (fun p => He.Fa.int p.1 p.2) ∨ f ∈ faCls.map He.Fa.cls ∨ f ∈ faCls.map He.Fa.mkr ∨ f ∈ faCls.map (fun x => He.Fa.meth x "__init__") ∨ f ∈ faAt.map (fun p => He.Fa.noat p.1 p.2)) : f ∈ fa := by
  unfold fa
  simp only [List.mem_append]
  rcases h with h | h | h | h | h | h | h | h
  · exact .inl (.inl (.inl (.inl (.inl (.inl (.inl h))))))
  · exact .inl (.inl (.inl (.inl (.inl (.inl (.inr h))))))
  · exact .inl (.inl (.inl (.inl (.inl (.inr h)))))
  · exact .inl (.inl (.inl (.inl (.inr h))))
  · exact .inl (.inl (.inl (.inr h)))
  · exact .inl (.inl (.inr h))
  · exact .inl (.inr h)
  · exact .inr h
theorem Txt.glo (T : Txt K mg) (x : Str) (h : x ∈ faGlo := by decide +kernel) : mg x = some (.ref (He.ga K x)) := by
  obtain ⟨_, _, X, G⟩ := id T
  exact He.glo_ok X G (T.fact (mem_fa (.inl (List.mem_map_of_mem h))))
theorem Txt.keep (T : Txt K mg) (x : Str) (h : x ∈ faKeep := by decide +kernel) : PySem.W.keepIn K (.ref (He.ga K x)) = true :=
  He.keep_ok (T.fact (mem_fa (.inr (.inl (List.mem_map_of_mem h)))))
theorem Txt.free (T : Txt K mg) (x : Str) (h : x ∈ faFree := by decide +kernel) : mg x = none := by
  obtain ⟨_, _, X, G⟩ := id T
  exact He.free_ok X G (T.fact (mem_fa (.inr (.inr (.inl (List.mem_map_of_mem h))))))
theorem Txt.int (T : Txt K mg) (x : Str) (i : Int) (h : (x, i) ∈ faInt := by decide +kernel) : ∃ t, mg x = some (.int i t) := by
  obtain ⟨_, _, X, G⟩ := id T
  exact He.int_ok X G (T.fact (mem_fa (.inr (.inr (.inr (.inl (List.mem_map.mpr ⟨(x, i), h, rfl⟩)))))))
theorem Txt.cls (T : Txt K mg) (x : Str) (h : x ∈ faCls := by decide +kernel) : Cls K (He.ga K x) := He.cls_ok (T.fact (mem_fa (.inr (.inr (.inr (.inr (.inl (List.mem_map_of_mem h))))))))
theorem Txt.mkr (T : Txt K mg) (x : Str) (h : x ∈ faCls := by decide +kernel) : Mk K (He.ga K x) (He.ma K (He.ga K x) "__init__") := He.mkr_ok (T.fact (mem_fa (.inr (.inr (.inr (.inr (.inr (.inl (List.mem_map_of_mem h)))))))))
theorem Txt.meth (T : Txt K mg) (x : Str) (h : x ∈ faCls := by decide +kernel) : Meth K (He.ga K x) "__init__" (He.ma K (He.ga K x) "__init__") := He.meth_ok (T.fact (mem_fa (.inr (.inr (.inr (.inr (.inr (.inr (.inl (List.mem_map.mpr ⟨x, h, rfl⟩)))))))))  )
theorem Txt.noat (T : Txt K mg) (x f : Str) (h : (x, f) ∈ faAt := by decide +kernel) : NoAttr K (He.ga K x) f := He.noat_ok (T.fact (mem_fa (.inr (.inr (.inr (.inr (.inr (.inr (.inr (List.mem_map.mpr ⟨(x, f), h, rfl⟩))))))))))
/-- a name's whole number, as a value -/
theorem pe_i {X : Cx} {x : Str} {i : Int} {pos : Pos} (T : Txt X.K X.mg) (hg : Gl X x) (h : (x, i) ∈ faInt := by decide +kernel) (hd : (x == ("__debug__" : Str)) = false := by decide) : PE X (.Name x pos) (tC (.int i)) := by
  obtain ⟨t, e⟩ := T.int x i h
  exact pe_glob hg e ⟨t, rfl⟩ (hd := hd)
theorem Txt.fd (T : Txt K mg) (i : Nat) {d : He.FnD} {st : Stmt} (h : fn[i]? = some d := by rfl) (h1 : d.params = defArgs st := by rfl) (h2 : d.body = defBody st := by rfl) (h3 : d.scope = defScope st := by rfl) (kp : PySem.W.keepIn K (.ref (He.fAd K d.at_)) = true) :
    ∃ fd, Fun K d.name d.qual st (He.fAd K d.at_) fd := by
  have c2 := T.bits.2.1
  have e : fn.map (fun d => He.fnObs K d.at_) = fn.map He.FnD.val := congrArg (fun z : He.Al => z.2) T.1
  have e2 : (fn.map fun d => He.fnObs K d.at_)[i]? = (fn.map He.FnD.val)[i]? := by rw [e]
  rw [List.getElem?_map, List.getElem?_map, h] at e2
  obtain ⟨oc, od, osl, kV, doc, pm, an, cdv, ct, l, c⟩ := He.fn_ok (Option.some.inj e2) (List.all_eq_true.mp c2 d (List.mem_of_getElem? h))
  rw [h1, h2, h3] at l
  exact ⟨_, fun_mk l c kp⟩
end
section
variable {P : Program} {w : World} {K : Frag} {mg : Str → Option Value} {base : Heap}
/-- a def that nothing leaves -/
theorem dok0 {x : Str} {st : Stmt} {N ps : List Str} {k : Nat} {sp : Sp} (T : Txt K mg) (d : ∃ fd, Fun K x x st (He.ga K x) fd) (g : mg x = some (.ref (He.ga K x))) (S : FnScope N ps (defScope st))
    (hb : ∀ (kV doc pm : Value) (an : Option Addr) (cdv ct : Value) (us : List Value), us.length = ps.length → bindArgs (PySem.W.fnOf x x (defArgs st) (defBody st) (defScope st) .none kV doc pm an cdv ct) ⟨us, []⟩ = pure (ps.zip us))
    (len : ∀ vs H Q E, sp vs H Q E → vs.length = ps.length)
    (hbody : ∀ (cdv : Value) (A : Around) (outer : List Env) (s : Shared) (H : Hp) (vs : List V) (Q : VK) (E : XK), Room k (A.deeper (envOfC x (defScope st) s.heap.objs.size (He.ga K x) cdv)) → sp vs H Q E →
      ∃ t, PSs (cxOf CX0 P w K mg base N x (defScope st) (He.ga K x) cdv A outer s H E).nox (defBody st) t ∧ t { nx := fun _ H' => Q .non H', rt := Q } (start N vs) H) : DefOk P w K mg base CX0 (k + 1) x ps sp := by
  obtain ⟨fd, F⟩ := d
  exact ⟨fd, F.ok S len hbody, F.binds hb, g, F.kp⟩
/-- a def that an error may leave -/
theorem dokX {x : Str} {st : Stmt} {N ps : List Str} {k : Nat} {sp : Sp} (T : Txt K mg) (d : ∃ fd, Fun K x x st (He.ga K x) fd) (g : mg x = some (.ref (He.ga K x))) (S : FnScope N ps (defScope st))
    (hb : ∀ (kV doc pm : Value) (an : Option Addr) (cdv ct : Value) (us : List Value), us.length = ps.length → bindArgs (PySem.W.fnOf x x (defArgs st) (defBody st) (defScope st) .none kV doc pm an cdv ct) ⟨us, []⟩ = pure (ps.zip us))
    (len : ∀ vs H Q E, sp vs H Q E → vs.length = ps.length)
    (hbody : ∀ (cdv : Value) (A : Around) (outer : List Env) (s : Shared) (H : Hp) (vs : List V) (Q : VK) (E : XK), Room k (A.deeper (envOfC x (defScope st) s.heap.objs.size (He.ga K x) cdv)) → sp vs H Q E →
      ∃ t, PSs (cxOf (L2.CX P w) P w K mg base N x (defScope st) (He.ga K x) cdv A outer s H E) (defBody st) t ∧ t { nx := fun _ H' => Q .non H', rt := Q } (start N vs) H) : DefOk P w K mg base (L2.CX P w) (k + 1) x ps sp := by
  obtain ⟨fd, F⟩ := d
  exact ⟨fd, F.okX S len hbody, F.binds hb, g, F.kp⟩
/-- a class's __init__ -/
theorem mok {x qual : Str} {st : Stmt} {N ps : List Str} {k : Nat} {sp : Sp} (d : ∃ fd, Fun K "__init__" qual st (He.ma K (He.ga K x) "__init__") fd) (g : mg x = some (.ref (He.ga K x))) (M : Mk K (He.ga K x) (He.ma K (He.ga K x) "__init__")) (S : FnScope N ps (defScope st))
    (hb : ∀ (kV doc pm : Value) (an : Option Addr) (cdv ct : Value) (us : List Value), us.length = ps.length → bindArgs (PySem.W.fnOf "__init__" qual (defArgs st) (defBody st) (defScope st) .none kV doc pm an cdv ct) ⟨us, []⟩ = pure (ps.zip us))
    (len : ∀ vs H Q E, sp vs H Q E → vs.length = ps.length)
    (hbody : ∀ (cdv : Value) (A : Around) (outer : List Env) (s : Shared) (H : Hp) (vs : List V) (Q : VK) (E : XK), Room k (A.deeper (envOfC qual (defScope st) s.heap.objs.size (He.ma K (He.ga K x) "__init__") cdv)) → sp vs H Q E →
      ∃ t, PSs (cxOf CX0 P w K mg base N qual (defScope st) (He.ma K (He.ga K x) "__init__") cdv A outer s H E).nox (defBody st) t ∧ t { nx := fun _ H' => Q .non H', rt := Q } (start N vs) H) : MkOk P w K mg base (k + 1) x ps sp := by
  obtain ⟨fd, F⟩ := d
  exact ⟨fd, F.ok S len hbody, F.binds hb, g, M⟩
end
end Wt
end
section
set_option Elab.async false
set_option linter.all false
set_option maxRecDepth 100000
set_option maxHeartbeats 4000000
/-! # max with default, over a tuple of whole numbers; MINUTES[i] -/
namespace Wr
open PySem PySem.Spec PyProof.Rows L2
theorem reads_ints {h : Heap} : ∀ {ns : List Int} {us : List Value}, Vals (ns.map V.int) us → ReadsAll h us (ns.map PyData.int) []
  | [], _, .nil => .nil
  | n :: ns, _, .cons r rs => by
    obtain ⟨t, rfl⟩ := (show ∃ t, _ = Value.int n t from r)
    have := ReadsAll.cons (h := h) (Reads.int n t) (reads_ints rs)
    simpa using this
theorem depth_ints : ∀ ns : List Int, PyData.depthAll (ns.map PyData.int) = 0
  | [] => rfl
  | n :: ns => by
    have := depth_ints ns
    simp only [List.map_cons, PyData.depthAll, PyData.depth, this]
    rfl
theorem alike_ints (ns : List Int) : PySem.W.AlikeAll (ns.map PyData.int) := by
  refine ⟨fun x hx y hy => ?_, fun x hx => ?_⟩
  · obtain ⟨i, _, rfl⟩ := List.mem_map.mp hx
    obtain ⟨j, _, rfl⟩ := List.mem_map.mp hy
    rfl
  · obtain ⟨i, _, rfl⟩ := List.mem_map.mp hx
    simp
theorem foldl_maxI : ∀ (ns : List Int) (a : Int), ns.foldl max a ∈ a :: ns ∧ ∀ y ∈ a :: ns, y ≤ ns.foldl max a
  | [], a => ⟨by simp, fun y hy => by rw [List.mem_singleton.mp hy]; exact Int.le_refl _⟩
  | n :: ns, a => by
    obtain ⟨h1, h2⟩ := foldl_maxI ns (max a n)
    rw [List.foldl_cons]
    refine ⟨?_, fun y hy => ?_⟩
    · rcases List.mem_cons.mp h1 with q | q
      · rw [q]
        rcases Int.le_total a n with c | c
        · rw [Int.max_eq_right c]; simp
        · rw [Int.max_eq_left c]; simp
      · exact List.mem_cons_of_mem _ (List.mem_cons_of_mem _ q)
    · have h3 := h2 (max a n) List.mem_cons_self
      rcases List.mem_cons.mp hy with q | q
      · subst q; omega
      · rcases List.mem_cons.mp q with q | q
        · subst q; omega
        · exact h2 y (List.mem_cons_of_mem _ q)
def rMaxDf (K : PySem.W.Frag) : List V → List V → Hp → VK → Prop := fun vs zs H Q => ∃ (a : Addr) (ns : List Int) (d : V), vs = [.ref a] ∧ zs = [d] ∧ SqT K H a (ns.map V.int) ∧ (ns = [] → Q d H) ∧ ∀ m, m ∈ ns → (∀ y ∈ ns, y ≤ m) → Q (.int m) H
theorem cr_maxDf {X : Cx} (hc : X.calm = true) (hu : X.A.units + 1 < cLine) : CallRK X (.builtin "max") ["default"] (rMaxDf X.K) := by
  intro pins s σ H xs zs us ws Q I rx rz h
  obtain ⟨a, ns, d, rfl, rfl, hs, q0, q1⟩ := h
  obtain ⟨its, rv, hl, _⟩ := I.tuple hs
  rw [Vals.ref1 rx]
  obtain ⟨u, rfl, ru⟩ := vals1 rz
  have tp : s.heap.IsTuple a its.toArray := hl
  refine PySem.W.max_tuple_default (xs := ns.map PyData.int) (as := []) (I.ok.hd hc) tp (by rw [List.toList_toArray]; exact reads_ints rv) (alike_ints ns) (by rw [depth_ints]; exact hu) (fun e h' tk hk => ?_) (fun y ys i v h' tk bs e hi r hk => ?_)
  · exact ⟨d, H, I.kept hk, ru, q0 (List.map_eq_nil_iff.mp e)⟩
  · cases ns with
    | nil => cases e
    | cons n ns =>
      rw [List.map_cons] at e
      obtain ⟨rfl, rfl⟩ := List.cons.inj e
      rw [PySem.W.maxD_ints] at r
      obtain ⟨h1, h2⟩ := foldl_maxI ns n
      cases r
      exact ⟨.int _, H, I.kept hk, ⟨_, rfl⟩, q1 _ h1 h2⟩
/-! ### MINUTES[i] -/
theorem minB_find {es : List DictEntry} : ∀ {ps : List (Int × Int)}, Wt.minB es ps = true → (∀ e ∈ es, ∃ k t, e.key = .int k t ∧ e.hash = hashInt k) ∧ ∀ k v, ps.lookup k = some v → ∃ t, (es.find? fun e => Value.isInt k e.key).map (·.val) = some (.int v t) := by
  induction es with
  | nil =>
    intro ps h
    cases ps with
    | nil => exact ⟨by simp, fun k v h => by simp at h⟩
    | cons p ps => cases h
  | cons e r ih =>
    intro ps h
    cases ps with
    | nil => cases h
    | cons p s =>
      obtain ⟨k0, v0⟩ := p
      obtain ⟨h1, h2⟩ := He.ba (show (_ && _) = true from h)
      obtain ⟨i1, i2⟩ := ih h2
      obtain ⟨eh, ek, ev⟩ := e
      cases ek with
      | int i t =>
        cases ev with
        | int j t' =>
          obtain ⟨h3, h4⟩ := He.ba (show (_ && _) = true from h1)
          obtain ⟨h5, h6⟩ := He.ba h3
          have e5 : i = k0 := of_decide_eq_true h5
          have e6 : j = v0 := of_decide_eq_true h6
          have e4 : eh = hashInt k0 := of_decide_eq_true h4
          subst e5 e6 e4
          refine ⟨fun e he => ?_, fun k v hk => ?_⟩
          · rcases List.mem_cons.mp he with rfl | he
            · exact ⟨_, _, rfl, rfl⟩
            · exact i1 e he
          · by_cases c : k = i
            · subst c
              rw [List.lookup_cons_self] at hk
              cases hk
              exact ⟨t', by rw [List.find?_cons_of_pos (by simp [Value.isInt])]; rfl⟩
            · rw [List.lookup_cons, beq_false_of_ne c] at hk
              obtain ⟨t2, e2⟩ := i2 k v hk
              refine ⟨t2, ?_⟩
              rw [List.find?_cons_of_neg]
              · exact e2
              · simp [Value.isInt]; exact fun q => c q.symm
        | _ => cases h1
      | _ => cases h1
theorem ix_min {X : Cx} (T : Wt.Txt X.K X.mg) : IxR X (fun x y H Q => ∃ k v, x = .ref (He.ga X.K "MINUTES") ∧ y = .int k ∧ Wt.minutesT.lookup k = some v ∧ Q (.int v) H) := by
  intro value slice pins s σ H x y v u Q I rx ry h hs
  obtain ⟨k, r, rfl, rfl, e, q⟩ := h
  obtain rfl : v = Value.ref (He.ga X.K "MINUTES") := rx
  obtain ⟨t, rfl⟩ := ry
  have hm0 : Wt.minOk X.K = true := (He.ba (He.ba (show (Wt.refFacts X.K && _) = true from T.bits.2.2)).2).1
  obtain ⟨es, n, hl, hb⟩ : ∃ es n, X.K.lookup (He.ga X.K "MINUTES") = some ⟨.type "dict", none, .dict es n, #[]⟩ ∧ Wt.minB es.toList Wt.minutesT = true := by
    unfold Wt.minOk at hm0
    split at hm0
    · rename_i c es n sl hh
      obtain ⟨h1, h2⟩ := He.ba hm0
      obtain ⟨h3, h4⟩ := He.ba h2
      have e1 : c = "dict" := of_decide_eq_true h1
      have e2 : sl = #[] := by
        have := of_decide_eq_true h3
        simpa using this
      subst e1 e2
      exact ⟨es, n, hh, h4⟩
    · cases hm0
  obtain ⟨b1, b2⟩ := minB_find hb
  obtain ⟨t', e'⟩ := b2 k r e
  have hm : s.heap.MapOf (intKind X.prog X.w) (He.ga X.K "MINUTES") (fun k => findBy Value.isInt es k) :=
    ⟨_, es, n, I.kIn _ _ hl, ⟨rfl, rfl, rfl⟩, rfl, fun e he => by
      obtain ⟨k, t, h1, h2⟩ := b1 e (Array.mem_toList_iff.mpr he)
      exact ⟨k, by rw [h1]; exact intKind_is _ _ _ _, h2⟩, fun _ => rfl⟩
  have hf : findBy Value.isInt es k = some (.int r t') := by
    obtain ⟨l⟩ := es
    unfold findBy
    rw [List.find?_toArray]
    exact e'
  exact tail_any hm.typeIs slot_dict_getitem.lookup (wpAny_getItem_of (intKind_is X.prog X.w k t) hm hf ⟨.int r, H, I.tok _, ⟨_, rfl⟩, q⟩) hs
/-! ### the same rules, the module's objects by their own name: inside a comprehension -/
section
variable {X : Cx}
theorem pe_fldK (K : PySem.W.Frag) {e : Expr} {ta : TE} {f : Str} {pos : Pos} (he : PE X e ta) (hK : X.K = K := by rfl) (hb : attributeBase e f X.env (eval e X.env) = eval e X.env := by rfl) : PE X (.Attribute e f pos) (tFld K ta f) := hK ▸ pe_fld he hb
theorem ix_listK (K : PySem.W.Frag) (hK : X.K = K := by rfl) : IxR X (rIxL K) := hK ▸ ix_list
theorem cr_maxK (K : PySem.W.Frag) (hc : X.calm = true := by rfl) (hK : X.K = K := by rfl) : CallR X (.builtin "max") (rMax K) := hK ▸ cr_max hc
theorem cr_minK (K : PySem.W.Frag) (hc : X.calm = true := by rfl) (hK : X.K = K := by rfl) : CallR X (.builtin "min") (rMin K) := hK ▸ cr_min hc
theorem pi_listK (K : PySem.W.Frag) {tg e : Expr} {te : TE} (he : PE X e te) (hK : X.K = K := by rfl) : PI X tg e (iList K te) := hK ▸ pi_list he
theorem pe_nK (K : PySem.W.Frag) {k : Nat} {x : Str} {ps : List Str} {sp : Sp} {e : Expr} {es : List Expr} {t : TA} {p pos : Pos} (D : MkOk X.prog X.w X.K X.mg X.base k x ps sp) (hr : Room (k + 1) X.A) (hg : Gl X x) (ha : PA X (e :: es) t) (hK : X.K = K := by rfl) (hdb : (x == ("__debug__" : Str)) = false := by decide)
    (he : starEach (e :: es) X.env = (false, eval e X.env) :: starEach es X.env := by rfl) (hpl : (backTo pos (starEach es X.env)).any (·.1) = false := by rfl) :
    PE X (.Call (.Name x p) (e :: es) [] pos) (tMake (He.ga K x) sp [] E0 t) := hK ▸ pe_n D hr hg ha hdb he hpl
end
end Wr
end
section
set_option Elab.async false
set_option linter.all false
set_option maxRecDepth 100000
set_option maxHeartbeats 4000000
/-! # list(zip(xs, t)): a list and a tuple -/
namespace Wz
open PySem PySem.W PyProof.Rows PyProof.V PySem.Spec
open Sem (wp)
theorem zip_no_len : typeLookup (.type "zip") "__len__" = pure none := am_miss_of_fast (by decide +kernel)
theorem zip_no_hint : typeLookup (.type "zip") "__length_hint__" = pure none := am_miss_of_fast (by decide +kernel)
/-- a zip over the list l1 and the tuple l2, i turns on -/
structure ZS (h : Heap) (z TI TO i1 i2 l1 l2 S : Addr) (xs ys : Array Value) (i : Nat) : Prop where
  out : (IsZip h z TI TO .none ∧ ∃ a b, IsPair h TO a b) ∨ ∃ T f oT, IsZipHeld h z TI TO T f ∧ h.get? T = some oT ∧ T ≠ z ∧ T ≠ TO ∧ T ≠ i1 ∧ T ≠ i2 ∧ T ≠ S
  ti : IsPair h TI (.ref i1) (.ref i2)
  it1 : h.IsListIter i1 l1 i
  it2 : h.IsTupleIter i2 l2 i
  hl1 : h.IsList l1 xs
  hl2 : h.IsTuple l2 ys
theorem ZS.keep {h h' : Heap} {z TI TO i1 i2 l1 l2 S : Addr} {xs ys : Array Value} {i : Nat} (st : ZS h z TI TO i1 i2 l1 l2 S xs ys i) (k : ∀ b o, b ≠ S → h.get? b = some o → h'.get? b = some o)
    (n : z ≠ S ∧ TI ≠ S ∧ TO ≠ S ∧ i1 ≠ S ∧ i2 ≠ S ∧ l1 ≠ S ∧ l2 ≠ S) : ZS h' z TI TO i1 i2 l1 l2 S xs ys i := by
  obtain ⟨n1, n2, n3, n4, n5, n6, n7⟩ := n
  refine ⟨?_, k _ _ n2 st.ti, st.it1.at fun o e => k _ o n4 e, st.it2.at fun o e => k _ o n5 e, st.hl1.at fun o e => k _ o n6 e, ?_⟩
  · rcases st.out with ⟨a, x, y, b⟩ | ⟨T, f, oT, a, b, c1, c2, c3, c4, c5⟩
    · exact .inl ⟨k _ _ n1 a, x, y, k _ _ n3 b⟩
    · exact .inr ⟨T, f, oT, k _ _ n1 a, k _ _ c5 b, c1, c2, c3, c4, c5⟩
  · obtain ⟨o, e, r⟩ := st.hl2
    exact ⟨o, k _ o n7 e, r⟩
section
variable {prog : Program} {w : World} {A : Around} {E : Value → Shared → Prop} {s : Shared}
theorem next_first {z TI TO i1 i2 l1 l2 : Addr} {k1 k2 : Nat} {xs ys : Array Value} {x y a b : Value} {Q : Value → Shared → Prop} (D : ZipApart z TI TO i1 i2 l1 l2)
    (hz : IsZip s.heap z TI TO .none) (hTI : IsPair s.heap TI (.ref i1) (.ref i2)) (hTO : IsPair s.heap TO a b)
    (h1 : s.heap.IsListIter i1 l1 k1) (h2 : s.heap.IsTupleIter i2 l2 k2) (hl1 : s.heap.IsList l1 xs) (hl2 : s.heap.IsTuple l2 ys) (hx : xs[k1]? = some x) (hy : ys[k2]? = some y)
    (hQ : ∀ h', IsZip h' z TI TO (rawInt s.heap.objs.size) → h'.IsListIter i1 l1 (k1 + 1) → h'.IsTupleIter i2 l2 (k2 + 1) → IsPair h' s.heap.objs.size x y → h'.objs.size = s.heap.objs.size + 1 →
      (∀ c o, c ≠ z → c ≠ TO → c ≠ i1 → c ≠ i2 → s.heap.get? c = some o → h'.get? c = some o) → Q (.ref s.heap.objs.size) { s with heap := h' }) :
    wpAny (model prog w) A (Builtin.«zip.__next__» ⟨[.ref z], []⟩) (fun fin s' => ∃ v, fin = .done (.ret v) ∧ Q v s') E s := by
  show wpAny _ _ (field (.ref z) 2 >>= _) _ _ _
  refine wpAny_bind (wpAny_field hz rfl (x := .bool false) rfl ?_)
  show wpAny _ _ (field (.ref z) 3 >>= _) _ _ _
  refine wpAny_bind (wpAny_field hz rfl (x := .ref TI) rfl (wpAny_bind (wpAny_seqItems hTI rfl ?_)))
  show wpAny _ _ (Builtin.SmallTypes.ownedTupleIsFree (.ref z) >>= _) _ _ _
  refine wpAny_bind ?_
  unfold Builtin.SmallTypes.ownedTupleIsFree
  refine wpAny_bind (wpAny_field hz rfl (x := .none) rfl (wpAny_pure ?_))
  simp only [if_true]
  refine wpAny_bind (wpAny_rule (wpAny_bind (wpAny_field hz rfl (x := .ref TO) rfl (wpAny_bind (wpAny_setField_rec hz (by simp) fun g1 hz1 b1 => ?_)))))
  replace hz1 : IsZip g1 z TI TO .ellipsis := hz1
  refine wpAny_bind ?_
  simp only [List.zipIdx_cons, List.zipIdx_nil, List.forIn_cons, List.forIn_nil]
  -- the list's item
  refine wpAny_bind (wpAny_bind (wpAny_onRaise ?_))
  show wpAny _ _ (Builtin.SmallTypes.nextOf (.ref i1) >>= _) _ _ _
  refine wpAny_bind (wpAny_nextOf_list_item (s := { s with heap := g1 }) (h1.extBut b1.extBut D.i1z) (hl1.extBut b1.extBut D.l1z) hx fun g2 it1 b2 => wpAny_pure ?_)
  have o2 : IsPair g2 TO a b := b2.extBut _ _ D.TOi1 (b1.extBut _ _ D.TOz hTO)
  refine wpAny_bind (wpAny_seqItems o2 rfl (wpAny_bind (wpAny_updateSeq_pair o2 fun g3 o3 b3 => ?_)))
  replace o3 : IsPair g3 TO x b := o3
  refine wpAny_bind (wpAny_letGo (wpAny_pure ?_))
  -- the tuple's item
  refine wpAny_bind (wpAny_bind (wpAny_onRaise ?_))
  show wpAny _ _ (Builtin.SmallTypes.nextOf (.ref i2) >>= _) _ _ _
  refine wpAny_bind (RZ.nextOf_tuple_item (((h2.extBut b1.extBut D.i2z).extBut b2.extBut D.i12.symm).extBut b3.extBut D.TOi2.symm)
    (((hl2.extBut b1.extBut D.l2z).extBut b2.extBut D.l2i1).extBut b3.extBut D.l2TO) hy fun g4 it2 b4 => wpAny_pure ?_)
  have o4 : IsPair g4 TO x b := b4.extBut _ _ D.TOi2 o3
  refine wpAny_bind (wpAny_seqItems o4 rfl (wpAny_bind (wpAny_updateSeq_pair o4 fun g5 o5 b5 => ?_)))
  replace o5 : IsPair g5 TO x y := o5
  refine wpAny_bind (wpAny_letGo (wpAny_pure (wpAny_pure ?_)))
  refine wpAny_bind (wpAny_seqItems o5 rfl (wpAny_bind (wpAny_newTuple ?_)))
  have sz : g5.objs.size = s.heap.objs.size := by rw [b5.1, b4.1, b3.1, b2.1, b1.1]
  have hz5 : IsZip g5 z TI TO .ellipsis := b5.extBut _ _ D.TOz.symm (b4.extBut _ _ D.i2z.symm (b3.extBut _ _ D.TOz.symm (b2.extBut _ _ D.i1z.symm hz1)))
  have kp : ∀ c o, c ≠ z → c ≠ TO → c ≠ i1 → c ≠ i2 → s.heap.get? c = some o → g5.get? c = some o := fun c o c1 c2 c3 c4 e =>
    b5.extBut _ _ c2 (b4.extBut _ _ c4 (b3.extBut _ _ c2 (b2.extBut _ _ c3 (b1.extBut _ _ c1 e))))
  have it1' : g5.IsListIter i1 l1 (k1 + 1) := ((it1.extBut b3.extBut D.TOi1.symm).extBut b4.extBut D.i12).extBut b5.extBut D.TOi1.symm
  have it2' : g5.IsTupleIter i2 l2 (k2 + 1) := it2.extBut b5.extBut D.TOi2.symm
  have zl : z < g5.objs.size := Heap.lt_size hz5
  show wpAny _ _ (Builtin.SmallTypes.ownedTupleHandOut (.ref z) (.ref g5.objs.size) >>= _) _ _ _
  refine wpAny_bind ?_
  unfold Builtin.SmallTypes.ownedTupleHandOut
  have hz6 : IsZip (g5.push { cls := .type "tuple", data := .seq #[x, y] }) z TI TO .ellipsis := Heap.get?_push_of_some _ hz5
  refine wpAny_bind (wpAny_setField_rec hz6 (by simp) fun g7 hz7 b7 => ?_)
  replace hz7 : IsZip g7 z TI TO (rawInt g5.objs.size) := hz7
  refine wpAny_setField_rec hz7 (by simp) fun g8 hz8 b8 => ?_
  replace hz8 : IsZip g8 z TI TO (rawInt g5.objs.size) := hz8
  have up : ∀ c o, c ≠ z → g5.get? c = some o → g8.get? c = some o := fun c o c1 e => b8.extBut _ _ c1 (b7.extBut _ _ c1 (Heap.get?_push_of_some _ e))
  have t8 : IsPair g8 g5.objs.size x y := b8.extBut _ _ (Nat.ne_of_gt zl) (b7.extBut _ _ (Nat.ne_of_gt zl) (Heap.get?_push_size _ rfl))
  have sz8 : g8.objs.size = g5.objs.size + 1 := by rw [b8.1, b7.1, Heap.size_push]
  rw [sz] at hz8 t8 sz8
  refine wpAny_pure ⟨_, rfl, ?_⟩
  show Q (.ref g5.objs.size) _
  rw [sz]
  exact hQ g8 hz8 (it1'.at fun o e => up _ o D.i1z e) (it2'.at fun o e => up _ o D.i2z e) t8 sz8 fun c o c1 c2 c3 c4 e => up c o c1 (kp c o c1 c2 c3 c4 e)
theorem next_later {z TI TO T i1 i2 l1 l2 : Addr} {f : Bool} {oT : Obj} {k1 k2 : Nat} {xs ys : Array Value} {x y : Value} {Q : Value → Shared → Prop} (D : ZipApart z TI TO i1 i2 l1 l2)
    (hz : IsZipHeld s.heap z TI TO T f) (hT : s.heap.get? T = some oT) (hTI : IsPair s.heap TI (.ref i1) (.ref i2))
    (h1 : s.heap.IsListIter i1 l1 k1) (h2 : s.heap.IsTupleIter i2 l2 k2) (hl1 : s.heap.IsList l1 xs) (hl2 : s.heap.IsTuple l2 ys) (hx : xs[k1]? = some x) (hy : ys[k2]? = some y)
    (hQ : ∀ h', IsZipHeld h' z TI TO T true → h'.IsListIter i1 l1 (k1 + 1) → h'.IsTupleIter i2 l2 (k2 + 1) → IsPair h' s.heap.objs.size x y → h'.objs.size = s.heap.objs.size + 1 →
      (∀ c o, c ≠ z → c ≠ i1 → c ≠ i2 → s.heap.get? c = some o → h'.get? c = some o) → Q (.ref s.heap.objs.size) { s with heap := h' }) :
    wpAny (model prog w) A (Builtin.«zip.__next__» ⟨[.ref z], []⟩) (fun fin s' => ∃ v, fin = .done (.ret v) ∧ Q v s') E s := by
  show wpAny _ _ (field (.ref z) 2 >>= _) _ _ _
  refine wpAny_bind (wpAny_field hz rfl (x := .bool false) rfl ?_)
  show wpAny _ _ (field (.ref z) 3 >>= _) _ _ _
  refine wpAny_bind (wpAny_field hz rfl (x := .ref TI) rfl (wpAny_bind (wpAny_seqItems hTI rfl ?_)))
  show wpAny _ _ (Builtin.SmallTypes.ownedTupleIsFree (.ref z) >>= _) _ _ _
  refine wpAny_bind (wpAny_tupleHeld_zip hz hT fun g1 hz1 b1 => ?_)
  simp only [Bool.false_eq_true, if_false]
  refine wpAny_bind ?_
  rw [← Array.forIn_toList]
  simp only [List.forIn_cons, List.forIn_nil]
  refine wpAny_bind (wpAny_bind (wpAny_holding ?_))
  show wpAny _ _ (Builtin.SmallTypes.nextOf (.ref i1) >>= _) _ _ _
  refine wpAny_bind (wpAny_nextOf_list_item (s := { s with heap := g1 }) (h1.extBut b1.extBut D.i1z) (hl1.extBut b1.extBut D.l1z) hx fun g2 it1 b2 => wpAny_pure (wpAny_pure ?_))
  refine wpAny_bind (wpAny_bind (wpAny_holding ?_))
  show wpAny _ _ (Builtin.SmallTypes.nextOf (.ref i2) >>= _) _ _ _
  refine wpAny_bind (RZ.nextOf_tuple_item (s := { s with heap := g2 }) ((h2.extBut b1.extBut D.i2z).extBut b2.extBut D.i12.symm) ((hl2.extBut b1.extBut D.l2z).extBut b2.extBut D.l2i1) hy fun g3 it2 b3 => wpAny_pure (wpAny_pure (wpAny_pure ?_)))
  show wpAny _ _ (newTuple [x, y] >>= _) _ _ _
  refine wpAny_bind (wpAny_newTuple ?_)
  have sz : g3.objs.size = s.heap.objs.size := by rw [b3.1, b2.1, b1.1]
  have hz3 : IsZipHeld g3 z TI TO T true := b3.extBut _ _ D.i2z.symm (b2.extBut _ _ D.i1z.symm hz1)
  have kp : ∀ c o, c ≠ z → c ≠ i1 → c ≠ i2 → s.heap.get? c = some o → g3.get? c = some o := fun c o c1 c2 c3 e => b3.extBut _ _ c3 (b2.extBut _ _ c2 (b1.extBut _ _ c1 e))
  have it1' : g3.IsListIter i1 l1 (k1 + 1) := it1.extBut b3.extBut D.i12
  refine wpAny_pure ⟨_, rfl, ?_⟩
  show Q (.ref g3.objs.size) _
  have tp : IsPair (g3.push { cls := .type "tuple", data := .seq #[x, y] }) g3.objs.size x y := Heap.get?_push_size _ rfl
  have sz4 : (g3.push { cls := .type "tuple", data := .seq #[x, y] }).objs.size = g3.objs.size + 1 := Heap.size_push ..
  rw [sz] at tp sz4 ⊢
  exact hQ _ (Heap.get?_push_of_some _ hz3) (it1'.at fun o e => Heap.get?_push_of_some _ e) (it2.at fun o e => Heap.get?_push_of_some _ e) tp sz4 fun c o c1 c2 c3 e => Heap.get?_push_of_some _ (kp c o c1 c2 c3 e)
/-- the end, the list's or the tuple's -/
theorem ends_at {z TI TO i1 i2 l1 l2 S : Addr} {i : Nat} {xs ys : Array Value} {Q : Fin → Shared → Prop} (hh : A.handled = none) (D : ZipApart z TI TO i1 i2 l1 l2) (st : ZS s.heap z TI TO i1 i2 l1 l2 S xs ys i) (he : xs[i]? = none)
    (hE : ∀ h' e, (∀ c o, c ≠ z → c ≠ TO → c ≠ i1 → c ≠ i2 → s.heap.get? c = some o → h'.get? c = some o) → (∃ o, h'.get? e = some o ∧ o.cls = .type "StopIteration") → E (.ref e) { s with heap := h' }) :
    wpAny (model prog w) A (Builtin.«zip.__next__» ⟨[.ref z], []⟩) Q E s := by
  rcases st.out with ⟨hz, a, b, hTO⟩ | ⟨T, f, oT, hz, hT, c1, c2, c3, c4, c5⟩
  · show wpAny _ _ (field (.ref z) 2 >>= _) _ _ _
    refine wpAny_bind (wpAny_field hz rfl (x := .bool false) rfl ?_)
    show wpAny _ _ (field (.ref z) 3 >>= _) _ _ _
    refine wpAny_bind (wpAny_field hz rfl (x := .ref TI) rfl (wpAny_bind (wpAny_seqItems st.ti rfl ?_)))
    show wpAny _ _ (Builtin.SmallTypes.ownedTupleIsFree (.ref z) >>= _) _ _ _
    refine wpAny_bind ?_
    unfold Builtin.SmallTypes.ownedTupleIsFree
    refine wpAny_bind (wpAny_field hz rfl (x := .none) rfl (wpAny_pure ?_))
    simp only [if_true]
    refine wpAny_bind (wpAny_rule (wpAny_bind (wpAny_field hz rfl (x := .ref TO) rfl (wpAny_bind (wpAny_setField_rec hz (by simp) fun g1 hz1 b1 => ?_)))))
    replace hz1 : IsZip g1 z TI TO .ellipsis := hz1
    refine wpAny_bind ?_
    simp only [List.zipIdx_cons, List.zipIdx_nil, List.forIn_cons, List.forIn_nil]
    refine wpAny_bind (wpAny_bind (wpAny_onRaise ?_))
    show wpAny _ _ (Builtin.SmallTypes.nextOf (.ref i1) >>= _) _ _ _
    refine wpAny_bind (wpAny_nextOf_list_end (s := { s with heap := g1 }) hh (st.it1.extBut b1.extBut D.i1z) (st.hl1.extBut b1.extBut D.l1z) he fun g2 e b2 x => ?_)
    obtain ⟨oe, hoe, hce⟩ := x
    have hz2 : IsZip g2 z TI TO .ellipsis := b2 _ _ D.i1z.symm hz1
    have hez : e ≠ z := fun x => by subst x; rw [hz2] at hoe; cases hoe; simp at hce
    exact wpAny_setField_rec hz2 (by simp) fun g3 _ b3 => hE g3 e (fun c o c1 _ c3 _ x => b3.extBut _ _ c1 (b2 _ _ c3 (b1.extBut _ _ c1 x))) ⟨oe, b3.extBut _ _ hez hoe, hce⟩
  · show wpAny _ _ (field (.ref z) 2 >>= _) _ _ _
    refine wpAny_bind (wpAny_field hz rfl (x := .bool false) rfl ?_)
    show wpAny _ _ (field (.ref z) 3 >>= _) _ _ _
    refine wpAny_bind (wpAny_field hz rfl (x := .ref TI) rfl (wpAny_bind (wpAny_seqItems st.ti rfl ?_)))
    show wpAny _ _ (Builtin.SmallTypes.ownedTupleIsFree (.ref z) >>= _) _ _ _
    refine wpAny_bind (wpAny_tupleHeld_zip hz hT fun g1 hz1 b1 => ?_)
    simp only [Bool.false_eq_true, if_false]
    refine wpAny_bind ?_
    rw [← Array.forIn_toList]
    simp only [List.forIn_cons, List.forIn_nil]
    refine wpAny_bind (wpAny_bind (wpAny_holding ?_))
    show wpAny _ _ (Builtin.SmallTypes.nextOf (.ref i1) >>= _) _ _ _
    refine wpAny_bind (wpAny_nextOf_list_end (s := { s with heap := g1 }) hh (st.it1.extBut b1.extBut D.i1z) (st.hl1.extBut b1.extBut D.l1z) he fun g2 e b2 x => ?_)
    exact hE g2 e (fun c o c1 _ c3 _ x => b2 _ _ c3 (b1.extBut _ _ c1 x)) x
/-- next, by the state -/
theorem next_item {z TI TO i1 i2 l1 l2 S : Addr} {i : Nat} {xs ys : Array Value} {x y : Value} {Q : Option Value → Shared → Prop} (D : ZipApart z TI TO i1 i2 l1 l2) (st : ZS s.heap z TI TO i1 i2 l1 l2 S xs ys i) (hx : xs[i]? = some x) (hy : ys[i]? = some y) (hS : S < s.heap.objs.size) (hSo : S ≠ z ∧ S ≠ TO ∧ S ≠ i1 ∧ S ≠ i2)
    (hTI : TI ≠ z ∧ TI ≠ TO ∧ TI ≠ i1 ∧ TI ≠ i2)
    (hQ : ∀ h', ZS h' z TI TO i1 i2 l1 l2 S xs ys (i + 1) → IsPair h' s.heap.objs.size x y → h'.objs.size = s.heap.objs.size + 1 →
      (∀ c o, c ≠ z → c ≠ TO → c ≠ i1 → c ≠ i2 → s.heap.get? c = some o → h'.get? c = some o) → Q (some (.ref s.heap.objs.size)) { s with heap := h' }) :
    wpAny (model prog w) A (pyNext (.ref z)) Q E s := by
  have zl : ∀ {b o}, s.heap.get? b = some o → s.heap.objs.size ≠ b := fun e => Nat.ne_of_gt (Heap.lt_size e)
  have z1 : s.heap.objs.size ≠ i1 := by obtain ⟨_, e, _⟩ := st.it1; exact zl e
  have z2 : s.heap.objs.size ≠ i2 := by obtain ⟨_, e, _⟩ := st.it2; exact zl e
  unfold pyNext
  rcases st.out with ⟨hz, a, b, hTO⟩ | ⟨T, f, oT, hz, hT, c1, c2, c3, c4, c5⟩
  · have hTy : s.TypeIs (.ref z) "zip" := ⟨_, hz, rfl⟩
    exact wpAny_bind (wpAny_attempt (wpAny_callSpecial?_slot (name := Str.ofString "__next__") hTy F.slot_zip_next (wpAny_call_entry F.slot_zip_next hTy F.entry_zip_next
      (next_first D hz st.ti hTO st.it1 st.it2 st.hl1 st.hl2 hx hy fun h' a1 a3 a4 a5 a6 a7 => wpAny_pure (hQ h'
        ⟨.inr ⟨s.heap.objs.size, false, _, a1, a5, zl hz, zl hTO, z1, z2, Nat.ne_of_gt hS⟩, a7 _ _ hTI.1 hTI.2.1 hTI.2.2.1 hTI.2.2.2 st.ti, a3, a4, st.hl1.at fun o e => a7 _ o D.l1z D.l1TO D.l1i1 D.l1i2 e, by obtain ⟨o, e, r⟩ := st.hl2; exact ⟨o, a7 _ o D.l2z D.l2TO D.l2i1 D.l2i2 e, r⟩⟩
        a5 a6 a7)) (F.args_zip_next_1 _))))
  · have hTy : s.TypeIs (.ref z) "zip" := ⟨_, hz, rfl⟩
    exact wpAny_bind (wpAny_attempt (wpAny_callSpecial?_slot (name := Str.ofString "__next__") hTy F.slot_zip_next (wpAny_call_entry F.slot_zip_next hTy F.entry_zip_next
      (next_later D hz hT st.ti st.it1 st.it2 st.hl1 st.hl2 hx hy fun h' a1 a3 a4 a5 a6 a7 => wpAny_pure (hQ h'
        ⟨.inr ⟨T, true, oT, a1, a7 _ _ c1 c3 c4 hT, c1, c2, c3, c4, c5⟩, a7 _ _ hTI.1 hTI.2.2.1 hTI.2.2.2 st.ti, a3, a4, st.hl1.at fun o e => a7 _ o D.l1z D.l1i1 D.l1i2 e, by obtain ⟨o, e, r⟩ := st.hl2; exact ⟨o, a7 _ o D.l2z D.l2i1 D.l2i2 e, r⟩⟩
        a5 a6 fun c o d1 _ d3 d4 e => a7 c o d1 d3 d4 e)) (F.args_zip_next_1 _))))
theorem next_end {z TI TO i1 i2 l1 l2 S : Addr} {i : Nat} {xs ys : Array Value} {Q : Option Value → Shared → Prop} (hh : A.handled = none) (D : ZipApart z TI TO i1 i2 l1 l2) (st : ZS s.heap z TI TO i1 i2 l1 l2 S xs ys i) (he : xs[i]? = none)
    (hQ : ∀ h', (∀ c o, c ≠ z → c ≠ TO → c ≠ i1 → c ≠ i2 → s.heap.get? c = some o → h'.get? c = some o) → Q none { s with heap := h' }) : wpAny (model prog w) A (pyNext (.ref z)) Q E s := by
  have hTy : s.TypeIs (.ref z) "zip" := by
    rcases st.out with ⟨hz, _⟩ | ⟨T, f, oT, hz, _⟩
    · exact ⟨_, hz, rfl⟩
    · exact ⟨_, hz, rfl⟩
  unfold pyNext
  refine wpAny_bind (wpAny_attempt (wpAny_callSpecial?_slot (name := Str.ofString "__next__") hTy F.slot_zip_next (wpAny_call_entry F.slot_zip_next hTy F.entry_zip_next (ends_at hh D st he fun h' e hk hs => ?_) (F.args_zip_next_1 _))))
  obtain ⟨o, ho, hc⟩ := hs
  exact wpAny_bind (wpAny_isInstance (T := "StopIteration") (b := true) ⟨o, ho, hc⟩ isSubtype_stop (wpAny_pure (hQ _ hk)))
end
/-- the pairs at the addresses as, in order, above lo -/
structure ZG (xs ys : Array Value) (lo : Addr) (h : Heap) (as : List Addr) : Prop where
  rise : as.Pairwise (· < ·)
  above : ∀ a ∈ as, lo < a
  pairs : ∀ (j : Nat) (a : Addr), as[j]? = some a → ∃ x y, xs[j]? = some x ∧ ys[j]? = some y ∧ IsPair h a x y
theorem ZG.there {xs ys : Array Value} {lo : Addr} {h : Heap} {as : List Addr} (g : ZG xs ys lo h as) {a : Addr} (ha : a ∈ as) : a < h.objs.size := by
  obtain ⟨j, hj⟩ := List.mem_iff_getElem?.mp ha
  obtain ⟨_, _, _, _, e⟩ := g.pairs j a hj
  exact Heap.lt_size e
section
variable {prog : Program} {w : World} {A : Around} {s : Shared} {R : Result → Shared → Prop} {xs ys : Array Value}
theorem loop {S z TI TO i1 i2 l1 l2 : Addr} (hh : A.handled = none) (D : ZipApart z TI TO i1 i2 l1 l2) (low : z < S ∧ TI < S ∧ TO < S ∧ i1 < S ∧ i2 < S ∧ l1 < S ∧ l2 < S) (hn : xs.size ≤ sizeLine) (hxy : xs.size ≤ ys.size) (hTI : TI ≠ z ∧ TI ≠ TO ∧ TI ≠ i1 ∧ TI ≠ i2) (res : Value) {h₁ : Heap}
    (hR : ∀ h' tk acc c as, (∀ b o, b ≠ S → b ≠ z → b ≠ TO → b ≠ i1 → b ≠ i2 → h₁.get? b = some o → h'.get? b = some o) → h'.get? S = some { cls := .type "list", dict := none, data := .seq acc c, slots := #[] } → as.length = xs.size → ZG xs ys S h' as →
      acc.toList = as.map Value.ref → R (.ok (.ret res)) { s with heap := h', toks := tk }) :
    ∀ (k i : Nat) (h : Heap) (tk c : Nat) (acc : Array Value) (as : List Addr), xs.size - i = k → i ≤ xs.size → ZS h z TI TO i1 i2 l1 l2 S xs ys i → (∀ b o, b ≠ S → b ≠ z → b ≠ TO → b ≠ i1 → b ≠ i2 → h₁.get? b = some o → h.get? b = some o) →
      h.get? S = some { cls := .type "list", dict := none, data := .seq acc c, slots := #[] } → acc.toList = as.map Value.ref → as.length = i → ZG xs ys S h as →
      codeAny (model prog w) A (.builtin "list.extend.loop" ⟨[.ref S, .ref z, res], []⟩) R { s with heap := h, toks := tk } := by
  obtain ⟨w1, w2, w3, w4, w5, w6, w7⟩ := low
  have nS : z ≠ S ∧ TI ≠ S ∧ TO ≠ S ∧ i1 ≠ S ∧ i2 ≠ S ∧ l1 ≠ S ∧ l2 ≠ S := ⟨Nat.ne_of_lt w1, Nat.ne_of_lt w2, Nat.ne_of_lt w3, Nat.ne_of_lt w4, Nat.ne_of_lt w5, Nat.ne_of_lt w6, Nat.ne_of_lt w7⟩
  have off : ∀ {a : Addr}, S < a → a ≠ z ∧ a ≠ TO ∧ a ≠ i1 ∧ a ≠ i2 := fun h => ⟨Nat.ne_of_gt (Nat.lt_trans w1 h), Nat.ne_of_gt (Nat.lt_trans w3 h), Nat.ne_of_gt (Nat.lt_trans w4 h), Nat.ne_of_gt (Nat.lt_trans w5 h)⟩
  intro k
  induction k with
  | zero =>
    intro i h tk c acc as hk hi st hkeep hS hacc hal hG
    have hin : i = xs.size := by omega
    refine codeAny_builtin PySem.F.entry_extend_loop ?_
    rw [Around.under_plainId PySem.F.plain_extend_loop _]
    show wpAny _ A.in1 (pyNext (.ref z) >>= _) _ _ _
    refine wpAny_bind (next_end (s := { s with heap := h, toks := tk }) (A := A.in1) hh D st (by rw [hin]; simp) fun h' he => ?_)
    refine wpAny_pure (hR h' tk acc c as (fun b o n0 n1 n2 n3 n4 e => he b o n1 n2 n3 n4 (hkeep b o n0 n1 n2 n3 n4 e)) (he S _ nS.1.symm nS.2.2.1.symm nS.2.2.2.1.symm nS.2.2.2.2.1.symm hS) (by omega) ⟨hG.rise, hG.above, fun j a hj => ?_⟩ hacc)
    obtain ⟨x, y, e1, e2, e3⟩ := hG.pairs j a hj
    obtain ⟨n1, n2, n3, n4⟩ := off (hG.above a (List.mem_of_getElem? hj))
    exact ⟨x, y, e1, e2, he a _ n1 n2 n3 n4 e3⟩
  | succ k ih =>
    intro i h tk c acc as hk hi st hkeep hS hacc hal hG
    have hlt : i < xs.size := by omega
    have hlt2 : i < ys.size := by omega
    have hsz : acc.size = i := by rw [← Array.length_toList, hacc, List.length_map, hal]
    have hSl : S < h.objs.size := Heap.lt_size hS
    refine codeAny_builtin PySem.F.entry_extend_loop ?_
    rw [Around.under_plainId PySem.F.plain_extend_loop _]
    show wpAny _ A.in1 (pyNext (.ref z) >>= _) _ _ _
    refine wpAny_bind (next_item (s := { s with heap := h, toks := tk }) D st (x := xs[i]) (y := ys[i]) (by simp [hlt]) (by simp [hlt2]) hSl ⟨nS.1.symm, nS.2.2.1.symm, nS.2.2.2.1.symm, nS.2.2.2.2.1.symm⟩ hTI fun h' st' ht hz hkp => ?_)
    dsimp only at ht hz hkp ⊢
    have hS' := hkp S _ nS.1.symm nS.2.2.1.symm nS.2.2.2.1.symm nS.2.2.2.2.1.symm hS
    have up : ∀ b o, b ≠ S → h'.get? b = some o → (h'.update S (Obj.mapSeq (·.push (Value.ref h.objs.size)))).get? b = some o := fun b o hb e => (Heap.get?_update_other _ _ (Ne.symm hb)).trans e
    show wpAny _ A.in1 (updateSeq S (·.push (Value.ref h.objs.size)) >>= _) _ _ _
    refine wpAny_bind ?_
    refine wpAny_updateSeq hS' rfl (wpAny_pure ⟨plainId_quiet PySem.F.plain_extend_loop _, ih (i + 1) _ tk _ (acc.push (Value.ref h.objs.size)) (as ++ [h.objs.size]) (by omega) hlt (st'.keep up nS)
      (fun b o n0 n1 n2 n3 n4 e => up b o n0 (hkp b o n1 n2 n3 n4 (hkeep b o n0 n1 n2 n3 n4 e))) (Heap.get?_update_self _ hS' rfl) (by rw [Array.toList_push, hacc, List.map_append]; rfl) (by rw [List.length_append, hal]; rfl) ⟨?_, ?_, ?_⟩⟩) (by rw [hsz]; omega) (by show (acc.push (Value.ref h.objs.size)).size ≤ sizeLine + 1; rw [Array.size_push, hsz]; omega)
    · refine List.pairwise_append.mpr ⟨hG.rise, List.pairwise_singleton _ _, fun a ha b hb => ?_⟩
      rw [List.mem_singleton.mp hb]
      exact hG.there ha
    · intro a ha
      rcases List.mem_append.mp ha with ha | ha
      · exact hG.above a ha
      · rw [List.mem_singleton.mp ha]; exact hSl
    · intro j b hj
      rcases Nat.lt_trichotomy j as.length with q | q | q
      · rw [List.getElem?_append_left q] at hj
        obtain ⟨x, y, e1, e2, e3⟩ := hG.pairs j b hj
        have hb := hG.above b (List.mem_of_getElem? hj)
        obtain ⟨n1, n2, n3, n4⟩ := off hb
        exact ⟨x, y, e1, e2, up b _ (Nat.ne_of_gt hb) (hkp b _ n1 n2 n3 n4 e3)⟩
      · subst q
        rw [List.getElem?_concat_length] at hj
        cases hj
        exact ⟨xs[i], ys[i], by rw [hal]; simp [hlt], by rw [hal]; simp [hlt2], up _ _ (Nat.ne_of_gt hSl) ht⟩
      · rw [List.getElem?_eq_none (by rw [List.length_append, List.length_singleton]; omega)] at hj; cases hj
theorem hint {z : Addr} {E : Value → Shared → Prop} (hT : s.TypeIs (.ref z) "zip") {Q : Bool → Shared → Prop} (h : Q true s) : wpAny (model prog w) A (Builtin.List.listLengthHint (.ref z)) Q E s := by
  unfold Builtin.List.listLengthHint
  refine wpAny_bind (wpAny_specialOf hT zip_no_len ?_)
  show wpAny _ A (specialOf (Value.ref z) (Str.ofString "__length_hint__") >>= _) _ _ _
  exact wpAny_bind (wpAny_specialOf hT zip_no_hint (wpAny_pure h))
theorem ZS.isZip {h : Heap} {z TI TO i1 i2 l1 l2 S : Addr} {i : Nat} (st : ZS h z TI TO i1 i2 l1 l2 S xs ys i) : ∃ o, h.get? z = some o ∧ o.cls = .type "zip" := by
  rcases st.out with ⟨hz, _⟩ | ⟨T, f, oT, hz, _⟩
  · exact ⟨_, hz, rfl⟩
  · exact ⟨_, hz, rfl⟩
theorem extend {S z TI TO i1 i2 l1 l2 : Addr} (hh : A.handled = none) (D : ZipApart z TI TO i1 i2 l1 l2) (low : z < S ∧ TI < S ∧ TO < S ∧ i1 < S ∧ i2 < S ∧ l1 < S ∧ l2 < S) (hn : xs.size ≤ sizeLine) (hxy : xs.size ≤ ys.size) (hTI : TI ≠ z ∧ TI ≠ TO ∧ TI ≠ i1 ∧ TI ≠ i2) (res : Value)
    (hz : IsZip s.heap z TI TO .none) (st : ZS s.heap z TI TO i1 i2 l1 l2 S xs ys 0) (c₀ : Nat) (hS : s.heap.get? S = some { cls := .type "list", data := .seq #[] c₀ })
    (hR : ∀ h' tk acc c as, (∀ b o, b ≠ S → b ≠ z → b ≠ TO → b ≠ i1 → b ≠ i2 → s.heap.get? b = some o → h'.get? b = some o) → h'.get? S = some { cls := .type "list", dict := none, data := .seq acc c, slots := #[] } → as.length = xs.size → ZG xs ys S h' as →
      acc.toList = as.map Value.ref → R (.ok (.ret res)) { s with heap := h', toks := tk }) :
    wpAny (model prog w) A.in1 (Builtin.List.listExtendWith (.ref S) (.ref z) res)
      (fun fin s' => match fin with | .done f => R (.ok f) s' | .again c' => c'.quiet = true ∧ codeAny (model prog w) A c' R s') (fun e s' => R (.error e) s') s := by
  have nS : z ≠ S ∧ TI ≠ S ∧ TO ≠ S ∧ i1 ≠ S ∧ i2 ≠ S ∧ l1 ≠ S ∧ l2 ≠ S := ⟨Nat.ne_of_lt low.1, Nat.ne_of_lt low.2.1, Nat.ne_of_lt low.2.2.1, Nat.ne_of_lt low.2.2.2.1, Nat.ne_of_lt low.2.2.2.2.1, Nat.ne_of_lt low.2.2.2.2.2.1, Nat.ne_of_lt low.2.2.2.2.2.2⟩
  have hT : s.TypeIs (.ref z) "zip" := ⟨_, hz, rfl⟩
  unfold Builtin.List.listExtendWith
  refine wpAny_bind (wpAny_typeOf hT ?_)
  have h1 : Builtin.List.listSameRef (.ref S) (.ref z) = false := by simp [Builtin.List.listSameRef, nS.1.symm]
  have h2 : (Value.type "zip" == Value.type "list") = false := by decide
  have h3 : (Value.type "zip" == Value.type "tuple") = false := by decide
  simp only [h1, h2, h3, Bool.or_false, Bool.false_eq_true, if_false]
  refine wpAny_bind (wpAny_pyIter_zip hz (wpAny_bind (wpAny_holding (hint hT ?_))))
  show wpAny _ A.in1 (rule "list.extend.makes-room" >>= fun _ => Builtin.List.listTouch (.ref S) >>= fun _ =>
    again (.builtin "list.extend.loop" ⟨[.ref S, .ref z, res], []⟩)) _ _ _
  refine wpAny_bind (wpAny_rule (wpAny_bind ?_))
  show wpAny _ A.in1 (updateSeq S (·.push .none) >>= fun _ => updateSeq S (·.pop)) _ _ _
  refine wpAny_bind (wpAny_updateSeq hS rfl ?_)
  have hS2 := Heap.get?_update_self (Obj.mapSeq (·.push Value.none)) hS rfl
  refine wpAny_updateSeq (hz := by seq_fits) hS2 rfl ?_
  have hS3 := Heap.get?_update_self (Obj.mapSeq (·.pop)) hS2 rfl
  have oth : ∀ b o, b ≠ S → s.heap.get? b = some o → ((s.heap.update S (Obj.mapSeq (·.push Value.none))).update S (Obj.mapSeq (·.pop))).get? b = some o :=
    fun b o hb e => (Heap.get?_update_other _ _ (Ne.symm hb)).trans ((Heap.get?_update_other _ _ (Ne.symm hb)).trans e)
  refine wpAny_pure ⟨plainId_quiet PySem.F.plain_extend_loop _, loop (s := s) (h₁ := s.heap) hh D low hn hxy hTI res hR xs.size 0 _ _ _ #[] [] (Nat.sub_zero _) (Nat.zero_le _) (st.keep oth nS) (fun b o n0 _ _ _ _ e => oth b o n0 e) hS3 rfl rfl
    ⟨List.Pairwise.nil, (fun _ ha => nomatch ha), (fun j a hj => by simp at hj)⟩⟩
theorem call_list {Q : Value → Shared → Prop} {E : Value → Shared → Prop} {z TI TO i1 i2 l1 l2 : Addr} (hh : A.handled = none) (D : ZipApart z TI TO i1 i2 l1 l2) (low : z < s.heap.objs.size ∧ TI < s.heap.objs.size ∧ TO < s.heap.objs.size ∧ i1 < s.heap.objs.size ∧ i2 < s.heap.objs.size ∧ l1 < s.heap.objs.size ∧ l2 < s.heap.objs.size) (hn : xs.size ≤ sizeLine) (hxy : xs.size ≤ ys.size) (hTI : TI ≠ z ∧ TI ≠ TO ∧ TI ≠ i1 ∧ TI ≠ i2)
    (hz : IsZip s.heap z TI TO .none) (st : ZS s.heap z TI TO i1 i2 l1 l2 s.heap.objs.size xs ys 0)
    (hQ : ∀ h' tk acc c as, (∀ b o, b ≠ z → b ≠ TO → b ≠ i1 → b ≠ i2 → s.heap.get? b = some o → h'.get? b = some o) → h'.get? s.heap.objs.size = some { cls := .type "list", dict := none, data := .seq acc c, slots := #[] } → as.length = xs.size → ZG xs ys s.heap.objs.size h' as →
      acc.toList = as.map Value.ref → Q (.ref s.heap.objs.size) { s with heap := h', toks := tk }) :
    wpAny (model prog w) A (call (.type "list") [.ref z]) Q E s := by
  refine callType_codes (Q₁ := fun obj s₁ => obj = .ref s.heap.objs.size ∧ s₁ = { s with heap := s.heap.push { cls := .type "list", data := .seq #[] } }) PySem.F.called_list (PySem.F.typeCall_list_1 _) PySem.F.entry_list_init
    (code_list_new _ ⟨rfl, rfl⟩) fun obj s₁ h₁ => ?_
  obtain ⟨rfl, rfl⟩ := h₁
  have hS : (s.heap.push { cls := .type "list", data := .seq #[] }).get? s.heap.objs.size = some { cls := .type "list", data := .seq #[] } := Heap.get?_push_size _ rfl
  refine ⟨⟨_, hS, rfl⟩, PySem.F.args_list_init_2 _ _, ?_⟩
  show wpAny _ A.in1.in1 (do let old ← Builtin.List.listItems (.ref s.heap.objs.size); Builtin.List.listUpdate (.ref s.heap.objs.size) (fun _ => #[]); letGo old.toList.reverse; Builtin.List.listExtendWith (.ref s.heap.objs.size) (.ref z) .none) _ _ _
  refine wpAny_bind ?_
  unfold Builtin.List.listItems
  refine wpAny_bind (wpAny_seqItems hS rfl (wpAny_pure ?_))
  show wpAny _ A.in1.in1 (updateSeq s.heap.objs.size (fun _ => #[]) >>= fun _ => letGo (#[] : Array Value).toList.reverse >>= fun _ => Builtin.List.listExtendWith (.ref s.heap.objs.size) (.ref z) .none) _ _ _
  refine wpAny_bind (wpAny_updateSeq hS rfl ?_)
  have hS2 := Heap.get?_update_self (Obj.mapSeq (fun _ => (#[] : Array Value))) hS rfl
  have oth : ∀ b o, b ≠ s.heap.objs.size → s.heap.get? b = some o → ((s.heap.push { cls := .type "list", data := .seq #[] }).update s.heap.objs.size (Obj.mapSeq (fun _ => (#[] : Array Value)))).get? b = some o :=
    fun b o hb e => (Heap.get?_update_other _ _ (Ne.symm hb)).trans (Heap.get?_push_of_some _ e)
  have nS : z ≠ s.heap.objs.size ∧ TI ≠ s.heap.objs.size ∧ TO ≠ s.heap.objs.size ∧ i1 ≠ s.heap.objs.size ∧ i2 ≠ s.heap.objs.size ∧ l1 ≠ s.heap.objs.size ∧ l2 ≠ s.heap.objs.size := ⟨Nat.ne_of_lt low.1, Nat.ne_of_lt low.2.1, Nat.ne_of_lt low.2.2.1, Nat.ne_of_lt low.2.2.2.1, Nat.ne_of_lt low.2.2.2.2.1, Nat.ne_of_lt low.2.2.2.2.2.1, Nat.ne_of_lt low.2.2.2.2.2.2⟩
  refine wpAny_bind (wpAny_letGo ?_)
  refine extend (A := A.in1) (s := { s with heap := (s.heap.push { cls := .type "list", data := .seq #[] }).update s.heap.objs.size (Obj.mapSeq (fun _ => (#[] : Array Value))) }) hh D low hn hxy hTI .none (oth _ _ nS.1 hz) (st.keep oth nS) _ hS2 (fun h' tk acc c as hk hS' hl hG hacc => ?_)
  exact ⟨rfl, hQ h' tk acc c as (fun b o n1 n2 n3 n4 e => hk b o (Nat.ne_of_lt (Heap.lt_size e)) n1 n2 n3 n4 (oth b o (Nat.ne_of_lt (Heap.lt_size e)) e)) hS' hl hG hacc⟩
end
end Wz
end
section
set_option Elab.async false
set_option linter.all false
set_option maxRecDepth 100000
set_option maxHeartbeats 4000000
/-! # list(zip(xs, t)) as a rule -/
namespace Wr
open PySem PySem.Spec PyProof.Rows L2
def putP (H : Hp) (S : Addr) (as : List Addr) (ps : List (V × V)) : Hp := fun b => if b = S then some (.lst (as.map V.ref)) else match (as.zip ps).lookup b with
  | some p => some (.tup [p.1, p.2])
  | none => H b
theorem lookup_zip_off {b : Addr} : ∀ (as : List Addr) (ps : List (V × V)), b ∉ as → (as.zip ps).lookup b = none
  | [], _, _ => by simp
  | _ :: _, [], _ => by simp
  | a :: as, p :: ps, h => by
    have h1 : b ≠ a := fun e => h (by rw [e]; exact List.mem_cons_self)
    rw [List.zip_cons_cons, List.lookup_cons, beq_false_of_ne h1]
    exact lookup_zip_off as ps fun e => h (List.mem_cons_of_mem _ e)
theorem lookup_zip_at {b : Addr} {p : V × V} : ∀ (as : List Addr) (ps : List (V × V)) (j : Nat), as.Nodup → as[j]? = some b → ps[j]? = some p → (as.zip ps).lookup b = some p
  | [], _, _, _, h, _ => by simp at h
  | _ :: _, [], _, _, _, h => by simp at h
  | a :: as, q :: ps, 0, _, h1, h2 => by
    cases h1; cases h2
    rw [List.zip_cons_cons, List.lookup_cons_self]
  | a :: as, q :: ps, j + 1, nd, h1, h2 => by
    have nd' := List.nodup_cons.mp nd
    have hb : b ≠ a := fun e => nd'.1 (by rw [← e]; exact List.mem_of_getElem? (i := j) h1)
    rw [List.zip_cons_cons, List.lookup_cons, beq_false_of_ne hb]
    exact lookup_zip_at as ps j nd'.2 h1 h2
def rLZ (K : PySem.W.Frag) : List V → Hp → VK → Prop := fun vs H Q => ∃ (a b : Addr) (xs ys : List V), vs = [.ref a, .ref b] ∧ SqL K H a xs ∧ SqT K H b ys ∧ xs.length ≤ ys.length ∧
  ∀ (H' : Hp) (p : Addr) (ts : List Addr), Same H H' → H p = none → (∀ t ∈ ts, H t = none ∧ t ≠ p) → ts.length = xs.length → H' p = some (.lst (ts.map V.ref)) →
    (∀ (j : Nat) (t : Addr) (x y : V), ts[j]? = some t → xs[j]? = some x → ys[j]? = some y → H' t = some (.tup [x, y])) → Q (.ref p) H'
def tLZ (K : PySem.W.Frag) (t : TA) : TE := fun σ H Q => t σ H fun vs H1 => rLZ K vs H1 Q
section
variable {X : Cx}
theorem zip_laid {pins : List (Addr × Obj)} {σ : L2.St} {H : Hp} {s : Shared} {h' : Heap} {tk : Nat} {xs ys : List V} {us ws : List Value} {acc : Array Value} {c : Nat} {S : Addr} {as : List Addr} (I : Inv X pins σ H s) (hz : xs.length ≤ sizeLine) (hxy : xs.length ≤ ys.length)
    (rx : Vals xs us) (ry : Vals ys ws) (hSz : s.heap.objs.size ≤ S) (hk : ∀ b o, s.heap.get? b = some o → h'.get? b = some o) (hS : h'.get? S = some { cls := .type "list", dict := none, data := .seq acc c, slots := #[] }) (hl : as.length = us.length) (hG : Wz.ZG us.toArray ws.toArray S h' as) (hacc : acc.toList = as.map Value.ref) :
    ∃ H' : Hp, Same H H' ∧ H S = none ∧ (∀ t ∈ as, H t = none ∧ t ≠ S) ∧ as.length = xs.length ∧ H' S = some (.lst (as.map V.ref)) ∧ (∀ (j : Nat) (t : Addr) (x y : V), as[j]? = some t → xs[j]? = some x → ys[j]? = some y → H' t = some (.tup [x, y])) ∧ Inv X pins σ H' { s with heap := h', toks := tk } := by
  have lx : xs.length = us.length := rx.length
  have hSn : S ∉ as := fun z => Nat.lt_irrefl _ (hG.above _ z)
  have nd : as.Nodup := List.Pairwise.imp (fun {a b} (h : a < b) => Nat.ne_of_lt h) hG.rise
  have newS : H S = none := I.hok.fresh hSz
  have new : ∀ t ∈ as, H t = none ∧ t ≠ S := fun t ht => ⟨I.hok.fresh (Nat.le_of_lt (Nat.lt_of_le_of_lt hSz (hG.above t ht))), Nat.ne_of_gt (hG.above t ht)⟩
  have atS : putP H S as (xs.zip ys) S = some (.lst (as.map V.ref)) := if_pos rfl
  have atP : ∀ (j : Nat) (t : Addr) (x y : V), as[j]? = some t → xs[j]? = some x → ys[j]? = some y → putP H S as (xs.zip ys) t = some (.tup [x, y]) := fun j t x y h1 h2 h3 => by
    unfold putP
    have e : (xs.zip ys)[j]? = some (x, y) := List.getElem?_zip_eq_some.mpr ⟨h2, h3⟩
    rw [if_neg (new t (List.mem_of_getElem? h1)).2, lookup_zip_at as (xs.zip ys) j nd h1 e]
  have off : ∀ b, b ∉ as → b ≠ S → putP H S as (xs.zip ys) b = H b := fun b h1 h2 => by
    unfold putP
    rw [if_neg h2, lookup_zip_off as _ h1]
  have low : ∀ b o, s.heap.get? b = some o → b ∉ as ∧ b ≠ S := fun b o e => ⟨fun z => absurd (Heap.lt_size e) (Nat.not_lt.mpr (Nat.le_of_lt (Nat.lt_of_le_of_lt hSz (hG.above b z)))), fun z => absurd (Heap.lt_size e) (Nat.not_lt.mpr (by rw [z]; exact hSz))⟩
  have kp : Same H (putP H S as (xs.zip ys)) := fun b u e => by
    rw [off b (fun z => by rw [(new b z).1] at e; cases e) (fun z => by rw [z, newS] at e; cases e)]
    exact e
  refine ⟨putP H S as (xs.zip ys), kp, newS, new, by omega, atS, atP, ?_⟩
  refine I.call' (ch := []) rfl ⟨fun b o q _ _ _ => hk b o q, fun b o q _ _ _ => ⟨o.slots, hk b o q⟩, fun b o q n _ => ?_, fun b o q _ => ⟨o, hk b o q⟩, fun b xs q => kp b _ q, fun b o u q => kp b _ q, fun b ps q => ⟨#[], by rw [kp b _ q]; simp⟩⟩ (fun b u q => ?_) I.bare fun b z => by simp at z
  · obtain ⟨z1, z2⟩ := low b o q
    rw [off b z1 z2]
    exact n
  · by_cases hb : b ∈ as
    · obtain ⟨j, hj⟩ := List.mem_iff_getElem?.mp hb
      have hjl : j < xs.length := by have := (List.getElem?_eq_some_iff.mp hj).1; omega
      obtain ⟨x', hx', rx'⟩ := rx.get (List.getElem?_eq_getElem hjl)
      obtain ⟨y', hy', ry'⟩ := ry.get (List.getElem?_eq_getElem (show j < ys.length by omega))
      obtain ⟨x2, y2, e1, e2, e3⟩ := hG.pairs j b hj
      rw [List.getElem?_toArray] at e1 e2
      rw [hx'] at e1
      rw [hy'] at e2
      cases e1; cases e2
      rw [atP j b _ _ hj (List.getElem?_eq_getElem hjl) (List.getElem?_eq_getElem (show j < ys.length by omega))] at q
      cases q
      exact ⟨by show 2 ≤ sizeLine; decide, [x', y'], .cons rx' (.cons ry' .nil), ⟨_, e3, rfl, _, rfl⟩⟩
    · by_cases hb2 : b = S
      · rw [hb2] at q ⊢
        rw [atS] at q
        cases q
        refine ⟨by rw [List.length_map]; omega, acc.toList, c, by rw [hacc]; exact LiI.vals_refs as, ?_⟩
        rw [Array.toArray_toList]
        exact hS
      · rw [off b hb hb2] at q
        exact (I.hok b u q).stay (fun d v _ y => hk d v y) (fun d y => kp d _ y) fun d xs y => kp d _ y
theorem pe_listZip {e1 e2 : Expr} {ta : TA} {p p2 pos pos2 : Pos} (hg : Gl X "list") (hm : X.mg "list" = none) (hg2 : Gl X "zip") (hm2 : X.mg "zip" = none) (ha : PA X [e1, e2] ta) (hc : X.calm = true := by rfl) (hv : bootBuiltins "list" = some (.type "list") := by decide +kernel)
    (hs : starEach [.Call (.Name "zip" p2) [e1, e2] [] pos2] X.env = (false, eval (.Call (.Name "zip" p2) [e1, e2] [] pos2) X.env) :: starEach [] X.env := by rfl)
    (hs2 : starEach [e1, e2] X.env = (false, eval e1 X.env) :: starEach [e2] X.env := by rfl) (hpl : (backTo pos2 (starEach [e2] X.env)).any (·.1) = false := by rfl) :
    PE X (.Call (.Name "list" p) [.Call (.Name "zip" p2) [e1, e2] [] pos2] [] pos) (tLZ X.K ta) := by
  refine ⟨fun pins s σ H Q I hq => ?_⟩
  refine wpAny_Call_Name_kw (ld_blt I hg hm hv ?_)
  refine PyProof.Rows.callWith_type1 ?_ hs rfl
  rw [hs]
  show wpAny _ _ (spliced ((false, eval (.Call (.Name "zip" p2) [e1, e2] [] pos2) X.env) :: backTo pos (starEach [] X.env))) _ _ s
  refine Calls.spliced_cons ?_
  refine Call_ (ld_blt I hg2 hm2 PyProof.Rows.boot_zip (PyProof.Rows.callWith_type1 (thn (ha.run pos2 pins s σ H _ I hq) fun us s1 ⟨vs, H1, I1, r1, q1⟩ => ?_) hs2 hpl))
  obtain ⟨a, b, xs, ys, ex, hqx, hqy, hxy, q⟩ := q1
  subst ex
  cases r1 with
  | cons r rr =>
    cases rr with
    | cons r' rr =>
      cases rr
      cases r
      cases r'
      obtain ⟨its, rv, p1, hzx⟩ := I1.list hqx
      obtain ⟨its2, rv2, p2', _⟩ := I1.tuple hqy
      have la : a < s1.heap.objs.size := p1.lt
      have tp : s1.heap.IsTuple b its2.toArray := p2'
      have lb : b < s1.heap.objs.size := by obtain ⟨o, e, _⟩ := tp; exact Heap.lt_size e
      refine zip_begins2 (begins_list a its.toArray) (begins_tuple b its2.toArray) p1.isList tp fun h' hz hTI hTO h1 h2 hsz hk => ?_
      refine Calls.spliced_nil ?_
      have D := PySem.W.ktu_apart s1.heap.objs.size a b la lb
      have D : ZipApart (s1.heap.objs.size + 4) (s1.heap.objs.size + 2) (s1.heap.objs.size + 3) s1.heap.objs.size (s1.heap.objs.size + 1) a b := D
      have st : Wz.ZS h' (s1.heap.objs.size + 4) (s1.heap.objs.size + 2) (s1.heap.objs.size + 3) s1.heap.objs.size (s1.heap.objs.size + 1) a b h'.objs.size its.toArray its2.toArray 0 :=
        ⟨.inl ⟨hz, _, _, hTO⟩, hTI, ⟨_, h1, rfl, rfl⟩, ⟨_, h2, rfl, rfl⟩, p1.isList.at fun o e => hk _ o e, by obtain ⟨o, e, r⟩ := tp; exact ⟨o, hk _ o e, r⟩⟩
      have lx : xs.length = its.length := rv.length
      have ly : ys.length = its2.length := rv2.length
      refine Wz.call_list (s := { s1 with heap := h' }) (I1.ok.hd hc) D (by show (_ < h'.objs.size ∧ _ < h'.objs.size ∧ _ < h'.objs.size ∧ _ < h'.objs.size ∧ _ < h'.objs.size ∧ _ < h'.objs.size ∧ _ < h'.objs.size); rw [hsz]; exact ⟨Nat.add_lt_add_left (by decide) _, Nat.add_lt_add_left (by decide) _, Nat.add_lt_add_left (by decide) _, Nat.lt_add_of_pos_right (by decide), Nat.add_lt_add_left (by decide) _, Nat.lt_of_lt_of_le la (Nat.le_add_right _ _), Nat.lt_of_lt_of_le lb (Nat.le_add_right _ _)⟩) (by rw [List.size_toArray]; omega) (by rw [List.size_toArray, List.size_toArray]; omega)
        ⟨D.TIz, D.TITO, D.TIi1, D.TIi2⟩ hz st fun h'' tk acc c as hk2 hS hl hG hacc => ?_
      obtain ⟨H', k1, k2, k3, k4, k5, k6, J⟩ := zip_laid (tk := tk) I1 hzx hxy rv rv2 (S := h'.objs.size) (by rw [hsz]; exact Nat.le_add_right _ _) (fun c o e => hk2 c o (Nat.ne_of_lt (Nat.lt_of_lt_of_le (Heap.lt_size e) (Nat.le_add_right _ _))) (Nat.ne_of_lt (Nat.lt_of_lt_of_le (Heap.lt_size e) (Nat.le_add_right _ _))) (Nat.ne_of_lt (Heap.lt_size e)) (Nat.ne_of_lt (Nat.lt_of_lt_of_le (Heap.lt_size e) (Nat.le_add_right _ _))) (hk c o e)) hS (by rw [hl, List.size_toArray]) hG hacc
      exact ⟨.ref _, H', J, rfl, q H' _ as k1 k2 k3 k4 k5 k6⟩
end
end Wr
end
section
set_option Elab.async false
set_option linter.all false
set_option maxRecDepth 100000
set_option maxHeartbeats 2000000
/-! # How a laundry lies in the heap -/
namespace Wt
open PySem PySem.Spec PyProof.Rows L2 Wr
open PySem.W (Frag)
open Wl (inz Lb Th Od Mc La Cl)
section
variable {K : Frag} {mg : Str → Option Value}
theorem cLabel (T : Txt K mg) : Cls K (He.ga K "Label") := T.cls "Label"
theorem nLabel_signs (T : Txt K mg) : NoAttr K (He.ga K "Label") "signs" := T.noat "Label" "signs"
theorem nLabel_heat (T : Txt K mg) : NoAttr K (He.ga K "Label") "heat" := T.noat "Label" "heat"
theorem nLabel_gentle (T : Txt K mg) : NoAttr K (He.ga K "Label") "gentle" := T.noat "Label" "gentle"
theorem nLabel_bleach (T : Txt K mg) : NoAttr K (He.ga K "Label") "bleach" := T.noat "Label" "bleach"
theorem nLabel_dry (T : Txt K mg) : NoAttr K (He.ga K "Label") "dry" := T.noat "Label" "dry"
theorem nLabel_iron (T : Txt K mg) : NoAttr K (He.ga K "Label") "iron" := T.noat "Label" "iron"
theorem cThing (T : Txt K mg) : Cls K (He.ga K "Thing") := T.cls "Thing"
theorem nThing_order (T : Txt K mg) : NoAttr K (He.ga K "Thing") "order" := T.noat "Thing" "order"
theorem nThing_label (T : Txt K mg) : NoAttr K (He.ga K "Thing") "label" := T.noat "Thing" "label"
theorem nThing_need (T : Txt K mg) : NoAttr K (He.ga K "Thing") "need" := T.noat "Thing" "need"
theorem nThing_colour (T : Txt K mg) : NoAttr K (He.ga K "Thing") "colour" := T.noat "Thing" "colour"
theorem nThing_runs (T : Txt K mg) : NoAttr K (He.ga K "Thing") "runs" := T.noat "Thing" "runs"
theorem nThing_weight (T : Txt K mg) : NoAttr K (He.ga K "Thing") "weight" := T.noat "Thing" "weight"
theorem nThing_is_washed (T : Txt K mg) : NoAttr K (He.ga K "Thing") "is_washed" := T.noat "Thing" "is_washed"
theorem nThing_machine (T : Txt K mg) : NoAttr K (He.ga K "Thing") "machine" := T.noat "Thing" "machine"
theorem cMachine (T : Txt K mg) : Cls K (He.ga K "Machine") := T.cls "Machine"
theorem nMachine_bears (T : Txt K mg) : NoAttr K (He.ga K "Machine") "bears" := T.noat "Machine" "bears"
theorem nMachine_is_broken (T : Txt K mg) : NoAttr K (He.ga K "Machine") "is_broken" := T.noat "Machine" "is_broken"
theorem nMachine_things (T : Txt K mg) : NoAttr K (He.ga K "Machine") "things" := T.noat "Machine" "things"
theorem nMachine_program (T : Txt K mg) : NoAttr K (He.ga K "Machine") "program" := T.noat "Machine" "program"
theorem nMachine_until (T : Txt K mg) : NoAttr K (He.ga K "Machine") "until" := T.noat "Machine" "until"
theorem cOrder (T : Txt K mg) : Cls K (He.ga K "Order") := T.cls "Order"
theorem nOrder_due (T : Txt K mg) : NoAttr K (He.ga K "Order") "due" := T.noat "Order" "due"
theorem nOrder_stands (T : Txt K mg) : NoAttr K (He.ga K "Order") "stands" := T.noat "Order" "stands"
theorem nOrder_things (T : Txt K mg) : NoAttr K (He.ga K "Order") "things" := T.noat "Order" "things"
theorem cLaundry (T : Txt K mg) : Cls K (He.ga K "Laundry") := T.cls "Laundry"
theorem nLaundry_price (T : Txt K mg) : NoAttr K (He.ga K "Laundry") "price" := T.noat "Laundry" "price"
theorem nLaundry_machines (T : Txt K mg) : NoAttr K (He.ga K "Laundry") "machines" := T.noat "Laundry" "machines"
theorem nLaundry_orders (T : Txt K mg) : NoAttr K (He.ga K "Laundry") "orders" := T.noat "Laundry" "orders"
theorem nLaundry_things (T : Txt K mg) : NoAttr K (He.ga K "Laundry") "things" := T.noat "Laundry" "things"
theorem nLaundry_now (T : Txt K mg) : NoAttr K (He.ga K "Laundry") "now" := T.noat "Laundry" "now"
theorem nLaundry_till (T : Txt K mg) : NoAttr K (He.ga K "Laundry") "till" := T.noat "Laundry" "till"
theorem cDesk (T : Txt K mg) : Cls K (He.ga K "Desk") := T.cls "Desk"
theorem nDesk_laundry (T : Txt K mg) : NoAttr K (He.ga K "Desk") "laundry" := T.noat "Desk" "laundry"
end
abbrev FL := List (Str × V)
abbrev vn (n : Nat) : V := .int (n : Int)
abbrev vl (l : List Nat) : List V := (inz l).map V.int
theorem vl_get {l : List Nat} {i : Nat} {x : V} (h : (vl l)[i]? = some x) : ∃ n, l[i]? = some n ∧ x = vn n := by
  rw [List.getElem?_map, List.getElem?_map] at h
  cases e : l[i]? with
  | none => rw [e] at h; cases h
  | some n => rw [e] at h; exact ⟨n, rfl, (Option.some.inj h).symm⟩
theorem vl_at {l : List Nat} {i n : Nat} (h : l[i]? = some n) : (vl l)[i]? = some (vn n) := by
  rw [List.getElem?_map, List.getElem?_map, h]; rfl
theorem vl_len (l : List Nat) : (vl l).length = l.length := by rw [List.length_map, List.length_map]
theorem vl_app (a b : List Nat) : vl (a ++ b) = vl a ++ vl b := by rw [vl, inz, List.map_append, List.map_append]
theorem vl_take (l : List Nat) (n : Nat) : (vl l).take n = vl (l.take n) := by rw [vl, inz, ← List.map_take, ← List.map_take]
theorem vl_drop (l : List Nat) (n : Nat) : (vl l).drop n = vl (l.drop n) := by rw [vl, inz, ← List.map_drop, ← List.map_drop]
/-! ### fields -/
def lbF (sg : Addr) (x : Lb) : FL := [("signs", .ref sg), ("heat", vn x.heat), ("gentle", vn x.gentle), ("bleach", vn x.bleach), ("dry", vn x.dry), ("iron", vn x.iron)]
def thF (lb : Addr) (t : Th) : FL := [("order", vn t.order), ("label", .ref lb), ("need", vn t.need), ("colour", vn t.colour), ("runs", vn t.runs), ("weight", vn t.weight), ("is_washed", .bl t.washed), ("machine", .int t.mach)]
def mcF (l p : Addr) (c : Mc) : FL := [("bears", vn c.bears), ("is_broken", .bl c.broken), ("things", .ref l), ("program", .ref p), ("until", vn c.till)]
def odF (l : Addr) (o : Od) : FL := [("due", vn o.due), ("stands", vn o.stands), ("things", .ref l)]
def laF (lm lo lt : Addr) (m : La) : FL := [("price", vn m.price), ("machines", .ref lm), ("orders", .ref lo), ("things", .ref lt), ("now", vn m.now), ("till", vn m.till)]
/-! ### a label, a thing, things -/
def LbAt (K : Frag) (H : Hp) (a sg : Addr) (x : Lb) : Prop := (∃ dx, H a = some (.ins (He.ga K "Label") dx (lbF sg x))) ∧ H sg = some (.lst (vl x.signs))
def ThAt (K : Frag) (H : Hp) (a : Addr) (t : Th) : Prop := ∃ dx lb sg, H a = some (.ins (He.ga K "Thing") dx (thF lb t)) ∧ LbAt K H lb sg t.lb
theorem LbAt.same {K : Frag} {H H' : Hp} {a sg : Addr} {x : Lb} (h : LbAt K H a sg x) (s : Same H H') : LbAt K H' a sg x := by
  obtain ⟨⟨dx, h1⟩, h2⟩ := h
  exact ⟨⟨dx, s _ _ h1⟩, s _ _ h2⟩
theorem ThAt.same {K : Frag} {H H' : Hp} {a : Addr} {t : Th} (h : ThAt K H a t) (s : Same H H') : ThAt K H' a t := by
  obtain ⟨dx, lb, sg, h1, h2⟩ := h
  exact ⟨dx, lb, sg, s _ _ h1, h2.same s⟩
/-- things at addresses -/
def Ths (K : Frag) (H : Hp) (xs : List Addr) (ts : List Th) : Prop := xs.length = ts.length ∧ ∀ (i : Nat) (x : Addr) (t : Th), xs[i]? = some x → ts[i]? = some t → ThAt K H x t
theorem Ths.same {K : Frag} {H H' : Hp} {xs : List Addr} {ts : List Th} (h : Ths K H xs ts) (s : Same H H') : Ths K H' xs ts := ⟨h.1, fun i x t a b => (h.2 i x t a b).same s⟩
theorem Ths.at {K : Frag} {H : Hp} {xs : List Addr} {ts : List Th} (h : Ths K H xs ts) {i : Nat} {x : Addr} (hx : xs[i]? = some x) : ∃ t, ts[i]? = some t ∧ ThAt K H x t := by
  have hi : i < ts.length := by rw [← h.1]; exact (List.getElem?_eq_some_iff.mp hx).1
  exact ⟨_, List.getElem?_eq_getElem hi, h.2 i x _ hx (List.getElem?_eq_getElem hi)⟩
theorem ref_get {xs : List Addr} {i : Nat} {v : V} (h : (xs.map V.ref)[i]? = some v) : ∃ x, xs[i]? = some x ∧ v = .ref x := by
  rw [List.getElem?_map] at h
  cases e : xs[i]? with
  | none => rw [e] at h; cases h
  | some x => rw [e] at h; exact ⟨x, rfl, (Option.some.inj h).symm⟩
theorem ref_at {xs : List Addr} {i : Nat} {x : Addr} (h : xs[i]? = some x) : (xs.map V.ref)[i]? = some (.ref x) := by
  rw [List.getElem?_map, h]; rfl
/-- Same, and something new -/
theorem Same.new {H : Hp} {p : Addr} {o : HO} (h : H p = none) : Same H (upd H p o) := fun b u e => by rw [upd_ne (ne_of_none e h)]; exact e
theorem Same.then_new {H H' : Hp} {p : Addr} {o : HO} (s : Same H H') (h : H' p = none) : Same H (upd H' p o) := fun b u e => by rw [upd_ne (ne_of_none (s b u e) h)]; exact s b u e
theorem Same.none_of {H H' : Hp} (s : Same H H') {p : Addr} (h : H' p = none) : H p = none := by
  cases e : H p with
  | none => rfl
  | some o => have := s _ _ e; rw [h] at this; cases this
/-- a list that grows, new since H -/
theorem Same.grow {H H' : Hp} {p : Addr} {o : HO} (s : Same H H') (h : H p = none) : Same H (upd H' p o) := fun b u e => by rw [upd_ne (ne_of_none e h)]; exact s b u e
/-! ### the roles of addresses -/
inductive Role where
  | lau | lm | lo | lt | mac (k : Nat) | mth (k : Nat) | mpr (k : Nat) | ord (o : Nat) | oth (o : Nat) | thi (i : Nat) | lab (i : Nat) | sig (i : Nat)
  deriving DecidableEq
structure Lay where
  a : Addr
  lm : Addr
  lo : Addr
  lt : Addr
  ms : List Addr
  os : List Addr
  ts : List Addr
  role : Addr → Option Role
def McAt (K : Frag) (H : Hp) (r : Addr → Option Role) (k : Nat) (x : Addr) (c : Mc) : Prop :=
  ∃ dx l p, H x = some (.ins (He.ga K "Machine") dx (mcF l p c)) ∧ H l = some (.lst (vl c.things)) ∧ H p = some (.tup (vl c.prog)) ∧ r x = some (.mac k) ∧ r l = some (.mth k) ∧ r p = some (.mpr k)
def OdAt (K : Frag) (H : Hp) (r : Addr → Option Role) (o : Nat) (x : Addr) (c : Od) : Prop :=
  ∃ dx l, H x = some (.ins (He.ga K "Order") dx (odF l c)) ∧ H l = some (.lst (vl c.things)) ∧ r x = some (.ord o) ∧ r l = some (.oth o)
def TiAt (K : Frag) (H : Hp) (r : Addr → Option Role) (i : Nat) (x : Addr) (t : Th) : Prop :=
  ∃ dx lb sg, H x = some (.ins (He.ga K "Thing") dx (thF lb t)) ∧ LbAt K H lb sg t.lb ∧ r x = some (.thi i) ∧ r lb = some (.lab i) ∧ r sg = some (.sig i)
theorem TiAt.th {K : Frag} {H : Hp} {r : Addr → Option Role} {i : Nat} {x : Addr} {t : Th} (h : TiAt K H r i x t) : ThAt K H x t := by
  obtain ⟨dx, lb, sg, h1, h2, _⟩ := h
  exact ⟨dx, lb, sg, h1, h2⟩
structure At (K : Frag) (H : Hp) (L : Lay) (m : La) : Prop where
  la : ∃ dx, H L.a = some (.ins (He.ga K "Laundry") dx (laF L.lm L.lo L.lt m))
  hm : H L.lm = some (.lst (L.ms.map V.ref))
  ho : H L.lo = some (.lst (L.os.map V.ref))
  ht : H L.lt = some (.lst (L.ts.map V.ref))
  lms : L.ms.length = m.machines.length
  los : L.os.length = m.orders.length
  lts : L.ts.length = m.things.length
  mac : ∀ k x, L.ms[k]? = some x → McAt K H L.role k x (Wl.mc m k)
  ord : ∀ o x, L.os[o]? = some x → OdAt K H L.role o x (Wl.od m o)
  thi : ∀ i x, L.ts[i]? = some x → TiAt K H L.role i x (Wl.th m i)
  ra : L.role L.a = some .lau
  rm : L.role L.lm = some .lm
  ro : L.role L.lo = some .lo
  rt : L.role L.lt = some .lt
/-- what no role bears stands as it was, and bears none -/
def Frm (H : Hp) (L : Lay) (H' : Hp) (L' : Lay) : Prop := ∀ b o, H b = some o → L.role b = none → H' b = some o ∧ L'.role b = none
theorem Frm.refl {H : Hp} {L : Lay} : Frm H L H L := fun _ _ e n => ⟨e, n⟩
theorem Frm.trans {H H1 H2 : Hp} {L L1 L2 : Lay} (a : Frm H L H1 L1) (b : Frm H1 L1 H2 L2) : Frm H L H2 L2 := fun x o e n => b x o (a x o e n).1 (a x o e n).2
theorem Frm.same {H H' : Hp} {L : Lay} (s : Same H H') : Frm H L H' L := fun b o e n => ⟨s b o e, n⟩
section
variable {K : Frag} {H H' : Hp} {L : Lay} {m : La}
theorem McAt.keep {r : Addr → Option Role} {k : Nat} {x : Addr} {c : Mc} (h : McAt K H r k x c) (s : ∀ z o, H z = some o → (r z = some (.mac k) ∨ r z = some (.mth k) ∨ r z = some (.mpr k)) → H' z = some o) : McAt K H' r k x c := by
  obtain ⟨dx, l, p, h1, h2, h3, h4, h5, h6⟩ := h
  exact ⟨dx, l, p, s _ _ h1 (.inl h4), s _ _ h2 (.inr (.inl h5)), s _ _ h3 (.inr (.inr h6)), h4, h5, h6⟩
theorem OdAt.keep {r : Addr → Option Role} {o : Nat} {x : Addr} {c : Od} (h : OdAt K H r o x c) (s : ∀ z u, H z = some u → (r z = some (.ord o) ∨ r z = some (.oth o)) → H' z = some u) : OdAt K H' r o x c := by
  obtain ⟨dx, l, h1, h2, h4, h5⟩ := h
  exact ⟨dx, l, s _ _ h1 (.inl h4), s _ _ h2 (.inr h5), h4, h5⟩
theorem TiAt.keep {r : Addr → Option Role} {i : Nat} {x : Addr} {t : Th} (h : TiAt K H r i x t) (s : ∀ z u, H z = some u → (r z = some (.thi i) ∨ r z = some (.lab i) ∨ r z = some (.sig i)) → H' z = some u) : TiAt K H' r i x t := by
  obtain ⟨dx, lb, sg, h1, ⟨⟨d2, h2⟩, h3⟩, h4, h5, h6⟩ := h
  exact ⟨dx, lb, sg, s _ _ h1 (.inl h4), ⟨⟨d2, s _ _ h2 (.inr (.inl h5))⟩, s _ _ h3 (.inr (.inr h6))⟩, h4, h5, h6⟩
theorem At.same (A : At K H L m) (s : Same H H') : At K H' L m :=
  { A with
    la := by obtain ⟨dx, e⟩ := A.la; exact ⟨dx, s _ _ e⟩
    hm := s _ _ A.hm
    ho := s _ _ A.ho
    ht := s _ _ A.ht
    mac := fun k x e => (A.mac k x e).keep fun z o q _ => s z o q
    ord := fun k x e => (A.ord k x e).keep fun z o q _ => s z o q
    thi := fun k x e => (A.thi k x e).keep fun z o q _ => s z o q }
/-- more roles -/
def Lay.more (L : Lay) (p : Addr) (r : Role) : Lay := { L with role := fun b => if b = p then some r else L.role b }
theorem more_same {L : Lay} {p : Addr} {r : Role} : (L.more p r).role p = some r := if_pos rfl
theorem more_ne {L : Lay} {p b : Addr} {r : Role} (h : b ≠ p) : (L.more p r).role b = L.role b := if_neg h
theorem more_old {L : Lay} {p b : Addr} {r q : Role} (n : L.role p = none) (h : L.role b = some q) : (L.more p r).role b = some q := by
  by_cases c : b = p
  · subst c; rw [n] at h; cases h
  · rw [more_ne c]; exact h
theorem At.more (A : At K H L m) {p : Addr} {r : Role} (n : L.role p = none) : At K H (L.more p r) m :=
  { la := A.la, hm := A.hm, ho := A.ho, ht := A.ht, lms := A.lms, los := A.los, lts := A.lts
    mac := fun k x e => by
      obtain ⟨dx, l, q, h1, h2, h3, h4, h5, h6⟩ := A.mac k x e
      exact ⟨dx, l, q, h1, h2, h3, more_old n h4, more_old n h5, more_old n h6⟩
    ord := fun k x e => by
      obtain ⟨dx, l, h1, h2, h4, h5⟩ := A.ord k x e
      exact ⟨dx, l, h1, h2, more_old n h4, more_old n h5⟩
    thi := fun k x e => by
      obtain ⟨dx, lb, sg, h1, h2, h4, h5, h6⟩ := A.thi k x e
      exact ⟨dx, lb, sg, h1, h2, more_old n h4, more_old n h5, more_old n h6⟩
    ra := more_old n A.ra, rm := more_old n A.rm, ro := more_old n A.ro, rt := more_old n A.rt }
/-- what differs in the objects of one role alone -/
def But (r : Addr → Option Role) (q : Role) (H H' : Hp) : Prop := ∀ z o, H z = some o → r z ≠ some q → H' z = some o
theorem But.upd {y : Addr} {q : Role} {o : HO} (h : L.role y = some q) : But L.role q H (upd H y o) := fun z u e n => by
  rw [upd_ne (fun c => n (by rw [c]; exact h))]; exact e
theorem But.frm {q : Role} (b : But L.role q H H') : Frm H L H' L := fun z o e n => ⟨b z o e (by rw [n]; exact fun z => nomatch z), n⟩
/-! #### what each part asks of a change -/
theorem role_ne {r : Addr → Option Role} {z : Addr} {p q : Role} (h : r z = some p) (n : p ≠ q) : r z ≠ some q := fun e => n (Option.some.inj (h.symm.trans e))
theorem At.mac_but (A : At K H L m) {q : Role} (b : But L.role q H H') {k : Nat} {x : Addr} (e : L.ms[k]? = some x) (n1 : Role.mac k ≠ q) (n2 : Role.mth k ≠ q) (n3 : Role.mpr k ≠ q) : McAt K H' L.role k x (Wl.mc m k) :=
  (A.mac k x e).keep fun z o h c => b z o h (by rcases c with c | c | c <;> exact role_ne c (by assumption))
theorem At.ord_but (A : At K H L m) {q : Role} (b : But L.role q H H') {k : Nat} {x : Addr} (e : L.os[k]? = some x) (n1 : Role.ord k ≠ q) (n2 : Role.oth k ≠ q) : OdAt K H' L.role k x (Wl.od m k) :=
  (A.ord k x e).keep fun z o h c => b z o h (by rcases c with c | c <;> exact role_ne c (by assumption))
theorem At.thi_but (A : At K H L m) {q : Role} (b : But L.role q H H') {k : Nat} {x : Addr} (e : L.ts[k]? = some x) (n1 : Role.thi k ≠ q) (n2 : Role.lab k ≠ q) (n3 : Role.sig k ≠ q) : TiAt K H' L.role k x (Wl.th m k) :=
  (A.thi k x e).keep fun z o h c => b z o h (by rcases c with c | c | c <;> exact role_ne c (by assumption))
/-- an order is changed -/
theorem At.setOd (A : At K H L m) {o : Nat} {x dx l : Addr} {c : Od} (e : L.os[o]? = some x) (h : H x = some (.ins (He.ga K "Order") dx (odF l (Wl.od m o)))) (ht : c.things = (Wl.od m o).things) :
    At K (upd H x (.ins (He.ga K "Order") dx (odF l c))) L { m with orders := m.orders.set o c } ∧ But L.role (.ord o) H (upd H x (.ins (He.ga K "Order") dx (odF l c))) := by
  obtain ⟨d2, l2, h1, h2, h4, h5⟩ := A.ord o x e
  rw [h] at h1
  cases h1
  have b : But L.role (.ord o) H (upd H x (.ins (He.ga K "Order") dx (odF l c))) := But.upd h4
  have ol : o < m.orders.length := by rw [← A.los]; exact (List.getElem?_eq_some_iff.mp e).1
  refine ⟨{ A with la := ?_, hm := ?_, ho := ?_, ht := ?_, los := ?_, mac := ?_, ord := ?_, thi := ?_ }, b⟩
  · obtain ⟨d, q⟩ := A.la
    exact ⟨d, b _ _ q (role_ne A.ra (by simp))⟩
  · exact b _ _ A.hm (role_ne A.rm (by simp))
  · exact b _ _ A.ho (role_ne A.ro (by simp))
  · exact b _ _ A.ht (role_ne A.rt (by simp))
  · show L.os.length = (m.orders.set o c).length
    rw [List.length_set]; exact A.los
  · exact fun k y q => A.mac_but b q (by simp) (by simp) (by simp)
  · intro k y q
    have eo : Wl.od { m with orders := m.orders.set o c } k = if k = o then c else Wl.od m k := Wl.getD_set ol
    rw [eo]
    by_cases ck : k = o
    · subst ck
      rw [e] at q
      cases q
      rw [if_pos rfl]
      exact ⟨dx, l, upd_same, by rw [ht]; exact b _ _ h2 (role_ne h5 (by simp)), h4, h5⟩
    · rw [if_neg ck]
      exact A.ord_but b q (by simp [ck]) (by simp)
  · exact fun k y q => A.thi_but b q (by simp) (by simp) (by simp)
/-- a thing is changed (not its label) -/
theorem At.setTh (A : At K H L m) {i : Nat} {x dx lb : Addr} {t : Th} (e : L.ts[i]? = some x) (h : H x = some (.ins (He.ga K "Thing") dx (thF lb (Wl.th m i)))) (ht : t.lb = (Wl.th m i).lb) :
    At K (upd H x (.ins (He.ga K "Thing") dx (thF lb t))) L { m with things := m.things.set i t } ∧ But L.role (.thi i) H (upd H x (.ins (He.ga K "Thing") dx (thF lb t))) := by
  obtain ⟨d2, l2, sg, h1, h2, h4, h5, h6⟩ := A.thi i x e
  rw [h] at h1
  cases h1
  have b : But L.role (.thi i) H (upd H x (.ins (He.ga K "Thing") dx (thF lb t))) := But.upd h4
  have ol : i < m.things.length := by rw [← A.lts]; exact (List.getElem?_eq_some_iff.mp e).1
  refine ⟨{ A with la := ?_, hm := ?_, ho := ?_, ht := ?_, lts := ?_, mac := ?_, ord := ?_, thi := ?_ }, b⟩
  · obtain ⟨d, q⟩ := A.la
    exact ⟨d, b _ _ q (role_ne A.ra (by simp))⟩
  · exact b _ _ A.hm (role_ne A.rm (by simp))
  · exact b _ _ A.ho (role_ne A.ro (by simp))
  · exact b _ _ A.ht (role_ne A.rt (by simp))
  · show L.ts.length = (m.things.set i t).length
    rw [List.length_set]; exact A.lts
  · exact fun k y q => A.mac_but b q (by simp) (by simp) (by simp)
  · exact fun k y q => A.ord_but b q (by simp) (by simp)
  · intro k y q
    have eo : Wl.th { m with things := m.things.set i t } k = if k = i then t else Wl.th m k := Wl.getD_set ol
    rw [eo]
    by_cases ck : k = i
    · subst ck
      rw [e] at q
      cases q
      rw [if_pos rfl]
      obtain ⟨⟨d3, h2⟩, h3⟩ := h2
      exact ⟨dx, lb, sg, upd_same, by rw [ht]; exact ⟨⟨d3, b _ _ h2 (role_ne h5 (by simp))⟩, b _ _ h3 (role_ne h6 (by simp))⟩, h4, h5, h6⟩
    · rw [if_neg ck]
      exact A.thi_but b q (by simp [ck]) (by simp) (by simp)
/-- a machine is changed; its list and its program lie at l, p -/
theorem At.setMc (A : At K H L m) {k : Nat} {x dx l0 p0 l p : Addr} {c : Mc} (e : L.ms[k]? = some x) (h : H x = some (.ins (He.ga K "Machine") dx (mcF l0 p0 (Wl.mc m k))))
    (hl : H l = some (.lst (vl c.things))) (hp : H p = some (.tup (vl c.prog))) (rl : L.role l = some (.mth k)) (rp : L.role p = some (.mpr k)) :
    At K (upd H x (.ins (He.ga K "Machine") dx (mcF l p c))) L { m with machines := m.machines.set k c } ∧ But L.role (.mac k) H (upd H x (.ins (He.ga K "Machine") dx (mcF l p c))) := by
  obtain ⟨d2, l2, p2, h1, h2, h3, h4, h5, h6⟩ := A.mac k x e
  rw [h] at h1
  cases h1
  have b : But L.role (.mac k) H (upd H x (.ins (He.ga K "Machine") dx (mcF l p c))) := But.upd h4
  have ol : k < m.machines.length := by rw [← A.lms]; exact (List.getElem?_eq_some_iff.mp e).1
  refine ⟨{ A with la := ?_, hm := ?_, ho := ?_, ht := ?_, lms := ?_, mac := ?_, ord := ?_, thi := ?_ }, b⟩
  · obtain ⟨d, q⟩ := A.la
    exact ⟨d, b _ _ q (role_ne A.ra (by simp))⟩
  · exact b _ _ A.hm (role_ne A.rm (by simp))
  · exact b _ _ A.ho (role_ne A.ro (by simp))
  · exact b _ _ A.ht (role_ne A.rt (by simp))
  · show L.ms.length = (m.machines.set k c).length
    rw [List.length_set]; exact A.lms
  · intro j y q
    have eo : Wl.mc { m with machines := m.machines.set k c } j = if j = k then c else Wl.mc m j := Wl.getD_set ol
    rw [eo]
    by_cases ck : j = k
    · subst ck
      rw [e] at q
      cases q
      rw [if_pos rfl]
      exact ⟨dx, l, p, upd_same, b _ _ hl (role_ne rl (by simp)), b _ _ hp (role_ne rp (by simp)), h4, rl, rp⟩
    · rw [if_neg ck]
      exact A.mac_but b q (by simp [ck]) (by simp) (by simp)
  · exact fun k y q => A.ord_but b q (by simp) (by simp)
  · exact fun k y q => A.thi_but b q (by simp) (by simp) (by simp)
/-- the laundry's own numbers are changed -/
theorem At.setLa (A : At K H L m) {dx : Addr} {now till : Nat} (h : H L.a = some (.ins (He.ga K "Laundry") dx (laF L.lm L.lo L.lt m))) :
    At K (upd H L.a (.ins (He.ga K "Laundry") dx (laF L.lm L.lo L.lt { m with now := now, till := till }))) L { m with now := now, till := till } ∧ But L.role .lau H (upd H L.a (.ins (He.ga K "Laundry") dx (laF L.lm L.lo L.lt { m with now := now, till := till }))) := by
  have b : But L.role .lau H (upd H L.a (.ins (He.ga K "Laundry") dx (laF L.lm L.lo L.lt { m with now := now, till := till }))) := But.upd A.ra
  refine ⟨{ A with la := ⟨dx, upd_same⟩, hm := ?_, ho := ?_, ht := ?_, mac := ?_, ord := ?_, thi := ?_ }, b⟩
  · exact b _ _ A.hm (role_ne A.rm (by simp))
  · exact b _ _ A.ho (role_ne A.ro (by simp))
  · exact b _ _ A.ht (role_ne A.rt (by simp))
  · exact fun k y q => A.mac_but b q (by simp) (by simp) (by simp)
  · exact fun k y q => A.ord_but b q (by simp) (by simp)
  · exact fun k y q => A.thi_but b q (by simp) (by simp) (by simp)
end
end Wt
end
section
set_option Elab.async false
set_option linter.all false
set_option maxRecDepth 100000
set_option maxHeartbeats 2000000
/-! # The error, calls that it may leave, small words -/
namespace Wt
open PySem PySem.Spec PyProof.Rows L2 Wr
open PySem.W (Frag)
theorem un_of {A : Around} {k : Nat} (hr : Room k A) : A.units < cLine := Nat.lt_of_succ_lt (hu_of hr)
section
variable {K : Frag} {mg : Str → Option Value}
abbrev aRef (K : Frag) : Addr := He.ga K "Refused"
abbrev aRefI (K : Frag) : Addr := He.ma K (He.ga K "Refused") "__init__"
structure RefF (K : Frag) : Prop where
  oex : OexC K (aRef K)
  xf : XfC K (aRef K)
  nn : PySem.W.findIn K (.ref (aRef K)) "number" = some none
  iC : PySem.W.findIn K (.ref (aRef K)) "__init__" = some (some (.ref (aRefI K)))
  tI : PySem.W.typeIn K (.ref (aRefI K)) = some (.type "function")
  kI : PySem.W.keepIn K (.ref (aRefI K)) = true
  te : PySem.W.exmOne K (.ref (aRef K)) (.ref (aRef K)) = some true
theorem refB_ok {C : Addr} (h : refB K C = true) : ∃ nm q N bs bm sn sub ab col dd k0 k1 k2 k3 k5, K.lookup C = some (excClassObj nm q C N bs bm true sn sub ab col dd k0 k1 k2 k3 k5 "ValueError.__new__") ∧ PySem.HandSPX.refsVE bm = true := by
  unfold refB at h
  split at h
  · rename_i c dd cd sl q
    split at h
    · rename_i C' bm k0 k1 k2 k3 n k5 hm hs
      simp only [Bool.and_eq_true, beq_iff_eq, Bool.not_eq_true', decide_eq_true_eq] at h
      obtain ⟨rfl, rfl, rfl, hdel, hd, hr⟩ := h
      obtain ⟨nm, bs, mro, ns, qn, hdd, sn, sub, ab, col, del⟩ := cd
      dsimp only at hm hdel hd
      subst hm hdel hd
      have hsl : sl = #[k0, k1, k2, k3, some (.builtin "ValueError.__new__"), k5] := by
        obtain ⟨l⟩ := sl
        have e : l = [k0, k1, k2, k3, some (.builtin "ValueError.__new__"), k5] := hs
        rw [e]
      subst hsl
      exact ⟨_, _, _, _, _, _, _, _, _, _, _, _, _, _, _, q, hr⟩
    · cases h
  · cases h
theorem Txt.ref (T : Txt K mg) : RefF K := by
  have h := (He.ba (show (refFacts K && _) = true from T.bits.2.2)).1
  obtain ⟨h1, h⟩ := He.ba h
  obtain ⟨h2, h⟩ := He.ba h
  obtain ⟨h3, h⟩ := He.ba h
  obtain ⟨h4, h⟩ := He.ba h
  obtain ⟨h5, h⟩ := He.ba h
  obtain ⟨h6, h⟩ := He.ba h
  obtain ⟨h7, h⟩ := He.ba h
  obtain ⟨h8, h⟩ := He.ba h
  obtain ⟨h9, h⟩ := He.ba h
  obtain ⟨h10, h11⟩ := He.ba h
  exact ⟨⟨refB_ok h1, He.eqO_ok h2, of_decide_eq_true h3, of_decide_eq_true h4, h5⟩, xfB_ok h6, He.eqO_ok h7, He.eqO_ok h8, of_decide_eq_true h9, h10, of_decide_eq_true h11⟩
/-- Refused's __init__ -/
def sp_Refused (K : Frag) : Sp := fun vs H Q _ => ∃ (a : Addr) (v : V), vs = [.ref a, v] ∧ H a = some (exo a (aRef K) none) ∧ ∀ dx, H dx = none → dx ≠ a → Q .non (upd (upd H dx (exd dx [("number", v)])) a (exo a (aRef K) (some dx)))
def RefOk (P : Program) (w : World) (K : Frag) (mg : Str → Option Value) (base : Heap) (k : Nat) : Prop :=
  ∃ fd, FnOk P w K mg base CX0 k (aRefI K) fd P_RefusedI (sp_Refused K) ∧ Binds K fd P_RefusedI []
variable {P : Program} {w : World} {base : Heap}
theorem ok_Refused (T : Txt K mg) : RefOk P w K mg base 1 := by
  obtain ⟨fd, F⟩ := T.fd 5 (d := d_RefusedI) (st := sRefusedI) (kp := T.ref.kI)
  refine ⟨fd, F.ok sc_RefusedI (fun vs H Q E h => ?_) (fun cdv A outer s H vs Q E hr h => ⟨_, pss_one (ps_ost (pv 0) (pv 1)), ?_⟩), F.binds (fun _ _ _ _ _ _ us hl => match us, hl with | [_, _], _ => rfl)⟩
  · obtain ⟨a, v, rfl, _⟩ := h; rfl
  · obtain ⟨a, v, rfl, h1, q⟩ := h
    exact ⟨_, rfl, _, rfl, a, aRef K, rfl, T.ref.oex, T.ref.nn, .inl ⟨h1, q⟩⟩
/-- Refused(v), the error made: its own dict holds the number -/
theorem raise_fin {Q : XK} {v : V} {H1 : Hp} (h : ∀ H' d, Same H1 H' → H1 d = none → H' d = some (.xd [("number", v)]) → Q (.ref (aRef K)) (some d) H') : [v].length ≤ 1000 ∧ ∀ a, H1 a = none → sp_Refused K (.ref a :: ([v] ++ [])) (upd H1 a (exo a (aRef K) none))
    (fun v H2 => v = .non ∧ ∃ (d : Addr) (fs : List (Str × V)), H2 a = some (exo a (aRef K) (some d)) ∧ H2 d = some (exd d fs) ∧ H1 d = none ∧ Q (.ref (aRef K)) (some d) (upd (del H2 a) d (.xd fs))) fun _ _ _ => False := by
  refine ⟨(by show 1 ≤ 1000; decide), fun a ha => ⟨a, v, rfl, upd_same, fun dx hd hne => ⟨rfl, dx, [("number", v)], upd_same, ?_, ?_, ?_⟩⟩⟩
  · rw [upd_ne hne, upd_same]
  · rw [upd_ne hne] at hd; exact hd
  · refine h _ _ (fun b o e => ?_) ?_ upd_same
    · have hd' : H1 dx = none := by rw [upd_ne hne] at hd; exact hd
      have h1 : b ≠ dx := ne_of_none e hd'
      have h2 : b ≠ a := ne_of_none e ha
      rw [upd_ne h1, del_ne h2, upd_ne h2, upd_ne h1, upd_ne h2]; exact e
    · rw [upd_ne hne] at hd; exact hd
theorem pmk_ref {X : Cx} {t : TA} {e : Expr} {es : List Expr} {p pos : Pos} {k : Nat} (T : Txt X.K X.mg) (D : RefOk X.prog X.w X.K X.mg X.base k) (hr : Room (k + 1) X.A) (ha : PA X (e :: es) t) (hg : Gl X "Refused" := by rfl)
    (he : starEach (e :: es) X.env = (false, eval e X.env) :: starEach es X.env := by rfl) (hpl : (backTo pos (starEach es X.env)).any (·.1) = false := by rfl) :
    PMk X (.Call (.Name "Refused" p) (e :: es) [] pos) (tMkO (aRef X.K) (sp_Refused X.K) [] t) := by
  obtain ⟨fd, F, b⟩ := D
  exact pmk_oex (dvs := []) T.ref.oex T.ref.iC T.ref.tI F hr b .nil (fun _ _ _ _ _ _ _ z => z.elim) hg (T.glo "Refused") ha (he := he) (hpl := hpl)
section
variable {X : Cx} {k : Nat} {x : Str} {ps : List Str} {sp : Sp} {e : Expr} {es : List Expr} {t : TA} {p pos : Pos} {E : XK}
/-- a call of a def that an error may leave, in a def that it may leave too -/
theorem pe_dx (D : DefOk X.prog X.w X.K X.mg X.base (L2.CX X.prog X.w) k x ps sp) (hr : Room k X.A) (hg : Gl X x) (tk : Takes X (fun cls d _ H => E cls d H)) (ha : PA X (e :: es) t) (hdb : (x == ("__debug__" : Str)) = false := by decide)
    (he : starEach (e :: es) X.env = (false, eval e X.env) :: starEach es X.env := by rfl) (hpl : (backTo pos (starEach es X.env)).any (·.1) = false := by rfl) :
    PE X (.Call (.Name x p) (e :: es) [] pos) (tCall sp [] E t) := by
  obtain ⟨fd, F, b, m, kp⟩ := D
  exact pe_call F hr hg m kp b .nil (passes_call tk fun _ _ _ _ h => h) ha hdb he hpl
end
/-- the numbers 0 to 255 and such: an if whose test is known -/
theorem if_t {c : Bool} {A B : Prop} (hc : c = true) (h : A) : if c = true then A else B := by rw [if_pos hc]; exact h
theorem if_f {c : Bool} {A B : Prop} (hc : c = false) (h : B) : if c = true then A else B := by rw [hc]; exact h
theorem ite_dec {p : Prop} [Decidable p] {A B : Prop} (h1 : p → A) (h2 : ¬ p → B) : if decide p = true then A else B := by
  by_cases c : p
  · rw [if_pos (decide_eq_true c)]; exact h1 c
  · rw [if_neg (fun q => c (of_decide_eq_true q))]; exact h2 c
theorem ite_eqI {i j : Int} {A B : Prop} (h1 : i = j → A) (h2 : i ≠ j → B) : if decide (V.int i = V.int j) = true then A else B :=
  ite_dec (fun c => h1 (V.int.inj c)) fun c => h2 fun e => c (by rw [e])
theorem ite_neI {i j : Int} {A B : Prop} (h1 : i ≠ j → A) (h2 : i = j → B) : if (!decide (V.int i = V.int j)) = true then A else B := by
  by_cases c : i = j
  · rw [if_neg (by rw [c]; simp)]; exact h2 c
  · rw [if_pos (by simp [c])]; exact h1 c
theorem ite_b {b : Bool} {A B : Prop} (h1 : b = true → A) (h2 : b = false → B) : if b = true then A else B := by
  cases b with
  | true => exact h1 rfl
  | false => exact if_f rfl (h2 rfl)
theorem ite_nb {b : Bool} {A B : Prop} (h1 : b = false → A) (h2 : b = true → B) : if (!b) = true then A else B := by
  cases b with
  | true => exact if_f rfl (h2 rfl)
  | false => exact if_t rfl (h1 rfl)
theorem inV_int (z : Int) (ns : List Int) : inV (.int z) (ns.map V.int) = decide (z ∈ ns) := by
  unfold inV
  rw [List.any_map, Bool.eq_iff_iff, List.any_eq_true]
  constructor
  · rintro ⟨x, hx, e⟩
    have e' : (x == z) = true := e
    rw [eq_of_beq e'] at hx
    exact decide_eq_true hx
  · intro h
    exact ⟨z, of_decide_eq_true h, by show (z == z) = true; simp⟩
theorem flat_ints (ns : List Int) : (ns.map V.int).all flatV = true := by
  rw [List.all_map, List.all_eq_true]
  intro x _; rfl
/-- the item at a place that is told as a number -/
theorem ix_vn {l : List Nat} {i n : Nat} (h : l[i]? = some n) : atI (vl l) (i : Int) = some (vn n) := atI_nat (vl_at h)
theorem ix_ref {xs : List Addr} {i : Nat} {x : Addr} (h : xs[i]? = some x) : atI (xs.map V.ref) (i : Int) = some (.ref x) := atI_nat (ref_at h)
theorem vl_small {l : List Nat} {n : Nat} (h : l.length ≤ n) (hn : n ≤ 16777216) : (vl l).length ≤ sizeLine := by rw [vl_len, sizeLine_eq]; omega
theorem line_lt {n : Nat} (h : n < 16777216) : n < sizeLine := by rw [sizeLine_eq]; exact h
theorem line_le {n : Nat} (h : n ≤ 16777216) : n ≤ sizeLine := by rw [sizeLine_eq]; exact h
theorem intsB_nil {K : Frag} {a : Addr} {ns : List Int} (h : intsB ns (tupAt K a) = true) (ne : ns ≠ []) (H : Hp) : SqT K H a (ns.map V.int) := tupAt_ok (intsB_ok h) (by simpa using ne) H
theorem Txt.tabs (T : Txt K mg) : minOk K = true ∧ intsB [30, 40, 60, 95] (tupAt K (He.ga K "HEATS")) = true ∧ intsB [0, 30, 40, 60, 95] (tupAt K (He.ga K "NEEDS")) = true ∧ intsB [1, 1, 5, 1, 1, 2, 1, 2, 1, 1, 1, 1, 1, 1, 1, 0, 0, 1, 1, 1, 0, 0, 0, 0] (tupAt K (He.ga K "NUMBERS")) = true ∧
    intsB [0, 2, 15] (tupAt K (He.ga K "WITH_LIST")) = true ∧ refsB (tupAt K (He.ga K "ENDS")) = true ∧ (tupAt K (He.ga K "ENDS")).length = 3 ∧ intsB [66, 2] (tupAt K (endA K 0)) = true ∧ intsB [68, 2] (tupAt K (endA K 1)) = true ∧ intsB [73, 3] (tupAt K (endA K 2)) = true := by
  obtain ⟨_, h⟩ := He.ba (show (refFacts K && _) = true from T.bits.2.2)
  obtain ⟨h1, h⟩ := He.ba h
  obtain ⟨h2, h⟩ := He.ba h
  obtain ⟨h3, h⟩ := He.ba h
  obtain ⟨h4, h⟩ := He.ba h
  obtain ⟨h5, h⟩ := He.ba h
  obtain ⟨h6, h⟩ := He.ba h
  obtain ⟨h7, h⟩ := He.ba h
  obtain ⟨h8, h⟩ := He.ba h
  obtain ⟨h9, h10⟩ := He.ba h
  exact ⟨h1, h2, h3, h4, h5, h6, of_decide_eq_true h7, h8, h9, h10⟩
theorem Txt.heats (T : Txt K mg) (H : Hp) : SqT K H (He.ga K "HEATS") (([30, 40, 60, 95] : List Int).map V.int) := intsB_nil T.tabs.2.1 (by decide) H
theorem Txt.needs (T : Txt K mg) (H : Hp) : SqT K H (He.ga K "NEEDS") (([0, 30, 40, 60, 95] : List Int).map V.int) := intsB_nil T.tabs.2.2.1 (by decide) H
theorem Txt.nums (T : Txt K mg) (H : Hp) : SqT K H (He.ga K "NUMBERS") (vl Wl.numA) := intsB_nil T.tabs.2.2.2.1 (by decide) H
theorem Txt.withs (T : Txt K mg) (H : Hp) : SqT K H (He.ga K "WITH_LIST") (([0, 2, 15] : List Int).map V.int) := intsB_nil T.tabs.2.2.2.2.1 (by decide) H
/-- ask(holds, number) -/
def sp_ask (K : Frag) : Sp := fun vs H Q E => ∃ (b : Bool) (n : Int), vs = [.bl b, .int n] ∧ (b = true → Q .non H) ∧ (b = false → ∀ H' d, Same H H' → H d = none → H' d = some (.xd [("number", .int n)]) → E (.ref (aRef K)) (some d) H')
theorem ok_ask (T : Txt K mg) (DI : RefOk P w K mg base 1) : DefOk P w K mg base (L2.CX P w) 3 "ask" P_ask (sp_ask K) := by
  refine dokX T (T.fd 29 (d := d_ask) (st := s_ask) (kp := T.keep "ask")) (T.glo "ask") sc_ask (fun _ _ _ _ _ _ us hl => match us, hl with | [_, _], _ => rfl) ?len (fun cdv A outer s H vs Q E hr h => ⟨_, (pss_one (ps_if (pt_not (pt_val (pv 0)))
        (pss_one (ps_raise rfl (takes_of rfl rfl rfl rfl) (pmk_ref T DI hr (pa_cons (pv 1) pa_nil))))
        pss_nil)), ?body⟩)
  case len => intro vs H Q E h; obtain ⟨b, n, rfl, q1, q2⟩ := h; rfl
  case body =>
    obtain ⟨b, n, rfl, q1, q2⟩ := h
    refine ⟨_, rfl, b, rfl, ?_⟩
    cases b with
    | true => exact if_f rfl (q1 rfl)
    | false => exact if_t rfl ⟨_, rfl, raise_fin (q2 rfl)⟩
end
end Wt
end
section
set_option Elab.async false
set_option linter.all false
set_option maxRecDepth 100000
set_option maxHeartbeats 2000000
/-! # Labels in signs -/
namespace Wt
open PySem PySem.Spec PyProof.Rows L2 Wr
open PySem.W (Frag)
open Wl (Lb Th Od Mc La Cl)
section
variable {P : Program} {w : World} {K : Frag} {mg : Str → Option Value} {base : Heap}
def sp_Label (K : Frag) : Sp := fun vs H Q _ => ∃ (p dx sg : Addr) (x : Lb), vs = [.ref p, .ref sg, vn x.heat, vn x.gentle, vn x.bleach, vn x.dry, vn x.iron] ∧ H p = some (.ins (He.ga K "Label") dx []) ∧ Q .non (upd H p (.ins (He.ga K "Label") dx (lbF sg x)))
theorem ok_Label (T : Txt K mg)  : MkOk P w K mg base 1 "Label" P_LabelI (sp_Label K) := by
  refine mok (T.fd 0 (d := d_LabelI) (st := sLabelI) (kp := (T.meth "Label").kp)) (T.glo "Label") (T.mkr "Label") sc_LabelI (fun _ _ _ _ _ _ us hl => match us, hl with | [_, _, _, _, _, _, _], _ => rfl) ?len (fun cdv A outer s H vs Q E hr h => ⟨_, (pss_cons (ps_fld (pv 0) (pv 1) rfl)
      (pss_cons (ps_fld (pv 0) (pv 2) rfl)
      (pss_cons (ps_fld (pv 0) (pv 3) rfl)
      (pss_cons (ps_fld (pv 0) (pv 4) rfl)
      (pss_cons (ps_fld (pv 0) (pv 5) rfl)
      (pss_one (ps_fld (pv 0) (pv 6) rfl))))))), ?body⟩)
  case len => intro vs H Q E h; obtain ⟨p, dx, sg, x, rfl, h1, q⟩ := h; rfl
  case body =>
    obtain ⟨p, dx, sg, x, rfl, h1, q⟩ := h
    refine ⟨_, rfl, _, rfl, p, _, dx, _, rfl, h1, cLabel T, nLabel_signs T, (by show 0 < 1000; decide), ?_⟩
    refine ⟨_, rfl, _, rfl, p, _, dx, _, rfl, upd_same, cLabel T, nLabel_heat T, (by show 1 < 1000; decide), ?_⟩
    rw [upd_upd]
    refine ⟨_, rfl, _, rfl, p, _, dx, _, rfl, upd_same, cLabel T, nLabel_gentle T, (by show 2 < 1000; decide), ?_⟩
    rw [upd_upd]
    refine ⟨_, rfl, _, rfl, p, _, dx, _, rfl, upd_same, cLabel T, nLabel_bleach T, (by show 3 < 1000; decide), ?_⟩
    rw [upd_upd]
    refine ⟨_, rfl, _, rfl, p, _, dx, _, rfl, upd_same, cLabel T, nLabel_dry T, (by show 4 < 1000; decide), ?_⟩
    rw [upd_upd]
    refine ⟨_, rfl, _, rfl, p, _, dx, _, rfl, upd_same, cLabel T, nLabel_iron T, (by show 5 < 1000; decide), ?_⟩
    rw [upd_upd]
    exact q
def sp_digit_of (K : Frag) : Sp := fun vs H Q _ => ∃ n : Nat, vs = [vn n] ∧ Q (.int (Wl.digI n)) H
theorem ok_digit_of (T : Txt K mg)  : DefOk P w K mg base CX0 1 "digit_of" P_digit_of (sp_digit_of K) := by
  refine dok0 T (T.fd 7 (d := d_digit_of) (st := s_digit_of) (kp := T.keep "digit_of")) (T.glo "digit_of") sc_digit_of (fun _ _ _ _ _ _ us hl => match us, hl with | [_], _ => rfl) ?len (fun cdv A outer s H vs Q E hr h => ⟨_, (pss_cons (ps_if (PW.pt (pw_and (pt_cmpR op_le pe_int (pv 0) (nomark _)) (pw_and1 (pt_cmpR op_le (pv 0) pe_int (nomark _)))))
        (pss_one (ps_ret (pe_op op_sub (pv 0) pe_int)))
        pss_nil)
      (pss_one (ps_ret (pe_un un_neg pe_int)))), ?body⟩)
  case len => intro vs H Q E h; obtain ⟨n, rfl, q⟩ := h; rfl
  case body =>
    obtain ⟨n, rfl, q⟩ := h
    refine ⟨_, rfl, _, _, rfl, rfl, _, rfl, ite_dec (fun c1 => ⟨_, rfl, _, _, rfl, rfl, _, rfl, ite_dec (fun c2 => ?_) (fun c2 => ?_)⟩) (fun c1 => if_f rfl ?_)⟩
    · have e : Wl.digI n = (n : Int) - 48 := if_pos ⟨by omega, by omega⟩
      rw [e] at q
      exact ⟨_, rfl, _, _, rfl, rfl, q⟩
    · have e : Wl.digI n = -1 := if_neg (by omega)
      rw [e] at q
      exact ⟨_, rfl, q⟩
    · have e : Wl.digI n = -1 := if_neg (by omega)
      rw [e] at q
      exact ⟨_, rfl, q⟩
def sp_heat_of (K : Frag) : Sp := fun vs H Q _ => ∃ (a : Addr) (t : List Nat), vs = [.ref a] ∧ SqL K H a (vl t) ∧ Q (.int (Wl.heatI t)) H
theorem ok_heat_of (T : Txt K mg) (D_digit_of : DefOk P w K mg base CX0 1 "digit_of" P_digit_of (sp_digit_of K)) : DefOk P w K mg base CX0 2 "heat_of" P_heat_of (sp_heat_of K) := by
  refine dok0 T (T.fd 8 (d := d_heat_of) (st := s_heat_of) (kp := T.keep "heat_of")) (T.glo "heat_of") sc_heat_of (fun _ _ _ _ _ _ us hl => match us, hl with | [_], _ => rfl) ?len (fun cdv A outer s H vs Q E hr h => ⟨_, (pss_cons (ps_if (PW.pt (pw_or (pt_cmpR op_lt (pe_callB call_len_seq (by rfl) (T.free "len") PySem.boot_len (pa_cons (pv 0) pa_nil)) pe_int (nomark _)) (pw_or (pt_cmpR op_ne (pe_ix ix_list (pv 0) pe_int (fun _ _ => rfl)) pe_int (nomark _)) (pw_or (pt_cmpR op_lt (pe_d D_digit_of (hr.mono (by decide)) (by rfl) (pa_cons (pe_ix ix_list (pv 0) pe_int (fun _ _ => rfl)) pa_nil)) pe_int (nomark _)) (pw_or1 (pt_cmpR op_lt (pe_d D_digit_of (hr.mono (by decide)) (by rfl) (pa_cons (pe_ix ix_list (pv 0) pe_int (fun _ _ => rfl)) pa_nil)) pe_int (nomark _)))))))
        (pss_one (ps_ret (pe_un un_neg pe_int)))
        pss_nil)
      (pss_cons (ps_set (i := 1) sc_heat_of.nd rfl (Or.inl rfl) (pe_op op_add (pe_op op_mul pe_int (pe_d D_digit_of (hr.mono (by decide)) (by rfl) (pa_cons (pe_ix ix_list (pv 0) pe_int (fun _ _ => rfl)) pa_nil))) (pe_d D_digit_of (hr.mono (by decide)) (by rfl) (pa_cons (pe_ix ix_list (pv 0) pe_int (fun _ _ => rfl)) pa_nil))))
      (pss_cons (ps_if (pt_cmpR op_notIn_seq (pv 1) (pe_glob (v := .ref (He.ga K "NEEDS")) (by rfl) (T.glo "NEEDS") rfl) (by rfl))
        (pss_one (ps_ret (pe_un un_neg pe_int)))
        pss_nil)
      (pss_one (ps_ret (pv 1)))))), ?body⟩)
  case len => intro vs H Q E h; obtain ⟨a, t, rfl, h, q⟩ := h; rfl
  case body =>
    obtain ⟨a, t, rfl, h, q⟩ := h
    refine ⟨_, rfl, a, _, rfl, .inl h, _, _, rfl, rfl, _, rfl, ite_dec (fun c1 => ?_) (fun c1 => ?_)⟩
    · have e : Wl.heatI t = -1 := by
        rw [vl_len] at c1
        unfold Wl.heatI
        split
        · rename_i x y z l
          simp at c1
          omega
        · rfl
      rw [e] at q
      exact if_t rfl ⟨_, rfl, q⟩
    · rw [vl_len] at c1
      obtain ⟨x, y, z, l, rfl⟩ : ∃ x y z l, t = x :: y :: z :: l := by
        rcases t with _ | ⟨x, _ | ⟨y, _ | ⟨z, l⟩⟩⟩
        · simp at c1
        · simp at c1
        · simp at c1
        · exact ⟨x, y, z, l, rfl⟩
      have i0 : atI (vl (x :: y :: z :: l)) (0 : Int) = some (vn x) := ix_vn (i := 0) rfl
      have i1 : atI (vl (x :: y :: z :: l)) (1 : Int) = some (vn y) := ix_vn (i := 1) rfl
      have i2 : atI (vl (x :: y :: z :: l)) (2 : Int) = some (vn z) := ix_vn (i := 2) rfl
      have bad : (x ≠ 87 ∨ Wl.digI y < 0 ∨ Wl.digI z < 0) → Q (.int (-1)) H := fun b => by rw [Wl.heatI_bad b] at q; exact q
      refine ⟨_, rfl, a, _, _, _, rfl, rfl, h, i0, rfl, _, rfl, ite_neI (fun c2 => if_t rfl ⟨_, rfl, bad (.inl (by omega))⟩) (fun c2 => ?_)⟩
      refine ⟨_, rfl, a, _, _, _, rfl, rfl, h, i1, y, rfl, _, _, rfl, rfl, _, rfl, ite_dec (fun c3 => if_t rfl ⟨_, rfl, bad (.inr (.inl c3))⟩) (fun c3 => ?_)⟩
      refine ⟨_, rfl, a, _, _, _, rfl, rfl, h, i2, z, rfl, _, _, rfl, rfl, _, rfl, ite_dec (fun c4 => ⟨_, rfl, bad (.inr (.inr c4))⟩) (fun c4 => ?_)⟩
      obtain rfl : x = 87 := by omega
      rw [Wl.heatI_ok c3 c4] at q
      have b1 := Wl.digI_le y
      have b2 := Wl.digI_le z
      refine ⟨_, rfl, a, _, _, _, rfl, rfl, h, i1, y, rfl, _, _, rfl, rfl, .inl ⟨by decide, by decide⟩, _, rfl, a, _, _, _, rfl, rfl, h, i2, z, rfl, _, _, rfl, rfl, ?_⟩
      refine ⟨_, rfl, _, _, rfl, .inr (T.needs H), rfl, flat_ints [0, 30, 40, 60, 95], _, rfl, ?_⟩
      rw [inV_int]
      refine ite_nb (fun c5 => ?_) (fun c5 => ?_)
      · rw [if_neg (by simpa using c5)] at q
        exact ⟨_, rfl, q⟩
      · rw [if_pos (by simpa using c5)] at q
        exact ⟨_, rfl, q⟩
/-! ### ends_of -/
def Ltr : Nat → Int
  | 0 => 66
  | 1 => 68
  | _ => 73
def Mst : Nat → Int
  | 2 => 3
  | _ => 2
def dg (t : List Nat) (j : Nat) : Int := Wl.digI (t.getD (2 * j + 1) 0)
def fine (t : List Nat) (j : Nat) : Prop := ((t.getD (2 * j) 0 : Nat) : Int) = Ltr j ∧ 0 ≤ dg t j ∧ dg t j ≤ Mst j
theorem six {t : List Nat} (h : t.length = 6) : ∃ a x b y c z, t = [a, x, b, y, c, z] := by
  match t, h with
  | [a, x, b, y, c, z], _ => exact ⟨a, x, b, y, c, z, rfl⟩
theorem ends_len {t : List Nat} (h : t.length ≠ 6) : Wl.endsI t = [] := by
  unfold Wl.endsI
  split
  · simp at h
  · rfl
theorem ends_bad {t : List Nat} {j : Nat} (h : t.length = 6) (hj : j < 3) (n : ¬ fine t j) : Wl.endsI t = [] := by
  obtain ⟨a, x, b, y, c, z, rfl⟩ := six h
  refine if_neg fun q => n ?_
  obtain ⟨q1, q2, q3, q4, q5, q6, q7, q8, q9⟩ := q
  rcases (show j = 0 ∨ j = 1 ∨ j = 2 by omega) with rfl | rfl | rfl
  · exact ⟨by show (a : Int) = 66; omega, q2, q3⟩
  · exact ⟨by show (b : Int) = 68; omega, q5, q6⟩
  · exact ⟨by show (c : Int) = 73; omega, q8, q9⟩
theorem ends_good {t : List Nat} (h : t.length = 6) (n : ∀ j, j < 3 → fine t j) : Wl.endsI t = (List.range 3).map (dg t) := by
  obtain ⟨a, x, b, y, c, z, rfl⟩ := six h
  obtain ⟨a1, a2, a3⟩ := n 0 (by omega)
  obtain ⟨b1, b2, b3⟩ := n 1 (by omega)
  obtain ⟨c1, c2, c3⟩ := n 2 (by omega)
  have a1' : (a : Int) = 66 := a1
  have b1' : (b : Int) = 68 := b1
  have c1' : (c : Int) = 73 := c1
  exact if_pos ⟨by omega, a2, a3, by omega, b2, b3, by omega, c2, c3⟩
theorem Txt.ends (T : Txt K mg) : (∀ H, SqT K H (He.ga K "ENDS") ((List.range 3).map fun j => V.ref (endA K j))) ∧ ∀ j, j < 3 → ∀ H, SqT K H (endA K j) [.int (Ltr j), .int (Mst j)] := by
  obtain ⟨_, _, _, _, _, h1, h2, h3, h4, h5⟩ := T.tabs
  refine ⟨fun H => ?_, fun j hj H => ?_⟩
  · obtain ⟨u, v, w, e⟩ : ∃ u v w, tupAt K (He.ga K "ENDS") = [u, v, w] := by
      match tupAt K (He.ga K "ENDS"), h2 with
      | [u, v, w], _ => exact ⟨u, v, w, rfl⟩
    have hr : ∀ i u, (tupAt K (He.ga K "ENDS"))[i]? = some u → u = Value.ref (endA K i) := fun i (u : Value) hu => by
      have := List.all_eq_true.mp h1 u (List.mem_of_getElem? hu)
      unfold endA nthRef
      rw [hu]
      cases u <;> first | rfl | cases this
    have e0 := hr 0 u (by rw [e]; rfl)
    have e1 := hr 1 v (by rw [e]; rfl)
    have e2 := hr 2 w (by rw [e]; rfl)
    refine tupAt_ok (xs := [.ref (endA K 0), .ref (endA K 1), .ref (endA K 2)]) ?_ (by simp) H
    rw [e]
    subst e0 e1 e2
    exact .cons rfl (.cons rfl (.cons rfl .nil))
  · rcases (show j = 0 ∨ j = 1 ∨ j = 2 by omega) with rfl | rfl | rfl
    · exact intsB_nil h3 (by decide) H
    · exact intsB_nil h4 (by decide) H
    · exact intsB_nil h5 (by decide) H
theorem getD_some {l : List Nat} {i : Nat} (h : i < l.length) : l[i]? = some (l.getD i 0) := by
  rw [List.getD_eq_getElem?_getD, List.getElem?_eq_getElem h]; rfl
def sp_ends_of (K : Frag) : Sp := fun vs H Q _ => ∃ (a : Addr) (t : List Nat), vs = [.ref a] ∧ SqL K H a (vl t) ∧ ∀ H' p, Same H H' → H p = none → H' p = some (.lst ((Wl.endsI t).map V.int)) → Q (.ref p) H'
theorem ok_ends_of (T : Txt K mg) (D_digit_of : DefOk P w K mg base CX0 1 "digit_of" P_digit_of (sp_digit_of K)) : DefOk P w K mg base CX0 2 "ends_of" P_ends_of (sp_ends_of K) := by
  refine dok0 T (T.fd 9 (d := d_ends_of) (st := s_ends_of) (kp := T.keep "ends_of")) (T.glo "ends_of") sc_ends_of (fun _ _ _ _ _ _ us hl => match us, hl with | [_], _ => rfl) ?len (fun cdv A outer s H vs Q E hr h => ⟨_, (pss_cons (ps_if (pt_cmpR op_ne (pe_callB call_len_seq (by rfl) (T.free "len") PySem.boot_len (pa_cons (pv 0) pa_nil)) (pe_op op_mul pe_int (pe_callB call_len_seq (by rfl) (T.free "len") PySem.boot_len (pa_cons (pe_glob (v := .ref (He.ga K "ENDS")) (by rfl) (T.glo "ENDS") rfl) pa_nil))) (nomark _))
        (pss_one (ps_ret (pe_lst pa_nil)))
        pss_nil)
      (pss_cons (ps_set (i := 1) sc_ends_of.nd rfl (Or.inl rfl) (pe_lst pa_nil))
      (pss_cons (ps_for PassesOwn.never rfl (pi_enumT (by rfl) (T.free "enumerate") (pa_cons (pe_glob (v := .ref (He.ga K "ENDS")) (by rfl) (T.glo "ENDS") rfl) pa_nil)) (pg_tup rfl (pgs_cons (pg_name (i := 2) sc_ends_of.nd rfl (Or.inl rfl)) (pgs_cons (pg_tup rfl (pgs_cons (pg_name (i := 3) sc_ends_of.nd rfl (Or.inl rfl)) (pgs_cons (pg_name (i := 4) sc_ends_of.nd rfl (Or.inl rfl)) pgs_nil))) pgs_nil)))
        (pss_cons (ps_set (i := 5) sc_ends_of.nd rfl (Or.inl rfl) (pe_d D_digit_of (hr.mono (by decide)) (by rfl) (pa_cons (pe_ix ix_list (pv 0) (pe_op op_add (pe_op op_mul pe_int (pv 2)) pe_int) (fun _ _ => rfl)) pa_nil)))
        (pss_cons (ps_if (PW.pt (pw_or (pt_cmpR op_ne (pe_ix ix_list (pv 0) (pe_op op_mul pe_int (pv 2)) (fun _ _ => rfl)) (pv 3) (nomark _)) (pw_or (pt_cmpR op_lt (pv 5) pe_int (nomark _)) (pw_or1 (pt_cmpR op_gt (pv 5) (pv 4) (nomark _))))))
          (pss_one (ps_ret (pe_lst pa_nil)))
          pss_nil)
        (pss_one (ps_expr (pe_bm PySem.F.plainAttrs_list PySem.F.slot_list_append PySem.F.type_list_append mt_append (pv 1) (pa_cons (pv 5) pa_nil)))))))
      (pss_one (ps_ret (pv 1)))))), ?body⟩)
  case len => intro vs H Q E h; obtain ⟨a, t, rfl, h, q⟩ := h; rfl
  case body =>
    obtain ⟨a, t, rfl, h, q⟩ := h
    obtain ⟨E1, E2⟩ := T.ends
    refine ⟨_, rfl, a, _, rfl, .inl h, He.ga K "ENDS", _, rfl, .inr (E1 H), _, _, rfl, rfl, .inl ⟨by decide, by decide⟩, rfl, _, rfl, ite_neI (fun c1 => ?_) (fun c1 => ?_)⟩
    · have e : Wl.endsI t = [] := ends_len (by rw [vl_len] at c1; simp at c1; omega)
      rw [e] at q
      exact ⟨Nat.zero_le _, fun p hp => q _ _ (same_new hp) hp upd_same⟩
    · have h6 : t.length = 6 := by rw [vl_len] at c1; simp at c1; omega
      refine ⟨Nat.zero_le _, fun fl hfl => ?_⟩
      refine ⟨He.ga K "ENDS", _, rfl, E1 _, for_enumT (fun i σ H' => (∃ u v w x, σ = [some (.ref a), some (.ref fl), u, v, w, x]) ∧ Same H H' ∧ H' fl = some (.lst (((List.range i).map (dg t)).map V.int)) ∧ ∀ j, j < i → fine t j) ?_ (fun i σ H' _ _ => E1 H') ?_ ?_⟩
      · exact ⟨⟨_, _, _, _, rfl⟩, same_new hfl, upd_same, fun j hj => absurd hj (Nat.not_lt_zero _)⟩
      · rintro i x U σ H' hx ⟨⟨u, v, w, y, rfl⟩, sm, hf, fi⟩ hU
        have hi : i < 3 := by have := (List.getElem?_eq_some_iff.mp hx).1; simpa using this
        rw [List.getElem?_map, List.getElem?_range hi] at hx
        cases hx
        have h2 : Same H (upd H' U (.tup [.int (i : Nat), .ref (endA K i)])) := sm.trans (same_new hU)
        have hf2 : (upd H' U (.tup [.int (i : Nat), .ref (endA K i)])) fl = some (.lst (((List.range i).map (dg t)).map V.int)) := same_new hU _ _ hf
        have i1 : atI (vl t) (2 * (i : Int) + 1) = some (vn (t.getD (2 * i + 1) 0)) := by
          have := ix_vn (getD_some (l := t) (i := 2 * i + 1) (by omega))
          rw [← this]; congr 1
        have i0 : atI (vl t) (2 * (i : Int)) = some (vn (t.getD (2 * i) 0)) := by
          have := ix_vn (getD_some (l := t) (i := 2 * i) (by omega))
          rw [← this]; congr 1
        have bad : ¬ fine t i → ([] : List V).length ≤ sizeLine ∧ ∀ p, upd H' U (.tup [.int (i : Nat), .ref (endA K i)]) p = none → Q (.ref p) (upd (upd H' U (.tup [.int (i : Nat), .ref (endA K i)])) p (.lst [])) := fun n => by
          have e : Wl.endsI t = [] := ends_bad h6 hi n
          rw [e] at q
          exact ⟨Nat.zero_le _, fun p hp => q _ _ (h2.trans (same_new hp)) (Same.none_of h2 hp) upd_same⟩
        refine ⟨U, _, rfl, SqT.of upd_same, rfl, _, _, rfl, _, _, rfl, endA K i, _, rfl, E2 i hi _, rfl, _, _, rfl, _, _, rfl, rfl, rfl, ?_⟩
        refine ⟨_, rfl, _, rfl, _, _, rfl, rfl, .inl ⟨by decide, by decide⟩, _, _, rfl, rfl, a, _, _, _, rfl, rfl, h2.seq h, i1, _, rfl, ?_⟩
        refine ⟨_, rfl, _, rfl, _, _, rfl, rfl, .inl ⟨by decide, by decide⟩, a, _, _, _, rfl, rfl, h2.seq h, i0, _, rfl, rfl, _, rfl, ite_neI (fun c2 => if_t rfl (bad fun f => c2 f.1)) (fun c2 => ?_)⟩
        refine ⟨_, rfl, _, _, rfl, rfl, _, rfl, ite_dec (fun c3 => if_t rfl (bad fun f => absurd f.2.1 (by unfold dg; omega))) (fun c3 => ?_)⟩
        refine ⟨_, rfl, _, rfl, _, _, rfl, rfl, _, rfl, ite_dec (fun c4 => (bad fun f => absurd f.2.2 (by unfold dg; omega))) (fun c4 => ?_)⟩
        refine ⟨_, rfl, .inl ⟨rfl, _, SqL.of hf2⟩, _, rfl, fl, _, _, rfl, rfl, hf2, ?_, ⟨_, _, _, _, rfl⟩, ?_, ?_, ?_⟩
        · rw [List.length_map, List.length_map, List.length_range]; exact line_lt (by omega)
        · exact Same.grow h2 hfl
        · rw [upd_same, List.range_succ, List.map_append, List.map_append]; rfl
        · intro j hj
          rcases Nat.lt_or_eq_of_le (Nat.le_of_lt_succ hj) with z | rfl
          · exact fi j z
          · exact ⟨c2, by unfold dg; omega, by unfold dg; omega⟩
      · rintro σ H' ⟨⟨u, v, w, y, rfl⟩, sm, hf, fi⟩
        refine ⟨_, rfl, q _ _ sm hfl ?_⟩
        rw [hf, ends_good h6 fi]
        rfl
/-! ### read_label -/
theorem cut_from {xs : List V} {i : Nat} : cutV xs (some (i : Int)) none = xs.drop i := by
  unfold cutV
  rw [HT.sIx_nat, HT.sIx_none]
  rcases Nat.le_total i xs.length with h | h
  · rw [Nat.min_eq_left h]
    exact List.take_of_length_le (by rw [List.length_drop]; exact Nat.le_refl _)
  · rw [Nat.min_eq_right h, List.drop_of_length_le (Nat.le_refl _), List.drop_of_length_le h]; simp
theorem cut_to {xs : List V} {i : Nat} : cutV xs none (some (i : Int)) = xs.take i := by
  unfold cutV
  rw [HT.sIx_nat]
  show (xs.drop 0).take _ = _
  rw [List.drop_zero]
  show xs.take (min i xs.length - 0) = _
  rw [Nat.sub_zero]
  rcases Nat.le_total i xs.length with h | h
  · rw [Nat.min_eq_left h]
  · rw [Nat.min_eq_right h, List.take_of_length_le h, List.take_of_length_le (Nat.le_refl _)]
theorem cut_mid {xs : List V} {i j : Nat} (h : j ≤ xs.length) : cutV xs (some (i : Int)) (some (j : Int)) = (xs.drop i).take (j - i) := by
  unfold cutV
  rw [HT.sIx_nat, HT.sIx_nat, Nat.min_eq_left h]
  rcases Nat.le_total i xs.length with h2 | h2
  · rw [Nat.min_eq_left h2]
  · rw [Nat.min_eq_right h2, List.drop_of_length_le (Nat.le_refl _), List.drop_of_length_le h2]; simp
theorem under_lt : ∀ (l : List Nat) (j : Nat), j < Wl.under l → l[j]? = some 95
  | [], j, h => absurd h (Nat.not_lt_zero _)
  | a :: l, j, h => by
    unfold Wl.under at h
    by_cases c : a = 95
    · subst c
      rw [if_pos rfl] at h
      cases j with
      | zero => rfl
      | succ j => exact under_lt l j (by omega)
    · rw [if_neg c] at h; exact absurd h (Nat.not_lt_zero _)
theorem under_at : ∀ (l : List Nat) (n : Nat), l[Wl.under l]? = some n → n ≠ 95
  | [], n, h => by cases h
  | a :: l, n, h => by
    unfold Wl.under at h
    by_cases c : a = 95
    · rw [if_pos c] at h
      exact under_at l n h
    · rw [if_neg c] at h
      cases h
      exact c
theorem under_le : ∀ (l : List Nat), Wl.under l ≤ l.length
  | [] => Nat.le_refl _
  | a :: l => by
    unfold Wl.under
    have := under_le l
    split <;> simp <;> omega
def sp_read_label (K : Frag) : Sp := fun vs H Q _ => ∃ (a : Addr) (t : List Nat), vs = [.ref a] ∧ H a = some (.lst (vl t)) ∧ (Wl.readI t = none → ∀ H', Same H H' → Q .non H') ∧ ∀ x, Wl.readI t = some x → ∀ H' p, Same H H' → H p = none → LbAt K H' p a x → Q (.ref p) H'
theorem ok_read_label (T : Txt K mg) (D_heat_of : DefOk P w K mg base CX0 2 "heat_of" P_heat_of (sp_heat_of K)) (D_ends_of : DefOk P w K mg base CX0 2 "ends_of" P_ends_of (sp_ends_of K)) (MLabel : MkOk P w K mg base 1 "Label" P_LabelI (sp_Label K)) : DefOk P w K mg base CX0 3 "read_label" P_read_label (sp_read_label K) := by
  refine dok0 T (T.fd 10 (d := d_read_label) (st := s_read_label) (kp := T.keep "read_label")) (T.glo "read_label") sc_read_label (fun _ _ _ _ _ _ us hl => match us, hl with | [_], _ => rfl) ?len (fun cdv A outer s H vs Q E hr h => ⟨_, (pss_cons (ps_set (i := 1) sc_read_label.nd rfl (Or.inl rfl) (pe_d D_heat_of (hr.mono (by decide)) (by rfl) (pa_cons (pv 0) pa_nil)))
      (pss_cons (ps_if (pt_cmpR op_lt (pv 1) pe_int (nomark _))
        (pss_one (ps_ret pe_non))
        pss_nil)
      (pss_cons (ps_set (i := 2) sc_read_label.nd rfl (Or.inl rfl) pe_int)
      (pss_cons (ps_while PassesOwn.never (PW.pt (pw_and (pt_cmpR op_lt (pv 2) (pe_callB call_len_seq (by rfl) (T.free "len") PySem.boot_len (pa_cons (pv 0) pa_nil)) (nomark _)) (pw_and1 (pt_cmpR op_eq (pe_ix ix_list (pv 0) (pv 2) (fun _ _ => rfl)) pe_int (nomark _)))))
        (pss_one (ps_aug (i := 2) sc_read_label.nd rfl (Or.inl rfl) pe_int ip_add)))
      (pss_cons (ps_set (i := 3) sc_read_label.nd rfl (Or.inl rfl) (pe_op op_sub (pv 2) pe_int))
      (pss_cons (ps_set (i := 4) sc_read_label.nd rfl (Or.inl rfl) (pe_d D_ends_of (hr.mono (by decide)) (by rfl) (pa_cons (pe_slice sl_list (pv 0) (po_some (pv 2)) po_none) pa_nil)))
      (pss_cons (ps_if (PW.pt (pw_or (pt_cmpR (op_eqNil (un_of hr)) (pv 4) (pe_lst pa_nil) (nomark _)) (pw_or (pt_cmpR op_gt (pv 3) (pe_i (i := 2) T (by rfl)) (nomark _)) (pw_or1 (PW.pt (pw_and (pt_cmpR op_eq (pv 1) pe_int (nomark _)) (pw_and1 (pt_cmpR op_gt (pv 3) pe_int (nomark _)))))))))
        (pss_one (ps_ret pe_non))
        pss_nil)
      (pss_one (ps_ret (pe_n MLabel (hr.mono (by decide)) (by rfl) (pa_cons (pv 0) (pa_cons (pv 1) (pa_cons (pv 3) (pa_cons (pe_ix ix_list (pv 4) pe_int (fun _ _ => rfl)) (pa_cons (pe_ix ix_list (pv 4) pe_int (fun _ _ => rfl)) (pa_cons (pe_ix ix_list (pv 4) pe_int (fun _ _ => rfl)) pa_nil)))))))))))))))), ?body⟩)
  case len => intro vs H Q E h; obtain ⟨a, t, rfl, h, qn, qs⟩ := h; rfl
  case body =>
    obtain ⟨a, t, rfl, h, qn, qs⟩ := h
    have hs : SqL K H a (vl t) := SqL.of h
    refine ⟨_, rfl, a, t, rfl, hs, ?_⟩
    refine ⟨_, rfl, _, _, rfl, rfl, _, rfl, ite_dec (fun c1 => qn (Wl.readI_neg c1) _ (Same.refl _)) (fun c1 => ?_)⟩
    obtain ⟨x, y, z, l, rfl⟩ : ∃ x y z l, t = x :: y :: z :: l := by
      rcases t with _ | ⟨x, _ | ⟨y, _ | ⟨z, l⟩⟩⟩
      · exact absurd (by decide) c1
      · exact absurd (show Wl.heatI [x] < 0 by show (-1 : Int) < 0; decide) c1
      · exact absurd (show Wl.heatI [x, y] < 0 by show (-1 : Int) < 0; decide) c1
      · exact ⟨x, y, z, l, rfl⟩
    have er := Wl.readI_cons x y z l
    rw [if_neg c1] at er
    generalize hh : Wl.heatI (x :: y :: z :: l) = ht at *
    refine ⟨fun m σ H' => ∃ j u v, m = Wl.under l - j ∧ j ≤ Wl.under l ∧ σ = [some (.ref a), some (.int ht), some (.int (3 + j : Nat)), u, v] ∧ H' = H, ⟨_, 0, _, _, rfl, Nat.zero_le _, rfl, rfl⟩, ?_⟩
    rintro m σ H' ⟨j, u, v, rfl, hj, rfl, rfl⟩
    have hl := under_le l
    have drj : (x :: y :: z :: l).drop (3 + j) = l.drop j := by rw [← List.drop_drop]; rfl
    have at_ : ∀ n, l[j]? = some n → atI (vl (x :: y :: z :: l)) ((3 + j : Nat) : Int) = some (vn n) := fun n hn => ix_vn (i := 3 + j) (by rw [Nat.add_comm]; exact hn)
    rcases Nat.lt_or_eq_of_le hj with hlt | rfl
    · refine ⟨_, rfl, _, rfl, a, _, rfl, .inl hs, _, _, rfl, rfl, _, rfl, ite_dec (fun c => ?_) (fun c => absurd (show ((3 + j : Nat) : Int) < _ by rw [vl_len]; simp; omega) c)⟩
      have e95 := under_lt l j hlt
      refine ⟨_, rfl, _, rfl, a, _, _, _, rfl, rfl, hs, at_ _ e95, rfl, _, rfl, ite_eqI (fun e => ?_) (fun e => absurd rfl e)⟩
      refine ⟨fun σ H3 => ∃ u v, σ = [some (.ref a), some (.int ht), some (.int (3 + (j + 1) : Nat)), u, v] ∧ H3 = H', fun σ H3 q => ?_, ?_⟩
      · obtain ⟨u, v, e1, e2⟩ := q
        exact ⟨Wl.under l - (j + 1), by omega, j + 1, u, v, rfl, hlt, e1, e2⟩
      · exact ⟨_, rfl, _, _, rfl, rfl, _, _, rfl, rfl⟩
    · by_cases c : l.length ≤ Wl.under l
      refine ⟨_, rfl, _, rfl, a, _, rfl, .inl hs, _, _, rfl, rfl, _, rfl, ite_dec (fun c2 => absurd c2 (by rw [vl_len]; simp; omega)) (fun c2 => if_f rfl ?_)⟩
      rotate_left
      have hu : l[Wl.under l]? = some (l.getD (Wl.under l) 0) := getD_some (by omega)
      refine ⟨_, rfl, _, rfl, a, _, rfl, .inl hs, _, _, rfl, rfl, _, rfl, ite_dec (fun c2 => ⟨_, rfl, _, rfl, a, _, _, _, rfl, rfl, hs, at_ _ hu, rfl, _, rfl, ite_eqI (fun e => absurd (by omega) (under_at l _ hu)) (fun e => ?_)⟩) (fun c2 => absurd (show ((3 + Wl.under l : Nat) : Int) < _ by rw [vl_len]; simp; omega) c2)⟩
      all_goals
        refine ⟨_, rfl, _, _, rfl, rfl, ?_⟩
        refine ⟨_, rfl, _, rfl, _, rfl, a, _, rfl, hs, fun p hp => ⟨p, l.drop (Wl.under l), rfl, SqL.of (by rw [upd_same, cut_from, vl_drop, drj]), fun H2 e sm hnew e2 => ?_⟩⟩
        have sm2 : Same H' H2 := (same_new hp).trans sm
        refine ⟨_, rfl, Nat.zero_le _, fun p3 hp3 => ⟨e, p3, _, rfl, rfl, SqL.of (same_new hp3 _ _ e2), SqL.of upd_same, _, rfl, ite_b (fun b => if_t rfl ?_) (fun b => ?_)⟩⟩
        · have e0 : Wl.endsI (l.drop (Wl.under l)) = [] := by simpa using b
          rw [e0] at er
          exact qn er _ (sm2.trans (same_new hp3))
        · rcases Wl.endsI_shape (l.drop (Wl.under l)) with e0 | ⟨x1, x2, x3, e0, a1, a2, b1, b2, c1, c2, _⟩
          · rw [e0] at b; cases b
          · rw [e0] at er e2
            have er : Wl.readI (x :: y :: z :: l) = if 2 < Wl.under l ∨ (ht = 0 ∧ 0 < Wl.under l) then none else some ⟨x :: y :: z :: l, ht.toNat, Wl.under l, x1.toNat, x2.toNat, x3.toNat⟩ := er
            have sm3 : Same H' (upd H2 p3 (.lst [])) := sm2.trans (same_new hp3)
            refine ⟨_, rfl, _, _, rfl, rfl, _, rfl, ite_dec (fun d => if_t rfl ?_) (fun d => ?_)⟩
            · rw [if_pos (.inl (by omega))] at er
              exact qn er _ sm3
            · refine ⟨_, rfl, rfl, _, rfl, ite_eqI (fun d2 => ⟨_, rfl, _, _, rfl, rfl, _, rfl, ite_dec (fun d3 => ?_) (fun d3 => ?_)⟩) (fun d2 => if_f rfl ?_)⟩
              · rw [if_pos (.inr ⟨d2, by omega⟩)] at er
                exact qn er _ sm3
              all_goals
                rw [if_neg (by omega)] at er
                have e3 : (upd H2 p3 (.lst [])) e = some (.lst [.int x1, .int x2, .int x3]) := same_new hp3 _ _ e2
                refine ⟨_, rfl, _, rfl, _, rfl, _, rfl, e, _, _, _, rfl, rfl, SqL.of e3, rfl, _, rfl, e, _, _, _, rfl, rfl, SqL.of e3, rfl, _, rfl, e, _, _, _, rfl, rfl, SqL.of e3, rfl, fun w dw hw hdw hne => ?_⟩
                have eq1 : ∀ i : Int, 0 ≤ i → V.int i = vn i.toNat := fun i hi => by rw [vn]; congr 1; omega
                refine ⟨w, dw, a, _, ?_, upd_same, rfl, qs _ er _ w (fun b o eb => ?_) (Same.none_of sm3 hw) ⟨⟨dw, upd_same⟩, ?_⟩⟩
                · rw [eq1 x1 a1, eq1 x2 b1, eq1 x3 c1, eq1 ht (by omega)]
                  have e5 : V.int (((3 + Wl.under l : Nat) : Int) - 3) = vn (Wl.under l) := by rw [vn]; congr 1; omega
                  show [V.ref w, V.ref a, vn ht.toNat, V.int (((3 + Wl.under l : Nat) : Int) - 3), vn x1.toNat, vn x2.toNat, vn x3.toNat] = _
                  rw [e5]
                · have n1 := ne_of_none (sm3 _ _ eb) hw
                  have n2 := ne_of_none (sm3 _ _ eb) hdw
                  rw [upd_ne n1, upd_ne n1, upd_ne n2]
                  exact sm3 _ _ eb
                · have e6 := sm3 _ _ h
                  have n1 := ne_of_none e6 hw
                  have n2 := ne_of_none e6 hdw
                  rw [upd_ne n1, upd_ne n1, upd_ne n2]
                  exact e6
end
end Wt
end
section
set_option Elab.async false
set_option linter.all false
set_option maxRecDepth 100000
set_option maxHeartbeats 2000000
/-! # Things, programs -/
namespace Wt
open PySem PySem.Spec PyProof.Rows L2 Wr
open PySem.W (Frag)
open Wl (Lb Th Od Mc La Cl)
theorem vl_map (l : List Nat) : l.map vn = vl l := by rw [vl, Wl.inz, List.map_map]; rfl
theorem max_uniq {l : List Nat} {M : Nat} (h : Wl.IsMax l M) {m : Int} (h1 : m ∈ Wl.inz l) (h2 : ∀ y ∈ Wl.inz l, y ≤ m) : m = (M : Int) := by
  obtain ⟨n, hn, rfl⟩ := List.mem_map.mp h1
  have a := h.2 n hn
  have b := h2 (M : Int) (List.mem_map_of_mem (f := fun x : Nat => (x : Int)) h.1)
  omega
theorem min_uniq {l : List Nat} {M : Nat} (h : Wl.IsMin l M) {m : Int} (h1 : m ∈ Wl.inz l) (h2 : ∀ y ∈ Wl.inz l, m ≤ y) : m = (M : Int) := by
  obtain ⟨n, hn, rfl⟩ := List.mem_map.mp h1
  have a := h.2 n hn
  have b := h2 (M : Int) (List.mem_map_of_mem (f := fun x : Nat => (x : Int)) h.1)
  omega
theorem max_ex : ∀ (l : List Nat), l ≠ [] → ∃ M, Wl.IsMax l M
  | [], h => absurd rfl h
  | [a], _ => ⟨a, by simp, by simp⟩
  | a :: b :: l, _ => by
    obtain ⟨M, h1, h2⟩ := max_ex (b :: l) (by simp)
    rcases Nat.le_total a M with c | c
    · exact ⟨M, List.mem_cons_of_mem _ h1, fun x hx => by rcases List.mem_cons.mp hx with rfl | hx; exact c; exact h2 x hx⟩
    · exact ⟨a, by simp, fun x hx => by rcases List.mem_cons.mp hx with rfl | hx; exact Nat.le_refl _; exact Nat.le_trans (h2 x hx) c⟩
theorem min_ex : ∀ (l : List Nat), l ≠ [] → ∃ M, Wl.IsMin l M
  | [], h => absurd rfl h
  | [a], _ => ⟨a, by simp, by simp⟩
  | a :: b :: l, _ => by
    obtain ⟨M, h1, h2⟩ := min_ex (b :: l) (by simp)
    rcases Nat.le_total a M with c | c
    · exact ⟨a, by simp, fun x hx => by rcases List.mem_cons.mp hx with rfl | hx; exact Nat.le_refl _; exact Nat.le_trans c (h2 x hx)⟩
    · exact ⟨M, List.mem_cons_of_mem _ h1, fun x hx => by rcases List.mem_cons.mp hx with rfl | hx; exact c; exact h2 x hx⟩
section
variable {P : Program} {w : World} {K : Frag} {mg : Str → Option Value} {base : Heap}
/-- [thing.f for thing in things] -/
theorem lcFld {a : Addr} {xs : List Addr} {ts : List Th} {te : TE} {j : Nat} {σ : L2.St} {H0 : Hp} {D : Addr} {Qd : Hp → Prop} (hD : H0 D = none) (f : Th → Nat) (ha : SqL K H0 a (xs.map V.ref)) (ht : Ths K H0 xs ts) (hn : xs.length ≤ 200)
    (hs : ∀ (t : Th) (p : Addr) H (R : VK), ThAt K H p t → R (vn (f t)) H → te ((wipe σ [j]).set j (some (.ref p))) H R)
    (hq : ∀ H', Same H0 H' → H' D = some (.lst (vl (ts.map f))) → Qd H') :
    ∃ W : Nat → Nat → Hp → Prop, (∃ m, W 0 m (upd H0 D (.lst []))) ∧ ∀ i m H, W i m H →
  ((Itl K a).stop i H ∧ Qd H) ∨ ((Itl K a).go i H ∧ ∃ Nx : Hp → Prop, (∀ H', Nx H' → ∃ m', m' < m ∧ W (i + 1) m' H') ∧ ∀ x H', (Itl K a).yld i H x H' → gName j x (wipe σ [j]) H' fun σ2 H2 => wipe σ2 [j] = wipe σ [j] ∧ tYes σ2 H2 fun b H3 =>
    if b = true then te σ2 H3 fun y H4 => ∃ acc, H4 D = some (.lst acc) ∧ acc.length < sizeLine ∧ Nx (upd H4 D (.lst (acc ++ [y]))) else Nx H3) := by
  refine lcL hD (fun _ => true) (fun i => vn (f (ts.getD i Wl.noTh))) ha (by rw [List.length_map]; exact line_le (by omega)) (fun i x H Rt Rf hx sm h1 h2 => ?_) (fun H' sm e => hq H' sm ?_)
  · obtain ⟨p, hp, rfl⟩ := ref_get hx
    obtain ⟨t, e1, e2⟩ := ht.at hp
    refine ⟨?_, ?_⟩
    · show (((σ.set j none).set j _).set j none) = σ.set j none
      rw [List.set_set, List.set_set]
    · refine hs t p H Rt (e2.same sm) ?_
      have := h1 H (Same.refl _) rfl
      rwa [getD_of e1] at this
  · rw [e, rng_m ts Wl.noTh (fun t => vn (f t)) (by rw [List.length_map]; exact ht.1), ← vl_map, List.map_map]; rfl
def sp_Thing (K : Frag) : Sp := fun vs H Q _ => ∃ (p dx lb : Addr) (t : Th), vs = [.ref p, vn t.order, .ref lb, vn t.need, vn t.colour, vn t.runs, vn t.weight] ∧ t.washed = false ∧ t.mach = -1 ∧ H p = some (.ins (He.ga K "Thing") dx []) ∧ ∀ H', (∀ z o, H z = some o → z ≠ p → H' z = some o) → H' p = some (.ins (He.ga K "Thing") dx (thF lb t)) → Q .non H'
theorem ok_Thing (T : Txt K mg)  : MkOk P w K mg base 1 "Thing" P_ThingI (sp_Thing K) := by
  refine mok (T.fd 1 (d := d_ThingI) (st := sThingI) (kp := (T.meth "Thing").kp)) (T.glo "Thing") (T.mkr "Thing") sc_ThingI (fun _ _ _ _ _ _ us hl => match us, hl with | [_, _, _, _, _, _, _], _ => rfl) ?len (fun cdv A outer s H vs Q E hr h => ⟨_, (pss_cons (ps_fld (pv 0) (pv 1) rfl)
      (pss_cons (ps_fld (pv 0) (pv 2) rfl)
      (pss_cons (ps_fld (pv 0) (pv 3) rfl)
      (pss_cons (ps_fld (pv 0) (pv 4) rfl)
      (pss_cons (ps_fld (pv 0) (pv 5) rfl)
      (pss_cons (ps_fld (pv 0) (pv 6) rfl)
      (pss_cons (ps_fld (pv 0) pe_bl rfl)
      (pss_one (ps_fld (pv 0) (pe_un un_neg pe_int) rfl))))))))), ?body⟩)
  case len => intro vs H Q E h; obtain ⟨p, dx, lb, t, rfl, w1, w2, h1, q⟩ := h; rfl
  case body =>
    obtain ⟨p, dx, lb, t, rfl, w1, w2, h1, q⟩ := h
    refine ⟨_, rfl, _, rfl, p, _, dx, _, rfl, h1, cThing T, nThing_order T, (by show 0 < 1000; decide), ?_⟩
    refine ⟨_, rfl, _, rfl, p, _, dx, _, rfl, upd_same, cThing T, nThing_label T, (by show 1 < 1000; decide), ?_⟩
    rw [upd_upd]
    refine ⟨_, rfl, _, rfl, p, _, dx, _, rfl, upd_same, cThing T, nThing_need T, (by show 2 < 1000; decide), ?_⟩
    rw [upd_upd]
    refine ⟨_, rfl, _, rfl, p, _, dx, _, rfl, upd_same, cThing T, nThing_colour T, (by show 3 < 1000; decide), ?_⟩
    rw [upd_upd]
    refine ⟨_, rfl, _, rfl, p, _, dx, _, rfl, upd_same, cThing T, nThing_runs T, (by show 4 < 1000; decide), ?_⟩
    rw [upd_upd]
    refine ⟨_, rfl, _, rfl, p, _, dx, _, rfl, upd_same, cThing T, nThing_weight T, (by show 5 < 1000; decide), ?_⟩
    rw [upd_upd]
    refine ⟨_, rfl, p, _, dx, _, rfl, upd_same, cThing T, nThing_is_washed T, (by show 6 < 1000; decide), ?_⟩
    rw [upd_upd]
    refine ⟨_, rfl, _, rfl, p, _, dx, _, rfl, upd_same, cThing T, nThing_machine T, (by show 7 < 1000; decide), ?_⟩
    rw [upd_upd]
    unfold thF at q
    rw [w1, w2] at q
    exact q _ (fun z o e ne => by rw [upd_ne ne]; exact e) upd_same
def sp_are_colours_right (K : Frag) : Sp := fun vs H Q _ => ∃ (p1 p2 : Addr) (x y : Th), vs = [.ref p1, .ref p2] ∧ ThAt K H p1 x ∧ ThAt K H p2 y ∧ Q (.bl (Wl.crB x y)) H
theorem ok_are_colours_right (T : Txt K mg)  : DefOk P w K mg base CX0 1 "are_colours_right" P_are_colours_right (sp_are_colours_right K) := by
  refine dok0 T (T.fd 12 (d := d_are_colours_right) (st := s_are_colours_right) (kp := T.keep "are_colours_right")) (T.glo "are_colours_right") sc_are_colours_right (fun _ _ _ _ _ _ us hl => match us, hl with | [_, _], _ => rfl) ?len (fun cdv A outer s H vs Q E hr h => ⟨_, (pss_one (ps_ret (pe_or (pe_cmpR op_eq (pe_fld (pv 0) rfl) (pe_fld (pv 1) rfl) (nomark _)) (pe_one (pe_and (pe_cmpR op_eq (pe_fld (pv 0) rfl) pe_int (nomark _)) (pe_one (pe_cmpR op_eq (pe_fld (pv 1) rfl) pe_int (nomark _)))))))), ?body⟩)
  case len => intro vs H Q E h; obtain ⟨p1, p2, x, y, rfl, ⟨dx, lb, sg, h1, _⟩, ⟨dx2, lb2, sg2, h2, _⟩, q⟩ := h; rfl
  case body =>
    obtain ⟨p1, p2, x, y, rfl, ⟨dx, lb, sg, h1, _⟩, ⟨dx2, lb2, sg2, h2, _⟩, q⟩ := h
    refine ⟨_, rfl, p1, _, dx, _, _, rfl, h1, cThing T, nThing_colour T, rfl, _, rfl, p2, _, dx2, _, _, rfl, h2, cThing T, nThing_colour T, rfl, rfl, _, rfl, ite_eqI (fun c1 => ?_) (fun c1 => ?_)⟩
    · have e : Wl.crB x y = true := by unfold Wl.crB; rw [show x.colour = y.colour by omega]; simp
      rw [e] at q; exact q
    · refine ⟨_, rfl, p1, _, dx, _, _, rfl, h1, cThing T, nThing_runs T, rfl, rfl, _, rfl, ite_eqI (fun c2 => ?_) (fun c2 => ?_)⟩
      · refine ⟨_, rfl, p2, _, dx2, _, _, rfl, h2, cThing T, nThing_runs T, rfl, rfl, ?_⟩
        have e : Wl.crB x y = decide (vn y.runs = V.int 0) := by
          unfold Wl.crB
          rw [beq_false_of_ne (show x.colour ≠ y.colour by omega), show x.runs = 0 by omega, Bool.false_or, beq_self_eq_true, Bool.true_and]
          by_cases c3 : y.runs = 0
          · rw [c3]; rfl
          · rw [beq_false_of_ne c3]
            exact (decide_eq_false fun z => c3 (by have := V.int.inj z; omega)).symm
        rw [e] at q
        exact q
      · have e : Wl.crB x y = false := by
          unfold Wl.crB
          rw [beq_false_of_ne (show x.colour ≠ y.colour by omega), beq_false_of_ne (show x.runs ≠ 0 by omega)]; rfl
        rw [e] at q; exact q
def sp_minutes_of (K : Frag) : Sp := fun vs H Q _ => ∃ (p : Addr) (h g b d : Nat), vs = [.ref p] ∧ H p = some (.tup (vl [h, g, b, d])) ∧ (h = 30 ∨ h = 40 ∨ h = 60 ∨ h = 95) ∧ Q (vn (Wl.minP [h, g, b, d])) H
theorem ok_minutes_of (T : Txt K mg)  : DefOk P w K mg base CX0 1 "minutes_of" P_minutes_of (sp_minutes_of K) := by
  refine dok0 T (T.fd 14 (d := d_minutes_of) (st := s_minutes_of) (kp := T.keep "minutes_of")) (T.glo "minutes_of") sc_minutes_of (fun _ _ _ _ _ _ us hl => match us, hl with | [_], _ => rfl) ?len (fun cdv A outer s H vs Q E hr h => ⟨_, (pss_one (ps_ret (pe_op op_add (pe_ix (ix_min T) (pe_glob (v := .ref (He.ga K "MINUTES")) (by rfl) (T.glo "MINUTES") rfl) (pe_ix ix_tup (pv 0) pe_int (fun _ _ => rfl)) (fun _ _ => rfl)) (pe_op op_mul pe_int (pe_ix ix_tup (pv 0) pe_int (fun _ _ => rfl)))))), ?body⟩)
  case len => intro vs H Q E h; obtain ⟨p, h, g, b, d, rfl, h1, hh, q⟩ := h; rfl
  case body =>
    obtain ⟨p, h, g, b, d, rfl, h1, hh, q⟩ := h
    refine ⟨_, rfl, p, _, _, _, rfl, rfl, SqT.of h1, ix_vn (i := 0) rfl, (h : Int), (Wl.minP [h, 0, 0, 0] : Nat), rfl, rfl, ?_, ?_⟩
    · rcases hh with rfl | rfl | rfl | rfl <;> rfl
    · refine ⟨_, rfl, p, _, _, _, rfl, rfl, SqT.of h1, ix_vn (i := 3) rfl, _, _, rfl, rfl, .inl ⟨by decide, by decide⟩, _, _, rfl, rfl, ?_⟩
      have e : ((Wl.minP [h, 0, 0, 0] : Nat) : Int) + 10 * (d : Int) = ((Wl.minP [h, g, b, d] : Nat) : Int) := by
        rcases hh with rfl | rfl | rfl | rfl <;> simp [Wl.minP]
      show Q (V.int (((Wl.minP [h, 0, 0, 0] : Nat) : Int) + 10 * (d : Int))) _
      rw [e]
      exact q
theorem getD_mem {l : List Nat} {i : Nat} {x : Nat} (h : l[i]? = some x) : x ∈ l := List.mem_of_getElem? h
abbrev scM (x : Str) : Scope := { kind := .function, names := [(".0", .local), ("heat", .local), (x, .globalImplicit), ("things", .free)], isGenerator := false, isCoroutine := false }
def sp_mildest (K : Frag) : Sp := fun vs H Q _ => ∃ (a : Addr) (xs : List Addr) (ts : List Th), vs = [.ref a] ∧ SqL K H a (xs.map V.ref) ∧ Ths K H xs ts ∧ xs.length ≤ 200 ∧ ts ≠ [] ∧ (∀ t ∈ ts, Wl.LbOk t.lb) ∧ ∀ H' p, Same H H' → H p = none → H' p = some (.tup (vl (Wl.mildP ts))) → Q (.ref p) H'
theorem ok_mildest (T : Txt K mg)  : DefOk P w K mg base CX0 1 "mildest" P_mildest (sp_mildest K) := by
  refine dok0 T (T.fd 11 (d := d_mildest) (st := s_mildest) (kp := T.keep "mildest")) (T.glo "mildest") sc_mildest (fun _ _ _ _ _ _ us hl => match us, hl with | [_], _ => rfl) ?len (fun cdv A outer s H vs Q E hr h => ⟨_, (pss_cons (ps_setLc (i := 1) (own := [("heat", 4)]) (g := (gName 4)) rfl sc_mildest.nd rfl rfl (sw_true rfl rfl rfl (by decide +kernel)) (pi_tup (pe_glob (v := .ref (He.ga K "HEATS")) (by rfl) (T.glo "HEATS") rfl)) (blkOk_by (N := N_mildest) (sc := defScope s_mildest) (by decide +kernel)) (fun _ _ _ _ _ => (pg_name (i := 4) sc_mildest.nd rfl (Or.inl rfl))) (fun _ _ _ _ _ => (pts_one (pt_cmpR op_ge (pv 4) (pe_callB (cr_maxK K) (by rfl) (T.free "max") (by decide +kernel) (pa_cons (pe_lc (own := [("thing", 5)]) (g := (gName 5)) rfl sc_mildest.nd (pi_listK K (pv 0)) (blkOk_by (N := N_mildest) (sc := relS (scM "max") (defScope s_mildest)) (by decide +kernel)) (fun _ _ _ _ _ => (pg_name (i := 5) sc_mildest.nd rfl (Or.inl rfl))) (fun _ _ _ _ _ => pts_nil) (fun _ _ _ _ _ => (pe_fldK K (pv 5)))) pa_nil)) (nomark _)))) (fun _ _ _ _ _ => (pv 4)))
      (pss_cons (ps_setLc (i := 1) (own := [("heat", 4)]) (g := (gName 4)) rfl sc_mildest.nd rfl rfl (sw_true rfl rfl rfl (by decide +kernel)) (pi_list (pv 1)) (blkOk_by (N := N_mildest) (sc := defScope s_mildest) (by decide +kernel)) (fun _ _ _ _ _ => (pg_name (i := 4) sc_mildest.nd rfl (Or.inl rfl))) (fun _ _ _ _ _ => (pts_one (pt_cmpR op_le (pv 4) (pe_callB (cr_minK K) (by rfl) (T.free "min") (by decide +kernel) (pa_cons (pe_lc (own := [("thing", 5)]) (g := (gName 5)) rfl sc_mildest.nd (pi_listK K (pv 0)) (blkOk_by (N := N_mildest) (sc := relS (scM "min") (defScope s_mildest)) (by decide +kernel)) (fun _ _ _ _ _ => (pg_name (i := 5) sc_mildest.nd rfl (Or.inl rfl))) (fun _ _ _ _ _ => pts_nil) (fun _ _ _ _ _ => (pe_fldK K (pe_fldK K (pv 5))))) pa_nil)) (nomark _)))) (fun _ _ _ _ _ => (pv 4)))
      (pss_cons (ps_if (pt_cmpR (op_eqNil (un_of hr)) (pv 1) (pe_lst pa_nil) (nomark _))
        (pss_one (ps_ret (pe_tup pa_nil)))
        pss_nil)
      (pss_cons (ps_set (i := 2) sc_mildest.nd rfl (Or.inl rfl) (pe_callB (cr_max rfl) (by rfl) (T.free "max") (by decide +kernel) (pa_cons (pe_lc (own := [("thing", 5)]) (g := (gName 5)) rfl sc_mildest.nd (pi_list (pv 0)) (blkOk_by (N := N_mildest) (sc := defScope s_mildest) (by decide +kernel)) (fun _ _ _ _ _ => (pg_name (i := 5) sc_mildest.nd rfl (Or.inl rfl))) (fun _ _ _ _ _ => pts_nil) (fun _ _ _ _ _ => (pe_fldK K (pe_fldK K (pv 5))))) pa_nil)))
      (pss_cons (ps_set (i := 3) sc_mildest.nd rfl (Or.inl rfl) (pe_callB (cr_min rfl) (by rfl) (T.free "min") (by decide +kernel) (pa_cons (pe_lc (own := [("thing", 5)]) (g := (gName 5)) rfl sc_mildest.nd (pi_list (pv 0)) (blkOk_by (N := N_mildest) (sc := defScope s_mildest) (by decide +kernel)) (fun _ _ _ _ _ => (pg_name (i := 5) sc_mildest.nd rfl (Or.inl rfl))) (fun _ _ _ _ _ => pts_nil) (fun _ _ _ _ _ => (pe_fldK K (pe_fldK K (pv 5))))) pa_nil)))
      (pss_one (ps_ret (pe_tup (pa_cons (pe_ix ix_list (pv 1) pe_int (fun _ _ => rfl)) (pa_cons (pv 2) (pa_cons (pv 3) (pa_cons (pe_callB (cr_min rfl) (by rfl) (T.free "min") (by decide +kernel) (pa_cons (pe_lc (own := [("thing", 5)]) (g := (gName 5)) rfl sc_mildest.nd (pi_list (pv 0)) (blkOk_by (N := N_mildest) (sc := defScope s_mildest) (by decide +kernel)) (fun _ _ _ _ _ => (pg_name (i := 5) sc_mildest.nd rfl (Or.inl rfl))) (fun _ _ _ _ _ => pts_nil) (fun _ _ _ _ _ => (pe_fldK K (pe_fldK K (pv 5))))) pa_nil)) pa_nil)))))))))))), ?body⟩)
  case len => intro vs H Q E h; obtain ⟨a, xs, ts, rfl, ha, ht, hn, ne, ok, q⟩ := h; rfl
  case body =>
    obtain ⟨a, xs, ts, rfl, ha, ht, hn, ne, ok, q⟩ := h
    obtain ⟨M, hM⟩ := max_ex (ts.map Th.need) (by simpa using ne)
    obtain ⟨W, hW⟩ := min_ex (ts.map fun t => t.lb.heat) (by simpa using ne)
    obtain ⟨G, hG⟩ := max_ex (ts.map fun t => t.lb.gentle) (by simpa using ne)
    obtain ⟨B, hB⟩ := min_ex (ts.map fun t => t.lb.bleach) (by simpa using ne)
    obtain ⟨D, hD⟩ := min_ex (ts.map fun t => t.lb.dry) (by simpa using ne)
    have pos : ∀ f : Th → Nat, 0 < (Wl.inz (ts.map f)).length := fun f => by rw [List.length_map, List.length_map]; exact List.length_pos_iff.mpr ne
    have heat : ∀ (t : Th) (p : Addr) H (σ : L2.St) (R : VK), ThAt K H p t → R (vn t.lb.heat) H → tFld K (tFld K (fun σ H Q => Q (.ref p) H) "label") "heat" σ H R := fun t p H σ R ⟨dx, lb, sg, h1, ⟨dx2, h2⟩, _⟩ r => ⟨p, _, dx, _, _, rfl, h1, cThing T, nThing_label T, rfl, lb, _, dx2, _, _, rfl, h2, cLabel T, nLabel_heat T, rfl, r⟩
    refine ⟨He.ga K "HEATS", rfl, ⟨_, T.heats H⟩, fun D1 hD1 => lcT hD1 (fun i => decide (M ≤ Kyk1.heats.getD i 0)) (fun i => vn (Kyk1.heats.getD i 0)) (T.heats H) (by decide +kernel) (fun i x H1 Rt Rf hx sm r1 r2 => ?_) (fun H1 sm1 e1 => ?_)⟩
    · obtain ⟨h, hh, rfl⟩ := vl_get (l := Kyk1.heats) hx
      rw [getD_of hh] at r1 r2
      refine ⟨rfl, _, rfl, _, rfl, a, rfl, ⟨_, sm.seq ha⟩, fun D hD => lcFld hD Th.need (sm.seq ha) (ht.same sm) hn (fun t p H R ⟨dx, lb, sg, h1, h2⟩ r => ⟨_, rfl, p, _, dx, _, _, rfl, h1, cThing T, nThing_need T, rfl, r⟩) fun H2 sm2 e2 => ⟨D, _, rfl, SqL.of e2, pos _, fun m m1 m2 => ⟨_, _, rfl, rfl, _, rfl, ?_⟩⟩⟩
      rw [max_uniq hM m1 m2]
      refine ite_dec (fun c => ⟨_, rfl, r1 _ sm2 (decide_eq_true (by omega))⟩) (fun c => r2 _ sm2 (decide_eq_false (by omega)))
    · rw [rng_fm Kyk1.heats 0 (fun h => decide (M ≤ h)) vn (by rfl), vl_map] at e1
      generalize hl1 : Kyk1.heats.filter (fun h => decide (M ≤ h)) = l1 at e1
      have n1 : l1.length ≤ 4 := by rw [← hl1]; exact List.length_filter_le _ _
      refine ⟨_, rfl, D1, rfl, ⟨_, SqL.of e1⟩, fun D2 hD2 => lcL hD2 (fun i => decide (l1.getD i 0 ≤ W)) (fun i => vn (l1.getD i 0)) (SqL.of e1) (vl_small n1 (by decide)) (fun i x H2 Rt Rf hx sm r1 r2 => ?_) (fun H2 sm2 e2 => ?_)⟩
      · obtain ⟨h, hh, rfl⟩ := vl_get hx
        rw [getD_of hh] at r1 r2
        have s3 := sm1.trans sm
        refine ⟨rfl, _, rfl, _, rfl, a, rfl, ⟨_, s3.seq ha⟩, fun D hD => lcFld hD (fun t => t.lb.heat) (s3.seq ha) (ht.same s3) hn (fun t p H R ⟨dx, lb, sg, h1, ⟨dx2, h2⟩, _⟩ r => ⟨_, rfl, p, _, dx, _, _, rfl, h1, cThing T, nThing_label T, rfl, lb, _, dx2, _, _, rfl, h2, cLabel T, nLabel_heat T, rfl, r⟩) fun H3 sm3 e3 => ⟨D, _, rfl, SqL.of e3, pos _, fun m m1 m2 => ⟨_, _, rfl, rfl, _, rfl, ?_⟩⟩⟩
        rw [min_uniq hW m1 m2]
        refine ite_dec (fun c => ⟨_, rfl, r1 _ sm3 (decide_eq_true (by omega))⟩) (fun c => r2 _ sm3 (decide_eq_false (by omega)))
      · rw [rng_fm l1 0 (fun h => decide (h ≤ W)) vn (vl_len l1), vl_map] at e2
        generalize hl2 : l1.filter (fun h => decide (h ≤ W)) = l2 at e2
        rw [← hl1] at hl2
        have s2 := sm1.trans sm2
        refine ⟨_, rfl, Nat.zero_le _, fun p3 hp3 => ⟨D2, p3, _, rfl, rfl, SqL.of (same_new hp3 _ _ e2), SqL.of upd_same, _, rfl, ite_b (fun b => ?_) (fun b => ?_)⟩⟩
        · have e0 : l2 = [] := by simpa using b
          rw [e0] at hl2
          rw [Wl.mild_none hM hW hl2] at q
          have s3 := s2.trans (same_new (o := .lst []) hp3)
          exact ⟨Nat.zero_le _, fun p hp => q _ p (s3.trans (same_new hp)) (Same.none_of s3 hp) upd_same⟩
        · cases l2 with
          | nil => cases b
          | cons h r =>
            rw [Wl.mild_some ok hM hW hG hB hD hl2] at q
            have s3 := s2.trans (same_new (o := .lst []) hp3)
            have e3 : (upd H2 p3 (.lst [])) D2 = some (.lst (vl (h :: r))) := same_new hp3 _ _ e2
            refine ⟨_, rfl, a, rfl, ⟨_, s3.seq ha⟩, fun D4 hD4 => lcFld hD4 (fun t => t.lb.gentle) (s3.seq ha) (ht.same s3) hn (fun t p H R ⟨dx, lb, sg, h1, ⟨dx2, h2⟩, _⟩ r => ⟨_, rfl, p, _, dx, _, _, rfl, h1, cThing T, nThing_label T, rfl, lb, _, dx2, _, _, rfl, h2, cLabel T, nLabel_gentle T, rfl, r⟩) fun H4 sm4 e4 => ⟨D4, _, rfl, SqL.of e4, pos _, fun m m1 m2 => ?_⟩⟩
            rw [max_uniq hG m1 m2]
            have s4 := s3.trans sm4
            refine ⟨_, rfl, a, rfl, ⟨_, s4.seq ha⟩, fun D5 hD5 => lcFld hD5 (fun t => t.lb.bleach) (s4.seq ha) (ht.same s4) hn (fun t p H R ⟨dx, lb, sg, h1, ⟨dx2, h2⟩, _⟩ r => ⟨_, rfl, p, _, dx, _, _, rfl, h1, cThing T, nThing_label T, rfl, lb, _, dx2, _, _, rfl, h2, cLabel T, nLabel_bleach T, rfl, r⟩) fun H5 sm5 e5 => ⟨D5, _, rfl, SqL.of e5, pos _, fun m m1 m2 => ?_⟩⟩
            rw [min_uniq hB m1 m2]
            have s5 := s4.trans sm5
            refine ⟨_, rfl, D2, _, _, _, rfl, rfl, SqL.of (sm5 _ _ (sm4 _ _ e3)), ix_vn (i := 0) rfl, _, rfl, _, rfl, _, rfl, a, rfl, ⟨_, s5.seq ha⟩, fun D6 hD6 => lcFld hD6 (fun t => t.lb.dry) (s5.seq ha) (ht.same s5) hn (fun t p H R ⟨dx, lb, sg, h1, ⟨dx2, h2⟩, _⟩ r => ⟨_, rfl, p, _, dx, _, _, rfl, h1, cThing T, nThing_label T, rfl, lb, _, dx2, _, _, rfl, h2, cLabel T, nLabel_dry T, rfl, r⟩) fun H6 sm6 e6 => ⟨D6, _, rfl, SqL.of e6, pos _, fun m m1 m2 => ?_⟩⟩
            rw [min_uniq hD m1 m2]
            have s6 := s5.trans sm6
            exact ⟨(by show 4 ≤ sizeLine; decide +kernel), fun p hp => q _ p (s6.trans (same_new hp)) (Same.none_of s6 hp) upd_same⟩
def sp_go_together (K : Frag) : Sp := fun vs H Q _ => ∃ (a : Addr) (xs : List Addr) (ts : List Th), vs = [.ref a] ∧ SqL K H a (xs.map V.ref) ∧ Ths K H xs ts ∧ xs.length ≤ 200 ∧ ts ≠ [] ∧ (∀ t ∈ ts, Wl.LbOk t.lb ∧ t.runs ≤ 1) ∧ ∀ H', Same H H' → Q (.bl (Wl.togetherB ts)) H'
theorem ok_go_together (T : Txt K mg) (D_mildest : DefOk P w K mg base CX0 1 "mildest" P_mildest (sp_mildest K)) (D_are_colours_right : DefOk P w K mg base CX0 1 "are_colours_right" P_are_colours_right (sp_are_colours_right K)) : DefOk P w K mg base CX0 2 "go_together" P_go_together (sp_go_together K) := by
  refine dok0 T (T.fd 13 (d := d_go_together) (st := s_go_together) (kp := T.keep "go_together")) (T.glo "go_together") sc_go_together (fun _ _ _ _ _ _ us hl => match us, hl with | [_], _ => rfl) ?len (fun cdv A outer s H vs Q E hr h => ⟨_, (pss_cons (ps_for PassesOwn.never rfl (pi_enum (by rfl) (T.free "enumerate") (pa_cons (pv 0) pa_nil)) (pg_tup rfl (pgs_cons (pg_name (i := 1) sc_go_together.nd rfl (Or.inl rfl)) (pgs_cons (pg_name (i := 2) sc_go_together.nd rfl (Or.inl rfl)) pgs_nil)))
        (pss_one (ps_for PassesOwn.never rfl (pi_list (pe_slice sl_list (pv 0) po_none (po_some (pv 1)))) (pg_name (i := 3) sc_go_together.nd rfl (Or.inl rfl))
          (pss_one (ps_if (pt_not (pt_val (pe_d D_are_colours_right (hr.mono (by decide)) (by rfl) (pa_cons (pv 2) (pa_cons (pv 3) pa_nil)))))
            (pss_one (ps_ret pe_bl))
            pss_nil)))))
      (pss_one (ps_ret (pe_cmpR (op_neNilT (un_of hr)) (pe_d D_mildest (hr.mono (by decide)) (by rfl) (pa_cons (pv 0) pa_nil)) (pe_tup pa_nil) (nomark _))))), ?body⟩)
  case len => intro vs H Q E h; obtain ⟨a, xs, ts, rfl, ha, ht, hn, ne, ok, q⟩ := h; rfl
  case body =>
    obtain ⟨a, xs, ts, rfl, ha, ht, hn, ne, ok, q⟩ := h
    have rn : ∀ t ∈ ts, t.runs ≤ 1 := fun t h => (ok t h).2
    refine ⟨_, rfl, a, _, rfl, ha, for_enumL (fun i σ H' => (∃ u v w, σ = [some (.ref a), u, v, w]) ∧ Same H H' ∧ ∀ k j x y, j < k → k < i → ts[k]? = some x → ts[j]? = some y → Wl.crB x y = true) ⟨⟨_, _, _, rfl⟩, Same.refl _, fun k j x y _ h => absurd h (Nat.not_lt_zero _)⟩ (fun i σ H' _ h => h.2.1.seq ha) ?_ ?_⟩
    · rintro i x U σ H' hx ⟨⟨u, v, w, rfl⟩, sm, cs⟩ hU
      obtain ⟨px, hpx, rfl⟩ := ref_get hx
      obtain ⟨tx, etx, atx⟩ := ht.at hpx
      have s2 : Same H (upd H' U (.tup [.int (i : Nat), .ref px])) := sm.trans (same_new hU)
      refine ⟨U, _, rfl, SqT.of upd_same, rfl, _, _, rfl, _, _, rfl, rfl, ?_⟩
      refine ⟨_, rfl, _, rfl, _, rfl, a, _, rfl, s2.seq ha, fun D hD => ⟨D, rfl, ⟨_, SqL.of upd_same⟩, for_list (xs := (xs.take i).map V.ref) (fun j σ H'' => (∃ w, σ = [some (.ref a), some (.int (i : Nat)), some (.ref px), w]) ∧ Same H H'' ∧ H'' D = some (.lst ((xs.take i).map V.ref)) ∧ ∀ j' y, j' < j → ts[j']? = some y → Wl.crB tx y = true) ?_ (fun j σ H'' _ h => SqL.of h.2.2.1) ?_ ?_⟩⟩
      · refine ⟨⟨_, rfl⟩, s2.trans (same_new hD), ?_, fun j' y h => absurd h (Nat.not_lt_zero _)⟩
        rw [upd_same, cut_to, ← List.map_take]
      · rintro j y σ H'' hy ⟨⟨w, rfl⟩, s3, e3, cs2⟩
        obtain ⟨py, hpy, rfl⟩ := ref_get hy
        have hj : j < i := by
          have := (List.getElem?_eq_some_iff.mp hpy).1
          rw [List.length_take] at this; omega
        rw [List.getElem?_take_of_lt hj] at hpy
        obtain ⟨ty, ety, aty⟩ := ht.at hpy
        refine ⟨_, rfl, _, rfl, px, py, tx, ty, rfl, atx.same s3, aty.same s3, _, rfl, ite_nb (fun c => ?_) (fun c => ⟨⟨_, rfl⟩, s3, e3, fun j' y' hj' hy' => ?_⟩)⟩
        · have := q _ s3
          rw [Wl.together_no rn hj etx ety c] at this
          exact this
        · rcases Nat.lt_or_eq_of_le (Nat.le_of_lt_succ hj') with z | rfl
          · exact cs2 j' y' z hy'
          · rw [ety] at hy'; cases hy'; exact c
      · rintro σ H'' ⟨⟨w, rfl⟩, s3, e3, cs2⟩
        refine ⟨⟨_, _, _, rfl⟩, s3, fun k j x y hj hk hkx hy => ?_⟩
        rcases Nat.lt_or_eq_of_le (Nat.le_of_lt_succ hk) with z | rfl
        · exact cs k j x y hj z hkx hy
        · rw [etx] at hkx; cases hkx
          refine cs2 j y ?_ hy
          have := (List.getElem?_eq_some_iff.mp hpx).1
          rw [List.length_map, List.length_take]; omega
    · rintro σ H' ⟨⟨u, v, w, rfl⟩, sm, cs⟩
      refine ⟨_, rfl, a, xs, ts, rfl, sm.seq ha, ht.same sm, hn, ne, fun t h => (ok t h).1, fun H2 p s2 hp e2 => ⟨Nat.zero_le _, fun p3 hp3 => ⟨p, p3, _, rfl, rfl, SqT.of (same_new hp3 _ _ e2), SqT.of upd_same, ?_⟩⟩⟩
      have := q _ ((sm.trans s2).trans (same_new (o := .tup []) hp3))
      rw [Wl.together_yes rn (fun k j x y hj hk hy => cs k j x y hj (by rw [List.length_map, ht.1]; exact (List.getElem?_eq_some_iff.mp hk).1) hk hy)] at this
      have e : (if true = true then !(vl (Wl.mildP ts)).isEmpty else (vl (Wl.mildP ts)).isEmpty) = decide (Wl.mildP ts ≠ []) := by
        cases Wl.mildP ts <;> simp
      rw [e]
      exact this
end
end Wt
end
section
set_option Elab.async false
set_option linter.all false
set_option maxRecDepth 100000
set_option maxHeartbeats 2000000
/-! # Ways to share out -/
namespace Wt
open PySem PySem.Spec PyProof.Rows L2 Wr
open PySem.W (Frag)
open Wl (Lb Th Od Mc La Cl)
/-! ### plain: ways by place -/
theorem zip_rng {α : Type} (d : α) : ∀ (xs : List α) (a : List Nat), a.length ≤ xs.length → xs.zip a = (List.range a.length).map fun k => (xs.getD k d, a.getD k 0) := by
  intro xs a h
  apply List.ext_getElem?
  intro i
  rw [List.getElem?_map]
  by_cases c : i < a.length
  · have e1 : (xs.zip a)[i]? = some (xs.getD i d, a.getD i 0) := List.getElem?_zip_eq_some.mpr ⟨by simp [show i < xs.length by omega], by simp [c]⟩
    rw [List.getElem?_range c, e1]; rfl
  · rw [List.getElem?_eq_none (by simp; omega), List.getElem?_eq_none (by simp; omega)]; rfl
def idxs (a : List Nat) (i : Nat) : List Nat := (List.range a.length).filter fun k => a.getD k 0 == i
theorem pick_idx (ts : List Th) (a : List Nat) (i : Nat) (h : a.length ≤ ts.length) : Wl.pickT ts a i = (idxs a i).map fun k => ts.getD k Wl.noTh := by
  unfold Wl.pickT idxs
  rw [zip_rng Wl.noTh ts a h, List.filter_map, List.map_map]; rfl
theorem rev_rng (N : Nat) : (List.range N).reverse = (List.range N).map fun j => N - 1 - j := by
  apply List.ext_getElem?
  intro i
  rw [List.getElem?_map]
  by_cases c : i < N
  · rw [List.getElem?_range c, List.getElem?_reverse (by simpa using c), List.length_range, List.getElem?_range (by omega)]; rfl
  · rw [List.getElem?_eq_none (by simpa using c), List.getElem?_eq_none (by simpa using c)]; rfl
/-- the longer ways that the first i turns find -/
def accW (bears m : Nat) (ts : List Th) (way : List Nat) (N i : Nat) : List (List Nat) := ((List.range i).filter fun j => Wl.loadB bears (Wl.pickT ts (way ++ [N - 1 - j]) (N - 1 - j))).map fun j => way ++ [N - 1 - j]
theorem accW_all (bears m : Nat) (ts : List Th) (way : List Nat) : accW bears m ts way (min m (Wl.nl way + 1)) (min m (Wl.nl way + 1)) = (Wl.grow bears m (ts.map Wl.pieceT) way).reverse := by
  unfold accW Wl.grow Wl.next
  generalize min m (Wl.nl way + 1) = N
  rw [← List.map_reverse, ← List.filter_reverse, rev_rng, List.filter_map, List.map_map]
  congr 1
  congr 1
  funext j
  show Wl.loadB bears _ = Kyk2.load bears _
  rw [Wl.inLoad_pick]; rfl
theorem accW_succ (bears m : Nat) (ts : List Th) (way : List Nat) (N i : Nat) : accW bears m ts way N (i + 1) = accW bears m ts way N i ++ (if Wl.loadB bears (Wl.pickT ts (way ++ [N - 1 - i]) (N - 1 - i)) = true then [way ++ [N - 1 - i]] else []) :=
  rng_snoc (fun j => Wl.loadB bears (Wl.pickT ts (way ++ [N - 1 - j]) (N - 1 - j))) (fun j => way ++ [N - 1 - j]) i
theorem accW_len (bears m : Nat) (ts : List Th) (way : List Nat) (N i : Nat) : (accW bears m ts way N i).length ≤ i := by
  unfold accW
  rw [List.length_map]
  have := List.length_filter_le (fun j => Wl.loadB bears (Wl.pickT ts (way ++ [N - 1 - j]) (N - 1 - j))) (List.range i)
  rw [List.length_range] at this
  exact this
section
variable {P : Program} {w : World} {K : Frag} {mg : Str → Option Value} {base : Heap}
theorem Ths.pick {H : Hp} {xs : List Addr} {ts : List Th} (h : Ths K H xs ts) (idx : List Nat) (hi : ∀ k ∈ idx, k < xs.length) : Ths K H (idx.map fun k => xs.getD k 0) (idx.map fun k => ts.getD k Wl.noTh) := by
  refine ⟨by rw [List.length_map, List.length_map], fun i x t hx ht => ?_⟩
  rw [List.getElem?_map] at hx ht
  cases e : idx[i]? with
  | none => rw [e] at hx; cases hx
  | some k =>
    rw [e] at hx ht
    have hk := hi k (List.mem_of_getElem? e)
    refine h.2 k x t ?_ ?_
    · rw [← Option.some.inj hx]; show _ = some (xs.getD k 0); simp [hk]
    · rw [← Option.some.inj ht]; show _ = some (ts.getD k Wl.noTh); simp [show k < ts.length by rw [← h.1]; exact hk]
/-- tuples of numbers at addresses -/
def TupsAt (H : Hp) (ps : List Addr) (ws : List (List Nat)) : Prop := ps.length = ws.length ∧ ∀ (i : Nat) (q : Addr) (u : List Nat), ps[i]? = some q → ws[i]? = some u → H q = some (.tup (vl u))
theorem TupsAt.keep {H H' : Hp} {ps : List Addr} {ws : List (List Nat)} (h : TupsAt H ps ws) (k : ∀ q ∈ ps, ∀ o, H q = some o → H' q = some o) : TupsAt H' ps ws :=
  ⟨h.1, fun i q u a b => k q (List.mem_of_getElem? a) _ (h.2 i q u a b)⟩
theorem TupsAt.snoc {H : Hp} {ps : List Addr} {ws : List (List Nat)} {p : Addr} {u : List Nat} (h : TupsAt H ps ws) (e : H p = some (.tup (vl u))) : TupsAt H (ps ++ [p]) (ws ++ [u]) := by
  refine ⟨by rw [List.length_append, List.length_append, h.1]; rfl, fun i q v a b => ?_⟩
  rcases Nat.lt_trichotomy i ps.length with c | c | c
  · rw [List.getElem?_append_left c] at a
    rw [List.getElem?_append_left (by rw [← h.1]; exact c)] at b
    exact h.2 i q v a b
  · subst c
    rw [List.getElem?_concat_length] at a
    rw [h.1, List.getElem?_concat_length] at b
    cases a; cases b; exact e
  · rw [List.getElem?_eq_none (by rw [List.length_append, List.length_singleton]; omega)] at a; cases a
def ThsOk (ts : List Th) : Prop := ∀ t ∈ ts, Wl.LbOk t.lb ∧ t.runs ≤ 1
def sp_is_load (K : Frag) : Sp := fun vs H Q _ => ∃ (a : Addr) (b : Nat) (xs : List Addr) (ts : List Th), vs = [.ref a, vn b] ∧ SqL K H a (xs.map V.ref) ∧ Ths K H xs ts ∧ xs.length ≤ 200 ∧ ts ≠ [] ∧ ThsOk ts ∧ ∀ H', Same H H' → Q (.bl (Wl.loadB b ts)) H'
theorem ok_is_load (T : Txt K mg) (D_go_together : DefOk P w K mg base CX0 2 "go_together" P_go_together (sp_go_together K)) : DefOk P w K mg base CX0 3 "is_load" P_is_load (sp_is_load K) := by
  refine dok0 T (T.fd 15 (d := d_is_load) (st := s_is_load) (kp := T.keep "is_load")) (T.glo "is_load") sc_is_load (fun _ _ _ _ _ _ us hl => match us, hl with | [_, _], _ => rfl) ?len (fun cdv A outer s H vs Q E hr h => ⟨_, (pss_one (ps_ret (pe_and (pe_d D_go_together (hr.mono (by decide)) (by rfl) (pa_cons (pv 0) pa_nil)) (pe_one (pe_cmpR op_le (pe_callB (cr_sum rfl) (by rfl) (T.free "sum") (by decide +kernel) (pa_cons (pe_lc (own := [("thing", 2)]) (g := (gName 2)) rfl sc_is_load.nd (pi_list (pv 0)) (blkOk_by (N := N_is_load) (sc := defScope s_is_load) (by decide +kernel)) (fun _ _ _ _ _ => (pg_name (i := 2) sc_is_load.nd rfl (Or.inl rfl))) (fun _ _ _ _ _ => pts_nil) (fun _ _ _ _ _ => (pe_fldK K (pv 2)))) pa_nil)) (pv 1) (nomark _)))))), ?body⟩)
  case len => intro vs H Q E h; obtain ⟨a, b, xs, ts, rfl, ha, ht, hn, ne, ok, q⟩ := h; rfl
  case body =>
    obtain ⟨a, b, xs, ts, rfl, ha, ht, hn, ne, ok, q⟩ := h
    rw [Wl.loadB_eq] at q
    refine ⟨_, rfl, a, xs, ts, rfl, ha, ht, hn, ne, ok, fun H1 s1 => ⟨_, rfl, ite_b (fun c => ?_) (fun c => ?_)⟩⟩
    · rw [c, Bool.true_and] at q
      refine ⟨_, rfl, a, rfl, ⟨_, s1.seq ha⟩, fun D hD => lcFld hD Th.weight (s1.seq ha) (ht.same s1) hn (fun t p H R ⟨dx, lb, sg, h1, h2⟩ r => ⟨_, rfl, p, _, dx, _, _, rfl, h1, cThing T, nThing_weight T, rfl, r⟩) fun H2 s2 e2 => ⟨D, _, rfl, SqL.of e2, _, rfl, _, _, rfl, rfl, ?_⟩⟩
      have := q _ (s1.trans s2)
      have e : (Wl.inz (ts.map Th.weight)).sum = (((ts.map Th.weight).sum : Nat) : Int) := by
        generalize ts.map Th.weight = l
        induction l with
        | nil => rfl
        | cons x l ih =>
          show (x : Int) + (Wl.inz l).sum = _
          rw [ih, List.sum_cons]; omega
      rw [e]
      have e2 : decide ((ts.map Th.weight).sum ≤ b) = decide ((((ts.map Th.weight).sum : Nat) : Int) ≤ (b : Int)) := by
        rw [decide_eq_decide]; omega
      rw [e2] at this
      exact this
    · rw [c, Bool.false_and] at q
      exact q _ s1
def sp_longer_ways (K : Frag) : Sp := fun vs H Q _ => ∃ (a p : Addr) (b m : Nat) (xs : List Addr) (ts : List Th) (way : List Nat), vs = [.ref a, vn b, .ref p, vn m] ∧ SqL K H a (xs.map V.ref) ∧ Ths K H xs ts ∧ xs.length ≤ 8 ∧ ThsOk ts ∧ H p = some (.tup (vl way)) ∧ way.length < ts.length ∧ 1 ≤ m ∧ m ≤ 8 ∧
  ∀ H' D ps, Same H H' → H D = none → (∀ q ∈ ps, H q = none ∧ q ≠ D) → H' D = some (.lst (ps.map V.ref)) → TupsAt H' ps (Wl.grow b m (ts.map Wl.pieceT) way).reverse → Q (.ref D) H'
theorem ok_longer_ways (T : Txt K mg) (D_is_load : DefOk P w K mg base CX0 3 "is_load" P_is_load (sp_is_load K)) : DefOk P w K mg base CX0 4 "longer_ways" P_longer_ways (sp_longer_ways K) := by
  refine dok0 T (T.fd 16 (d := d_longer_ways) (st := s_longer_ways) (kp := T.keep "longer_ways")) (T.glo "longer_ways") sc_longer_ways (fun _ _ _ _ _ _ us hl => match us, hl with | [_, _, _, _], _ => rfl) ?len (fun cdv A outer s H vs Q E hr h => ⟨_, (pss_cons (ps_set (i := 4) sc_longer_ways.nd rfl (Or.inl rfl) (pe_lst pa_nil))
      (pss_cons (ps_set (i := 5) sc_longer_ways.nd rfl (Or.inl rfl) (pe_op op_add (pe_callBK (cr_maxDf rfl (hu_of hr)) (by rfl) (T.free "max") (by decide +kernel) (pa_cons (pv 2) pa_nil) (pk_cons (pe_un un_neg pe_int) pk_nil)) pe_int))
      (pss_cons (ps_for PassesOwn.never rfl (pi_range3 (by rfl) (T.free "range") (pa_cons (pe_callB (call_min2 rfl) (by rfl) (T.free "min") (by decide +kernel) (pa_cons (pv 5) (pa_cons (pe_op op_sub (pv 3) pe_int) pa_nil))) (pa_cons (pe_un un_neg pe_int) (pa_cons (pe_un un_neg pe_int) pa_nil)))) (pg_name (i := 6) sc_longer_ways.nd rfl (Or.inr rfl))
        (pss_cons (ps_set (i := 7) sc_longer_ways.nd rfl (Or.inl rfl) (pe_op op_cat (pe_lc (own := [("k", 8), ("own", 9)]) (g := (gTup K 2 (gCons (gName 8) (gCons (gName 9) gNil)))) rfl sc_longer_ways.nd (pi_enumT (by rfl) (T.free "enumerate") (pa_cons (pv 2) pa_nil)) (blkOk_by (N := N_longer_ways) (sc := defScope s_longer_ways) (by decide +kernel)) (fun _ _ _ _ _ => (pg_tup rfl (pgs_cons (pg_name (i := 8) sc_longer_ways.nd rfl (Or.inl rfl)) (pgs_cons (pg_name (i := 9) sc_longer_ways.nd rfl (Or.inl rfl)) pgs_nil)))) (fun _ _ _ _ _ => (pts_one (pt_cmpR op_eq (pv 9) (pv 6) (nomark _)))) (fun _ _ _ _ _ => (pe_ix (ix_listK K) (pv 0) (pv 8) (fun _ _ => rfl)))) (pe_lst (pa_cons (pe_ix ix_list (pv 0) (pe_callB call_len_seq (by rfl) (T.free "len") PySem.boot_len (pa_cons (pv 2) pa_nil)) (fun _ _ => rfl)) pa_nil))))
        (pss_one (ps_if (pt_val (pe_d D_is_load (hr.mono (by decide)) (by rfl) (pa_cons (pv 7) (pa_cons (pv 1) pa_nil))))
          (pss_one (ps_expr (pe_bm PySem.F.plainAttrs_list PySem.F.slot_list_append PySem.F.type_list_append mt_append (pv 4) (pa_cons (pe_op op_catA (pv 2) (pe_tup (pa_cons (pv 6) pa_nil))) pa_nil))))
          pss_nil))))
      (pss_one (ps_ret (pv 4)))))), ?body⟩)
  case len => intro vs H Q E h; obtain ⟨a, p, b, m, xs, ts, way, rfl, ha, ht, hn, ok, hp, hw, m1, m8, q⟩ := h; rfl
  case body =>
    obtain ⟨a, p, b, m, xs, ts, way, rfl, ha, ht, hn, ok, hp, hw, m1, m8, q⟩ := h
    have hxl := ht.1
    refine ⟨Nat.zero_le _, fun D hD => ⟨_, rfl, _, rfl, ?_⟩⟩
    have sD : Same H (upd H D (.lst [])) := same_new hD
    generalize hN : min m (Wl.nl way + 1) = N
    have hN1 : 1 ≤ N := by omega
    have fin : ∀ H' ps, Same H H' → (∀ q ∈ ps, H q = none ∧ q ≠ D) → H' D = some (.lst (ps.map V.ref)) → TupsAt H' ps (accW b m ts way N N) → Q (.ref D) H' := fun H' ps s h1 h2 h3 => by
      rw [← hN, accW_all] at h3
      exact q H' D ps s hD h1 h2 h3
    refine ⟨p, Wl.inz way, _, rfl, rfl, SqT.of (sD _ _ hp), fun e => ⟨_, _, rfl, rfl, ?_⟩, fun mx h1 h2 => ⟨_, _, rfl, rfl, ?_⟩⟩
    have hL : (-1 : Int) + 1 = (Wl.nl way : Int) := by
      have : way = [] := by simpa [Wl.inz] using e
      rw [this]; rfl
    rotate_left
    have hL : mx + 1 = (Wl.nl way : Int) := by
      obtain ⟨M, hM⟩ := max_ex way (by rintro rfl; cases h1)
      rw [max_uniq hM h1 h2, Wl.nl_max hM]; rfl
    all_goals
      dsimp only
      rw [hL]
      have hlo : (if (m : Int) - 1 < (Wl.nl way : Int) then (m : Int) - 1 else (Wl.nl way : Int)) = (N : Int) - 1 := by
        split <;> omega
      refine ⟨_, rfl, _, rfl, _, _, rfl, rfl, _, _, rfl, _, rfl, _, rfl, _, _, _, N, rfl, ?_, ?_⟩
      · rw [hlo]
        have := RgC.neg (i := (N : Int) - 1) (j := -1) (by omega) (by omega) (by decide) (by decide)
        rw [show ((N : Int) - 1 - -1).toNat = N by omega] at this
        exact this
      · rw [hlo]
        refine for_rangeC (fun i σ H' => (∃ u v, σ = [some (.ref a), some (vn b), some (.ref p), some (vn m), some (.ref D), some (.int (Wl.nl way)), u, v, none, none]) ∧ Same H H' ∧ ∃ ps, (∀ q ∈ ps, H q = none ∧ q ≠ D) ∧ H' D = some (.lst (ps.map V.ref)) ∧ TupsAt H' ps (accW b m ts way N i)) ⟨⟨_, _, rfl⟩, sD, [], by simp, upd_same, rfl, fun i q u h => by cases h⟩ ?_ ?_
        · rintro i σ H' hi ⟨⟨u, v, rfl⟩, sm, ps, hps, eD, tps⟩
          have ev : (N : Int) - 1 + (i : Int) * -1 = ((N - 1 - i : Nat) : Int) := by omega
          rw [ev]
          generalize hl : N - 1 - i = ld
          have ew := sm _ _ hp
          refine ⟨_, rfl, p, _, rfl, SqT.of ew, fun D2 hD2 => lcE hD2 (fun k => way.getD k 0 == ld) (fun k => .ref (xs.getD k 0)) (SqT.of ew) (vl_small (n := 8) (by omega) (by decide)) (fun k x U H2 Rt Rf hx s2 hU r1 r2 => ?_) (fun H2 s2 e2 => ?_)⟩
          · obtain ⟨n, hn2, rfl⟩ := vl_get hx
            rw [getD_of hn2] at r1 r2
            have hk : k < way.length := (List.getElem?_eq_some_iff.mp hn2).1
            have hkx : xs[k]? = some (xs.getD k 0) := by simp [show k < xs.length by omega]
            refine ⟨U, _, rfl, hU, rfl, _, _, rfl, _, _, rfl, rfl, rfl, _, rfl, _, rfl, rfl, _, rfl, ite_eqI (fun c => ?_) (fun c => ?_)⟩
            · exact ⟨_, rfl, _, rfl, a, _, _, _, rfl, rfl, (sm.trans s2).seq ha, ix_ref hkx, r1 _ (Same.refl _) (by simp; omega)⟩
            · exact r2 _ (Same.refl _) (by simp; omega)
          · rw [vl_len] at e2
            have e2 : H2 D2 = some (.lst ((idxs way ld).map fun k => V.ref (xs.getD k 0))) := e2
            have sm2 := sm.trans s2
            have hx0 : xs[way.length]? = some (xs.getD way.length 0) := by simp [show way.length < xs.length by omega]
            refine ⟨_, rfl, _, rfl, p, _, rfl, .inr (SqT.of (sm2 _ _ hp)), a, _, _, _, rfl, rfl, sm2.seq ha, by rw [vl_len]; exact ix_ref hx0, (by show 1 ≤ sizeLine; decide), fun p3 hp3 => ⟨D2, p3, _, _, rfl, rfl, same_new hp3 _ _ e2, upd_same, ?_, fun D4 hD4 => ?_⟩⟩
            · have : (idxs way ld).length ≤ way.length := by
                unfold idxs
                have := List.length_filter_le (fun k => way.getD k 0 == ld) (List.range way.length)
                rw [List.length_range] at this; exact this
              rw [List.length_map]
              exact line_le (by show (idxs way ld).length + 1 ≤ _; omega)
            · have s3 : Same H' (upd (upd H2 p3 (.lst [.ref (xs.getD way.length 0)])) D4 (.lst (((idxs way ld).map fun k => V.ref (xs.getD k 0)) ++ [.ref (xs.getD way.length 0)]))) := (s2.trans (same_new hp3)).trans (same_new hD4)
              generalize hH4 : upd (upd H2 p3 (.lst [.ref (xs.getD way.length 0)])) D4 (.lst (((idxs way ld).map fun k => V.ref (xs.getD k 0)) ++ [.ref (xs.getD way.length 0)])) = H4 at s3
              have e4 : H4 D4 = some (.lst (((idxs way ld ++ [way.length]).map fun k => xs.getD k 0).map V.ref)) := by
                rw [← hH4, upd_same, List.map_map, List.map_append]; rfl
              have smH4 := sm.trans s3
              have mem : ∀ k ∈ idxs way ld ++ [way.length], k < xs.length := fun k hk => by
                rcases List.mem_append.mp hk with hk | hk
                · have := List.mem_range.mp (List.mem_filter.mp hk).1; omega
                · rw [List.mem_singleton.mp hk]; omega
              have epk : Wl.pickT ts (way ++ [ld]) ld = (idxs way ld ++ [way.length]).map fun k => ts.getD k Wl.noTh := by
                rw [Wl.pick_snoc (x := ts.getD way.length Wl.noTh) (by simp [hw]), pick_idx ts way ld (by omega), List.map_append]; rfl
              have tpk := (ht.pick _ mem).same smH4
              rw [← epk] at tpk
              have okp : ThsOk (Wl.pickT ts (way ++ [ld]) ld) := fun t h => by
                rw [epk] at h
                obtain ⟨k, hk, rfl⟩ := List.mem_map.mp h
                refine ok _ ?_
                have := mem k hk
                exact List.mem_of_getElem? (i := k) (by simp [show k < ts.length by omega])
              have hlen : (idxs way ld ++ [way.length]).length ≤ 8 := by
                have : (idxs way ld).length ≤ way.length := by
                  unfold idxs
                  have := List.length_filter_le (fun k => way.getD k 0 == ld) (List.range way.length)
                  rw [List.length_range] at this; exact this
                rw [List.length_append, List.length_singleton]; omega
              have acs := accW_succ b m ts way N i
              rw [hl] at acs
              refine ⟨_, rfl, _, rfl, D4, b, _, _, rfl, SqL.of e4, tpk, by rw [List.length_map]; omega, by rw [epk]; simp, okp, fun H5 s5 => ⟨_, rfl, ite_b (fun c => ?_) (fun c => ?_)⟩⟩
              · have sm5 := smH4.trans s5
                have e5D := s5 _ _ (s3 _ _ eD)
                rw [c, if_pos rfl] at acs
                refine ⟨_, rfl, .inl ⟨rfl, _, SqL.of e5D⟩, _, rfl, _, rfl, (by show 1 ≤ sizeLine; decide), fun p6 hp6 => ⟨p, p6, _, [vn ld], rfl, rfl, SqT.of (same_new hp6 _ _ (sm5 _ _ hp)), SqT.of upd_same, ?_, fun ew0 => ?_, (fun _ z => nomatch z), fun _ _ p7 hp7 => ?_⟩⟩
                · rw [vl_len]; exact line_le (by show way.length + 1 ≤ _; omega)
                · have e6 := same_new (o := .tup [vn ld]) hp6 _ _ e5D
                  have hwn : way = [] := by simpa [Wl.inz] using ew0
                  refine ⟨D, _, _, rfl, rfl, e6, ?_, ⟨_, _, rfl⟩, Same.grow (sm5.trans (same_new hp6)) hD, ps ++ [p6], ?_, by rw [upd_same, List.map_append]; rfl, ?_⟩
                  · rw [List.length_map, tps.1]
                    exact line_lt (by have := accW_len b m ts way N i; omega)
                  · intro q hq
                    rcases List.mem_append.mp hq with hq | hq
                    · exact hps q hq
                    · rw [List.mem_singleton.mp hq]
                      exact ⟨Same.none_of sm5 hp6, (ne_of_none e5D hp6).symm⟩
                  · rw [acs]
                    refine TupsAt.snoc (tps.keep fun q hq o eq => ?_) ?_
                    · rw [upd_ne (hps q hq).2]
                      exact same_new hp6 _ _ (s5 _ _ (s3 _ _ eq))
                    · rw [upd_ne (ne_of_none e5D hp6).symm, upd_same, hwn]; rfl
                · have s67 := (same_new (o := .tup [vn ld]) hp6).trans (same_new (o := .tup (vl way ++ [vn ld])) hp7)
                  have e6 := s67 _ _ e5D
                  have n7 : p7 ≠ D := (ne_of_none (same_new (o := .tup [vn ld]) hp6 _ _ e5D) hp7).symm
                  refine ⟨D, _, _, rfl, rfl, e6, ?_, ⟨_, _, rfl⟩, Same.grow (sm5.trans s67) hD, ps ++ [p7], ?_, by rw [upd_same, List.map_append]; rfl, ?_⟩
                  · rw [List.length_map, tps.1]
                    exact line_lt (by have := accW_len b m ts way N i; omega)
                  · intro q hq
                    rcases List.mem_append.mp hq with hq | hq
                    · exact hps q hq
                    · rw [List.mem_singleton.mp hq]
                      exact ⟨Same.none_of (sm5.trans (same_new hp6)) hp7, n7⟩
                  · rw [acs]
                    refine TupsAt.snoc (tps.keep fun q hq o eq => ?_) ?_
                    · rw [upd_ne (hps q hq).2]
                      exact s67 _ _ (s5 _ _ (s3 _ _ eq))
                    · rw [upd_ne n7, upd_same, vl_app]; rfl
              · rw [c, if_neg (by simp), List.append_nil] at acs
                refine ⟨⟨_, _, rfl⟩, smH4.trans s5, ps, hps, s5 _ _ (s3 _ _ eD), ?_⟩
                rw [acs]
                exact tps.keep fun q hq o eq => s5 _ _ (s3 _ _ eq)
        · rintro σ H' ⟨⟨u, v, rfl⟩, sm, ps, hps, eD, tps⟩
          exact ⟨_, rfl, fin _ ps sm hps eD tps⟩
theorem TupsAt.app {H : Hp} {ps qs : List Addr} {ws us : List (List Nat)} (h : TupsAt H ps ws) (h2 : TupsAt H qs us) : TupsAt H (ps ++ qs) (ws ++ us) := by
  refine ⟨by rw [List.length_append, List.length_append, h.1, h2.1], fun i q v a b => ?_⟩
  rcases Nat.lt_or_ge i ps.length with c | c
  · rw [List.getElem?_append_left c] at a
    rw [List.getElem?_append_left (by rw [← h.1]; exact c)] at b
    exact h.2 i q v a b
  · rw [List.getElem?_append_right c] at a
    rw [List.getElem?_append_right (by rw [← h.1]; exact c), ← h.1] at b
    exact h2.2 _ q v a b
def sp_first_way (K : Frag) : Sp := fun vs H Q _ => ∃ (a : Addr) (b m : Nat) (xs : List Addr) (ts : List Th), vs = [.ref a, vn b, vn m] ∧ SqL K H a (xs.map V.ref) ∧ Ths K H xs ts ∧ xs.length ≤ 8 ∧ ThsOk ts ∧ 1 ≤ m ∧ m ≤ 8 ∧
  ∀ H' p, Same H H' → H p = none → H' p = some (.tup (vl ((Wl.succ b m (ts.map Wl.pieceT) []).getD []))) → Q (.ref p) H'
theorem ok_first_way (T : Txt K mg) (D_longer_ways : DefOk P w K mg base CX0 4 "longer_ways" P_longer_ways (sp_longer_ways K)) : DefOk P w K mg base CX0 5 "first_way" P_first_way (sp_first_way K) := by
  refine dok0 T (T.fd 17 (d := d_first_way) (st := s_first_way) (kp := T.keep "first_way")) (T.glo "first_way") sc_first_way (fun _ _ _ _ _ _ us hl => match us, hl with | [_, _, _], _ => rfl) ?len (fun cdv A outer s H vs Q E hr h => ⟨_, (pss_cons (ps_set (i := 3) sc_first_way.nd rfl (Or.inl rfl) (pe_lst (pa_cons (pe_tup pa_nil) pa_nil)))
      (pss_cons (ps_while PassesOwn.never (pt_cmpR (op_neNil (un_of hr)) (pv 3) (pe_lst pa_nil) (nomark _))
        (pss_cons (ps_set (i := 4) sc_first_way.nd rfl (Or.inl rfl) (pe_bm0 PySem.F.plainAttrs_list PySem.F.slot_list_pop PySem.F.type_list_pop mt_pop (pv 3)))
        (pss_cons (ps_if (pt_cmpR op_eq (pe_callB call_len_seq (by rfl) (T.free "len") PySem.boot_len (pa_cons (pv 4) pa_nil)) (pe_callB call_len_seq (by rfl) (T.free "len") PySem.boot_len (pa_cons (pv 0) pa_nil)) (nomark _))
          (pss_one (ps_ret (pv 4)))
          pss_nil)
        (pss_one (ps_expr (pe_bm PySem.F.plainAttrs_list PySem.F.slot_list_extend PySem.F.type_list_extend mt_extend (pv 3) (pa_cons (pe_d D_longer_ways (hr.mono (by decide)) (by rfl) (pa_cons (pv 0) (pa_cons (pv 1) (pa_cons (pv 4) (pa_cons (pv 2) pa_nil))))) pa_nil)))))))
      (pss_one (ps_ret (pe_tup pa_nil))))), ?body⟩)
  case len => intro vs H Q E h; obtain ⟨a, b, m, xs, ts, rfl, ha, ht, hn, ok, m1, m8, q⟩ := h; rfl
  case body =>
    obtain ⟨a, b, m, xs, ts, rfl, ha, ht, hn, ok, m1, m8, q⟩ := h
    have hxl := ht.1
    have hpl : (ts.map Wl.pieceT).length = ts.length := List.length_map _
    refine ⟨Nat.zero_le _, fun p0 hp0 => ⟨(by show 1 ≤ sizeLine; decide), fun D hD0 => ?_⟩⟩
    have hD : H D = none := Same.none_of (same_new hp0) hD0
    have hpD : p0 ≠ D := (ne_of_none upd_same hD0)
    refine ⟨fun k σ H' => ∃ st ps u, k = Wl.wt ts.length (m + 1) st ∧ σ = [some (.ref a), some (vn b), some (vn m), some (.ref D), u] ∧ Same H H' ∧ (∀ q ∈ ps, H q = none ∧ q ≠ D) ∧ H' D = some (.lst (ps.map V.ref)) ∧ TupsAt H' ps st.reverse ∧ Wl.Short st ∧ (∀ w ∈ st, w.length ≤ ts.length) ∧ Wl.searchS b m (ts.map Wl.pieceT) st = Wl.succ b m (ts.map Wl.pieceT) [], ⟨_, [[]], [p0], _, rfl, rfl, ?_, ?_, upd_same, ?_, ?_, ?_, ?_⟩, ?_⟩
    · exact (same_new hp0).trans (same_new hD0)
    · intro q hq
      rw [List.mem_singleton.mp hq]
      exact ⟨hp0, hpD⟩
    · refine ⟨rfl, fun i q u h1 h2 => ?_⟩
      cases i with
      | zero =>
        cases h1; cases h2
        rw [upd_ne hpD, upd_same]; rfl
      | succ i => cases h1
    · exact ⟨by decide, trivial⟩
    · intro w hw
      rw [List.mem_singleton.mp hw]; exact Nat.zero_le _
    · unfold Wl.searchS
      rw [List.findSome?_cons]
      cases Wl.succ b m (ts.map Wl.pieceT) [] <;> rfl
    · rintro k σ H' ⟨st, ps, u, rfl, rfl, sm, hps, eD, tps, sh, hle, hs⟩
      refine ⟨_, rfl, Nat.zero_le _, fun p3 hp3 => ⟨D, p3, _, rfl, rfl, SqL.of (same_new hp3 _ _ eD), SqL.of upd_same, _, rfl, ite_nb (fun c => ?_) (fun c => ?_)⟩⟩
      · have hpl2 := tps.1
        rw [List.length_reverse] at hpl2
        cases st with
        | nil =>
          have : ps = [] := List.length_eq_zero_iff.mp hpl2
          rw [this] at c; cases c
        | cons way st' =>
          obtain ⟨ps', q0, rfl⟩ : ∃ ps' q0, ps = ps' ++ [q0] := by
            rcases List.eq_nil_or_concat ps with z | ⟨l, x, z⟩
            · rw [z] at c; cases c
            · exact ⟨l, x, by rw [z, List.concat_eq_append]⟩
          rw [List.reverse_cons] at tps
          have hl' : ps'.length = st'.reverse.length := by
            have := tps.1
            rw [List.length_append, List.length_append] at this
            simp at this; simp; omega
          have eq0 : H' q0 = some (.tup (vl way)) := tps.2 ps'.length q0 way (by rw [List.getElem?_concat_length]) (by rw [hl', List.getElem?_concat_length])
          have tps' : TupsAt H' ps' st'.reverse := ⟨hl', fun i q u h1 h2 => tps.2 i q u (by rw [List.getElem?_append_left (List.getElem?_eq_some_iff.mp h1).1]; exact h1) (by rw [List.getElem?_append_left (List.getElem?_eq_some_iff.mp h2).1]; exact h2)⟩
          have hps' : ∀ q ∈ ps', H q = none ∧ q ≠ D := fun q hq => hps q (List.mem_append_left _ hq)
          have hq0 := hps q0 (List.mem_append_right _ (by simp))
          have sm3 := sm.trans (same_new (o := .lst []) hp3)
          have e3D : (upd H' p3 (.lst [])) D = some (.lst ((ps' ++ [q0]).map V.ref)) := same_new hp3 _ _ eD
          have lenD : (ps' ++ [q0]).length ≤ 57 := by
            rw [hpl2]
            have := sh.le hle
            omega
          refine ⟨fun σ H2 => ∃ st2, σ = [some (.ref a), some (vn b), some (vn m), some (.ref D), some (.ref q0)] ∧ Wl.wt ts.length (m + 1) st2 < Wl.wt ts.length (m + 1) (way :: st') ∧ ∃ ps2, Same H H2 ∧ (∀ q ∈ ps2, H q = none ∧ q ≠ D) ∧ H2 D = some (.lst (ps2.map V.ref)) ∧ TupsAt H2 ps2 st2.reverse ∧ Wl.Short st2 ∧ (∀ w ∈ st2, w.length ≤ ts.length) ∧ Wl.searchS b m (ts.map Wl.pieceT) st2 = Wl.succ b m (ts.map Wl.pieceT) [], ?_, ?_⟩
          · rintro σ H2 ⟨st2, rfl, lt, ps2, r1, r2, r3, r4, r5, r6, r7⟩
            exact ⟨_, lt, st2, ps2, _, rfl, rfl, r1, r2, r3, r4, r5, r6, r7⟩
          · refine ⟨_, rfl, .inl ⟨rfl, _, SqL.of e3D⟩, D, _, .ref q0, rfl, rfl, e3D, ?_, ?_⟩
            · rw [List.map_append, List.length_append]
              exact List.getElem?_concat_length
            have edl : ((ps' ++ [q0]).map V.ref).dropLast = ps'.map V.ref := by
              rw [List.map_append]; exact List.dropLast_concat
            rw [edl]
            have s4 : Same H (upd (upd H' p3 (.lst [])) D (.lst (ps'.map V.ref))) := Same.grow sm3 hD
            have k4 : ∀ q, q ≠ D → ∀ o, H' q = some o → (upd (upd H' p3 (.lst [])) D (.lst (ps'.map V.ref))) q = some o := fun q n o e => by
              rw [upd_ne n]; exact same_new hp3 _ _ e
            generalize hH4 : upd (upd H' p3 (.lst [])) D (.lst (ps'.map V.ref)) = H4 at s4 k4
            have e4D : H4 D = some (.lst (ps'.map V.ref)) := by rw [← hH4, upd_same]
            have e4q := k4 q0 hq0.2 _ eq0
            refine ⟨_, rfl, q0, _, rfl, .inr (SqT.of e4q), _, rfl, a, _, rfl, .inl (s4.seq ha), rfl, _, rfl, ite_eqI (fun c2 => ?_) (fun c2 => ?_)⟩
            · have hwl : way.length = (ts.map Wl.pieceT).length := by
                rw [vl_len, List.length_map] at c2; omega
              rw [Wl.search_done hwl] at hs
              rw [← hs] at q
              exact ⟨_, rfl, q H4 q0 s4 hq0.1 e4q⟩
            · have hwl : way.length < ts.length := by
                rw [vl_len, List.length_map] at c2
                have := hle way List.mem_cons_self
                omega
              refine ⟨_, rfl, .inl ⟨rfl, _, SqL.of e4D⟩, _, rfl, _, rfl, _, rfl, _, rfl, a, q0, b, m, xs, ts, way, rfl, s4.seq ha, ht.same s4, hn, ok, e4q, hwl, m1, m8, fun H5 D5 ps5 s5 hD5 hps5 e5 t5 => ?_⟩
              have n5 : D5 ≠ D := (ne_of_none e4D hD5).symm
              have e5D := s5 _ _ e4D
              have hg : (Wl.grow b m (ts.map Wl.pieceT) way).length ≤ 8 := by
                unfold Wl.grow
                rw [List.length_map]
                exact Nat.le_trans (Wl.next_length _ _ _ _) m8
              refine ⟨D, D5, _, _, rfl, rfl, e5D, e5, ?_, Wl.grow b m (ts.map Wl.pieceT) way ++ st', rfl, ?_, ps' ++ ps5, Same.grow (s4.trans s5) hD, ?_, by rw [upd_same, List.map_append], ?_, Wl.short_grow sh m8, ?_, ?_⟩
              · rw [List.length_map, List.length_map, t5.1, List.length_reverse]
                rw [List.length_append] at lenD
                exact line_le (by omega)
              · have := Wl.wt_grow (bears := b) (k := m) (l := ts.map Wl.pieceT) (a := way) (st := st') (by rw [hpl]; exact hwl)
                rw [hpl] at this
                exact this
              · intro q hq
                rcases List.mem_append.mp hq with hq | hq
                · exact hps' q hq
                · exact ⟨Same.none_of s4 (hps5 q hq).1, (ne_of_none e4D (hps5 q hq).1).symm⟩
              · rw [List.reverse_append]
                refine TupsAt.app (tps'.keep fun q hq o e => ?_) (t5.keep fun q hq o e => ?_)
                · rw [upd_ne (hps' q hq).2]; exact s5 _ _ (k4 q (hps' q hq).2 o e)
                · rw [upd_ne (ne_of_none e4D (hps5 q hq).1).symm]; exact e
              · intro w hw
                rcases List.mem_append.mp hw with hw | hw
                · unfold Wl.grow at hw
                  obtain ⟨i, _, rfl⟩ := List.mem_map.mp hw
                  rw [List.length_append, List.length_singleton]; omega
                · exact hle w (List.mem_cons_of_mem _ hw)
              · rw [← Wl.search_step (by rw [hpl]; exact hwl)]; exact hs
      · have : ps = [] := by simpa using c
        have hpl2 := tps.1
        rw [List.length_reverse, this] at hpl2
        have est : st = [] := List.length_eq_zero_iff.mp hpl2.symm
        rw [est] at hs
        rw [← hs] at q
        have sm3 := sm.trans (same_new (o := .lst []) hp3)
        exact ⟨Nat.zero_le _, fun p hp => q _ p (sm3.trans (same_new hp)) (Same.none_of sm3 hp) upd_same⟩
def wayOf (b : Nat) (ts : List Th) : List Nat := ((Kyk2.best b (ts.map Wl.pieceT)).map fun x => x.2).getD []
def sp_shared_out (K : Frag) : Sp := fun vs H Q _ => ∃ (a : Addr) (b : Nat) (xs : List Addr) (ts : List Th), vs = [.ref a, vn b] ∧ SqL K H a (xs.map V.ref) ∧ Ths K H xs ts ∧ xs.length ≤ 8 ∧ ThsOk ts ∧
  ∀ H' p, Same H H' → H p = none → H' p = some (.tup (vl (wayOf b ts))) → Q (.ref p) H'
theorem ok_shared_out (T : Txt K mg) (D_first_way : DefOk P w K mg base CX0 5 "first_way" P_first_way (sp_first_way K)) : DefOk P w K mg base CX0 6 "shared_out" P_shared_out (sp_shared_out K) := by
  refine dok0 T (T.fd 18 (d := d_shared_out) (st := s_shared_out) (kp := T.keep "shared_out")) (T.glo "shared_out") sc_shared_out (fun _ _ _ _ _ _ us hl => match us, hl with | [_, _], _ => rfl) ?len (fun cdv A outer s H vs Q E hr h => ⟨_, (pss_cons (ps_for PassesOwn.never rfl (pi_range2 (by rfl) (T.free "range") (pa_cons pe_int (pa_cons (pe_op op_add (pe_callB call_len_seq (by rfl) (T.free "len") PySem.boot_len (pa_cons (pv 0) pa_nil)) pe_int) pa_nil))) (pg_name (i := 2) sc_shared_out.nd rfl (Or.inl rfl))
        (pss_cons (ps_set (i := 3) sc_shared_out.nd rfl (Or.inl rfl) (pe_d D_first_way (hr.mono (by decide)) (by rfl) (pa_cons (pv 0) (pa_cons (pv 1) (pa_cons (pv 2) pa_nil)))))
        (pss_one (ps_if (pt_cmpR (op_neNilT (un_of hr)) (pv 3) (pe_tup pa_nil) (nomark _))
          (pss_one (ps_ret (pv 3)))
          pss_nil))))
      (pss_one (ps_ret (pe_tup pa_nil)))), ?body⟩)
  case len => intro vs H Q E h; obtain ⟨a, b, xs, ts, rfl, ha, ht, hn, ok, q⟩ := h; rfl
  case body =>
    obtain ⟨a, b, xs, ts, rfl, ha, ht, hn, ok, q⟩ := h
    have hxl := ht.1
    have hpl : (ts.map Wl.pieceT).length = ts.length := List.length_map _
    refine ⟨_, rfl, a, _, rfl, .inl ha, _, _, rfl, rfl, _, _, rfl, ?_, for_range (n := _) (fun i σ H' => (∃ u v, σ = [some (.ref a), some (vn b), u, v]) ∧ Same H H' ∧ ∀ k, 1 ≤ k → k < 1 + i → Wl.succ b k (ts.map Wl.pieceT) [] = none) ⟨⟨_, _, rfl⟩, Same.refl _, fun k h1 h2 => absurd h1 (by omega)⟩ ?_ ?_⟩
    · rw [List.length_map]
      exact ⟨by decide, by decide, by omega, by omega⟩
    · rintro i σ H' hi ⟨⟨u, v, rfl⟩, sm, hk⟩
      have hi2 : i < ts.length := by rw [List.length_map] at hi; omega
      have ev : (1 : Int) + (i : Int) = ((1 + i : Nat) : Int) := by omega
      rw [ev]
      refine ⟨_, rfl, _, rfl, _, rfl, a, b, 1 + i, xs, ts, rfl, sm.seq ha, ht.same sm, hn, ok, by omega, by omega, fun H2 p s2 hp e2 => ?_⟩
      refine ⟨_, rfl, Nat.zero_le _, fun p3 hp3 => ⟨p, p3, _, rfl, rfl, SqT.of (same_new hp3 _ _ e2), SqT.of upd_same, _, rfl, ite_nb (fun c => ?_) (fun c => ?_)⟩⟩
      · cases e : Wl.succ b (1 + i) (ts.map Wl.pieceT) [] with
        | none => rw [e] at c; cases c
        | some w =>
          have hb := Wl.best_some (bears := b) (m := 1 + i) (l := ts.map Wl.pieceT) (a := w) (by rintro z; rw [z] at hpl; simp at hpl; omega) hk e (by omega)
          have ew : wayOf b ts = w := by unfold wayOf; rw [hb]; rfl
          rw [e] at e2
          rw [ew] at q
          exact ⟨_, rfl, q _ p ((sm.trans s2).trans (same_new hp3)) (Same.none_of sm hp) (same_new hp3 _ _ e2)⟩
      · refine ⟨⟨_, _, rfl⟩, (sm.trans s2).trans (same_new hp3), fun k h1 h2 => ?_⟩
        rcases Nat.lt_or_eq_of_le (Nat.le_of_lt_succ (show k < (1 + i) + 1 by omega)) with z | rfl
        · exact hk k h1 z
        · cases e : Wl.succ b (1 + i) (ts.map Wl.pieceT) [] with
          | none => rfl
          | some w =>
            rw [e] at c
            have hw : w = [] := by
              have c' : (vl w).isEmpty = true := c
              simpa using c'
            have := (Wl.succ_spec _ rfl (by simp) e).1
            rw [hw, hpl] at this
            simp at this; omega
    · rintro σ H' ⟨⟨u, v, rfl⟩, sm, hk⟩
      have ew : wayOf b ts = [] := by
        by_cases z : ts = []
        · subst z; rfl
        · unfold wayOf
          rw [Wl.best_none (bears := b) (l := ts.map Wl.pieceT) (by simpa using z) fun k h1 h2 => hk k h1 (by rw [List.length_map]; omega)]; rfl
      rw [ew] at q
      exact ⟨Nat.zero_le _, fun p hp => q _ p (sm.trans (same_new hp)) (Same.none_of sm hp) upd_same⟩
end
end Wt
end
section
set_option Elab.async false
set_option linter.all false
set_option maxRecDepth 100000
set_option maxHeartbeats 2000000
/-! # The laundry: who waits, bills, places -/
namespace Wt
open PySem PySem.Spec PyProof.Rows L2 Wr
open PySem.W (Frag)
open Wl (Lb Th Od Mc La Cl th od mc)
section
variable {P : Program} {w : World} {K : Frag} {mg : Str → Option Value} {base : Heap}
theorem At.ts_at {H : Hp} {L : Lay} {m : La} (A : At K H L m) {i : Nat} (h : i < m.things.length) : ∃ x, L.ts[i]? = some x := ⟨_, List.getElem?_eq_getElem (by rw [A.lts]; exact h)⟩
theorem At.os_at {H : Hp} {L : Lay} {m : La} (A : At K H L m) {i : Nat} (h : i < m.orders.length) : ∃ x, L.os[i]? = some x := ⟨_, List.getElem?_eq_getElem (by rw [A.los]; exact h)⟩
theorem At.ms_at {H : Hp} {L : Lay} {m : La} (A : At K H L m) {i : Nat} (h : i < m.machines.length) : ∃ x, L.ms[i]? = some x := ⟨_, List.getElem?_eq_getElem (by rw [A.lms]; exact h)⟩
theorem ord_lt {m : La} (I : Wl.Inv m) {i : Nat} (h : i < m.things.length) : (th m i).order < m.orders.length := Wl.th_order I h
def sp_Machine (K : Frag) : Sp := fun vs H Q _ => ∃ (p dx : Addr) (b : Nat), vs = [.ref p, vn b] ∧ H p = some (.ins (He.ga K "Machine") dx []) ∧
  ∀ H' l q, (∀ z o, H z = some o → z ≠ p → H' z = some o) → H l = none → H q = none → l ≠ q → H' p = some (.ins (He.ga K "Machine") dx (mcF l q ⟨b, false, [], [], 0⟩)) → H' l = some (.lst []) → H' q = some (.tup []) → Q .non H'
theorem ok_Machine (T : Txt K mg)  : MkOk P w K mg base 1 "Machine" P_MachineI (sp_Machine K) := by
  refine mok (T.fd 2 (d := d_MachineI) (st := sMachineI) (kp := (T.meth "Machine").kp)) (T.glo "Machine") (T.mkr "Machine") sc_MachineI (fun _ _ _ _ _ _ us hl => match us, hl with | [_, _], _ => rfl) ?len (fun cdv A outer s H vs Q E hr h => ⟨_, (pss_cons (ps_fld (pv 0) (pv 1) rfl)
      (pss_cons (ps_fld (pv 0) pe_bl rfl)
      (pss_cons (ps_fld (pv 0) (pe_lst pa_nil) rfl)
      (pss_cons (ps_fld (pv 0) (pe_tup pa_nil) rfl)
      (pss_one (ps_fld (pv 0) pe_int rfl)))))), ?body⟩)
  case len => intro vs H Q E h; obtain ⟨p, dx, b, rfl, h1, q⟩ := h; rfl
  case body =>
    obtain ⟨p, dx, b, rfl, h1, q⟩ := h
    refine ⟨_, rfl, _, rfl, p, _, dx, _, rfl, h1, cMachine T, nMachine_bears T, (by show 0 < 1000; decide), ?_⟩
    refine ⟨_, rfl, p, _, dx, _, rfl, upd_same, cMachine T, nMachine_is_broken T, (by show 1 < 1000; decide), ?_⟩
    rw [upd_upd]
    refine ⟨Nat.zero_le _, fun l hl => ?_⟩
    have n1 : l ≠ p := fun z => by rw [z, upd_same] at hl; cases hl
    have l0 : H l = none := by rw [upd_ne n1] at hl; exact hl
    refine ⟨_, rfl, p, _, dx, _, rfl, (upd_ne n1.symm).trans upd_same, cMachine T, nMachine_things T, (by show 2 < 1000; decide), ?_⟩
    refine ⟨Nat.zero_le _, fun t ht => ?_⟩
    have n2 : t ≠ p := fun z => by rw [z, upd_same] at ht; cases ht
    have ht1 := ht
    rw [upd_ne n2] at ht1
    have n3 : t ≠ l := fun z => by rw [z, upd_same] at ht1; cases ht1
    have t0 : H t = none := by rw [upd_ne n3, upd_ne n2] at ht1; exact ht1
    refine ⟨_, rfl, p, _, dx, _, rfl, (upd_ne n2.symm).trans upd_same, cMachine T, nMachine_program T, (by show 3 < 1000; decide), ?_⟩
    refine ⟨_, rfl, p, _, dx, _, rfl, upd_same, cMachine T, nMachine_until T, (by show 4 < 1000; decide), ?_⟩
    refine q _ l t (fun z o e ne => ?_) l0 t0 n3.symm upd_same ?_ ?_
    · have z1 : z ≠ l := fun c => by rw [c, l0] at e; cases e
      have z2 : z ≠ t := fun c => by rw [c, t0] at e; cases e
      rw [upd_ne ne, upd_ne ne, upd_ne z2, upd_ne ne, upd_ne z1, upd_ne ne]; exact e
    · rw [upd_ne n1, upd_ne n1, upd_ne n3.symm, upd_ne n1, upd_same]
    · rw [upd_ne n2, upd_ne n2, upd_same]
def sp_Order (K : Frag) : Sp := fun vs H Q _ => ∃ (p dx : Addr) (d : Nat), vs = [.ref p, vn d] ∧ H p = some (.ins (He.ga K "Order") dx []) ∧
  ∀ H' l, (∀ z o, H z = some o → z ≠ p → H' z = some o) → H l = none → H' p = some (.ins (He.ga K "Order") dx (odF l ⟨d, 0, []⟩)) → H' l = some (.lst []) → Q .non H'
theorem ok_Order (T : Txt K mg)  : MkOk P w K mg base 1 "Order" P_OrderI (sp_Order K) := by
  refine mok (T.fd 3 (d := d_OrderI) (st := sOrderI) (kp := (T.meth "Order").kp)) (T.glo "Order") (T.mkr "Order") sc_OrderI (fun _ _ _ _ _ _ us hl => match us, hl with | [_, _], _ => rfl) ?len (fun cdv A outer s H vs Q E hr h => ⟨_, (pss_cons (ps_fld (pv 0) (pv 1) rfl)
      (pss_cons (ps_fld (pv 0) (pe_i (i := 0) T (by rfl)) rfl)
      (pss_one (ps_fld (pv 0) (pe_lst pa_nil) rfl)))), ?body⟩)
  case len => intro vs H Q E h; obtain ⟨p, dx, d, rfl, h1, q⟩ := h; rfl
  case body =>
    obtain ⟨p, dx, d, rfl, h1, q⟩ := h
    refine ⟨_, rfl, _, rfl, p, _, dx, _, rfl, h1, cOrder T, nOrder_due T, (by show 0 < 1000; decide), ?_⟩
    refine ⟨_, rfl, p, _, dx, _, rfl, upd_same, cOrder T, nOrder_stands T, (by show 1 < 1000; decide), ?_⟩
    rw [upd_upd]
    refine ⟨Nat.zero_le _, fun l hl => ?_⟩
    have n1 : l ≠ p := fun z => by rw [z, upd_same] at hl; cases hl
    have l0 : H l = none := by rw [upd_ne n1] at hl; exact hl
    refine ⟨_, rfl, p, _, dx, _, rfl, (upd_ne n1.symm).trans upd_same, cOrder T, nOrder_things T, (by show 2 < 1000; decide), ?_⟩
    refine q _ l (fun z o e ne => ?_) l0 upd_same ?_
    · have z1 : z ≠ l := fun c => by rw [c, l0] at e; cases e
      rw [upd_ne ne, upd_ne z1, upd_ne ne]; exact e
    · rw [upd_ne n1, upd_same]
def sp_waits (K : Frag) : Sp := fun vs H Q _ => ∃ (L : Lay) (m : La) (i : Nat), vs = [.ref L.a, vn i] ∧ At K H L m ∧ i < m.things.length ∧ (th m i).order < m.orders.length ∧ Q (.bl (Wl.waitsB m i)) H
theorem ok_waits (T : Txt K mg)  : DefOk P w K mg base CX0 1 "waits" P_waits (sp_waits K) := by
  refine dok0 T (T.fd 19 (d := d_waits) (st := s_waits) (kp := T.keep "waits")) (T.glo "waits") sc_waits (fun _ _ _ _ _ _ us hl => match us, hl with | [_, _], _ => rfl) ?len (fun cdv A outer s H vs Q E hr h => ⟨_, (pss_cons (ps_set (i := 2) sc_waits.nd rfl (Or.inl rfl) (pe_ix ix_list (pe_fld (pv 0) rfl) (pv 1) (fun _ _ => rfl)))
      (pss_cons (ps_set (i := 3) sc_waits.nd rfl (Or.inl rfl) (pe_cmpR op_eq (pe_fld (pe_ix ix_list (pe_fld (pv 0) rfl) (pe_fld (pv 2) rfl) (fun _ _ => rfl)) rfl) (pe_i (i := 1) T (by rfl)) (nomark _)))
      (pss_one (ps_ret (pe_and (pv 3) (pe_and (pe_not (pe_fld (pv 2) rfl)) (pe_one (pe_cmpR op_lt (pe_fld (pv 2) rfl) pe_int (nomark _))))))))), ?body⟩)
  case len => intro vs H Q E h; obtain ⟨L, m, i, rfl, A, hi, ho, q⟩ := h; rfl
  case body =>
    obtain ⟨L, m, i, rfl, A, hi, ho, q⟩ := h
    obtain ⟨dx, hla⟩ := A.la
    obtain ⟨x, hx⟩ := A.ts_at hi
    obtain ⟨y, hy⟩ := A.os_at ho
    obtain ⟨dt, lb, sg, t1, _⟩ := A.thi i x hx
    obtain ⟨dy, ly, y1, _⟩ := A.ord _ y hy
    refine ⟨_, rfl, L.a, _, dx, _, _, rfl, hla, cLaundry T, nLaundry_things T, rfl, _, rfl, L.lt, _, _, _, rfl, rfl, SqL.of A.ht, ix_ref hx, ?_⟩
    refine ⟨_, rfl, L.a, _, dx, _, _, rfl, hla, cLaundry T, nLaundry_orders T, rfl, _, rfl, x, _, dt, _, _, rfl, t1, cThing T, nThing_order T, rfl, L.lo, _, _, _, rfl, rfl, SqL.of A.ho, ix_ref hy, y, _, dy, _, _, rfl, y1, cOrder T, nOrder_stands T, rfl, rfl, ?_⟩
    have e1 : decide (vn (od m (th m i).order).stands = V.int 1) = ((od m (th m i).order).stands == 1) := by
      by_cases c : (od m (th m i).order).stands = 1
      · rw [c]; rfl
      · rw [beq_false_of_ne c]
        exact decide_eq_false fun z => c (by have := V.int.inj z; omega)
    unfold Wl.waitsB at q
    refine ⟨_, rfl, _, rfl, ?_⟩
    rw [e1]
    refine ite_b (fun c => ?_) (fun c => ?_)
    · rw [c, Bool.true_and] at q
      refine ⟨_, rfl, x, _, dt, _, _, rfl, t1, cThing T, nThing_is_washed T, rfl, _, rfl, _, rfl, ite_nb (fun c2 => ?_) (fun c2 => ?_)⟩
      · rw [c2] at q
        exact ⟨_, rfl, x, _, dt, _, _, rfl, t1, cThing T, nThing_machine T, rfl, _, _, rfl, rfl, q⟩
      · rw [c2] at q
        exact q
    · rw [c, Bool.false_and] at q
      exact q
def sp_is_running (K : Frag) : Sp := fun vs H Q _ => ∃ (x dx l p : Addr) (c : Mc), vs = [.ref x] ∧ H x = some (.ins (He.ga K "Machine") dx (mcF l p c)) ∧ H l = some (.lst (vl c.things)) ∧ ∀ H', Same H H' → Q (.bl (!c.things.isEmpty)) H'
theorem ok_is_running (T : Txt K mg)  : DefOk P w K mg base CX0 1 "is_running" P_is_running (sp_is_running K) := by
  refine dok0 T (T.fd 23 (d := d_is_running) (st := s_is_running) (kp := T.keep "is_running")) (T.glo "is_running") sc_is_running (fun _ _ _ _ _ _ us hl => match us, hl with | [_], _ => rfl) ?len (fun cdv A outer s H vs Q E hr h => ⟨_, (pss_one (ps_ret (pe_cmpR (op_neNil (un_of hr)) (pe_fld (pv 0) rfl) (pe_lst pa_nil) (nomark _)))), ?body⟩)
  case len => intro vs H Q E h; obtain ⟨x, dx, l, p, c, rfl, h1, h2, q⟩ := h; rfl
  case body =>
    obtain ⟨x, dx, l, p, c, rfl, h1, h2, q⟩ := h
    refine ⟨_, rfl, x, _, dx, _, _, rfl, h1, cMachine T, nMachine_things T, rfl, Nat.zero_le _, fun p3 hp3 => ⟨l, p3, _, rfl, rfl, SqL.of (same_new hp3 _ _ h2), SqL.of upd_same, ?_⟩⟩
    have := q _ (same_new (o := .lst []) hp3)
    have e : (if true = true then !(vl c.things).isEmpty else (vl c.things).isEmpty) = !c.things.isEmpty := by cases c.things <;> rfl
    rw [e]
    exact this
def sp_where_is (K : Frag) : Sp := fun vs H Q _ => ∃ (L : Lay) (m : La) (i : Nat), vs = [.ref L.a, vn i] ∧ At K H L m ∧ i < m.things.length ∧ (th m i).order < m.orders.length ∧ ∀ H', Same H H' → Q (vn (Wl.placeT m i)) H'
theorem ok_where_is (T : Txt K mg)  : DefOk P w K mg base CX0 1 "where_is" P_where_is (sp_where_is K) := by
  refine dok0 T (T.fd 28 (d := d_where_is) (st := s_where_is) (kp := T.keep "where_is")) (T.glo "where_is") sc_where_is (fun _ _ _ _ _ _ us hl => match us, hl with | [_, _], _ => rfl) ?len (fun cdv A outer s H vs Q E hr h => ⟨_, (pss_cons (ps_set (i := 2) sc_where_is.nd rfl (Or.inl rfl) (pe_ix ix_list (pe_fld (pv 0) rfl) (pv 1) (fun _ _ => rfl)))
      (pss_cons (ps_set (i := 3) sc_where_is.nd rfl (Or.inl rfl) (pe_fld (pe_ix ix_list (pe_fld (pv 0) rfl) (pe_fld (pv 2) rfl) (fun _ _ => rfl)) rfl))
      (pss_cons (ps_if (pt_cmpR op_in_seq (pv 3) (pe_tup (pa_cons (pe_i (i := 3) T (by rfl)) (pa_cons (pe_i (i := 4) T (by rfl)) pa_nil))) (by rfl))
        (pss_one (ps_ret pe_int))
        pss_nil)
      (pss_cons (ps_if (pt_cmpR op_eq (pv 3) (pe_i (i := 2) T (by rfl)) (nomark _))
        (pss_one (ps_ret pe_int))
        pss_nil)
      (pss_cons (ps_if (pt_val (pe_fld (pv 2) rfl))
        (pss_one (ps_ret pe_int))
        pss_nil)
      (pss_one (ps_ret (pe_callTy call_int1 (by rfl) (T.free "int") (by decide +kernel) (pa_cons (pe_cmpR op_ge (pe_fld (pv 2) rfl) pe_int (nomark _)) pa_nil))))))))), ?body⟩)
  case len => intro vs H Q E h; obtain ⟨L, m, i, rfl, A, hi, ho, q⟩ := h; rfl
  case body =>
    obtain ⟨L, m, i, rfl, A, hi, ho, q⟩ := h
    obtain ⟨dx, hla⟩ := A.la
    obtain ⟨x, hx⟩ := A.ts_at hi
    obtain ⟨y, hy⟩ := A.os_at ho
    obtain ⟨dt, lb, sg, t1, _⟩ := A.thi i x hx
    obtain ⟨dy, ly, y1, _⟩ := A.ord _ y hy
    unfold Wl.placeT Wl.placeOf at q
    refine ⟨_, rfl, L.a, _, dx, _, _, rfl, hla, cLaundry T, nLaundry_things T, rfl, _, rfl, L.lt, _, _, _, rfl, rfl, SqL.of A.ht, ix_ref hx, ?_⟩
    refine ⟨_, rfl, L.a, _, dx, _, _, rfl, hla, cLaundry T, nLaundry_orders T, rfl, _, rfl, x, _, dt, _, _, rfl, t1, cThing T, nThing_order T, rfl, L.lo, _, _, _, rfl, rfl, SqL.of A.ho, ix_ref hy, y, _, dy, _, _, rfl, y1, cOrder T, nOrder_stands T, rfl, ?_⟩
    refine ⟨_, rfl, (by show 2 ≤ sizeLine; decide), fun p3 hp3 => ⟨_, _, rfl, .inr (SqT.of upd_same), rfl, flat_ints [3, 4], _, rfl, ?_⟩⟩
    have sm := same_new (o := .tup [.int 3, .int 4]) hp3
    have e1 : inV (vn (od m (th m i).order).stands) ([3, 4].map V.int) = decide ((od m (th m i).order).stands = 3 ∨ (od m (th m i).order).stands = 4) := by
      rw [inV_int, decide_eq_decide]; simp; omega
    have e2 : inV (vn (od m (th m i).order).stands) [V.int 3, V.int 4] = decide ((od m (th m i).order).stands = 3 ∨ (od m (th m i).order).stands = 4) := e1
    rw [e2]
    have hd := q _ sm
    refine ite_dec (fun c => ?_) (fun c => ?_)
    · rw [if_pos c] at hd; exact hd
    · rw [if_neg c] at hd
      refine ⟨_, rfl, rfl, _, rfl, ite_eqI (fun c2 => ?_) (fun c2 => ?_)⟩
      · rw [if_pos (by omega)] at hd; exact hd
      · rw [if_neg (by omega)] at hd
        refine ⟨_, rfl, x, _, dt, _, _, rfl, sm _ _ t1, cThing T, nThing_is_washed T, rfl, _, rfl, ite_b (fun c3 => ?_) (fun c3 => ?_)⟩
        · rw [if_pos c3] at hd; exact hd
        · rw [if_neg (by rw [c3]; simp)] at hd
          refine ⟨_, rfl, x, _, dt, _, _, rfl, sm _ _ t1, cThing T, nThing_machine T, rfl, _, _, rfl, rfl, .inr ⟨decide (0 ≤ (th m i).mach), rfl, ?_⟩⟩
          by_cases c4 : 0 ≤ (th m i).mach
          · rw [if_pos c4] at hd
            rw [decide_eq_true c4]; exact hd
          · rw [if_neg c4] at hd
            rw [decide_eq_false c4]; exact hd
theorem inz_sum (l : List Nat) : (Wl.inz l).sum = ((l.sum : Nat) : Int) := by
  induction l with
  | nil => rfl
  | cons x l ih =>
    show (x : Int) + (Wl.inz l).sum = _
    rw [ih, List.sum_cons]; omega
def sp_bill_of (K : Frag) : Sp := fun vs H Q _ => ∃ (L : Lay) (m : La) (o : Nat) (x : Addr), vs = [.ref L.a, .ref x] ∧ At K H L m ∧ L.os[o]? = some x ∧ (od m o).things.length ≤ 150 ∧ (∀ i ∈ (od m o).things, i < m.things.length) ∧ m.price ≤ 1000 ∧ ∀ H', Same H H' → Q (vn (Wl.billN m o)) H'
theorem ok_bill_of (T : Txt K mg)  : DefOk P w K mg base CX0 1 "bill_of" P_bill_of (sp_bill_of K) := by
  refine dok0 T (T.fd 27 (d := d_bill_of) (st := s_bill_of) (kp := T.keep "bill_of")) (T.glo "bill_of") sc_bill_of (fun _ _ _ _ _ _ us hl => match us, hl with | [_, _], _ => rfl) ?len (fun cdv A outer s H vs Q E hr h => ⟨_, (pss_cons (ps_set (i := 2) sc_bill_of.nd rfl (Or.inl rfl) (pe_callB (cr_sum rfl) (by rfl) (T.free "sum") (by decide +kernel) (pa_cons (pe_lc (own := [("i", 3)]) (g := (gName 3)) rfl sc_bill_of.nd (pi_list (pe_fld (pv 1) rfl)) (blkOk_by (N := N_bill_of) (sc := defScope s_bill_of) (by decide +kernel)) (fun _ _ _ _ _ => (pg_name (i := 3) sc_bill_of.nd rfl (Or.inl rfl))) (fun _ _ _ _ _ => pts_nil) (fun _ _ _ _ _ => (pe_fldK K (pe_ix (ix_listK K) (pe_fldK K (pv 0)) (pv 3) (fun _ _ => rfl))))) pa_nil)))
      (pss_one (ps_ret (pe_op op_mul (pe_fld (pv 0) rfl) (pe_op op_fdiv (pe_op op_add (pv 2) pe_int) pe_int))))), ?body⟩)
  case len => intro vs H Q E h; obtain ⟨L, m, o, x, rfl, A, hx, hn, hi, hpr, q⟩ := h; rfl
  case body =>
    obtain ⟨L, m, o, x, rfl, A, hx, hn, hi, hpr, q⟩ := h
    obtain ⟨dx, hla⟩ := A.la
    obtain ⟨dy, ly, y1, y2, _⟩ := A.ord _ x hx
    refine ⟨_, rfl, x, _, dy, _, _, rfl, y1, cOrder T, nOrder_things T, rfl, ly, rfl, ⟨_, SqL.of y2⟩, fun D hD => lcL hD (fun _ => true) (fun j => vn (th m ((od m o).things.getD j 0)).weight) (SqL.of y2) (vl_small hn (by decide)) (fun j v H1 Rt Rf hv sm r1 r2 => ?_) (fun H1 sm e1 => ?_)⟩
    · obtain ⟨i, hj, rfl⟩ := vl_get hv
      rw [getD_of hj] at r1
      obtain ⟨z, hz⟩ := A.ts_at (hi i (List.mem_of_getElem? hj))
      obtain ⟨dt, lb, sg, t1, _⟩ := A.thi i z hz
      exact ⟨rfl, _, rfl, L.a, _, dx, _, _, rfl, sm _ _ hla, cLaundry T, nLaundry_things T, rfl, _, rfl, L.lt, _, _, _, rfl, rfl, SqL.of (sm _ _ A.ht), ix_ref hz, z, _, dt, _, _, rfl, sm _ _ t1, cThing T, nThing_weight T, rfl, r1 _ (Same.refl _) rfl⟩
    · rw [rng_m (od m o).things 0 (fun i => vn (th m i).weight) (vl_len _)] at e1
      have e1 : H1 D = some (.lst (vl ((od m o).things.map fun i => (th m i).weight))) := by rw [e1, ← vl_map, List.map_map]; rfl
      refine ⟨D, _, rfl, SqL.of e1, ?_⟩
      rw [inz_sum]
      unfold Wl.billN at q
      generalize ((od m o).things.map fun i => (th m i).weight).sum = S at q
      refine ⟨_, rfl, L.a, _, dx, _, _, rfl, sm _ _ hla, cLaundry T, nLaundry_price T, rfl, _, rfl, _, _, rfl, rfl, _, _, rfl, rfl, ⟨by decide, by decide⟩, ?_⟩
      refine ⟨_, _, rfl, rfl, .inl ⟨by omega, by omega⟩, ?_⟩
      have := q _ sm
      have e : (m.price : Int) * (((S : Int) + 99) / 100) = ((m.price * ((S + 99) / 100) : Nat) : Int) := by
        rw [Int.natCast_mul]; congr 1
      show Q (.int ((m.price : Int) * (((S : Int) + 99) / 100))) H1
      rw [e]
      exact this
/-! ### who waits -/
def kOf (H : Hp) : V → Int × Int
  | .ref t => match H t with
    | some (.tup [.int x, .int y]) => (x, y)
    | _ => (0, 0)
  | _ => (0, 0)
def sp_waiting (K : Frag) : Sp := fun vs H Q _ => ∃ (L : Lay) (m : La), vs = [.ref L.a] ∧ At K H L m ∧ m.things.length ≤ 150 ∧ (∀ i, i < m.things.length → (th m i).order < m.orders.length) ∧ ∀ H' p, Same H H' → H p = none → H' p = some (.lst (vl (Wl.waitL m))) → Q (.ref p) H'
theorem ok_waiting (T : Txt K mg) (D_waits : DefOk P w K mg base CX0 1 "waits" P_waits (sp_waits K)) : DefOk P w K mg base CX0 2 "waiting" P_waiting (sp_waiting K) := by
  refine dok0 T (T.fd 20 (d := d_waiting) (st := s_waiting) (kp := T.keep "waiting")) (T.glo "waiting") sc_waiting (fun _ _ _ _ _ _ us hl => match us, hl with | [_], _ => rfl) ?len (fun cdv A outer s H vs Q E hr h => ⟨_, (pss_cons (ps_setLc (i := 1) (own := [("i", 2)]) (g := (gName 2)) rfl sc_waiting.nd rfl rfl (sw_true rfl rfl rfl (by decide +kernel)) (pi_range1 (by rfl) (T.free "range") (pa_cons (pe_callB call_len_seq (by rfl) (T.free "len") PySem.boot_len (pa_cons (pe_fld (pv 0) rfl) pa_nil)) pa_nil)) (blkOk_by (N := N_waiting) (sc := defScope s_waiting) (by decide +kernel)) (fun _ _ _ _ _ => (pg_name (i := 2) sc_waiting.nd rfl (Or.inl rfl))) (fun _ _ _ _ _ => (pts_one (pt_val (pe_d D_waits (hr.mono (by decide)) (by rfl) (pa_cons (pv 0) (pa_cons (pv 2) pa_nil)))))) (fun _ _ _ _ _ => (pv 2)))
      (pss_one (ps_ret (pe_lc (own := [("due", 3), ("i", 2)]) (g := (gTup K 2 (gCons (gName 3) (gCons (gName 2) gNil)))) rfl sc_waiting.nd (pi_list (pe_callB cr_sortedPO (by rfl) (T.free "sorted") (by decide +kernel) (pa_cons (pe_lc (own := [("i", 2)]) (g := (gName 2)) rfl sc_waiting.nd (pi_list (pv 1)) (blkOk_by (N := N_waiting) (sc := defScope s_waiting) (by decide +kernel)) (fun _ _ _ _ _ => (pg_name (i := 2) sc_waiting.nd rfl (Or.inl rfl))) (fun _ _ _ _ _ => pts_nil) (fun _ _ _ _ _ => (pe_tup (pa_cons (pe_fldK K (pe_ix (ix_listK K) (pe_fldK K (pv 0)) (pe_fldK K (pe_ix (ix_listK K) (pe_fldK K (pv 0)) (pv 2) (fun _ _ => rfl))) (fun _ _ => rfl))) (pa_cons (pv 2) pa_nil))))) pa_nil))) (blkOk_by (N := N_waiting) (sc := defScope s_waiting) (by decide +kernel)) (fun _ _ _ _ _ => (pg_tup rfl (pgs_cons (pg_name (i := 3) sc_waiting.nd rfl (Or.inl rfl)) (pgs_cons (pg_name (i := 2) sc_waiting.nd rfl (Or.inl rfl)) pgs_nil)))) (fun _ _ _ _ _ => pts_nil) (fun _ _ _ _ _ => (pv 2)))))), ?body⟩)
  case len => intro vs H Q E h; obtain ⟨L, m, rfl, A, hn, ho, q⟩ := h; rfl
  case body =>
    obtain ⟨L, m, rfl, A, hn, ho, q⟩ := h
    obtain ⟨dx, hla⟩ := A.la
    have lts := A.lts
    refine ⟨_, rfl, L.a, _, dx, _, _, rfl, hla, cLaundry T, nLaundry_things T, rfl, L.lt, _, rfl, .inl (SqL.of A.ht), _, rfl, by omega, ?_, fun D1 hD1 => lcR hD1 (Wl.waitsB m) (fun i => vn i) ?_ (fun i H1 Rt Rf hi sm r1 r2 => ?_) (fun H1 sm1 e1 => ?_)⟩
    · rw [List.length_map]; omega
    · rw [List.length_map]; exact line_le (by omega)
    · have hi : i < m.things.length := by rw [List.length_map] at hi; omega
      have ev : (0 : Int) + (i : Int) = (i : Int) := by omega
      rw [ev]
      refine ⟨rfl, _, rfl, _, rfl, L, m, i, rfl, A.same sm, hi, ho i hi, _, rfl, ite_b (fun c => ⟨_, rfl, r1 _ (Same.refl _) c⟩) (fun c => r2 _ (Same.refl _) c)⟩
    · have hl1 : H1 D1 = some (.lst (vl (Wl.pre m))) := by
        rw [e1]
        have : ((List.map V.ref L.ts).length : Int).toNat = m.things.length := by rw [List.length_map]; omega
        rw [this, vl_map]; rfl
      have pm : ∀ i ∈ Wl.pre m, i < m.things.length := fun i h => (Wl.pre_lt h).1
      have pn : (Wl.pre m).length ≤ 150 := by
        unfold Wl.pre
        refine Nat.le_trans (List.length_filter_le _ _) ?_
        rw [List.length_range]; exact hn
      refine ⟨_, rfl, D1, rfl, ⟨_, SqL.of hl1⟩, fun D2 hD2 => lc_list (xs := vl (Wl.pre m)) (fun i H' => Same H1 H' ∧ ∃ us : List Addr, H' D2 = some (.lst (us.map V.ref)) ∧ us.length = i ∧ ∀ (j : Nat) (t : Addr) (n : Nat), us[j]? = some t → (Wl.pre m)[j]? = some n → H' t = some (.tup [vn (Wl.dueT m n), vn n]) ∧ t ≠ D2) (by exact ⟨same_new hD2, [], upd_same, rfl, fun j t n h => by cases h⟩) (fun i H' _ h => SqL.of (h.1 _ _ hl1)) ?_ ?_⟩
      · rintro i v H' hv ⟨sm, us, eD, hu, hus⟩
        obtain ⟨n, hn2, rfl⟩ := vl_get hv
        have hi := pm n (List.mem_of_getElem? hn2)
        have A' := A.same (sm1.trans sm)
        obtain ⟨x, hx⟩ := A'.ts_at hi
        obtain ⟨y, hy⟩ := A'.os_at (ho n hi)
        obtain ⟨dt, lb, sg, t1, _⟩ := A'.thi n x hx
        obtain ⟨dy, ly, y1, _⟩ := A'.ord _ y hy
        have hla' := sm _ _ (sm1 _ _ hla)
        refine ⟨rfl, _, rfl, L.a, _, dx, _, _, rfl, hla', cLaundry T, nLaundry_orders T, rfl, _, rfl, L.a, _, dx, _, _, rfl, hla', cLaundry T, nLaundry_things T, rfl, _, rfl, L.lt, _, _, _, rfl, rfl, SqL.of A'.ht, ix_ref hx, x, _, dt, _, _, rfl, t1, cThing T, nThing_order T, rfl, L.lo, _, _, _, rfl, rfl, SqL.of A'.ho, ix_ref hy, y, _, dy, _, _, rfl, y1, cOrder T, nOrder_due T, rfl, _, rfl, (by show 2 ≤ sizeLine; decide), fun t ht => ?_⟩
        have nt : t ≠ D2 := (ne_of_none eD ht).symm
        refine ⟨_, same_new ht _ _ eD, ?_, ?_, us ++ [t], by rw [upd_same, List.map_append]; rfl, by rw [List.length_append, hu]; rfl, fun j t2 n2 h1 h2 => ?_⟩
        · rw [List.length_map, hu]
          have := (List.getElem?_eq_some_iff.mp hn2).1
          exact line_lt (by omega)
        · exact Same.grow (sm.trans (same_new ht)) hD2
        · rcases Nat.lt_trichotomy j us.length with c | c | c
          · rw [List.getElem?_append_left c] at h1
            obtain ⟨q1, q2⟩ := hus j t2 n2 h1 h2
            exact ⟨by rw [upd_ne q2]; exact same_new ht _ _ q1, q2⟩
          · subst c
            rw [List.getElem?_concat_length] at h1
            cases h1
            rw [hu, hn2] at h2
            cases h2
            exact ⟨by rw [upd_ne nt, upd_same]; rfl, nt⟩
          · rw [List.getElem?_eq_none (by rw [List.length_append, List.length_singleton]; omega)] at h1; cases h1
      · rintro H2 ⟨sm2, us, eD, hu, hus⟩
        rw [vl_len] at hu
        have kx : ∀ j t n, us[j]? = some t → (Wl.pre m)[j]? = some n → kOf H2 (.ref t) = ((Wl.dueT m n : Int), (n : Int)) := fun j t n h1 h2 => by
          have := (hus j t n h1 h2).1
          show (match H2 t with | some (.tup [.int x, .int y]) => (x, y) | _ => (0, 0)) = _
          rw [this]
        have at_ : ∀ j t, us[j]? = some t → ∃ n, (Wl.pre m)[j]? = some n := fun j t h => ⟨_, List.getElem?_eq_getElem (by rw [← hu]; exact (List.getElem?_eq_some_iff.mp h).1)⟩
        have exs : (us.map V.ref).map (fun y => (kOf H2 y).2.toNat) = Wl.pre m := by
          apply List.ext_getElem?
          intro j
          rw [List.getElem?_map, List.getElem?_map]
          cases e : us[j]? with
          | none =>
            rw [List.getElem?_eq_none (by rw [← hu]; exact List.getElem?_eq_none_iff.mp e)]; rfl
          | some t =>
            obtain ⟨n, hn2⟩ := at_ j t e
            rw [hn2]
            show some (kOf H2 (.ref t)).2.toNat = _
            rw [kx j t n e hn2]; rfl
        refine ⟨D2, _, kOf H2, rfl, SqL.of eD, fun v hv => ?_, fun ys p srtd stb hp => ?_⟩
        · obtain ⟨t, ht, rfl⟩ := List.mem_map.mp hv
          obtain ⟨j, hj⟩ := List.mem_iff_getElem?.mp ht
          obtain ⟨n, hn2⟩ := at_ j t hj
          refine ⟨t, rfl, ?_⟩
          rw [kx j t n hj hn2]
          exact (hus j t n hj hn2).1
        · have perm := stb.perm
          have ezs : ys.map (fun y => (kOf H2 y).2.toNat) = Wl.waitL m := by
            refine Wl.waitL_uniq ?_ ?_
            · have := perm.map (fun y => (kOf H2 y).2.toNat)
              rw [exs] at this; exact this
            · rw [List.pairwise_map]
              refine List.Pairwise.imp_of_mem ?_ srtd
              intro a b ha hb h
              have h2 := SrtO.lexB_no.mp h
              obtain ⟨t1, ht1, rfl⟩ := List.mem_map.mp (perm.mem_iff.mp ha)
              obtain ⟨j1, hj1⟩ := List.mem_iff_getElem?.mp ht1
              obtain ⟨n1, hn1⟩ := at_ j1 t1 hj1
              obtain ⟨t2, ht2, rfl⟩ := List.mem_map.mp (perm.mem_iff.mp hb)
              obtain ⟨j2, hj2⟩ := List.mem_iff_getElem?.mp ht2
              obtain ⟨n2, hn2⟩ := at_ j2 t2 hj2
              rw [kx j1 t1 n1 hj1 hn1, kx j2 t2 n2 hj2 hn2] at h2 ⊢
              unfold Wl.Ltw
              simp only [Int.toNat_natCast]
              simp only at h2
              omega
          have sm3 := same_new (o := .lst ys) hp
          have sm123 := (sm1.trans sm2).trans sm3
          refine ⟨p, rfl, ⟨_, SqL.of upd_same⟩, fun D3 hD3 => lcL hD3 (fun _ => true) (fun j => vn ((Wl.waitL m).getD j 0)) (SqL.of upd_same) ?_ (fun j v H3 Rt Rf hv sm r1 r2 => ?_) (fun H3 sm e3 => ?_)⟩
          · rw [perm.length_eq, List.length_map]; exact line_le (by omega)
          · have hv' := perm.mem_iff.mp (List.mem_of_getElem? hv)
            obtain ⟨t, ht, rfl⟩ := List.mem_map.mp hv'
            obtain ⟨j2, hj2⟩ := List.mem_iff_getElem?.mp ht
            obtain ⟨n, hn2⟩ := at_ j2 t hj2
            have ew : (Wl.waitL m)[j]? = some n := by
              rw [← ezs, List.getElem?_map, hv]
              show some (kOf H2 (.ref t)).2.toNat = _
              rw [kx j2 t n hj2 hn2]; rfl
            rw [getD_of ew] at r1
            exact ⟨t, _, rfl, SqT.of (sm _ _ (sm3 _ _ (hus j2 t n hj2 hn2).1)), rfl, _, _, rfl, _, _, rfl, rfl, rfl, _, rfl, r1 _ (Same.refl _) rfl⟩
          · have hlen : ys.length = (Wl.waitL m).length := by rw [← ezs, List.length_map]
            rw [rng_m (Wl.waitL m) 0 vn hlen, vl_map] at e3
            exact q _ D3 (sm123.trans sm) (Same.none_of sm123 hD3) e3
def sp_waiting_for (K : Frag) : Sp := fun vs H Q _ => ∃ (L : Lay) (m : La) (k : Nat) (x : Addr), vs = [.ref L.a, .ref x] ∧ At K H L m ∧ L.ms[k]? = some x ∧ m.things.length ≤ 150 ∧ (∀ i, i < m.things.length → (th m i).order < m.orders.length) ∧ ∀ H' p, Same H H' → H p = none → H' p = some (.lst (vl (Wl.chosenB m (mc m k).bears))) → Q (.ref p) H'
theorem ok_waiting_for (T : Txt K mg) (D_waiting : DefOk P w K mg base CX0 2 "waiting" P_waiting (sp_waiting K)) : DefOk P w K mg base CX0 3 "waiting_for" P_waiting_for (sp_waiting_for K) := by
  refine dok0 T (T.fd 21 (d := d_waiting_for) (st := s_waiting_for) (kp := T.keep "waiting_for")) (T.glo "waiting_for") sc_waiting_for (fun _ _ _ _ _ _ us hl => match us, hl with | [_, _], _ => rfl) ?len (fun cdv A outer s H vs Q E hr h => ⟨_, (pss_one (ps_ret (pe_slice sl_list (pe_lc (own := [("i", 2)]) (g := (gName 2)) rfl sc_waiting_for.nd (pi_list (pe_d D_waiting (hr.mono (by decide)) (by rfl) (pa_cons (pv 0) pa_nil))) (blkOk_by (N := N_waiting_for) (sc := defScope s_waiting_for) (by decide +kernel)) (fun _ _ _ _ _ => (pg_name (i := 2) sc_waiting_for.nd rfl (Or.inl rfl))) (fun _ _ _ _ _ => (pts_one (pt_cmpR op_le (pe_fldK K (pe_ix (ix_listK K) (pe_fldK K (pv 0)) (pv 2) (fun _ _ => rfl))) (pe_fldK K (pv 1)) (nomark _)))) (fun _ _ _ _ _ => (pv 2))) po_none (po_some (pe_i (i := 8) T (by rfl)))))), ?body⟩)
  case len => intro vs H Q E h; obtain ⟨L, m, k, x, rfl, A, hk, hn, ho, q⟩ := h; rfl
  case body =>
    obtain ⟨L, m, k, x, rfl, A, hk, hn, ho, q⟩ := h
    obtain ⟨dx, hla⟩ := A.la
    obtain ⟨dm, lm, pm, hm1, _⟩ := A.mac k x hk
    refine ⟨_, rfl, L, m, rfl, A, hn, ho, fun H1 p sm1 hp e1 => ⟨p, rfl, ⟨_, SqL.of e1⟩, fun D hD => lcL hD (fun j => decide ((th m ((Wl.waitL m).getD j 0)).weight ≤ (mc m k).bears)) (fun j => vn ((Wl.waitL m).getD j 0)) (SqL.of e1) (vl_small (Nat.le_trans (Wl.waitL_length m) hn) (by decide)) (fun j v H2 Rt Rf hv sm r1 r2 => ?_) (fun H2 sm e2 => ?_)⟩⟩
    · obtain ⟨i, hj, rfl⟩ := vl_get hv
      rw [getD_of hj] at r1 r2
      have hi := (Wl.waitL_mem (List.mem_of_getElem? hj)).1
      have s12 := sm1.trans sm
      obtain ⟨z, hz⟩ := A.ts_at hi
      obtain ⟨dt, lb, sg, t1, _⟩ := A.thi i z hz
      refine ⟨rfl, _, rfl, L.a, _, dx, _, _, rfl, s12 _ _ hla, cLaundry T, nLaundry_things T, rfl, _, rfl, L.lt, _, _, _, rfl, rfl, SqL.of (s12 _ _ A.ht), ix_ref hz, z, _, dt, _, _, rfl, s12 _ _ t1, cThing T, nThing_weight T, rfl, _, rfl, x, _, dm, _, _, rfl, s12 _ _ hm1, cMachine T, nMachine_bears T, rfl, _, _, rfl, rfl, _, rfl, ite_dec (fun c => ⟨_, rfl, r1 _ (Same.refl _) (decide_eq_true (by omega))⟩) (fun c => r2 _ (Same.refl _) (decide_eq_false (by omega)))⟩
    · rw [rng_fm (Wl.waitL m) 0 (fun i => decide ((th m i).weight ≤ (mc m k).bears)) vn (vl_len _), vl_map] at e2
      refine ⟨_, rfl, D, _, rfl, SqL.of e2, fun D3 hD3 => ?_⟩
      have s2 := sm1.trans sm
      refine q _ D3 (s2.trans (same_new hD3)) (Same.none_of s2 hD3) ?_
      rw [upd_same]
      show some (HO.lst (cutV (vl _) none (some ((8 : Nat) : Int)))) = _
      rw [cut_to, vl_take]; rfl
end
end Wt
end
section
set_option Elab.async false
set_option linter.all false
set_option maxRecDepth 100000
set_option maxHeartbeats 2000000
/-! # Loads: they run, they end -/
namespace Wt
open PySem PySem.Spec PyProof.Rows L2 Wr
open PySem.W (Frag)
open Wl (Lb Th Od Mc La Cl th od mc)
section
variable {P : Program} {w : World} {K : Frag} {mg : Str → Option Value} {base : Heap}
theorem more_some {H : Hp} {L : Lay} {p b : Addr} {r q : Role} {o : HO} (hp : H p = none) (hb : H b = some o) (h : L.role b = some q) : (L.more p r).role b = some q := by
  rw [more_ne (ne_of_none hb hp)]; exact h
theorem At.more_new {H : Hp} {L : Lay} {m : La} (A : At K H L m) {p : Addr} (hp : H p = none) (r : Role) : At K H (L.more p r) m :=
  { la := A.la, hm := A.hm, ho := A.ho, ht := A.ht, lms := A.lms, los := A.los, lts := A.lts
    mac := fun k x e => by
      obtain ⟨dx, l, q, h1, h2, h3, h4, h5, h6⟩ := A.mac k x e
      exact ⟨dx, l, q, h1, h2, h3, more_some hp h1 h4, more_some hp h2 h5, more_some hp h3 h6⟩
    ord := fun k x e => by
      obtain ⟨dx, l, h1, h2, h4, h5⟩ := A.ord k x e
      exact ⟨dx, l, h1, h2, more_some hp h1 h4, more_some hp h2 h5⟩
    thi := fun k x e => by
      obtain ⟨dx, lb, sg, h1, ⟨⟨d2, h2⟩, h3⟩, h4, h5, h6⟩ := A.thi k x e
      exact ⟨dx, lb, sg, h1, ⟨⟨d2, h2⟩, h3⟩, more_some hp h1 h4, more_some hp h2 h5, more_some hp h3 h6⟩
    ra := by obtain ⟨dx, h⟩ := A.la; exact more_some hp h A.ra
    rm := more_some hp A.hm A.rm, ro := more_some hp A.ho A.ro, rt := more_some hp A.ht A.rt }
theorem Frm.more {H H' : Hp} {L L' : Lay} (F : Frm H L H' L') {p : Addr} (hp : H' p = none) (r : Role) : Frm H L H' (L'.more p r) := fun b o e n => by
  obtain ⟨h1, h2⟩ := F b o e n
  exact ⟨h1, by rw [more_ne (ne_of_none h1 hp)]; exact h2⟩
theorem Frm.then_same {H H1 H2 : Hp} {L L' : Lay} (F : Frm H L H1 L') (s : Same H1 H2) : Frm H L H2 L' := fun b o e n => ⟨s _ _ (F b o e n).1, (F b o e n).2⟩
theorem Frm.then_but {H H1 H2 : Hp} {L L' : Lay} {q : Role} (F : Frm H L H1 L') (b : But L'.role q H1 H2) : Frm H L H2 L' := F.trans b.frm
def Kin (L L' : Lay) : Prop := ∃ r, L' = { L with role := r }
theorem Kin.refl (L : Lay) : Kin L L := ⟨L.role, rfl⟩
theorem Kin.more {L L' : Lay} (k : Kin L L') (p : Addr) (r : Role) : Kin L (L'.more p r) := by
  obtain ⟨r1, rfl⟩ := k
  exact ⟨_, rfl⟩
theorem Kin.trans {L L1 L2 : Lay} (a : Kin L L1) (b : Kin L1 L2) : Kin L L2 := by
  obtain ⟨r1, rfl⟩ := a
  obtain ⟨r2, rfl⟩ := b
  exact ⟨r2, rfl⟩
theorem mc_set1 {m : La} {k : Nat} {c : Mc} (h : k < m.machines.length) : mc { m with machines := m.machines.set k c } k = c := by
  have := Wl.getD_set (l := m.machines) (i := k) (j := k) (x := c) (d := Wl.noMc) h
  rw [if_pos rfl] at this; exact this
theorem modL_snoc (f : Th → Th) (l : List Nat) (i : Nat) (ts : List Th) : Wl.modL f (l ++ [i]) ts = (Wl.modL f l ts).set i (f ((Wl.modL f l ts).getD i Wl.noTh)) := by
  unfold Wl.modL
  rw [List.foldl_append]; rfl
theorem take_snoc {l : List Nat} {j i : Nat} (h : l[j]? = some i) : l.take (j + 1) = l.take j ++ [i] := by
  rw [List.take_add_one, h]; rfl
/-- nothing is gone -/
def Big (H H' : Hp) : Prop := ∀ p, H' p = none → H p = none
theorem Big.refl (H : Hp) : Big H H := fun _ h => h
theorem Big.trans {H H1 H2 : Hp} (a : Big H H1) (b : Big H1 H2) : Big H H2 := fun p h => a p (b p h)
theorem Big.of {H H' : Hp} (s : Same H H') : Big H H' := fun p h => Same.none_of s h
theorem Big.upd {H H' : Hp} {y : Addr} {o : HO} (b : Big H H') : Big H (upd H' y o) := fun p h => by
  by_cases c : p = y
  · rw [c, upd_same] at h; cases h
  · rw [upd_ne c] at h; exact b p h
def sp_empty (K : Frag) : Sp := fun vs H Q _ => ∃ (L : Lay) (m : La) (k : Nat) (x : Addr) (w : Bool), vs = [.ref L.a, .ref x, .bl w] ∧ At K H L m ∧ L.ms[k]? = some x ∧ (∀ i ∈ (mc m k).things, i < m.things.length) ∧ (mc m k).things.length ≤ 8 ∧
  ∀ H' L', At K H' L' (Wl.emptyL m k w) → Frm H L H' L' → Kin L L' → Big H H' → Q (vn (mc m k).things.length) H'
theorem ok_empty (T : Txt K mg)  : DefOk P w K mg base CX0 1 "empty" P_empty (sp_empty K) := by
  refine dok0 T (T.fd 25 (d := d_empty) (st := s_empty) (kp := T.keep "empty")) (T.glo "empty") sc_empty (fun _ _ _ _ _ _ us hl => match us, hl with | [_, _, _], _ => rfl) ?len (fun cdv A outer s H vs Q E hr h => ⟨_, (pss_cons (ps_set (i := 3) sc_empty.nd rfl (Or.inl rfl) (pe_fld (pv 1) rfl))
      (pss_cons (ps_for PassesOwn.never rfl (pi_list (pv 3)) (pg_name (i := 4) sc_empty.nd rfl (Or.inl rfl))
        (pss_cons (ps_set (i := 5) sc_empty.nd rfl (Or.inl rfl) (pe_ix ix_list (pe_fld (pv 0) rfl) (pv 4) (fun _ _ => rfl)))
        (pss_cons (ps_fld (pv 5) (pe_un un_neg pe_int) rfl)
        (pss_one (ps_fld (pv 5) (pv 2) rfl)))))
      (pss_cons (ps_fld (pv 1) (pe_lst pa_nil) rfl)
      (pss_one (ps_ret (pe_callB call_len_seq (by rfl) (T.free "len") PySem.boot_len (pa_cons (pv 3) pa_nil))))))), ?body⟩)
  case len => intro vs H Q E h; obtain ⟨L, m, k, x, w, rfl, A, hx, hi, hn, q⟩ := h; rfl
  case body =>
    obtain ⟨L, m, k, x, w, rfl, A, hx, hi, hn, q⟩ := h
    obtain ⟨dm, l, p, x1, x2, x3, r1, r2, r3⟩ := A.mac k x hx
    have hk : k < m.machines.length := by rw [← A.lms]; exact (List.getElem?_eq_some_iff.mp hx).1
    refine ⟨_, rfl, x, _, dm, _, _, rfl, x1, cMachine T, nMachine_things T, rfl, ?_⟩
    refine ⟨_, rfl, l, rfl, ⟨_, SqL.of x2⟩, for_list (xs := vl (mc m k).things) (fun j σ H' => (∃ u v, σ = [some (.ref L.a), some (.ref x), some (.bl w), some (.ref l), u, v]) ∧ At K H' L { m with things := Wl.modL (fun t => { t with mach := -1, washed := w }) ((mc m k).things.take j) m.things } ∧ Frm H L H' L ∧ H' x = some (.ins (He.ga K "Machine") dm (mcF l p (mc m k))) ∧ H' l = some (.lst (vl (mc m k).things)) ∧ H' p = some (.tup (vl (mc m k).prog)) ∧ Big H H') ⟨⟨_, _, rfl⟩, by rw [List.take_zero]; exact A, Frm.refl, x1, x2, x3, Big.refl H⟩ (fun j σ H' _ h => SqL.of h.2.2.2.2.1) ?_ ?_⟩
    · rintro j v σ H' hv ⟨⟨u, v', rfl⟩, A', F, y1, y2, y3, bg⟩
      obtain ⟨i, hj, rfl⟩ := vl_get hv
      have hi' := hi i (List.mem_of_getElem? hj)
      obtain ⟨dx, hla⟩ := A'.la
      obtain ⟨z, hz⟩ := A'.ts_at (i := i) (Nat.lt_of_lt_of_eq hi' (Wl.modL_length (fun t => { t with mach := -1, washed := w }) ((mc m k).things.take j) m.things).symm)
      obtain ⟨dt, lb, sg, t1, _⟩ := A'.thi i z hz
      obtain ⟨S1, S2⟩ := A'.setTh (t := { th { m with things := Wl.modL (fun t => { t with mach := -1, washed := w }) ((mc m k).things.take j) m.things } i with mach := -1, washed := w }) hz t1 rfl
      refine ⟨_, rfl, L.a, _, dx, _, _, rfl, hla, cLaundry T, nLaundry_things T, rfl, _, rfl, L.lt, _, _, _, rfl, rfl, SqL.of A'.ht, ix_ref hz, ?_⟩
      refine ⟨_, rfl, _, rfl, z, _, dt, _, rfl, t1, cThing T, nThing_machine T, (by show 8 < 1000; decide), ?_⟩
      refine ⟨_, rfl, _, rfl, z, _, dt, _, rfl, upd_same, cThing T, nThing_is_washed T, (by show 8 < 1000; decide), ?_⟩
      rw [upd_upd]
      refine ⟨⟨_, _, rfl⟩, ?_, F.then_but S2, S2 _ _ y1 (role_ne r1 (by simp)), S2 _ _ y2 (role_ne r2 (by simp)), S2 _ _ y3 (role_ne r3 (by simp)), bg.upd⟩
      rw [take_snoc hj, modL_snoc]
      exact S1
    · rintro σ H' ⟨⟨u, v', rfl⟩, A', F, y1, y2, y3, bg⟩
      rw [vl_len, List.take_length] at A'
      refine ⟨Nat.zero_le _, fun D hD => ?_⟩
      have A2 := (A'.more_new hD (.mth k)).same (same_new (o := .lst []) hD)
      have nx := ne_of_none y1 hD
      have np := ne_of_none y3 hD
      have nl := ne_of_none y2 hD
      obtain ⟨S1, S2⟩ := A2.setMc (c := { mc m k with things := [] }) (l := D) (p := p) hx (by rw [upd_ne nx]; exact y1) (by rw [upd_same]; rfl) (by rw [upd_ne np]; exact y3) more_same (by rw [more_ne np]; exact r3)
      refine ⟨_, rfl, x, _, dm, _, rfl, (upd_ne nx).trans y1, cMachine T, nMachine_things T, (by show 5 < 1000; decide), ?_⟩
      have el := S2 _ _ (same_new (o := .lst []) hD _ _ y2) (by rw [more_ne nl]; exact role_ne r2 (by simp))
      refine ⟨_, rfl, l, _, rfl, .inl (SqL.of el), ?_⟩
      rw [vl_len]
      exact q _ _ S1 (((F.more hD _).then_same (same_new hD)).then_but S2) ((Kin.refl L).more _ _) (Big.upd (bg.trans (Big.of (same_new hD))))
theorem tickS_succ (m : La) (t i : Nat) : Wl.tickS m t (i + 1) = Wl.tick1 t (Wl.tickS m t i) i := by
  unfold Wl.tickS
  rw [List.range_succ, List.foldl_append]; rfl
def sp_go_to (K : Frag) : Sp := fun vs H Q _ => ∃ (L : Lay) (m : La) (t : Nat), vs = [.ref L.a, vn t] ∧ At K H L m ∧ Wl.Inv m ∧ ∀ H' L', At K H' L' (Wl.tickS m t m.machines.length).1 → Frm H L H' L' → Kin L L' → Big H H' → Q (vn (Wl.tickS m t m.machines.length).2) H'
theorem ok_go_to (T : Txt K mg) (D_is_running : DefOk P w K mg base CX0 1 "is_running" P_is_running (sp_is_running K)) (D_empty : DefOk P w K mg base CX0 1 "empty" P_empty (sp_empty K)) : DefOk P w K mg base CX0 2 "go_to" P_go_to (sp_go_to K) := by
  refine dok0 T (T.fd 26 (d := d_go_to) (st := s_go_to) (kp := T.keep "go_to")) (T.glo "go_to") sc_go_to (fun _ _ _ _ _ _ us hl => match us, hl with | [_, _], _ => rfl) ?len (fun cdv A outer s H vs Q E hr h => ⟨_, (pss_cons (ps_fld (pv 0) (pv 1) rfl)
      (pss_cons (ps_set (i := 2) sc_go_to.nd rfl (Or.inl rfl) pe_int)
      (pss_cons (ps_for PassesOwn.never rfl (pi_list (pe_fld (pv 0) rfl)) (pg_name (i := 3) sc_go_to.nd rfl (Or.inl rfl))
        (pss_one (ps_if (PW.pt (pw_and (pt_val (pe_d D_is_running (hr.mono (by decide)) (by rfl) (pa_cons (pv 3) pa_nil))) (pw_and1 (pt_cmpR op_le (pe_fld (pv 3) rfl) (pv 1) (nomark _)))))
          (pss_one (ps_aug (i := 2) sc_go_to.nd rfl (Or.inl rfl) (pe_d D_empty (hr.mono (by decide)) (by rfl) (pa_cons (pv 0) (pa_cons (pv 3) (pa_cons pe_bl pa_nil)))) ip_add))
          pss_nil)))
      (pss_one (ps_ret (pv 2)))))), ?body⟩)
  case len => intro vs H Q E h; obtain ⟨L, m, t, rfl, A, I, q⟩ := h; rfl
  case body =>
    obtain ⟨L, m, t, rfl, A, I, q⟩ := h
    obtain ⟨dx, hla⟩ := A.la
    obtain ⟨S1, S2⟩ := A.setLa (now := t) (till := m.till) hla
    refine ⟨_, rfl, _, rfl, L.a, _, dx, _, rfl, hla, cLaundry T, nLaundry_now T, (by show 6 < 1000; decide), ?_⟩
    obtain ⟨dx1, hla1⟩ := S1.la
    have lms := A.lms
    refine ⟨_, rfl, L.a, _, dx1, _, _, rfl, hla1, cLaundry T, nLaundry_machines T, rfl, L.lm, rfl, ⟨_, SqL.of S1.hm⟩, for_list (xs := L.ms.map V.ref) (fun i σ H' => ∃ L' u, σ = [some (.ref L.a), some (vn t), some (vn (Wl.tickS m t i).2), u] ∧ At K H' L' (Wl.tickS m t i).1 ∧ Frm H L H' L' ∧ Kin L L' ∧ Big H H') ⟨L, _, rfl, S1, Frm.refl.then_but S2, Kin.refl L, Big.upd (Big.refl H)⟩ (fun i σ H' _ h => ?_) ?_ ?_⟩
    · obtain ⟨L', u, _, A', _, ⟨r, rfl⟩, _⟩ := h
      exact SqL.of A'.hm
    · rintro i v σ H' hv ⟨L', u, rfl, A', F, kin, bg⟩
      obtain ⟨x, hx, rfl⟩ := ref_get hv
      have hi : i < m.machines.length := by rw [← lms]; exact (List.getElem?_eq_some_iff.mp hx).1
      have Tk := Wl.tick_at I t i (Nat.le_of_lt hi)
      have hi2 : i < (Wl.tickS m t i).1.machines.length := by rw [Tk.len]; exact hi
      have hx' : L'.ms[i]? = some x := by obtain ⟨r, rfl⟩ := kin; exact hx
      have ea : L'.a = L.a := by obtain ⟨r, rfl⟩ := kin; rfl
      obtain ⟨dm, l, p, x1, x2, x3, r1, r2, r3⟩ := A'.mac i x hx'
      have ts := tickS_succ m t i
      refine ⟨_, rfl, x, dm, l, p, _, rfl, x1, x2, fun H1 s1 => ⟨_, rfl, ite_b (fun c => ?_) (fun c => if_f rfl ?_)⟩⟩
      · refine ⟨_, rfl, x, _, dm, _, _, rfl, s1 _ _ x1, cMachine T, nMachine_until T, rfl, _, rfl, _, _, rfl, rfl, _, rfl, ite_dec (fun c2 => ?_) (fun c2 => ?_)⟩
        · have hr : Wl.readyB (mc (Wl.tickS m t i).1 i) t = true := by
            unfold Wl.readyB
            rw [c, Bool.true_and]
            exact decide_eq_true (by omega)
          rw [Wl.tick1, if_pos hr] at ts
          have mi := Tk.inv.mc_ok i hi2
          refine ⟨_, rfl, _, rfl, _, rfl, L', (Wl.tickS m t i).1, i, x, true, by rw [ea]; rfl, A'.same s1, hx', fun j hj => (mi j hj).1, (Tk.inv.mc_pr _ (Wl.mc_mem hi2)).2.1, fun H2 L2 A2 F2 K2 B2 => ⟨_, _, rfl, rfl, L2, some (.ref x), ?_, ?_, (F.then_same s1).trans F2, kin.trans K2, (bg.trans (Big.of s1)).trans B2⟩⟩
          · rw [ts]
            show _ = [some (V.ref L.a), some (vn t), some (V.int (((Wl.tickS m t i).2 + (mc (Wl.tickS m t i).1 i).things.length : Nat) : Int)), some (.ref x)]
            rw [Int.natCast_add]; rfl
          · rw [ts]; exact A2
        · have hr : ¬ Wl.readyB (mc (Wl.tickS m t i).1 i) t = true := by
            unfold Wl.readyB
            rw [c, Bool.true_and, decide_eq_true_eq]
            omega
          rw [Wl.tick1, if_neg hr] at ts
          refine ⟨L', some (.ref x), ?_, ?_, F.then_same s1, kin, bg.trans (Big.of s1)⟩
          · rw [ts]; rfl
          · rw [ts]; exact A'.same s1
      · have hr : ¬ Wl.readyB (mc (Wl.tickS m t i).1 i) t = true := by
          unfold Wl.readyB
          rw [c]; simp
        rw [Wl.tick1, if_neg hr] at ts
        refine ⟨L', some (.ref x), ?_, ?_, F.then_same s1, kin, bg.trans (Big.of s1)⟩
        · rw [ts]; rfl
        · rw [ts]; exact A'.same s1
    · rintro σ H' ⟨L', u, rfl, A', F, kin, bg⟩
      rw [List.length_map, lms] at A'
      rw [List.length_map, lms]
      exact ⟨_, rfl, q _ _ A' F kin bg⟩
theorem Ths.of_at {H : Hp} {L : Lay} {m : La} (A : At K H L m) {l : List Nat} (hl : ∀ i ∈ l, i < m.things.length) : Ths K H (l.map fun i => L.ts.getD i 0) (l.map (th m)) := by
  refine ⟨by rw [List.length_map, List.length_map], fun j x t hx ht => ?_⟩
  rw [List.getElem?_map] at hx ht
  cases e : l[j]? with
  | none => rw [e] at hx; cases hx
  | some i =>
    rw [e] at hx ht
    obtain ⟨z, hz⟩ := A.ts_at (hl i (List.mem_of_getElem? e))
    have e1 : L.ts.getD i 0 = z := getD_of hz
    cases ht
    have hx' : L.ts.getD i 0 = x := Option.some.inj hx
    rw [e1] at hx'
    subst hx'
    exact (A.thi i z hz).th
def sp_run_load (K : Frag) : Sp := fun vs H Q _ => ∃ (L : Lay) (m : La) (k : Nat) (a : Addr) (l : List Nat) (h g b d : Nat), vs = [.ref L.a, vn k, .ref a] ∧ At K H L m ∧ k < m.machines.length ∧ H a = some (.lst (vl l)) ∧ L.role a = none ∧ l.length ≤ 8 ∧ l ≠ [] ∧ (∀ i ∈ l, i < m.things.length) ∧ (∀ t ∈ m.things, Wl.LbOk t.lb) ∧
  Wl.mildP (l.map (th m)) = [h, g, b, d] ∧ (h = 30 ∨ h = 40 ∨ h = 60 ∨ h = 95) ∧
  ∀ H' L', At K H' L' (Wl.runL m k l) → (∀ b o, H b = some o → L.role b = none → b ≠ a → H' b = some o ∧ L'.role b = none) → Kin L L' → Big H H' → Q .non H'
theorem ok_run_load (T : Txt K mg) (D_mildest : DefOk P w K mg base CX0 1 "mildest" P_mildest (sp_mildest K)) (D_minutes_of : DefOk P w K mg base CX0 1 "minutes_of" P_minutes_of (sp_minutes_of K)) : DefOk P w K mg base CX0 2 "run_load" P_run_load (sp_run_load K) := by
  refine dok0 T (T.fd 24 (d := d_run_load) (st := s_run_load) (kp := T.keep "run_load")) (T.glo "run_load") sc_run_load (fun _ _ _ _ _ _ us hl => match us, hl with | [_, _, _], _ => rfl) ?len (fun cdv A outer s H vs Q E hr h => ⟨_, (pss_cons (ps_set (i := 3) sc_run_load.nd rfl (Or.inl rfl) (pe_ix ix_list (pe_fld (pv 0) rfl) (pv 1) (fun _ _ => rfl)))
      (pss_cons (ps_fld (pv 3) (pv 2) rfl)
      (pss_cons (ps_fld (pv 3) (pe_d D_mildest (hr.mono (by decide)) (by rfl) (pa_cons (pe_lc (own := [("i", 4)]) (g := (gName 4)) rfl sc_run_load.nd (pi_list (pv 2)) (blkOk_by (N := N_run_load) (sc := defScope s_run_load) (by decide +kernel)) (fun _ _ _ _ _ => (pg_name (i := 4) sc_run_load.nd rfl (Or.inl rfl))) (fun _ _ _ _ _ => pts_nil) (fun _ _ _ _ _ => (pe_ix (ix_listK K) (pe_fldK K (pv 0)) (pv 4) (fun _ _ => rfl)))) pa_nil)) rfl)
      (pss_cons (ps_fld (pv 3) (pe_op op_add (pe_fld (pv 0) rfl) (pe_d D_minutes_of (hr.mono (by decide)) (by rfl) (pa_cons (pe_fld (pv 3) rfl) pa_nil))) rfl)
      (pss_one (ps_for PassesOwn.never rfl (pi_list (pv 2)) (pg_name (i := 4) sc_run_load.nd rfl (Or.inl rfl))
        (pss_cons (ps_set (i := 5) sc_run_load.nd rfl (Or.inl rfl) (pe_ix ix_list (pe_fld (pv 0) rfl) (pv 4) (fun _ _ => rfl)))
        (pss_one (ps_fld (pv 5) (pv 1) rfl))))))))), ?body⟩)
  case len => intro vs H Q E h; obtain ⟨L, m, k, a, l, h, g, b, d, rfl, A, hk, ha, na, hn, ne, hl, okl, hm, hh, q⟩ := h; rfl
  case body =>
    obtain ⟨L, m, k, a, l, h, g, b, d, rfl, A, hk, ha, na, hn, ne, hl, okl, hm, hh, q⟩ := h
    obtain ⟨dx, hla⟩ := A.la
    obtain ⟨x, hx⟩ := A.ms_at hk
    obtain ⟨dm, l0, p0, x1, x2, x3, r1, r2, r3⟩ := A.mac k x hx
    refine ⟨_, rfl, L.a, _, dx, _, _, rfl, hla, cLaundry T, nLaundry_machines T, rfl, _, rfl, L.lm, _, _, _, rfl, rfl, SqL.of A.hm, ix_ref hx, ?_⟩
    -- machine.things
    have A1 := A.more (r := .mth k) na
    have nax : x ≠ a := fun z => by rw [z, na] at r1; cases r1
    have nap : p0 ≠ a := fun z => by rw [z, na] at r3; cases r3
    obtain ⟨B1, B2⟩ := A1.setMc (c := { mc m k with things := l }) (l := a) (p := p0) hx x1 ha x3 more_same (by rw [more_ne nap]; exact r3)
    refine ⟨_, rfl, _, rfl, x, _, dm, _, rfl, x1, cMachine T, nMachine_things T, (by show 5 < 1000; decide), ?_⟩
    have ha1 := B2 _ _ ha (by rw [more_same]; simp)
    have F1 : ∀ b o, H b = some o → L.role b = none → b ≠ a → (upd H x (.ins (He.ga K "Machine") dm (mcF a p0 { mc m k with things := l }))) b = some o ∧ (L.more a (.mth k)).role b = none := fun b o e n nb => by
      have n2 : (L.more a (.mth k)).role b = none := by rw [more_ne nb]; exact n
      exact ⟨B2 _ _ e (by rw [n2]; simp), n2⟩
    have b1 : Big H (upd H x (.ins (He.ga K "Machine") dm (mcF a p0 { mc m k with things := l }))) := Big.upd (Big.refl H)
    generalize hH1 : upd H x (.ins (He.ga K "Machine") dm (mcF a p0 { mc m k with things := l })) = H1 at B1 B2 ha1 F1 b1
    have ex1 : H1 x = some (.ins (He.ga K "Machine") dm (mcF a p0 { mc m k with things := l })) := by rw [← hH1, upd_same]
    have hH1' : upd H x (.ins (He.ga K "Machine") dm (putF "things" (.ref a) (mcF l0 p0 (mc m k)))) = H1 := hH1
    rw [hH1']
    -- machine.program
    have T1 := Ths.of_at B1 (l := l) hl
    obtain ⟨dx1, hla1⟩ := B1.la
    refine ⟨_, rfl, a, rfl, ⟨_, SqL.of ha1⟩, fun D hD => lcL hD (fun _ => true) (fun j => V.ref (L.ts.getD (l.getD j 0) 0)) (SqL.of ha1) (vl_small hn (by decide)) (fun j v H2 Rt Rf hv sm r1 r2 => ?_) (fun H2 sm e2 => ?_)⟩
    · obtain ⟨i, hj, rfl⟩ := vl_get hv
      rw [getD_of hj] at r1
      obtain ⟨z, hz⟩ := B1.ts_at (hl i (List.mem_of_getElem? hj))
      have ez : L.ts.getD i 0 = z := getD_of hz
      rw [ez] at r1
      exact ⟨rfl, _, rfl, L.a, _, dx1, _, _, rfl, sm _ _ hla1, cLaundry T, nLaundry_things T, rfl, _, rfl, L.lt, _, _, _, rfl, rfl, SqL.of (sm _ _ B1.ht), ix_ref hz, r1 _ (Same.refl _) rfl⟩
    · rw [rng_m l 0 (fun i => V.ref (L.ts.getD i 0)) (vl_len _)] at e2
      have e2 : H2 D = some (.lst ((l.map fun i => L.ts.getD i 0).map V.ref)) := by rw [e2, List.map_map]; rfl
      refine ⟨D, _, _, rfl, SqL.of e2, T1.same sm, by rw [List.length_map]; omega, by simpa using ne, fun t ht => ?_, fun H3 p s3 hp e3 => ?_⟩
      · obtain ⟨i, hi, rfl⟩ := List.mem_map.mp ht
        exact okl _ (List.mem_of_getElem? (Wl.th_some (hl i hi)))
      · have e3 : H3 p = some (.tup (vl (Wl.mildP (l.map (th m))))) := e3
        have s13 := sm.trans s3
        have hp1 : H1 p = none := Same.none_of sm hp
        have A3 := (B1.more_new hp1 (.mpr k)).same s13
        have nxp := ne_of_none ex1 hp1
        have nap2 := ne_of_none ha1 hp1
        have mk1 : mc { m with machines := m.machines.set k { mc m k with things := l } } k = { mc m k with things := l } := mc_set1 hk
        obtain ⟨C1, C2⟩ := A3.setMc (k := k) (x := x) (dx := dm) (l0 := a) (p0 := p0) (c := { mc m k with things := l, prog := Wl.mildP (l.map (th m)) }) (l := a) (p := p) hx (by rw [mk1]; exact s13 _ _ ex1) (s13 _ _ ha1) e3 (by rw [more_ne nap2, more_same]) more_same
        refine ⟨_, rfl, x, _, dm, _, rfl, s13 _ _ ex1, cMachine T, nMachine_program T, (by show 5 < 1000; decide), ?_⟩
        have hC : upd H3 x (.ins (He.ga K "Machine") dm (putF "program" (.ref p) (mcF a p0 { mc m k with things := l }))) = upd H3 x (.ins (He.ga K "Machine") dm (mcF a p { mc m k with things := l, prog := Wl.mildP (l.map (th m)) })) := rfl
        rw [hC]
        have ea4 := C2 _ _ (s13 _ _ ha1) (by rw [more_ne nap2, more_same]; simp)
        have ep4 := C2 _ _ e3 (by rw [more_same]; simp)
        have F4 : ∀ b o, H b = some o → L.role b = none → b ≠ a → (upd H3 x (.ins (He.ga K "Machine") dm (mcF a p { mc m k with things := l, prog := Wl.mildP (l.map (th m)) }))) b = some o ∧ ((L.more a (.mth k)).more p (.mpr k)).role b = none := fun b o e n nb => by
          obtain ⟨f1, f2⟩ := F1 b o e n nb
          have n2 : ((L.more a (.mth k)).more p (.mpr k)).role b = none := by rw [more_ne (ne_of_none f1 hp1)]; exact f2
          exact ⟨C2 _ _ (s13 _ _ f1) (by rw [n2]; simp), n2⟩
        have b4 : Big H (upd H3 x (.ins (He.ga K "Machine") dm (mcF a p { mc m k with things := l, prog := Wl.mildP (l.map (th m)) }))) := Big.upd (b1.trans (Big.of s13))
        generalize hH4 : upd H3 x (.ins (He.ga K "Machine") dm (mcF a p { mc m k with things := l, prog := Wl.mildP (l.map (th m)) })) = H4 at C1 C2 ea4 ep4 F4 b4
        have ex4 : H4 x = some (.ins (He.ga K "Machine") dm (mcF a p { mc m k with things := l, prog := Wl.mildP (l.map (th m)) })) := by rw [← hH4, upd_same]
        obtain ⟨dx4, hla4⟩ := C1.la
        have hla4 : H4 L.a = some (.ins (He.ga K "Laundry") dx4 (laF L.lm L.lo L.lt m)) := hla4
        rw [hm] at ep4
        refine ⟨_, rfl, L.a, _, dx4, _, _, rfl, hla4, cLaundry T, nLaundry_now T, rfl, _, rfl, x, _, dm, _, _, rfl, ex4, cMachine T, nMachine_program T, rfl, p, h, g, b, d, rfl, ep4, hh, _, _, rfl, rfl, ?_⟩
        have e5 : V.int ((m.now : Int) + ((Wl.minP [h, g, b, d] : Nat) : Int)) = vn (m.now + Wl.minP [h, g, b, d]) := by rw [vn, Int.natCast_add]
        refine ⟨_, rfl, x, _, dm, _, rfl, ex4, cMachine T, nMachine_until T, (by show 5 < 1000; decide), ?_⟩
        have hE : upd H4 x (.ins (He.ga K "Machine") dm (putF "until" (V.int ((m.now : Int) + ((Wl.minP [h, g, b, d] : Nat) : Int))) (mcF a p { mc m k with things := l, prog := Wl.mildP (l.map (th m)) }))) = upd H4 x (.ins (He.ga K "Machine") dm (mcF a p { mc m k with things := l, prog := Wl.mildP (l.map (th m)), till := m.now + Wl.minP (Wl.mildP (l.map (th m))) })) := by
          rw [e5, hm]; rfl
        have mk2 : mc { m with machines := (m.machines.set k { mc m k with things := l }).set k { mc m k with things := l, prog := Wl.mildP (l.map (th m)) } } k = { mc m k with things := l, prog := Wl.mildP (l.map (th m)) } := mc_set1 (m := { m with machines := m.machines.set k { mc m k with things := l } }) (by show k < (m.machines.set k _).length; rw [List.length_set]; exact hk)
        obtain ⟨E1, E2⟩ := C1.setMc (k := k) (x := x) (dx := dm) (l0 := a) (p0 := p) (c := { mc m k with things := l, prog := Wl.mildP (l.map (th m)), till := m.now + Wl.minP (Wl.mildP (l.map (th m))) }) (l := a) (p := p) hx (by rw [ex4]; exact congrArg _ (congrArg _ (congrArg _ mk2.symm))) ea4 (by rw [hm]; exact ep4) (by rw [more_ne nap2, more_same]) more_same
        have ea5 := E2 _ _ ea4 (by rw [more_ne nap2, more_same]; simp)
        have F5 : ∀ b o, H b = some o → L.role b = none → b ≠ a → (upd H4 x (.ins (He.ga K "Machine") dm (mcF a p { mc m k with things := l, prog := Wl.mildP (l.map (th m)), till := m.now + Wl.minP (Wl.mildP (l.map (th m))) }))) b = some o ∧ ((L.more a (.mth k)).more p (.mpr k)).role b = none := fun b o e n nb => by
          obtain ⟨f1, f2⟩ := F4 b o e n nb
          exact ⟨E2 _ _ f1 (by rw [f2]; simp), f2⟩
        rw [hE]
        have b5 : Big H (upd H4 x (.ins (He.ga K "Machine") dm (mcF a p { mc m k with things := l, prog := Wl.mildP (l.map (th m)), till := m.now + Wl.minP (Wl.mildP (l.map (th m))) }))) := Big.upd b4
        generalize hH5 : upd H4 x (.ins (He.ga K "Machine") dm (mcF a p { mc m k with things := l, prog := Wl.mildP (l.map (th m)), till := m.now + Wl.minP (Wl.mildP (l.map (th m))) })) = H5 at E1 E2 ea5 F5 b5
        have E1 : At K H5 ((L.more a (.mth k)).more p (.mpr k)) { m with machines := m.machines.set k { mc m k with things := l, prog := Wl.mildP (l.map (th m)), till := m.now + Wl.minP (Wl.mildP (l.map (th m))) } } := by
          simp only [List.set_set] at E1
          exact E1
        refine ⟨_, rfl, a, rfl, ⟨_, SqL.of ea5⟩, for_list (xs := vl l) (fun j σ H' => (∃ u v, σ = [some (.ref L.a), some (vn k), some (.ref a), some (.ref x), u, v]) ∧ At K H' ((L.more a (.mth k)).more p (.mpr k)) { m with things := Wl.modL (fun t => { t with mach := (k : Int) }) (l.take j) m.things, machines := m.machines.set k { mc m k with things := l, prog := Wl.mildP (l.map (th m)), till := m.now + Wl.minP (Wl.mildP (l.map (th m))) } } ∧ Frm H5 ((L.more a (.mth k)).more p (.mpr k)) H' ((L.more a (.mth k)).more p (.mpr k)) ∧ H' a = some (.lst (vl l)) ∧ Big H H') ⟨⟨_, _, rfl⟩, by rw [List.take_zero]; exact E1, Frm.refl, ea5, b5⟩ (fun j σ H' _ h => SqL.of h.2.2.2.1) ?_ ?_⟩
        · rintro j v σ H' hv ⟨⟨u, v', rfl⟩, A', F, ya, bg⟩
          obtain ⟨i, hj, rfl⟩ := vl_get hv
          have hi' := hl i (List.mem_of_getElem? hj)
          obtain ⟨dx, hla⟩ := A'.la
          obtain ⟨z, hz⟩ := A'.ts_at (i := i) (Nat.lt_of_lt_of_eq hi' (Wl.modL_length (fun t => { t with mach := (k : Int) }) (l.take j) m.things).symm)
          obtain ⟨dt, lb, sg, t1, _⟩ := A'.thi i z hz
          obtain ⟨S1, S2⟩ := A'.setTh (t := { th { m with things := Wl.modL (fun t => { t with mach := (k : Int) }) (l.take j) m.things } i with mach := (k : Int) }) hz t1 rfl
          refine ⟨_, rfl, L.a, _, dx, _, _, rfl, hla, cLaundry T, nLaundry_things T, rfl, _, rfl, L.lt, _, _, _, rfl, rfl, SqL.of A'.ht, ix_ref hz, ?_⟩
          refine ⟨_, rfl, _, rfl, z, _, dt, _, rfl, t1, cThing T, nThing_machine T, (by show 8 < 1000; decide), ?_⟩
          refine ⟨⟨_, _, rfl⟩, ?_, F.then_but S2, S2 _ _ ya (by rw [more_ne nap2, more_same]; simp), bg.upd⟩
          rw [take_snoc hj, modL_snoc]
          exact S1
        · rintro σ H' ⟨⟨u, v', rfl⟩, A', F, ya, bg⟩
          rw [vl_len, List.take_length] at A'
          exact q _ _ A' (fun b o e n nb => by obtain ⟨f1, f2⟩ := F5 b o e n nb; exact F b o f1 f2) (((Kin.refl L).more _ _).more _ _) bg
end
end Wt
end
section
set_option Elab.async false
set_option linter.all false
set_option maxRecDepth 100000
set_option maxHeartbeats 2000000
/-! # A machine's plan; what the calls ask -/
namespace Wt
open PySem PySem.Spec PyProof.Rows L2 Wr
open PySem.W (Frag)
open Wl (Lb Th Od Mc La Cl Out th od mc)
section
variable {P : Program} {w : World} {K : Frag} {mg : Str → Option Value} {base : Heap}
def PairsAt (H : Hp) (ts : List Addr) (l : List (Nat × Nat)) : Prop := ts.length = l.length ∧ ∀ (j : Nat) (t : Addr) (u : Nat × Nat), ts[j]? = some t → l[j]? = some u → H t = some (.tup [vn u.1, vn u.2])
theorem PairsAt.same {H H' : Hp} {ts : List Addr} {l : List (Nat × Nat)} (h : PairsAt H ts l) (s : Same H H') : PairsAt H' ts l := ⟨h.1, fun j t u a b => s _ _ (h.2 j t u a b)⟩
def sp_plan_of (K : Frag) : Sp := fun vs H Q _ => ∃ (L : Lay) (m : La) (k : Nat) (x : Addr) (n : Nat) (a : List Nat), vs = [.ref L.a, .ref x] ∧ At K H L m ∧ L.ms[k]? = some x ∧ Wl.Inv m ∧ Wl.planB m (mc m k).bears = some (n, a) ∧
  ∀ H' p ts, Same H H' → H p = none → (∀ t ∈ ts, H t = none ∧ t ≠ p) → H' p = some (.lst (ts.map V.ref)) → PairsAt H' ts ((Wl.chosenB m (mc m k).bears).zip a) → Q (.ref p) H'
theorem ok_plan_of (T : Txt K mg) (D_waiting_for : DefOk P w K mg base CX0 3 "waiting_for" P_waiting_for (sp_waiting_for K)) (D_shared_out : DefOk P w K mg base CX0 6 "shared_out" P_shared_out (sp_shared_out K)) : DefOk P w K mg base CX0 7 "plan_of" P_plan_of (sp_plan_of K) := by
  refine dok0 T (T.fd 22 (d := d_plan_of) (st := s_plan_of) (kp := T.keep "plan_of")) (T.glo "plan_of") sc_plan_of (fun _ _ _ _ _ _ us hl => match us, hl with | [_, _], _ => rfl) ?len (fun cdv A outer s H vs Q E hr h => ⟨_, (pss_cons (ps_set (i := 2) sc_plan_of.nd rfl (Or.inl rfl) (pe_d D_waiting_for (hr.mono (by decide)) (by rfl) (pa_cons (pv 0) (pa_cons (pv 1) pa_nil))))
      (pss_cons (ps_set (i := 3) sc_plan_of.nd rfl (Or.inl rfl) (pe_d D_shared_out (hr.mono (by decide)) (by rfl) (pa_cons (pe_lc (own := [("i", 4)]) (g := (gName 4)) rfl sc_plan_of.nd (pi_list (pv 2)) (blkOk_by (N := N_plan_of) (sc := defScope s_plan_of) (by decide +kernel)) (fun _ _ _ _ _ => (pg_name (i := 4) sc_plan_of.nd rfl (Or.inl rfl))) (fun _ _ _ _ _ => pts_nil) (fun _ _ _ _ _ => (pe_ix (ix_listK K) (pe_fldK K (pv 0)) (pv 4) (fun _ _ => rfl)))) (pa_cons (pe_fld (pv 1) rfl) pa_nil))))
      (pss_one (ps_ret (pe_listZip (by rfl) (T.free "list") (by rfl) (T.free "zip") (pa_cons (pv 2) (pa_cons (pv 3) pa_nil))))))), ?body⟩)
  case len => intro vs H Q E h; obtain ⟨L, m, k, x, n, a, rfl, A, hx, I, hpl, q⟩ := h; rfl
  case body =>
    obtain ⟨L, m, k, x, n, a, rfl, A, hx, I, hpl, q⟩ := h
    obtain ⟨dm, lm, pm, x1, _⟩ := A.mac k x hx
    obtain ⟨dx, hla⟩ := A.la
    have hc8 := Wl.chosenB_length m (mc m k).bears
    have hcm : ∀ i ∈ Wl.chosenB m (mc m k).bears, i < m.things.length := fun i hi => (Wl.chosenB_mem hi).1
    refine ⟨_, rfl, _, rfl, L, m, k, x, rfl, A, hx, I.ths, fun i hi => Wl.th_order I hi, fun H1 p1 s1 hp1 e1 => ?_⟩
    refine ⟨_, rfl, p1, rfl, ⟨_, SqL.of e1⟩, fun D hD => lcL hD (fun _ => true) (fun j => V.ref (L.ts.getD ((Wl.chosenB m (mc m k).bears).getD j 0) 0)) (SqL.of e1) (vl_small hc8 (by decide)) (fun j v H2 Rt Rf hv sm r1 r2 => ?_) (fun H2 sm e2 => ?_)⟩
    · obtain ⟨i, hj, rfl⟩ := vl_get hv
      rw [getD_of hj] at r1
      obtain ⟨z, hz⟩ := A.ts_at (hcm i (List.mem_of_getElem? hj))
      have ez : L.ts.getD i 0 = z := getD_of hz
      rw [ez] at r1
      have s2 := s1.trans sm
      exact ⟨rfl, _, rfl, L.a, _, dx, _, _, rfl, s2 _ _ hla, cLaundry T, nLaundry_things T, rfl, _, rfl, L.lt, _, _, _, rfl, rfl, SqL.of (s2 _ _ A.ht), ix_ref hz, r1 _ (Same.refl _) rfl⟩
    · rw [rng_m (Wl.chosenB m (mc m k).bears) 0 (fun i => V.ref (L.ts.getD i 0)) (vl_len _)] at e2
      have e2 : H2 D = some (.lst (((Wl.chosenB m (mc m k).bears).map fun i => L.ts.getD i 0).map V.ref)) := by rw [e2, List.map_map]; rfl
      have s2 := s1.trans sm
      have ew : wayOf (mc m k).bears ((Wl.chosenB m (mc m k).bears).map (th m)) = a := by
        unfold wayOf
        have e : ((Wl.chosenB m (mc m k).bears).map (th m)).map Wl.pieceT = Wl.piecesB m (Wl.chosenB m (mc m k).bears) := by rw [List.map_map]; rfl
        rw [e, show Kyk2.best (mc m k).bears (Wl.piecesB m (Wl.chosenB m (mc m k).bears)) = some (n, a) from hpl]; rfl
      have la : (Wl.chosenB m (mc m k).bears).length ≤ a.length := by
        by_cases z : Wl.chosenB m (mc m k).bears = []
        · rw [z]; exact Nat.zero_le _
        · have := (Wl.best_spec (l := Wl.piecesB m (Wl.chosenB m (mc m k).bears)) (by unfold Wl.piecesB; simpa using z) hpl).1
          rw [this]
          unfold Wl.piecesB
          rw [List.length_map]; exact Nat.le_refl _
      refine ⟨_, rfl, x, _, dm, _, _, rfl, s2 _ _ x1, cMachine T, nMachine_bears T, rfl, D, (mc m k).bears, _, _, rfl, SqL.of e2, Ths.of_at (A.same s2) hcm, by rw [List.length_map]; exact hc8, fun t ht => ?_, fun H3 p3 s3 hp3 e3 => ?_⟩
      · obtain ⟨i, hi, rfl⟩ := List.mem_map.mp ht
        have ok := (I.th_ok _ (List.mem_of_getElem? (Wl.th_some (hcm i hi)))).1
        exact ⟨ok.lb, ok.runs⟩
      · rw [ew] at e3
        have s13 := sm.trans s3
        refine ⟨_, rfl, _, rfl, p1, p3, _, _, rfl, SqL.of (s13 _ _ e1), SqT.of e3, by rw [vl_len, vl_len]; exact la, fun H' p ts s4 hp hts hl e4 h4 => ?_⟩
        have s := s1.trans s13
        refine q H' p ts (s.trans s4) (Same.none_of s hp) (fun t ht => ⟨Same.none_of s (hts t ht).1, (hts t ht).2⟩) e4 ⟨?_, fun j t u h1 h2 => ?_⟩
        · rw [hl, vl_len, List.length_zip, Nat.min_eq_left la]
        · obtain ⟨g1, g2⟩ := List.getElem?_zip_eq_some.mp h2
          exact h4 j t _ _ h1 (vl_at g1) (vl_at g2)
/-- what a call of the laundry comes to -/
def Ans (K : Frag) (H : Hp) (L : Lay) (r : Out) (Q : VK) (E : XK) : Prop := match r with
  | .no n => ∀ (H' : Hp) (d : Addr), Same H H' → H d = none → H' d = some (.xd [("number", .int n)]) → E (.ref (aRef K)) (some d) H'
  | .yes m' out => ∀ (H' : Hp) (L' : Lay) (p : Addr), At K H' L' m' → L'.a = L.a → Frm H L H' L' → H p = none → H' p = some (.lst (out.map V.int)) → Q (.ref p) H'
/-- an ask after some turns -/
theorem askg {H H1 : Hp} {b : Bool} {n : Int} {E : XK} {A : Prop} (s : Same H H1) (h1 : b = true → A) (h2 : b = false → ∀ (H' : Hp) (d : Addr), Same H H' → H d = none → H' d = some (.xd [("number", .int n)]) → E (.ref (aRef K)) (some d) H') :
    (b = true → A) ∧ (b = false → ∀ (H' : Hp) (d : Addr), Same H1 H' → H1 d = none → H' d = some (.xd [("number", .int n)]) → E (.ref (aRef K)) (some d) H') :=
  ⟨h1, fun hb H' d s' hd e => h2 hb H' d (s.trans s') (Same.none_of s hd) e⟩
theorem askn {H H1 : Hp} {n : Int} {E : XK} {A : Prop} (s : Same H H1) (h2 : ∀ (H' : Hp) (d : Addr), Same H H' → H d = none → H' d = some (.xd [("number", .int n)]) → E (.ref (aRef K)) (some d) H') :
    (false = true → A) ∧ (false = false → ∀ (H' : Hp) (d : Addr), Same H1 H' → H1 d = none → H' d = some (.xd [("number", .int n)]) → E (.ref (aRef K)) (some d) H') :=
  askg s (fun h => nomatch h) fun _ => h2
theorem askd {H H1 : Hp} {p : Prop} [Decidable p] {n : Int} {E : XK} {A : Prop} (s : Same H H1) (h1 : p → A) (h2 : ¬ p → ∀ (H' : Hp) (d : Addr), Same H H' → H d = none → H' d = some (.xd [("number", .int n)]) → E (.ref (aRef K)) (some d) H') :
    (decide p = true → A) ∧ (decide p = false → ∀ (H' : Hp) (d : Addr), Same H1 H' → H1 d = none → H' d = some (.xd [("number", .int n)]) → E (.ref (aRef K)) (some d) H') :=
  askg s (fun c => h1 (of_decide_eq_true c)) fun c => h2 (of_decide_eq_false c)
def sp_order_at (K : Frag) : Sp := fun vs H Q E => ∃ (L : Lay) (m : La) (o : Nat), vs = [.ref L.a, vn o] ∧ At K H L m ∧ (m.orders.length ≤ o → ∀ (H' : Hp) (d : Addr), Same H H' → H d = none → H' d = some (.xd [("number", .int (-2))]) → E (.ref (aRef K)) (some d) H') ∧ ∀ x, L.os[o]? = some x → Q (.ref x) H
theorem ok_order_at (T : Txt K mg) (D_ask : DefOk P w K mg base (L2.CX P w) 3 "ask" P_ask (sp_ask K)) : DefOk P w K mg base (L2.CX P w) 4 "order_at" P_order_at (sp_order_at K) := by
  refine dokX T (T.fd 31 (d := d_order_at) (st := s_order_at) (kp := T.keep "order_at")) (T.glo "order_at") sc_order_at (fun _ _ _ _ _ _ us hl => match us, hl with | [_, _], _ => rfl) ?len (fun cdv A outer s H vs Q E hr h => ⟨_, (pss_cons (ps_expr (pe_dx D_ask (hr.mono (by decide)) (by rfl) (takes_of rfl rfl rfl rfl) (pa_cons (pe_cmpR op_lt (pv 1) (pe_callB call_len_seq (by rfl) (T.free "len") PySem.boot_len (pa_cons (pe_fld (pv 0) rfl) pa_nil)) (nomark _)) (pa_cons (pe_un un_neg pe_int) pa_nil))))
      (pss_one (ps_ret (pe_ix ix_list (pe_fld (pv 0) rfl) (pv 1) (fun _ _ => rfl))))), ?body⟩)
  case len => intro vs H Q E h; obtain ⟨L, m, o, rfl, A, q1, q2⟩ := h; rfl
  case body =>
    obtain ⟨L, m, o, rfl, A, q1, q2⟩ := h
    obtain ⟨dx, hla⟩ := A.la
    have lo := A.los
    refine ⟨_, rfl, _, rfl, L.a, _, dx, _, _, rfl, hla, cLaundry T, nLaundry_orders T, rfl, L.lo, _, rfl, .inl (SqL.of A.ho), _, _, rfl, rfl, _, rfl, _, _, rfl, askd (Same.refl _) (fun c => ?_) (fun c => q1 (by rw [List.length_map] at c; omega))⟩
    rw [List.length_map] at c
    have hx : L.os[o]? = some (L.os[o]'(by omega)) := List.getElem?_eq_getElem (by omega)
    exact ⟨_, rfl, L.a, _, dx, _, _, rfl, hla, cLaundry T, nLaundry_orders T, rfl, _, rfl, L.lo, _, _, _, rfl, rfl, SqL.of A.ho, ix_ref hx, q2 _ hx⟩
def sp_machine_at (K : Frag) : Sp := fun vs H Q E => ∃ (L : Lay) (m : La) (o : Nat), vs = [.ref L.a, vn o] ∧ At K H L m ∧ (m.machines.length ≤ o → ∀ (H' : Hp) (d : Addr), Same H H' → H d = none → H' d = some (.xd [("number", .int (-2))]) → E (.ref (aRef K)) (some d) H') ∧ ∀ x, L.ms[o]? = some x → Q (.ref x) H
theorem ok_machine_at (T : Txt K mg) (D_ask : DefOk P w K mg base (L2.CX P w) 3 "ask" P_ask (sp_ask K)) : DefOk P w K mg base (L2.CX P w) 4 "machine_at" P_machine_at (sp_machine_at K) := by
  refine dokX T (T.fd 32 (d := d_machine_at) (st := s_machine_at) (kp := T.keep "machine_at")) (T.glo "machine_at") sc_machine_at (fun _ _ _ _ _ _ us hl => match us, hl with | [_, _], _ => rfl) ?len (fun cdv A outer s H vs Q E hr h => ⟨_, (pss_cons (ps_expr (pe_dx D_ask (hr.mono (by decide)) (by rfl) (takes_of rfl rfl rfl rfl) (pa_cons (pe_cmpR op_lt (pv 1) (pe_callB call_len_seq (by rfl) (T.free "len") PySem.boot_len (pa_cons (pe_fld (pv 0) rfl) pa_nil)) (nomark _)) (pa_cons (pe_un un_neg pe_int) pa_nil))))
      (pss_one (ps_ret (pe_ix ix_list (pe_fld (pv 0) rfl) (pv 1) (fun _ _ => rfl))))), ?body⟩)
  case len => intro vs H Q E h; obtain ⟨L, m, o, rfl, A, q1, q2⟩ := h; rfl
  case body =>
    obtain ⟨L, m, o, rfl, A, q1, q2⟩ := h
    obtain ⟨dx, hla⟩ := A.la
    have lo := A.lms
    refine ⟨_, rfl, _, rfl, L.a, _, dx, _, _, rfl, hla, cLaundry T, nLaundry_machines T, rfl, L.lm, _, rfl, .inl (SqL.of A.hm), _, _, rfl, rfl, _, rfl, _, _, rfl, askd (Same.refl _) (fun c => ?_) (fun c => q1 (by rw [List.length_map] at c; omega))⟩
    rw [List.length_map] at c
    have hx : L.ms[o]? = some (L.ms[o]'(by omega)) := List.getElem?_eq_getElem (by omega)
    exact ⟨_, rfl, L.a, _, dx, _, _, rfl, hla, cLaundry T, nLaundry_machines T, rfl, _, rfl, L.lm, _, _, _, rfl, rfl, SqL.of A.hm, ix_ref hx, q2 _ hx⟩
def sp_thing_at (K : Frag) : Sp := fun vs H Q E => ∃ (L : Lay) (m : La) (o : Nat), vs = [.ref L.a, vn o] ∧ At K H L m ∧ (m.things.length ≤ o → ∀ (H' : Hp) (d : Addr), Same H H' → H d = none → H' d = some (.xd [("number", .int (-2))]) → E (.ref (aRef K)) (some d) H') ∧ ∀ x, L.ts[o]? = some x → Q (.ref x) H
theorem ok_thing_at (T : Txt K mg) (D_ask : DefOk P w K mg base (L2.CX P w) 3 "ask" P_ask (sp_ask K)) : DefOk P w K mg base (L2.CX P w) 4 "thing_at" P_thing_at (sp_thing_at K) := by
  refine dokX T (T.fd 33 (d := d_thing_at) (st := s_thing_at) (kp := T.keep "thing_at")) (T.glo "thing_at") sc_thing_at (fun _ _ _ _ _ _ us hl => match us, hl with | [_, _], _ => rfl) ?len (fun cdv A outer s H vs Q E hr h => ⟨_, (pss_cons (ps_expr (pe_dx D_ask (hr.mono (by decide)) (by rfl) (takes_of rfl rfl rfl rfl) (pa_cons (pe_cmpR op_lt (pv 1) (pe_callB call_len_seq (by rfl) (T.free "len") PySem.boot_len (pa_cons (pe_fld (pv 0) rfl) pa_nil)) (nomark _)) (pa_cons (pe_un un_neg pe_int) pa_nil))))
      (pss_one (ps_ret (pe_ix ix_list (pe_fld (pv 0) rfl) (pv 1) (fun _ _ => rfl))))), ?body⟩)
  case len => intro vs H Q E h; obtain ⟨L, m, o, rfl, A, q1, q2⟩ := h; rfl
  case body =>
    obtain ⟨L, m, o, rfl, A, q1, q2⟩ := h
    obtain ⟨dx, hla⟩ := A.la
    have lo := A.lts
    refine ⟨_, rfl, _, rfl, L.a, _, dx, _, _, rfl, hla, cLaundry T, nLaundry_things T, rfl, L.lt, _, rfl, .inl (SqL.of A.ht), _, _, rfl, rfl, _, rfl, _, _, rfl, askd (Same.refl _) (fun c => ?_) (fun c => q1 (by rw [List.length_map] at c; omega))⟩
    rw [List.length_map] at c
    have hx : L.ts[o]? = some (L.ts[o]'(by omega)) := List.getElem?_eq_getElem (by omega)
    exact ⟨_, rfl, L.a, _, dx, _, _, rfl, hla, cLaundry T, nLaundry_things T, rfl, _, rfl, L.lt, _, _, _, rfl, rfl, SqL.of A.ht, ix_ref hx, q2 _ hx⟩
end
end Wt
end
section
set_option Elab.async false
set_option linter.all false
set_option maxRecDepth 100000
set_option maxHeartbeats 2000000
/-! # The calls that change something -/
namespace Wt
open PySem PySem.Spec PyProof.Rows L2 Wr
open PySem.W (Frag)
open Wl (Lb Th Od Mc La Cl Out th od mc)
section
variable {P : Program} {w : World} {K : Frag} {mg : Str → Option Value} {base : Heap}
theorem Ans.no {H : Hp} {L : Lay} {n : Int} {Q : VK} {E : XK} (q : Ans K H L (.no n) Q E) : ∀ (H' : Hp) (d : Addr), Same H H' → H d = none → H' d = some (.xd [("number", .int n)]) → E (.ref (aRef K)) (some d) H' := q
theorem Ans.yes {H : Hp} {L : Lay} {m' : La} {out : List Int} {Q : VK} {E : XK} (q : Ans K H L (.yes m' out) Q E) : ∀ (H' : Hp) (L' : Lay) (p : Addr), At K H' L' m' → L'.a = L.a → Frm H L H' L' → H p = none → H' p = some (.lst (out.map V.int)) → Q (.ref p) H' := q
/-- an answer that is a new list -/
theorem Ans.give {H H1 : Hp} {L L1 : Lay} {m' : La} {out : List Int} {Q : VK} {E : XK} (q : Ans K H L (.yes m' out) Q E) (A : At K H1 L1 m') (F : Frm H L H1 L1) (k : ∀ p, H1 p = none → H p = none) (hla : L1.a = L.a := by rfl) : ∀ p, H1 p = none → Q (.ref p) (upd H1 p (.lst (out.map V.int))) :=
  fun p hp => q _ _ p (A.same (same_new hp)) hla (F.then_same (same_new hp)) (k p hp) upd_same
theorem At.addOd {H : Hp} {L : Lay} {m : La} (A : At K H L m) {x l dx : Addr} {c : Od} (ex : H x = some (.ins (He.ga K "Order") dx (odF l c))) (el : H l = some (.lst (vl c.things))) (rx : L.role x = some (.ord m.orders.length)) (rl : L.role l = some (.oth m.orders.length)) :
    At K (upd H L.lo (.lst ((L.os ++ [x]).map V.ref))) { L with os := L.os ++ [x] } { m with orders := m.orders ++ [c] } ∧ But L.role .lo H (upd H L.lo (.lst ((L.os ++ [x]).map V.ref))) := by
  have b : But L.role .lo H (upd H L.lo (.lst ((L.os ++ [x]).map V.ref))) := But.upd A.ro
  refine ⟨{ la := ?_, hm := b _ _ A.hm (role_ne A.rm (by simp)), ho := upd_same, ht := b _ _ A.ht (role_ne A.rt (by simp)), lms := A.lms, los := ?_, lts := A.lts, mac := fun k y e => A.mac_but b e (by simp) (by simp) (by simp), ord := ?_, thi := fun k y e => A.thi_but b e (by simp) (by simp) (by simp), ra := A.ra, rm := A.rm, ro := A.ro, rt := A.rt }, b⟩
  · obtain ⟨d, q⟩ := A.la
    exact ⟨d, b _ _ q (role_ne A.ra (by simp))⟩
  · show (L.os ++ [x]).length = (m.orders ++ [c]).length
    rw [List.length_append, List.length_append, A.los]; rfl
  · intro o y e
    have e : (L.os ++ [x])[o]? = some y := e
    rcases Nat.lt_trichotomy o L.os.length with z | z | z
    · rw [List.getElem?_append_left z] at e
      have : od { m with orders := m.orders ++ [c] } o = od m o := Wl.od_app (by rw [← A.los]; exact z)
      rw [this]
      exact A.ord_but b e (by simp) (by simp)
    · subst z
      rw [List.getElem?_concat_length] at e
      cases e
      have : od { m with orders := m.orders ++ [c] } L.os.length = c := by rw [A.los]; exact Wl.od_app_new
      rw [this]
      refine ⟨dx, l, b _ _ ex (role_ne rx (by simp)), b _ _ el (role_ne rl (by simp)), ?_, ?_⟩
      · rw [A.los]; exact rx
      · rw [A.los]; exact rl
    · rw [List.getElem?_eq_none (by rw [List.length_append, List.length_singleton]; omega)] at e; cases e
theorem Frm.os {H H' : Hp} {L L' : Lay} {os : List Addr} (F : Frm H L H' L') : Frm H L H' { L' with os := os } := F
def sp_new_order (K : Frag) : Sp := fun vs H Q E => ∃ (L : Lay) (m : La) (d : Nat), vs = [.ref L.a, vn d] ∧ At K H L m ∧ Wl.Inv m ∧ Ans K H L (Wl.orderM m d) Q E
theorem ok_new_order (T : Txt K mg) (D_ask : DefOk P w K mg base (L2.CX P w) 3 "ask" P_ask (sp_ask K)) (MOrder : MkOk P w K mg base 1 "Order" P_OrderI (sp_Order K)) : DefOk P w K mg base (L2.CX P w) 4 "new_order" P_new_order (sp_new_order K) := by
  refine dokX T (T.fd 34 (d := d_new_order) (st := s_new_order) (kp := T.keep "new_order")) (T.glo "new_order") sc_new_order (fun _ _ _ _ _ _ us hl => match us, hl with | [_, _], _ => rfl) ?len (fun cdv A outer s H vs Q E hr h => ⟨_, (pss_cons (ps_expr (pe_dx D_ask (hr.mono (by decide)) (by rfl) (takes_of rfl rfl rfl rfl) (pa_cons (pe_and (pe_cmpR op_le (pe_fld (pv 0) rfl) (pv 1) (nomark _)) (pe_one (pe_cmpR op_le (pv 1) (pe_i (i := 1000000) T (by rfl)) (nomark _)))) (pa_cons (pe_un un_neg pe_int) pa_nil))))
      (pss_cons (ps_expr (pe_dx D_ask (hr.mono (by decide)) (by rfl) (takes_of rfl rfl rfl rfl) (pa_cons (pe_cmpR op_lt (pe_callB call_len_seq (by rfl) (T.free "len") PySem.boot_len (pa_cons (pe_fld (pv 0) rfl) pa_nil)) (pe_i (i := 60) T (by rfl)) (nomark _)) (pa_cons (pe_un un_neg pe_int) pa_nil))))
      (pss_cons (ps_expr (pe_bm PySem.F.plainAttrs_list PySem.F.slot_list_append PySem.F.type_list_append mt_append (pe_fld (pv 0) rfl) (pa_cons (pe_n MOrder (hr.mono (by decide)) (by rfl) (pa_cons (pv 1) pa_nil)) pa_nil)))
      (pss_one (ps_ret (pe_lst (pa_cons (pe_op op_sub (pe_callB call_len_seq (by rfl) (T.free "len") PySem.boot_len (pa_cons (pe_fld (pv 0) rfl) pa_nil)) pe_int) pa_nil))))))), ?body⟩)
  case len => intro vs H Q E h; obtain ⟨L, m, d, rfl, A, I, q⟩ := h; rfl
  case body =>
    obtain ⟨L, m, d, rfl, A, I, q⟩ := h
    obtain ⟨dx, hla⟩ := A.la
    have lo := A.los
    unfold Wl.orderM at q
    refine ⟨_, rfl, L.a, _, dx, _, _, rfl, hla, cLaundry T, nLaundry_now T, rfl, _, rfl, _, _, rfl, rfl, _, rfl, ite_dec (fun c1 => ⟨_, rfl, _, _, rfl, rfl, _, rfl, _, _, rfl, askd (Same.refl _) (fun c2 => ?_) (fun c2 => ?_)⟩) (fun c1 => ⟨_, rfl, _, _, rfl, askn (Same.refl _) ?_⟩)⟩
    · have c2 : (d : Int) ≤ 1000000 := c2
      rw [if_neg (by omega)] at q
      refine ⟨_, rfl, L.a, _, dx, _, _, rfl, hla, cLaundry T, nLaundry_orders T, rfl, L.lo, _, rfl, .inl (SqL.of A.ho), _, _, rfl, rfl, _, rfl, _, _, rfl, askd (Same.refl _) (fun c3 => ?_) (fun c3 => ?_)⟩
      · have c3 : ((L.os.map V.ref).length : Int) < 60 := c3
        rw [List.length_map] at c3
        rw [if_neg (by omega)] at q
        refine ⟨_, rfl, L.a, _, dx, _, _, rfl, hla, cLaundry T, nLaundry_orders T, rfl, .inl ⟨rfl, _, SqL.of A.ho⟩, _, rfl, fun x dx2 hx hdx hne => ⟨x, dx2, d, rfl, upd_same, fun H1 l k1 hl ex el => ⟨rfl, ?_⟩⟩⟩
        have s1 : Same H H1 := fun b o e => by
          have n1 := ne_of_none e hx
          exact k1 b o (by rw [upd_ne n1, upd_ne (ne_of_none e hdx)]; exact e) n1
        have nl : l ≠ x := fun z => by rw [z, upd_same] at hl; cases hl
        have hl2 := hl
        rw [upd_ne nl] at hl2
        have nl2 : l ≠ dx2 := fun z => by rw [z, upd_same] at hl2; cases hl2
        rw [upd_ne nl2] at hl2
        have A1 := ((A.more_new hx (.ord m.orders.length)).more_new hl2 (.oth m.orders.length)).same s1
        obtain ⟨B1, B2⟩ := A1.addOd (x := x) (l := l) (dx := dx2) (c := ⟨d, 0, []⟩) ex el (by rw [more_ne nl.symm]; exact more_same) more_same
        have elo := s1 _ _ A.ho
        refine ⟨L.lo, _, _, rfl, rfl, elo, by rw [List.length_map]; exact line_lt (by omega), ?_⟩
        have hH : upd H1 L.lo (.lst (L.os.map V.ref ++ [.ref x])) = upd H1 L.lo (.lst ((L.os ++ [x]).map V.ref)) := by rw [List.map_append]; rfl
        rw [hH]
        obtain ⟨dx3, hla3⟩ := B1.la
        have F := (((Frm.refl (H := H) (L := L)).more hx (.ord m.orders.length)).more hl2 (.oth m.orders.length)).then_same s1
        have F := F.then_but B2
        refine ⟨_, rfl, L.a, _, dx3, _, _, rfl, hla3, cLaundry T, nLaundry_orders T, rfl, L.lo, _, rfl, .inl (SqL.of B1.ho), _, _, rfl, rfl, (by show 1 ≤ sizeLine; decide), ?_⟩
        have e : V.int ((((L.os ++ [x]).map V.ref).length : Int) - 1) = V.int ((m.orders.length : Nat) : Int) := by
          rw [List.length_map, List.length_append, List.length_singleton, lo]; congr 1; omega
        show ∀ p, _ → Q (.ref p) (upd _ p (.lst [V.int ((((L.os ++ [x]).map V.ref).length : Int) - 1)]))
        rw [e]
        exact q.give B1 F (Big.upd (Big.of s1))
      · have c3 : ¬ ((L.os.map V.ref).length : Int) < 60 := c3
        rw [List.length_map] at c3
        have := I.ods
        rw [if_pos (by omega)] at q
        exact q
    · have c2 : ¬ (d : Int) ≤ 1000000 := c2
      rw [if_pos (by omega)] at q
      exact q
    · rw [if_pos (by omega)] at q
      exact q
def sp_close (K : Frag) : Sp := fun vs H Q E => ∃ (L : Lay) (m : La) (o : Nat), vs = [.ref L.a, vn o] ∧ At K H L m ∧ Wl.Inv m ∧ Ans K H L (Wl.closeM m o) Q E
theorem ok_close (T : Txt K mg) (D_order_at : DefOk P w K mg base (L2.CX P w) 4 "order_at" P_order_at (sp_order_at K)) (D_ask : DefOk P w K mg base (L2.CX P w) 3 "ask" P_ask (sp_ask K)) : DefOk P w K mg base (L2.CX P w) 5 "close" P_close (sp_close K) := by
  refine dokX T (T.fd 36 (d := d_close) (st := s_close) (kp := T.keep "close")) (T.glo "close") sc_close (fun _ _ _ _ _ _ us hl => match us, hl with | [_, _], _ => rfl) ?len (fun cdv A outer s H vs Q E hr h => ⟨_, (pss_cons (ps_set (i := 2) sc_close.nd rfl (Or.inl rfl) (pe_dx D_order_at (hr.mono (by decide)) (by rfl) (takes_of rfl rfl rfl rfl) (pa_cons (pv 0) (pa_cons (pv 1) pa_nil))))
      (pss_cons (ps_expr (pe_dx D_ask (hr.mono (by decide)) (by rfl) (takes_of rfl rfl rfl rfl) (pa_cons (pe_cmpR op_eq (pe_fld (pv 2) rfl) (pe_i (i := 0) T (by rfl)) (nomark _)) (pa_cons (pe_un un_neg pe_int) pa_nil))))
      (pss_cons (ps_expr (pe_dx D_ask (hr.mono (by decide)) (by rfl) (takes_of rfl rfl rfl rfl) (pa_cons (pe_cmpR (op_neNil (un_of hr)) (pe_fld (pv 2) rfl) (pe_lst pa_nil) (nomark _)) (pa_cons (pe_un un_neg pe_int) pa_nil))))
      (pss_cons (ps_fld (pv 2) (pe_i (i := 1) T (by rfl)) rfl)
      (pss_one (ps_ret (pe_lst (pa_cons pe_int pa_nil)))))))), ?body⟩)
  case len => intro vs H Q E h; obtain ⟨L, m, o, rfl, A, I, q⟩ := h; rfl
  case body =>
    obtain ⟨L, m, o, rfl, A, I, q⟩ := h
    unfold Wl.closeM at q
    refine ⟨_, rfl, _, rfl, L, m, o, rfl, A, fun c => by rw [if_pos c] at q; exact q, fun x hx => ?_⟩
    have ho : o < m.orders.length := by rw [← A.los]; exact (List.getElem?_eq_some_iff.mp hx).1
    rw [if_neg (by omega)] at q
    obtain ⟨dy, ly, y1, y2, r1, r2⟩ := A.ord o x hx
    refine ⟨_, rfl, x, _, dy, _, _, rfl, y1, cOrder T, nOrder_stands T, rfl, rfl, _, rfl, _, _, rfl, askd (Same.refl _) (fun c1 => ?_) (fun c1 => ?_)⟩
    · have c1 : V.int ((od m o).stands : Int) = V.int 0 := c1
      have c1 := V.int.inj c1
      rw [if_neg (by omega)] at q
      refine ⟨_, rfl, x, _, dy, _, _, rfl, y1, cOrder T, nOrder_things T, rfl, Nat.zero_le _, fun p hp => ⟨ly, p, _, rfl, rfl, SqL.of (same_new hp _ _ y2), SqL.of upd_same, _, rfl, _, _, rfl, askg (same_new hp) (fun c2 => ?_) (fun c2 => ?_)⟩⟩
      · have ne : (od m o).things ≠ [] := fun z => by rw [z] at c2; cases c2
        rw [if_neg ne] at q
        have s1 := same_new (o := .lst []) hp
        obtain ⟨B1, B2⟩ := (A.same s1).setOd (c := { od m o with stands := 1 }) hx (s1 _ _ y1) rfl
        refine ⟨_, rfl, x, _, dy, _, rfl, s1 _ _ y1, cOrder T, nOrder_stands T, (by show 3 < 1000; decide), (by show 1 ≤ sizeLine; decide), ?_⟩
        exact q.give B1 ((Frm.refl.then_same s1).then_but B2) (Big.upd (Big.of s1))
      · have ne : (od m o).things = [] := by
          have : (!(vl (od m o).things).isEmpty) = false := c2
          simpa using this
        rw [if_pos ne] at q
        exact q
    · have c1 : ¬ V.int ((od m o).stands : Int) = V.int 0 := c1
      rw [if_pos (by intro z; exact c1 (by rw [z]; rfl))] at q
      exact q
def sp_tick (K : Frag) : Sp := fun vs H Q E => ∃ (L : Lay) (m : La) (t : Nat), vs = [.ref L.a, vn t] ∧ At K H L m ∧ Wl.Inv m ∧ Ans K H L (Wl.tickM m t) Q E
theorem ok_tick (T : Txt K mg) (D_ask : DefOk P w K mg base (L2.CX P w) 3 "ask" P_ask (sp_ask K)) (D_go_to : DefOk P w K mg base CX0 2 "go_to" P_go_to (sp_go_to K)) : DefOk P w K mg base (L2.CX P w) 4 "tick" P_tick (sp_tick K) := by
  refine dokX T (T.fd 39 (d := d_tick) (st := s_tick) (kp := T.keep "tick")) (T.glo "tick") sc_tick (fun _ _ _ _ _ _ us hl => match us, hl with | [_, _], _ => rfl) ?len (fun cdv A outer s H vs Q E hr h => ⟨_, (pss_cons (ps_expr (pe_dx D_ask (hr.mono (by decide)) (by rfl) (takes_of rfl rfl rfl rfl) (pa_cons (pe_and (pe_cmpR op_le (pe_fld (pv 0) rfl) (pv 1) (nomark _)) (pe_one (pe_cmpR op_le (pv 1) (pe_i (i := 1000000) T (by rfl)) (nomark _)))) (pa_cons (pe_un un_neg pe_int) pa_nil))))
      (pss_one (ps_ret (pe_lst (pa_cons (pe_d D_go_to (hr.mono (by decide)) (by rfl) (pa_cons (pv 0) (pa_cons (pv 1) pa_nil))) pa_nil))))), ?body⟩)
  case len => intro vs H Q E h; obtain ⟨L, m, t, rfl, A, I, q⟩ := h; rfl
  case body =>
    obtain ⟨L, m, t, rfl, A, I, q⟩ := h
    obtain ⟨dx, hla⟩ := A.la
    unfold Wl.tickM at q
    refine ⟨_, rfl, L.a, _, dx, _, _, rfl, hla, cLaundry T, nLaundry_now T, rfl, _, rfl, _, _, rfl, rfl, _, rfl, ite_dec (fun c1 => ⟨_, rfl, _, _, rfl, rfl, _, rfl, _, _, rfl, askd (Same.refl _) (fun c2 => ?_) (fun c2 => ?_)⟩) (fun c1 => ⟨_, rfl, _, _, rfl, askn (Same.refl _) ?_⟩)⟩
    · have c2 : (t : Int) ≤ 1000000 := c2
      rw [if_neg (by omega)] at q
      refine ⟨_, rfl, _, rfl, L, m, t, rfl, A, I, fun H1 L1 A1 F1 k1 b1 => ⟨(by show 1 ≤ sizeLine; decide), q.give A1 F1 b1 (by obtain ⟨r, rfl⟩ := k1; rfl)⟩⟩
    · have c2 : ¬ (t : Int) ≤ 1000000 := c2
      rw [if_pos (by omega)] at q
      exact q
    · rw [if_pos (by omega)] at q
      exact q
theorem bl_on (n : Nat) : decide (vn n = V.int 1) = (n == 1) := by
  by_cases c : n = 1
  · rw [c]; rfl
  · rw [beq_false_of_ne c]
    exact decide_eq_false fun z => c (by have := V.int.inj z; omega)
theorem bl_ne (a b : Bool) : (!decide (V.bl a = V.bl b)) = (a != b) := by cases a <;> cases b <;> rfl
def sp_broken (K : Frag) : Sp := fun vs H Q E => ∃ (L : Lay) (m : La) (k on : Nat), vs = [.ref L.a, vn k, vn on] ∧ At K H L m ∧ Wl.Inv m ∧ Ans K H L (Wl.brokenM m k on) Q E
theorem ok_broken (T : Txt K mg) (D_machine_at : DefOk P w K mg base (L2.CX P w) 4 "machine_at" P_machine_at (sp_machine_at K)) (D_ask : DefOk P w K mg base (L2.CX P w) 3 "ask" P_ask (sp_ask K)) (D_empty : DefOk P w K mg base CX0 1 "empty" P_empty (sp_empty K)) : DefOk P w K mg base (L2.CX P w) 5 "broken" P_broken (sp_broken K) := by
  refine dokX T (T.fd 40 (d := d_broken) (st := s_broken) (kp := T.keep "broken")) (T.glo "broken") sc_broken (fun _ _ _ _ _ _ us hl => match us, hl with | [_, _, _], _ => rfl) ?len (fun cdv A outer s H vs Q E hr h => ⟨_, (pss_cons (ps_set (i := 3) sc_broken.nd rfl (Or.inl rfl) (pe_dx D_machine_at (hr.mono (by decide)) (by rfl) (takes_of rfl rfl rfl rfl) (pa_cons (pv 0) (pa_cons (pv 1) pa_nil))))
      (pss_cons (ps_expr (pe_dx D_ask (hr.mono (by decide)) (by rfl) (takes_of rfl rfl rfl rfl) (pa_cons (pe_cmpR op_le (pv 2) pe_int (nomark _)) (pa_cons (pe_un un_neg pe_int) pa_nil))))
      (pss_cons (ps_expr (pe_dx D_ask (hr.mono (by decide)) (by rfl) (takes_of rfl rfl rfl rfl) (pa_cons (pe_cmpR op_ne (pe_fld (pv 3) rfl) (pe_cmpR op_eq (pv 2) pe_int (nomark _)) (nomark _)) (pa_cons (pe_un un_neg pe_int) pa_nil))))
      (pss_cons (ps_fld (pv 3) (pe_cmpR op_eq (pv 2) pe_int (nomark _)) rfl)
      (pss_one (ps_ret (pe_lst (pa_cons (pe_d D_empty (hr.mono (by decide)) (by rfl) (pa_cons (pv 0) (pa_cons (pv 3) (pa_cons pe_bl pa_nil)))) pa_nil)))))))), ?body⟩)
  case len => intro vs H Q E h; obtain ⟨L, m, k, on, rfl, A, I, q⟩ := h; rfl
  case body =>
    obtain ⟨L, m, k, on, rfl, A, I, q⟩ := h
    unfold Wl.brokenM at q
    refine ⟨_, rfl, _, rfl, L, m, k, rfl, A, fun c => by rw [if_pos c] at q; exact q, fun x hx => ?_⟩
    have hk : k < m.machines.length := by rw [← A.lms]; exact (List.getElem?_eq_some_iff.mp hx).1
    rw [if_neg (by omega)] at q
    obtain ⟨dm, l, p, x1, x2, x3, r1, r2, r3⟩ := A.mac k x hx
    refine ⟨_, rfl, _, _, rfl, rfl, _, rfl, _, _, rfl, askd (Same.refl _) (fun c1 => ?_) (fun c1 => ?_)⟩
    · have c1 : (on : Int) ≤ 1 := c1
      rw [if_neg (by omega)] at q
      refine ⟨_, rfl, x, _, dm, _, _, rfl, x1, cMachine T, nMachine_is_broken T, rfl, _, rfl, rfl, rfl, _, rfl, _, _, rfl, askg (Same.refl _) (fun c2 => ?_) (fun c2 => ?_)⟩
      · have c2 : (!decide (V.bl (mc m k).broken = V.bl (decide (vn on = V.int 1)))) = true := c2
        rw [bl_on, bl_ne] at c2
        rw [if_neg (by simpa using c2)] at q
        refine ⟨_, rfl, rfl, _, rfl, x, _, dm, _, rfl, x1, cMachine T, nMachine_is_broken T, (by show 5 < 1000; decide), ?_⟩
        have hH : upd H x (.ins (He.ga K "Machine") dm (putF "is_broken" (.bl (decide (vn on = V.int 1))) (mcF l p (mc m k)))) = upd H x (.ins (He.ga K "Machine") dm (mcF l p { mc m k with broken := on == 1 })) := by rw [bl_on]; rfl
        rw [hH]
        obtain ⟨B1, B2⟩ := A.setMc (c := { mc m k with broken := on == 1 }) (l := l) (p := p) hx x1 x2 x3 r2 r3
        have em : mc (Wl.breakL m k (on == 1)) k = { mc m k with broken := on == 1 } := mc_set1 hk
        refine ⟨_, rfl, _, rfl, L, Wl.breakL m k (on == 1), k, x, false, rfl, B1, hx, ?_, ?_, fun H1 L1 A1 F1 k1 b1 => ⟨(by show 1 ≤ sizeLine; decide), ?_⟩⟩
        · rw [em]; exact fun i hi => (I.mc_ok k hk i hi).1
        · rw [em]; exact (I.mc_pr _ (Wl.mc_mem hk)).2.1
        · rw [em]
          exact q.give A1 ((Frm.refl.then_but B2).trans F1) ((Big.upd (Big.refl H)).trans b1) (by obtain ⟨r, rfl⟩ := k1; rfl)
      · have c2 : (!decide (V.bl (mc m k).broken = V.bl (decide (vn on = V.int 1)))) = false := c2
        rw [bl_on, bl_ne] at c2
        rw [if_pos (by simpa using c2)] at q
        exact q
    · have c1 : ¬ (on : Int) ≤ 1 := c1
      rw [if_pos (by omega)] at q
      exact q
theorem isE {α : Type} (l : List α) (p : α → Bool) (f : α → V) : ((l.filter p).map f).isEmpty = !(l.any p) := by
  cases e : l.any p with
  | true =>
    obtain ⟨x, hx, hp⟩ := List.any_eq_true.mp e
    have : x ∈ l.filter p := List.mem_filter.mpr ⟨hx, hp⟩
    cases h : (l.filter p).map f with
    | nil =>
      rw [List.map_eq_nil_iff.mp h] at this; cases this
    | cons a b => rfl
  | false =>
    have : l.filter p = [] := List.filter_eq_nil_iff.mpr fun x hx hp => by
      have : l.any p = true := List.any_eq_true.mpr ⟨x, hx, hp⟩
      rw [e] at this; cases this
    rw [this]; rfl
theorem ord_things {m : La} (I : Wl.Inv m) {o : Nat} (ho : o < m.orders.length) : (∀ i ∈ (od m o).things, i < m.things.length) ∧ (od m o).things.length ≤ 150 := by
  rw [(I.od_ok o ho).2]
  refine ⟨fun i hi => (Wl.ofO_mem hi).1, ?_⟩
  unfold Wl.ofO
  refine Nat.le_trans (List.length_filter_le _ _) ?_
  rw [List.length_range]; exact I.ths
def sp_pack (K : Frag) : Sp := fun vs H Q E => ∃ (L : Lay) (m : La) (o : Nat), vs = [.ref L.a, vn o] ∧ At K H L m ∧ Wl.Inv m ∧ Ans K H L (Wl.packM m o) Q E
theorem ok_pack (T : Txt K mg) (D_order_at : DefOk P w K mg base (L2.CX P w) 4 "order_at" P_order_at (sp_order_at K)) (D_ask : DefOk P w K mg base (L2.CX P w) 3 "ask" P_ask (sp_ask K)) : DefOk P w K mg base (L2.CX P w) 5 "pack" P_pack (sp_pack K) := by
  refine dokX T (T.fd 41 (d := d_pack) (st := s_pack) (kp := T.keep "pack")) (T.glo "pack") sc_pack (fun _ _ _ _ _ _ us hl => match us, hl with | [_, _], _ => rfl) ?len (fun cdv A outer s H vs Q E hr h => ⟨_, (pss_cons (ps_set (i := 2) sc_pack.nd rfl (Or.inl rfl) (pe_dx D_order_at (hr.mono (by decide)) (by rfl) (takes_of rfl rfl rfl rfl) (pa_cons (pv 0) (pa_cons (pv 1) pa_nil))))
      (pss_cons (ps_expr (pe_dx D_ask (hr.mono (by decide)) (by rfl) (takes_of rfl rfl rfl rfl) (pa_cons (pe_cmpR op_eq (pe_fld (pv 2) rfl) (pe_i (i := 1) T (by rfl)) (nomark _)) (pa_cons (pe_un un_neg pe_int) pa_nil))))
      (pss_cons (ps_expr (pe_dx D_ask (hr.mono (by decide)) (by rfl) (takes_of rfl rfl rfl rfl) (pa_cons (pe_cmpR (op_eqNil (un_of hr)) (pe_lc (own := [("i", 3)]) (g := (gName 3)) rfl sc_pack.nd (pi_list (pe_fld (pv 2) rfl)) (blkOk_by (N := N_pack) (sc := defScope s_pack) (by decide +kernel)) (fun _ _ _ _ _ => (pg_name (i := 3) sc_pack.nd rfl (Or.inl rfl))) (fun _ _ _ _ _ => (pts_one (pt_not (pt_val (pe_fldK K (pe_ix (ix_listK K) (pe_fldK K (pv 0)) (pv 3) (fun _ _ => rfl))))))) (fun _ _ _ _ _ => (pv 3))) (pe_lst pa_nil) (nomark _)) (pa_cons (pe_un un_neg pe_int) pa_nil))))
      (pss_cons (ps_fld (pv 2) (pe_i (i := 2) T (by rfl)) rfl)
      (pss_one (ps_ret (pe_lst (pa_cons (pe_callB call_len_seq (by rfl) (T.free "len") PySem.boot_len (pa_cons (pe_fld (pv 2) rfl) pa_nil)) pa_nil)))))))), ?body⟩)
  case len => intro vs H Q E h; obtain ⟨L, m, o, rfl, A, I, q⟩ := h; rfl
  case body =>
    obtain ⟨L, m, o, rfl, A, I, q⟩ := h
    obtain ⟨dx, hla⟩ := A.la
    unfold Wl.packM at q
    refine ⟨_, rfl, _, rfl, L, m, o, rfl, A, fun c => by rw [if_pos c] at q; exact q, fun x hx => ?_⟩
    have ho : o < m.orders.length := by rw [← A.los]; exact (List.getElem?_eq_some_iff.mp hx).1
    rw [if_neg (by omega)] at q
    obtain ⟨dy, ly, y1, y2, r1, r2⟩ := A.ord o x hx
    obtain ⟨ti, tl⟩ := ord_things I ho
    refine ⟨_, rfl, x, _, dy, _, _, rfl, y1, cOrder T, nOrder_stands T, rfl, rfl, _, rfl, _, _, rfl, askd (Same.refl _) (fun c1 => ?_) (fun c1 => ?_)⟩
    · have c1 : V.int ((od m o).stands : Int) = V.int 1 := c1
      have c1 := V.int.inj c1
      rw [if_neg (by omega)] at q
      refine ⟨_, rfl, x, _, dy, _, _, rfl, y1, cOrder T, nOrder_things T, rfl, ly, rfl, ⟨_, SqL.of y2⟩, fun D hD => lcL hD (fun j => !(th m ((od m o).things.getD j 0)).washed) (fun j => vn ((od m o).things.getD j 0)) (SqL.of y2) (vl_small tl (by decide)) (fun j v H1 Rt Rf hv sm g1 g2 => ?_) (fun H1 sm e1 => ?_)⟩
      · obtain ⟨i, hj, rfl⟩ := vl_get hv
        rw [getD_of hj] at g1 g2
        obtain ⟨z, hz⟩ := A.ts_at (ti i (List.mem_of_getElem? hj))
        obtain ⟨dt, lb, sg, t1, _⟩ := A.thi i z hz
        refine ⟨rfl, _, rfl, L.a, _, dx, _, _, rfl, sm _ _ hla, cLaundry T, nLaundry_things T, rfl, _, rfl, L.lt, _, _, _, rfl, rfl, SqL.of (sm _ _ A.ht), ix_ref hz, z, _, dt, _, _, rfl, sm _ _ t1, cThing T, nThing_is_washed T, rfl, _, rfl, ?_⟩
        cases ew : (th m i).washed with
        | true => exact g2 _ (Same.refl _) (by rw [ew]; rfl)
        | false => exact ⟨_, rfl, g1 _ (Same.refl _) (by rw [ew]; rfl)⟩
      · rw [rng_fm (od m o).things 0 (fun i => !(th m i).washed) vn (vl_len _)] at e1
        refine ⟨Nat.zero_le _, fun p hp => ⟨D, p, _, rfl, rfl, SqL.of (same_new hp _ _ e1), SqL.of upd_same, _, rfl, _, _, rfl, askg (sm.trans (same_new hp)) (fun c2 => ?_) (fun c2 => ?_)⟩⟩
        · have c2 : (((od m o).things.filter fun i => !(th m i).washed).map vn).isEmpty = true := c2
          rw [isE] at c2
          rw [if_neg (by simpa using c2)] at q
          have s1 := sm.trans (same_new (o := .lst []) hp)
          obtain ⟨B1, B2⟩ := (A.same s1).setOd (c := { od m o with stands := 2 }) hx (s1 _ _ y1) rfl
          refine ⟨_, rfl, x, _, dy, _, rfl, s1 _ _ y1, cOrder T, nOrder_stands T, (by show 3 < 1000; decide), ?_⟩
          have ey := B2 _ _ (s1 _ _ y2) (role_ne r2 (by simp))
          refine ⟨_, rfl, x, _, dy, _, _, rfl, upd_same, cOrder T, nOrder_things T, rfl, ly, _, rfl, .inl (SqL.of ey), (by show 1 ≤ sizeLine; decide), ?_⟩
          rw [vl_len]
          exact q.give B1 ((Frm.refl.then_same s1).then_but B2) (Big.upd (Big.of s1))
        · have c2 : (((od m o).things.filter fun i => !(th m i).washed).map vn).isEmpty = false := c2
          rw [isE] at c2
          rw [if_pos (by simpa using c2)] at q
          exact q
    · have c1 : ¬ V.int ((od m o).stands : Int) = V.int 1 := c1
      rw [if_pos (by intro z; exact c1 (by rw [z]; rfl))] at q
      exact q
def sp_hand (K : Frag) : Sp := fun vs H Q E => ∃ (L : Lay) (m : La) (o : Nat), vs = [.ref L.a, vn o] ∧ At K H L m ∧ Wl.Inv m ∧ Ans K H L (Wl.handM m o) Q E
theorem ok_hand (T : Txt K mg) (D_order_at : DefOk P w K mg base (L2.CX P w) 4 "order_at" P_order_at (sp_order_at K)) (D_ask : DefOk P w K mg base (L2.CX P w) 3 "ask" P_ask (sp_ask K)) (D_bill_of : DefOk P w K mg base CX0 1 "bill_of" P_bill_of (sp_bill_of K)) : DefOk P w K mg base (L2.CX P w) 5 "hand" P_hand (sp_hand K) := by
  refine dokX T (T.fd 42 (d := d_hand) (st := s_hand) (kp := T.keep "hand")) (T.glo "hand") sc_hand (fun _ _ _ _ _ _ us hl => match us, hl with | [_, _], _ => rfl) ?len (fun cdv A outer s H vs Q E hr h => ⟨_, (pss_cons (ps_set (i := 2) sc_hand.nd rfl (Or.inl rfl) (pe_dx D_order_at (hr.mono (by decide)) (by rfl) (takes_of rfl rfl rfl rfl) (pa_cons (pv 0) (pa_cons (pv 1) pa_nil))))
      (pss_cons (ps_expr (pe_dx D_ask (hr.mono (by decide)) (by rfl) (takes_of rfl rfl rfl rfl) (pa_cons (pe_cmpR op_eq (pe_fld (pv 2) rfl) (pe_i (i := 2) T (by rfl)) (nomark _)) (pa_cons (pe_un un_neg pe_int) pa_nil))))
      (pss_cons (ps_fld (pv 2) (pe_i (i := 3) T (by rfl)) rfl)
      (pss_cons (ps_fldaug (pv 0) (pe_d D_bill_of (hr.mono (by decide)) (by rfl) (pa_cons (pv 0) (pa_cons (pv 2) pa_nil))) in_add)
      (pss_one (ps_ret (pe_lst (pa_cons (pe_d D_bill_of (hr.mono (by decide)) (by rfl) (pa_cons (pv 0) (pa_cons (pv 2) pa_nil))) pa_nil)))))))), ?body⟩)
  case len => intro vs H Q E h; obtain ⟨L, m, o, rfl, A, I, q⟩ := h; rfl
  case body =>
    obtain ⟨L, m, o, rfl, A, I, q⟩ := h
    unfold Wl.handM at q
    refine ⟨_, rfl, _, rfl, L, m, o, rfl, A, fun c => by rw [if_pos c] at q; exact q, fun x hx => ?_⟩
    have ho : o < m.orders.length := by rw [← A.los]; exact (List.getElem?_eq_some_iff.mp hx).1
    rw [if_neg (by omega)] at q
    obtain ⟨dy, ly, y1, y2, r1, r2⟩ := A.ord o x hx
    obtain ⟨ti, tl⟩ := ord_things I ho
    refine ⟨_, rfl, x, _, dy, _, _, rfl, y1, cOrder T, nOrder_stands T, rfl, rfl, _, rfl, _, _, rfl, askd (Same.refl _) (fun c1 => ?_) (fun c1 => ?_)⟩
    · have c1 : V.int ((od m o).stands : Int) = V.int 2 := c1
      have c1 := V.int.inj c1
      rw [if_neg (by omega)] at q
      obtain ⟨B1, B2⟩ := A.setOd (c := { od m o with stands := 3 }) hx y1 rfl
      have B1 : At K _ L (Wl.setSt m o 3) := B1
      have eo : od (Wl.setSt m o 3) o = { od m o with stands := 3 } := by rw [Wl.od_setSt ho, if_pos rfl]
      have eb : Wl.billN (Wl.setSt m o 3) o = Wl.billN m o := by unfold Wl.billN; rw [eo]; rfl
      refine ⟨_, rfl, x, _, dy, _, rfl, y1, cOrder T, nOrder_stands T, (by show 3 < 1000; decide), ?_⟩
      obtain ⟨dx, hla⟩ := B1.la
      refine ⟨_, rfl, L.a, _, dx, _, _, rfl, hla, cLaundry T, nLaundry_till T, rfl, _, rfl, _, rfl, L, Wl.setSt m o 3, o, x, rfl, B1, hx, by rw [eo]; exact tl, by rw [eo]; exact ti, I.pr, fun H1 s1 => ⟨_, _, rfl, rfl, dx, _, s1 _ _ hla, (by show 6 < 1000; decide), ?_⟩⟩
      rw [eb]
      obtain ⟨C1, C2⟩ := (B1.same s1).setLa (now := m.now) (till := m.till + Wl.billN m o) (s1 _ _ hla)
      have hH : upd H1 L.a (.ins (He.ga K "Laundry") dx (putF "till" (.int (((Wl.setSt m o 3).till : Int) + (Wl.billN m o : Int))) (laF L.lm L.lo L.lt (Wl.setSt m o 3)))) = upd H1 L.a (.ins (He.ga K "Laundry") dx (laF L.lm L.lo L.lt { Wl.setSt m o 3 with now := m.now, till := m.till + Wl.billN m o })) := by
        rw [← Int.natCast_add]; rfl
      rw [hH]
      have C1 : At K _ L { Wl.setSt m o 3 with till := m.till + Wl.billN m o } := C1
      have eb2 : Wl.billN { Wl.setSt m o 3 with till := m.till + Wl.billN m o } o = Wl.billN m o := eb
      have eo2 : od { Wl.setSt m o 3 with till := m.till + Wl.billN m o } o = { od m o with stands := 3 } := eo
      refine ⟨_, rfl, _, rfl, L, { Wl.setSt m o 3 with till := m.till + Wl.billN m o }, o, x, rfl, C1, hx, by rw [eo2]; exact tl, by rw [eo2]; exact ti, I.pr, fun H2 s2 => ⟨(by show 1 ≤ sizeLine; decide), ?_⟩⟩
      rw [eb2]
      exact q.give (C1.same s2) ((((Frm.refl.then_but B2).then_same s1).then_but C2).then_same s2) ((Big.upd ((Big.upd (Big.refl H)).trans (Big.of s1))).trans (Big.of s2))
    · have c1 : ¬ V.int ((od m o).stands : Int) = V.int 2 := c1
      rw [if_pos (by intro z; exact c1 (by rw [z]; rfl))] at q
      exact q
def sp_cancel (K : Frag) : Sp := fun vs H Q E => ∃ (L : Lay) (m : La) (o : Nat), vs = [.ref L.a, vn o] ∧ At K H L m ∧ Wl.Inv m ∧ Ans K H L (Wl.cancelM m o) Q E
theorem ok_cancel (T : Txt K mg) (D_order_at : DefOk P w K mg base (L2.CX P w) 4 "order_at" P_order_at (sp_order_at K)) (D_ask : DefOk P w K mg base (L2.CX P w) 3 "ask" P_ask (sp_ask K)) : DefOk P w K mg base (L2.CX P w) 5 "cancel" P_cancel (sp_cancel K) := by
  refine dokX T (T.fd 43 (d := d_cancel) (st := s_cancel) (kp := T.keep "cancel")) (T.glo "cancel") sc_cancel (fun _ _ _ _ _ _ us hl => match us, hl with | [_, _], _ => rfl) ?len (fun cdv A outer s H vs Q E hr h => ⟨_, (pss_cons (ps_set (i := 2) sc_cancel.nd rfl (Or.inl rfl) (pe_dx D_order_at (hr.mono (by decide)) (by rfl) (takes_of rfl rfl rfl rfl) (pa_cons (pv 0) (pa_cons (pv 1) pa_nil))))
      (pss_cons (ps_expr (pe_dx D_ask (hr.mono (by decide)) (by rfl) (takes_of rfl rfl rfl rfl) (pa_cons (pe_cmpR op_in_seq (pe_fld (pv 2) rfl) (pe_tup (pa_cons (pe_i (i := 0) T (by rfl)) (pa_cons (pe_i (i := 1) T (by rfl)) pa_nil))) (by rfl)) (pa_cons (pe_un un_neg pe_int) pa_nil))))
      (pss_cons (ps_setLc (i := 3) (own := [("i", 4)]) (g := (gName 4)) rfl sc_cancel.nd rfl rfl (sw_true rfl rfl rfl (by decide +kernel)) (pi_list (pe_fld (pv 2) rfl)) (blkOk_by (N := N_cancel) (sc := defScope s_cancel) (by decide +kernel)) (fun _ _ _ _ _ => (pg_name (i := 4) sc_cancel.nd rfl (Or.inl rfl))) (fun _ _ _ _ _ => pts_nil) (fun _ _ _ _ _ => (pe_ix (ix_listK K) (pe_fldK K (pv 0)) (pv 4) (fun _ _ => rfl))))
      (pss_cons (ps_expr (pe_dx D_ask (hr.mono (by decide)) (by rfl) (takes_of rfl rfl rfl rfl) (pa_cons (pe_cmpR (op_eqNil (un_of hr)) (pe_lc (own := [("thing", 5)]) (g := (gName 5)) rfl sc_cancel.nd (pi_list (pv 3)) (blkOk_by (N := N_cancel) (sc := defScope s_cancel) (by decide +kernel)) (fun _ _ _ _ _ => (pg_name (i := 5) sc_cancel.nd rfl (Or.inl rfl))) (fun _ _ _ _ _ => (pts_one (PW.pt (pw_or (pt_val (pe_fldK K (pv 5))) (pw_or1 (pt_cmpR op_ge (pe_fldK K (pv 5)) pe_int (nomark _))))))) (fun _ _ _ _ _ => (pv 5))) (pe_lst pa_nil) (nomark _)) (pa_cons (pe_un un_neg pe_int) pa_nil))))
      (pss_cons (ps_fld (pv 2) (pe_i (i := 4) T (by rfl)) rfl)
      (pss_one (ps_ret (pe_lst (pa_cons (pe_callB call_len_seq (by rfl) (T.free "len") PySem.boot_len (pa_cons (pv 3) pa_nil)) pa_nil))))))))), ?body⟩)
  case len => intro vs H Q E h; obtain ⟨L, m, o, rfl, A, I, q⟩ := h; rfl
  case body =>
    obtain ⟨L, m, o, rfl, A, I, q⟩ := h
    obtain ⟨dx, hla⟩ := A.la
    unfold Wl.cancelM at q
    refine ⟨_, rfl, _, rfl, L, m, o, rfl, A, fun c => by rw [if_pos c] at q; exact q, fun x hx => ?_⟩
    have ho : o < m.orders.length := by rw [← A.los]; exact (List.getElem?_eq_some_iff.mp hx).1
    rw [if_neg (by omega)] at q
    obtain ⟨dy, ly, y1, y2, r1, r2⟩ := A.ord o x hx
    obtain ⟨ti, tl⟩ := ord_things I ho
    have e1 : inV (vn (od m o).stands) [V.int 0, V.int 1] = decide ((od m o).stands ≤ 1) := by
      have : inV (vn (od m o).stands) ([0, 1].map V.int) = decide ((od m o).stands ≤ 1) := by
        rw [inV_int, decide_eq_decide]; simp; omega
      exact this
    refine ⟨_, rfl, x, _, dy, _, _, rfl, y1, cOrder T, nOrder_stands T, rfl, (by show 2 ≤ sizeLine; decide), fun p1 hp1 => ⟨_, _, rfl, .inr (SqT.of upd_same), rfl, flat_ints [0, 1], _, rfl, _, _, rfl, askg (same_new hp1) (fun c1 => ?_) (fun c1 => ?_)⟩⟩
    · have c1 : inV (vn (od m o).stands) [V.int 0, V.int 1] = true := c1
      rw [e1] at c1
      have c1 := of_decide_eq_true c1
      rw [if_neg (by omega)] at q
      have s1 := same_new (o := .tup [.int 0, .int 1]) hp1
      refine ⟨_, rfl, x, _, dy, _, _, rfl, s1 _ _ y1, cOrder T, nOrder_things T, rfl, ly, rfl, ⟨_, SqL.of (s1 _ _ y2)⟩, fun D hD => lcL hD (fun _ => true) (fun j => V.ref (L.ts.getD ((od m o).things.getD j 0) 0)) (SqL.of (s1 _ _ y2)) (vl_small tl (by decide)) (fun j v H1 Rt Rf hv sm g1 g2 => ?_) (fun H1 sm e1 => ?_)⟩
      · obtain ⟨i, hj, rfl⟩ := vl_get hv
        rw [getD_of hj] at g1
        obtain ⟨z, hz⟩ := A.ts_at (ti i (List.mem_of_getElem? hj))
        have ez : L.ts.getD i 0 = z := getD_of hz
        rw [ez] at g1
        have s2 := s1.trans sm
        exact ⟨rfl, _, rfl, L.a, _, dx, _, _, rfl, s2 _ _ hla, cLaundry T, nLaundry_things T, rfl, _, rfl, L.lt, _, _, _, rfl, rfl, SqL.of (s2 _ _ A.ht), ix_ref hz, g1 _ (Same.refl _) rfl⟩
      · rw [rng_m (od m o).things 0 (fun i => V.ref (L.ts.getD i 0)) (vl_len _)] at e1
        have s2 := s1.trans sm
        have hlen : ((od m o).things.map fun i => V.ref (L.ts.getD i 0)).length = (od m o).things.length := List.length_map _
        refine ⟨_, rfl, D, rfl, ⟨_, SqL.of e1⟩, fun D2 hD2 => lcL hD2 (fun j => (th m ((od m o).things.getD j 0)).washed || decide (0 ≤ (th m ((od m o).things.getD j 0)).mach)) (fun j => V.ref (L.ts.getD ((od m o).things.getD j 0) 0)) (SqL.of e1) (by rw [hlen]; exact line_le (by omega)) (fun j v H2 Rt Rf hv sm3 g1 g2 => ?_) (fun H2 sm3 e2 => ?_)⟩
        · rw [List.getElem?_map] at hv
          cases ej : (od m o).things[j]? with
          | none => rw [ej] at hv; cases hv
          | some i =>
            rw [ej] at hv
            obtain rfl : v = V.ref (L.ts.getD i 0) := (Option.some.inj hv).symm
            rw [getD_of ej] at g1 g2
            obtain ⟨z, hz⟩ := A.ts_at (ti i (List.mem_of_getElem? ej))
            have ez : L.ts.getD i 0 = z := getD_of hz
            rw [ez] at g1 ⊢
            obtain ⟨dt, lb, sg, t1, _⟩ := A.thi i z hz
            have s3 := s2.trans sm3
            refine ⟨rfl, _, rfl, z, _, dt, _, _, rfl, s3 _ _ t1, cThing T, nThing_is_washed T, rfl, _, rfl, ite_b (fun c2 => ?_) (fun c2 => ?_)⟩
            · exact ⟨_, rfl, g1 _ (Same.refl _) (by rw [c2]; rfl)⟩
            · refine ⟨_, rfl, z, _, dt, _, _, rfl, s3 _ _ t1, cThing T, nThing_machine T, rfl, _, _, rfl, rfl, _, rfl, ite_dec (fun c3 => ⟨_, rfl, g1 _ (Same.refl _) (by rw [c2, Bool.false_or]; exact decide_eq_true c3)⟩) (fun c3 => g2 _ (Same.refl _) (by rw [c2, Bool.false_or]; exact decide_eq_false c3))⟩
        · rw [rng_fm (od m o).things 0 (fun i => (th m i).washed || decide (0 ≤ (th m i).mach)) (fun i => V.ref (L.ts.getD i 0)) hlen] at e2
          have s3 := s2.trans sm3
          refine ⟨Nat.zero_le _, fun p hp => ⟨D2, p, _, rfl, rfl, SqL.of (same_new hp _ _ e2), SqL.of upd_same, _, rfl, _, _, rfl, askg (s3.trans (same_new hp)) (fun c2 => ?_) (fun c2 => ?_)⟩⟩
          · have c2 : (((od m o).things.filter fun i => (th m i).washed || decide (0 ≤ (th m i).mach)).map fun i => V.ref (L.ts.getD i 0)).isEmpty = true := c2
            rw [isE] at c2
            rw [if_neg (by intro z; rw [z] at c2; cases c2)] at q
            have s4 := s3.trans (same_new (o := .lst []) hp)
            obtain ⟨B1, B2⟩ := (A.same s4).setOd (c := { od m o with stands := 4 }) hx (s4 _ _ y1) rfl
            refine ⟨_, rfl, x, _, dy, _, rfl, s4 _ _ y1, cOrder T, nOrder_stands T, (by show 3 < 1000; decide), ?_⟩
            have nDx : D ≠ x := fun z => by
              have := s1 _ _ y1
              rw [← z, hD] at this; cases this
            have eD := same_new (o := .lst []) hp _ _ (sm3 _ _ e1)
            refine ⟨_, rfl, D, _, rfl, .inl (SqL.of ((upd_ne nDx).trans eD)), (by show 1 ≤ sizeLine; decide), ?_⟩
            rw [hlen]
            exact q.give B1 ((Frm.refl.then_same s4).then_but B2) (Big.upd (Big.of s4))
          · have c2 : (((od m o).things.filter fun i => (th m i).washed || decide (0 ≤ (th m i).mach)).map fun i => V.ref (L.ts.getD i 0)).isEmpty = false := c2
            rw [isE] at c2
            rw [if_pos (by simpa using c2)] at q
            exact q
    · have c1 : inV (vn (od m o).stands) [V.int 0, V.int 1] = false := c1
      rw [e1] at c1
      have c1 := of_decide_eq_false c1
      rw [if_pos (by omega)] at q
      exact q
end
end Wt
end
section
set_option Elab.async false
set_option linter.all false
set_option maxRecDepth 100000
set_option maxHeartbeats 2000000
/-! # add, plan, run -/
namespace Wt
open PySem PySem.Spec PyProof.Rows L2 Wr
open PySem.W (Frag)
open Wl (Lb Th Od Mc La Cl Out th od mc)
section
variable {P : Program} {w : World} {K : Frag} {mg : Str → Option Value} {base : Heap}
/-- Frm, one address set aside -/
def Frx (a : Addr) (H : Hp) (L : Lay) (H' : Hp) (L' : Lay) : Prop := ∀ b o, H b = some o → L.role b = none → b ≠ a → H' b = some o ∧ L'.role b = none
theorem Frm.frx {a : Addr} {H H' : Hp} {L L' : Lay} (F : Frm H L H' L') : Frx a H L H' L' := fun b o e n _ => F b o e n
def AnsX (K : Frag) (a : Addr) (H : Hp) (L : Lay) (r : Out) (Q : VK) (E : XK) : Prop := match r with
  | .no n => ∀ (H' : Hp) (d : Addr), Same H H' → H d = none → H' d = some (.xd [("number", .int n)]) → E (.ref (aRef K)) (some d) H'
  | .yes m' out => ∀ (H' : Hp) (L' : Lay) (p : Addr), At K H' L' m' → L'.a = L.a → Frx a H L H' L' → H p = none → H' p = some (.lst (out.map V.int)) → Q (.ref p) H'
theorem AnsX.ans {a : Addr} {H : Hp} {L : Lay} {r : Out} {Q : VK} {E : XK} (q : AnsX K a H L r Q E) : Ans K H L r Q E := by
  cases r with
  | no n => exact q
  | yes m' out => exact fun H' L' p A k F h e => q H' L' p A k F.frx h e
theorem At.addTh {H : Hp} {L : Lay} {m : La} (A : At K H L m) {x lb sg dx : Addr} {t : Th} (ex : H x = some (.ins (He.ga K "Thing") dx (thF lb t))) (el : LbAt K H lb sg t.lb) (rx : L.role x = some (.thi m.things.length)) (rl : L.role lb = some (.lab m.things.length)) (rs : L.role sg = some (.sig m.things.length)) :
    At K (upd H L.lt (.lst ((L.ts ++ [x]).map V.ref))) { L with ts := L.ts ++ [x] } { m with things := m.things ++ [t] } ∧ But L.role .lt H (upd H L.lt (.lst ((L.ts ++ [x]).map V.ref))) := by
  have b : But L.role .lt H (upd H L.lt (.lst ((L.ts ++ [x]).map V.ref))) := But.upd A.rt
  refine ⟨{ la := ?_, hm := b _ _ A.hm (role_ne A.rm (by simp)), ho := b _ _ A.ho (role_ne A.ro (by simp)), ht := upd_same, lms := A.lms, los := A.los, lts := ?_, mac := fun k y e => A.mac_but b e (by simp) (by simp) (by simp), ord := fun k y e => A.ord_but b e (by simp) (by simp), thi := ?_, ra := A.ra, rm := A.rm, ro := A.ro, rt := A.rt }, b⟩
  · obtain ⟨d, q⟩ := A.la
    exact ⟨d, b _ _ q (role_ne A.ra (by simp))⟩
  · show (L.ts ++ [x]).length = (m.things ++ [t]).length
    rw [List.length_append, List.length_append, A.lts]; rfl
  · intro i y e
    have e : (L.ts ++ [x])[i]? = some y := e
    rcases Nat.lt_trichotomy i L.ts.length with z | z | z
    · rw [List.getElem?_append_left z] at e
      have : th { m with things := m.things ++ [t] } i = th m i := Wl.th_addT (o := 0) (by rw [← A.lts]; exact z)
      rw [this]
      exact A.thi_but b e (by simp) (by simp) (by simp)
    · subst z
      rw [List.getElem?_concat_length] at e
      cases e
      have : th { m with things := m.things ++ [t] } L.ts.length = t := by rw [A.lts]; exact Wl.th_addT_new (o := 0)
      rw [this]
      obtain ⟨⟨d2, e2⟩, e3⟩ := el
      exact ⟨dx, lb, sg, b _ _ ex (role_ne rx (by simp)), ⟨⟨d2, b _ _ e2 (role_ne rl (by simp))⟩, b _ _ e3 (role_ne rs (by simp))⟩, by rw [A.lts]; exact rx, by rw [A.lts]; exact rl, by rw [A.lts]; exact rs⟩
    · rw [List.getElem?_eq_none (by rw [List.length_append, List.length_singleton]; omega)] at e; cases e
/-- an order's list is another -/
theorem At.ordL {H : Hp} {L : Lay} {m : La} (A : At K H L m) {o : Nat} {x dx l : Addr} {ns : List Nat} (e : L.os[o]? = some x) (h : H x = some (.ins (He.ga K "Order") dx (odF l (od m o)))) :
    At K (upd H l (.lst (vl ns))) L { m with orders := m.orders.set o { od m o with things := ns } } ∧ But L.role (.oth o) H (upd H l (.lst (vl ns))) := by
  obtain ⟨d2, l2, h1, h2, h4, h5⟩ := A.ord o x e
  rw [h] at h1
  cases h1
  have b : But L.role (.oth o) H (upd H l (.lst (vl ns))) := But.upd h5
  have ol : o < m.orders.length := by rw [← A.los]; exact (List.getElem?_eq_some_iff.mp e).1
  refine ⟨{ A with la := ?_, hm := ?_, ho := ?_, ht := ?_, los := ?_, mac := ?_, ord := ?_, thi := ?_ }, b⟩
  · obtain ⟨d, q⟩ := A.la
    exact ⟨d, b _ _ q (role_ne A.ra (by simp))⟩
  · exact b _ _ A.hm (role_ne A.rm (by simp))
  · exact b _ _ A.ho (role_ne A.ro (by simp))
  · exact b _ _ A.ht (role_ne A.rt (by simp))
  · show L.os.length = (m.orders.set o _).length
    rw [List.length_set]; exact A.los
  · exact fun k y q => A.mac_but b q (by simp) (by simp) (by simp)
  · intro k y q
    have eo : od { m with orders := m.orders.set o { od m o with things := ns } } k = if k = o then { od m o with things := ns } else od m k := Wl.getD_set ol
    rw [eo]
    by_cases ck : k = o
    · subst ck
      rw [e] at q
      cases q
      rw [if_pos rfl]
      exact ⟨dx, l, b _ _ h (role_ne h4 (by simp)), upd_same, h4, h5⟩
    · rw [if_neg ck]
      exact A.ord_but b q (by simp) (by simp [ck])
  · exact fun k y q => A.thi_but b q (by simp) (by simp) (by simp)
theorem any_rng (m : La) (q : Mc → Bool) : (List.range m.machines.length).any (fun k => q (mc m k)) = m.machines.any q := by
  conv => rhs; rw [← list_rng m.machines Wl.noMc, List.any_map]
  rfl
def sp_add (K : Frag) : Sp := fun vs H Q E => ∃ (L : Lay) (m : La) (o need colour runs w : Nat) (t : List Nat) (pn a : Addr), vs = [.ref L.a, .ref pn, .ref a] ∧ At K H L m ∧ Wl.Inv m ∧ H pn = some (.lst (vl [o, need, colour, runs, w])) ∧ H a = some (.lst (vl t)) ∧ L.role a = none ∧ AnsX K a H L (Wl.addM m o need colour runs w t) Q E
theorem ok_add (T : Txt K mg) (D_order_at : DefOk P w K mg base (L2.CX P w) 4 "order_at" P_order_at (sp_order_at K)) (D_ask : DefOk P w K mg base (L2.CX P w) 3 "ask" P_ask (sp_ask K)) (D_read_label : DefOk P w K mg base CX0 3 "read_label" P_read_label (sp_read_label K)) (MThing : MkOk P w K mg base 1 "Thing" P_ThingI (sp_Thing K)) (D_is_load : DefOk P w K mg base CX0 3 "is_load" P_is_load (sp_is_load K)) : DefOk P w K mg base (L2.CX P w) 5 "add" P_add (sp_add K) := by
  refine dokX T (T.fd 35 (d := d_add) (st := s_add) (kp := T.keep "add")) (T.glo "add") sc_add (fun _ _ _ _ _ _ us hl => match us, hl with | [_, _, _], _ => rfl) ?len (fun cdv A outer s H vs Q E hr h => ⟨_, (pss_cons (ps_asg (pv 1) (pg_unl rfl (pgs_cons (pg_name (i := 3) sc_add.nd rfl (Or.inl rfl)) (pgs_cons (pg_name (i := 4) sc_add.nd rfl (Or.inl rfl)) (pgs_cons (pg_name (i := 5) sc_add.nd rfl (Or.inl rfl)) (pgs_cons (pg_name (i := 6) sc_add.nd rfl (Or.inl rfl)) (pgs_cons (pg_name (i := 7) sc_add.nd rfl (Or.inl rfl)) pgs_nil)))))))
      (pss_cons (ps_set (i := 8) sc_add.nd rfl (Or.inl rfl) (pe_dx D_order_at (hr.mono (by decide)) (by rfl) (takes_of rfl rfl rfl rfl) (pa_cons (pv 0) (pa_cons (pv 3) pa_nil))))
      (pss_cons (ps_expr (pe_dx D_ask (hr.mono (by decide)) (by rfl) (takes_of rfl rfl rfl rfl) (pa_cons (pe_cmpR op_eq (pe_fld (pv 8) rfl) (pe_i (i := 0) T (by rfl)) (nomark _)) (pa_cons (pe_un un_neg pe_int) pa_nil))))
      (pss_cons (ps_set (i := 9) sc_add.nd rfl (Or.inl rfl) (pe_d D_read_label (hr.mono (by decide)) (by rfl) (pa_cons (pv 2) pa_nil)))
      (pss_cons (ps_expr (pe_dx D_ask (hr.mono (by decide)) (by rfl) (takes_of rfl rfl rfl rfl) (pa_cons (pe_cmpR op_notN (pv 9) pe_non (nomark _)) (pa_cons (pe_un un_neg pe_int) pa_nil))))
      (pss_cons (ps_expr (pe_dx D_ask (hr.mono (by decide)) (by rfl) (takes_of rfl rfl rfl rfl) (pa_cons (pe_and (pe_cmpR op_in_seq (pv 4) (pe_glob (v := .ref (He.ga K "NEEDS")) (by rfl) (T.glo "NEEDS") rfl) (by rfl)) (pe_and (pe_cmpR op_le (pv 5) (pe_i (i := 9) T (by rfl)) (nomark _)) (pe_and (pe_cmpR op_le (pv 6) pe_int (nomark _)) (pe_and (pe_cmpR op_le pe_int (pv 7) (nomark _)) (pe_one (pe_cmpR op_le (pv 7) (pe_i (i := 20000) T (by rfl)) (nomark _))))))) (pa_cons (pe_un un_neg pe_int) pa_nil))))
      (pss_cons (ps_set (i := 10) sc_add.nd rfl (Or.inr rfl) (pe_n MThing (hr.mono (by decide)) (by rfl) (pa_cons (pv 3) (pa_cons (pv 9) (pa_cons (pv 4) (pa_cons (pv 5) (pa_cons (pv 6) (pa_cons (pv 7) pa_nil))))))))
      (pss_cons (ps_expr (pe_dx D_ask (hr.mono (by decide)) (by rfl) (takes_of rfl rfl rfl rfl) (pa_cons (pe_cmpR (op_neNil (un_of hr)) (pe_lc (own := [("machine", 11)]) (g := (gName 11)) rfl sc_add.nd (pi_list (pe_fld (pv 0) rfl)) (blkOk_by (N := N_add) (sc := defScope s_add) (by decide +kernel)) (fun _ _ _ _ _ => (pg_name (i := 11) sc_add.nd rfl (Or.inl rfl))) (fun _ _ _ _ _ => (pts_one (pt_val (pe_d D_is_load (hr.mono (by decide)) (by rfl) (pa_cons (pe_lst (pa_cons (pv 10) pa_nil)) (pa_cons (pe_fldK K (pv 11)) pa_nil)))))) (fun _ _ _ _ _ => (pv 11))) (pe_lst pa_nil) (nomark _)) (pa_cons (pe_un un_neg pe_int) pa_nil))))
      (pss_cons (ps_expr (pe_dx D_ask (hr.mono (by decide)) (by rfl) (takes_of rfl rfl rfl rfl) (pa_cons (pe_cmpR op_lt (pe_callB call_len_seq (by rfl) (T.free "len") PySem.boot_len (pa_cons (pe_fld (pv 0) rfl) pa_nil)) (pe_i (i := 150) T (by rfl)) (nomark _)) (pa_cons (pe_un un_neg pe_int) pa_nil))))
      (pss_cons (ps_expr (pe_bm PySem.F.plainAttrs_list PySem.F.slot_list_append PySem.F.type_list_append mt_append (pe_fld (pv 0) rfl) (pa_cons (pv 10) pa_nil)))
      (pss_cons (ps_expr (pe_bm PySem.F.plainAttrs_list PySem.F.slot_list_append PySem.F.type_list_append mt_append (pe_fld (pv 8) rfl) (pa_cons (pe_op op_sub (pe_callB call_len_seq (by rfl) (T.free "len") PySem.boot_len (pa_cons (pe_fld (pv 0) rfl) pa_nil)) pe_int) pa_nil)))
      (pss_one (ps_ret (pe_lst (pa_cons (pe_op op_sub (pe_callB call_len_seq (by rfl) (T.free "len") PySem.boot_len (pa_cons (pe_fld (pv 0) rfl) pa_nil)) pe_int) pa_nil))))))))))))))), ?body⟩)
  case len => intro vs H Q E h; obtain ⟨L, m, o, need, colour, runs, w, t, pn, a, rfl, A, I, hpn, ha, na, q⟩ := h; rfl
  case body =>
    obtain ⟨L, m, o, need, colour, runs, w, t, pn, a, rfl, A, I, hpn, ha, na, q⟩ := h
    obtain ⟨dx, hla⟩ := A.la
    unfold Wl.addM at q
    refine ⟨_, rfl, pn, [vn o, vn need, vn colour, vn runs, vn w], rfl, SqL.of hpn, rfl, vn o, _, rfl, vn need, _, rfl, vn colour, _, rfl, vn runs, _, rfl, vn w, _, rfl, rfl, ?_⟩
    refine ⟨_, rfl, _, rfl, L, m, o, rfl, A, fun c => by rw [if_pos c] at q; exact q, fun x hx => ?_⟩
    have ho : o < m.orders.length := by rw [← A.los]; exact (List.getElem?_eq_some_iff.mp hx).1
    rw [if_neg (by omega)] at q
    obtain ⟨dy, ly, y1, y2, r1, r2⟩ := A.ord o x hx
    refine ⟨_, rfl, x, _, dy, _, _, rfl, y1, cOrder T, nOrder_stands T, rfl, rfl, _, rfl, _, _, rfl, askd (Same.refl _) (fun c1 => ?_) (fun c1 => ?_)⟩
    · have c1 : V.int ((od m o).stands : Int) = V.int 0 := c1
      have c1 := V.int.inj c1
      rw [if_neg (by omega)] at q
      refine ⟨_, rfl, a, t, rfl, ha, fun er H1 s1 => ?_, fun lb er H1 p s1 hp lba => ?_⟩
      · rw [er] at q
        exact ⟨_, rfl, rfl, _, rfl, _, _, rfl, askn s1 q⟩
      · rw [er] at q
        have hok := (Wl.readI_ok er).1
        refine ⟨_, rfl, rfl, _, rfl, _, _, rfl, askg s1 (fun _ => ?_) (fun z => nomatch z)⟩
        have q : AnsX K a H L (if ¬ Wl.okN need colour runs w then .no (-22) else if (m.machines.any fun c => Wl.loadB c.bears [⟨o, lb, need, colour, runs, w, false, -1⟩]) = false then .no (-33) else if m.things.length = 150 then .no (-28) else .yes (Wl.addT m o ⟨o, lb, need, colour, runs, w, false, -1⟩) [(m.things.length : Int)]) Q E := q
        refine ⟨_, rfl, _, _, rfl, .inr (T.needs H1), rfl, flat_ints [0, 30, 40, 60, 95], _, rfl, ?_⟩
        rw [inV_int]
        have bad : ¬ Wl.okN need colour runs w → ∀ (H' : Hp) (d : Addr), Same H H' → H d = none → H' d = some (.xd [("number", .int (-22))]) → E (.ref (aRef K)) (some d) H' := fun n => by
          rw [if_pos n] at q; exact q
        refine ite_dec (fun d1 => ⟨_, rfl, _, _, rfl, rfl, _, rfl, ite_dec (fun d2 => ⟨_, rfl, _, _, rfl, rfl, _, rfl, ite_dec (fun d3 => ⟨_, rfl, _, _, rfl, rfl, _, rfl, ite_dec (fun d4 => ⟨_, rfl, _, _, rfl, rfl, _, rfl, _, _, rfl, askd s1 (fun d5 => ?_) (fun d5 => ?_)⟩) (fun d4 => ⟨_, rfl, _, _, rfl, askn s1 (bad fun k => d4 (by have := k.2.2.2.1; omega))⟩)⟩) (fun d3 => ⟨_, rfl, _, _, rfl, askn s1 (bad fun k => d3 (by have := k.2.2.1; omega))⟩)⟩) (fun d2 => ⟨_, rfl, _, _, rfl, askn s1 (bad fun k => d2 (by have := k.2.1; omega))⟩)⟩) (fun d1 => ⟨_, rfl, _, _, rfl, askn s1 (bad fun k => d1 (by have := k.1; simp; omega))⟩)
        · have d5 : (w : Int) ≤ 20000 := d5
          have okn : Wl.okN need colour runs w := ⟨by simp at d1; omega, by omega, by omega, by omega, by omega⟩
          rw [if_neg (fun n => n okn)] at q
          refine ⟨_, rfl, _, rfl, _, rfl, _, rfl, _, rfl, _, rfl, fun z dz hz hdz hne => ⟨z, dz, p, ⟨o, lb, need, colour, runs, w, false, -1⟩, rfl, rfl, rfl, upd_same, fun H2 k2 ez => ⟨rfl, ?_⟩⟩⟩
          have s2 : Same H1 H2 := fun b u e => by
            have n1 := ne_of_none e hz
            exact k2 b u (by rw [upd_ne n1, upd_ne (ne_of_none e hdz)]; exact e) n1
          have s12 := s1.trans s2
          have tz : ThAt K H2 z ⟨o, lb, need, colour, runs, w, false, -1⟩ := ⟨dz, p, a, ez, lba.same s2⟩
          have lms := A.lms
          obtain ⟨dx2, hla2⟩ := (A.same s12).la
          refine ⟨_, rfl, L.a, _, dx, _, _, rfl, s12 _ _ hla, cLaundry T, nLaundry_machines T, rfl, L.lm, rfl, ⟨_, SqL.of (s12 _ _ A.hm)⟩, fun D hD => lcL hD (fun k => Wl.loadB (mc m k).bears [⟨o, lb, need, colour, runs, w, false, -1⟩]) (fun k => V.ref (L.ms.getD k 0)) (SqL.of (s12 _ _ A.hm)) (by rw [List.length_map]; exact line_le (by have := I.mcs; omega)) (fun k v H3 Rt Rf hv sm g1 g2 => ?_) (fun H3 sm e3 => ?_)⟩
          · obtain ⟨y, hy, rfl⟩ := ref_get hv
            have ey : L.ms.getD k 0 = y := getD_of hy
            rw [ey] at g1
            obtain ⟨dm, lm, pm, m1, _⟩ := A.mac k y hy
            have s3 := s12.trans sm
            refine ⟨rfl, _, rfl, (by show 1 ≤ sizeLine; decide), fun p5 hp5 => ⟨_, rfl, y, _, dm, _, _, rfl, same_new hp5 _ _ (s3 _ _ m1), cMachine T, nMachine_bears T, rfl, p5, (mc m k).bears, [z], [⟨o, lb, need, colour, runs, w, false, -1⟩], rfl, SqL.of upd_same, ⟨rfl, fun i u v h1 h2 => ?_⟩, (by show 1 ≤ 200; decide), by simp, fun u hu => ?_, fun H4 s4 => ⟨_, rfl, ite_b (fun c => ⟨_, rfl, g1 _ ((same_new hp5).trans s4) c⟩) (fun c => g2 _ ((same_new hp5).trans s4) c)⟩⟩⟩
            · cases i with
              | zero => cases h1; cases h2; exact tz.same (sm.trans (same_new hp5))
              | succ i => cases h1
            · rw [List.mem_singleton.mp hu]
              exact ⟨hok, okn.2.2.1⟩
          · have s3 := s12.trans sm
            have hml : (L.ms.map V.ref).length = m.machines.length := by rw [List.length_map, lms]
            rw [hml] at e3
            refine ⟨Nat.zero_le _, fun p5 hp5 => ⟨D, p5, _, rfl, rfl, SqL.of (same_new hp5 _ _ e3), SqL.of upd_same, _, rfl, _, _, rfl, askg (s3.trans (same_new hp5)) (fun c2 => ?_) (fun c2 => ?_)⟩⟩
            · have c2 : (!(((List.range m.machines.length).filter fun k => Wl.loadB (mc m k).bears [⟨o, lb, need, colour, runs, w, false, -1⟩]).map fun k => V.ref (L.ms.getD k 0)).isEmpty) = true := c2
              rw [isE, any_rng m (fun c => Wl.loadB c.bears [⟨o, lb, need, colour, runs, w, false, -1⟩]), Bool.not_not] at c2
              rw [if_neg (by rw [c2]; simp)] at q
              have s4 := s3.trans (same_new (o := .lst []) hp5)
              have s24 := sm.trans (same_new (o := .lst []) hp5)
              generalize hH4 : upd H3 p5 (.lst []) = H4 at s4 s24
              refine ⟨_, rfl, L.a, _, dx, _, _, rfl, s4 _ _ hla, cLaundry T, nLaundry_things T, rfl, L.lt, _, rfl, .inl (SqL.of (s4 _ _ A.ht)), _, _, rfl, rfl, _, rfl, _, _, rfl, askd s4 (fun c3 => ?_) (fun c3 => ?_)⟩
              · have c3 : ((L.ts.map V.ref).length : Int) < 150 := c3
                have lts := A.lts
                rw [List.length_map] at c3
                rw [if_neg (by omega)] at q
                -- the thing and its order's list
                have hz0 : H z = none := Same.none_of s1 hz
                have hp0 : H p = none := hp
                have nza : z ≠ a := fun c => by rw [c, ha] at hz0; cases hz0
                have npa : p ≠ a := fun c => by rw [c, ha] at hp0; cases hp0
                have nzp : z ≠ p := fun c => by
                  obtain ⟨⟨d9, e9⟩, _⟩ := lba
                  rw [c, e9] at hz; cases hz
                have A1 := (((A.more (r := .sig m.things.length) na).more_new hp0 (.lab m.things.length)).more_new hz0 (.thi m.things.length)).same s4
                obtain ⟨B1, B2⟩ := A1.addTh (x := z) (lb := p) (sg := a) (dx := dz) (t := ⟨o, lb, need, colour, runs, w, false, -1⟩) (s24 _ _ ez) (lba.same (s2.trans s24)) more_same (by rw [more_ne nzp.symm]; exact more_same) (by rw [more_ne nza.symm, more_ne npa.symm]; exact more_same)
                have B1 : At K (upd H4 L.lt (.lst ((L.ts ++ [z]).map V.ref))) { (((L.more a (.sig m.things.length)).more p (.lab m.things.length)).more z (.thi m.things.length)) with ts := L.ts ++ [z] } { m with things := m.things ++ [⟨o, lb, need, colour, runs, w, false, -1⟩] } := B1
                have B2 : But (((L.more a (.sig m.things.length)).more p (.lab m.things.length)).more z (.thi m.things.length)).role .lt H4 (upd H4 L.lt (.lst ((L.ts ++ [z]).map V.ref))) := B2
                refine ⟨_, rfl, L.a, _, dx, _, _, rfl, s4 _ _ hla, cLaundry T, nLaundry_things T, rfl, .inl ⟨rfl, _, SqL.of (s4 _ _ A.ht)⟩, _, rfl, L.lt, _, _, rfl, rfl, s4 _ _ A.ht, by rw [List.length_map]; exact line_lt (by omega), ?_⟩
                have hH5 : upd H4 L.lt (.lst (L.ts.map V.ref ++ [.ref z])) = upd H4 L.lt (.lst ((L.ts ++ [z]).map V.ref)) := by rw [List.map_append]; rfl
                rw [hH5]
                have F : Frx a H L H4 (((L.more a (.sig m.things.length)).more p (.lab m.things.length)).more z (.thi m.things.length)) := fun b u e n nb => by
                  refine ⟨s4 _ _ e, ?_⟩
                  rw [more_ne (ne_of_none e hz0), more_ne (ne_of_none e hp0), more_ne nb]; exact n
                have F2 : Frx a H L (upd H4 L.lt (.lst ((L.ts ++ [z]).map V.ref))) { (((L.more a (.sig m.things.length)).more p (.lab m.things.length)).more z (.thi m.things.length)) with ts := L.ts ++ [z] } := fun b u e n nb => by
                  obtain ⟨f1, f2⟩ := F b u e n nb
                  exact ⟨B2 _ _ f1 (by rw [f2]; simp), f2⟩
                have big5 : Big H (upd H4 L.lt (.lst ((L.ts ++ [z]).map V.ref))) := Big.upd (Big.of s4)
                generalize hH6 : upd H4 L.lt (.lst ((L.ts ++ [z]).map V.ref)) = H5 at B1 B2 F2 big5
                -- order.things.append
                obtain ⟨dx5, hla5⟩ := B1.la
                obtain ⟨dy5, ly5, z1, z2, _⟩ := B1.ord o x hx
                have z1 : H5 x = some (.ins (He.ga K "Order") dy5 (odF ly5 (od m o))) := z1
                have z2 : H5 ly5 = some (.lst (vl (od m o).things)) := z2
                obtain ⟨C1, C2⟩ := B1.ordL (o := o) (x := x) (ns := (od m o).things ++ [m.things.length]) hx z1
                obtain ⟨ti, tl⟩ := ord_things I ho
                refine ⟨_, rfl, x, _, dy5, _, _, rfl, z1, cOrder T, nOrder_things T, rfl, .inl ⟨rfl, _, SqL.of z2⟩, _, rfl, L.a, _, dx5, _, _, rfl, hla5, cLaundry T, nLaundry_things T, rfl, L.lt, _, rfl, .inl (SqL.of B1.ht), _, _, rfl, rfl, ly5, _, _, rfl, rfl, z2, by rw [vl_len]; exact line_lt (by omega), ?_⟩
                have en : V.int ((((L.ts ++ [z]).map V.ref).length : Int) - 1) = vn m.things.length := by
                  rw [List.length_map, List.length_append, List.length_singleton, lts, vn]; congr 1; omega
                have hH7 : upd H5 ly5 (.lst (vl (od m o).things ++ [V.int ((((L.ts ++ [z]).map V.ref).length : Int) - 1)])) = upd H5 ly5 (.lst (vl ((od m o).things ++ [m.things.length]))) := by rw [en, vl_app]; rfl
                rw [hH7]
                obtain ⟨dx6, hla6⟩ := C1.la
                refine ⟨_, rfl, L.a, _, dx6, _, _, rfl, hla6, cLaundry T, nLaundry_things T, rfl, L.lt, _, rfl, .inl (SqL.of C1.ht), _, _, rfl, rfl, (by show 1 ≤ sizeLine; decide), ?_⟩
                show ∀ p, _ → Q (.ref p) (upd _ p (.lst [V.int ((((L.ts ++ [z]).map V.ref).length : Int) - 1)]))
                rw [en]
                intro p9 hp9
                refine q _ _ p9 (C1.same (same_new hp9)) rfl (fun b u e n nb => ?_) (Big.upd big5 _ hp9) upd_same
                obtain ⟨f1, f2⟩ := F2 b u e n nb
                exact ⟨same_new hp9 _ _ (C2 _ _ f1 (by rw [f2]; simp)), f2⟩
              · have c3 : ¬ ((L.ts.map V.ref).length : Int) < 150 := c3
                have lts := A.lts
                rw [List.length_map] at c3
                have := I.ths
                rw [if_pos (by omega)] at q
                exact q
            · have c2 : (!(((List.range m.machines.length).filter fun k => Wl.loadB (mc m k).bears [⟨o, lb, need, colour, runs, w, false, -1⟩]).map fun k => V.ref (L.ms.getD k 0)).isEmpty) = false := c2
              rw [isE, any_rng m (fun c => Wl.loadB c.bears [⟨o, lb, need, colour, runs, w, false, -1⟩]), Bool.not_not] at c2
              rw [if_pos c2] at q
              exact q
        · have d5 : ¬ (w : Int) ≤ 20000 := d5
          exact bad fun k => d5 (by have := k.2.2.2.2; omega)
    · have c1 : ¬ V.int ((od m o).stands : Int) = V.int 0 := c1
      rw [if_pos (by intro z; exact c1 (by rw [z]; rfl))] at q
      exact q
end
end Wt
end
section
set_option Elab.async false
set_option linter.all false
set_option maxRecDepth 100000
set_option maxHeartbeats 2000000
/-! # plan, run -/
namespace Wt
open PySem PySem.Spec PyProof.Rows L2 Wr
open PySem.W (Frag)
open Wl (Lb Th Od Mc La Cl Out th od mc)
section
variable {P : Program} {w : World} {K : Frag} {mg : Str → Option Value} {base : Heap}
theorem map_snd_zip : ∀ (l a : List Nat), a.length ≤ l.length → (l.zip a).map (fun u => u.2) = a
  | _, [], _ => by simp
  | [], _ :: _, h => by simp at h
  | x :: l, y :: a, h => by
    rw [List.zip_cons_cons, List.map_cons, map_snd_zip l a (by simpa using h)]
theorem loadI_eq {m : La} {b n : Nat} {a : List Nat} (h : Wl.planB m b = some (n, a)) (j : Nat) : Wl.loadI m b j = (((Wl.chosenB m b).zip a).filter fun u => u.2 == j).map fun u => u.1 := by
  unfold Wl.loadI
  rw [h]
  show ((Wl.chosenB m b).zip a).filterMap _ = _
  generalize (Wl.chosenB m b).zip a = z
  induction z with
  | nil => rfl
  | cons u z ih =>
    rw [List.filterMap_cons, List.filter_cons]
    by_cases e : u.2 = j
    · simp only [e, if_true, beq_self_eq_true, List.map_cons]
      rw [← ih]
    · have e2 : (u.2 == j) = false := beq_false_of_ne e
      rw [e2]
      simp only [e, if_false, Bool.false_eq_true]
      exact ih
theorem plan_len {m : La} {b n : Nat} {a : List Nat} (h : Wl.planB m b = some (n, a)) (ne : Wl.chosenB m b ≠ []) : a.length = (Wl.chosenB m b).length ∧ Wl.nl a = n := by
  obtain ⟨h1, h2, _⟩ := Wl.best_spec (l := Wl.piecesB m (Wl.chosenB m b)) (by unfold Wl.piecesB; simpa using ne) h
  refine ⟨?_, h2⟩
  rw [h1]
  unfold Wl.piecesB
  rw [List.length_map]
theorem pairs_nil {H : Hp} {ts : List Addr} {l a : List Nat} (h : PairsAt H ts (l.zip a)) (e : l = []) : ts = [] := by
  have := h.1
  rw [e] at this
  simpa using this
theorem pairs_ne {H : Hp} {ts : List Addr} {l a : List Nat} (h : PairsAt H ts (l.zip a)) (e : l ≠ []) (la : a.length = l.length) : ts ≠ [] := by
  intro z
  have := h.1
  rw [z, List.length_zip, la, Nat.min_self] at this
  exact e (List.length_eq_zero_iff.mp this.symm)
theorem isE_ref (ts : List Addr) : (ts.map V.ref).isEmpty = ts.isEmpty := by cases ts <;> rfl
def sp_plan (K : Frag) : Sp := fun vs H Q E => ∃ (L : Lay) (m : La) (k : Nat), vs = [.ref L.a, vn k] ∧ At K H L m ∧ Wl.Inv m ∧ Ans K H L (Wl.planM m k) Q E
theorem ok_plan (T : Txt K mg) (D_plan_of : DefOk P w K mg base CX0 7 "plan_of" P_plan_of (sp_plan_of K)) (D_ask : DefOk P w K mg base (L2.CX P w) 3 "ask" P_ask (sp_ask K)) (D_machine_at : DefOk P w K mg base (L2.CX P w) 4 "machine_at" P_machine_at (sp_machine_at K)) : DefOk P w K mg base (L2.CX P w) 8 "plan" P_plan (sp_plan K) := by
  refine dokX T (T.fd 37 (d := d_plan) (st := s_plan) (kp := T.keep "plan")) (T.glo "plan") sc_plan (fun _ _ _ _ _ _ us hl => match us, hl with | [_, _], _ => rfl) ?len (fun cdv A outer s H vs Q E hr h => ⟨_, (pss_cons (ps_set (i := 2) sc_plan.nd rfl (Or.inl rfl) (pe_d D_plan_of (hr.mono (by decide)) (by rfl) (pa_cons (pv 0) (pa_cons (pe_dx D_machine_at (hr.mono (by decide)) (by rfl) (takes_of rfl rfl rfl rfl) (pa_cons (pv 0) (pa_cons (pv 1) pa_nil))) pa_nil))))
      (pss_cons (ps_expr (pe_dx D_ask (hr.mono (by decide)) (by rfl) (takes_of rfl rfl rfl rfl) (pa_cons (pe_cmpR (op_neNil (un_of hr)) (pv 2) (pe_lst pa_nil) (nomark _)) (pa_cons (pe_un un_neg pe_int) pa_nil))))
      (pss_cons (ps_set (i := 5) sc_plan.nd rfl (Or.inl rfl) (pe_lst (pa_cons (pe_op op_add pe_int (pe_callB (cr_max rfl) (by rfl) (T.free "max") (by decide +kernel) (pa_cons (pe_lc (own := [("i", 3), ("load", 4)]) (g := (gTup K 2 (gCons (gName 3) (gCons (gName 4) gNil)))) rfl sc_plan.nd (pi_list (pv 2)) (blkOk_by (N := N_plan) (sc := defScope s_plan) (by decide +kernel)) (fun _ _ _ _ _ => (pg_tup rfl (pgs_cons (pg_name (i := 3) sc_plan.nd rfl (Or.inl rfl)) (pgs_cons (pg_name (i := 4) sc_plan.nd rfl (Or.inl rfl)) pgs_nil)))) (fun _ _ _ _ _ => pts_nil) (fun _ _ _ _ _ => (pv 4))) pa_nil))) (pa_cons (pe_callB call_len_seq (by rfl) (T.free "len") PySem.boot_len (pa_cons (pv 2) pa_nil)) pa_nil))))
      (pss_cons (ps_for (passes_of rfl) rfl (pi_list (pv 2)) (pg_tup rfl (pgs_cons (pg_name (i := 3) sc_plan.nd rfl (Or.inl rfl)) (pgs_cons (pg_name (i := 4) sc_plan.nd rfl (Or.inl rfl)) pgs_nil)))
        (pss_one (ps_expr (pe_bm PySem.F.plainAttrs_list PySem.F.slot_list_extend PySem.F.type_list_extend mt_extend (pv 5) (pa_cons (pe_lst (pa_cons (pv 3) (pa_cons (pv 4) pa_nil))) pa_nil)))))
      (pss_one (ps_ret (pv 5))))))), ?body⟩)
  case len => intro vs H Q E h; obtain ⟨L, m, k, rfl, A, I, q⟩ := h; rfl
  case body =>
    obtain ⟨L, m, k, rfl, A, I, q⟩ := h
    unfold Wl.planM at q
    refine ⟨_, rfl, _, rfl, _, rfl, L, m, k, rfl, A, fun c => by rw [if_pos c] at q; exact q, fun x hx => ?_⟩
    have hk : k < m.machines.length := by rw [← A.lms]; exact (List.getElem?_eq_some_iff.mp hx).1
    rw [if_neg (by omega)] at q
    obtain ⟨n, a, hpl⟩ := Wl.planB_some I (mc m k).bears
    refine ⟨L, m, k, x, n, a, rfl, A, hx, I, hpl, fun H1 p ts s1 hp hts e1 pr => ?_⟩
    refine ⟨_, rfl, Nat.zero_le _, fun p2 hp2 => ⟨p, p2, _, rfl, rfl, SqL.of (same_new hp2 _ _ e1), SqL.of upd_same, _, rfl, _, _, rfl, askg (s1.trans (same_new hp2)) (fun c => ?_) (fun c => ?_)⟩⟩
    · have c : (!(ts.map V.ref).isEmpty) = true := c
      have ne : Wl.chosenB m (mc m k).bears ≠ [] := fun z => by
        rw [pairs_nil pr z] at c; cases c
      rw [if_neg ne, hpl] at q
      obtain ⟨la, hn⟩ := plan_len hpl ne
      have q : Ans K H L (.yes m ((n : Int) :: Wl.inz ((Wl.chosenB m (mc m k).bears).length :: ((Wl.chosenB m (mc m k).bears).zip a).flatMap fun y => [y.1, y.2]))) Q E := q
      have hc8 := Wl.chosenB_length m (mc m k).bears
      generalize hC : Wl.chosenB m (mc m k).bears = C at q la ne pr hc8
      have hzl : (C.zip a).length = C.length := by rw [List.length_zip, la, Nat.min_self]
      have htl : ts.length = C.length := by rw [pr.1, hzl]
      have s2 := s1.trans (same_new (o := .lst []) hp2)
      have e2 := same_new (o := .lst []) hp2 _ _ e1
      have pr2 := pr.same (same_new (o := .lst []) hp2)
      generalize hH2 : upd H1 p2 (.lst []) = H2 at s2 e2 pr2
      have rl : (ts.map V.ref).length = C.length := by rw [List.length_map, htl]
      refine ⟨_, rfl, p, rfl, ⟨_, SqL.of e2⟩, fun D hD => lcL hD (fun _ => true) (fun j => vn ((C.zip a).getD j (0, 0)).2) (SqL.of e2) (by rw [rl]; exact line_le (by omega)) (fun j v H3 Rt Rf hv sm g1 g2 => ?_) (fun H3 sm e3 => ?_)⟩
      · obtain ⟨t, ht, rfl⟩ := ref_get hv
        have hj : j < (C.zip a).length := by rw [hzl, ← htl]; exact (List.getElem?_eq_some_iff.mp ht).1
        obtain ⟨u, hu⟩ : ∃ u, (C.zip a)[j]? = some u := ⟨_, List.getElem?_eq_getElem hj⟩
        rw [getD_of hu] at g1
        exact ⟨t, _, rfl, SqT.of (sm _ _ (pr2.2 j t u ht hu)), rfl, _, _, rfl, _, _, rfl, rfl, rfl, _, rfl, g1 _ (Same.refl _) rfl⟩
      · rw [rng_m (C.zip a) (0, 0) (fun u => vn u.2) (by rw [rl, hzl])] at e3
        have ea : (C.zip a).map (fun u => vn u.2) = vl a := by
          have := congrArg (List.map vn) (map_snd_zip C a (by omega))
          rw [List.map_map, vl_map] at this
          exact this
        rw [ea] at e3
        have ane : a ≠ [] := fun z => ne (List.length_eq_zero_iff.mp (by rw [← la, z]; rfl))
        obtain ⟨M, hM⟩ := max_ex a ane
        refine ⟨D, _, rfl, SqL.of e3, by rw [List.length_map]; exact List.length_pos_iff.mpr ane, fun mx m1 m2 => ⟨_, _, rfl, rfl, ?_⟩⟩
        rw [max_uniq hM m1 m2]
        have eM : V.int (1 + (M : Int)) = vn n := by rw [← hn, Wl.nl_max hM, vn]; congr 1; omega
        refine ⟨_, rfl, p, _, rfl, .inl (SqL.of (sm _ _ e2)), (by show 2 ≤ sizeLine; decide), fun D2 hD2 => ?_⟩
        have s3 := s2.trans sm
        have hH : upd H3 D2 (.lst [V.int (1 + (M : Int)), V.int ((ts.map V.ref).length : Nat)]) = upd H3 D2 (.lst (vl [n, C.length])) := by rw [eM, rl]; rfl
        rw [hH]
        have s4 := s3.trans (same_new (o := .lst (vl [n, C.length])) hD2)
        have hD20 : H D2 = none := Same.none_of s3 hD2
        have e4 := same_new (o := .lst (vl [n, C.length])) hD2 _ _ (sm _ _ e2)
        have pr4 := (pr2.same sm).same (same_new (o := .lst (vl [n, C.length])) hD2)
        refine ⟨_, rfl, p, rfl, ⟨_, SqL.of e4⟩, for_list (xs := ts.map V.ref) (fun j σ H' => (∃ u v, σ = [some (.ref L.a), some (vn k), some (.ref p), u, v, some (.ref D2)]) ∧ Same H H' ∧ H' p = some (.lst (ts.map V.ref)) ∧ PairsAt H' ts (C.zip a) ∧ H' D2 = some (.lst (vl (n :: C.length :: ((C.zip a).take j).flatMap fun y => [y.1, y.2])))) ⟨⟨_, _, rfl⟩, s4, e4, pr4, upd_same⟩ (fun j σ H' _ h => SqL.of h.2.2.1) ?_ ?_⟩
        · rintro j v σ H' hv ⟨⟨u, v', rfl⟩, sm', ep, prr, eD⟩
          obtain ⟨t, ht, rfl⟩ := ref_get hv
          have hj : j < (C.zip a).length := by rw [hzl, ← htl]; exact (List.getElem?_eq_some_iff.mp ht).1
          obtain ⟨u, hu⟩ : ∃ u, (C.zip a)[j]? = some u := ⟨_, List.getElem?_eq_getElem hj⟩
          have npD : p ≠ D2 := fun z => by rw [z] at e2; rw [Same.none_of sm hD2] at e2; cases e2
          refine ⟨t, _, rfl, SqT.of (prr.2 j t u ht hu), rfl, _, _, rfl, _, _, rfl, rfl, ?_⟩
          refine ⟨_, rfl, .inl ⟨rfl, _, SqL.of eD⟩, _, rfl, _, rfl, (by show 2 ≤ sizeLine; decide), fun p6 hp6 => ⟨D2, p6, _, _, rfl, rfl, same_new hp6 _ _ eD, upd_same, ?_, ⟨_, _, rfl⟩, Same.grow (sm'.trans (same_new hp6)) hD20, by rw [upd_ne npD]; exact same_new hp6 _ _ ep, ⟨prr.1, fun i t' u' h1 h2 => ?_⟩, ?_⟩⟩
          · rw [vl_len]
            show (_ + 1 + 1) + 2 ≤ sizeLine
            have : ((C.zip a).take j |>.flatMap fun y => [y.1, y.2]).length ≤ 16 := by
              have h1 : ∀ z : List (Nat × Nat), (z.flatMap fun y => [y.1, y.2]).length = 2 * z.length := fun z => by
                induction z with
                | nil => rfl
                | cons y z ih => rw [List.flatMap_cons, List.length_append, ih, List.length_cons]; simp; omega
              rw [h1, List.length_take]; omega
            exact line_le (by omega)
          · have e := same_new (o := .lst [vn u.1, vn u.2]) hp6 _ _ (prr.2 i t' u' h1 h2)
            have nt : t' ≠ D2 := fun z => by
              have := prr.2 i t' u' h1 h2
              rw [z, eD] at this; cases this
            rw [upd_ne nt]; exact e
          · rw [upd_same, List.take_add_one, hu]
            show some (HO.lst (vl (n :: C.length :: ((C.zip a).take j).flatMap fun y => [y.1, y.2]) ++ [vn u.1, vn u.2])) = _
            have : (n :: C.length :: (((C.zip a).take j) ++ [u]).flatMap fun y => [y.1, y.2]) = (n :: C.length :: ((C.zip a).take j).flatMap fun y => [y.1, y.2]) ++ [u.1, u.2] := by
              rw [List.flatMap_append]; simp
            show _ = some (HO.lst (vl (n :: C.length :: (((C.zip a).take j) ++ [u]).flatMap fun y => [y.1, y.2])))
            rw [this, vl_app]; rfl
        · rintro σ H' ⟨⟨u, v', rfl⟩, sm', ep, prr, eD⟩
          rw [List.length_map, pr.1, List.take_length] at eD
          exact ⟨_, rfl, q H' L D2 (A.same sm') rfl (Frm.same sm') hD20 eD⟩
    · have c : (!(ts.map V.ref).isEmpty) = false := c
      have ce : Wl.chosenB m (mc m k).bears = [] := by
        by_cases z : Wl.chosenB m (mc m k).bears = []
        · exact z
        · have := pairs_ne pr z (plan_len hpl z).1
          rw [isE_ref] at c
          cases ts with
          | nil => exact absurd rfl this
          | cons y r => cases c
      rw [if_pos ce] at q
      exact q
/-- a free address bears no role -/
def Lay.wipe (L : Lay) (p : Addr) : Lay := { L with role := fun b => if b = p then none else L.role b }
theorem wipe_ne {L : Lay} {p b : Addr} (h : b ≠ p) : (L.wipe p).role b = L.role b := if_neg h
theorem wipe_at {L : Lay} {p : Addr} : (L.wipe p).role p = none := if_pos rfl
theorem At.wipe_new {H : Hp} {L : Lay} {m : La} (A : At K H L m) {p : Addr} (hp : H p = none) : At K H (L.wipe p) m := by
  have k : ∀ {b o q}, H b = some o → L.role b = some q → (L.wipe p).role b = some q := fun hb h => by rw [wipe_ne (ne_of_none hb hp)]; exact h
  exact { la := A.la, hm := A.hm, ho := A.ho, ht := A.ht, lms := A.lms, los := A.los, lts := A.lts
          mac := fun j x e => by
            obtain ⟨dx, l, q, h1, h2, h3, h4, h5, h6⟩ := A.mac j x e
            exact ⟨dx, l, q, h1, h2, h3, k h1 h4, k h2 h5, k h3 h6⟩
          ord := fun j x e => by
            obtain ⟨dx, l, h1, h2, h4, h5⟩ := A.ord j x e
            exact ⟨dx, l, h1, h2, k h1 h4, k h2 h5⟩
          thi := fun j x e => by
            obtain ⟨dx, lb, sg, h1, ⟨⟨d2, h2⟩, h3⟩, h4, h5, h6⟩ := A.thi j x e
            exact ⟨dx, lb, sg, h1, ⟨⟨d2, h2⟩, h3⟩, k h1 h4, k h2 h5, k h3 h6⟩
          ra := by obtain ⟨dx, h⟩ := A.la; exact k h A.ra
          rm := k A.hm A.rm, ro := k A.ho A.ro, rt := k A.ht A.rt }
theorem wipe_none {L : Lay} {p b : Addr} (h : L.role b = none) : (L.wipe p).role b = none := by
  by_cases c : b = p
  · rw [c]; exact wipe_at
  · rw [wipe_ne c]; exact h
theorem mild_heat {ts : List Th} {p : Kyk1.Program} (h : Kyk1.program (ts.map Wl.absX) = some p) : p.heat = 30 ∨ p.heat = 40 ∨ p.heat = 60 ∨ p.heat = 95 := by
  unfold Kyk1.program at h
  obtain ⟨x, h1, h2⟩ := Option.map_eq_some_iff.mp h
  have := List.mem_of_find?_eq_some h1
  subst h2
  simpa [Kyk1.heats] using this
def sp_run (K : Frag) : Sp := fun vs H Q E => ∃ (L : Lay) (m : La) (k j : Nat), vs = [.ref L.a, vn k, vn j] ∧ At K H L m ∧ Wl.Inv m ∧ Ans K H L (Wl.runM m k j) Q E
theorem ok_run (T : Txt K mg) (D_machine_at : DefOk P w K mg base (L2.CX P w) 4 "machine_at" P_machine_at (sp_machine_at K)) (D_ask : DefOk P w K mg base (L2.CX P w) 3 "ask" P_ask (sp_ask K)) (D_plan_of : DefOk P w K mg base CX0 7 "plan_of" P_plan_of (sp_plan_of K)) (D_run_load : DefOk P w K mg base CX0 2 "run_load" P_run_load (sp_run_load K)) (D_is_running : DefOk P w K mg base CX0 1 "is_running" P_is_running (sp_is_running K)) : DefOk P w K mg base (L2.CX P w) 8 "run" P_run (sp_run K) := by
  refine dokX T (T.fd 38 (d := d_run) (st := s_run) (kp := T.keep "run")) (T.glo "run") sc_run (fun _ _ _ _ _ _ us hl => match us, hl with | [_, _, _], _ => rfl) ?len (fun cdv A outer s H vs Q E hr h => ⟨_, (pss_cons (ps_set (i := 3) sc_run.nd rfl (Or.inl rfl) (pe_dx D_machine_at (hr.mono (by decide)) (by rfl) (takes_of rfl rfl rfl rfl) (pa_cons (pv 0) (pa_cons (pv 1) pa_nil))))
      (pss_cons (ps_expr (pe_dx D_ask (hr.mono (by decide)) (by rfl) (takes_of rfl rfl rfl rfl) (pa_cons (pe_not (pe_fld (pv 3) rfl)) (pa_cons (pe_un un_neg pe_int) pa_nil))))
      (pss_cons (ps_expr (pe_dx D_ask (hr.mono (by decide)) (by rfl) (takes_of rfl rfl rfl rfl) (pa_cons (pe_not (pe_d D_is_running (hr.mono (by decide)) (by rfl) (pa_cons (pv 3) pa_nil))) (pa_cons (pe_un un_neg pe_int) pa_nil))))
      (pss_cons (ps_set (i := 4) sc_run.nd rfl (Or.inl rfl) (pe_d D_plan_of (hr.mono (by decide)) (by rfl) (pa_cons (pv 0) (pa_cons (pv 3) pa_nil))))
      (pss_cons (ps_expr (pe_dx D_ask (hr.mono (by decide)) (by rfl) (takes_of rfl rfl rfl rfl) (pa_cons (pe_cmpR (op_neNil (un_of hr)) (pv 4) (pe_lst pa_nil) (nomark _)) (pa_cons (pe_un un_neg pe_int) pa_nil))))
      (pss_cons (ps_setLc (i := 5) (own := [("i", 6), ("load", 7)]) (g := (gTup K 2 (gCons (gName 6) (gCons (gName 7) gNil)))) rfl sc_run.nd rfl rfl (sw_true rfl rfl rfl (by decide +kernel)) (pi_list (pv 4)) (blkOk_by (N := N_run) (sc := defScope s_run) (by decide +kernel)) (fun _ _ _ _ _ => (pg_tup rfl (pgs_cons (pg_name (i := 6) sc_run.nd rfl (Or.inl rfl)) (pgs_cons (pg_name (i := 7) sc_run.nd rfl (Or.inl rfl)) pgs_nil)))) (fun _ _ _ _ _ => (pts_one (pt_cmpR op_eq (pv 7) (pv 2) (nomark _)))) (fun _ _ _ _ _ => (pv 6)))
      (pss_cons (ps_expr (pe_dx D_ask (hr.mono (by decide)) (by rfl) (takes_of rfl rfl rfl rfl) (pa_cons (pe_cmpR (op_neNil (un_of hr)) (pv 5) (pe_lst pa_nil) (nomark _)) (pa_cons (pe_un un_neg pe_int) pa_nil))))
      (pss_cons (ps_expr (pe_d D_run_load (hr.mono (by decide)) (by rfl) (pa_cons (pv 0) (pa_cons (pv 1) (pa_cons (pv 5) pa_nil)))))
      (pss_one (ps_ret (pe_op op_cat (pe_lst (pa_cons (pe_op op_sub (pe_fld (pv 3) rfl) (pe_fld (pv 0) rfl)) pa_nil)) (pe_callTy call_list_of (by rfl) (T.free "list") (by decide +kernel) (pa_cons (pe_fld (pv 3) rfl) pa_nil))))))))))))), ?body⟩)
  case len => intro vs H Q E h; obtain ⟨L, m, k, j, rfl, A, I, q⟩ := h; rfl
  case body =>
    obtain ⟨L, m, k, j, rfl, A, I, q⟩ := h
    unfold Wl.runM at q
    refine ⟨_, rfl, _, rfl, L, m, k, rfl, A, fun c => by rw [if_pos c] at q; exact q, fun x hx => ?_⟩
    have hk : k < m.machines.length := by rw [← A.lms]; exact (List.getElem?_eq_some_iff.mp hx).1
    rw [if_neg (by omega)] at q
    obtain ⟨dm, lm, pm, x1, x2, x3, r1, r2, r3⟩ := A.mac k x hx
    refine ⟨_, rfl, x, _, dm, _, _, rfl, x1, cMachine T, nMachine_is_broken T, rfl, _, rfl, _, rfl, _, _, rfl, askg (Same.refl _) (fun c => ?_) (fun c => ?_)⟩
    · have c : (!(mc m k).broken) = true := c
      rw [if_neg (by intro z; rw [z] at c; cases c)] at q
      refine ⟨_, rfl, x, dm, lm, pm, mc m k, rfl, x1, x2, fun H1 s1 => ⟨_, rfl, _, rfl, _, _, rfl, askg s1 (fun c2 => ?_) (fun c2 => ?_)⟩⟩
      · have c2 : (!(!(mc m k).things.isEmpty)) = true := c2
        rw [Bool.not_not] at c2
        rw [if_neg (by intro z; exact z (List.isEmpty_iff.mp c2))] at q
        obtain ⟨n, a, hpl⟩ := Wl.planB_some I (mc m k).bears
        refine ⟨_, rfl, _, rfl, L, m, k, x, n, a, rfl, A.same s1, hx, I, hpl, fun H2 p ts s2 hp hts e2 pr => ?_⟩
        have s12 := s1.trans s2
        refine ⟨_, rfl, Nat.zero_le _, fun p2 hp2 => ⟨p, p2, _, rfl, rfl, SqL.of (same_new hp2 _ _ e2), SqL.of upd_same, _, rfl, _, _, rfl, askg (s12.trans (same_new hp2)) (fun c3 => ?_) (fun c3 => ?_)⟩⟩
        · have c3 : (!(ts.map V.ref).isEmpty) = true := c3
          have ne : Wl.chosenB m (mc m k).bears ≠ [] := fun z => by
            rw [pairs_nil pr z] at c3; cases c3
          rw [if_neg ne] at q
          obtain ⟨la, hn⟩ := plan_len hpl ne
          have hc8 := Wl.chosenB_length m (mc m k).bears
          have sub := Wl.loadI_sub (m := m) (mc m k).bears j
          have lie := loadI_eq hpl j
          have prog := Wl.loadI_prog (m := m) (b := (mc m k).bears) (j := j)
          have hcm : ∀ i ∈ Wl.loadI m (mc m k).bears j, i < m.things.length := fun i hi => (Wl.chosenB_mem (sub.subset hi)).1
          have hl8 : (Wl.loadI m (mc m k).bears j).length ≤ 8 := Nat.le_trans sub.length_le hc8
          generalize hLI : Wl.loadI m (mc m k).bears j = LI at q lie prog hcm hl8
          generalize hC : Wl.chosenB m (mc m k).bears = C at lie la ne pr hc8
          have hzl : (C.zip a).length = C.length := by rw [List.length_zip, la, Nat.min_self]
          have htl : ts.length = C.length := by rw [pr.1, hzl]
          have s3 := s12.trans (same_new (o := .lst []) hp2)
          have e3 := same_new (o := .lst []) hp2 _ _ e2
          have pr3 := pr.same (same_new (o := .lst []) hp2)
          have rl : (ts.map V.ref).length = C.length := by rw [List.length_map, htl]
          refine ⟨_, rfl, p, rfl, ⟨_, SqL.of e3⟩, fun D hD => lcL hD (fun i => ((C.zip a).getD i (0, 0)).2 == j) (fun i => vn ((C.zip a).getD i (0, 0)).1) (SqL.of e3) (by rw [rl]; exact line_le (by omega)) (fun i v H4 Rt Rf hv sm g1 g2 => ?_) (fun H4 sm e4 => ?_)⟩
          · obtain ⟨t, ht, rfl⟩ := ref_get hv
            have hj : i < (C.zip a).length := by rw [hzl, ← htl]; exact (List.getElem?_eq_some_iff.mp ht).1
            obtain ⟨u, hu⟩ : ∃ u, (C.zip a)[i]? = some u := ⟨_, List.getElem?_eq_getElem hj⟩
            rw [getD_of hu] at g1 g2
            refine ⟨t, _, rfl, SqT.of (sm _ _ (pr3.2 i t u ht hu)), rfl, _, _, rfl, _, _, rfl, rfl, rfl, _, rfl, _, rfl, rfl, _, rfl, ite_eqI (fun c => ⟨_, rfl, g1 _ (Same.refl _) (by simp; omega)⟩) (fun c => g2 _ (Same.refl _) (by simp; omega))⟩
          · rw [rng_fm (C.zip a) (0, 0) (fun u => u.2 == j) (fun u => vn u.1) (by rw [rl, hzl])] at e4
            have ea : ((C.zip a).filter (fun u => u.2 == j)).map (fun u => vn u.1) = vl LI := by
              rw [lie, ← vl_map, List.map_map]; rfl
            rw [ea] at e4
            have s4 := s3.trans sm
            refine ⟨_, rfl, Nat.zero_le _, fun p5 hp5 => ⟨D, p5, _, rfl, rfl, SqL.of (same_new hp5 _ _ e4), SqL.of upd_same, _, rfl, _, _, rfl, askg (s4.trans (same_new hp5)) (fun c4 => ?_) (fun c4 => ?_)⟩⟩
            · have c4 : (!(vl LI).isEmpty) = true := c4
              have lne : LI ≠ [] := fun z => by rw [z] at c4; cases c4
              rw [if_neg lne] at q
              have s5 := s4.trans (same_new (o := .lst []) hp5)
              have e5 := same_new (o := .lst []) hp5 _ _ e4
              have hD0 : H D = none := Same.none_of s3 hD
              have A5 := (A.wipe_new hD0).same s5
              obtain ⟨pr0, hp0, hm0⟩ := prog lne
              have hp0' : Kyk1.program ((LI.map (th m)).map Wl.absX) = some pr0 := by rw [List.map_map]; exact hp0
              refine ⟨_, rfl, _, rfl, _, rfl, L.wipe D, m, k, D, LI, pr0.heat, pr0.gentle, pr0.bleach, pr0.dry, rfl, A5, hk, e5, wipe_at, hl8, lne, hcm, fun t ht => (I.th_ok t ht).1.lb, hm0, mild_heat hp0', fun H6 L6 A6 F6 K6 b6 => ?_⟩
              obtain ⟨r6, rfl⟩ := K6
              have hx6 : ({ L.wipe D with role := r6 } : Lay).ms[k]? = some x := hx
              obtain ⟨dm6, lm6, pm6, y1, y2, y3, _⟩ := A6.mac k x hx6
              obtain ⟨dx6, hla6⟩ := A6.la
              have em : mc (Wl.runL m k LI) k = { mc m k with things := LI, prog := Wl.mildP (LI.map (th m)), till := m.now + Wl.minP (Wl.mildP (LI.map (th m))) } := mc_set1 (m := { m with things := Wl.modL (fun t => { t with mach := (k : Int) }) LI m.things }) hk
              rw [em] at y1 y3
              have hla6 : H6 L.a = some (.ins (He.ga K "Laundry") dx6 (laF L.lm L.lo L.lt (Wl.runL m k LI))) := hla6
              refine ⟨_, rfl, x, _, dm6, _, _, rfl, y1, cMachine T, nMachine_until T, rfl, _, rfl, L.a, _, dx6, _, _, rfl, hla6, cLaundry T, nLaundry_now T, rfl, _, _, rfl, rfl, (by show 1 ≤ sizeLine; decide), fun p7 hp7 => ?_⟩
              have y3' : (upd H6 p7 (.lst [V.int (((m.now + Wl.minP (Wl.mildP (LI.map (th m))) : Nat) : Int) - (m.now : Int))])) pm6 = some (.tup (vl (Wl.mildP (LI.map (th m))))) := same_new hp7 _ _ y3
              refine ⟨_, rfl, x, _, dm6, _, _, rfl, same_new hp7 _ _ y1, cMachine T, nMachine_program T, rfl, pm6, _, rfl, .inr (SqT.of y3'), fun p8 hp8 => ?_⟩
              have n87 : p7 ≠ p8 := (ne_of_none upd_same hp8)
              refine ⟨p7, p8, _, _, rfl, rfl, (upd_ne n87).trans upd_same, upd_same, ?_, fun p9 hp9 => ?_⟩
              · rw [hm0]; show 1 + 4 ≤ sizeLine; exact line_le (by omega)
              · have en : V.int (((m.now + Wl.minP (Wl.mildP (LI.map (th m))) : Nat) : Int) - (m.now : Int)) = vn (Wl.minP (Wl.mildP (LI.map (th m)))) := by rw [vn]; congr 1; omega
                have s78 := (same_new (o := .lst [V.int (((m.now + Wl.minP (Wl.mildP (LI.map (th m))) : Nat) : Int) - (m.now : Int))]) hp7).trans (same_new (o := .lst (vl (Wl.mildP (LI.map (th m))))) hp8)
                have s9 := s78.trans (same_new (o := .lst ([V.int (((m.now + Wl.minP (Wl.mildP (LI.map (th m))) : Nat) : Int) - (m.now : Int))] ++ vl (Wl.mildP (LI.map (th m))))) hp9)
                refine q _ _ p9 (A6.same s9) rfl (fun b u e nn => ?_) ?_ ?_
                · have nb : b ≠ D := ne_of_none e hD0
                  obtain ⟨f1, f2⟩ := F6 b u (s5 _ _ e) (wipe_none nn) nb
                  exact ⟨s9 _ _ f1, f2⟩
                · exact Same.none_of s5 (b6 _ (Same.none_of s78 hp9))
                · refine upd_same.trans ?_
                  show some (HO.lst ([V.int (((m.now + Wl.minP (Wl.mildP (LI.map (th m))) : Nat) : Int) - (m.now : Int))] ++ vl (Wl.mildP (LI.map (th m))))) = _
                  rw [en]; rfl
            · have c4 : (!(vl LI).isEmpty) = false := c4
              have lne : LI = [] := by simpa using c4
              rw [if_pos lne] at q
              exact q
        · have c3 : (!(ts.map V.ref).isEmpty) = false := c3
          have ce : Wl.chosenB m (mc m k).bears = [] := by
            by_cases z : Wl.chosenB m (mc m k).bears = []
            · exact z
            · have := pairs_ne pr z (plan_len hpl z).1
              rw [isE_ref] at c3
              cases ts with
              | nil => exact absurd rfl this
              | cons y r => cases c3
          rw [if_pos ce] at q
          exact q
      · have c2 : (!(!(mc m k).things.isEmpty)) = false := c2
        rw [Bool.not_not] at c2
        rw [if_pos (by intro z; rw [z] at c2; cases c2)] at q
        exact q
    · have c : (!(mc m k).broken) = false := c
      rw [if_pos (by simpa using c)] at q
      exact q
end
end Wt
end
section
set_option Elab.async false
set_option linter.all false
set_option maxRecDepth 100000
set_option maxHeartbeats 2000000
/-! # The calls that ask -/
namespace Wt
open PySem PySem.Spec PyProof.Rows L2 Wr
open PySem.W (Frag)
open Wl (Lb Th Od Mc La Cl Out th od mc)
section
variable {P : Program} {w : World} {K : Frag} {mg : Str → Option Value} {base : Heap}
theorem Ans.stay {H H1 : Hp} {L : Lay} {m : La} {out : List Int} {Q : VK} {E : XK} (q : Ans K H L (.yes m out) Q E) (A : At K H L m) (s : Same H H1) : ∀ p, H1 p = none → Q (.ref p) (upd H1 p (.lst (out.map V.int))) := q.give (A.same s) (Frm.same s) (Big.of s)
def sp_where (K : Frag) : Sp := fun vs H Q E => ∃ (L : Lay) (m : La) (i : Nat), vs = [.ref L.a, vn i] ∧ At K H L m ∧ Wl.Inv m ∧ Ans K H L (Wl.whereM m i) Q E
theorem ok_where (T : Txt K mg) (D_thing_at : DefOk P w K mg base (L2.CX P w) 4 "thing_at" P_thing_at (sp_thing_at K)) (D_where_is : DefOk P w K mg base CX0 1 "where_is" P_where_is (sp_where_is K)) : DefOk P w K mg base (L2.CX P w) 5 "where" P_where (sp_where K) := by
  refine dokX T (T.fd 44 (d := d_where) (st := s_where) (kp := T.keep "where")) (T.glo "where") sc_where (fun _ _ _ _ _ _ us hl => match us, hl with | [_, _], _ => rfl) ?len (fun cdv A outer s H vs Q E hr h => ⟨_, (pss_cons (ps_set (i := 2) sc_where.nd rfl (Or.inl rfl) (pe_dx D_thing_at (hr.mono (by decide)) (by rfl) (takes_of rfl rfl rfl rfl) (pa_cons (pv 0) (pa_cons (pv 1) pa_nil))))
      (pss_one (ps_ret (pe_lst (pa_cons (pe_d D_where_is (hr.mono (by decide)) (by rfl) (pa_cons (pv 0) (pa_cons (pv 1) pa_nil))) (pa_cons (pe_fld (pv 2) rfl) pa_nil)))))), ?body⟩)
  case len => intro vs H Q E h; obtain ⟨L, m, i, rfl, A, I, q⟩ := h; rfl
  case body =>
    obtain ⟨L, m, i, rfl, A, I, q⟩ := h
    unfold Wl.whereM at q
    refine ⟨_, rfl, _, rfl, L, m, i, rfl, A, fun c => by rw [if_pos c] at q; exact q, fun x hx => ?_⟩
    have hi : i < m.things.length := by rw [← A.lts]; exact (List.getElem?_eq_some_iff.mp hx).1
    rw [if_neg (by omega)] at q
    obtain ⟨dt, lb, sg, t1, _⟩ := A.thi i x hx
    exact ⟨_, rfl, _, rfl, L, m, i, rfl, A, hi, Wl.th_order I hi, fun H1 s1 => ⟨_, rfl, x, _, dt, _, _, rfl, s1 _ _ t1, cThing T, nThing_order T, rfl, (by show 2 ≤ sizeLine; decide), q.stay A s1⟩⟩
theorem told_len (x : Kyk1.Label) (h : x.gentle ≤ 2) : (Kyk1.told x).length ≤ 11 := by
  unfold Kyk1.told
  simp
  try omega
def sp_label_told (K : Frag) : Sp := fun vs H Q E => ∃ (L : Lay) (m : La) (i : Nat), vs = [.ref L.a, vn i] ∧ At K H L m ∧ Wl.Inv m ∧ Ans K H L (Wl.labelM m i) Q E
theorem ok_label_told (T : Txt K mg) (D_thing_at : DefOk P w K mg base (L2.CX P w) 4 "thing_at" P_thing_at (sp_thing_at K)) : DefOk P w K mg base (L2.CX P w) 5 "label_told" P_label_told (sp_label_told K) := by
  refine dokX T (T.fd 45 (d := d_label_told) (st := s_label_told) (kp := T.keep "label_told")) (T.glo "label_told") sc_label_told (fun _ _ _ _ _ _ us hl => match us, hl with | [_, _], _ => rfl) ?len (fun cdv A outer s H vs Q E hr h => ⟨_, (pss_cons (ps_set (i := 2) sc_label_told.nd rfl (Or.inl rfl) (pe_dx D_thing_at (hr.mono (by decide)) (by rfl) (takes_of rfl rfl rfl rfl) (pa_cons (pv 0) (pa_cons (pv 1) pa_nil))))
      (pss_one (ps_ret (pe_op op_cat (pe_lst (pa_cons (pe_callB call_len_seq (by rfl) (T.free "len") PySem.boot_len (pa_cons (pe_fld (pe_fld (pv 2) rfl) rfl) pa_nil)) pa_nil)) (pe_fld (pe_fld (pv 2) rfl) rfl))))), ?body⟩)
  case len => intro vs H Q E h; obtain ⟨L, m, i, rfl, A, I, q⟩ := h; rfl
  case body =>
    obtain ⟨L, m, i, rfl, A, I, q⟩ := h
    unfold Wl.labelM at q
    refine ⟨_, rfl, _, rfl, L, m, i, rfl, A, fun c => by rw [if_pos c] at q; exact q, fun x hx => ?_⟩
    have hi : i < m.things.length := by rw [← A.lts]; exact (List.getElem?_eq_some_iff.mp hx).1
    rw [if_neg (by omega)] at q
    obtain ⟨dt, lb, sg, t1, ⟨⟨d2, t2⟩, t3⟩, _⟩ := A.thi i x hx
    have ok := (I.th_ok _ (List.mem_of_getElem? (Wl.th_some hi))).1.lb
    have hl : (th m i).lb.signs.length ≤ 11 := by rw [← ok.told]; exact told_len _ ok.gentle
    refine ⟨_, rfl, x, _, dt, _, _, rfl, t1, cThing T, nThing_label T, rfl, lb, _, d2, _, _, rfl, t2, cLabel T, nLabel_signs T, rfl, sg, _, rfl, .inl (SqL.of t3), (by show 1 ≤ sizeLine; decide), fun p hp => ?_⟩
    have s1 := same_new (o := .lst [V.int ((vl (th m i).lb.signs).length : Nat)]) hp
    refine ⟨_, rfl, x, _, dt, _, _, rfl, s1 _ _ t1, cThing T, nThing_label T, rfl, lb, _, d2, _, _, rfl, s1 _ _ t2, cLabel T, nLabel_signs T, rfl, p, sg, _, _, rfl, rfl, upd_same, s1 _ _ t3, by rw [vl_len]; show 1 + _ ≤ sizeLine; exact line_le (by omega), fun p2 hp2 => ?_⟩
    have := q.stay A s1 p2 hp2
    rw [show ((Wl.inz ((th m i).lb.signs.length :: (th m i).lb.signs)).map V.int) = [V.int ((vl (th m i).lb.signs).length : Nat)] ++ vl (th m i).lb.signs by rw [vl_len]; rfl] at this
    exact this
def sp_thing_told (K : Frag) : Sp := fun vs H Q E => ∃ (L : Lay) (m : La) (i : Nat), vs = [.ref L.a, vn i] ∧ At K H L m ∧ Wl.Inv m ∧ Ans K H L (Wl.thingM m i) Q E
theorem ok_thing_told (T : Txt K mg) (D_thing_at : DefOk P w K mg base (L2.CX P w) 4 "thing_at" P_thing_at (sp_thing_at K)) : DefOk P w K mg base (L2.CX P w) 5 "thing_told" P_thing_told (sp_thing_told K) := by
  refine dokX T (T.fd 46 (d := d_thing_told) (st := s_thing_told) (kp := T.keep "thing_told")) (T.glo "thing_told") sc_thing_told (fun _ _ _ _ _ _ us hl => match us, hl with | [_, _], _ => rfl) ?len (fun cdv A outer s H vs Q E hr h => ⟨_, (pss_cons (ps_set (i := 2) sc_thing_told.nd rfl (Or.inl rfl) (pe_dx D_thing_at (hr.mono (by decide)) (by rfl) (takes_of rfl rfl rfl rfl) (pa_cons (pv 0) (pa_cons (pv 1) pa_nil))))
      (pss_one (ps_ret (pe_lst (pa_cons (pe_fld (pv 2) rfl) (pa_cons (pe_fld (pv 2) rfl) (pa_cons (pe_fld (pv 2) rfl) (pa_cons (pe_fld (pv 2) rfl) pa_nil)))))))), ?body⟩)
  case len => intro vs H Q E h; obtain ⟨L, m, i, rfl, A, I, q⟩ := h; rfl
  case body =>
    obtain ⟨L, m, i, rfl, A, I, q⟩ := h
    unfold Wl.thingM at q
    refine ⟨_, rfl, _, rfl, L, m, i, rfl, A, fun c => by rw [if_pos c] at q; exact q, fun x hx => ?_⟩
    have hi : i < m.things.length := by rw [← A.lts]; exact (List.getElem?_eq_some_iff.mp hx).1
    rw [if_neg (by omega)] at q
    obtain ⟨dt, lb, sg, t1, _⟩ := A.thi i x hx
    exact ⟨_, rfl, x, _, dt, _, _, rfl, t1, cThing T, nThing_weight T, rfl, _, rfl, x, _, dt, _, _, rfl, t1, cThing T, nThing_need T, rfl, _, rfl, x, _, dt, _, _, rfl, t1, cThing T, nThing_colour T, rfl, _, rfl, x, _, dt, _, _, rfl, t1, cThing T, nThing_runs T, rfl, (by show 4 ≤ sizeLine; decide), q.stay A (Same.refl _)⟩
def sp_machine_told (K : Frag) : Sp := fun vs H Q E => ∃ (L : Lay) (m : La) (k : Nat), vs = [.ref L.a, vn k] ∧ At K H L m ∧ Wl.Inv m ∧ Ans K H L (Wl.machineM m k) Q E
theorem ok_machine_told (T : Txt K mg) (D_machine_at : DefOk P w K mg base (L2.CX P w) 4 "machine_at" P_machine_at (sp_machine_at K)) (D_is_running : DefOk P w K mg base CX0 1 "is_running" P_is_running (sp_is_running K)) : DefOk P w K mg base (L2.CX P w) 5 "machine_told" P_machine_told (sp_machine_told K) := by
  refine dokX T (T.fd 48 (d := d_machine_told) (st := s_machine_told) (kp := T.keep "machine_told")) (T.glo "machine_told") sc_machine_told (fun _ _ _ _ _ _ us hl => match us, hl with | [_, _], _ => rfl) ?len (fun cdv A outer s H vs Q E hr h => ⟨_, (pss_cons (ps_set (i := 2) sc_machine_told.nd rfl (Or.inl rfl) (pe_dx D_machine_at (hr.mono (by decide)) (by rfl) (takes_of rfl rfl rfl rfl) (pa_cons (pv 0) (pa_cons (pv 1) pa_nil))))
      (pss_cons (ps_if (pt_val (pe_fld (pv 2) rfl))
        (pss_one (ps_ret (pe_lst (pa_cons pe_int pa_nil))))
        pss_nil)
      (pss_cons (ps_if (pt_val (pe_d D_is_running (hr.mono (by decide)) (by rfl) (pa_cons (pv 2) pa_nil)))
        (pss_one (ps_ret (pe_op op_cat (pe_lst (pa_cons pe_int (pa_cons (pe_fld (pv 2) rfl) pa_nil))) (pe_callTy call_list_of (by rfl) (T.free "list") (by decide +kernel) (pa_cons (pe_fld (pv 2) rfl) pa_nil)))))
        pss_nil)
      (pss_one (ps_ret (pe_lst (pa_cons pe_int pa_nil))))))), ?body⟩)
  case len => intro vs H Q E h; obtain ⟨L, m, k, rfl, A, I, q⟩ := h; rfl
  case body =>
    obtain ⟨L, m, k, rfl, A, I, q⟩ := h
    unfold Wl.machineM at q
    refine ⟨_, rfl, _, rfl, L, m, k, rfl, A, fun c => by rw [if_pos c] at q; exact q, fun x hx => ?_⟩
    have hk : k < m.machines.length := by rw [← A.lms]; exact (List.getElem?_eq_some_iff.mp hx).1
    rw [if_neg (by omega)] at q
    obtain ⟨dm, l, p, x1, x2, x3, _⟩ := A.mac k x hx
    refine ⟨_, rfl, x, _, dm, _, _, rfl, x1, cMachine T, nMachine_is_broken T, rfl, _, rfl, ite_b (fun c => ?_) (fun c => ?_)⟩
    · rw [if_pos c] at q
      exact ⟨(by show 1 ≤ sizeLine; decide), q.stay A (Same.refl _)⟩
    · rw [if_neg (by rw [c]; simp)] at q
      refine ⟨_, rfl, x, dm, l, p, mc m k, rfl, x1, x2, fun H1 s1 => ⟨_, rfl, ite_nb (fun c2 => ?_) (fun c2 => ?_)⟩⟩
      · have tne : (mc m k).things ≠ [] := fun z => by rw [z] at c2; cases c2
        rw [if_pos tne] at q
        have hp : ∃ h g b d, (mc m k).prog = [h, g, b, d] := by
          rcases (I.mc_pr _ (Wl.mc_mem hk)).1 with z | z
          · exact absurd z tne
          · exact z
        obtain ⟨h, g, b, d, hp⟩ := hp
        refine ⟨_, rfl, x, _, dm, _, _, rfl, s1 _ _ x1, cMachine T, nMachine_until T, rfl, (by show 2 ≤ sizeLine; decide), fun p2 hp2 => ?_⟩
        have s2 := s1.trans (same_new (o := .lst [V.int 1, vn (mc m k).till]) hp2)
        refine ⟨_, rfl, x, _, dm, _, _, rfl, s2 _ _ x1, cMachine T, nMachine_program T, rfl, p, _, rfl, .inr (SqT.of (s2 _ _ x3)), fun p3 hp3 => ?_⟩
        have n23 : p2 ≠ p3 := ne_of_none upd_same hp3
        refine ⟨p2, p3, _, _, rfl, rfl, (upd_ne n23).trans upd_same, upd_same, by rw [hp]; show 2 + 4 ≤ sizeLine; decide, fun p4 hp4 => ?_⟩
        exact q.stay A (s2.trans (same_new hp3)) p4 hp4
      · have tn : (mc m k).things = [] := List.isEmpty_iff.mp c2
        rw [if_neg (by rw [tn]; simp)] at q
        exact ⟨(by show 1 ≤ sizeLine; decide), q.stay A s1⟩
def sp_inside (K : Frag) : Sp := fun vs H Q E => ∃ (L : Lay) (m : La) (k : Nat), vs = [.ref L.a, vn k] ∧ At K H L m ∧ Wl.Inv m ∧ Ans K H L (Wl.insideM m k) Q E
theorem ok_inside (T : Txt K mg) (D_machine_at : DefOk P w K mg base (L2.CX P w) 4 "machine_at" P_machine_at (sp_machine_at K)) : DefOk P w K mg base (L2.CX P w) 5 "inside" P_inside (sp_inside K) := by
  refine dokX T (T.fd 49 (d := d_inside) (st := s_inside) (kp := T.keep "inside")) (T.glo "inside") sc_inside (fun _ _ _ _ _ _ us hl => match us, hl with | [_, _], _ => rfl) ?len (fun cdv A outer s H vs Q E hr h => ⟨_, (pss_cons (ps_set (i := 2) sc_inside.nd rfl (Or.inl rfl) (pe_dx D_machine_at (hr.mono (by decide)) (by rfl) (takes_of rfl rfl rfl rfl) (pa_cons (pv 0) (pa_cons (pv 1) pa_nil))))
      (pss_one (ps_ret (pe_op op_cat (pe_lst (pa_cons (pe_callB call_len_seq (by rfl) (T.free "len") PySem.boot_len (pa_cons (pe_fld (pv 2) rfl) pa_nil)) pa_nil)) (pe_fld (pv 2) rfl))))), ?body⟩)
  case len => intro vs H Q E h; obtain ⟨L, m, k, rfl, A, I, q⟩ := h; rfl
  case body =>
    obtain ⟨L, m, k, rfl, A, I, q⟩ := h
    unfold Wl.insideM at q
    refine ⟨_, rfl, _, rfl, L, m, k, rfl, A, fun c => by rw [if_pos c] at q; exact q, fun x hx => ?_⟩
    have hk : k < m.machines.length := by rw [← A.lms]; exact (List.getElem?_eq_some_iff.mp hx).1
    rw [if_neg (by omega)] at q
    obtain ⟨dm, l, p, x1, x2, x3, _⟩ := A.mac k x hx
    have h8 := (I.mc_pr _ (Wl.mc_mem hk)).2.1
    refine ⟨_, rfl, x, _, dm, _, _, rfl, x1, cMachine T, nMachine_things T, rfl, l, _, rfl, .inl (SqL.of x2), (by show 1 ≤ sizeLine; decide), fun p2 hp2 => ?_⟩
    have s1 := same_new (o := .lst [V.int ((vl (mc m k).things).length : Nat)]) hp2
    refine ⟨_, rfl, x, _, dm, _, _, rfl, s1 _ _ x1, cMachine T, nMachine_things T, rfl, p2, l, _, _, rfl, rfl, upd_same, s1 _ _ x2, by rw [vl_len]; show 1 + _ ≤ sizeLine; exact line_le (by omega), fun p3 hp3 => ?_⟩
    have := q.stay A s1 p3 hp3
    rw [show ((Wl.inz ((mc m k).things.length :: (mc m k).things)).map V.int) = [V.int ((vl (mc m k).things).length : Nat)] ++ vl (mc m k).things by rw [vl_len]; rfl] at this
    exact this
def sp_state (K : Frag) : Sp := fun vs H Q E => ∃ (L : Lay) (m : La) (o : Nat), vs = [.ref L.a, vn o] ∧ At K H L m ∧ Wl.Inv m ∧ Ans K H L (Wl.stateM m o) Q E
theorem ok_state (T : Txt K mg) (D_order_at : DefOk P w K mg base (L2.CX P w) 4 "order_at" P_order_at (sp_order_at K)) (D_where_is : DefOk P w K mg base CX0 1 "where_is" P_where_is (sp_where_is K)) : DefOk P w K mg base (L2.CX P w) 5 "state" P_state (sp_state K) := by
  refine dokX T (T.fd 50 (d := d_state) (st := s_state) (kp := T.keep "state")) (T.glo "state") sc_state (fun _ _ _ _ _ _ us hl => match us, hl with | [_, _], _ => rfl) ?len (fun cdv A outer s H vs Q E hr h => ⟨_, (pss_cons (ps_set (i := 2) sc_state.nd rfl (Or.inl rfl) (pe_dx D_order_at (hr.mono (by decide)) (by rfl) (takes_of rfl rfl rfl rfl) (pa_cons (pv 0) (pa_cons (pv 1) pa_nil))))
      (pss_cons (ps_setLc (i := 3) (own := [("i", 4)]) (g := (gName 4)) rfl sc_state.nd rfl rfl (sw_true rfl rfl rfl (by decide +kernel)) (pi_list (pe_fld (pv 2) rfl)) (blkOk_by (N := N_state) (sc := defScope s_state) (by decide +kernel)) (fun _ _ _ _ _ => (pg_name (i := 4) sc_state.nd rfl (Or.inl rfl))) (fun _ _ _ _ _ => (pts_one (pt_cmpR op_eq (pe_d D_where_is (hr.mono (by decide)) (by rfl) (pa_cons (pv 0) (pa_cons (pv 4) pa_nil))) pe_int (nomark _)))) (fun _ _ _ _ _ => (pv 4)))
      (pss_one (ps_ret (pe_lst (pa_cons (pe_fld (pv 2) rfl) (pa_cons (pe_fld (pv 2) rfl) (pa_cons (pe_callB call_len_seq (by rfl) (T.free "len") PySem.boot_len (pa_cons (pe_fld (pv 2) rfl) pa_nil)) (pa_cons (pe_callB call_len_seq (by rfl) (T.free "len") PySem.boot_len (pa_cons (pv 3) pa_nil)) pa_nil))))))))), ?body⟩)
  case len => intro vs H Q E h; obtain ⟨L, m, o, rfl, A, I, q⟩ := h; rfl
  case body =>
    obtain ⟨L, m, o, rfl, A, I, q⟩ := h
    unfold Wl.stateM at q
    refine ⟨_, rfl, _, rfl, L, m, o, rfl, A, fun c => by rw [if_pos c] at q; exact q, fun x hx => ?_⟩
    have ho : o < m.orders.length := by rw [← A.los]; exact (List.getElem?_eq_some_iff.mp hx).1
    rw [if_neg (by omega)] at q
    obtain ⟨dy, ly, y1, y2, _⟩ := A.ord o x hx
    obtain ⟨ti, tl⟩ := ord_things I ho
    refine ⟨_, rfl, x, _, dy, _, _, rfl, y1, cOrder T, nOrder_things T, rfl, ly, rfl, ⟨_, SqL.of y2⟩, fun D hD => lcL hD (fun j => Wl.placeT m ((od m o).things.getD j 0) == 2) (fun j => vn ((od m o).things.getD j 0)) (SqL.of y2) (vl_small tl (by decide)) (fun j v H1 Rt Rf hv sm g1 g2 => ?_) (fun H1 sm e1 => ?_)⟩
    · obtain ⟨i, hj, rfl⟩ := vl_get hv
      rw [getD_of hj] at g1 g2
      have hi := ti i (List.mem_of_getElem? hj)
      exact ⟨rfl, _, rfl, _, rfl, L, m, i, rfl, A.same sm, hi, Wl.th_order I hi, fun H2 s2 => ⟨rfl, _, rfl, ite_eqI (fun c => ⟨_, rfl, g1 _ s2 (by simp; omega)⟩) (fun c => g2 _ s2 (by simp; omega))⟩⟩
    · rw [rng_fm (od m o).things 0 (fun i => Wl.placeT m i == 2) vn (vl_len _), vl_map] at e1
      refine ⟨_, rfl, x, _, dy, _, _, rfl, sm _ _ y1, cOrder T, nOrder_stands T, rfl, _, rfl, x, _, dy, _, _, rfl, sm _ _ y1, cOrder T, nOrder_due T, rfl, _, rfl, x, _, dy, _, _, rfl, sm _ _ y1, cOrder T, nOrder_things T, rfl, ly, _, rfl, .inl (SqL.of (sm _ _ y2)), _, rfl, D, _, rfl, .inl (SqL.of e1), (by show 4 ≤ sizeLine; decide), ?_⟩
      rw [vl_len, vl_len]
      exact q.stay A sm
end
end Wt
end
section
set_option Elab.async false
set_option linter.all false
set_option maxRecDepth 100000
set_option maxHeartbeats 2000000
/-! # late, next, waiting, apart -/
namespace Wt
open PySem PySem.Spec PyProof.Rows L2 Wr
open PySem.W (Frag)
open Wl (Lb Th Od Mc La Cl Out th od mc)
section
variable {P : Program} {w : World} {K : Frag} {mg : Str → Option Value} {base : Heap}
def sp_waiting_told (K : Frag) : Sp := fun vs H Q E => ∃ (L : Lay) (m : La) (E' : XK), vs = [.ref L.a] ∧ At K H L m ∧ Wl.Inv m ∧ Ans K H L (Wl.waitingM m) Q E'
theorem ok_waiting_told (T : Txt K mg) (D_waiting : DefOk P w K mg base CX0 2 "waiting" P_waiting (sp_waiting K)) : DefOk P w K mg base CX0 3 "waiting_told" P_waiting_told (sp_waiting_told K) := by
  refine dok0 T (T.fd 53 (d := d_waiting_told) (st := s_waiting_told) (kp := T.keep "waiting_told")) (T.glo "waiting_told") sc_waiting_told (fun _ _ _ _ _ _ us hl => match us, hl with | [_], _ => rfl) ?len (fun cdv A outer s H vs Q E hr h => ⟨_, (pss_cons (ps_set (i := 1) sc_waiting_told.nd rfl (Or.inl rfl) (pe_d D_waiting (hr.mono (by decide)) (by rfl) (pa_cons (pv 0) pa_nil)))
      (pss_one (ps_ret (pe_op op_cat (pe_lst (pa_cons (pe_callB call_len_seq (by rfl) (T.free "len") PySem.boot_len (pa_cons (pv 1) pa_nil)) pa_nil)) (pv 1))))), ?body⟩)
  case len => intro vs H Q E h; obtain ⟨L, m, E', rfl, A, I, q⟩ := h; rfl
  case body =>
    obtain ⟨L, m, E', rfl, A, I, q⟩ := h
    unfold Wl.waitingM at q
    have hn := I.ths
    have hl := Wl.waitL_length m
    refine ⟨_, rfl, L, m, rfl, A, hn, fun i hi => Wl.th_order I hi, fun H1 p s1 hp e1 => ⟨_, rfl, p, _, rfl, .inl (SqL.of e1), (by show 1 ≤ sizeLine; decide), fun p2 hp2 => ⟨_, rfl, p2, p, _, _, rfl, rfl, upd_same, same_new hp2 _ _ e1, by rw [vl_len]; show 1 + _ ≤ sizeLine; exact line_le (by omega), fun p3 hp3 => ?_⟩⟩⟩
    have := q.stay A (s1.trans (same_new hp2)) p3 hp3
    rw [show ((Wl.inz ((Wl.waitL m).length :: Wl.waitL m)).map V.int) = [V.int ((vl (Wl.waitL m)).length : Nat)] ++ vl (Wl.waitL m) by rw [vl_len]; rfl] at this
    exact this
def sp_late (K : Frag) : Sp := fun vs H Q E => ∃ (L : Lay) (m : La) (E' : XK), vs = [.ref L.a] ∧ At K H L m ∧ Wl.Inv m ∧ Ans K H L (Wl.lateM m) Q E'
theorem ok_late (T : Txt K mg)  : DefOk P w K mg base CX0 1 "late" P_late (sp_late K) := by
  refine dok0 T (T.fd 51 (d := d_late) (st := s_late) (kp := T.keep "late")) (T.glo "late") sc_late (fun _ _ _ _ _ _ us hl => match us, hl with | [_], _ => rfl) ?len (fun cdv A outer s H vs Q E hr h => ⟨_, (pss_cons (ps_set (i := 1) sc_late.nd rfl (Or.inl rfl) (pe_lst pa_nil))
      (pss_cons (ps_for PassesOwn.never rfl (pi_enum (by rfl) (T.free "enumerate") (pa_cons (pe_fld (pv 0) rfl) pa_nil)) (pg_tup rfl (pgs_cons (pg_name (i := 2) sc_late.nd rfl (Or.inl rfl)) (pgs_cons (pg_name (i := 3) sc_late.nd rfl (Or.inl rfl)) pgs_nil)))
        (pss_one (ps_if (PW.pt (pw_and (pt_cmpR op_notIn_seq (pe_fld (pv 3) rfl) (pe_tup (pa_cons (pe_i (i := 3) T (by rfl)) (pa_cons (pe_i (i := 4) T (by rfl)) pa_nil))) (by rfl)) (pw_and1 (pt_cmpR op_lt (pe_fld (pv 3) rfl) (pe_fld (pv 0) rfl) (nomark _)))))
          (pss_one (ps_expr (pe_bm PySem.F.plainAttrs_list PySem.F.slot_list_append PySem.F.type_list_append mt_append (pv 1) (pa_cons (pv 2) pa_nil))))
          pss_nil)))
      (pss_one (ps_ret (pe_op op_cat (pe_lst (pa_cons (pe_callB call_len_seq (by rfl) (T.free "len") PySem.boot_len (pa_cons (pv 1) pa_nil)) pa_nil)) (pv 1)))))), ?body⟩)
  case len => intro vs H Q E h; obtain ⟨L, m, E', rfl, A, I, q⟩ := h; rfl
  case body =>
    obtain ⟨L, m, E', rfl, A, I, q⟩ := h
    unfold Wl.lateM at q
    obtain ⟨dx, hla⟩ := A.la
    have los := A.los
    have hod := I.ods
    have hll : (Wl.lateL m).length ≤ 60 := by
      unfold Wl.lateL
      refine Nat.le_trans (List.length_filter_le _ _) ?_
      rw [List.length_range]; exact hod
    refine ⟨Nat.zero_le _, fun D hD => ?_⟩
    have s0 := same_new (o := .lst []) hD
    refine ⟨_, rfl, L.a, _, dx, _, _, rfl, s0 _ _ hla, cLaundry T, nLaundry_orders T, rfl, L.lo, _, rfl, SqL.of (s0 _ _ A.ho), for_enumL (xs := L.os.map V.ref) (fun i σ H' => (∃ u v, σ = [some (.ref L.a), some (.ref D), u, v]) ∧ Same H H' ∧ H' D = some (.lst (vl ((List.range i).filter fun o => decide ((od m o).stands ≤ 2) && decide ((od m o).due < m.now))))) ⟨⟨_, _, rfl⟩, s0, upd_same⟩ (fun i σ H' _ h => SqL.of (h.2.1 _ _ A.ho)) ?_ ?_⟩
    · rintro o v U σ H' hv ⟨⟨u, v', rfl⟩, sm, eD⟩ hU
      obtain ⟨x, hx, rfl⟩ := ref_get hv
      obtain ⟨dy, ly, y1, _⟩ := A.ord o x hx
      have hol : o < m.orders.length := by rw [← los]; exact (List.getElem?_eq_some_iff.mp hx).1
      have snoc : (List.range (o + 1)).filter (fun o => decide ((od m o).stands ≤ 2) && decide ((od m o).due < m.now)) = (List.range o).filter (fun o => decide ((od m o).stands ≤ 2) && decide ((od m o).due < m.now)) ++ (if (decide ((od m o).stands ≤ 2) && decide ((od m o).due < m.now)) = true then [o] else []) := by
        have := rng_snoc (fun o => decide ((od m o).stands ≤ 2) && decide ((od m o).due < m.now)) (fun o => o) o
        rw [List.map_id', List.map_id'] at this
        exact this
      have s1 := sm.trans (same_new (o := .tup [.int (o : Nat), .ref x]) hU)
      have e1 := same_new (o := .tup [.int (o : Nat), .ref x]) hU _ _ eD
      have st4 := (I.od_ok o hol).1
      have ei : inV (vn (od m o).stands) [V.int 3, V.int 4] = !decide ((od m o).stands ≤ 2) := by
        have h1 : inV (vn (od m o).stands) ([3, 4].map V.int) = !decide ((od m o).stands ≤ 2) := by
          rw [inV_int, ← decide_not, decide_eq_decide]; simp; omega
        exact h1
      refine ⟨U, _, rfl, SqT.of upd_same, rfl, _, _, rfl, _, _, rfl, rfl, ?_⟩
      refine ⟨_, rfl, x, _, dy, _, _, rfl, s1 _ _ y1, cOrder T, nOrder_stands T, rfl, (by show 2 ≤ sizeLine; decide), fun p hp => ⟨_, _, rfl, .inr (SqT.of upd_same), rfl, flat_ints [3, 4], _, rfl, ?_⟩⟩
      have s2 := s1.trans (same_new (o := .tup [.int 3, .int 4]) hp)
      have e2 := same_new (o := .tup [.int 3, .int 4]) hp _ _ e1
      have ei' : (!inV (vn (od m o).stands) [V.int 3, V.int 4]) = decide ((od m o).stands ≤ 2) := by rw [ei, Bool.not_not]
      rw [ei']
      refine ite_dec (fun c1 => ?_) (fun c1 => if_f rfl ?_)
      · refine ⟨_, rfl, x, _, dy, _, _, rfl, s2 _ _ y1, cOrder T, nOrder_due T, rfl, _, rfl, L.a, _, dx, _, _, rfl, s2 _ _ hla, cLaundry T, nLaundry_now T, rfl, _, _, rfl, rfl, _, rfl, ite_dec (fun c2 => ?_) (fun c2 => ?_)⟩
        · refine ⟨_, rfl, .inl ⟨rfl, _, SqL.of e2⟩, _, rfl, D, _, _, rfl, rfl, e2, ?_, ⟨_, _, rfl⟩, Same.grow s2 hD, ?_⟩
          · rw [vl_len]
            have h1 := List.length_filter_le (fun o => decide ((od m o).stands ≤ 2) && decide ((od m o).due < m.now)) (List.range o)
            rw [List.length_range] at h1
            exact line_lt (by omega)
          · rw [upd_same, snoc, if_pos (by rw [decide_eq_true c1, Bool.true_and]; exact decide_eq_true (by omega)), vl_app]; rfl
        · refine ⟨⟨_, _, rfl⟩, s2, ?_⟩
          rw [snoc, if_neg (by rw [decide_eq_true c1, Bool.true_and, decide_eq_true_eq]; omega), List.append_nil]
          exact e2
      · refine ⟨⟨_, _, rfl⟩, s2, ?_⟩
        rw [snoc, if_neg (by rw [decide_eq_false c1, Bool.false_and]; simp), List.append_nil]
        exact e2
    · rintro σ H' ⟨⟨u, v', rfl⟩, sm, eD⟩
      rw [List.length_map, los] at eD
      have eD : H' D = some (.lst (vl (Wl.lateL m))) := eD
      refine ⟨_, rfl, D, _, rfl, .inl (SqL.of eD), (by show 1 ≤ sizeLine; decide), fun p2 hp2 => ⟨_, rfl, p2, D, _, _, rfl, rfl, upd_same, same_new hp2 _ _ eD, by rw [vl_len]; show 1 + _ ≤ sizeLine; exact line_le (by omega), fun p3 hp3 => ?_⟩⟩
      have := q.stay A (sm.trans (same_new hp2)) p3 hp3
      rw [show ((Wl.inz ((Wl.lateL m).length :: Wl.lateL m)).map V.int) = [V.int ((vl (Wl.lateL m)).length : Nat)] ++ vl (Wl.lateL m) by rw [vl_len]; rfl] at this
      exact this
theorem runs_rng (m : La) : ((List.range m.machines.length).filter fun k => !(mc m k).things.isEmpty).map (fun k => vn (mc m k).till) = vl (Wl.runs m) := by
  unfold Wl.runs
  rw [← vl_map]
  have := rng_fm m.machines Wl.noMc (fun c => !c.things.isEmpty) (fun c => vn c.till) rfl
  refine Eq.trans this ?_
  rw [List.map_map]; rfl
theorem foldl_minN : ∀ (l : List Nat) (a : Nat), Wl.IsMin (a :: l) (l.foldl min a)
  | [], a => ⟨by simp, by simp⟩
  | x :: l, a => by
    obtain ⟨h1, h2⟩ := foldl_minN l (min a x)
    rw [List.foldl_cons]
    refine ⟨?_, fun y hy => ?_⟩
    · rcases List.mem_cons.mp h1 with q | q
      · rw [q]
        rcases Nat.le_total a x with c | c
        · rw [Nat.min_eq_left c]; simp
        · rw [Nat.min_eq_right c]; simp
      · exact List.mem_cons_of_mem _ (List.mem_cons_of_mem _ q)
    · have h3 := h2 (min a x) List.mem_cons_self
      rcases List.mem_cons.mp hy with q | q
      · subst q; omega
      · rcases List.mem_cons.mp q with q | q
        · subst q; omega
        · exact h2 y (List.mem_cons_of_mem _ q)
def sp_next_done (K : Frag) : Sp := fun vs H Q E => ∃ (L : Lay) (m : La), vs = [.ref L.a] ∧ At K H L m ∧ Wl.Inv m ∧ Ans K H L (Wl.nextM m) Q E
theorem ok_next_done (T : Txt K mg) (D_ask : DefOk P w K mg base (L2.CX P w) 3 "ask" P_ask (sp_ask K)) (D_is_running : DefOk P w K mg base CX0 1 "is_running" P_is_running (sp_is_running K)) : DefOk P w K mg base (L2.CX P w) 4 "next_done" P_next_done (sp_next_done K) := by
  refine dokX T (T.fd 52 (d := d_next_done) (st := s_next_done) (kp := T.keep "next_done")) (T.glo "next_done") sc_next_done (fun _ _ _ _ _ _ us hl => match us, hl with | [_], _ => rfl) ?len (fun cdv A outer s H vs Q E hr h => ⟨_, (pss_cons (ps_setLc (i := 1) (own := [("machine", 2)]) (g := (gName 2)) rfl sc_next_done.nd rfl rfl (sw_true rfl rfl rfl (by decide +kernel)) (pi_list (pe_fld (pv 0) rfl)) (blkOk_by (N := N_next_done) (sc := defScope s_next_done) (by decide +kernel)) (fun _ _ _ _ _ => (pg_name (i := 2) sc_next_done.nd rfl (Or.inl rfl))) (fun _ _ _ _ _ => (pts_one (pt_val (pe_d D_is_running (hr.mono (by decide)) (by rfl) (pa_cons (pv 2) pa_nil))))) (fun _ _ _ _ _ => (pe_fldK K (pv 2))))
      (pss_cons (ps_expr (pe_dx D_ask (hr.mono (by decide)) (by rfl) (takes_of rfl rfl rfl rfl) (pa_cons (pe_cmpR (op_neNil (un_of hr)) (pv 1) (pe_lst pa_nil) (nomark _)) (pa_cons (pe_un un_neg pe_int) pa_nil))))
      (pss_one (ps_ret (pe_lst (pa_cons (pe_callB (cr_min rfl) (by rfl) (T.free "min") (by decide +kernel) (pa_cons (pv 1) pa_nil)) pa_nil)))))), ?body⟩)
  case len => intro vs H Q E h; obtain ⟨L, m, rfl, A, I, q⟩ := h; rfl
  case body =>
    obtain ⟨L, m, rfl, A, I, q⟩ := h
    unfold Wl.nextM at q
    obtain ⟨dx, hla⟩ := A.la
    have lms := A.lms
    refine ⟨_, rfl, L.a, _, dx, _, _, rfl, hla, cLaundry T, nLaundry_machines T, rfl, L.lm, rfl, ⟨_, SqL.of A.hm⟩, fun D hD => lcL hD (fun k => !(mc m k).things.isEmpty) (fun k => vn (mc m k).till) (SqL.of A.hm) (by rw [List.length_map]; exact line_le (by have := I.mcs; omega)) (fun k v H1 Rt Rf hv sm g1 g2 => ?_) (fun H1 sm e1 => ?_)⟩
    · obtain ⟨x, hx, rfl⟩ := ref_get hv
      obtain ⟨dm, l, p, x1, x2, x3, _⟩ := A.mac k x hx
      refine ⟨rfl, _, rfl, x, dm, l, p, mc m k, rfl, sm _ _ x1, sm _ _ x2, fun H2 s2 => ⟨_, rfl, ite_b (fun c => ⟨_, rfl, x, _, dm, _, _, rfl, s2 _ _ (sm _ _ x1), cMachine T, nMachine_until T, rfl, g1 _ s2 c⟩) (fun c => g2 _ s2 c)⟩⟩
    · have hml : (L.ms.map V.ref).length = m.machines.length := by rw [List.length_map, lms]
      rw [hml, runs_rng] at e1
      refine ⟨_, rfl, Nat.zero_le _, fun p hp => ⟨D, p, _, rfl, rfl, SqL.of (same_new hp _ _ e1), SqL.of upd_same, _, rfl, _, _, rfl, askg (sm.trans (same_new hp)) (fun c => ?_) (fun c => ?_)⟩⟩
      · have c : (!(vl (Wl.runs m)).isEmpty) = true := c
        cases er : Wl.runs m with
        | nil => rw [er] at c; cases c
        | cons a l =>
          rw [er] at q e1
          have s1 := sm.trans (same_new (o := .lst []) hp)
          have hM := foldl_minN l a
          refine ⟨_, rfl, D, _, rfl, SqL.of (same_new hp _ _ e1), by simp [Wl.inz], fun mm m1 m2 => ⟨(by show 1 ≤ sizeLine; decide), ?_⟩⟩
          rw [min_uniq hM m1 m2]
          exact q.stay A s1
      · have c : (!(vl (Wl.runs m)).isEmpty) = false := c
        have er : Wl.runs m = [] := by simpa using c
        rw [er] at q
        exact q
theorem findSome_rng {α : Type} {f : Nat → Option α} {m : Nat} {x : α} : ∀ (n : Nat), (∀ k, k < m → f k = none) → f m = some x → m < n → (List.range n).findSome? f = some x := by
  intro n h1 h2 h3
  obtain ⟨d, rfl⟩ : ∃ d, n = m + (d + 1) := ⟨n - m - 1, by omega⟩
  rw [List.range_add, List.findSome?_append]
  have : (List.range m).findSome? f = none := List.findSome?_eq_none_iff.mpr fun k hk => h1 k (List.mem_range.mp hk)
  rw [this, Option.none_or, List.range_succ_eq_map, List.map_cons, List.findSome?_cons]
  simp [h2]
/-- the first pair, place by place -/
def pairB (ts : List Th) (i j : Nat) : Bool := !(Wl.togetherB [ts.getD i Wl.noTh, ts.getD j Wl.noTh])
theorem apart_row (ts : List Th) : Kyk1.apart (ts.map Wl.absX) = (List.range ts.length).findSome? fun i => ((List.range ts.length).find? fun j => decide (i ≤ j) && pairB ts i j).map fun j => (i, j) := by
  unfold Kyk1.apart
  rw [List.length_map, List.find?_flatMap]
  have : ∀ l : List Nat, (∀ i ∈ l, i < ts.length) → l.findSome? (fun i => List.find? (fun x => match (ts.map Wl.absX)[x.1]?, (ts.map Wl.absX)[x.2]? with | some a, some b => !(Kyk1.together [a, b]) | _, _ => false) (((List.range ts.length).filter fun j => decide (i ≤ j)).map fun j => (i, j))) = l.findSome? fun i => ((List.range ts.length).find? fun j => decide (i ≤ j) && pairB ts i j).map fun j => (i, j) := by
    intro l hl
    induction l with
    | nil => rfl
    | cons i l ih =>
      rw [List.findSome?_cons, List.findSome?_cons, ih fun k hk => hl k (List.mem_cons_of_mem _ hk)]
      have hi := hl i List.mem_cons_self
      have e : List.find? (fun x => match (ts.map Wl.absX)[x.1]?, (ts.map Wl.absX)[x.2]? with | some a, some b => !(Kyk1.together [a, b]) | _, _ => false) (((List.range ts.length).filter fun j => decide (i ≤ j)).map fun j => (i, j)) = ((List.range ts.length).find? fun j => decide (i ≤ j) && pairB ts i j).map fun j => (i, j) := by
        rw [List.find?_map, List.find?_filter]
        congr 1
        have : ∀ r : List Nat, (∀ j ∈ r, j < ts.length) → r.find? (fun a => decide (decide (i ≤ a) = true ∧ (((fun x : Nat × Nat => match (ts.map Wl.absX)[x.1]?, (ts.map Wl.absX)[x.2]? with | some a, some b => !(Kyk1.together [a, b]) | _, _ => false) ∘ fun j => (i, j)) a) = true)) = r.find? fun j => decide (i ≤ j) && pairB ts i j := by
          intro r hr
          induction r with
          | nil => rfl
          | cons j r ih2 =>
            rw [List.find?_cons, List.find?_cons, ih2 fun k hk => hr k (List.mem_cons_of_mem _ hk)]
            have hj := hr j List.mem_cons_self
            have e1 : (ts.map Wl.absX)[i]? = some (Wl.absX (ts.getD i Wl.noTh)) := by rw [List.getElem?_map, List.getElem?_eq_getElem hi]; simp [hi]
            have e2 : (ts.map Wl.absX)[j]? = some (Wl.absX (ts.getD j Wl.noTh)) := by rw [List.getElem?_map, List.getElem?_eq_getElem hj]; simp [hj]
            have e3 : decide (decide (i ≤ j) = true ∧ (((fun x : Nat × Nat => match (ts.map Wl.absX)[x.1]?, (ts.map Wl.absX)[x.2]? with | some a, some b => !(Kyk1.together [a, b]) | _, _ => false) ∘ fun j => (i, j)) j) = true) = (decide (i ≤ j) && pairB ts i j) := by
              have : ((fun x : Nat × Nat => match (ts.map Wl.absX)[x.1]?, (ts.map Wl.absX)[x.2]? with | some a, some b => !(Kyk1.together [a, b]) | _, _ => false) ∘ fun j => (i, j)) j = pairB ts i j := by
                show (match (ts.map Wl.absX)[i]?, (ts.map Wl.absX)[j]? with | some a, some b => !(Kyk1.together [a, b]) | _, _ => false) = _
                rw [e1, e2]; rfl
              rw [this, Bool.decide_and, Bool.decide_eq_true, Bool.decide_eq_true]
            rw [e3]
        exact this _ fun j hj => List.mem_range.mp hj
      rw [e]
  exact this _ fun i hi => List.mem_range.mp hi
theorem apart_some {ts : List Th} {i j : Nat} (hij : i ≤ j) (hj : j < ts.length) (hp : pairB ts i j = true) (h1 : ∀ a b, a < i → a ≤ b → b < ts.length → pairB ts a b = false) (h2 : ∀ b, i ≤ b → b < j → pairB ts i b = false) : Kyk1.apart (ts.map Wl.absX) = some (i, j) := by
  rw [apart_row]
  refine findSome_rng _ (fun a ha => ?_) ?_ (by omega : i < ts.length)
  · have : (List.range ts.length).find? (fun j => decide (a ≤ j) && pairB ts a j) = none := List.find?_eq_none.mpr fun b hb => by
      have hb := List.mem_range.mp hb
      by_cases c : a ≤ b
      · rw [h1 a b ha c hb, Bool.and_false]; simp
      · rw [decide_eq_false c, Bool.false_and]; simp
    rw [this]; rfl
  · have := Wl.find_range (p := fun j => decide (i ≤ j) && pairB ts i j) (m := j) ts.length (fun b hb => by
      by_cases c : i ≤ b
      · rw [h2 b c hb, Bool.and_false]
      · rw [decide_eq_false c, Bool.false_and]) (by rw [decide_eq_true hij, hp]; rfl) hj
    rw [this]; rfl
theorem apart_none {ts : List Th} (h : ∀ a b, a ≤ b → b < ts.length → pairB ts a b = false) : Kyk1.apart (ts.map Wl.absX) = none := by
  rw [apart_row]
  refine List.findSome?_eq_none_iff.mpr fun a _ => ?_
  have : (List.range ts.length).find? (fun j => decide (a ≤ j) && pairB ts a j) = none := List.find?_eq_none.mpr fun b hb => by
    have hb := List.mem_range.mp hb
    by_cases c : a ≤ b
    · rw [h a b c hb, Bool.and_false]; simp
    · rw [decide_eq_false c, Bool.false_and]; simp
  rw [this]; rfl
end
end Wt
end
section
set_option Elab.async false
set_option linter.all false
set_option maxRecDepth 100000
set_option maxHeartbeats 2000000
/-! # apart; which call it is -/
namespace Wt
open PySem PySem.Spec PyProof.Rows L2 Wr
open PySem.W (Frag)
open Wl (Lb Th Od Mc La Cl Out th od mc)
section
variable {P : Program} {w : World} {K : Frag} {mg : Str → Option Value} {base : Heap}
theorem noE {H H1 : Hp} {n : Int} {E : XK} (s : Same H H1) (h2 : ∀ (H' : Hp) (d : Addr), Same H H' → H d = none → H' d = some (.xd [("number", .int n)]) → E (.ref (aRef K)) (some d) H') :
    ∀ (H' : Hp) (d : Addr), Same H1 H' → H1 d = none → H' d = some (.xd [("number", .int n)]) → E (.ref (aRef K)) (some d) H' := fun H' d s' hd e => h2 H' d (s.trans s') (Same.none_of s hd) e
theorem any_max {l : List Nat} {M n : Nat} (h : Wl.IsMax l M) : (l.any fun i => decide (n ≤ i)) = decide (n ≤ M) := by
  by_cases c : n ≤ M
  · rw [decide_eq_true c]
    exact List.any_eq_true.mpr ⟨M, h.1, decide_eq_true c⟩
  · rw [decide_eq_false c]
    refine List.any_eq_false.mpr fun x hx q => ?_
    have := h.2 x hx
    have := of_decide_eq_true q
    omega
def sp_apart (K : Frag) : Sp := fun vs H Q E => ∃ (L : Lay) (m : La) (a : Addr) (l : List Nat), vs = [.ref L.a, .ref a] ∧ At K H L m ∧ Wl.Inv m ∧ H a = some (.lst (vl l)) ∧ Ans K H L (Wl.apartM m l) Q E
theorem ok_apart (T : Txt K mg) (D_ask : DefOk P w K mg base (L2.CX P w) 3 "ask" P_ask (sp_ask K)) (DI : RefOk P w K mg base 1) (D_go_together : DefOk P w K mg base CX0 2 "go_together" P_go_together (sp_go_together K)) : DefOk P w K mg base (L2.CX P w) 4 "apart" P_apart (sp_apart K) := by
  refine dokX T (T.fd 47 (d := d_apart) (st := s_apart) (kp := T.keep "apart")) (T.glo "apart") sc_apart (fun _ _ _ _ _ _ us hl => match us, hl with | [_, _], _ => rfl) ?len (fun cdv A outer s H vs Q E hr h => ⟨_, (pss_cons (ps_expr (pe_dx D_ask (hr.mono (by decide)) (by rfl) (takes_of rfl rfl rfl rfl) (pa_cons (pe_and (pe_cmpR op_le pe_int (pe_callB call_len_seq (by rfl) (T.free "len") PySem.boot_len (pa_cons (pv 1) pa_nil)) (nomark _)) (pe_and (pe_cmpR op_le (pe_callB call_len_seq (by rfl) (T.free "len") PySem.boot_len (pa_cons (pv 1) pa_nil)) (pe_i (i := 20) T (by rfl)) (nomark _)) (pe_one (pe_cmpR op_lt (pe_callB (cr_max rfl) (by rfl) (T.free "max") (by decide +kernel) (pa_cons (pv 1) pa_nil)) (pe_callB call_len_seq (by rfl) (T.free "len") PySem.boot_len (pa_cons (pe_fld (pv 0) rfl) pa_nil)) (nomark _))))) (pa_cons (pe_un un_neg pe_int) pa_nil))))
      (pss_cons (ps_for (passes_of rfl) rfl (pi_enum (by rfl) (T.free "enumerate") (pa_cons (pv 1) pa_nil)) (pg_tup rfl (pgs_cons (pg_name (i := 2) sc_apart.nd rfl (Or.inl rfl)) (pgs_cons (pg_name (i := 3) sc_apart.nd rfl (Or.inl rfl)) pgs_nil)))
        (pss_one (ps_for (passes_of rfl) rfl (pi_list (pe_slice sl_list (pv 1) (po_some (pv 2)) po_none)) (pg_name (i := 4) sc_apart.nd rfl (Or.inl rfl))
          (pss_one (ps_if (pt_not (pt_val (pe_d D_go_together (hr.mono (by decide)) (by rfl) (pa_cons (pe_lst (pa_cons (pe_ix ix_list (pe_fld (pv 0) rfl) (pv 3) (fun _ _ => rfl)) (pa_cons (pe_ix ix_list (pe_fld (pv 0) rfl) (pv 4) (fun _ _ => rfl)) pa_nil))) pa_nil))))
            (pss_one (ps_ret (pe_lst (pa_cons (pv 3) (pa_cons (pv 4) pa_nil)))))
            pss_nil)))))
      (pss_one (ps_raise rfl (takes_of rfl rfl rfl rfl) (pmk_ref T DI (hr.mono (by decide)) (pa_cons (pe_un un_neg pe_int) pa_nil)))))), ?body⟩)
  case len => intro vs H Q E h; obtain ⟨L, m, a, l, rfl, A, I, ha, q⟩ := h; rfl
  case body =>
    obtain ⟨L, m, a, l, rfl, A, I, ha, q⟩ := h
    obtain ⟨dx, hla⟩ := A.la
    have lts := A.lts
    unfold Wl.apartM at q
    refine ⟨_, rfl, a, _, rfl, .inl (SqL.of ha), _, _, rfl, rfl, _, rfl, ?_⟩
    rw [vl_len]
    refine ite_dec (fun c1 => ?_) (fun c1 => ?_)
    · refine ⟨_, rfl, a, _, rfl, .inl (SqL.of ha), _, _, rfl, rfl, _, rfl, ?_⟩
      rw [vl_len]
      refine ite_dec (fun c2 => ?_) (fun c2 => ?_)
      · have lne : l ≠ [] := fun z => by rw [z] at c1; exact absurd c1 (by decide)
        obtain ⟨M, hM⟩ := max_ex l lne
        refine ⟨_, rfl, a, _, rfl, SqL.of ha, by rw [List.length_map]; exact List.length_pos_iff.mpr lne, fun mx m1 m2 => ?_⟩
        rw [max_uniq hM m1 m2]
        refine ⟨_, rfl, L.a, _, dx, _, _, rfl, hla, cLaundry T, nLaundry_things T, rfl, L.lt, _, rfl, .inl (SqL.of A.ht), _, _, rfl, rfl, _, rfl, _, _, rfl, askd (Same.refl _) (fun c3 => ?_) (fun c3 => ?_)⟩
        · have c3 : (M : Int) < ((L.ts.map V.ref).length : Int) := c3
          rw [List.length_map] at c3
          have hlm : ∀ i ∈ l, i < m.things.length := fun i hi => by have := hM.2 i hi; omega
          rw [if_neg (by
            rintro (z | z | z)
            · exact lne z
            · omega
            · rw [any_max hM] at z
              have := of_decide_eq_true z
              omega)] at q
          have e0 : (l.map fun i => Wl.absX (th m i)) = (l.map (th m)).map Wl.absX := by rw [List.map_map]; rfl
          rw [e0] at q
          have hlen : (l.map (th m)).length = l.length := List.length_map _
          have gt : ∀ k i, l[k]? = some i → (l.map (th m)).getD k Wl.noTh = th m i := fun k i h => getD_of (by rw [List.getElem?_map, h]; rfl)
          refine ⟨_, rfl, a, _, rfl, SqL.of ha, for_enumL (xs := vl l) (fun k σ H' => (∃ u v z, σ = [some (.ref L.a), some (.ref a), u, v, z]) ∧ Same H H' ∧ ∀ b c, b < k → b ≤ c → c < l.length → pairB (l.map (th m)) b c = false) ⟨⟨_, _, _, rfl⟩, Same.refl _, fun b c h => absurd h (Nat.not_lt_zero _)⟩ (fun k σ H' _ h => SqL.of (h.2.1 _ _ ha)) ?_ ?_⟩
          · rintro k v U σ H' hv ⟨⟨u, v', z', rfl⟩, sm, ps⟩ hU
            obtain ⟨i, hki, rfl⟩ := vl_get hv
            have hk : k < l.length := (List.getElem?_eq_some_iff.mp hki).1
            have s1 := sm.trans (same_new (o := .tup [.int (k : Nat), vn i]) hU)
            refine ⟨U, _, rfl, SqT.of upd_same, rfl, _, _, rfl, _, _, rfl, rfl, ?_⟩
            refine ⟨_, rfl, _, rfl, _, rfl, a, _, rfl, SqL.of (s1 _ _ ha), fun D hD => ⟨D, rfl, ⟨_, SqL.of upd_same⟩, for_list (xs := vl (l.drop k)) (fun j σ H'' => (∃ z, σ = [some (.ref L.a), some (.ref a), some (.int (k : Nat)), some (vn i), z]) ∧ Same H H'' ∧ H'' D = some (.lst (vl (l.drop k))) ∧ ∀ c, k ≤ c → c < k + j → pairB (l.map (th m)) k c = false) ?_ (fun j σ H'' _ h => SqL.of h.2.2.1) ?_ ?_⟩⟩
            · refine ⟨⟨_, rfl⟩, s1.trans (same_new hD), ?_, fun c h1 h2 => absurd h1 (by omega)⟩
              rw [upd_same, cut_from, vl_drop]
            · rintro j v σ H'' hv2 ⟨⟨z', rfl⟩, s2, eD, ps2⟩
              obtain ⟨o, hjo, rfl⟩ := vl_get hv2
              rw [List.getElem?_drop] at hjo
              have hkj : k + j < l.length := (List.getElem?_eq_some_iff.mp hjo).1
              obtain ⟨x, hx⟩ := A.ts_at (hlm i (List.mem_of_getElem? hki))
              obtain ⟨y, hy⟩ := A.ts_at (hlm o (List.mem_of_getElem? hjo))
              have tx := (A.thi i x hx).th.same s2
              have ty := (A.thi o y hy).th.same s2
              have okx := (I.th_ok _ (List.mem_of_getElem? (Wl.th_some (hlm i (List.mem_of_getElem? hki))))).1
              have oky := (I.th_ok _ (List.mem_of_getElem? (Wl.th_some (hlm o (List.mem_of_getElem? hjo))))).1
              have epb : pairB (l.map (th m)) k (k + j) = !(Wl.togetherB [th m i, th m o]) := by
                unfold pairB
                rw [gt k i hki, gt (k + j) o hjo]
              refine ⟨_, rfl, L.a, _, dx, _, _, rfl, s2 _ _ hla, cLaundry T, nLaundry_things T, rfl, _, rfl, L.lt, _, _, _, rfl, rfl, SqL.of (s2 _ _ A.ht), ix_ref hx, _, rfl, L.a, _, dx, _, _, rfl, s2 _ _ hla, cLaundry T, nLaundry_things T, rfl, _, rfl, L.lt, _, _, _, rfl, rfl, SqL.of (s2 _ _ A.ht), ix_ref hy, (by show 2 ≤ sizeLine; decide), fun p hp => ⟨p, [x, y], [th m i, th m o], rfl, SqL.of upd_same, ⟨rfl, fun b u v h1 h2 => ?_⟩, (by show 2 ≤ 200; decide), by simp, fun u hu => ?_, fun H3 s3 => ⟨_, rfl, ite_nb (fun c => ?_) (fun c => ?_)⟩⟩⟩
              · rcases b with _ | _ | b
                · cases h1; cases h2; exact tx.same (same_new hp)
                · cases h1; cases h2; exact ty.same (same_new hp)
                · cases h1
              · rcases List.mem_cons.mp hu with rfl | hu
                · exact ⟨okx.lb, okx.runs⟩
                · rw [List.mem_singleton.mp hu]; exact ⟨oky.lb, oky.runs⟩
              · have ea := apart_some (ts := l.map (th m)) (i := k) (j := k + j) (by omega) (by rw [hlen]; exact hkj) (by rw [epb, c]; rfl) (fun b c h1 h2 h3 => ps b c h1 h2 (by rw [hlen] at h3; exact h3)) (fun c h1 h2 => ps2 c h1 h2)
                rw [ea] at q
                have q : Ans K H L (.yes m (Wl.inz [l.getD k 0, l.getD (k + j) 0])) Q E := q
                rw [getD_of hki, getD_of hjo] at q
                exact ⟨_, rfl, _, rfl, (by show 2 ≤ sizeLine; decide), q.stay A ((s2.trans (same_new hp)).trans s3)⟩
              · refine ⟨⟨_, rfl⟩, (s2.trans (same_new hp)).trans s3, s3 _ _ (same_new hp _ _ eD), fun c' h1 h2 => ?_⟩
                rcases Nat.lt_or_eq_of_le (Nat.le_of_lt_succ (show c' < (k + j) + 1 by omega)) with z | rfl
                · exact ps2 c' h1 z
                · rw [epb, c]; rfl
            · rintro σ H'' ⟨⟨z', rfl⟩, s2, eD, ps2⟩
              refine ⟨⟨_, _, _, rfl⟩, s2, fun b c h1 h2 h3 => ?_⟩
              rcases Nat.lt_or_eq_of_le (Nat.le_of_lt_succ h1) with z | rfl
              · exact ps b c z h2 h3
              · exact ps2 c h2 (by rw [vl_len, List.length_drop]; omega)
          · rintro σ H' ⟨⟨u, v', z', rfl⟩, sm, ps⟩
            rw [apart_none (ts := l.map (th m)) fun b c h1 h2 => ps b c (by rw [vl_len]; rw [hlen] at h2; omega) h1 (by rw [hlen] at h2; exact h2)] at q
            exact ⟨_, rfl, raise_fin (noE sm q)⟩
        · have c3 : ¬ (M : Int) < ((L.ts.map V.ref).length : Int) := c3
          rw [List.length_map] at c3
          rw [if_pos (.inr (.inr (by rw [any_max hM]; exact decide_eq_true (by omega))))] at q
          exact q
      · rw [if_pos (.inr (.inl (by omega)))] at q
        exact ⟨_, rfl, _, _, rfl, askn (Same.refl _) q⟩
    · have : l = [] := List.length_eq_zero_iff.mp (by omega)
      rw [if_pos (.inl this)] at q
      exact ⟨_, rfl, _, _, rfl, askn (Same.refl _) q⟩
/-- the calls of an order -/
def ordM (m : La) (s o : Nat) : Out := if s = 3 then Wl.closeM m o else if s = 8 then Wl.packM m o else if s = 9 then Wl.handM m o else if s = 10 then Wl.cancelM m o else if s = 11 then Wl.billM m o else Wl.stateM m o
def sp_of_orders (K : Frag) : Sp := fun vs H Q E => ∃ (L : Lay) (m : La) (s o : Nat), vs = [.ref L.a, vn s, vn o] ∧ At K H L m ∧ Wl.Inv m ∧ Ans K H L (ordM m s o) Q E
theorem ok_of_orders (T : Txt K mg) (D_state : DefOk P w K mg base (L2.CX P w) 5 "state" P_state (sp_state K)) (D_close : DefOk P w K mg base (L2.CX P w) 5 "close" P_close (sp_close K)) (D_pack : DefOk P w K mg base (L2.CX P w) 5 "pack" P_pack (sp_pack K)) (D_hand : DefOk P w K mg base (L2.CX P w) 5 "hand" P_hand (sp_hand K)) (D_cancel : DefOk P w K mg base (L2.CX P w) 5 "cancel" P_cancel (sp_cancel K)) (D_bill_of : DefOk P w K mg base CX0 1 "bill_of" P_bill_of (sp_bill_of K)) (D_order_at : DefOk P w K mg base (L2.CX P w) 4 "order_at" P_order_at (sp_order_at K)) : DefOk P w K mg base (L2.CX P w) 6 "of_orders" P_of_orders (sp_of_orders K) := by
  refine dokX T (T.fd 54 (d := d_of_orders) (st := s_of_orders) (kp := T.keep "of_orders")) (T.glo "of_orders") sc_of_orders (fun _ _ _ _ _ _ us hl => match us, hl with | [_, _, _], _ => rfl) ?len (fun cdv A outer s H vs Q E hr h => ⟨_, (pss_cons (ps_if (pt_cmpR op_eq (pv 1) pe_int (nomark _))
        (pss_one (ps_ret (pe_dx D_close (hr.mono (by decide)) (by rfl) (takes_of rfl rfl rfl rfl) (pa_cons (pv 0) (pa_cons (pv 2) pa_nil)))))
        pss_nil)
      (pss_cons (ps_if (pt_cmpR op_eq (pv 1) pe_int (nomark _))
        (pss_one (ps_ret (pe_dx D_pack (hr.mono (by decide)) (by rfl) (takes_of rfl rfl rfl rfl) (pa_cons (pv 0) (pa_cons (pv 2) pa_nil)))))
        pss_nil)
      (pss_cons (ps_if (pt_cmpR op_eq (pv 1) pe_int (nomark _))
        (pss_one (ps_ret (pe_dx D_hand (hr.mono (by decide)) (by rfl) (takes_of rfl rfl rfl rfl) (pa_cons (pv 0) (pa_cons (pv 2) pa_nil)))))
        pss_nil)
      (pss_cons (ps_if (pt_cmpR op_eq (pv 1) pe_int (nomark _))
        (pss_one (ps_ret (pe_dx D_cancel (hr.mono (by decide)) (by rfl) (takes_of rfl rfl rfl rfl) (pa_cons (pv 0) (pa_cons (pv 2) pa_nil)))))
        pss_nil)
      (pss_cons (ps_if (pt_cmpR op_eq (pv 1) pe_int (nomark _))
        (pss_one (ps_ret (pe_lst (pa_cons (pe_d D_bill_of (hr.mono (by decide)) (by rfl) (pa_cons (pv 0) (pa_cons (pe_dx D_order_at (hr.mono (by decide)) (by rfl) (takes_of rfl rfl rfl rfl) (pa_cons (pv 0) (pa_cons (pv 2) pa_nil))) pa_nil))) pa_nil))))
        pss_nil)
      (pss_one (ps_ret (pe_dx D_state (hr.mono (by decide)) (by rfl) (takes_of rfl rfl rfl rfl) (pa_cons (pv 0) (pa_cons (pv 2) pa_nil)))))))))), ?body⟩)
  case len => intro vs H Q E h; obtain ⟨L, m, s', o, rfl, A, I, q⟩ := h; rfl
  case body =>
    obtain ⟨L, m, s', o, rfl, A, I, q⟩ := h
    unfold ordM at q
    refine ⟨_, rfl, rfl, _, rfl, ite_eqI (fun c1 => ?_) (fun c1 => ?_)⟩
    · rw [if_pos (by omega)] at q
      exact ⟨_, rfl, _, rfl, L, m, o, rfl, A, I, q⟩
    rw [if_neg (by omega)] at q
    refine ⟨_, rfl, rfl, _, rfl, ite_eqI (fun c2 => ?_) (fun c2 => ?_)⟩
    · rw [if_pos (by omega)] at q
      exact ⟨_, rfl, _, rfl, L, m, o, rfl, A, I, q⟩
    rw [if_neg (by omega)] at q
    refine ⟨_, rfl, rfl, _, rfl, ite_eqI (fun c3 => ?_) (fun c3 => ?_)⟩
    · rw [if_pos (by omega)] at q
      exact ⟨_, rfl, _, rfl, L, m, o, rfl, A, I, q⟩
    rw [if_neg (by omega)] at q
    refine ⟨_, rfl, rfl, _, rfl, ite_eqI (fun c4 => ?_) (fun c4 => ?_)⟩
    · rw [if_pos (by omega)] at q
      exact ⟨_, rfl, _, rfl, L, m, o, rfl, A, I, q⟩
    rw [if_neg (by omega)] at q
    refine ⟨_, rfl, rfl, _, rfl, ite_eqI (fun c5 => ?_) (fun c5 => ?_)⟩
    · rw [if_pos (by omega)] at q
      unfold Wl.billM at q
      refine ⟨_, rfl, _, rfl, _, rfl, L, m, o, rfl, A, fun c => by rw [if_pos c] at q; exact q, fun x hx => ?_⟩
      have ho : o < m.orders.length := by rw [← A.los]; exact (List.getElem?_eq_some_iff.mp hx).1
      rw [if_neg (by omega)] at q
      obtain ⟨ti, tl⟩ := ord_things I ho
      exact ⟨L, m, o, x, rfl, A, hx, tl, ti, I.pr, fun H1 s1 => ⟨(by show 1 ≤ sizeLine; decide), q.stay A s1⟩⟩
    rw [if_neg (by omega)] at q
    exact ⟨_, rfl, _, rfl, L, m, o, rfl, A, I, q⟩
def macM (m : La) (s : Nat) (ns : List Nat) : Out := if s = 4 then Wl.planM m (ns.getD 0 0) else if s = 5 then Wl.runM m (ns.getD 0 0) (ns.getD 1 0) else if s = 7 then Wl.brokenM m (ns.getD 0 0) (ns.getD 1 0) else if s = 17 then Wl.machineM m (ns.getD 0 0) else Wl.insideM m (ns.getD 0 0)
def sp_of_machines (K : Frag) : Sp := fun vs H Q E => ∃ (L : Lay) (m : La) (s : Nat) (pn : Addr) (ns : List Nat), vs = [.ref L.a, vn s, .ref pn] ∧ At K H L m ∧ Wl.Inv m ∧ H pn = some (.lst (vl ns)) ∧ 1 ≤ ns.length ∧ (s = 5 ∨ s = 7 → 2 ≤ ns.length) ∧ Ans K H L (macM m s ns) Q E
theorem ok_of_machines (T : Txt K mg) (D_inside : DefOk P w K mg base (L2.CX P w) 5 "inside" P_inside (sp_inside K)) (D_plan : DefOk P w K mg base (L2.CX P w) 8 "plan" P_plan (sp_plan K)) (D_run : DefOk P w K mg base (L2.CX P w) 8 "run" P_run (sp_run K)) (D_broken : DefOk P w K mg base (L2.CX P w) 5 "broken" P_broken (sp_broken K)) (D_machine_told : DefOk P w K mg base (L2.CX P w) 5 "machine_told" P_machine_told (sp_machine_told K)) : DefOk P w K mg base (L2.CX P w) 9 "of_machines" P_of_machines (sp_of_machines K) := by
  refine dokX T (T.fd 55 (d := d_of_machines) (st := s_of_machines) (kp := T.keep "of_machines")) (T.glo "of_machines") sc_of_machines (fun _ _ _ _ _ _ us hl => match us, hl with | [_, _, _], _ => rfl) ?len (fun cdv A outer s H vs Q E hr h => ⟨_, (pss_cons (ps_if (pt_cmpR op_eq (pv 1) pe_int (nomark _))
        (pss_one (ps_ret (pe_dx D_plan (hr.mono (by decide)) (by rfl) (takes_of rfl rfl rfl rfl) (pa_cons (pv 0) (pa_cons (pe_ix ix_list (pv 2) pe_int (fun _ _ => rfl)) pa_nil)))))
        pss_nil)
      (pss_cons (ps_if (pt_cmpR op_eq (pv 1) pe_int (nomark _))
        (pss_one (ps_ret (pe_dx D_run (hr.mono (by decide)) (by rfl) (takes_of rfl rfl rfl rfl) (pa_cons (pv 0) (pa_cons (pe_ix ix_list (pv 2) pe_int (fun _ _ => rfl)) (pa_cons (pe_ix ix_list (pv 2) pe_int (fun _ _ => rfl)) pa_nil))))))
        pss_nil)
      (pss_cons (ps_if (pt_cmpR op_eq (pv 1) pe_int (nomark _))
        (pss_one (ps_ret (pe_dx D_broken (hr.mono (by decide)) (by rfl) (takes_of rfl rfl rfl rfl) (pa_cons (pv 0) (pa_cons (pe_ix ix_list (pv 2) pe_int (fun _ _ => rfl)) (pa_cons (pe_ix ix_list (pv 2) pe_int (fun _ _ => rfl)) pa_nil))))))
        pss_nil)
      (pss_cons (ps_if (pt_cmpR op_eq (pv 1) pe_int (nomark _))
        (pss_one (ps_ret (pe_dx D_machine_told (hr.mono (by decide)) (by rfl) (takes_of rfl rfl rfl rfl) (pa_cons (pv 0) (pa_cons (pe_ix ix_list (pv 2) pe_int (fun _ _ => rfl)) pa_nil)))))
        pss_nil)
      (pss_one (ps_ret (pe_dx D_inside (hr.mono (by decide)) (by rfl) (takes_of rfl rfl rfl rfl) (pa_cons (pv 0) (pa_cons (pe_ix ix_list (pv 2) pe_int (fun _ _ => rfl)) pa_nil))))))))), ?body⟩)
  case len => intro vs H Q E h; obtain ⟨L, m, s', pn, ns, rfl, A, I, hpn, n1, n2, q⟩ := h; rfl
  case body =>
    obtain ⟨L, m, s', pn, ns, rfl, A, I, hpn, n1, n2, q⟩ := h
    unfold macM at q
    have i0 : atI (vl ns) (0 : Int) = some (vn (ns.getD 0 0)) := ix_vn (i := 0) (getD_some (by omega))
    refine ⟨_, rfl, rfl, _, rfl, ite_eqI (fun c1 => ?_) (fun c1 => ?_)⟩
    · rw [if_pos (by omega)] at q
      exact ⟨_, rfl, _, rfl, pn, _, _, _, rfl, rfl, SqL.of hpn, i0, L, m, _, rfl, A, I, q⟩
    rw [if_neg (by omega)] at q
    refine ⟨_, rfl, rfl, _, rfl, ite_eqI (fun c2 => ?_) (fun c2 => ?_)⟩
    · rw [if_pos (by omega)] at q
      have i1 : atI (vl ns) (1 : Int) = some (vn (ns.getD 1 0)) := ix_vn (i := 1) (getD_some (by have := n2 (.inl (by omega)); omega))
      exact ⟨_, rfl, _, rfl, pn, _, _, _, rfl, rfl, SqL.of hpn, i0, _, rfl, pn, _, _, _, rfl, rfl, SqL.of hpn, i1, L, m, _, _, rfl, A, I, q⟩
    rw [if_neg (by omega)] at q
    refine ⟨_, rfl, rfl, _, rfl, ite_eqI (fun c3 => ?_) (fun c3 => ?_)⟩
    · rw [if_pos (by omega)] at q
      have i1 : atI (vl ns) (1 : Int) = some (vn (ns.getD 1 0)) := ix_vn (i := 1) (getD_some (by have := n2 (.inr (by omega)); omega))
      exact ⟨_, rfl, _, rfl, pn, _, _, _, rfl, rfl, SqL.of hpn, i0, _, rfl, pn, _, _, _, rfl, rfl, SqL.of hpn, i1, L, m, _, _, rfl, A, I, q⟩
    rw [if_neg (by omega)] at q
    refine ⟨_, rfl, rfl, _, rfl, ite_eqI (fun c4 => ?_) (fun c4 => ?_)⟩
    · rw [if_pos (by omega)] at q
      exact ⟨_, rfl, _, rfl, pn, _, _, _, rfl, rfl, SqL.of hpn, i0, L, m, _, rfl, A, I, q⟩
    rw [if_neg (by omega)] at q
    exact ⟨_, rfl, _, rfl, pn, _, _, _, rfl, rfl, SqL.of hpn, i0, L, m, _, rfl, A, I, q⟩
def alM (m : La) (s : Nat) : Out := if s = 16 then Wl.waitingM m else if s = 20 then Wl.lateM m else if s = 21 then Wl.nextM m else if s = 22 then Wl.tillM m else Wl.allM m
def sp_of_all (K : Frag) : Sp := fun vs H Q E => ∃ (L : Lay) (m : La) (s : Nat), vs = [.ref L.a, vn s] ∧ At K H L m ∧ Wl.Inv m ∧ Ans K H L (alM m s) Q E
theorem ok_of_all (T : Txt K mg) (D_waiting_told : DefOk P w K mg base CX0 3 "waiting_told" P_waiting_told (sp_waiting_told K)) (D_late : DefOk P w K mg base CX0 1 "late" P_late (sp_late K)) (D_next_done : DefOk P w K mg base (L2.CX P w) 4 "next_done" P_next_done (sp_next_done K)) (D_waiting : DefOk P w K mg base CX0 2 "waiting" P_waiting (sp_waiting K)) : DefOk P w K mg base (L2.CX P w) 5 "of_all" P_of_all (sp_of_all K) := by
  refine dokX T (T.fd 56 (d := d_of_all) (st := s_of_all) (kp := T.keep "of_all")) (T.glo "of_all") sc_of_all (fun _ _ _ _ _ _ us hl => match us, hl with | [_, _], _ => rfl) ?len (fun cdv A outer s H vs Q E hr h => ⟨_, (pss_cons (ps_if (pt_cmpR op_eq (pv 1) pe_int (nomark _))
        (pss_one (ps_ret (pe_d D_waiting_told (hr.mono (by decide)) (by rfl) (pa_cons (pv 0) pa_nil))))
        pss_nil)
      (pss_cons (ps_if (pt_cmpR op_eq (pv 1) pe_int (nomark _))
        (pss_one (ps_ret (pe_d D_late (hr.mono (by decide)) (by rfl) (pa_cons (pv 0) pa_nil))))
        pss_nil)
      (pss_cons (ps_if (pt_cmpR op_eq (pv 1) pe_int (nomark _))
        (pss_one (ps_ret (pe_dx D_next_done (hr.mono (by decide)) (by rfl) (takes_of rfl rfl rfl rfl) (pa_cons (pv 0) pa_nil))))
        pss_nil)
      (pss_cons (ps_if (pt_cmpR op_eq (pv 1) pe_int (nomark _))
        (pss_one (ps_ret (pe_lst (pa_cons (pe_fld (pv 0) rfl) pa_nil))))
        pss_nil)
      (pss_one (ps_ret (pe_lst (pa_cons (pe_fld (pv 0) rfl) (pa_cons (pe_callB call_len_seq (by rfl) (T.free "len") PySem.boot_len (pa_cons (pe_fld (pv 0) rfl) pa_nil)) (pa_cons (pe_callB call_len_seq (by rfl) (T.free "len") PySem.boot_len (pa_cons (pe_fld (pv 0) rfl) pa_nil)) (pa_cons (pe_callB call_len_seq (by rfl) (T.free "len") PySem.boot_len (pa_cons (pe_d D_waiting (hr.mono (by decide)) (by rfl) (pa_cons (pv 0) pa_nil)) pa_nil)) pa_nil))))))))))), ?body⟩)
  case len => intro vs H Q E h; obtain ⟨L, m, s', rfl, A, I, q⟩ := h; rfl
  case body =>
    obtain ⟨L, m, s', rfl, A, I, q⟩ := h
    unfold alM at q
    obtain ⟨dx, hla⟩ := A.la
    refine ⟨_, rfl, rfl, _, rfl, ite_eqI (fun c1 => ?_) (fun c1 => ?_)⟩
    · rw [if_pos (by omega)] at q
      exact ⟨_, rfl, L, m, E, rfl, A, I, q⟩
    rw [if_neg (by omega)] at q
    refine ⟨_, rfl, rfl, _, rfl, ite_eqI (fun c2 => ?_) (fun c2 => ?_)⟩
    · rw [if_pos (by omega)] at q
      exact ⟨_, rfl, L, m, E, rfl, A, I, q⟩
    rw [if_neg (by omega)] at q
    refine ⟨_, rfl, rfl, _, rfl, ite_eqI (fun c3 => ?_) (fun c3 => ?_)⟩
    · rw [if_pos (by omega)] at q
      exact ⟨_, rfl, L, m, rfl, A, I, q⟩
    rw [if_neg (by omega)] at q
    refine ⟨_, rfl, rfl, _, rfl, ite_eqI (fun c4 => ?_) (fun c4 => ?_)⟩
    · rw [if_pos (by omega)] at q
      exact ⟨_, rfl, L.a, _, dx, _, _, rfl, hla, cLaundry T, nLaundry_till T, rfl, (by show 1 ≤ sizeLine; decide), q.stay A (Same.refl _)⟩
    rw [if_neg (by omega)] at q
    refine ⟨_, rfl, L.a, _, dx, _, _, rfl, hla, cLaundry T, nLaundry_now T, rfl, _, rfl, L.a, _, dx, _, _, rfl, hla, cLaundry T, nLaundry_orders T, rfl, L.lo, _, rfl, .inl (SqL.of A.ho), _, rfl, L.a, _, dx, _, _, rfl, hla, cLaundry T, nLaundry_things T, rfl, L.lt, _, rfl, .inl (SqL.of A.ht), _, rfl, L, m, rfl, A, I.ths, fun i hi => Wl.th_order I hi, fun H1 p s1 hp e1 => ⟨p, _, rfl, .inl (SqL.of e1), (by show 4 ≤ sizeLine; decide), ?_⟩⟩
    rw [vl_len, List.length_map, List.length_map, A.los, A.lts]
    exact q.stay A s1
end
end Wt
end
section
set_option Elab.async false
set_option linter.all false
set_option maxRecDepth 100000
set_option maxHeartbeats 2000000
/-! # asked -/
namespace Wt
open PySem PySem.Spec PyProof.Rows L2 Wr
open PySem.W (Frag)
open Wl (Lb Th Od Mc La Cl Out th od mc)
section
variable {P : Program} {w : World} {K : Frag} {mg : Str → Option Value} {base : Heap}
def askW (m : La) (s : Nat) (ns r : List Nat) : Out :=
  if s = 1 then Wl.orderM m (ns.getD 0 0) else if s = 2 then Wl.addM m (ns.getD 0 0) (ns.getD 1 0) (ns.getD 2 0) (ns.getD 3 0) (ns.getD 4 0) r else if s = 3 ∨ s = 8 ∨ s = 9 ∨ s = 10 ∨ s = 11 ∨ s = 19 then ordM m s (ns.getD 0 0) else
  if s = 4 ∨ s = 5 ∨ s = 7 ∨ s = 17 ∨ s = 18 then macM m s ns else if s = 6 then Wl.tickM m (ns.getD 0 0) else if s = 12 then Wl.whereM m (ns.getD 0 0) else if s = 13 then Wl.labelM m (ns.getD 0 0) else if s = 14 then Wl.thingM m (ns.getD 0 0) else if s = 15 then Wl.apartM m r else alM m s
def sp_asked (K : Frag) : Sp := fun vs H Q E => ∃ (L : Lay) (m : La) (s : Nat) (ns r : List Nat) (pn ps : Addr), vs = [.ref L.a, vn s, .ref pn, .ref ps] ∧ At K H L m ∧ Wl.Inv m ∧ H pn = some (.lst (vl ns)) ∧ H ps = some (.lst (vl r)) ∧ L.role ps = none ∧ (s < 15 ∨ s = 17 ∨ s = 18 ∨ s = 19 → 1 ≤ ns.length) ∧ (s = 5 ∨ s = 7 → 2 ≤ ns.length) ∧ (s = 2 → ns.length = 5) ∧ AnsX K ps H L (askW m s ns r) Q E
theorem ok_asked (T : Txt K mg) (D_of_all : DefOk P w K mg base (L2.CX P w) 5 "of_all" P_of_all (sp_of_all K)) (D_new_order : DefOk P w K mg base (L2.CX P w) 4 "new_order" P_new_order (sp_new_order K)) (D_add : DefOk P w K mg base (L2.CX P w) 5 "add" P_add (sp_add K)) (D_of_orders : DefOk P w K mg base (L2.CX P w) 6 "of_orders" P_of_orders (sp_of_orders K)) (D_of_machines : DefOk P w K mg base (L2.CX P w) 9 "of_machines" P_of_machines (sp_of_machines K)) (D_tick : DefOk P w K mg base (L2.CX P w) 4 "tick" P_tick (sp_tick K)) (D_where : DefOk P w K mg base (L2.CX P w) 5 "where" P_where (sp_where K)) (D_label_told : DefOk P w K mg base (L2.CX P w) 5 "label_told" P_label_told (sp_label_told K)) (D_thing_told : DefOk P w K mg base (L2.CX P w) 5 "thing_told" P_thing_told (sp_thing_told K)) (D_apart : DefOk P w K mg base (L2.CX P w) 4 "apart" P_apart (sp_apart K)) : DefOk P w K mg base (L2.CX P w) 10 "asked" P_asked (sp_asked K) := by
  refine dokX T (T.fd 57 (d := d_asked) (st := s_asked) (kp := T.keep "asked")) (T.glo "asked") sc_asked (fun _ _ _ _ _ _ us hl => match us, hl with | [_, _, _, _], _ => rfl) ?len (fun cdv A outer s H vs Q E hr h => ⟨_, (pss_cons (ps_if (pt_cmpR op_eq (pv 1) pe_int (nomark _))
        (pss_one (ps_ret (pe_dx D_new_order (hr.mono (by decide)) (by rfl) (takes_of rfl rfl rfl rfl) (pa_cons (pv 0) (pa_cons (pe_ix ix_list (pv 2) pe_int (fun _ _ => rfl)) pa_nil)))))
        pss_nil)
      (pss_cons (ps_if (pt_cmpR op_eq (pv 1) pe_int (nomark _))
        (pss_one (ps_ret (pe_dx D_add (hr.mono (by decide)) (by rfl) (takes_of rfl rfl rfl rfl) (pa_cons (pv 0) (pa_cons (pv 2) (pa_cons (pv 3) pa_nil))))))
        pss_nil)
      (pss_cons (ps_if (pt_cmpR op_in_seq (pv 1) (pe_tup (pa_ints (ns := [3, 8, 9, 10, 11, 19]) ⟨rfl, rfl, rfl, rfl, rfl, rfl, trivial⟩)) (by rfl))
        (pss_one (ps_ret (pe_dx D_of_orders (hr.mono (by decide)) (by rfl) (takes_of rfl rfl rfl rfl) (pa_cons (pv 0) (pa_cons (pv 1) (pa_cons (pe_ix ix_list (pv 2) pe_int (fun _ _ => rfl)) pa_nil))))))
        pss_nil)
      (pss_cons (ps_if (pt_cmpR op_in_seq (pv 1) (pe_tup (pa_ints (ns := [4, 5, 7, 17, 18]) ⟨rfl, rfl, rfl, rfl, rfl, trivial⟩)) (by rfl))
        (pss_one (ps_ret (pe_dx D_of_machines (hr.mono (by decide)) (by rfl) (takes_of rfl rfl rfl rfl) (pa_cons (pv 0) (pa_cons (pv 1) (pa_cons (pv 2) pa_nil))))))
        pss_nil)
      (pss_cons (ps_if (pt_cmpR op_eq (pv 1) pe_int (nomark _))
        (pss_one (ps_ret (pe_dx D_tick (hr.mono (by decide)) (by rfl) (takes_of rfl rfl rfl rfl) (pa_cons (pv 0) (pa_cons (pe_ix ix_list (pv 2) pe_int (fun _ _ => rfl)) pa_nil)))))
        pss_nil)
      (pss_cons (ps_if (pt_cmpR op_eq (pv 1) pe_int (nomark _))
        (pss_one (ps_ret (pe_dx D_where (hr.mono (by decide)) (by rfl) (takes_of rfl rfl rfl rfl) (pa_cons (pv 0) (pa_cons (pe_ix ix_list (pv 2) pe_int (fun _ _ => rfl)) pa_nil)))))
        pss_nil)
      (pss_cons (ps_if (pt_cmpR op_eq (pv 1) pe_int (nomark _))
        (pss_one (ps_ret (pe_dx D_label_told (hr.mono (by decide)) (by rfl) (takes_of rfl rfl rfl rfl) (pa_cons (pv 0) (pa_cons (pe_ix ix_list (pv 2) pe_int (fun _ _ => rfl)) pa_nil)))))
        pss_nil)
      (pss_cons (ps_if (pt_cmpR op_eq (pv 1) pe_int (nomark _))
        (pss_one (ps_ret (pe_dx D_thing_told (hr.mono (by decide)) (by rfl) (takes_of rfl rfl rfl rfl) (pa_cons (pv 0) (pa_cons (pe_ix ix_list (pv 2) pe_int (fun _ _ => rfl)) pa_nil)))))
        pss_nil)
      (pss_cons (ps_if (pt_cmpR op_eq (pv 1) pe_int (nomark _))
        (pss_one (ps_ret (pe_dx D_apart (hr.mono (by decide)) (by rfl) (takes_of rfl rfl rfl rfl) (pa_cons (pv 0) (pa_cons (pv 3) pa_nil)))))
        pss_nil)
      (pss_one (ps_ret (pe_dx D_of_all (hr.mono (by decide)) (by rfl) (takes_of rfl rfl rfl rfl) (pa_cons (pv 0) (pa_cons (pv 1) pa_nil)))))))))))))), ?body⟩)
  case len => intro vs H Q E h; obtain ⟨L, m, s', ns, r, pn, ps, rfl, A, I, hpn, hps, nps, n1, n2, n5, q⟩ := h; rfl
  case body =>
    obtain ⟨L, m, s', ns, r, pn, ps, rfl, A, I, hpn, hps, nps, n1, n2, n5, q⟩ := h
    unfold askW at q
    have i0 : 1 ≤ ns.length → atI (vl ns) (0 : Int) = some (vn (ns.getD 0 0)) := fun h => ix_vn (i := 0) (getD_some (by omega))
    refine ⟨_, rfl, rfl, _, rfl, ite_eqI (fun c => ?_) (fun c => ?_)⟩
    · rw [if_pos (by omega)] at q
      exact ⟨_, rfl, _, rfl, pn, _, _, _, rfl, rfl, SqL.of hpn, i0 (n1 (by omega)), L, m, _, rfl, A, I, q.ans⟩
    rw [if_neg (by omega)] at q
    refine ⟨_, rfl, rfl, _, rfl, ite_eqI (fun c2 => ?_) (fun c2 => ?_)⟩
    · rw [if_pos (by omega)] at q
      obtain ⟨a1, a2, a3, a4, a5, rfl⟩ : ∃ a b c d e, ns = [a, b, c, d, e] := by
        match ns, n5 (by omega) with
        | [a, b, c, d, e], _ => exact ⟨a, b, c, d, e, rfl⟩
      exact ⟨_, rfl, _, rfl, _, rfl, L, m, a1, a2, a3, a4, a5, r, pn, ps, rfl, A, I, hpn, hps, nps, q⟩
    rw [if_neg (by omega)] at q
    refine ⟨_, rfl, (by show 6 ≤ sizeLine; decide), fun p1 hp1 => ⟨_, _, rfl, .inr (SqT.of upd_same), rfl, flat_ints [3, 8, 9, 10, 11, 19], _, rfl, ?_⟩⟩
    have s1 := same_new (o := .tup (([3, 8, 9, 10, 11, 19] : List Int).map V.int)) hp1
    rw [inV_int]
    have F1 : Frm H L (upd H p1 (.tup (([3, 8, 9, 10, 11, 19] : List Int).map V.int))) L := Frm.same s1
    have qs : ∀ {H1 : Hp} {r : Out}, Same H H1 → AnsX K ps H L r Q E → AnsX K ps H1 L r Q E := fun {H1 r} s q => by
      cases r with
      | no n => exact noE s q
      | yes m' out => exact fun H' L' p A' k F hp e => q H' L' p A' k (fun b o e n nb => F b o (s _ _ e) n nb) (Same.none_of s hp) e
    refine ite_dec (fun c3 => ?_) (fun c3 => ?_)
    · rw [if_pos (by simp at c3; omega)] at q
      exact ⟨_, rfl, _, rfl, _, rfl, pn, _, _, _, rfl, rfl, SqL.of (s1 _ _ hpn), i0 (n1 (by simp at c3; omega)), L, m, s', _, rfl, A.same s1, I, (qs s1 q).ans⟩
    rw [if_neg (by simp at c3; omega)] at q
    refine ⟨_, rfl, (by show 5 ≤ sizeLine; decide), fun p2 hp2 => ⟨_, _, rfl, .inr (SqT.of upd_same), rfl, flat_ints [4, 5, 7, 17, 18], _, rfl, ?_⟩⟩
    have s2 := s1.trans (same_new (o := .tup (([4, 5, 7, 17, 18] : List Int).map V.int)) hp2)
    rw [inV_int]
    refine ite_dec (fun c4 => ?_) (fun c4 => ?_)
    · rw [if_pos (by simp at c4; omega)] at q
      exact ⟨_, rfl, _, rfl, _, rfl, L, m, s', pn, ns, rfl, A.same s2, I, s2 _ _ hpn, n1 (by simp at c4; omega), n2, (qs s2 q).ans⟩
    rw [if_neg (by simp at c4; omega)] at q
    have A2 := A.same s2
    have q2 := qs s2 q
    have hpn2 := s2 _ _ hpn
    have hps2 := s2 _ _ hps
    refine ⟨_, rfl, rfl, _, rfl, ite_eqI (fun c5 => ?_) (fun c5 => ?_)⟩
    · rw [if_pos (by omega)] at q2
      exact ⟨_, rfl, _, rfl, pn, _, _, _, rfl, rfl, SqL.of hpn2, i0 (n1 (by omega)), L, m, _, rfl, A2, I, q2.ans⟩
    rw [if_neg (by omega)] at q2
    refine ⟨_, rfl, rfl, _, rfl, ite_eqI (fun c6 => ?_) (fun c6 => ?_)⟩
    · rw [if_pos (by omega)] at q2
      exact ⟨_, rfl, _, rfl, pn, _, _, _, rfl, rfl, SqL.of hpn2, i0 (n1 (by omega)), L, m, _, rfl, A2, I, q2.ans⟩
    rw [if_neg (by omega)] at q2
    refine ⟨_, rfl, rfl, _, rfl, ite_eqI (fun c7 => ?_) (fun c7 => ?_)⟩
    · rw [if_pos (by omega)] at q2
      exact ⟨_, rfl, _, rfl, pn, _, _, _, rfl, rfl, SqL.of hpn2, i0 (n1 (by omega)), L, m, _, rfl, A2, I, q2.ans⟩
    rw [if_neg (by omega)] at q2
    refine ⟨_, rfl, rfl, _, rfl, ite_eqI (fun c8 => ?_) (fun c8 => ?_)⟩
    · rw [if_pos (by omega)] at q2
      exact ⟨_, rfl, _, rfl, pn, _, _, _, rfl, rfl, SqL.of hpn2, i0 (n1 (by omega)), L, m, _, rfl, A2, I, q2.ans⟩
    rw [if_neg (by omega)] at q2
    refine ⟨_, rfl, rfl, _, rfl, ite_eqI (fun c9 => ?_) (fun c9 => ?_)⟩
    · rw [if_pos (by omega)] at q2
      exact ⟨_, rfl, _, rfl, L, m, ps, r, rfl, A2, I, hps2, q2.ans⟩
    rw [if_neg (by omega)] at q2
    exact ⟨_, rfl, _, rfl, L, m, s', rfl, A2, I, q2.ans⟩
end
end Wt
end
section
set_option Elab.async false
set_option linter.all false
set_option maxRecDepth 100000
set_option maxHeartbeats 2000000
/-! # A new laundry -/
namespace Wt
open PySem PySem.Spec PyProof.Rows L2 Wr
open PySem.W (Frag)
open Wl (Lb Th Od Mc La Cl Out th od mc)
section
variable {P : Program} {w : World} {K : Frag} {mg : Str → Option Value} {base : Heap}
theorem McAt.roles {H : Hp} {r r' : Addr → Option Role} {k : Nat} {x : Addr} {c : Mc} (h : McAt K H r k x c) (s : ∀ z o q, H z = some o → r z = some q → r' z = some q) : McAt K H r' k x c := by
  obtain ⟨dx, l, p, h1, h2, h3, h4, h5, h6⟩ := h
  exact ⟨dx, l, p, h1, h2, h3, s _ _ _ h1 h4, s _ _ _ h2 h5, s _ _ _ h3 h6⟩
theorem start_mc {p : Nat} {bs : List Nat} {k b : Nat} (h : bs[k]? = some b) : mc (Wl.startL p bs) k = ⟨b, false, [], [], 0⟩ := by
  refine Wl.mc_at ?_
  show (bs.map fun x => (⟨x, false, [], [], 0⟩ : Mc))[k]? = _
  rw [List.getElem?_map, h]; rfl
def sp_Laundry (K : Frag) : Sp := fun vs H Q _ => ∃ (p dx a : Addr) (pr : Nat) (bs : List Nat), vs = [.ref p, vn pr, .ref a] ∧ H p = some (.ins (He.ga K "Laundry") dx []) ∧ H a = some (.lst (vl bs)) ∧ a ≠ p ∧ bs.length ≤ 4 ∧
  ∀ H' L, (∀ z o, H z = some o → z ≠ p → H' z = some o) → At K H' L (Wl.startL pr bs) → L.a = p → (∀ b q, L.role b = some q → b = p ∨ H b = none) → Q .non H'
theorem ok_Laundry (T : Txt K mg) (MMachine : MkOk P w K mg base 1 "Machine" P_MachineI (sp_Machine K)) : MkOk P w K mg base 3 "Laundry" P_LaundryI (sp_Laundry K) := by
  refine mok (T.fd 4 (d := d_LaundryI) (st := sLaundryI) (kp := (T.meth "Laundry").kp)) (T.glo "Laundry") (T.mkr "Laundry") sc_LaundryI (fun _ _ _ _ _ _ us hl => match us, hl with | [_, _, _], _ => rfl) ?len (fun cdv A outer s H vs Q E hr h => ⟨_, (pss_cons (ps_fld (pv 0) (pv 1) rfl)
      (pss_cons (ps_fld (pv 0) (pe_lc (own := [("one", 3)]) (g := (gName 3)) rfl sc_LaundryI.nd (pi_list (pv 2)) (blkOk_by (N := N_LaundryI) (sc := defScope sLaundryI) (by decide +kernel)) (fun _ _ _ _ _ => (pg_name (i := 3) sc_LaundryI.nd rfl (Or.inl rfl))) (fun _ _ _ _ _ => pts_nil) (fun _ _ _ _ _ => (pe_nK K MMachine (hr.mono (by decide)) (by rfl) (pa_cons (pv 3) pa_nil)))) rfl)
      (pss_cons (ps_fld (pv 0) (pe_lst pa_nil) rfl)
      (pss_cons (ps_fld (pv 0) (pe_lst pa_nil) rfl)
      (pss_cons (ps_fld (pv 0) pe_int rfl)
      (pss_one (ps_fld (pv 0) pe_int rfl))))))), ?body⟩)
  case len => intro vs H Q E h; obtain ⟨p, dx, a, pr, bs, rfl, h1, ha, nap, h4, q⟩ := h; rfl
  case body =>
    obtain ⟨p, dx, a, pr, bs, rfl, h1, ha, nap, h4, q⟩ := h
    refine ⟨_, rfl, _, rfl, p, _, dx, _, rfl, h1, cLaundry T, nLaundry_price T, (by show 0 < 1000; decide), ?_⟩
    have k1 : ∀ z o, H z = some o → z ≠ p → (upd H p (.ins (He.ga K "Laundry") dx [("price", vn pr)])) z = some o := fun z o e n => by rw [upd_ne n]; exact e
    have n1 : ∀ z, (upd H p (.ins (He.ga K "Laundry") dx [("price", vn pr)])) z = none → H z = none := fun z e => by
      by_cases c : z = p
      · rw [c, upd_same] at e; cases e
      · rw [upd_ne c] at e; exact e
    have ep : (upd H p (.ins (He.ga K "Laundry") dx [("price", vn pr)])) p = some (.ins (He.ga K "Laundry") dx [("price", vn pr)]) := upd_same
    have hH : upd H p (.ins (He.ga K "Laundry") dx (putF "price" (vn pr) [])) = upd H p (.ins (He.ga K "Laundry") dx [("price", vn pr)]) := rfl
    rw [hH]
    generalize hH1 : upd H p (.ins (He.ga K "Laundry") dx [("price", vn pr)]) = H1 at k1 n1 ep
    have ea := k1 _ _ ha nap
    refine ⟨_, rfl, a, rfl, ⟨_, SqL.of ea⟩, fun D hD => lc_list (xs := vl bs) (fun i H' => Same H1 H' ∧ ∃ (ms : List Addr) (r : Addr → Option Role), H' D = some (.lst (ms.map V.ref)) ∧ ms.length = i ∧ (∀ b q, r b = some q → H1 b = none ∧ b ≠ D ∧ H' b ≠ none) ∧ ∀ (k : Nat) (x : Addr) (b : Nat), ms[k]? = some x → bs[k]? = some b → McAt K H' r k x ⟨b, false, [], [], 0⟩) ?_ (fun i H' _ h => SqL.of (h.1 _ _ ea)) ?_ ?_⟩
    · exact ⟨same_new hD, [], fun _ => none, upd_same, rfl, fun b q h => (by cases h), fun k x b h => by cases h⟩
    · rintro i v H' hv ⟨sm, ms, r, eD, hl, hr, hm⟩
      obtain ⟨b, hb, rfl⟩ := vl_get hv
      refine ⟨rfl, _, rfl, fun x d hx hd hne => ⟨x, d, b, rfl, upd_same, fun H2 l t k2 hl2 ht2 nlt ex el et => ⟨rfl, ?_⟩⟩⟩
      have s2 : Same H' H2 := fun z o e => by
        have n := ne_of_none e hx
        exact k2 z o (by rw [upd_ne n, upd_ne (ne_of_none e hd)]; exact e) n
      have fresh : ∀ z, (upd (upd H' d (.own x)) x (.ins (He.ga K "Machine") d [])) z = none → H' z = none ∧ z ≠ x := fun z e => by
        by_cases c : z = x
        · rw [c, upd_same] at e; cases e
        · rw [upd_ne c] at e
          by_cases c2 : z = d
          · rw [c2, upd_same] at e; cases e
          · rw [upd_ne c2] at e; exact ⟨e, c⟩
      obtain ⟨l0, nlx⟩ := fresh l hl2
      obtain ⟨t0, ntx⟩ := fresh t ht2
      have nxD : x ≠ D := (ne_of_none eD hx).symm
      have nlD : l ≠ D := (ne_of_none eD l0).symm
      have ntD : t ≠ D := (ne_of_none eD t0).symm
      refine ⟨_, s2 _ _ eD, ?_, ?_, ms ++ [x], fun z => if z = x then some (.mac i) else if z = l then some (.mth i) else if z = t then some (.mpr i) else r z, by rw [upd_same, List.map_append]; rfl, by rw [List.length_append, hl]; rfl, fun z q hz => ?_, fun k y b' hk hb' => ?_⟩
      · rw [List.length_map, hl]
        have := (List.getElem?_eq_some_iff.mp hb).1
        exact line_lt (by omega)
      · exact Same.grow (sm.trans s2) hD
      · have hz : (if z = x then some (Role.mac i) else if z = l then some (.mth i) else if z = t then some (.mpr i) else r z) = some q := hz
        by_cases c1 : z = x
        · subst c1
          exact ⟨Same.none_of sm hx, nxD, by rw [upd_ne nxD, ex]; simp⟩
        · rw [if_neg c1] at hz
          by_cases c2 : z = l
          · subst c2
            exact ⟨Same.none_of sm l0, nlD, by rw [upd_ne nlD, el]; simp⟩
          · rw [if_neg c2] at hz
            by_cases c3 : z = t
            · subst c3
              exact ⟨Same.none_of sm t0, ntD, by rw [upd_ne ntD, et]; simp⟩
            · rw [if_neg c3] at hz
              obtain ⟨g1, g2, g3⟩ := hr z q hz
              refine ⟨g1, g2, ?_⟩
              rw [upd_ne g2]
              cases e : H' z with
              | none => exact absurd e g3
              | some o => rw [s2 _ _ e]; simp
      · rcases Nat.lt_trichotomy k ms.length with c | c | c
        · rw [List.getElem?_append_left c] at hk
          have M := hm k y b' hk hb'
          have M2 := M.roles (r' := fun z => if z = x then some (.mac i) else if z = l then some (.mth i) else if z = t then some (.mpr i) else r z) fun z o q e1 e2 => by
            show (if z = x then _ else if z = l then _ else if z = t then _ else _) = _
            rw [if_neg (ne_of_none e1 hx), if_neg (ne_of_none e1 l0), if_neg (ne_of_none e1 t0)]; exact e2
          obtain ⟨d1, l1, p1, a1, a2, a3, a4, a5, a6⟩ := M
          obtain ⟨_, _, _, _, _, _, _⟩ := M2
          refine ⟨d1, l1, p1, ?_, ?_, ?_, ?_, ?_, ?_⟩
          · rw [upd_ne (hr _ _ a4).2.1]; exact s2 _ _ a1
          · rw [upd_ne (hr _ _ a5).2.1]; exact s2 _ _ a2
          · rw [upd_ne (hr _ _ a6).2.1]; exact s2 _ _ a3
          · show (if y = x then _ else if y = l then _ else if y = t then _ else _) = _
            rw [if_neg (ne_of_none a1 hx), if_neg (ne_of_none a1 l0), if_neg (ne_of_none a1 t0)]; exact a4
          · show (if l1 = x then _ else if l1 = l then _ else if l1 = t then _ else _) = _
            rw [if_neg (ne_of_none a2 hx), if_neg (ne_of_none a2 l0), if_neg (ne_of_none a2 t0)]; exact a5
          · show (if p1 = x then _ else if p1 = l then _ else if p1 = t then _ else _) = _
            rw [if_neg (ne_of_none a3 hx), if_neg (ne_of_none a3 l0), if_neg (ne_of_none a3 t0)]; exact a6
        · subst c
          rw [List.getElem?_concat_length] at hk
          cases hk
          rw [hl, hb] at hb'
          cases hb'
          rw [hl]
          exact ⟨d, l, t, (upd_ne nxD).trans ex, (upd_ne nlD).trans el, (upd_ne ntD).trans et, if_pos rfl, (if_neg nlx).trans (if_pos rfl), (if_neg ntx).trans ((if_neg nlt.symm).trans (if_pos rfl))⟩
        · rw [List.getElem?_eq_none (by rw [List.length_append, List.length_singleton]; omega)] at hk; cases hk
    · rintro H2 ⟨sm, ms, r, eD, hl, hr, hm⟩
      rw [vl_len] at hl
      have ep2 := sm _ _ ep
      have npD : p ≠ D := (ne_of_none ep hD)
      refine ⟨_, rfl, p, _, dx, _, rfl, ep2, cLaundry T, nLaundry_machines T, (by show 1 < 1000; decide), ?_⟩
      have nz : ∀ {o : HO} z, (upd H2 p o) z = none → H2 z = none ∧ z ≠ p := fun {o} z e => by
        by_cases c : z = p
        · rw [c, upd_same] at e; cases e
        · rw [upd_ne c] at e; exact ⟨e, c⟩
      refine ⟨Nat.zero_le _, fun lo hlo => ?_⟩
      obtain ⟨lo2, nlop⟩ := nz lo hlo
      refine ⟨_, rfl, p, _, dx, _, rfl, (upd_ne nlop.symm).trans upd_same, cLaundry T, nLaundry_orders T, (by show 2 < 1000; decide), ?_⟩
      refine ⟨Nat.zero_le _, fun lt hlt => ?_⟩
      have nltp : lt ≠ p := fun z => by rw [z, upd_same] at hlt; cases hlt
      rw [upd_ne nltp] at hlt
      have nltlo : lt ≠ lo := fun z => by rw [z, upd_same] at hlt; cases hlt
      have hlt2 := hlt
      rw [upd_ne nltlo, upd_ne nltp] at hlt2
      refine ⟨_, rfl, p, _, dx, _, rfl, (upd_ne nltp.symm).trans upd_same, cLaundry T, nLaundry_things T, (by show 3 < 1000; decide), ?_⟩
      refine ⟨_, rfl, p, _, dx, _, rfl, upd_same, cLaundry T, nLaundry_now T, (by show 4 < 1000; decide), ?_⟩
      refine ⟨_, rfl, p, _, dx, _, rfl, upd_same, cLaundry T, nLaundry_till T, (by show 5 < 1000; decide), ?_⟩
      have keep : ∀ {o1 o2 o3 o4 o5 o6 o7 : HO} z o, H2 z = some o → z ≠ p → (upd (upd (upd (upd (upd (upd (upd H2 p o1) lo o2) p o3) lt o4) p o5) p o6) p o7) z = some o := fun {o1 o2 o3 o4 o5 o6 o7} z o e n => by
        rw [upd_ne n, upd_ne n, upd_ne n, upd_ne (ne_of_none e hlt2), upd_ne n, upd_ne (ne_of_none e lo2), upd_ne n]; exact e
      refine q _ { a := p, lm := D, lo := lo, lt := lt, ms := ms, os := [], ts := [], role := fun z => if z = p then some .lau else if z = D then some .lm else if z = lo then some .lo else if z = lt then some .lt else r z } (fun z o e n => keep z o (sm _ _ (k1 z o e n)) n) ?_ rfl ?_
      · have nDlo : D ≠ lo := ne_of_none eD lo2
        have nDlt : D ≠ lt := ne_of_none eD hlt2
        refine { la := ⟨dx, upd_same⟩, hm := keep _ _ eD npD.symm, ho := ?_, ht := ?_, lms := ?_, los := rfl, lts := rfl, mac := fun k x hx => ?_, ord := fun o x h => (by cases h), thi := fun o x h => (by cases h), ra := if_pos rfl, rm := (if_neg npD.symm).trans (if_pos rfl), ro := (if_neg nlop).trans ((if_neg nDlo.symm).trans (if_pos rfl)), rt := (if_neg nltp).trans ((if_neg nDlt.symm).trans ((if_neg nltlo).trans (if_pos rfl))) }
        · show upd _ p _ lo = _
          rw [upd_ne nlop, upd_ne nlop, upd_ne nlop, upd_ne nltlo.symm, upd_ne nlop, upd_same]; rfl
        · show upd _ p _ lt = _
          rw [upd_ne nltp, upd_ne nltp, upd_ne nltp, upd_same]; rfl
        · show ms.length = (bs.map _).length
          rw [List.length_map]; exact hl
        · have hx : ms[k]? = some x := hx
          have hkb : bs[k]? = some (bs.getD k 0) := getD_some (by rw [← hl]; exact (List.getElem?_eq_some_iff.mp hx).1)
          rw [start_mc hkb]
          have M := hm k x _ hx hkb
          refine (M.roles fun z o q e1 e2 => ?_).keep fun z o e h => ?_
          · show (if z = p then some Role.lau else if z = D then some .lm else if z = lo then some .lo else if z = lt then some .lt else r z) = some q
            obtain ⟨g1, g2, g3⟩ := hr z q e2
            have nzp : z ≠ p := fun c => by rw [c, ep] at g1; cases g1
            rw [if_neg nzp, if_neg g2, if_neg (ne_of_none e1 lo2), if_neg (ne_of_none e1 hlt2)]; exact e2
          · have nzp : z ≠ p := fun c => by
              rw [c] at h
              simp at h
            exact keep z o e nzp
      · intro b q hb
        have hb : (if b = p then some Role.lau else if b = D then some .lm else if b = lo then some .lo else if b = lt then some .lt else r b) = some q := hb
        by_cases c : b = p
        · exact .inl c
        · rw [if_neg c] at hb
          refine .inr (n1 b ?_)
          by_cases c2 : b = D
          · rw [c2]; exact hD
          · rw [if_neg c2] at hb
            by_cases c3 : b = lo
            · rw [c3]; exact Same.none_of sm lo2
            · rw [if_neg c3] at hb
              by_cases c4 : b = lt
              · rw [c4]; exact Same.none_of sm hlt2
              · rw [if_neg c4] at hb
                exact (hr b q hb).1
end
end Wt
end
section
set_option Elab.async false
set_option linter.all false
set_option maxRecDepth 100000
set_option maxHeartbeats 2000000
/-! # start, answer -/
namespace Wr
open PySem PySem.Spec PyProof.Rows L2
theorem pe_cs {X : Cx} {k : Nat} {x : Str} {ps : List Str} {sp : Sp} {e : Expr} {es : List Expr} {t : TA} {p pos : Pos} {W : WX} (D : DefOk X.prog X.w X.K X.mg X.base (L2.CX X.prog X.w) k x ps sp) (hr : Room k X.A) (hg : Gl X x) (tk : Takes X W) (ha : PA X (e :: es) t) (hdb : (x == ("__debug__" : Str)) = false := by decide)
    (he : starEach (e :: es) X.env = (false, eval e X.env) :: starEach es X.env := by rfl) (hpl : (backTo pos (starEach es X.env)).any (·.1) = false := by rfl) :
    PE X (.Call (.Name x p) (e :: es) [] pos) (tCallS sp (fun σ => WE W σ) t) := by
  obtain ⟨fd, F, b, m, kp⟩ := D
  exact pe_callS F hr hg m kp b (fun σ => passAt tk σ) ha hdb he hpl
theorem pe_n0 {X : Cx} {k : Nat} {x : Str} {ps : List Str} {sp : Sp} {p pos : Pos} (D : MkOk X.prog X.w X.K X.mg X.base k x ps sp) (hr : Room (k + 1) X.A) (hg : Gl X x) (hdb : (x == ("__debug__" : Str)) = false := by decide) :
    PE X (.Call (.Name x p) [] [] pos) (tMake (He.ga X.K x) sp [] E0 tNil) := by
  obtain ⟨fd, F, b, m, mk⟩ := D
  exact pe_make0 mk F hr hg m b .nil pass0 hdb
end Wr
namespace Wt
open PySem PySem.Spec PyProof.Rows L2 Wr
open PySem.W (Frag)
open Wl (Lb Th Od Mc La Cl Out th od mc)
section
variable {P : Program} {w : World} {K : Frag} {mg : Str → Option Value} {base : Heap}
theorem At.keepR {H H' : Hp} {L : Lay} {m : La} (A : At K H L m) (k : ∀ z o q, H z = some o → L.role z = some q → H' z = some o) : At K H' L m :=
  { A with
    la := by obtain ⟨dx, e⟩ := A.la; exact ⟨dx, k _ _ _ e A.ra⟩
    hm := k _ _ _ A.hm A.rm
    ho := k _ _ _ A.ho A.ro
    ht := k _ _ _ A.ht A.rt
    mac := fun j x e => (A.mac j x e).keep fun z o q c => by rcases c with c | c | c <;> exact k z o _ q c
    ord := fun j x e => (A.ord j x e).keep fun z o q c => by rcases c with c | c <;> exact k z o _ q c
    thi := fun j x e => (A.thi j x e).keep fun z o q c => by rcases c with c | c | c <;> exact k z o _ q c }
theorem At.off {H : Hp} {L : Lay} {m : La} (A : At K H L m) {y : Addr} {o : HO} (hy : L.role y = none) : At K (upd H y o) L m :=
  A.keepR fun z u q e h => by rw [upd_ne (fun c => by rw [c, hy] at h; cases h)]; exact e
def sp_Desk (K : Frag) : Sp := fun vs H Q _ => ∃ (p dx : Addr), vs = [.ref p] ∧ H p = some (.ins (He.ga K "Desk") dx []) ∧ ∀ H', (∀ z o, H z = some o → z ≠ p → H' z = some o) → H' p = some (.ins (He.ga K "Desk") dx [("laundry", .non)]) → Q .non H'
theorem ok_Desk (T : Txt K mg)  : MkOk P w K mg base 1 "Desk" P_DeskI (sp_Desk K) := by
  refine mok (T.fd 6 (d := d_DeskI) (st := sDeskI) (kp := (T.meth "Desk").kp)) (T.glo "Desk") (T.mkr "Desk") sc_DeskI (fun _ _ _ _ _ _ us hl => match us, hl with | [_], _ => rfl) ?len (fun cdv A outer s H vs Q E hr h => ⟨_, (pss_one (ps_fld (pv 0) pe_non rfl)), ?body⟩)
  case len => intro vs H Q E h; obtain ⟨p, dx, rfl, h1, q⟩ := h; rfl
  case body =>
    obtain ⟨p, dx, rfl, h1, q⟩ := h
    exact ⟨_, rfl, p, _, dx, _, rfl, h1, cDesk T, nDesk_laundry T, (by show 0 < 1000; decide), q _ (fun z o e n => by rw [upd_ne n]; exact e) upd_same⟩
def sp_start (K : Frag) : Sp := fun vs H Q E => ∃ (dk ps dx : Addr) (v : V) (pr : Nat) (bs : List Nat), vs = [.ref dk, vn pr, .ref ps] ∧ H dk = some (.ins (He.ga K "Desk") dx [("laundry", v)]) ∧ H ps = some (.lst (vl bs)) ∧ bs.length ≤ 200 ∧
  (¬ Wl.StartOk pr bs → ∀ (H' : Hp) (d : Addr), Same H H' → H d = none → H' d = some (.xd [("number", .int (-22))]) → E (.ref (aRef K)) (some d) H') ∧
  (Wl.StartOk pr bs → ∀ (H' : Hp) (L : Lay) (p : Addr), (∀ z o, H z = some o → z ≠ dk → H' z = some o) → H' dk = some (.ins (He.ga K "Desk") dx [("laundry", .ref L.a)]) → At K H' L (Wl.startL pr bs) → (∀ b q, L.role b = some q → H b = none) → H p = none → H' p = some (.lst [.int 0]) → Q (.ref p) H')
theorem ok_start (T : Txt K mg) (D_ask : DefOk P w K mg base (L2.CX P w) 3 "ask" P_ask (sp_ask K)) (MLaundry : MkOk P w K mg base 3 "Laundry" P_LaundryI (sp_Laundry K)) : DefOk P w K mg base (L2.CX P w) 5 "start" P_start (sp_start K) := by
  refine dokX T (T.fd 30 (d := d_start) (st := s_start) (kp := T.keep "start")) (T.glo "start") sc_start (fun _ _ _ _ _ _ us hl => match us, hl with | [_, _, _], _ => rfl) ?len (fun cdv A outer s H vs Q E hr h => ⟨_, (pss_cons (ps_expr (pe_dx D_ask (hr.mono (by decide)) (by rfl) (takes_of rfl rfl rfl rfl) (pa_cons (pe_and (pe_cmpR op_le (pv 1) (pe_i (i := 1000) T (by rfl)) (nomark _)) (pe_and (pe_cmpR op_le pe_int (pe_callB call_len_seq (by rfl) (T.free "len") PySem.boot_len (pa_cons (pv 2) pa_nil)) (nomark _)) (pe_one (pe_cmpR op_le (pe_callB call_len_seq (by rfl) (T.free "len") PySem.boot_len (pa_cons (pv 2) pa_nil)) (pe_i (i := 4) T (by rfl)) (nomark _))))) (pa_cons (pe_un un_neg pe_int) pa_nil))))
      (pss_cons (ps_expr (pe_dx D_ask (hr.mono (by decide)) (by rfl) (takes_of rfl rfl rfl rfl) (pa_cons (pe_and (pe_cmpR op_ge (pe_callB (cr_min rfl) (by rfl) (T.free "min") (by decide +kernel) (pa_cons (pv 2) pa_nil)) (pe_i (i := 1000) T (by rfl)) (nomark _)) (pe_one (pe_cmpR op_le (pe_callB (cr_max rfl) (by rfl) (T.free "max") (by decide +kernel) (pa_cons (pv 2) pa_nil)) (pe_i (i := 20000) T (by rfl)) (nomark _)))) (pa_cons (pe_un un_neg pe_int) pa_nil))))
      (pss_cons (ps_fld (pv 0) (pe_n MLaundry (hr.mono (by decide)) (by rfl) (pa_cons (pv 1) (pa_cons (pv 2) pa_nil))) rfl)
      (pss_one (ps_ret (pe_lst (pa_cons pe_int pa_nil))))))), ?body⟩)
  case len => intro vs H Q E h; obtain ⟨dk, ps, dx, v, pr, bs, rfl, hdk, hps, hbl, q1, q2⟩ := h; rfl
  case body =>
    obtain ⟨dk, ps, dx, v, pr, bs, rfl, hdk, hps, hbl, q1, q2⟩ := h
    have bad : ¬ Wl.StartOk pr bs → ∀ (H' : Hp) (d : Addr), Same H H' → H d = none → H' d = some (.xd [("number", .int (-22))]) → E (.ref (aRef K)) (some d) H' := q1
    refine ⟨_, rfl, _, _, rfl, rfl, _, rfl, ite_dec (fun c1 => ?_) (fun c1 => ⟨_, rfl, _, _, rfl, askn (Same.refl _) (bad fun k => c1 (by have := k.1; omega))⟩)⟩
    refine ⟨_, rfl, ps, _, rfl, .inl (SqL.of hps), _, _, rfl, rfl, _, rfl, ?_⟩
    rw [vl_len]
    refine ite_dec (fun c2 => ?_) (fun c2 => ⟨_, rfl, _, _, rfl, askn (Same.refl _) (bad fun k => c2 (by have := k.2.1; omega))⟩)
    refine ⟨_, rfl, ps, _, rfl, .inl (SqL.of hps), _, _, rfl, rfl, _, rfl, _, _, rfl, askd (Same.refl _) (fun c3 => ?_) (fun c3 => bad fun k => c3 (by rw [vl_len]; have := k.2.2.1; omega))⟩
    rw [vl_len] at c3
    have bne : bs ≠ [] := fun z => by rw [z] at c2; exact absurd c2 (by decide)
    obtain ⟨Mi, hMi⟩ := min_ex bs bne
    obtain ⟨Ma, hMa⟩ := max_ex bs bne
    have pos : 0 < (Wl.inz bs).length := by rw [List.length_map]; exact List.length_pos_iff.mpr bne
    refine ⟨_, rfl, ps, _, rfl, SqL.of hps, pos, fun mi m1 m2 => ?_⟩
    rw [min_uniq hMi m1 m2]
    refine ⟨_, _, rfl, rfl, _, rfl, ite_dec (fun c4 => ?_) (fun c4 => ⟨_, rfl, _, _, rfl, askn (Same.refl _) (bad fun k => c4 (by have := (k.2.2.2 Mi hMi.1).1; omega))⟩)⟩
    refine ⟨_, rfl, ps, _, rfl, SqL.of hps, pos, fun ma a1 a2 => ?_⟩
    rw [max_uniq hMa a1 a2]
    refine ⟨_, _, rfl, rfl, _, rfl, _, _, rfl, askd (Same.refl _) (fun c5 => ?_) (fun c5 => bad fun k => c5 (by have := (k.2.2.2 Ma hMa.1).2; omega))⟩
    have ok : Wl.StartOk pr bs := ⟨by omega, by omega, by omega, fun x hx => ⟨by have := hMi.2 x hx; omega, by have := hMa.2 x hx; omega⟩⟩
    refine ⟨_, rfl, _, rfl, fun x dl hx hdl hne => ?_⟩
    have k0 : ∀ {o1 o2 : HO} z o, H z = some o → (upd (upd H dl o1) x o2) z = some o := fun {o1 o2} z o e => by rw [upd_ne (ne_of_none e hx), upd_ne (ne_of_none e hdl)]; exact e
    have nz : ∀ {o1 o2 : HO} z, (upd (upd H dl o1) x o2) z = none → H z = none := fun {o1 o2} z e => by
      by_cases c : z = x
      · rw [c, upd_same] at e; cases e
      · rw [upd_ne c] at e
        by_cases c2 : z = dl
        · rw [c2, upd_same] at e; cases e
        · rw [upd_ne c2] at e; exact e
    refine ⟨x, dl, ps, pr, bs, rfl, upd_same, k0 _ _ hps, ne_of_none hps hx, by omega, fun H1 L k1 A1 ea rl => ⟨rfl, ?_⟩⟩
    have k2 : ∀ z o, H z = some o → H1 z = some o := fun z o e => k1 z o (k0 z o e) (ne_of_none e hx)
    have rn : ∀ b q, L.role b = some q → H b = none := fun b q h => by
      rcases rl b q h with rfl | h
      · exact hx
      · exact nz b h
    have rdk : L.role dk = none := by
      cases e : L.role dk with
      | none => rfl
      | some q => rw [rn dk q e] at hdk; cases hdk
    refine ⟨_, rfl, dk, _, dx, _, rfl, k2 _ _ hdk, cDesk T, nDesk_laundry T, (by show 1 < 1000; decide), (by show 1 ≤ sizeLine; decide), fun p hp => ?_⟩
    have npd : p ≠ dk := fun z => by rw [z, upd_same] at hp; cases hp
    have hp0 : H p = none := by
      cases e : H p with
      | none => rfl
      | some o =>
        have := k2 p o e
        rw [upd_ne npd, this] at hp; cases hp
    refine q2 ok _ L p (fun z o e n => ?_) ?_ ((A1.off rdk).same (same_new hp)) rn hp0 upd_same
    · exact same_new hp _ _ (by rw [upd_ne n]; exact k2 z o e)
    · rw [upd_ne npd.symm, upd_same, ← ea]; rfl
end
end Wt
end
section
set_option Elab.async false
set_option linter.all false
set_option maxRecDepth 100000
set_option maxHeartbeats 2000000
/-! # answer -/
namespace Wt
open PySem PySem.Spec PyProof.Rows L2 Wr
open PySem.W (Frag)
open Wl (Lb Th Od Mc La Cl Out th od mc)
section
variable {P : Program} {w : World} {K : Frag} {mg : Str → Option Value} {base : Heap}
theorem askW_eq (m : La) {c : Cl} (ok : Wl.ClOk c) (h0 : c.s ≠ 0) : Wl.askM m c = askW m c.s c.ns c.r := by
  obtain ⟨s, ns, r⟩ := c
  have h1 := ok.s
  have h2 := ok.ns
  simp only at h0 h1 h2
  have hs : s = 1 ∨ s = 2 ∨ s = 3 ∨ s = 4 ∨ s = 5 ∨ s = 6 ∨ s = 7 ∨ s = 8 ∨ s = 9 ∨ s = 10 ∨ s = 11 ∨ s = 12 ∨ s = 13 ∨ s = 14 ∨ s = 15 ∨ s = 16 ∨ s = 17 ∨ s = 18 ∨ s = 19 ∨ s = 20 ∨ s = 21 ∨ s = 22 ∨ s = 23 := by omega
  rcases hs with rfl | rfl | rfl | rfl | rfl | rfl | rfl | rfl | rfl | rfl | rfl | rfl | rfl | rfl | rfl | rfl | rfl | rfl | rfl | rfl | rfl | rfl | rfl <;>
    rcases ns with _ | ⟨a, _ | ⟨b, _ | ⟨c, _ | ⟨d, _ | ⟨e, _ | ⟨f, l⟩⟩⟩⟩⟩⟩ <;>
    first | rfl | (exact absurd h2 (by simp [Wl.numA]))
theorem callK_some {c : Cl} (ok : Wl.ClOk c) (h0 : c.s ≠ 0) : ∃ k, Wl.callK c = some k := by
  obtain ⟨s, ns, r⟩ := c
  have h1 := ok.s
  have h2 := ok.ns
  simp only at h0 h1 h2
  have hs : s = 1 ∨ s = 2 ∨ s = 3 ∨ s = 4 ∨ s = 5 ∨ s = 6 ∨ s = 7 ∨ s = 8 ∨ s = 9 ∨ s = 10 ∨ s = 11 ∨ s = 12 ∨ s = 13 ∨ s = 14 ∨ s = 15 ∨ s = 16 ∨ s = 17 ∨ s = 18 ∨ s = 19 ∨ s = 20 ∨ s = 21 ∨ s = 22 ∨ s = 23 := by omega
  rcases hs with rfl | rfl | rfl | rfl | rfl | rfl | rfl | rfl | rfl | rfl | rfl | rfl | rfl | rfl | rfl | rfl | rfl | rfl | rfl | rfl | rfl | rfl | rfl <;>
    rcases ns with _ | ⟨a, _ | ⟨b, _ | ⟨c, _ | ⟨d, _ | ⟨e, _ | ⟨f, l⟩⟩⟩⟩⟩⟩ <;>
    first | exact ⟨_, rfl⟩ | (exact absurd h2 (by simp [Wl.numA]))
theorem inv_step {s : Option La} (I : Wl.InvO s) {c : Cl} (ok : Wl.ClOk c) (h : c.s ≠ 0 → s ≠ none) : Wl.InvO (Wl.stepD s c).1 := by
  unfold Wl.stepD
  by_cases h0 : c.s = 0
  · rw [if_pos h0]
    by_cases k : Wl.StartOk (c.ns.getD 0 0) c.r
    · rw [if_pos k]; exact Wl.inv_start k
    · rw [if_neg k]; exact I
  · rw [if_neg h0]
    cases s with
    | none => exact absurd rfl (h h0)
    | some m =>
      obtain ⟨k, hk⟩ := callK_some ok h0
      exact (Wl.ask_good I hk).2
/-- the desk and its laundry -/
def DAt (K : Frag) (H : Hp) (dk : Addr) (s : Option La) (r : Addr → Option Role) : Prop := ∃ dx v, H dk = some (.ins (He.ga K "Desk") dx [("laundry", v)]) ∧ r dk = none ∧ ((s = none ∧ v = .non ∧ ∀ b, r b = none) ∨ ∃ m L, s = some m ∧ v = .ref L.a ∧ At K H L m ∧ L.role = r)
theorem DAt.same {H H' : Hp} {dk : Addr} {s : Option La} {r : Addr → Option Role} (h : DAt K H dk s r) (sm : Same H H') : DAt K H' dk s r := by
  obtain ⟨dx, v, h1, h2, h3⟩ := h
  refine ⟨dx, v, sm _ _ h1, h2, ?_⟩
  rcases h3 with h3 | ⟨m, L, a1, a2, a3, a4⟩
  · exact .inl h3
  · exact .inr ⟨m, L, a1, a2, a3.same sm, a4⟩
def sp_answer (K : Frag) : Sp := fun vs H Q E => ∃ (dk pn ps : Addr) (c : Cl) (s : Option La) (r : Addr → Option Role), vs = [.ref dk, vn c.s, .ref pn, .ref ps] ∧ DAt K H dk s r ∧ Wl.InvO s ∧ Wl.ClOk c ∧ (c.s ≠ 0 → s ≠ none) ∧ H pn = some (.lst (vl c.ns)) ∧ H ps = some (.lst (vl c.r)) ∧ r ps = none ∧
  ∀ (H' : Hp) (r' : Addr → Option Role) (p : Addr), DAt K H' dk (Wl.stepD s c).1 r' → (∀ b o, H b = some o → r b = none → b ≠ ps → b ≠ dk → H' b = some o ∧ r' b = none) → H p = none → H' p = some (.lst ((Wl.stepD s c).2.map V.int)) → Q (.ref p) H'
theorem ok_answer (T : Txt K mg) (D_start : DefOk P w K mg base (L2.CX P w) 5 "start" P_start (sp_start K)) (D_asked : DefOk P w K mg base (L2.CX P w) 10 "asked" P_asked (sp_asked K)) : DefOk P w K mg base CX0 11 "answer" P_answer (sp_answer K) := by
  refine dok0 T (T.fd 58 (d := d_answer) (st := s_answer) (kp := T.keep "answer")) (T.glo "answer") sc_answer (fun _ _ _ _ _ _ us hl => match us, hl with | [_, _, _, _], _ => rfl) ?len (fun cdv A outer s H vs Q E hr h => ⟨_,
    pss_one (ps_try_as (i := 4) rfl rfl sc_answer.nd rfl rfl ⟨rfl, by decide, .inl (T.glo "Refused")⟩ takes0
      (fun W pn xe tk _ => pss_cons (ps_if (pt_cmpR op_eq (pv 1) pe_int (nomark _)) (pss_one (ps_ret (pe_cs D_start (hr.mono (by decide)) (by rfl) tk (pa_cons (pv 0) (pa_cons (pe_ix (ix_listK K) (pv 2) pe_int (fun _ _ => rfl)) (pa_cons (pv 3) pa_nil)))))) pss_nil)
        (pss_one (ps_ret (pe_cs D_asked (hr.mono (by decide)) (by rfl) tk (pa_cons (pe_fldK K (pv 0)) (pa_cons (pv 1) (pa_cons (pv 2) (pa_cons (pv 3) pa_nil))))))))
      (fun a oe cls d pn hz hf => pss_one (ps_ret (pe_lst (pa_cons (pe_xf T.ref.xf T.ref.nn hz hf (pv 4)) pa_nil))))), ?body⟩)
  case len => intro vs H Q E h; obtain ⟨dk, pn, ps, c, s, r, rfl, _⟩ := h; rfl
  case body =>
    obtain ⟨dk, pn, ps, c, so, r, rfl, D, I, ok, hsn, hpn, hps, rps, q⟩ := h
    obtain ⟨dx, v, hdk, rdk, hv⟩ := D
    have no : ∀ n : Int, Wl.stepD so c = (so, [n]) → ∀ (H1 : Hp) (p : Addr), Same H H1 → H1 p = none → Q (.ref p) (upd H1 p (.lst [.int n])) := fun n e H1 p sm hp => by
      rw [e] at q
      exact q _ r p (DAt.same ⟨dx, v, hdk, rdk, hv⟩ (sm.trans (same_new hp))) (fun b o eb nb _ _ => ⟨same_new hp _ _ (sm _ _ eb), nb⟩) (Same.none_of sm hp) upd_same
    refine ⟨_, rfl, rfl, _, rfl, ite_eqI (fun c0 => ?_) (fun c0 => ?_)⟩
    · have h0 : c.s = 0 := by omega
      have n1 : c.ns.length = 1 := by rw [ok.ns, h0]; rfl
      have i0 : atI (vl c.ns) (0 : Int) = some (vn (c.ns.getD 0 0)) := ix_vn (i := 0) (getD_some (by omega))
      refine ⟨_, rfl, _, rfl, pn, _, _, _, rfl, rfl, SqL.of hpn, i0, _, rfl, dk, ps, dx, v, _, c.r, rfl, hdk, hps, ok.rl, fun nok H' d sm hd e => ?_, fun sok H' L p k1 e1 A1 rn hp ep => ?_⟩
      · have es : Wl.stepD so c = (so, [-22]) := by
          unfold Wl.stepD
          rw [if_pos h0, if_neg nok]
        exact ⟨true, T.ref.te, fun _ a ha => ⟨_, rfl, rfl, rfl, d, _, _, rfl, e, rfl, (by show 1 ≤ sizeLine; decide), fun p hp => no _ es H' p sm hp⟩, fun z => nomatch z⟩
      · have es : Wl.stepD so c = (some (Wl.startL (c.ns.getD 0 0) c.r), [0]) := by
          unfold Wl.stepD
          rw [if_pos h0, if_pos sok]
        rw [es] at q
        have rl : L.role dk = none := by
          cases e : L.role dk with
          | none => rfl
          | some qq => rw [rn dk qq e] at hdk; cases hdk
        refine q H' L.role p ⟨dx, _, e1, rl, .inr ⟨_, L, rfl, rfl, A1, rfl⟩⟩ (fun b o eb nb _ nd => ⟨k1 b o eb nd, ?_⟩) hp ep
        cases e : L.role b with
        | none => rfl
        | some qq => rw [rn b qq e] at eb; cases eb
    · have h0 : c.s ≠ 0 := by omega
      rcases hv with ⟨z, _⟩ | ⟨m, L, rfl, rfl, A1, rfl⟩
      · exact absurd z (hsn h0)
      · have I : Wl.Inv m := I
        have hln := ok.ns
        have hs := ok.s
        have es : Wl.stepD (some m) c = (some (Wl.told m (Wl.askM m c)).1, (Wl.told m (Wl.askM m c)).2) := by
          unfold Wl.stepD
          rw [if_neg h0]
        have nums : (c.s < 15 ∨ c.s = 17 ∨ c.s = 18 ∨ c.s = 19 → 1 ≤ c.ns.length) ∧ (c.s = 5 ∨ c.s = 7 → 2 ≤ c.ns.length) ∧ (c.s = 2 → c.ns.length = 5) := by
          rw [hln]
          have hc : c.s = 1 ∨ c.s = 2 ∨ c.s = 3 ∨ c.s = 4 ∨ c.s = 5 ∨ c.s = 6 ∨ c.s = 7 ∨ c.s = 8 ∨ c.s = 9 ∨ c.s = 10 ∨ c.s = 11 ∨ c.s = 12 ∨ c.s = 13 ∨ c.s = 14 ∨ c.s = 15 ∨ c.s = 16 ∨ c.s = 17 ∨ c.s = 18 ∨ c.s = 19 ∨ c.s = 20 ∨ c.s = 21 ∨ c.s = 22 ∨ c.s = 23 := by omega
          rcases hc with z | z | z | z | z | z | z | z | z | z | z | z | z | z | z | z | z | z | z | z | z | z | z <;> (rw [z]; simp [Wl.numA])
        refine ⟨_, rfl, dk, _, dx, _, _, rfl, hdk, cDesk T, nDesk_laundry T, rfl, _, rfl, _, rfl, _, rfl, L, m, c.s, c.ns, c.r, pn, ps, rfl, A1, I, hpn, hps, rps, nums.1, nums.2.1, nums.2.2, ?_⟩
        rw [← askW_eq m ok h0]
        cases er : Wl.askM m c with
        | no n =>
          rw [er] at es
          intro H' d sm hd e
          exact ⟨true, T.ref.te, fun _ a ha => ⟨_, rfl, rfl, rfl, d, _, _, rfl, e, rfl, (by show 1 ≤ sizeLine; decide), fun p hp => no n es H' p sm hp⟩, fun z => nomatch z⟩
        | yes m' out =>
          rw [er] at es
          have es : Wl.stepD (some m) c = (some m', out) := es
          rw [es] at q
          intro H' L' p A' ka F hp e
          have ndp : dk ≠ ps := fun z => by rw [z, hps] at hdk; cases hdk
          obtain ⟨f1, f2⟩ := F dk _ hdk rdk ndp
          exact q H' L'.role p ⟨dx, _, f1, f2, .inr ⟨m', L', rfl, by rw [ka], A', rfl⟩⟩ (fun b o eb nb n1 _ => F b o eb nb n1) hp e
end
end Wt
end
section
set_option Elab.async false
set_option linter.all false
set_option maxRecDepth 100000
set_option maxHeartbeats 2000000
/-! # answers -/
namespace Wt
open PySem PySem.Spec PyProof.Rows L2 Wr
open PySem.W (Frag)
open Wl (Lb Th Od Mc La Cl Out th od mc)
section
variable {P : Program} {w : World} {K : Frag} {mg : Str → Option Value} {base : Heap}
theorem seqK {H H' : Hp} {a : Addr} {xs : List V} (h : SqL K H a xs) (k : ∀ o, H a = some o → H' a = some o) : SqL K H' a xs := by
  rcases h with (h | ⟨o, h⟩) | h
  · exact .inl (.inl (k _ h))
  · exact .inl (.inr ⟨o, k _ h⟩)
  · exact .inr h
theorem at_mid {Pf R : List Int} {x : Int} : atI ((Pf ++ x :: R).map V.int) ((Pf.length : Nat) : Int) = some (.int x) := atI_nat (by simp)
theorem cut_at {Pf N R : List Int} {i j : Nat} (hi : i = Pf.length) (hj : j = Pf.length + N.length) : cutV ((Pf ++ (N ++ R)).map V.int) (some (i : Int)) (some (j : Int)) = N.map V.int := by
  subst hi hj
  rw [cut_mid (by simp), ← List.map_drop, ← List.map_take]
  congr 1
  rw [List.drop_left, Nat.add_sub_cancel_left, List.take_left]
theorem outD_len (s : Option La) (c : Cl) (cs : List Cl) : Wl.outD s (c :: cs) = ((Wl.stepD s c).2.length : Int) :: (Wl.stepD s c).2 ++ Wl.outD (Wl.stepD s c).1 cs := rfl
theorem DAt.wipe {H : Hp} {dk p : Addr} {s : Option La} {r : Addr → Option Role} (h : DAt K H dk s r) (hp : H p = none) : DAt K H dk s (fun b => if b = p then none else r b) := by
  obtain ⟨dx, v, h1, h2, h3⟩ := h
  refine ⟨dx, v, h1, ?_, ?_⟩
  · show (if dk = p then none else r dk) = none
    rw [h2]; split <;> rfl
  · rcases h3 with ⟨a1, a2, a3⟩ | ⟨m, L, a1, a2, a3, rfl⟩
    · refine .inl ⟨a1, a2, fun b => ?_⟩
      show (if b = p then none else r b) = none
      rw [a3]; split <;> rfl
    · exact .inr ⟨m, L.wipe p, a1, a2, a3.wipe_new hp, rfl⟩
theorem DAt.off {H : Hp} {dk y : Addr} {o : HO} {s : Option La} {r : Addr → Option Role} (h : DAt K H dk s r) (ne : dk ≠ y) (hy : r y = none) : DAt K (upd H y o) dk s r := by
  obtain ⟨dx, v, h1, h2, h3⟩ := h
  refine ⟨dx, v, by rw [upd_ne ne]; exact h1, h2, ?_⟩
  rcases h3 with h3 | ⟨m, L, a1, a2, a3, a4⟩
  · exact .inl h3
  · exact .inr ⟨m, L, a1, a2, a3.off (by rw [a4]; exact hy), a4⟩
theorem DAt.desk {H : Hp} {dk : Addr} {s : Option La} {r : Addr → Option Role} (h : DAt K H dk s r) : ∃ o, H dk = some o := by
  obtain ⟨dx, v, h1, _⟩ := h
  exact ⟨_, h1⟩
def sp_answers (K : Frag) : Sp := fun vs H Q E => ∃ (a : Addr) (cs : List Cl), vs = [.ref a] ∧ SqL K H a ((cs.flatMap Wl.flat).map V.int) ∧ (∀ c ∈ cs, Wl.ClOk c) ∧ Wl.mayD none cs ∧ (Wl.outD none cs).length ≤ 10000000 ∧ ∀ H' p, Same H H' → H p = none → H' p = some (.lst ((Wl.outD none cs).map V.int)) → Q (.ref p) H'
theorem ok_answers (T : Txt K mg) (MDesk : MkOk P w K mg base 1 "Desk" P_DeskI (sp_Desk K)) (D_answer : DefOk P w K mg base CX0 11 "answer" P_answer (sp_answer K)) {fd : FuncData} (F : Fun K "answers" "answers" s_answers (He.ga K "answers") fd) : FnOk P w K mg base CX0 12 (He.ga K "answers") fd P_answers (sp_answers K) := by
  refine F.ok sc_answers ?len (fun cdv A outer s H vs Q E hr h => ⟨_, (pss_cons (ps_set (i := 1) sc_answers.nd rfl (Or.inl rfl) (pe_n0 MDesk (hr.mono (by decide)) (by rfl)))
      (pss_cons (ps_set (i := 2) sc_answers.nd rfl (Or.inl rfl) (pe_lst pa_nil))
      (pss_cons (ps_set (i := 3) sc_answers.nd rfl (Or.inl rfl) pe_int)
      (pss_cons (ps_while PassesOwn.never (pt_cmpR op_lt (pv 3) (pe_callB call_len_seq (by rfl) (T.free "len") PySem.boot_len (pa_cons (pv 0) pa_nil)) (nomark _))
        (pss_cons (ps_set (i := 4) sc_answers.nd rfl (Or.inl rfl) (pe_ix ix_list (pv 0) (pv 3) (fun _ _ => rfl)))
        (pss_cons (ps_set (i := 5) sc_answers.nd rfl (Or.inl rfl) (pe_op op_add (pe_op op_add (pv 3) pe_int) (pe_ix ix_tup (pe_glob (v := .ref (He.ga K "NUMBERS")) (by rfl) (T.glo "NUMBERS") rfl) (pv 4) (fun _ _ => rfl))))
        (pss_cons (ps_set (i := 6) sc_answers.nd rfl (Or.inl rfl) (pe_slice sl_list (pv 0) (po_some (pe_op op_add (pv 3) pe_int)) (po_some (pv 5))))
        (pss_cons (ps_set (i := 7) sc_answers.nd rfl (Or.inl rfl) (pe_lst pa_nil))
        (pss_cons (ps_if (pt_cmpR op_in_seq (pv 4) (pe_glob (v := .ref (He.ga K "WITH_LIST")) (by rfl) (T.glo "WITH_LIST") rfl) (by rfl))
          (pss_cons (ps_set (i := 7) sc_answers.nd rfl (Or.inl rfl) (pe_slice sl_list (pv 0) (po_some (pe_op op_add (pv 5) pe_int)) (po_some (pe_op op_add (pe_op op_add (pv 5) pe_int) (pe_ix ix_list (pv 0) (pv 5) (fun _ _ => rfl))))))
          (pss_one (ps_aug (i := 5) sc_answers.nd rfl (Or.inl rfl) (pe_op op_add pe_int (pe_ix ix_list (pv 0) (pv 5) (fun _ _ => rfl))) ip_add)))
          pss_nil)
        (pss_cons (ps_set (i := 8) sc_answers.nd rfl (Or.inl rfl) (pe_d D_answer (hr.mono (by decide)) (by rfl) (pa_cons (pv 1) (pa_cons (pv 4) (pa_cons (pv 6) (pa_cons (pv 7) pa_nil))))))
        (pss_cons (ps_expr (pe_bm PySem.F.plainAttrs_list PySem.F.slot_list_append PySem.F.type_list_append mt_append (pv 2) (pa_cons (pe_callB call_len_seq (by rfl) (T.free "len") PySem.boot_len (pa_cons (pv 8) pa_nil)) pa_nil)))
        (pss_cons (ps_expr (pe_bm PySem.F.plainAttrs_list PySem.F.slot_list_extend PySem.F.type_list_extend mt_extend (pv 2) (pa_cons (pv 8) pa_nil)))
        (pss_one (ps_set (i := 3) sc_answers.nd rfl (Or.inl rfl) (pv 5))))))))))))
      (pss_one (ps_ret (pv 2))))))), ?body⟩)
  case len => intro vs H Q E h; obtain ⟨a, cs, rfl, ha, okc, may, hlen, q⟩ := h; rfl
  case body =>
    obtain ⟨a, cs, rfl, ha, okc, may, hlen, q⟩ := h
    refine fun dk dl hdk hdl hne => ⟨dk, dl, rfl, upd_same, fun H1 k1 e1 => ⟨rfl, Nat.zero_le _, fun D hD => ?_⟩⟩
    have s1 : Same H H1 := fun b o e => by
      have n := ne_of_none e hdk
      exact k1 b o (by rw [upd_ne n, upd_ne (ne_of_none e hdl)]; exact e) n
    have ndD : dk ≠ D := ne_of_none e1 hD
    have hD0 : H D = none := Same.none_of s1 hD
    generalize hC : cs.flatMap Wl.flat = C at ha
    refine ⟨fun k σ H' => ∃ (pre rest : List Cl) (s : Option La) (r : Addr → Option Role) (F : List Int) (x4 x5 x6 x7 x8 : Option V), k = rest.length ∧ cs = pre ++ rest ∧ σ = [some (.ref a), some (.ref dk), some (.ref D), some (.int ((pre.flatMap Wl.flat).length : Nat)), x4, x5, x6, x7, x8] ∧ (∀ b o, H b = some o → H' b = some o ∧ r b = none) ∧ DAt K H' dk s r ∧ Wl.InvO s ∧ Wl.mayD s rest ∧ H' D = some (.lst (F.map V.int)) ∧ r D = none ∧ Wl.outD none cs = F ++ Wl.outD s rest, ⟨_, [], cs, none, fun _ => none, [], none, none, none, none, none, rfl, rfl, rfl, fun b o e => ⟨same_new hD _ _ (s1 _ _ e), rfl⟩, DAt.same ⟨dl, _, e1, rfl, .inl ⟨rfl, rfl, fun _ => rfl⟩⟩ (same_new hD), trivial, may, upd_same, rfl, rfl⟩, ?_⟩
    rintro k σ H' ⟨pre, rest, so, r, F, x4, x5, x6, x7, x8, rfl, rfl, rfl, k0, DA, I, mayr, eD, rD, eO⟩
    have sa : SqL K H' a (C.map V.int) := seqK ha fun o e => (k0 a o e).1
    cases rest with
    | nil =>
      have el : (pre.flatMap Wl.flat).length = C.length := by rw [← hC, List.append_nil]
      refine ⟨_, rfl, _, rfl, a, _, rfl, .inl sa, _, _, rfl, rfl, _, rfl, ite_dec (fun c1 => ?_) (fun c1 => ?_)⟩
      · rw [List.length_map] at c1
        exact absurd c1 (by omega)
      · have eF : Wl.outD none (pre ++ []) = F := by rw [eO]; exact List.append_nil _
        rw [eF] at q
        exact ⟨_, rfl, q H' D (fun b o e => (k0 b o e).1) hD0 eD⟩
    | cons c rest =>
      have okk : Wl.ClOk c := okc c (by simp)
      have eC0 : C = pre.flatMap Wl.flat ++ (Wl.flat c ++ rest.flatMap Wl.flat) := by rw [← hC, List.flatMap_append, List.flatMap_cons]
      have ePc : (pre ++ [c]).flatMap Wl.flat = pre.flatMap Wl.flat ++ Wl.flat c := by rw [List.flatMap_append]; simp
      generalize hP : pre.flatMap Wl.flat = Pf at eC0 ePc
      generalize hR : rest.flatMap Wl.flat = R at eC0
      have nl : (Wl.inz c.ns).length = c.ns.length := List.length_map _
      have rl : (Wl.inz c.r).length = c.r.length := List.length_map _
      have eC1 : C = Pf ++ (c.s : Int) :: (Wl.inz c.ns ++ ((if Wl.hasR c.s then (c.r.length : Int) :: Wl.inz c.r else []) ++ R)) := by
        rw [eC0]; unfold Wl.flat; simp
      have eC2 : C = (Pf ++ [(c.s : Int)]) ++ (Wl.inz c.ns ++ ((if Wl.hasR c.s then (c.r.length : Int) :: Wl.inz c.r else []) ++ R)) := by
        rw [eC1]; simp
      have i_s : atI (C.map V.int) ((Pf.length : Nat) : Int) = some (.int c.s) := by rw [eC1]; exact at_mid
      have hn := okk.ns
      have hs23 := okk.s
      have i_n : atI (vl Wl.numA) (c.s : Int) = some (vn c.ns.length) := by
        refine ix_vn ?_
        rw [hn]
        exact getD_some (by show c.s < 24; omega)
      refine ⟨_, rfl, _, rfl, a, _, rfl, .inl sa, _, _, rfl, rfl, _, rfl, ite_dec (fun c1 => ?_) (fun c1 => ?_)⟩
      · refine ⟨fun σ H2 => ∃ (s : Option La) (r : Addr → Option Role) (F : List Int) (x4 x5 x6 x7 x8 : Option V), σ = [some (.ref a), some (.ref dk), some (.ref D), some (.int (((pre ++ [c]).flatMap Wl.flat).length : Nat)), x4, x5, x6, x7, x8] ∧ (∀ b o, H b = some o → H2 b = some o ∧ r b = none) ∧ DAt K H2 dk s r ∧ Wl.InvO s ∧ Wl.mayD s rest ∧ H2 D = some (.lst (F.map V.int)) ∧ r D = none ∧ Wl.outD none (pre ++ c :: rest) = F ++ Wl.outD s rest, ?_, ?_⟩
        · rintro σ H2 ⟨s, r, F, x4, x5, x6, x7, x8, g1, g2, g3, g4, g5, g6, g7, g8⟩
          exact ⟨rest.length, Nat.lt_succ_self _, pre ++ [c], rest, s, r, F, x4, x5, x6, x7, x8, rfl, by simp, g1, g2, g3, g4, g5, g6, g7, g8⟩
        · refine ⟨_, rfl, _, rfl, a, _, _, _, rfl, rfl, sa, i_s, ?_⟩
          refine ⟨_, rfl, _, _, rfl, rfl, _, rfl, _, _, _, _, rfl, rfl, T.nums H', i_n, _, _, rfl, rfl, ?_⟩
          have eb : V.int ((Pf.length : Int) + 1 + (c.ns.length : Int)) = V.int ((Pf.length + 1 + c.ns.length : Nat) : Int) := by congr 1
          refine Eq.mpr (congrArg (fun v => gName 5 v _ _ _) eb) ?_
          refine ⟨_, rfl, _, rfl, _, _, rfl, rfl, _, rfl, _, rfl, _, rfl, a, _, rfl, sa, fun pn hpn => ?_⟩
          have hcut : cutV (C.map V.int) (some ((Pf.length : Int) + 1)) (some ((Pf.length + 1 + c.ns.length : Nat) : Int)) = vl c.ns := by
            have e : (Pf.length : Int) + 1 = ((Pf.length + 1 : Nat) : Int) := by omega
            rw [e, eC2]
            exact cut_at (by simp) (by simp)
          have hH3 : upd H' pn (.lst (cutV (C.map V.int) (some ((Pf.length : Int) + 1)) (some ((Pf.length + 1 + c.ns.length : Nat) : Int)))) = upd H' pn (.lst (vl c.ns)) := by rw [hcut]
          rw [hH3]
          refine ⟨Nat.zero_le _, fun p0 hp0 => ?_⟩
          have s2 := (same_new (o := .lst (vl c.ns)) hpn).trans (same_new (o := .lst []) hp0)
          have epn := same_new (o := .lst []) hp0 _ _ (upd_same (H := H') (a := pn) (o := .lst (vl c.ns)))
          have ep0 : (upd (upd H' pn (.lst (vl c.ns))) p0 (.lst [])) p0 = some (.lst []) := upd_same
          have hp00 : H' p0 = none := Same.none_of (same_new hpn) hp0
          generalize hH4 : upd (upd H' pn (.lst (vl c.ns))) p0 (.lst []) = H4 at s2 epn ep0
          have sa4 : SqL K H4 a (C.map V.int) := s2.seq sa
          have D4 := (DA.wipe hp00).same s2
          refine ⟨_, rfl, _, _, rfl, .inr (T.withs _), rfl, flat_ints [0, 2, 15], _, rfl, ?_⟩
          rw [inV_int]
          refine ite_dec (fun c2 => ?_) (fun c2 => ?_)
          · have hR2 : Wl.hasR c.s := by
              unfold Wl.hasR
              simp at c2; omega
            rw [if_pos hR2] at eC1 eC2
            have eC3 : C = (Pf ++ (c.s : Int) :: Wl.inz c.ns) ++ (c.r.length : Int) :: (Wl.inz c.r ++ R) := by rw [eC1]; simp
            have eC4 : C = (Pf ++ (c.s : Int) :: Wl.inz c.ns ++ [(c.r.length : Int)]) ++ (Wl.inz c.r ++ R) := by rw [eC1]; simp
            have i_r : atI (C.map V.int) ((Pf.length + 1 + c.ns.length : Nat) : Int) = some (.int (c.r.length : Int)) := by
              rw [eC3]
              have := at_mid (Pf := Pf ++ (c.s : Int) :: Wl.inz c.ns) (R := Wl.inz c.r ++ R) (x := (c.r.length : Int))
              rw [show (Pf ++ (c.s : Int) :: Wl.inz c.ns).length = Pf.length + 1 + c.ns.length by simp; omega] at this
              exact this
            refine ⟨_, rfl, _, rfl, _, _, rfl, rfl, _, rfl, _, rfl, _, _, rfl, rfl, _, rfl, _, rfl, a, _, _, _, rfl, rfl, sa4, i_r, _, _, rfl, rfl, _, rfl, a, _, rfl, sa4, fun ps hps => ?_⟩
            have hcut2 : cutV (C.map V.int) (some (((Pf.length + 1 + c.ns.length : Nat) : Int) + 1)) (some (((Pf.length + 1 + c.ns.length : Nat) : Int) + 1 + (c.r.length : Int))) = vl c.r := by
              have e1 : ((Pf.length + 1 + c.ns.length : Nat) : Int) + 1 = ((Pf.length + 1 + c.ns.length + 1 : Nat) : Int) := by omega
              have e2 : ((Pf.length + 1 + c.ns.length : Nat) : Int) + 1 + (c.r.length : Int) = ((Pf.length + 1 + c.ns.length + 1 + c.r.length : Nat) : Int) := by omega
              rw [e2, e1, eC4]
              exact cut_at (by simp; omega) (by simp; omega)
            have hH5 : upd H4 ps (.lst (cutV (C.map V.int) (some (((Pf.length + 1 + c.ns.length : Nat) : Int) + 1)) (some (((Pf.length + 1 + c.ns.length : Nat) : Int) + 1 + (c.r.length : Int))))) = upd H4 ps (.lst (vl c.r)) := by rw [hcut2]
            rw [hH5]
            have s5 := same_new (o := .lst (vl c.r)) hps
            refine ⟨_, rfl, _, rfl, _, rfl, a, _, _, _, rfl, rfl, s5.seq sa4, i_r, _, _, rfl, rfl, _, _, rfl, rfl, ?_⟩
            have eps : (upd H4 ps (.lst (vl c.r))) ps = some (.lst (vl c.r)) := upd_same
            have hps0 : H' ps = none := Same.none_of s2 hps
            have DX := (DA.wipe hps0).same (s2.trans s5)
            have sX := s2.trans s5
            have epnX := s5 _ _ epn
            have eB : ((Pf.length + 1 + c.ns.length : Nat) : Int) + (1 + (c.r.length : Int)) = (((pre ++ [c]).flatMap Wl.flat).length : Nat) := by
              rw [ePc]; unfold Wl.flat; rw [if_pos hR2]; simp; omega
            generalize hHX : upd H4 ps (.lst (vl c.r)) = HX at eps DX sX epnX
            have nDps : D ≠ ps := ne_of_none eD hps0
            have eDX := sX _ _ eD
            refine ⟨_, rfl, _, rfl, _, rfl, _, rfl, dk, pn, ps, c, so, _, rfl, DX, I, okk, mayr.1, epnX, eps, if_pos rfl, fun H5 r5 p1 D5 F5 hp1 e1' => ?_⟩
            obtain ⟨eD5, rD5⟩ := F5 D _ eDX (by show (if D = ps then none else r D) = none; rw [rD]; split <;> rfl) nDps ndD.symm
            have np1D : p1 ≠ D := (ne_of_none eDX hp1).symm
            have eO2 : Wl.outD none (pre ++ c :: rest) = (F ++ (((Wl.stepD so c).2.length : Int) :: (Wl.stepD so c).2)) ++ Wl.outD (Wl.stepD so c).1 rest := by rw [eO, outD_len]; simp
            have hl2 : F.length + (1 + (Wl.stepD so c).2.length) ≤ 10000000 := by
              rw [eO2] at hlen
              simp at hlen
              omega
            have k5 : ∀ b o, H b = some o → H5 b = some o ∧ r5 b = none := fun b o eb => by
              obtain ⟨g1, g2⟩ := k0 b o eb
              have nb1 : b ≠ ps := ne_of_none g1 hps0
              have nb2 : b ≠ dk := fun z => by rw [z, hdk] at eb; cases eb
              exact F5 b o (sX _ _ g1) (by show (if b = ps then none else r b) = none; rw [g2]; split <;> rfl) nb1 nb2
            refine ⟨_, rfl, .inl ⟨rfl, _, SqL.of eD5⟩, _, rfl, p1, _, rfl, .inl (SqL.of e1'), D, _, _, rfl, rfl, eD5, by rw [List.length_map]; exact line_lt (by omega), ?_⟩
            have eD6 : (upd H5 D (.lst (F.map V.int ++ [V.int ((((Wl.stepD so c).2.map V.int).length : Nat) : Int)]))) D = some (.lst (F.map V.int ++ [V.int ((((Wl.stepD so c).2.map V.int).length : Nat) : Int)])) := upd_same
            have e16 : (upd H5 D (.lst (F.map V.int ++ [V.int ((((Wl.stepD so c).2.map V.int).length : Nat) : Int)]))) p1 = some (.lst ((Wl.stepD so c).2.map V.int)) := (upd_ne np1D).trans e1'
            refine ⟨_, rfl, .inl ⟨rfl, _, SqL.of eD6⟩, _, rfl, D, p1, _, _, rfl, rfl, eD6, e16, by rw [List.length_append, List.length_map, List.length_map, List.length_singleton]; exact line_le (by omega), ?_⟩
            rw [upd_upd]
            refine ⟨_, rfl, (Wl.stepD so c).1, r5, F ++ (((Wl.stepD so c).2.length : Int) :: (Wl.stepD so c).2), _, _, _, _, _, by rw [← eB]; rfl, fun b o eb => ?_, D5.off ndD rD5, inv_step I okk mayr.1, mayr.2, ?_, rD5, eO2⟩
            · have nb : b ≠ D := fun z => by rw [z, hD0] at eb; cases eb
              rw [upd_ne nb]; exact k5 b o eb
            · rw [upd_same, List.length_map]; simp
          · have hR2 : ¬ Wl.hasR c.s := fun z => c2 (by
              unfold Wl.hasR at z
              simp; omega)
            have er : c.r = [] := okk.r hR2
            have eB : ((Pf.length + 1 + c.ns.length : Nat) : Int) = (((pre ++ [c]).flatMap Wl.flat).length : Nat) := by
              rw [ePc]; unfold Wl.flat; rw [if_neg hR2]; simp; omega
            have eps : H4 p0 = some (.lst (vl c.r)) := by rw [er]; exact ep0
            have DX := D4
            have sX := s2
            have epnX := epn
            have hps0 := hp00
            generalize p0 = ps at eps DX hps0 ep0
            have nDps : D ≠ ps := ne_of_none eD hps0
            have eDX := sX _ _ eD
            refine ⟨_, rfl, _, rfl, _, rfl, _, rfl, dk, pn, ps, c, so, _, rfl, DX, I, okk, mayr.1, epnX, eps, if_pos rfl, fun H5 r5 p1 D5 F5 hp1 e1' => ?_⟩
            obtain ⟨eD5, rD5⟩ := F5 D _ eDX (by show (if D = ps then none else r D) = none; rw [rD]; split <;> rfl) nDps ndD.symm
            have np1D : p1 ≠ D := (ne_of_none eDX hp1).symm
            have eO2 : Wl.outD none (pre ++ c :: rest) = (F ++ (((Wl.stepD so c).2.length : Int) :: (Wl.stepD so c).2)) ++ Wl.outD (Wl.stepD so c).1 rest := by rw [eO, outD_len]; simp
            have hl2 : F.length + (1 + (Wl.stepD so c).2.length) ≤ 10000000 := by
              rw [eO2] at hlen
              simp at hlen
              omega
            have k5 : ∀ b o, H b = some o → H5 b = some o ∧ r5 b = none := fun b o eb => by
              obtain ⟨g1, g2⟩ := k0 b o eb
              have nb1 : b ≠ ps := ne_of_none g1 hps0
              have nb2 : b ≠ dk := fun z => by rw [z, hdk] at eb; cases eb
              exact F5 b o (sX _ _ g1) (by show (if b = ps then none else r b) = none; rw [g2]; split <;> rfl) nb1 nb2
            refine ⟨_, rfl, .inl ⟨rfl, _, SqL.of eD5⟩, _, rfl, p1, _, rfl, .inl (SqL.of e1'), D, _, _, rfl, rfl, eD5, by rw [List.length_map]; exact line_lt (by omega), ?_⟩
            have eD6 : (upd H5 D (.lst (F.map V.int ++ [V.int ((((Wl.stepD so c).2.map V.int).length : Nat) : Int)]))) D = some (.lst (F.map V.int ++ [V.int ((((Wl.stepD so c).2.map V.int).length : Nat) : Int)])) := upd_same
            have e16 : (upd H5 D (.lst (F.map V.int ++ [V.int ((((Wl.stepD so c).2.map V.int).length : Nat) : Int)]))) p1 = some (.lst ((Wl.stepD so c).2.map V.int)) := (upd_ne np1D).trans e1'
            refine ⟨_, rfl, .inl ⟨rfl, _, SqL.of eD6⟩, _, rfl, D, p1, _, _, rfl, rfl, eD6, e16, by rw [List.length_append, List.length_map, List.length_map, List.length_singleton]; exact line_le (by omega), ?_⟩
            rw [upd_upd]
            refine ⟨_, rfl, (Wl.stepD so c).1, r5, F ++ (((Wl.stepD so c).2.length : Int) :: (Wl.stepD so c).2), _, _, _, _, _, by rw [← eB]; rfl, fun b o eb => ?_, D5.off ndD rD5, inv_step I okk mayr.1, mayr.2, ?_, rD5, eO2⟩
            · have nb : b ≠ D := fun z => by rw [z, hD0] at eb; cases eb
              rw [upd_ne nb]; exact k5 b o eb
            · rw [upd_same, List.length_map]; simp
      · rw [List.length_map, eC1] at c1
        exact absurd (show ((Pf.length : Nat) : Int) < _ by simp; omega) c1
end
end Wt
end
section
set_option Elab.async false
set_option linter.all false
set_option maxRecDepth 100000
set_option maxHeartbeats 2000000
/-! # All of the defs keep their promises -/
namespace Wt
open PySem PySem.Spec PyProof.Rows L2 Wr
open PySem.W (Frag)
section
variable {P : Program} {w : World} {K : Frag} {mg : Str → Option Value} {base : Heap}
theorem all_ok (T : Txt K mg) {fd : FuncData} (F : Fun K "answers" "answers" s_answers (He.ga K "answers") fd) : FnOk P w K mg base CX0 12 (He.ga K "answers") fd P_answers (sp_answers K) := by
  have DI := ok_Refused (P := P) (w := w) (base := base) T
  have MDesk := ok_Desk (P := P) (w := w) (base := base) T 
  have D_waits := ok_waits (P := P) (w := w) (base := base) T 
  have D_waiting := ok_waiting (P := P) (w := w) (base := base) T D_waits
  have D_waiting_told := ok_waiting_told (P := P) (w := w) (base := base) T D_waiting
  have D_late := ok_late (P := P) (w := w) (base := base) T 
  have D_ask := ok_ask (P := P) (w := w) (base := base) T DI
  have D_is_running := ok_is_running (P := P) (w := w) (base := base) T 
  have D_next_done := ok_next_done (P := P) (w := w) (base := base) T D_ask D_is_running
  have D_of_all := ok_of_all (P := P) (w := w) (base := base) T D_waiting_told D_late D_next_done D_waiting
  have MOrder := ok_Order (P := P) (w := w) (base := base) T 
  have D_new_order := ok_new_order (P := P) (w := w) (base := base) T D_ask MOrder
  have D_order_at := ok_order_at (P := P) (w := w) (base := base) T D_ask
  have D_digit_of := ok_digit_of (P := P) (w := w) (base := base) T 
  have D_heat_of := ok_heat_of (P := P) (w := w) (base := base) T D_digit_of
  have D_ends_of := ok_ends_of (P := P) (w := w) (base := base) T D_digit_of
  have MLabel := ok_Label (P := P) (w := w) (base := base) T 
  have D_read_label := ok_read_label (P := P) (w := w) (base := base) T D_heat_of D_ends_of MLabel
  have MThing := ok_Thing (P := P) (w := w) (base := base) T 
  have D_mildest := ok_mildest (P := P) (w := w) (base := base) T 
  have D_are_colours_right := ok_are_colours_right (P := P) (w := w) (base := base) T 
  have D_go_together := ok_go_together (P := P) (w := w) (base := base) T D_mildest D_are_colours_right
  have D_is_load := ok_is_load (P := P) (w := w) (base := base) T D_go_together
  have D_add := ok_add (P := P) (w := w) (base := base) T D_order_at D_ask D_read_label MThing D_is_load
  have D_where_is := ok_where_is (P := P) (w := w) (base := base) T 
  have D_state := ok_state (P := P) (w := w) (base := base) T D_order_at D_where_is
  have D_close := ok_close (P := P) (w := w) (base := base) T D_order_at D_ask
  have D_pack := ok_pack (P := P) (w := w) (base := base) T D_order_at D_ask
  have D_bill_of := ok_bill_of (P := P) (w := w) (base := base) T 
  have D_hand := ok_hand (P := P) (w := w) (base := base) T D_order_at D_ask D_bill_of
  have D_cancel := ok_cancel (P := P) (w := w) (base := base) T D_order_at D_ask
  have D_of_orders := ok_of_orders (P := P) (w := w) (base := base) T D_state D_close D_pack D_hand D_cancel D_bill_of D_order_at
  have D_machine_at := ok_machine_at (P := P) (w := w) (base := base) T D_ask
  have D_inside := ok_inside (P := P) (w := w) (base := base) T D_machine_at
  have D_waiting_for := ok_waiting_for (P := P) (w := w) (base := base) T D_waiting
  have D_longer_ways := ok_longer_ways (P := P) (w := w) (base := base) T D_is_load
  have D_first_way := ok_first_way (P := P) (w := w) (base := base) T D_longer_ways
  have D_shared_out := ok_shared_out (P := P) (w := w) (base := base) T D_first_way
  have D_plan_of := ok_plan_of (P := P) (w := w) (base := base) T D_waiting_for D_shared_out
  have D_plan := ok_plan (P := P) (w := w) (base := base) T D_plan_of D_ask D_machine_at
  have D_minutes_of := ok_minutes_of (P := P) (w := w) (base := base) T 
  have D_run_load := ok_run_load (P := P) (w := w) (base := base) T D_mildest D_minutes_of
  have D_run := ok_run (P := P) (w := w) (base := base) T D_machine_at D_ask D_plan_of D_run_load D_is_running
  have D_empty := ok_empty (P := P) (w := w) (base := base) T 
  have D_broken := ok_broken (P := P) (w := w) (base := base) T D_machine_at D_ask D_empty
  have D_machine_told := ok_machine_told (P := P) (w := w) (base := base) T D_machine_at D_is_running
  have D_of_machines := ok_of_machines (P := P) (w := w) (base := base) T D_inside D_plan D_run D_broken D_machine_told
  have D_go_to := ok_go_to (P := P) (w := w) (base := base) T D_is_running D_empty
  have D_tick := ok_tick (P := P) (w := w) (base := base) T D_ask D_go_to
  have D_thing_at := ok_thing_at (P := P) (w := w) (base := base) T D_ask
  have D_where := ok_where (P := P) (w := w) (base := base) T D_thing_at D_where_is
  have D_label_told := ok_label_told (P := P) (w := w) (base := base) T D_thing_at
  have D_thing_told := ok_thing_told (P := P) (w := w) (base := base) T D_thing_at
  have D_apart := ok_apart (P := P) (w := w) (base := base) T D_ask DI D_go_together
  have D_asked := ok_asked (P := P) (w := w) (base := base) T D_of_all D_new_order D_add D_of_orders D_of_machines D_tick D_where D_label_told D_thing_told D_apart
  have MMachine := ok_Machine (P := P) (w := w) (base := base) T 
  have MLaundry := ok_Laundry (P := P) (w := w) (base := base) T MMachine
  have D_start := ok_start (P := P) (w := w) (base := base) T D_ask MLaundry
  have D_answer := ok_answer (P := P) (w := w) (base := base) T D_start D_asked
  have D_answers := ok_answers (P := P) (w := w) (base := base) T MDesk D_answer F
  exact D_answers
end
end Wt
namespace L2
open PySem PySem.Spec PyProof.Rows
open PySem.W (WData Codec OpenSpec)
/-- a Spec row over a head by facts: F gives the written part, the function object, the promise over every base -/
theorem walk_specE {r : OpenSpec} {k : Nat} {q : Program} {loose : List Str} {XP : (Str → Option Value) → Heap → Prop} {YP : World → Heap → Prop} {d : DefRec} {CX : CXT} {ps : List Str} {sp : PySem.W.Frag → Sp}
    (hwell : r.wellSaid = true) (hdf : d.params.defaults = []) (hlen : r.args.length = ps.length) (hr : Room k callerA)
    (F : ∀ (w : World) (mg : Str → Option Value) (fa : Addr) (h : Heap), YP w h → h.Ns mainGlobals mg → mg d.name = some (.ref fa) →
      ∃ (K : PySem.W.Frag) (fd : FuncData), K.In h ∧ (∀ (s : Shared) (us : List Value), us.length = ps.length → BindsTo s fd ⟨us, []⟩ (ps.zip us)) ∧
        ∀ base : Heap, K.In base → base.Ns mainGlobals mg → FnOk r.prog w K mg base CX k fa fd ps (sp K))
    (hsp : ∀ (K : PySem.W.Frag) (H : Hp) (xs : List V) (a : Codec.denoteAll r.args), OnlyF H → Codec.withinAll r.args a = true → Codec.app r.args r.asked a = true → DwAll K H xs (Codec.encAll r.args a) →
      sp K xs H (fun v H' => Dw K H' v (r.ret.enc (Codec.app r.args r.f a))) fun _ _ _ => False)
    (hCX : ∀ (H : Hp) (s : Shared) (e : Value) (s' : Shared), CX [] H s (fun _ _ _ => False) e s' → False) :
    PySem.W.WalkOS q loose XP YP r d [] (fun f vs => PySem.call f vs) := by
  intro w s₀ s₁ mg mb G Y fa o pm cd doc dV kV ho hd hcd hD hmg hg args vals as hpre hlay hrd hwl hlo
  obtain ⟨a, e1, e2⟩ := PySem.W.os_pre_some hpre
  obtain ⟨e3, hwi⟩ := Codec.encAll_of_decAll r.args args a e1
  subst e3
  obtain ⟨K, fd, KX, hb, hF⟩ := F w mg fa _ Y G.T.g hmg
  refine PySem.W.enter_call (codeAny_mono (spec_call (R := []) (cl := classAt s₀.heap) (d0 := r.ret.enc (Codec.app r.args r.f a)) KX G.T.g G.T.b G.T.builtins G.T.nolimit hg hwl (pl_encAll _ _) (layable_weight hlay) hr hF hb (by rw [encAll_len]; exact hlen)
    (fun H xs hO hS => hsp K H xs a hO hwi e2 hS) fun H e s' => hCX H s₁ e s') fun r' s' hq => ?_)
  obtain ⟨u, as', rfl, h1, h2, h3, h4⟩ := hq
  exact ⟨.inl ⟨u, _, as', rfl, fun _ => rfl, h1, (OpenSpec.post_iff hwell hwi _ _).mpr rfl, fun z => Bool.noConfusion (show false = true from z)⟩, h2, h3, h4⟩
end L2
namespace Wt
open PySem PySem.Spec PyProof.Rows L2 Wr
open PySem.W (Frag WData Codec)
theorem law_sp (K : Frag) (H : Hp) (xs : List V) (a : Codec.denoteAll PySem.Challenge.rw_washloads_s01_answers.args) (ask : Codec.app PySem.Challenge.rw_washloads_s01_answers.args PySem.Challenge.rw_washloads_s01_answers.asked a = true) (hx : DwAll K H xs (Codec.encAll PySem.Challenge.rw_washloads_s01_answers.args a)) :
    sp_answers K xs H (fun v H' => Dw K H' v (PySem.Challenge.rw_washloads_s01_answers.ret.enc (Codec.app PySem.Challenge.rw_washloads_s01_answers.args PySem.Challenge.rw_washloads_s01_answers.f a))) fun _ _ _ => False := by
  obtain ⟨l, u⟩ := a
  have hx : DwAll K H xs [WData.list ((l : List Int).map WData.int)] := hx
  have ask : PyKyk.answers_asked l = true := ask
  obtain ⟨cs, ok, el, may, ans, len, _⟩ := Wl.line_of ask
  cases hx with
  | cons h1 h2 =>
    cases h2
    cases h1 with
    | lst hs ha =>
      have e := ints_dw (l : List Int) _ ha
      subst e
      refine ⟨_, cs, rfl, by rw [← el]; exact hs, ok, may, len, fun H' p _ _ e => ?_⟩
      show Dw K H' (.ref p) (.list ((PyKyk.answers l).map WData.int))
      rw [ans]
      exact .lst (SqL.of e) (dw_ints _)
end Wt
end
section
set_option Elab.async false
set_option linter.all false
set_option maxRecDepth 100000
set_option maxHeartbeats 0
/-! # The row -/
open PySem PySem.W PySem.Calls PyProof.Rows
theorem PySem.Challenge.cw_washloads_s01_answers_holds : PySem.Challenge.rw_washloads_s01_answers.Holds := by
  refine HeadRun.head_spec (r := PySem.Challenge.rw_washloads_s01_answers) (q := Wt.qv) (H := Wt.hookW) (ob := Wt.ob) (M := 9000) (loose := Wt.loose) (d := HeadRun.topDef PySem.Challenge.rw_washloads_s01_answers.prog 86) (kwd := []) Wt.ob_eq
    (by kernel_rfl) (fun s => by kernel_rfl) Wt.run (by kernel_rfl) (by kernel_rfl) (by kernel_rfl) os_shapes (by first | assumption | decide +kernel) (by decide +kernel) ⟨rfl, rfl, rfl, rfl, rfl, by decide +kernel⟩ ?hw ?hc
  case hw => exact ⟨[.list [.int 0, .int 1, .int 1, .int 1000]], by decide +kernel, by decide +kernel⟩
  case hc =>
    refine L2.walk_specE (k := 12) (ps := ["calls"]) (CX := L2.CX0) (sp := Wt.sp_answers) (by first | assumption | decide +kernel) (by kernel_rfl) rfl ⟨rfl, by decide, by decide⟩ ?F (fun K H xs a _ _ ask hx => Wt.law_sp K H xs a ask hx) (fun _ _ _ _ z => z)
    intro w mg fa h Y G hmg0
    obtain ⟨K, KX, c⟩ := Y
    have T : Wt.Txt K mg := ⟨c, h, KX, G⟩
    have hmg : mg ("answers" : PySem.Str) = some (.ref fa) := by
      have e : (HeadRun.topDef PySem.Challenge.rw_washloads_s01_answers.prog 86).name = ("answers" : PySem.Str) := by kernel_rfl
      rw [← e]
      exact hmg0
    have eg := T.glo "answers"
    obtain rfl : fa = He.ga K "answers" := by
      rw [hmg] at eg
      exact Value.ref.inj (Option.some.inj eg)
    obtain ⟨fd, F⟩ := T.fd 59 (d := Wt.d_answers) (st := Wt.s_answers) (kp := T.keep "answers")
    have b : ∀ us : List Value, us.length = (["calls"] : List PySem.Str).length → bindArgs fd ⟨us, []⟩ = pure ((["calls"] : List PySem.Str).zip us) := by
      obtain ⟨oc, od, kV, doc, pm, an, cdv, ct, osl, rfl, lk, hcd⟩ := F.ex
      intro us hl
      match us, hl with
      | [_], _ => rfl
    exact ⟨K, fd, KX, fun s us hl => .of_eq (b us hl), fun base _ _ => Wt.all_ok T F⟩
end
