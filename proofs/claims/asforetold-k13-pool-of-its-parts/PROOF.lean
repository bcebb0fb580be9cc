import PyProof.Rows.All
import Wide.All
import OpenK.AllK
import Wide.FinOn
import KE.Datum
import KE.DatumOrd
import KE.DataMinMax
import KE.KDictKeyed
import KE.KeyNested
import PyProof.ReprRoads
import HandS.ForMost
import HandS.SortRule
import HandS.TupAny
import HandS.TupMul
import PyProof.EnumMake
import KE.GoesMore
import HandS.Exc
import HandS.Defaults
import HandS.Conv
import HandS.Head0
import HandS.Head1
import HandS.Head2
import HandS.HeadEnd
import HandS.HeadHook1
import HandS.HeadHook2
import HandS.CallRecv
import HandS.Iter
import HandS.Ends
import PySem.Challenge.RW_asforetold_k13_pool_of_its_parts
namespace Asf
/-! ### instants -/
abbrev Ins := Int × Int
def ilt (a b : Ins) : Bool := if a.1 = b.1 then decide (a.2 < b.2) else decide (a.1 < b.1)
def Le (a b : Ins) : Prop := a.1 < b.1 ∨ (a.1 = b.1 ∧ a.2 ≤ b.2)
theorem ilt_true {a b : Ins} : ilt a b = true ↔ (a.1 < b.1 ∨ (a.1 = b.1 ∧ a.2 < b.2)) := by
  unfold ilt
  by_cases h : a.1 = b.1
  · simp [h]
  · simp [h]
theorem ilt_false {a b : Ins} : ilt a b = false ↔ Le b a := by
  have h := @ilt_true a b
  unfold Le
  cases e : ilt a b with
  | true =>
    have := h.mp e
    simp
    omega
  | false =>
    have : ¬ (a.1 < b.1 ∨ (a.1 = b.1 ∧ a.2 < b.2)) := fun q => by rw [h.mpr q] at e; cases e
    simp
    omega
theorem Le.refl (a : Ins) : Le a a := Or.inr ⟨rfl, Int.le_refl _⟩
theorem Le.trans {a b c : Ins} (h1 : Le a b) (h2 : Le b c) : Le a c := by
  unfold Le at *
  omega
theorem Le.total (a b : Ins) : Le a b ∨ Le b a := by
  unfold Le
  omega
theorem Le.antisymm {a b : Ins} (h1 : Le a b) (h2 : Le b a) : a = b := by
  unfold Le at *
  apply Prod.ext <;> omega
theorem not_le {a b : Ins} : ¬ Le a b ↔ ilt b a = true := by
  rw [ilt_true]
  unfold Le
  omega
theorem le_of_not {a b : Ins} (h : ¬ Le a b) : Le b a := by
  unfold Le at *
  omega
instance (a b : Ins) : Decidable (Le a b) := decidable_of_iff (ilt b a = false) ilt_false

/-- whether an instant is not after a cancellation -/
def na (i : Ins) : Option Ins → Bool
  | none => true
  | some c => !ilt c i
def OLe (i : Ins) : Option Ins → Prop
  | none => True
  | some c => Le i c
theorem na_iff {i : Ins} {c : Option Ins} : na i c = true ↔ OLe i c := by
  cases c with
  | none => simp [na, OLe]
  | some c => simp [na, OLe, ilt_false]
theorem na_false {i : Ins} {c : Option Ins} : na i c = false ↔ ¬ OLe i c := by
  rw [← na_iff]
  simp
theorem OLe.trans {a b : Ins} {c : Option Ins} (h1 : Le a b) (h2 : OLe b c) : OLe a c := by
  cases c with
  | none => trivial
  | some c => exact Le.trans h1 h2
def earliest : Option Ins → Option Ins → Option Ins
  | none, y => y
  | some x, none => some x
  | some x, some y => some (if ilt y x = true then y else x)
def later (s : Ins) (d : Int) : Ins := if d = 0 then s else (s.1 + d, 0)
def nexti (s : Ins) : Ins := (s.1, s.2 + 1)
theorem le_later {s : Ins} {d : Int} (h : 0 ≤ d) : Le s (later s d) := by
  unfold later
  split
  · exact Le.refl s
  · unfold Le
    left
    show s.1 < s.1 + d
    omega
theorem not_le_next (c : Ins) : ¬ Le (nexti c) c := by
  unfold Le nexti
  simp
  omega
theorem le_next (c : Ins) : Le c (nexti c) := by
  unfold Le nexti
  simp
  omega
theorem earliest_ss (x y : Ins) : earliest (some x) (some y) = some (if ilt y x = true then y else x) := rfl
theorem earliest_cases (c : Option Ins) (k : Option Ins) : (earliest c k = c ∧ (∀ x, k = some x → ∃ y, c = some y ∧ Le y x)) ∨ (∃ x, k = some x ∧ earliest c k = some x ∧ OLe x c) := by
  cases c with
  | none =>
    cases k with
    | none => left; exact ⟨rfl, fun x h => by cases h⟩
    | some x => right; exact ⟨x, rfl, rfl, trivial⟩
  | some c =>
    cases k with
    | none => left; exact ⟨rfl, fun x h => by cases h⟩
    | some x =>
      rw [earliest_ss]
      by_cases h : ilt x c = true
      · right
        rw [if_pos h]
        refine ⟨x, rfl, rfl, ?_⟩
        rw [ilt_true] at h
        unfold OLe Le
        omega
      · left
        rw [if_neg h]
        refine ⟨rfl, fun y e => ?_⟩
        cases e
        refine ⟨c, rfl, ?_⟩
        exact ilt_false.mp (by simpa using h)
theorem earliest_of {c : Option Ins} {x : Ins} (h : OLe x c) : earliest c (some x) = some x := by
  cases c with
  | none => rfl
  | some c =>
    rw [earliest_ss]
    by_cases e : ilt x c = true
    · rw [if_pos e]
    · rw [if_neg e]
      have h1 : Le c x := ilt_false.mp (by simpa using e)
      rw [Le.antisymm h1 h]
theorem earliest_none (c : Option Ins) : earliest c none = c := by
  cases c <;> rfl

/-! ### ends -/
inductive Oc where
  | com | fai | can
  deriving DecidableEq
inductive Er where
  | num (i : Int) | dl
  deriving DecidableEq
structure End where
  en : Ins
  oc : Oc
  res : List Er
structure Part where
  scope : Nat
  part : Nat
  kid : Nat
  beg : Option Ins
  lim : Option Ins
  nev : Option Ins
abbrev Path := List Int
structure Entry where
  path : Path
  start : Option Ins
  en : End
/-- how a node behaves: its course (end and parts), its trace -/
structure Beh where
  crs : Ins → Option Ins → End × List Part
  tr : Path → Ins → Option Ins → List Entry
def Beh.fin (b : Beh) (s : Ins) (c : Option Ins) : End := (b.crs s c).1
def rowOf (kids : List Beh) (path : Path) (p : Part) : List Entry :=
  match p.beg with
  | none => [⟨path ++ [(p.scope : Int), (p.part : Int)], none, ⟨p.nev.getD (0, 0), .can, []⟩⟩]
  | some g => match kids[p.kid]? with
    | some b => b.tr (path ++ [(p.scope : Int), (p.part : Int)]) g p.lim
    | none => []
def mk (kids : List Beh) (f : Ins → Option Ins → End × List Part) : Beh :=
  ⟨f, fun path s c => ⟨path, some s, (f s c).1⟩ :: (f s c).2.flatMap (rowOf kids path)⟩

def errorsOf (ends : List End) : List Er := ends.flatMap fun e => if e.oc = .fai then e.res else []
def maxI (x : Ins) (xs : List Ins) : Ins := xs.foldl (fun a y => if ilt a y = true then y else a) x
def minI (x : Ins) (xs : List Ins) : Ins := xs.foldl (fun a y => if ilt y a = true then y else a) x
def minO : List Ins → Option Ins
  | [] => none
  | x :: xs => some (minI x xs)
def firstOf (ends : List End) (oc : Oc) : Option Ins := minO ((ends.filter fun e => e.oc = oc).map (·.en))
def together (s : Ins) (c : Option Ins) (ends counted : List End) (told : Oc × List Er) : End :=
  if errorsOf counted ≠ [] then ⟨maxI s (ends.map (·.en)), .fai, errorsOf counted⟩
  else if told.1 = .com ∧ na (maxI s (ends.map (·.en))) c = false then ⟨maxI s (ends.map (·.en)), .can, []⟩
  else ⟨maxI s (ends.map (·.en)), told.1, told.2⟩
def allValues (ends : List End) : Oc × List Er := if ends.all (fun e => e.oc = .com) then (.com, ends.flatMap (·.res)) else (.can, [])
def firstGo (found : Option End) : List End → Option End
  | [] => found
  | e :: es => firstGo (if e.oc = .com then (match found with | none => some e | some f => if ilt e.en f.en = true then some e else some f) else found) es
def firstValue (ends : List End) : Oc × List Er := match firstGo none ends with
  | none => (.can, [])
  | some f => (f.oc, f.res)

/-! ### the courses -/
def jobEnd (d : Int) (gives : Bool) (v cl : Int) (fault : Option Int) (s : Ins) (c : Option Ins) : End :=
  if na (later s d) c = true then ⟨later s d, if gives = true then .com else .fai, [.num v]⟩
  else match fault with
    | none => ⟨later (nexti (c.getD (0, 0))) cl, .can, []⟩
    | some f => ⟨later (nexti (c.getD (0, 0))) cl, .fai, [.num f]⟩
inductive Kd where
  | all | race | any
  deriving DecidableEq
def limOf (k : Kd) (c : Option Ins) (e1 : List End) : Option Ins := match k with
  | .all => earliest c (firstOf e1 .fai)
  | .race => earliest c (minO (e1.map (·.en)))
  | .any => earliest c (firstOf e1 .com)
def countedOf (k : Kd) (lim : Option Ins) (e2 : List End) : List End :=
  if k = .any ∧ firstOf e2 .com ≠ none then e2.filter (fun e => !na e.en lim) else e2
def toldOf (k : Kd) (e2 : List End) : Oc × List Er := if k = .all then allValues e2 else firstValue e2
def scopeEnd (k : Kd) (bs : List Beh) (s : Ins) (c : Option Ins) : End :=
  together s c (bs.map fun b => b.fin s (limOf k c (bs.map fun b => b.fin s c))) (countedOf k (limOf k c (bs.map fun b => b.fin s c)) (bs.map fun b => b.fin s (limOf k c (bs.map fun b => b.fin s c))))
    (toldOf k (bs.map fun b => b.fin s (limOf k c (bs.map fun b => b.fin s c))))
def scopeParts (n : Nat) (s : Ins) (lim : Option Ins) : List Part := (List.range n).map fun i => ⟨0, i, i, some s, lim, none⟩
def scopeCrs (k : Kd) (bs : List Beh) (s : Ins) (c : Option Ins) : End × List Part :=
  (scopeEnd k bs s c, scopeParts bs.length s (limOf k c (bs.map fun b => b.fin s c)))

/-- insertion sort of instants -/
def insI (x : Ins) : List Ins → List Ins
  | [] => [x]
  | y :: ys => if ilt y x = true then y :: insI x ys else x :: y :: ys
def isort : List Ins → List Ins
  | [] => []
  | x :: xs => insI x (isort xs)
def beginOf (n : Int) (s : Ins) (k : Nat) (comp : List Ins) : Option Ins :=
  if (k : Int) < n then some s else (isort comp)[((k : Int) - n).toNat]?
def comOf : Option End → List Ins
  | some e => if e.oc = .com then [e.en] else []
  | none => []
theorem comOf_some (e : End) : comOf (some e) = if e.oc = .com then [e.en] else [] := rfl
/-- one part of a pool: where it starts, how it ends -/
def poolOne (n : Int) (s : Ins) (c : Option Ins) (k : Nat) (comp : List Ins) (b : Beh) : Option Ins × Option End :=
  match beginOf n s k comp with
  | some g => if na g c = true then (some g, some (b.fin g c)) else (none, c.map fun x => ⟨nexti x, .can, []⟩)
  | none => (none, c.map fun x => ⟨nexti x, .can, []⟩)
def poolRes (n : Int) (s : Ins) (c : Option Ins) : Nat → List Ins → List Beh → List (Option Ins × Option End)
  | _, _, [] => []
  | k, comp, b :: bs => poolOne n s c k comp b :: poolRes n s c (k + 1) (comp ++ comOf (poolOne n s c k comp b).2) bs
def endOr (s : Ins) (r : Option Ins × Option End) : End := r.2.getD ⟨s, .can, []⟩
def poolPart (s : Ins) (c : Option Ins) (k : Nat) (r : Option Ins × Option End) : Part :=
  match r.1 with
  | some g => ⟨0, k, k, some g, c, none⟩
  | none => ⟨0, k, k, none, c, some (endOr s r).en⟩
def poolParts (s : Ins) (c : Option Ins) : Nat → List (Option Ins × Option End) → List Part
  | _, [] => []
  | k, r :: rs => poolPart s c k r :: poolParts s c (k + 1) rs
def poolLim (n : Int) (bs : List Beh) (s : Ins) (c : Option Ins) : Option Ins := earliest c (firstOf ((poolRes n s c 0 [] bs).map (endOr s)) .fai)
def poolEnd (n : Int) (bs : List Beh) (s : Ins) (c : Option Ins) : End :=
  together s c ((poolRes n s (poolLim n bs s c) 0 [] bs).map (endOr s)) ((poolRes n s (poolLim n bs s c) 0 [] bs).map (endOr s)) (allValues ((poolRes n s (poolLim n bs s c) 0 [] bs).map (endOr s)))
def poolCrs (n : Int) (bs : List Beh) (s : Ins) (c : Option Ins) : End × List Part :=
  (poolEnd n bs s c, poolParts s (poolLim n bs s c) 0 (poolRes n s (poolLim n bs s c) 0 [] bs))

def lateEnd (en : Ins) (er : List Er) : End := if er = [] then ⟨en, .can, []⟩ else ⟨en, .fai, er⟩
def timeoutEr (ticks : Int) (s : Ins) (c : Option Ins) (e : End) : List Er := if na (later s ticks) c = true then Er.dl :: errorsOf [e] else errorsOf [e]
def timeoutFin (ticks : Int) (s : Ins) (c : Option Ins) (e : End) : End :=
  if ilt (later s ticks) e.en = false ∧ na e.en c = true then e else lateEnd e.en (timeoutEr ticks s c e)
def timeoutEnd (ticks : Int) (b : Beh) (s : Ins) (c : Option Ins) : End := timeoutFin ticks s c (b.fin s (earliest c (some (later s ticks))))
def timeoutCrs (ticks : Int) (b : Beh) (s : Ins) (c : Option Ins) : End × List Part :=
  (timeoutEnd ticks b s c, [⟨0, 0, 0, some s, earliest c (some (later s ticks)), none⟩])

def seqGo (c : Option Ins) : Nat → End → List Beh → End × List Part
  | _, told, [] => (told, [])
  | k, told, b :: bs =>
    if (b.fin told.en c).oc = .com then
      ((seqGo c (k + 1) (b.fin told.en c) bs).1, ⟨k, 0, k, some told.en, c, none⟩ :: (seqGo c (k + 1) (b.fin told.en c) bs).2)
    else (b.fin told.en c, [⟨k, 0, k, some told.en, c, none⟩])
def seqCrs (bs : List Beh) (s : Ins) (c : Option Ins) : End × List Part := seqGo c 0 ⟨s, .com, []⟩ bs

def orelseCrs (b1 b2 : Beh) (s : Ins) (c : Option Ins) : End × List Part :=
  if (b1.fin s c).oc = .fai then
    if na (b1.fin s c).en c = true then (b2.fin (b1.fin s c).en c, [⟨0, 0, 0, some s, c, none⟩, ⟨1, 0, 1, some (b1.fin s c).en, c, none⟩])
    else (⟨(b1.fin s c).en, .can, []⟩, [⟨0, 0, 0, some s, c, none⟩])
  else (b1.fin s c, [⟨0, 0, 0, some s, c, none⟩])

def retryGo (b : Beh) (d : Int) (c : Option Ins) : Nat → Nat → Ins → End × List Part
  | 0, run, s => (b.fin s c, [⟨run, 0, 0, some s, c, none⟩])
  | left + 1, run, s =>
    if (b.fin s c).oc = .fai then
      if na (b.fin s c).en c = true then
        if na (later (b.fin s c).en d) c = true then
          ((retryGo b d c left (run + 1) (later (b.fin s c).en d)).1, ⟨run, 0, 0, some s, c, none⟩ :: (retryGo b d c left (run + 1) (later (b.fin s c).en d)).2)
        else (⟨nexti (c.getD (0, 0)), .can, []⟩, [⟨run, 0, 0, some s, c, none⟩])
      else (⟨(b.fin s c).en, .can, []⟩, [⟨run, 0, 0, some s, c, none⟩])
    else (b.fin s c, [⟨run, 0, 0, some s, c, none⟩])
def retryCrs (n : Nat) (d : Int) (b : Beh) (s : Ins) (c : Option Ins) : End × List Part := retryGo b d c n 0 s

/-! ### plans as trees -/
inductive T where
  | job (d : Int) (gives : Bool) (v cl : Int) (fault : Option Int)
  | scope (k : Kd) (ps : List T)
  | pool (n : Int) (ps : List T)
  | seq (ps : List T)
  | timeout (ticks : Int) (p : T)
  | orelse (p q : T)
  | retry (n : Nat) (d : Int) (p : T)
mutual
def den : T → Beh
  | .job d g v cl f => mk [] fun s c => (jobEnd d g v cl f s c, [])
  | .scope k ps => mk (denL ps) (scopeCrs k (denL ps))
  | .pool n ps => mk (denL ps) (poolCrs n (denL ps))
  | .seq ps => mk (denL ps) (seqCrs (denL ps))
  | .timeout k p => mk [den p] (timeoutCrs k (den p))
  | .orelse p q => mk [den p, den q] (orelseCrs (den p) (den q))
  | .retry n d p => mk [den p] (retryCrs n d (den p))
def denL : List T → List Beh
  | [] => []
  | p :: ps => den p :: denL ps
end
mutual
/-- within its bounds -/
def WF : T → Prop
  | .job d _ v cl f => (0 ≤ d ∧ d ≤ 1001) ∧ (0 ≤ v ∧ v ≤ 1000) ∧ (0 ≤ cl ∧ cl ≤ 100) ∧ ∀ x, f = some x → 0 ≤ x ∧ x ≤ 1000
  | .scope _ ps => ps ≠ [] ∧ ps.length ≤ 6 ∧ WFL ps
  | .pool n ps => (1 ≤ n ∧ n ≤ 6) ∧ ps ≠ [] ∧ ps.length ≤ 6 ∧ WFL ps
  | .seq ps => ps ≠ [] ∧ ps.length ≤ 6 ∧ WFL ps
  | .timeout k p => (0 ≤ k ∧ k ≤ 1001) ∧ WF p
  | .orelse p q => WF p ∧ WF q
  | .retry n d p => n ≤ 5 ∧ (0 ≤ d ∧ d ≤ 100) ∧ WF p
def WFL : List T → Prop
  | [] => True
  | p :: ps => WF p ∧ WFL ps
end
end Asf
namespace Asf
/-! ### least and greatest -/
theorem maxI_ge_head : ∀ (xs : List Ins) (x : Ins), Le x (maxI x xs)
  | [], x => Le.refl x
  | y :: ys, x => by
    show Le x (maxI (if ilt x y = true then y else x) ys)
    by_cases h : ilt x y = true
    · rw [if_pos h]
      refine Le.trans ?_ (maxI_ge_head ys y)
      rw [ilt_true] at h
      unfold Le
      omega
    · rw [if_neg h]
      exact maxI_ge_head ys x
theorem maxI_ge : ∀ (xs : List Ins) (x : Ins), ∀ y ∈ xs, Le y (maxI x xs)
  | [], _, y, h => by cases h
  | z :: ys, x, y, h => by
    show Le y (maxI (if ilt x z = true then z else x) ys)
    rcases List.mem_cons.mp h with rfl | h
    · by_cases e : ilt x y = true
      · rw [if_pos e]
        exact maxI_ge_head ys y
      · rw [if_neg e]
        exact Le.trans (ilt_false.mp (by simpa using e)) (maxI_ge_head ys x)
    · exact maxI_ge ys _ y h
theorem maxI_mem : ∀ (xs : List Ins) (x : Ins), maxI x xs = x ∨ maxI x xs ∈ xs
  | [], x => Or.inl rfl
  | z :: ys, x => by
    show maxI (if ilt x z = true then z else x) ys = x ∨ maxI (if ilt x z = true then z else x) ys ∈ z :: ys
    by_cases e : ilt x z = true
    · rw [if_pos e]
      rcases maxI_mem ys z with h | h
      · right; rw [h]; exact List.mem_cons_self
      · right; exact List.mem_cons_of_mem _ h
    · rw [if_neg e]
      rcases maxI_mem ys x with h | h
      · left; exact h
      · right; exact List.mem_cons_of_mem _ h
theorem minI_le_head : ∀ (xs : List Ins) (x : Ins), Le (minI x xs) x
  | [], x => Le.refl x
  | y :: ys, x => by
    show Le (minI (if ilt y x = true then y else x) ys) x
    by_cases h : ilt y x = true
    · rw [if_pos h]
      refine Le.trans (minI_le_head ys y) ?_
      rw [ilt_true] at h
      unfold Le
      omega
    · rw [if_neg h]
      exact minI_le_head ys x
theorem minI_le : ∀ (xs : List Ins) (x : Ins), ∀ y ∈ xs, Le (minI x xs) y
  | [], _, y, h => by cases h
  | z :: ys, x, y, h => by
    show Le (minI (if ilt z x = true then z else x) ys) y
    rcases List.mem_cons.mp h with rfl | h
    · by_cases e : ilt y x = true
      · rw [if_pos e]
        exact minI_le_head ys y
      · rw [if_neg e]
        exact Le.trans (minI_le_head ys x) (ilt_false.mp (by simpa using e))
    · exact minI_le ys _ y h
theorem minI_mem : ∀ (xs : List Ins) (x : Ins), minI x xs = x ∨ minI x xs ∈ xs
  | [], x => Or.inl rfl
  | z :: ys, x => by
    show minI (if ilt z x = true then z else x) ys = x ∨ minI (if ilt z x = true then z else x) ys ∈ z :: ys
    by_cases e : ilt z x = true
    · rw [if_pos e]
      rcases minI_mem ys z with h | h
      · right; rw [h]; exact List.mem_cons_self
      · right; exact List.mem_cons_of_mem _ h
    · rw [if_neg e]
      rcases minI_mem ys x with h | h
      · left; exact h
      · right; exact List.mem_cons_of_mem _ h
theorem minO_some {xs : List Ins} {x : Ins} (h : minO xs = some x) : x ∈ xs ∧ ∀ y ∈ xs, Le x y := by
  cases xs with
  | nil => cases h
  | cons z zs =>
    have e : minI z zs = x := Option.some.inj h
    subst e
    refine ⟨?_, fun y hy => ?_⟩
    · rcases minI_mem zs z with h | h
      · rw [h]; exact List.mem_cons_self
      · exact List.mem_cons_of_mem _ h
    · rcases List.mem_cons.mp hy with rfl | hy
      · exact minI_le_head zs y
      · exact minI_le zs z y hy
theorem minO_none {xs : List Ins} (h : minO xs = none) : xs = [] := by
  cases xs with
  | nil => rfl
  | cons z zs => cases h
theorem minO_of {xs : List Ins} {x : Ins} (h : x ∈ xs) (k : ∀ y ∈ xs, Le x y) : minO xs = some x := by
  cases e : minO xs with
  | none => rw [minO_none e] at h; cases h
  | some y =>
    obtain ⟨h1, h2⟩ := minO_some e
    rw [Le.antisymm (h2 x h) (k y h1)]
theorem firstOf_some {es : List End} {o : Oc} {x : Ins} (h : firstOf es o = some x) : (∃ e ∈ es, e.oc = o ∧ e.en = x) ∧ ∀ e ∈ es, e.oc = o → Le x e.en := by
  obtain ⟨h1, h2⟩ := minO_some h
  obtain ⟨e, he, rfl⟩ := List.mem_map.mp h1
  obtain ⟨h3, h4⟩ := List.mem_filter.mp he
  refine ⟨⟨e, h3, by simpa using h4, rfl⟩, fun f hf ho => h2 _ (List.mem_map.mpr ⟨f, List.mem_filter.mpr ⟨hf, by simpa using ho⟩, rfl⟩)⟩
theorem firstOf_none {es : List End} {o : Oc} (h : firstOf es o = none) : ∀ e ∈ es, e.oc ≠ o := by
  intro e he ho
  have h1 := minO_none h
  have h2 : e.en ∈ ((es.filter fun e => e.oc = o).map (·.en)) := List.mem_map.mpr ⟨e, List.mem_filter.mpr ⟨he, by simpa using ho⟩, rfl⟩
  rw [h1] at h2
  cases h2
theorem firstOf_of {es : List End} {o : Oc} {x : Ins} (h : ∃ e ∈ es, e.oc = o ∧ e.en = x) (k : ∀ e ∈ es, e.oc = o → Le x e.en) : firstOf es o = some x := by
  obtain ⟨e, he, ho, rfl⟩ := h
  refine minO_of (List.mem_map.mpr ⟨e, List.mem_filter.mpr ⟨he, by simpa using ho⟩, rfl⟩) fun y hy => ?_
  obtain ⟨f, hf, rfl⟩ := List.mem_map.mp hy
  obtain ⟨h3, h4⟩ := List.mem_filter.mp hf
  exact k f h3 (by simpa using h4)

/-! ### a behaviour that is as the laws of cancelling ask -/
structure Good (b : Beh) : Prop where
  ge : ∀ s c, OLe s c → Le s (b.fin s c).en
  can : ∀ s c, OLe s c → (b.fin s c).oc = .can → ¬ OLe (b.fin s c).en c
  com : ∀ s c, OLe s c → (b.fin s c).oc = .com → OLe (b.fin s c).en c
  fai : ∀ s c, OLe s c → (b.fin s c).oc = .fai → (b.fin s c).res ≠ []
  con : ∀ s c1 c2, OLe s c1 → OLe s c2 → OLe (b.fin s c1).en c1 → OLe (b.fin s c1).en c2 → b.fin s c2 = b.fin s c1
theorem errorsOf_ne {es : List End} {e : End} (he : e ∈ es) (ho : e.oc = .fai) (hr : e.res ≠ []) : errorsOf es ≠ [] := by
  intro h
  unfold errorsOf at h
  rw [List.flatMap_eq_nil_iff] at h
  have := h e he
  rw [if_pos ho] at this
  exact hr this
theorem errorsOf_fai {es : List End} (h : errorsOf es ≠ []) : ∃ e ∈ es, e.oc = .fai := by
  apply Classical.byContradiction
  intro hn
  apply h
  unfold errorsOf
  rw [List.flatMap_eq_nil_iff]
  intro e he
  rw [if_neg (fun q => hn ⟨e, he, q⟩)]
theorem together_en (s c es ct told) : (together s c es ct told).en = maxI s (es.map (·.en)) := by
  unfold together
  split
  · rfl
  · split <;> rfl
theorem together_congr {s : Ins} {c1 c2 : Option Ins} {es ct : List End} {told : Oc × List Er} (h1 : OLe (maxI s (es.map (·.en))) c1) (h2 : OLe (maxI s (es.map (·.en))) c2) : together s c1 es ct told = together s c2 es ct told := by
  unfold together
  rw [na_iff.mpr h1, na_iff.mpr h2]
theorem together_fai {s c es ct told} (h : (together s c es ct told).oc = .fai) (ht : told.1 ≠ .fai) : (together s c es ct told).res ≠ [] := by
  unfold together at *
  split
  · assumption
  · rename_i h1
    rw [if_neg h1] at h
    split at h
    · cases h
    · exact absurd h ht
theorem together_com {s c es ct told} (h : (together s c es ct told).oc = .com) : OLe (maxI s (es.map (·.en))) c := by
  unfold together at h
  split at h
  · cases h
  · split at h
    · cases h
    · rename_i h2
      have h3 : told.1 = .com := h
      have h4 : ¬ na (maxI s (es.map (·.en))) c = false := fun q => h2 ⟨h3, q⟩
      exact na_iff.mp (by simpa using h4)
/-- cancelled: no errors, and either a late end or a tale of cancelling -/
theorem together_can {s c es ct told} (h : (together s c es ct told).oc = .can) : errorsOf ct = [] ∧ (¬ OLe (maxI s (es.map (·.en))) c ∨ told.1 = .can) := by
  unfold together at h
  split at h
  · cases h
  · rename_i h1
    refine ⟨by simpa using h1, ?_⟩
    split at h
    · rename_i h2
      left
      exact na_false.mp h2.2
    · right
      exact h
theorem allValues_ne (es) : (allValues es).1 ≠ .fai := by
  unfold allValues
  split <;> simp
theorem allValues_can {es : List End} (h : (allValues es).1 = .can) : ∃ e ∈ es, e.oc ≠ .com := by
  unfold allValues at h
  split at h
  · cases h
  · rename_i h1
    simp only [List.all_eq_true, decide_eq_true_eq] at h1
    exact Classical.not_forall.mp h1 |>.elim fun e he => ⟨e, (Classical.not_imp.mp he).1, (Classical.not_imp.mp he).2⟩
theorem firstGo_com : ∀ (es : List End) (f : Option End), (∀ x, f = some x → x.oc = .com) → ∀ y, firstGo f es = some y → y.oc = .com
  | [], f, h, y, e => h y e
  | e :: es, f, h, y, q => by
    refine firstGo_com es _ (fun x hx => ?_) y q
    by_cases ho : e.oc = .com
    · rw [if_pos ho] at hx
      cases f with
      | none =>
        cases hx
        exact ho
      | some z =>
        dsimp only at hx
        by_cases hl : ilt e.en z.en = true
        · rw [if_pos hl] at hx
          cases hx
          exact ho
        · rw [if_neg hl] at hx
          cases hx
          exact h _ rfl
    · rw [if_neg ho] at hx
      exact h x hx
theorem firstGo_none : ∀ (es : List End) (f : Option End), firstGo f es = none → f = none ∧ ∀ e ∈ es, e.oc ≠ .com
  | [], f, h => ⟨h, fun e he => by cases he⟩
  | e :: es, f, h => by
    obtain ⟨h1, h2⟩ := firstGo_none es _ h
    by_cases ho : e.oc = .com
    · rw [if_pos ho] at h1
      cases f with
      | none => cases h1
      | some z =>
        dsimp only at h1
        by_cases hl : ilt e.en z.en = true
        · rw [if_pos hl] at h1
          cases h1
        · rw [if_neg hl] at h1
          cases h1
    · rw [if_neg ho] at h1
      refine ⟨h1, fun x hx => ?_⟩
      rcases List.mem_cons.mp hx with rfl | hx
      · exact ho
      · exact h2 x hx
theorem firstValue_ne (es) : (firstValue es).1 ≠ .fai := by
  unfold firstValue
  cases e : firstGo none es with
  | none => simp
  | some f =>
    have := firstGo_com es none (fun x h => by cases h) f e
    simp [this]
theorem firstValue_can {es : List End} (h : (firstValue es).1 = .can) : ∀ e ∈ es, e.oc ≠ .com := by
  unfold firstValue at h
  cases e : firstGo none es with
  | none => exact (firstGo_none es none e).2
  | some f =>
    rw [e] at h
    have := firstGo_com es none (fun x h => by cases h) f e
    simp [this] at h
theorem toldOf_ne (k es) : (toldOf k es).1 ≠ .fai := by
  unfold toldOf
  split
  · exact allValues_ne es
  · exact firstValue_ne es

/-! ### a job -/
theorem good_job {d v cl : Int} {g : Bool} {f : Option Int} (h1 : 0 ≤ d) (h2 : 0 ≤ cl) : Good (mk [] fun s c => (jobEnd d g v cl f s c, [])) := by
  have late : ∀ (s : Ins) (c : Option Ins), OLe s c → na (later s d) c = false → ∃ x, c = some x ∧ (jobEnd d g v cl f s c).en = later (nexti x) cl ∧ ¬ Le (later (nexti x) cl) x ∧ Le s (later (nexti x) cl) := fun s c hs h => by
    cases c with
    | none => cases h
    | some x =>
      refine ⟨x, rfl, ?_, ?_, ?_⟩
      · unfold jobEnd
        rw [h]
        cases f <;> rfl
      · intro q
        exact not_le_next x (Le.trans (le_later h2) q)
      · exact Le.trans hs (Le.trans (le_next x) (le_later h2))
  have soon : ∀ (s : Ins) (c : Option Ins), na (later s d) c = true → jobEnd d g v cl f s c = ⟨later s d, if g = true then .com else .fai, [.num v]⟩ := fun s c h => by
    unfold jobEnd
    rw [if_pos h]
  refine ⟨fun s c hs => ?_, fun s c hs ho => ?_, fun s c hs ho => ?_, fun s c hs ho => ?_, fun s c1 c2 hs1 hs2 q1 q2 => ?_⟩
  · show Le s (jobEnd d g v cl f s c).en
    cases e : na (later s d) c with
    | true => rw [soon s c e]; exact le_later h1
    | false =>
      obtain ⟨x, _, h3, _, h5⟩ := late s c hs e
      rw [h3]
      exact h5
  · show ¬ OLe (jobEnd d g v cl f s c).en c
    have ho' : (jobEnd d g v cl f s c).oc = .can := ho
    cases e : na (later s d) c with
    | true =>
      rw [soon s c e] at ho'
      cases g <;> simp at ho'
    | false =>
      obtain ⟨x, rfl, h3, h4, h5⟩ := late s c hs e
      rw [h3]
      exact h4
  · show OLe (jobEnd d g v cl f s c).en c
    have ho' : (jobEnd d g v cl f s c).oc = .com := ho
    cases e : na (later s d) c with
    | true =>
      rw [soon s c e]
      exact na_iff.mp e
    | false =>
      unfold jobEnd at ho'
      rw [e] at ho'
      cases f <;> cases ho'
  · show (jobEnd d g v cl f s c).res ≠ []
    have ho' : (jobEnd d g v cl f s c).oc = .fai := ho
    unfold jobEnd at *
    split
    · simp
    · rename_i e
      rw [if_neg e] at ho'
      cases f
      · cases ho'
      · simp
  · show jobEnd d g v cl f s c2 = jobEnd d g v cl f s c1
    have q1' : OLe (jobEnd d g v cl f s c1).en c1 := q1
    have q2' : OLe (jobEnd d g v cl f s c1).en c2 := q2
    cases e : na (later s d) c1 with
    | true =>
      rw [soon s c1 e] at q2' ⊢
      exact soon s c2 (na_iff.mpr q2')
    | false =>
      obtain ⟨x, rfl, h3, h4, h5⟩ := late s c1 hs1 e
      rw [h3] at q1'
      exact absurd q1' h4
end Asf
namespace Asf
/-! ### all, race, any -/
def trigP (k : Kd) (e : End) : Prop := match k with
  | .all => e.oc = .fai
  | .race => True
  | .any => e.oc = .com
def firstTrig (k : Kd) (es : List End) : Option Ins := match k with
  | .all => firstOf es .fai
  | .race => minO (es.map (·.en))
  | .any => firstOf es .com
theorem limOf_eq (k : Kd) (c : Option Ins) (es : List End) : limOf k c es = earliest c (firstTrig k es) := by
  cases k <;> rfl
theorem firstTrig_some {k : Kd} {es : List End} {x : Ins} (h : firstTrig k es = some x) : (∃ e ∈ es, trigP k e ∧ e.en = x) ∧ ∀ e ∈ es, trigP k e → Le x e.en := by
  cases k with
  | all => exact firstOf_some h
  | any => exact firstOf_some h
  | race =>
    obtain ⟨h1, h2⟩ := minO_some h
    obtain ⟨e, he, rfl⟩ := List.mem_map.mp h1
    exact ⟨⟨e, he, trivial, rfl⟩, fun f hf _ => h2 _ (List.mem_map.mpr ⟨f, hf, rfl⟩)⟩
theorem firstTrig_of {k : Kd} {es : List End} {x : Ins} (h : ∃ e ∈ es, trigP k e ∧ e.en = x) (q : ∀ e ∈ es, trigP k e → Le x e.en) : firstTrig k es = some x := by
  cases k with
  | all => exact firstOf_of h q
  | any => exact firstOf_of h q
  | race =>
    obtain ⟨e, he, _, rfl⟩ := h
    refine minO_of (List.mem_map.mpr ⟨e, he, rfl⟩) fun y hy => ?_
    obtain ⟨f, hf, rfl⟩ := List.mem_map.mp hy
    exact q f hf trivial
section
variable {bs : List Beh} (G : ∀ b ∈ bs, Good b) {s : Ins}
def e1 (bs : List Beh) (s : Ins) (c : Option Ins) : List End := bs.map fun b => b.fin s c
theorem mem_e1 {c : Option Ins} {e : End} (h : e ∈ e1 bs s c) : ∃ b ∈ bs, b.fin s c = e := List.mem_map.mp h
theorem e1_mem {c : Option Ins} {b : Beh} (h : b ∈ bs) : b.fin s c ∈ e1 bs s c := List.mem_map.mpr ⟨b, h, rfl⟩
include G in
theorem trig_same {k : Kd} {c1 c2 : Option Ins} {f : Ins} (h1 : OLe s c1) (h2 : OLe s c2) (t : firstTrig k (e1 bs s c1) = some f) (f1 : OLe f c1) (f2 : OLe f c2) : firstTrig k (e1 bs s c2) = some f := by
  obtain ⟨⟨e, he, ht, rfl⟩, q⟩ := firstTrig_some t
  obtain ⟨b, hb, rfl⟩ := mem_e1 he
  have eb := (G b hb).con s c1 c2 h1 h2 f1 f2
  refine firstTrig_of ⟨b.fin s c2, e1_mem hb, by rw [eb]; exact ht, by rw [eb]⟩ fun e' he' ht' => ?_
  obtain ⟨b', hb', rfl⟩ := mem_e1 he'
  apply Classical.byContradiction
  intro hn
  have hg := le_of_not hn
  have eb' := (G b' hb').con s c2 c1 h2 h1 (OLe.trans hg f2) (OLe.trans hg f1)
  refine hn ?_
  rw [← eb']
  exact q _ (e1_mem hb') (by rw [eb']; exact ht')
theorem lim_some {k : Kd} {c : Option Ins} {es : List End} {f : Ins} (t : firstTrig k es = some f) (f1 : OLe f c) : limOf k c es = some f := by
  rw [limOf_eq, t, earliest_of f1]
theorem lim_late {k : Kd} {c : Option Ins} {es : List End} {f : Ins} (t : firstTrig k es = some f) (f1 : ¬ OLe f c) : limOf k c es = c := by
  rw [limOf_eq, t]
  rcases earliest_cases c (some f) with ⟨h, _⟩ | ⟨x, hx, _, h⟩
  · exact h
  · cases hx
    exact absurd h f1
theorem lim_none {k : Kd} {c : Option Ins} {es : List End} (t : firstTrig k es = none) : limOf k c es = c := by
  rw [limOf_eq, t, earliest_none]
include G in
theorem lim_ge {k : Kd} {c : Option Ins} (h : OLe s c) : OLe s (limOf k c (e1 bs s c)) := by
  cases t : firstTrig k (e1 bs s c) with
  | none => rw [lim_none t]; exact h
  | some f =>
    by_cases hf : OLe f c
    · rw [lim_some t hf]
      obtain ⟨⟨e, he, _, rfl⟩, _⟩ := firstTrig_some t
      obtain ⟨b, hb, rfl⟩ := mem_e1 he
      exact (G b hb).ge s c h
    · rw [lim_late t hf]
      exact h
/-- the trigger's part, predicted anew -/
theorem trig_again (G : ∀ b ∈ bs, Good b) {k : Kd} {c : Option Ins} {f : Ins} (h : OLe s c) (t : firstTrig k (e1 bs s c) = some f) (f1 : OLe f c) : ∃ b ∈ bs, b.fin s (some f) = b.fin s c ∧ trigP k (b.fin s c) ∧ (b.fin s c).en = f := by
  obtain ⟨⟨e, he, ht, rfl⟩, q⟩ := firstTrig_some t
  obtain ⟨b, hb, rfl⟩ := mem_e1 he
  exact ⟨b, hb, (G b hb).con s c (some _) h ((G b hb).ge s c h) f1 (Le.refl _), ht, rfl⟩
theorem scopeEnd_eq (k : Kd) (bs : List Beh) (s : Ins) (c : Option Ins) : scopeEnd k bs s c =
    together s c (e1 bs s (limOf k c (e1 bs s c))) (countedOf k (limOf k c (e1 bs s c)) (e1 bs s (limOf k c (e1 bs s c)))) (toldOf k (e1 bs s (limOf k c (e1 bs s c)))) := rfl
theorem counted_no {k : Kd} {lim : Option Ins} {es : List End} (h : ∀ e ∈ es, k = .any → e.oc ≠ .com) : countedOf k lim es = es := by
  unfold countedOf
  rw [if_neg]
  rintro ⟨h1, h2⟩
  cases e : firstOf es .com with
  | none => exact h2 e
  | some x =>
    obtain ⟨⟨e, he, ho, _⟩, _⟩ := firstOf_some e
    exact h e he h1 ho
theorem told_can {k : Kd} {es : List End} (h : (toldOf k es).1 = .can) : (k = .all ∧ ∃ e ∈ es, e.oc ≠ .com) ∨ (k ≠ .all ∧ ∀ e ∈ es, e.oc ≠ .com) := by
  unfold toldOf at h
  split at h
  · rename_i hk
    exact .inl ⟨hk, allValues_can h⟩
  · rename_i hk
    exact .inr ⟨hk, firstValue_can h⟩
include G in
theorem good_scope {k : Kd} (hne : bs ≠ []) : Good (mk bs (scopeCrs k bs)) := by
  skip
  have all_le : ∀ (s : Ins) (c c' : Option Ins), OLe (maxI s ((e1 bs s c).map (·.en))) c' → ∀ b ∈ bs, OLe (b.fin s c).en c' := fun s c c' h b hb =>
    OLe.trans (maxI_ge _ _ _ (List.mem_map.mpr ⟨_, e1_mem hb, rfl⟩)) h
  refine ⟨fun s c hs => ?_, fun s c hs ho => ?_, fun s c hs ho => ?_, fun s c hs ho => ?_, fun s c1 c2 h1 h2 q1 q2 => ?_⟩
  · show Le s (scopeEnd k bs s c).en
    rw [scopeEnd_eq, together_en]
    exact maxI_ge_head _ _
  · show ¬ OLe (scopeEnd k bs s c).en c
    have ho' : (scopeEnd k bs s c).oc = .can := ho
    rw [scopeEnd_eq] at ho' ⊢
    rw [together_en]
    obtain ⟨hE, hor⟩ := together_can ho'
    intro hle
    have tc := hor.resolve_left (fun q => q hle)
    have ends := all_le s _ c hle
    cases t : firstTrig k (e1 bs s c) with
    | none =>
      rw [lim_none t] at hE tc ends
      have nocan : ∀ b ∈ bs, (b.fin s c).oc ≠ .can := fun b hb q => (G b hb).can s c hs q (ends b hb)
      rcases told_can tc with ⟨hk, e, he, hne'⟩ | ⟨hk, hn⟩
      · obtain ⟨b, hb, rfl⟩ := mem_e1 he
        have hf : (b.fin s c).oc = .fai := by
          cases q : (b.fin s c).oc with
          | com => exact absurd q hne'
          | fai => rfl
          | can => exact absurd q (nocan b hb)
        rw [counted_no (fun _ _ q => by rw [hk] at q; cases q)] at hE
        exact errorsOf_ne he hf ((G b hb).fai s c hs hf) hE
      · obtain ⟨b, hb⟩ := List.exists_mem_of_ne_nil bs hne
        have hf : (b.fin s c).oc = .fai := by
          cases q : (b.fin s c).oc with
          | com => exact absurd q (hn _ (e1_mem hb))
          | fai => rfl
          | can => exact absurd q (nocan b hb)
        rw [counted_no (fun e he _ => hn e he)] at hE
        exact errorsOf_ne (e1_mem hb) hf ((G b hb).fai s c hs hf) hE
    | some f =>
      by_cases hf : OLe f c
      · rw [lim_some t hf] at hE tc ends
        obtain ⟨b, hb, e, htr, en⟩ := trig_again G hs t hf
        have hm : b.fin s (some f) ∈ e1 bs s (some f) := e1_mem hb
        have hsf : OLe s (some f) := by rw [← en]; exact (G b hb).ge s c hs
        have bcan : (b.fin s (some f)).oc ≠ .can := fun q => (G b hb).can s (some f) hsf q (by rw [e, en]; exact Le.refl f)
        rw [← e] at htr
        have contra : (b.fin s (some f)).oc = .fai → (k = .any → False) → False := fun q hk => by
          rw [counted_no (fun _ _ q => (hk q).elim)] at hE
          exact errorsOf_ne hm q ((G b hb).fai s _ hsf q) hE
        cases k with
        | all => exact contra htr (fun q => by cases q)
        | race =>
          cases q : (b.fin s (some f)).oc with
          | com =>
            rcases told_can tc with ⟨hk, _⟩ | ⟨_, hn⟩
            · cases hk
            · exact hn _ hm q
          | fai => exact contra q (fun q => by cases q)
          | can => exact bcan q
        | any =>
          rcases told_can tc with ⟨hk, _⟩ | ⟨_, hn⟩
          · cases hk
          · exact hn _ hm htr
      · rw [lim_late t hf] at ends
        obtain ⟨⟨e, he, _, rfl⟩, _⟩ := firstTrig_some t
        obtain ⟨b, hb, rfl⟩ := mem_e1 he
        exact hf (ends b hb)
  · show OLe (scopeEnd k bs s c).en c
    have ho' : (scopeEnd k bs s c).oc = .com := ho
    rw [scopeEnd_eq] at ho' ⊢
    rw [together_en]
    exact together_com ho'
  · show (scopeEnd k bs s c).res ≠ []
    have ho' : (scopeEnd k bs s c).oc = .fai := ho
    rw [scopeEnd_eq] at ho' ⊢
    exact together_fai ho' (toldOf_ne _ _)
  · show scopeEnd k bs s c2 = scopeEnd k bs s c1
    have q1' : OLe (scopeEnd k bs s c1).en c1 := q1
    have q2' : OLe (scopeEnd k bs s c1).en c2 := q2
    rw [scopeEnd_eq, together_en] at q1' q2'
    have l1 := all_le s _ c1 q1'
    have l2 := all_le s _ c2 q2'
    have fin : ∀ f, limOf k c1 (e1 bs s c1) = some f → limOf k c2 (e1 bs s c2) = some f → scopeEnd k bs s c2 = scopeEnd k bs s c1 := fun f a1 a2 => by
      rw [a1] at q1' q2'
      rw [scopeEnd_eq, scopeEnd_eq, a1, a2]
      exact together_congr q2' q1'
    cases t : firstTrig k (e1 bs s c1) with
    | none =>
      rw [lim_none t] at l1 l2 q1' q2'
      have same : e1 bs s c2 = e1 bs s c1 := List.map_congr_left fun b hb => (G b hb).con s c1 c2 h1 h2 (l1 b hb) (l2 b hb)
      have t2 : firstTrig k (e1 bs s c2) = none := by rw [same]; exact t
      have nocom : ∀ e ∈ e1 bs s c1, k = .any → e.oc ≠ .com := fun e he hk => by
        rw [hk] at t
        exact firstOf_none t e he
      rw [scopeEnd_eq, scopeEnd_eq, lim_none t, lim_none t2, same, counted_no nocom, counted_no nocom]
      exact together_congr q2' q1'
    | some f =>
      by_cases hf : OLe f c1
      · obtain ⟨b, hb, e, htr, en⟩ := trig_again G h1 t hf
        have a1 := lim_some t hf
        rw [a1] at l2
        have f2 : OLe f c2 := by
          have := l2 b hb
          rw [e, en] at this
          exact this
        exact fin f a1 (lim_some (trig_same G h1 h2 t hf f2) f2)
      · rw [lim_late t hf] at l1
        obtain ⟨⟨e, he, _, rfl⟩, _⟩ := firstTrig_some t
        obtain ⟨b, hb, rfl⟩ := mem_e1 he
        exact absurd (l1 b hb) hf
end
end Asf
namespace Asf
/-! ### timeout -/
theorem early_le {c : Option Ins} {e x : Ins} (h : OLe x (earliest c (some e))) : OLe x c ∧ Le x e := by
  rcases earliest_cases c (some e) with ⟨h1, h2⟩ | ⟨y, hy, h1, h2⟩
  · rw [h1] at h
    refine ⟨h, ?_⟩
    obtain ⟨y, rfl, h3⟩ := h2 e rfl
    exact Le.trans h h3
  · cases hy
    rw [h1] at h
    exact ⟨OLe.trans h h2, h⟩
theorem le_early {c : Option Ins} {e x : Ins} (h1 : OLe x c) (h2 : Le x e) : OLe x (earliest c (some e)) := by
  rcases earliest_cases c (some e) with ⟨h, _⟩ | ⟨y, hy, h, _⟩
  · rw [h]; exact h1
  · cases hy
    rw [h]; exact h2
theorem lateEnd_en (en er) : (lateEnd en er).en = en := by
  unfold lateEnd
  split <;> rfl
theorem lateEnd_can {en er} (h : (lateEnd en er).oc = .can) : er = [] := by
  unfold lateEnd at h
  split at h
  · assumption
  · cases h
theorem lateEnd_com {en er} (h : (lateEnd en er).oc = .com) : False := by
  unfold lateEnd at h
  split at h <;> cases h
theorem lateEnd_fai {en er} (h : (lateEnd en er).oc = .fai) : (lateEnd en er).res ≠ [] := by
  unfold lateEnd at *
  split
  · rename_i e
    rw [if_pos e] at h
    cases h
  · assumption
theorem good_timeout {b : Beh} (G : Good b) {k : Int} (hk : 0 ≤ k) : Good (mk [b] (timeoutCrs k b)) := by
  have lim : ∀ (s : Ins) (c : Option Ins), OLe s c → OLe s (earliest c (some (later s k))) := fun s c h => le_early h (le_later hk)
  have en : ∀ (s : Ins) (c : Option Ins), (timeoutEnd k b s c).en = (b.fin s (earliest c (some (later s k)))).en := fun s c => by
    unfold timeoutEnd timeoutFin
    split
    · rfl
    · exact lateEnd_en _ _
  have first : ∀ (s : Ins) (c : Option Ins), OLe (b.fin s (earliest c (some (later s k)))).en (earliest c (some (later s k))) → timeoutEnd k b s c = b.fin s (earliest c (some (later s k))) := fun s c h => by
    obtain ⟨h1, h2⟩ := early_le h
    unfold timeoutEnd timeoutFin
    rw [if_pos ⟨ilt_false.mpr h2, na_iff.mpr h1⟩]
  have second : ∀ (s : Ins) (c : Option Ins), ¬ OLe (b.fin s (earliest c (some (later s k)))).en (earliest c (some (later s k))) →
      timeoutEnd k b s c = lateEnd (b.fin s (earliest c (some (later s k)))).en (timeoutEr k s c (b.fin s (earliest c (some (later s k))))) := fun s c h => by
    unfold timeoutEnd timeoutFin
    rw [if_neg]
    rintro ⟨q1, q2⟩
    exact h (le_early (na_iff.mp q2) (ilt_false.mp q1))
  refine ⟨fun s c hs => ?_, fun s c hs ho => ?_, fun s c hs ho => ?_, fun s c hs ho => ?_, fun s c1 c2 h1 h2 q1 q2 => ?_⟩
  · show Le s (timeoutEnd k b s c).en
    rw [en]
    exact G.ge _ _ (lim s c hs)
  · show ¬ OLe (timeoutEnd k b s c).en c
    have ho' : (timeoutEnd k b s c).oc = .can := ho
    by_cases h : OLe (b.fin s (earliest c (some (later s k)))).en (earliest c (some (later s k)))
    · rw [first s c h] at ho'
      exact absurd h (G.can _ _ (lim s c hs) ho')
    · rw [en]
      rw [second s c h] at ho'
      have hn := lateEnd_can ho'
      unfold timeoutEr at hn
      cases hd : na (later s k) c with
      | true => rw [hd, if_pos rfl] at hn; cases hn
      | false =>
        intro q
        refine h (le_early q ?_)
        cases c with
        | none => cases hd
        | some c =>
          have h3 : ¬ Le (later s k) c := na_false.mp hd
          exact Le.trans q (le_of_not h3)
  · show OLe (timeoutEnd k b s c).en c
    have ho' : (timeoutEnd k b s c).oc = .com := ho
    by_cases h : OLe (b.fin s (earliest c (some (later s k)))).en (earliest c (some (later s k)))
    · rw [en]
      exact (early_le h).1
    · rw [second s c h] at ho'
      exact (lateEnd_com ho').elim
  · show (timeoutEnd k b s c).res ≠ []
    have ho' : (timeoutEnd k b s c).oc = .fai := ho
    by_cases h : OLe (b.fin s (earliest c (some (later s k)))).en (earliest c (some (later s k)))
    · rw [first s c h] at ho' ⊢
      exact G.fai _ _ (lim s c hs) ho'
    · rw [second s c h] at ho' ⊢
      exact lateEnd_fai ho'
  · show timeoutEnd k b s c2 = timeoutEnd k b s c1
    have q1' : OLe (timeoutEnd k b s c1).en c1 := q1
    have q2' : OLe (timeoutEnd k b s c1).en c2 := q2
    rw [en] at q1' q2'
    by_cases h : OLe (b.fin s (earliest c1 (some (later s k)))).en (earliest c1 (some (later s k)))
    · have h' : OLe (b.fin s (earliest c1 (some (later s k)))).en (earliest c2 (some (later s k))) := le_early q2' (early_le h).2
      have e := G.con s _ _ (lim s c1 h1) (lim s c2 h2) h h'
      rw [first s c1 h, first s c2 (by rw [e]; exact h'), e]
    · -- the deadline is before the end
      have hx : ¬ Le (b.fin s (earliest c1 (some (later s k)))).en (later s k) := fun q => h (le_early q1' q)
      have hx' := le_of_not hx
      have d1 : OLe (later s k) c1 := OLe.trans hx' q1'
      have d2 : OLe (later s k) c2 := OLe.trans hx' q2'
      have e1' : earliest c1 (some (later s k)) = some (later s k) := earliest_of d1
      have e2' : earliest c2 (some (later s k)) = some (later s k) := earliest_of d2
      have h' : ¬ OLe (b.fin s (earliest c2 (some (later s k)))).en (earliest c2 (some (later s k))) := by rw [e2']; rw [e1'] at hx; exact hx
      rw [second s c1 h, second s c2 h', e1', e2']
      unfold timeoutEr
      rw [na_iff.mpr d1, na_iff.mpr d2]

/-! ### sequence -/
theorem seq_good (c : Option Ins) : ∀ (bs : List Beh) (k : Nat) (told : End), (∀ b ∈ bs, Good b) → told.oc = .com → OLe told.en c →
    Le told.en (seqGo c k told bs).1.en ∧ ((seqGo c k told bs).1.oc = .can → ¬ OLe (seqGo c k told bs).1.en c) ∧ ((seqGo c k told bs).1.oc = .com → OLe (seqGo c k told bs).1.en c) ∧ ((seqGo c k told bs).1.oc = .fai → (seqGo c k told bs).1.res ≠ [])
  | [], k, told, _, ho, hl => ⟨Le.refl _, (fun q => by have h : told.oc = .can := q; rw [ho] at h; cases h), fun _ => hl, (fun q => by have h : told.oc = .fai := q; rw [ho] at h; cases h)⟩
  | b :: bs, k, told, G, ho, hl => by
    have Gb := G b List.mem_cons_self
    unfold seqGo
    by_cases h : (b.fin told.en c).oc = .com
    · rw [if_pos h]
      obtain ⟨r1, r2⟩ := seq_good c bs (k + 1) (b.fin told.en c) (fun x hx => G x (List.mem_cons_of_mem _ hx)) h (Gb.com _ _ hl h)
      exact ⟨Le.trans (Gb.ge _ _ hl) r1, r2⟩
    · rw [if_neg h]
      exact ⟨Gb.ge _ _ hl, Gb.can _ _ hl, Gb.com _ _ hl, Gb.fai _ _ hl⟩
theorem seq_con (c1 c2 : Option Ins) : ∀ (bs : List Beh) (k : Nat) (told : End), (∀ b ∈ bs, Good b) → told.oc = .com → OLe told.en c1 → OLe told.en c2 →
    OLe (seqGo c1 k told bs).1.en c1 → OLe (seqGo c1 k told bs).1.en c2 → (seqGo c2 k told bs).1 = (seqGo c1 k told bs).1
  | [], k, told, _, _, _, _, _, _ => rfl
  | b :: bs, k, told, G, ho, hl1, hl2, q1, q2 => by
    have Gb := G b List.mem_cons_self
    unfold seqGo at *
    by_cases h : (b.fin told.en c1).oc = .com
    · rw [if_pos h] at q1 q2 ⊢
      have hc1 := Gb.com _ _ hl1 h
      have r1 := (seq_good c1 bs (k + 1) (b.fin told.en c1) (fun x hx => G x (List.mem_cons_of_mem _ hx)) h hc1).1
      have hc2 : OLe (b.fin told.en c1).en c2 := OLe.trans r1 q2
      have e := Gb.con _ c1 c2 hl1 hl2 hc1 hc2
      rw [if_pos (by rw [e]; exact h), e]
      exact seq_con c1 c2 bs (k + 1) (b.fin told.en c1) (fun x hx => G x (List.mem_cons_of_mem _ hx)) h hc1 hc2 q1 q2
    · rw [if_neg h] at q1 q2 ⊢
      have e := Gb.con _ c1 c2 hl1 hl2 q1 q2
      rw [if_neg (by rw [e]; exact h), e]
theorem good_seq {bs : List Beh} (G : ∀ b ∈ bs, Good b) : Good (mk bs (seqCrs bs)) :=
  ⟨fun s c hs => (seq_good c bs 0 ⟨s, .com, []⟩ G rfl hs).1, fun s c hs => (seq_good c bs 0 ⟨s, .com, []⟩ G rfl hs).2.1, fun s c hs => (seq_good c bs 0 ⟨s, .com, []⟩ G rfl hs).2.2.1,
    fun s c hs => (seq_good c bs 0 ⟨s, .com, []⟩ G rfl hs).2.2.2, fun s c1 c2 h1 h2 q1 q2 => seq_con c1 c2 bs 0 ⟨s, .com, []⟩ G rfl h1 h2 q1 q2⟩

/-! ### orelse -/
theorem good_orelse {b1 b2 : Beh} (G1 : Good b1) (G2 : Good b2) : Good (mk [b1, b2] (orelseCrs b1 b2)) := by
  have fin : ∀ (s : Ins) (c : Option Ins), (mk [b1, b2] (orelseCrs b1 b2)).fin s c = (orelseCrs b1 b2 s c).1 := fun _ _ => rfl
  have cases3 : ∀ (s : Ins) (c : Option Ins), ((b1.fin s c).oc ≠ .fai ∧ (orelseCrs b1 b2 s c).1 = b1.fin s c) ∨ ((b1.fin s c).oc = .fai ∧ OLe (b1.fin s c).en c ∧ (orelseCrs b1 b2 s c).1 = b2.fin (b1.fin s c).en c) ∨
      ((b1.fin s c).oc = .fai ∧ ¬ OLe (b1.fin s c).en c ∧ (orelseCrs b1 b2 s c).1 = ⟨(b1.fin s c).en, .can, []⟩) := fun s c => by
    unfold orelseCrs
    by_cases h : (b1.fin s c).oc = .fai
    · right
      rw [if_pos h]
      cases hn : na (b1.fin s c).en c with
      | true => left; rw [if_pos rfl]; exact ⟨h, na_iff.mp hn, rfl⟩
      | false => right; rw [if_neg Bool.false_ne_true]; exact ⟨h, na_false.mp hn, rfl⟩
    · left
      rw [if_neg h]
      exact ⟨h, rfl⟩
  refine ⟨fun s c hs => ?_, fun s c hs ho => ?_, fun s c hs ho => ?_, fun s c hs ho => ?_, fun s c1 c2 h1 h2 q1 q2 => ?_⟩
  · rw [fin]
    rcases cases3 s c with ⟨_, e⟩ | ⟨_, h, e⟩ | ⟨_, h, e⟩
    · rw [e]; exact G1.ge s c hs
    · rw [e]; exact Le.trans (G1.ge s c hs) (G2.ge _ c h)
    · rw [e]; exact G1.ge s c hs
  · rw [fin] at ho ⊢
    rcases cases3 s c with ⟨_, e⟩ | ⟨_, h, e⟩ | ⟨_, h, e⟩
    · rw [e] at ho ⊢; exact G1.can s c hs ho
    · rw [e] at ho ⊢; exact G2.can _ c h ho
    · rw [e]; exact h
  · rw [fin] at ho ⊢
    rcases cases3 s c with ⟨_, e⟩ | ⟨_, h, e⟩ | ⟨_, h, e⟩
    · rw [e] at ho ⊢; exact G1.com s c hs ho
    · rw [e] at ho ⊢; exact G2.com _ c h ho
    · rw [e] at ho; cases ho
  · rw [fin] at ho ⊢
    rcases cases3 s c with ⟨_, e⟩ | ⟨_, h, e⟩ | ⟨_, h, e⟩
    · rw [e] at ho ⊢; exact G1.fai s c hs ho
    · rw [e] at ho ⊢; exact G2.fai _ c h ho
    · rw [e] at ho; cases ho
  · rw [fin] at q1 q2
    rw [fin, fin]
    rcases cases3 s c1 with ⟨n, e⟩ | ⟨n, h, e⟩ | ⟨n, h, e⟩
    · rw [e] at q1 q2 ⊢
      have eb := G1.con s c1 c2 h1 h2 q1 q2
      rcases cases3 s c2 with ⟨_, e'⟩ | ⟨n', _⟩ | ⟨n', _⟩
      · rw [e', eb]
      · rw [eb] at n'; exact absurd n' n
      · rw [eb] at n'; exact absurd n' n
    · rw [e] at q1 q2 ⊢
      have hle : OLe (b1.fin s c1).en c2 := OLe.trans (G2.ge _ c1 h) q2
      have eb := G1.con s c1 c2 h1 h2 h hle
      rcases cases3 s c2 with ⟨n', _⟩ | ⟨_, _, e'⟩ | ⟨_, h', _⟩
      · rw [eb] at n'; exact absurd n n'
      · rw [e', eb]
        exact G2.con _ c1 c2 h hle q1 q2
      · rw [eb] at h'; exact absurd hle h'
    · rw [e] at q1
      exact absurd q1 h

/-! ### retry -/
theorem retry_good {b : Beh} (G : Good b) {d : Int} (hd : 0 ≤ d) (c : Option Ins) : ∀ (left run : Nat) (s : Ins), OLe s c →
    Le s (retryGo b d c left run s).1.en ∧ ((retryGo b d c left run s).1.oc = .can → ¬ OLe (retryGo b d c left run s).1.en c) ∧ ((retryGo b d c left run s).1.oc = .com → OLe (retryGo b d c left run s).1.en c) ∧ ((retryGo b d c left run s).1.oc = .fai → (retryGo b d c left run s).1.res ≠ [])
  | 0, run, s, hs => ⟨G.ge s c hs, G.can s c hs, G.com s c hs, G.fai s c hs⟩
  | left + 1, run, s, hs => by
    unfold retryGo
    by_cases h : (b.fin s c).oc = .fai
    · rw [if_pos h]
      cases h2 : na (b.fin s c).en c with
      | false =>
        rw [if_neg Bool.false_ne_true]
        exact ⟨G.ge s c hs, fun _ => na_false.mp h2, (fun q => by cases q), (fun q => by cases q)⟩
      | true =>
        rw [if_pos rfl]
        cases h3 : na (later (b.fin s c).en d) c with
        | false =>
          rw [if_neg Bool.false_ne_true]
          cases c with
          | none => cases h3
          | some x =>
            refine ⟨Le.trans hs (le_next x), fun _ q => not_le_next x q, (fun q => by cases q), (fun q => by cases q)⟩
        | true =>
          rw [if_pos rfl]
          obtain ⟨r1, r2⟩ := retry_good G hd c left (run + 1) (later (b.fin s c).en d) (na_iff.mp h3)
          exact ⟨Le.trans (G.ge s c hs) (Le.trans (le_later hd) r1), r2⟩
    · rw [if_neg h]
      exact ⟨G.ge s c hs, G.can s c hs, G.com s c hs, G.fai s c hs⟩
theorem retry_con {b : Beh} (G : Good b) {d : Int} (hd : 0 ≤ d) (c1 c2 : Option Ins) : ∀ (left run : Nat) (s : Ins), OLe s c1 → OLe s c2 →
    OLe (retryGo b d c1 left run s).1.en c1 → OLe (retryGo b d c1 left run s).1.en c2 → (retryGo b d c2 left run s).1 = (retryGo b d c1 left run s).1
  | 0, run, s, h1, h2, q1, q2 => G.con s c1 c2 h1 h2 q1 q2
  | left + 1, run, s, h1, h2, q1, q2 => by
    unfold retryGo at *
    by_cases h : (b.fin s c1).oc = .fai
    · rw [if_pos h] at q1 q2 ⊢
      cases h3 : na (b.fin s c1).en c1 with
      | false =>
        rw [h3, if_neg Bool.false_ne_true] at q1
        exact absurd q1 (na_false.mp h3)
      | true =>
        rw [h3, if_pos rfl] at q1 q2
        rw [if_pos rfl]
        cases h4 : na (later (b.fin s c1).en d) c1 with
        | false =>
          rw [h4, if_neg Bool.false_ne_true] at q1
          cases c1 with
          | none => cases h4
          | some x => exact absurd q1 (not_le_next x)
        | true =>
          rw [h4, if_pos rfl] at q1 q2
          rw [if_pos rfl]
          have r1 := (retry_good G hd c1 left (run + 1) (later (b.fin s c1).en d) (na_iff.mp h4)).1
          have l2 : OLe (later (b.fin s c1).en d) c2 := OLe.trans r1 q2
          have f2 : OLe (b.fin s c1).en c2 := OLe.trans (le_later hd) l2
          have e := G.con s c1 c2 h1 h2 (na_iff.mp h3) f2
          rw [e, if_pos h, na_iff.mpr f2, if_pos rfl, na_iff.mpr l2, if_pos rfl]
          exact retry_con G hd c1 c2 left (run + 1) (later (b.fin s c1).en d) (na_iff.mp h4) l2 q1 q2
    · rw [if_neg h] at q1 q2 ⊢
      have e := G.con s c1 c2 h1 h2 q1 q2
      rw [if_neg (by rw [e]; exact h), e]
theorem good_retry {b : Beh} (G : Good b) {n : Nat} {d : Int} (hd : 0 ≤ d) : Good (mk [b] (retryCrs n d b)) :=
  ⟨fun s c hs => (retry_good G hd c n 0 s hs).1, fun s c hs => (retry_good G hd c n 0 s hs).2.1, fun s c hs => (retry_good G hd c n 0 s hs).2.2.1,
    fun s c hs => (retry_good G hd c n 0 s hs).2.2.2, fun s c1 c2 h1 h2 q1 q2 => retry_con G hd c1 c2 n 0 s h1 h2 q1 q2⟩
end Asf
namespace Asf
/-! ### the sorted instants -/
theorem insI_perm (x : Ins) : ∀ l : List Ins, (insI x l).Perm (x :: l)
  | [] => List.Perm.refl _
  | y :: ys => by
    unfold insI
    split
    · exact (List.Perm.cons y (insI_perm x ys)).trans (List.Perm.swap x y ys)
    · exact List.Perm.refl _
theorem isort_perm : ∀ l : List Ins, (isort l).Perm l
  | [] => List.Perm.refl _
  | x :: xs => (insI_perm x (isort xs)).trans (List.Perm.cons x (isort_perm xs))
theorem isort_length (l : List Ins) : (isort l).length = l.length := (isort_perm l).length_eq
theorem insI_sorted (x : Ins) : ∀ l : List Ins, l.Pairwise Le → (insI x l).Pairwise Le
  | [], _ => by unfold insI; exact List.pairwise_singleton _ _
  | y :: ys, h => by
    obtain ⟨h1, h2⟩ := List.pairwise_cons.mp h
    unfold insI
    by_cases e : ilt y x = true
    · rw [if_pos e]
      refine List.pairwise_cons.mpr ⟨fun z hz => ?_, insI_sorted x ys h2⟩
      rcases List.mem_cons.mp ((insI_perm x ys).mem_iff.mp hz) with rfl | hz
      · rw [ilt_true] at e
        unfold Le
        omega
      · exact h1 z hz
    · rw [if_neg e]
      have hle : Le x y := ilt_false.mp (by simpa using e)
      refine List.pairwise_cons.mpr ⟨fun z hz => ?_, h⟩
      rcases List.mem_cons.mp hz with rfl | hz
      · exact hle
      · exact Le.trans hle (h1 z hz)
theorem isort_sorted : ∀ l : List Ins, (isort l).Pairwise Le
  | [] => List.Pairwise.nil
  | x :: xs => insI_sorted x _ (isort_sorted xs)
/-- the only sorted arrangement -/
theorem sorted_unique : ∀ {l m : List Ins}, l.Perm m → l.Pairwise Le → m.Pairwise Le → l = m
  | [], m, p, _, _ => (List.Perm.nil_eq p)
  | x :: xs, [], p, _, _ => by have := p.length_eq; simp at this
  | x :: xs, y :: ys, p, h1, h2 => by
    obtain ⟨a1, a2⟩ := List.pairwise_cons.mp h1
    obtain ⟨b1, b2⟩ := List.pairwise_cons.mp h2
    have e : x = y := by
      have hx : x ∈ y :: ys := p.mem_iff.mp List.mem_cons_self
      have hy : y ∈ x :: xs := p.mem_iff.mpr List.mem_cons_self
      rcases List.mem_cons.mp hx with e | hx
      · exact e
      · rcases List.mem_cons.mp hy with e | hy
        · exact e.symm
        · exact Le.antisymm (a1 y hy) (b1 x hx)
    subst e
    rw [sorted_unique (List.Perm.cons_inv p) a2 b2]
theorem isort_of {l m : List Ins} (p : m.Perm l) (h : m.Pairwise Le) : m = isort l :=
  sorted_unique (p.trans (isort_perm l).symm) h (isort_sorted l)
/-- whether not after h -/
def upto (h : Ins) (x : Ins) : Bool := !ilt h x
theorem upto_iff {h x : Ins} : upto h x = true ↔ Le x h := by
  unfold upto
  rw [Bool.not_eq_true', ilt_false]
theorem isort_filter (h : Ins) (l : List Ins) : (isort l).filter (upto h) = isort (l.filter (upto h)) :=
  isort_of ((isort_perm l).filter _) ((isort_sorted l).filter _)
theorem sorted_get (h : Ins) : ∀ {S : List Ins}, S.Pairwise Le → ∀ (j : Nat) (g : Ins), (S[j]? = some g ∧ Le g h) ↔ (S.filter (upto h))[j]? = some g
  | [], _, j, g => by simp
  | y :: ys, hs, j, g => by
    obtain ⟨h1, h2⟩ := List.pairwise_cons.mp hs
    by_cases e : upto h y = true
    · rw [List.filter_cons_of_pos e]
      cases j with
      | zero =>
        simp only [List.getElem?_cons_zero, Option.some.injEq]
        refine ⟨fun q => q.1, fun q => ⟨q, ?_⟩⟩
        rw [← q]
        exact upto_iff.mp e
      | succ j =>
        simp only [List.getElem?_cons_succ]
        exact sorted_get h h2 j g
    · have hn : ∀ z ∈ y :: ys, ¬ Le z h := fun z hz q => by
        refine e (upto_iff.mpr ?_)
        rcases List.mem_cons.mp hz with rfl | hz
        · exact q
        · exact Le.trans (h1 z hz) q
      have hf : (y :: ys).filter (upto h) = [] := List.filter_eq_nil_iff.mpr fun z hz q => hn z hz (upto_iff.mp q)
      rw [hf]
      refine ⟨fun q => ?_, fun q => by simp at q⟩
      exact absurd q.2 (hn g (List.mem_of_getElem? q.1))

/-! ### two passes agree up to an instant -/
inductive All2 {α β : Type} (R : α → β → Prop) : List α → List β → Prop
  | nil : All2 R [] []
  | cons {a b as bs} : R a b → All2 R as bs → All2 R (a :: as) (b :: bs)
theorem All2.mem_l {α β : Type} {R : α → β → Prop} {l : List α} {m : List β} (h : All2 R l m) : ∀ a ∈ l, ∃ b ∈ m, R a b := by
  induction h with
  | nil => intro a ha; cases ha
  | cons r _ ih =>
    intro a ha
    rcases List.mem_cons.mp ha with rfl | ha
    · exact ⟨_, List.mem_cons_self, r⟩
    · obtain ⟨b, hb, q⟩ := ih a ha
      exact ⟨b, List.mem_cons_of_mem _ hb, q⟩
theorem All2.mem_r {α β : Type} {R : α → β → Prop} {l : List α} {m : List β} (h : All2 R l m) : ∀ b ∈ m, ∃ a ∈ l, R a b := by
  induction h with
  | nil => intro a ha; cases ha
  | cons r _ ih =>
    intro a ha
    rcases List.mem_cons.mp ha with rfl | ha
    · exact ⟨_, List.mem_cons_self, r⟩
    · obtain ⟨b, hb, q⟩ := ih a ha
      exact ⟨b, List.mem_cons_of_mem _ hb, q⟩
abbrev Res := Option Ins × Option End
def Agr (h : Ins) (r1 r2 : Res) : Prop := (∀ e, r1.2 = some e → Le e.en h → r2 = r1) ∧ (∀ e, r2.2 = some e → Le e.en h → r2 = r1)
theorem All2.eq_of {h : Ins} {l m : List Res} (a : All2 (Agr h) l m) (k : ∀ r ∈ l, ∃ e, r.2 = some e ∧ Le e.en h) : m = l := by
  induction a with
  | nil => rfl
  | cons r _ ih =>
    obtain ⟨e, h1, h2⟩ := k _ List.mem_cons_self
    rw [r.1 e h1 h2, ih fun x hx => k x (List.mem_cons_of_mem _ hx)]
theorem comOf_agr {h : Ins} {r1 r2 : Res} (a : Agr h r1 r2) : (comOf r1.2).filter (upto h) = (comOf r2.2).filter (upto h) := by
  have key : ∀ r : Res, (comOf r.2).filter (upto h) ≠ [] → ∃ e, r.2 = some e ∧ Le e.en h := fun r q => by
    cases e : r.2 with
    | none => rw [e] at q; exact absurd rfl q
    | some x =>
      refine ⟨x, rfl, ?_⟩
      rw [e] at q
      rw [comOf_some] at q
      by_cases ho : x.oc = .com
      · rw [if_pos ho] at q
        by_cases hu : upto h x.en = true
        · exact upto_iff.mp hu
        · rw [List.filter_cons_of_neg hu] at q
          exact absurd rfl q
      · rw [if_neg ho] at q
        exact absurd rfl q
  by_cases h1 : (comOf r1.2).filter (upto h) = []
  · by_cases h2 : (comOf r2.2).filter (upto h) = []
    · rw [h1, h2]
    · obtain ⟨e, q1, q2⟩ := key r2 h2
      rw [a.2 e q1 q2]
  · obtain ⟨e, q1, q2⟩ := key r1 h1
    rw [a.1 e q1 q2]
section
variable {n : Int} {s h : Ins} {c1 c2 : Option Ins} (h1 : OLe h c1) (h2 : OLe h c2) (hs : Le s h)
include h1 h2 hs in
theorem poolOne_agr {b : Beh} (G : Good b) {k : Nat} {comp1 comp2 : List Ins} (e : comp1.filter (upto h) = comp2.filter (upto h)) : Agr h (poolOne n s c1 k comp1 b) (poolOne n s c2 k comp2 b) := by
  -- both start at g, not after h
  have both : ∀ g, Le g h → beginOf n s k comp1 = some g → beginOf n s k comp2 = some g → Agr h (poolOne n s c1 k comp1 b) (poolOne n s c2 k comp2 b) := fun g hg q1 q2 => by
    have n1 : na g c1 = true := na_iff.mpr (OLe.trans hg h1)
    have n2 : na g c2 = true := na_iff.mpr (OLe.trans hg h2)
    unfold poolOne
    rw [q1, q2]
    dsimp only
    rw [if_pos n1, if_pos n2]
    have o1 := na_iff.mp n1
    have o2 := na_iff.mp n2
    refine ⟨fun x hx hl => ?_, fun x hx hl => ?_⟩
    · cases hx
      rw [G.con g c1 c2 o1 o2 (OLe.trans hl h1) (OLe.trans hl h2)]
    · cases hx
      rw [G.con g c2 c1 o2 o1 (OLe.trans hl h2) (OLe.trans hl h1)]
  have late : ∀ (c : Option Ins) (comp : List Ins), OLe h c → (∀ g, beginOf n s k comp = some g → ¬ Le g h) → ∀ x, (poolOne n s c k comp b).2 = some x → ¬ Le x.en h := fun c comp hc hg x hx hl => by
    have never : ∀ y, (c.map fun z => (⟨nexti z, .can, []⟩ : End)) = some y → ¬ Le y.en h := fun y hy q => by
      cases c with
      | none => cases hy
      | some z =>
        cases hy
        exact not_le_next z (Le.trans q hc)
    unfold poolOne at hx
    cases q : beginOf n s k comp with
    | none =>
      rw [q] at hx
      exact never x hx hl
    | some g =>
      rw [q] at hx
      dsimp only at hx
      cases hn : na g c with
      | true =>
        rw [hn, if_pos rfl] at hx
        cases hx
        exact hg g q (Le.trans (G.ge g c (na_iff.mp hn)) hl)
      | false =>
        rw [hn, if_neg Bool.false_ne_true] at hx
        exact never x hx hl
  by_cases hk : (k : Int) < n
  · exact both s hs (by unfold beginOf; rw [if_pos hk]) (by unfold beginOf; rw [if_pos hk])
  · have b1 : beginOf n s k comp1 = (isort comp1)[((k : Int) - n).toNat]? := by unfold beginOf; rw [if_neg hk]
    have b2 : beginOf n s k comp2 = (isort comp2)[((k : Int) - n).toNat]? := by unfold beginOf; rw [if_neg hk]
    have iff : ∀ g, (beginOf n s k comp1 = some g ∧ Le g h) ↔ (beginOf n s k comp2 = some g ∧ Le g h) := fun g => by
      rw [b1, b2, sorted_get h (isort_sorted comp1), sorted_get h (isort_sorted comp2), isort_filter, isort_filter, e]
    by_cases q : ∃ g, beginOf n s k comp1 = some g ∧ Le g h
    · obtain ⟨g, q1, q2⟩ := q
      exact both g q2 q1 ((iff g).mp ⟨q1, q2⟩).1
    · have r1 : ∀ g, beginOf n s k comp1 = some g → ¬ Le g h := fun g q1 q2 => q ⟨g, q1, q2⟩
      have r2 : ∀ g, beginOf n s k comp2 = some g → ¬ Le g h := fun g q1 q2 => q ⟨g, (iff g).mpr ⟨q1, q2⟩⟩
      exact ⟨fun x hx hl => absurd hl (late c1 comp1 h1 r1 x hx), fun x hx hl => absurd hl (late c2 comp2 h2 r2 x hx)⟩
include h1 h2 hs in
theorem poolRes_agr : ∀ (bs : List Beh) (k : Nat) (comp1 comp2 : List Ins), (∀ b ∈ bs, Good b) → comp1.filter (upto h) = comp2.filter (upto h) → All2 (Agr h) (poolRes n s c1 k comp1 bs) (poolRes n s c2 k comp2 bs)
  | [], _, _, _, _, _ => .nil
  | b :: bs, k, comp1, comp2, G, e => by
    have a := poolOne_agr (n := n) h1 h2 hs (G b List.mem_cons_self) (k := k) e
    refine .cons a (poolRes_agr bs (k + 1) _ _ (fun x hx => G x (List.mem_cons_of_mem _ hx)) ?_)
    rw [List.filter_append, List.filter_append, e, comOf_agr a]
end

/-! ### what holds of a pass -/
structure EndOk (s : Ins) (c : Option Ins) (e : End) : Prop where
  ge : Le s e.en
  can : e.oc = .can → ¬ OLe e.en c
  com : e.oc = .com → OLe e.en c
  fai : e.oc = .fai → e.res ≠ []
theorem comOf_mem {r : Option End} {x : Ins} (h : x ∈ comOf r) : ∃ e, r = some e ∧ e.oc = .com ∧ e.en = x := by
  cases r with
  | none => cases h
  | some e =>
    rw [comOf_some] at h
    by_cases ho : e.oc = .com
    · rw [if_pos ho] at h
      exact ⟨e, rfl, ho, (List.mem_singleton.mp h).symm⟩
    · rw [if_neg ho] at h
      cases h
theorem beginOf_ge {n : Int} {s : Ins} {k : Nat} {comp : List Ins} {g : Ins} (hc : ∀ x ∈ comp, Le s x) (h : beginOf n s k comp = some g) : Le s g := by
  unfold beginOf at h
  split at h
  · cases h
    exact Le.refl _
  · exact hc g ((isort_perm comp).mem_iff.mp (List.mem_of_getElem? h))
theorem poolOne_ok {n : Int} {s : Ins} {c : Option Ins} {b : Beh} (G : Good b) {k : Nat} {comp : List Ins} (hs : OLe s c) (hc : ∀ x ∈ comp, Le s x) : (∀ e, (poolOne n s c k comp b).2 = some e → EndOk s c e) ∧ ((poolOne n s c k comp b).2 = none → c = none) := by
  have never : (∀ y, (c.map fun z => (⟨nexti z, .can, []⟩ : End)) = some y → EndOk s c y) ∧ ((c.map fun z => (⟨nexti z, .can, []⟩ : End)) = none → c = none) := by
    cases c with
    | none => exact ⟨(fun y hy => by cases hy), fun _ => rfl⟩
    | some z =>
      refine ⟨fun y hy => ?_, fun q => by cases q⟩
      cases hy
      exact ⟨Le.trans hs (le_next z), fun _ q => not_le_next z q, (fun q => by cases q), (fun q => by cases q)⟩
  unfold poolOne
  cases q : beginOf n s k comp with
  | none => exact never
  | some g =>
    dsimp only
    cases hn : na g c with
    | true =>
      rw [if_pos rfl]
      have ho := na_iff.mp hn
      refine ⟨fun e he => ?_, fun q => by cases q⟩
      cases he
      exact ⟨Le.trans (beginOf_ge hc q) (G.ge g c ho), G.can g c ho, G.com g c ho, G.fai g c ho⟩
    | false =>
      rw [if_neg Bool.false_ne_true]
      exact never
theorem poolRes_ok {n : Int} {s : Ins} {c : Option Ins} (hs : OLe s c) : ∀ (bs : List Beh) (k : Nat) (comp : List Ins), (∀ b ∈ bs, Good b) → (∀ x ∈ comp, Le s x) → ∀ r ∈ poolRes n s c k comp bs, (∀ e, r.2 = some e → EndOk s c e) ∧ (r.2 = none → c = none)
  | [], _, _, _, _, r, hr => by cases hr
  | b :: bs, k, comp, G, hc, r, hr => by
    have o := poolOne_ok (n := n) (k := k) (G b List.mem_cons_self) hs hc
    rcases List.mem_cons.mp hr with rfl | hr
    · exact o
    · refine poolRes_ok hs bs (k + 1) _ (fun x hx => G x (List.mem_cons_of_mem _ hx)) (fun x hx => ?_) r hr
      rcases List.mem_append.mp hx with hx | hx
      · exact hc x hx
      · obtain ⟨e, he, _, rfl⟩ := comOf_mem hx
        exact (o.1 e he).ge
/-- without a cancellation: as long as none fails, all complete -/
theorem poolRes_whole {n : Int} {s : Ins} (hn : 1 ≤ n) : ∀ (bs : List Beh) (k : Nat) (comp : List Ins), (∀ b ∈ bs, Good b) → comp.length = k → (∀ r ∈ poolRes n s none k comp bs, ∀ e, r.2 = some e → e.oc ≠ .fai) →
    ∀ r ∈ poolRes n s none k comp bs, ∃ e, r.2 = some e ∧ e.oc = .com
  | [], _, _, _, _, _, r, hr => by cases hr
  | b :: bs, k, comp, G, hl, hf, r, hr => by
    have first : ∃ e, (poolOne n s none k comp b).2 = some e ∧ e.oc = .com := by
      have hb : ∃ g, beginOf n s k comp = some g := by
        unfold beginOf
        by_cases hk : (k : Int) < n
        · exact ⟨s, by rw [if_pos hk]⟩
        · rw [if_neg hk]
          have hlt : ((k : Int) - n).toNat < (isort comp).length := by
            rw [isort_length, hl]
            omega
          exact ⟨_, List.getElem?_eq_getElem hlt⟩
      obtain ⟨g, hg⟩ := hb
      have e1 : poolOne n s none k comp b = (some g, some (b.fin g none)) := by
        unfold poolOne
        rw [hg]
        rfl
      refine ⟨b.fin g none, by rw [e1], ?_⟩
      have hnf := hf _ List.mem_cons_self (b.fin g none) (by rw [e1])
      cases q : (b.fin g none).oc with
      | com => rfl
      | fai => exact absurd q hnf
      | can => exact absurd trivial ((G b List.mem_cons_self).can g none trivial q)
    rcases List.mem_cons.mp hr with rfl | hr
    · exact first
    · refine poolRes_whole hn bs (k + 1) _ (fun x hx => G x (List.mem_cons_of_mem _ hx)) ?_ (fun r hr => hf r (List.mem_cons_of_mem _ hr)) r hr
      obtain ⟨e, he, ho⟩ := first
      rw [he, comOf_some]
      rw [if_pos ho, List.length_append, hl]
      rfl

/-! ### pool -/
abbrev pres (n : Int) (bs : List Beh) (s : Ins) (c : Option Ins) : List Res := poolRes n s c 0 [] bs
abbrev pends (n : Int) (bs : List Beh) (s : Ins) (c : Option Ins) : List End := (pres n bs s c).map (endOr s)
theorem poolEnd_eq (n bs s c) : poolEnd n bs s c = together s c (pends n bs s (poolLim n bs s c)) (pends n bs s (poolLim n bs s c)) (allValues (pends n bs s (poolLim n bs s c))) := rfl
theorem pends_fai {n : Int} {bs : List Beh} {s : Ins} {c : Option Ins} {e : End} (h : e ∈ pends n bs s c) (ho : e.oc ≠ .can) : ∃ r ∈ pres n bs s c, r.2 = some e := by
  obtain ⟨r, hr, he⟩ := List.mem_map.mp h
  refine ⟨r, hr, ?_⟩
  unfold endOr at he
  cases q : r.2 with
  | none =>
    rw [q] at he
    rw [← he] at ho
    exact absurd rfl ho
  | some x =>
    rw [q] at he
    rw [← he]
    rfl
theorem res_pends {n : Int} {bs : List Beh} {s : Ins} {c : Option Ins} {r : Res} {e : End} (h : r ∈ pres n bs s c) (he : r.2 = some e) : e ∈ pends n bs s c := by
  refine List.mem_map.mpr ⟨r, h, ?_⟩
  unfold endOr
  rw [he]
  rfl
section
variable {n : Int} {bs : List Beh} (G : ∀ b ∈ bs, Good b) (hn : 1 ≤ n) {s : Ins}
include G in
theorem pres_ok {c : Option Ins} (hs : OLe s c) : ∀ r ∈ pres n bs s c, (∀ e, r.2 = some e → EndOk s c e) ∧ (r.2 = none → c = none) :=
  poolRes_ok hs bs 0 [] G (fun x hx => by cases hx)
include G in
theorem pres_agr {h : Ins} {c1 c2 : Option Ins} (h1 : OLe h c1) (h2 : OLe h c2) (hs : Le s h) : All2 (Agr h) (pres n bs s c1) (pres n bs s c2) := poolRes_agr h1 h2 hs bs 0 [] [] G rfl
include G hn in
/-- where none fails: each part has an end -/
theorem pres_all {c : Option Ins} (hs : OLe s c) (t : firstOf (pends n bs s c) .fai = none) : ∀ r ∈ pres n bs s c, ∃ e, r.2 = some e := fun r hr => by
  cases c with
  | some x =>
    cases q : r.2 with
    | none => have := (pres_ok G hs r hr).2 q; cases this
    | some e => exact ⟨e, rfl⟩
  | none =>
    have hf : ∀ r ∈ pres n bs s none, ∀ e, r.2 = some e → e.oc ≠ .fai := fun r hr e he => firstOf_none t e (res_pends hr he)
    obtain ⟨e, he, _⟩ := poolRes_whole hn bs 0 [] G rfl hf r hr
    exact ⟨e, he⟩
include G in
/-- the first failure, predicted anew -/
theorem fail_again {c c' : Option Ins} {f : Ins} (hs : OLe s c) (t : firstOf (pends n bs s c) .fai = some f) (f1 : OLe f c) (f2 : OLe f c') : ∃ e ∈ pends n bs s c', e.oc = .fai ∧ e.en = f ∧ e.res ≠ [] := by
  obtain ⟨⟨e, he, ho, rfl⟩, _⟩ := firstOf_some t
  obtain ⟨r, hr, hre⟩ := pends_fai he (by rw [ho]; intro q; cases q)
  have ok := (pres_ok G hs r hr).1 e hre
  obtain ⟨r', hr', a⟩ := (pres_agr (n := n) G f1 f2 ok.ge).mem_l r hr
  have er := a.1 e hre (Le.refl _)
  rw [er] at hr'
  exact ⟨e, res_pends hr' hre, ho, rfl, ok.fai ho⟩
include G in
theorem fail_same {c1 c2 : Option Ins} {f : Ins} (h1 : OLe s c1) (h2 : OLe s c2) (t : firstOf (pends n bs s c1) .fai = some f) (f1 : OLe f c1) (f2 : OLe f c2) : firstOf (pends n bs s c2) .fai = some f := by
  obtain ⟨e, he, ho, hen, _⟩ := fail_again G h1 t f1 f2
  have hsf : Le s f := by
    obtain ⟨⟨e, he, ho, rfl⟩, _⟩ := firstOf_some t
    obtain ⟨r, hr, hre⟩ := pends_fai he (by rw [ho]; intro q; cases q)
    exact ((pres_ok G h1 r hr).1 e hre).ge
  refine firstOf_of ⟨e, he, ho, hen⟩ fun e' he' ho' => ?_
  apply Classical.byContradiction
  intro hx
  obtain ⟨r', hr', hre'⟩ := pends_fai he' (by rw [ho']; intro q; cases q)
  obtain ⟨r, hr, a⟩ := (pres_agr (n := n) G f1 f2 hsf).mem_r r' hr'
  have er := a.2 e' hre' (le_of_not hx)
  rw [er] at hre'
  exact hx ((firstOf_some t).2 e' (res_pends hr hre') ho')
theorem plim_some {c : Option Ins} {f : Ins} (t : firstOf (pends n bs s c) .fai = some f) (f1 : OLe f c) : poolLim n bs s c = some f := by
  show earliest c (firstOf (pends n bs s c) .fai) = some f
  rw [t, earliest_of f1]
theorem plim_late {c : Option Ins} {f : Ins} (t : firstOf (pends n bs s c) .fai = some f) (f1 : ¬ OLe f c) : poolLim n bs s c = c := by
  show earliest c (firstOf (pends n bs s c) .fai) = c
  rw [t]
  rcases earliest_cases c (some f) with ⟨h, _⟩ | ⟨x, hx, _, h⟩
  · exact h
  · cases hx
    exact absurd h f1
theorem plim_none {c : Option Ins} (t : firstOf (pends n bs s c) .fai = none) : poolLim n bs s c = c := by
  show earliest c (firstOf (pends n bs s c) .fai) = c
  rw [t, earliest_none]
theorem pends_le {c c' : Option Ins} (h : OLe (maxI s ((pends n bs s c).map (·.en))) c') : ∀ e ∈ pends n bs s c, OLe e.en c' := fun e he =>
  OLe.trans (maxI_ge _ _ _ (List.mem_map.mpr ⟨_, he, rfl⟩)) h
include G hn in
theorem good_pool : Good (mk bs (poolCrs n bs)) := by
  refine ⟨fun s c hs => ?_, fun s c hs ho => ?_, fun s c hs ho => ?_, fun s c hs ho => ?_, fun s c1 c2 h1 h2 q1 q2 => ?_⟩
  · show Le s (poolEnd n bs s c).en
    rw [poolEnd_eq, together_en]
    exact maxI_ge_head _ _
  · show ¬ OLe (poolEnd n bs s c).en c
    have ho' : (poolEnd n bs s c).oc = .can := ho
    rw [poolEnd_eq] at ho' ⊢
    rw [together_en]
    obtain ⟨hE, hor⟩ := together_can ho'
    intro hle
    have ends := pends_le hle
    obtain ⟨e, he, hne⟩ := allValues_can (hor.resolve_left (fun q => q hle))
    cases t : firstOf (pends n bs s c) .fai with
    | none =>
      rw [plim_none t] at hE ends he
      obtain ⟨r, hr, hre⟩ := List.mem_map.mp he
      obtain ⟨x, hx⟩ := pres_all G hn hs t r hr
      have ex : x = e := by rw [← hre]; unfold endOr; rw [hx]; rfl
      rw [ex] at hx
      have ok := (pres_ok G hs r hr).1 e hx
      cases q : e.oc with
      | com => exact hne q
      | fai => exact errorsOf_ne he q (ok.fai q) hE
      | can => exact ok.can q (ends e he)
    | some f =>
      by_cases hf : OLe f c
      · rw [plim_some t hf] at hE
        obtain ⟨e', he', ho', _, hr'⟩ := fail_again (c' := some f) G hs t hf (Le.refl f)
        exact errorsOf_ne he' ho' hr' hE
      · rw [plim_late t hf] at ends
        obtain ⟨⟨e', he', _, rfl⟩, _⟩ := firstOf_some t
        exact hf (ends e' he')
  · show OLe (poolEnd n bs s c).en c
    have ho' : (poolEnd n bs s c).oc = .com := ho
    rw [poolEnd_eq] at ho' ⊢
    rw [together_en]
    exact together_com ho'
  · show (poolEnd n bs s c).res ≠ []
    have ho' : (poolEnd n bs s c).oc = .fai := ho
    rw [poolEnd_eq] at ho' ⊢
    exact together_fai ho' (allValues_ne _)
  · show poolEnd n bs s c2 = poolEnd n bs s c1
    have q1' : OLe (poolEnd n bs s c1).en c1 := q1
    have q2' : OLe (poolEnd n bs s c1).en c2 := q2
    rw [poolEnd_eq, together_en] at q1' q2'
    cases t : firstOf (pends n bs s c1) .fai with
    | none =>
      rw [plim_none t] at q1' q2'
      have same : pres n bs s c2 = pres n bs s c1 := (pres_agr (n := n) G q1' q2' (maxI_ge_head _ _)).eq_of fun r hr => by
        obtain ⟨e, he⟩ := pres_all G hn h1 t r hr
        exact ⟨e, he, maxI_ge _ _ _ (List.mem_map.mpr ⟨e, res_pends hr he, rfl⟩)⟩
      have samee : pends n bs s c2 = pends n bs s c1 := congrArg (List.map (endOr s)) same
      have t2 : firstOf (pends n bs s c2) .fai = none := by rw [samee]; exact t
      rw [poolEnd_eq, poolEnd_eq, plim_none t, plim_none t2, samee]
      exact together_congr q2' q1'
    | some f =>
      by_cases hf : OLe f c1
      · have a1 := plim_some t hf
        rw [a1] at q1' q2'
        have f2 : OLe f c2 := by
          obtain ⟨e', he', _, he, _⟩ := fail_again (c' := some f) G h1 t hf (Le.refl f)
          have := pends_le q2' e' he'
          rw [he] at this
          exact this
        rw [poolEnd_eq, poolEnd_eq, a1, plim_some (fail_same G h1 h2 t hf f2) f2]
        exact together_congr q2' q1'
      · rw [plim_late t hf] at q1'
        obtain ⟨⟨e', he', _, rfl⟩, _⟩ := firstOf_some t
        exact absurd (pends_le q1' e' he') hf
end
/-! ### every tree -/
mutual
theorem good_den : ∀ t : T, WF t → Good (den t)
  | .job d g v cl f, h => good_job h.1.1 h.2.2.1.1
  | .scope k ps, h => by
    unfold den
    refine good_scope (good_denL ps h.2.2) ?_
    cases ps with
    | nil => exact absurd rfl h.1
    | cons p ps => unfold denL; simp
  | .pool n ps, h => by unfold den; exact good_pool (good_denL ps h.2.2.2) h.1.1
  | .seq ps, h => by unfold den; exact good_seq (good_denL ps h.2.2)
  | .timeout k p, h => by unfold den; exact good_timeout (good_den p h.2) h.1.1
  | .orelse p q, h => by unfold den; exact good_orelse (good_den p h.1) (good_den q h.2)
  | .retry n d p, h => by unfold den; exact good_retry (good_den p h.2.2) h.2.1.1
theorem good_denL : ∀ ts : List T, WFL ts → ∀ b ∈ denL ts, Good b
  | [], _, b, hb => by unfold denL at hb; cases hb
  | p :: ps, h, b, hb => by
    unfold denL at hb
    rcases List.mem_cons.mp hb with rfl | hb
    · exact good_den p h.1
    · exact good_denL ps h.2 b hb
end
end Asf
namespace Asf
/-! ### passes from the left -/
def comR (acc : List Res) : List Ins := acc.flatMap fun r => comOf r.2
def poolAcc (n : Int) (s : Ins) (c : Option Ins) (acc : List Res) (b : Beh) : List Res := acc ++ [poolOne n s c acc.length (comR acc) b]
theorem poolAcc_eq (n : Int) (s : Ins) (c : Option Ins) : ∀ (bs : List Beh) (acc : List Res), bs.foldl (poolAcc n s c) acc = acc ++ poolRes n s c acc.length (comR acc) bs
  | [], acc => by simp [poolRes]
  | b :: bs, acc => by
    rw [List.foldl_cons, poolAcc_eq n s c bs]
    have e1 : (poolAcc n s c acc b).length = acc.length + 1 := by unfold poolAcc; simp
    have e2 : comR (poolAcc n s c acc b) = comR acc ++ comOf (poolOne n s c acc.length (comR acc) b).2 := by
      unfold poolAcc comR
      simp
    rw [e1, e2]
    show acc ++ [poolOne n s c acc.length (comR acc) b] ++ _ = _
    rw [List.append_assoc]
    rfl
theorem pres_fold (n : Int) (bs : List Beh) (s : Ins) (c : Option Ins) : bs.foldl (poolAcc n s c) [] = pres n bs s c := by
  rw [poolAcc_eq]
  rfl

/-! ### the law's own reckoning -/
abbrev Pred := End × List Entry
def kidPath (path : Path) (k : Nat) : Path := path ++ [(0 : Int), (k : Int)]
def neverP (path : Path) (k : Nat) (c : Option Ins) : Option Pred := c.map fun x => (⟨nexti x, .can, []⟩, [⟨kidPath path k, none, ⟨nexti x, .can, []⟩⟩])
def lawOne (n : Int) (path : Path) (s : Ins) (c : Option Ins) (k : Nat) (comp : List Ins) (b : Beh) : Option Pred :=
  match beginOf n s k comp with
  | some g => if na g c = true then some (b.fin g c, b.tr (kidPath path k) g c) else neverP path k c
  | none => neverP path k c
def comL (acc : List (Option Pred)) : List Ins := acc.flatMap fun p => comOf (p.map (·.1))
def lawAcc (n : Int) (path : Path) (s : Ins) (c : Option Ins) (acc : List (Option Pred)) (b : Beh) : List (Option Pred) := acc ++ [lawOne n path s c acc.length (comL acc) b]
def lawPass (n : Int) (path : Path) (s : Ins) (c : Option Ins) (bs : List Beh) : List (Option Pred) := bs.foldl (lawAcc n path s c) []
def lawEarlier : Option Ins → Ins → Option Ins
  | none, y => some y
  | some x, y => if ilt y x = true then some y else some x
def settleStep (c : Option Ins) (p : Option Pred) : Option Ins := match p with
  | some p => if p.1.oc = .fai then lawEarlier c p.1.en else c
  | none => c
def lawSettled (n : Int) (path : Path) (s : Ins) (c : Option Ins) (bs : List Beh) : Option Ins := (lawPass n path s c bs).foldl settleStep c
structure LawSt where
  ended : Ins
  values : List Er
  errors : List Er
  whole : Bool
  trace : List Entry
def lawStep (st : LawSt) (p : Pred) : LawSt :=
  ⟨if ilt st.ended p.1.en = true then p.1.en else st.ended, if p.1.oc = .com then st.values ++ p.1.res else st.values, if p.1.oc = .fai then st.errors ++ p.1.res else st.errors,
    if p.1.oc = .com then st.whole else false, st.trace ++ p.2⟩
def lawTold (c : Option Ins) (st : LawSt) : Oc × List Er :=
  if st.errors ≠ [] then (.fai, st.errors) else if na st.ended c = false ∨ st.whole = false then (.can, []) else (.com, st.values)
def lawOut (path : Path) (s : Ins) (c : Option Ins) (st : LawSt) : Pred :=
  (⟨st.ended, (lawTold c st).1, (lawTold c st).2⟩, ⟨path, some s, ⟨st.ended, (lawTold c st).1, (lawTold c st).2⟩⟩ :: st.trace)

/-! the law's pass is the pool's -/
def trOf (path : Path) (c : Option Ins) (k : Nat) (r : Res) (b : Beh) (e : End) : List Entry := match r.1 with
  | some g => b.tr (kidPath path k) g c
  | none => [⟨kidPath path k, none, e⟩]
theorem lawOne_eq (n path s c k comp b) : lawOne n path s c k comp b = (poolOne n s c k comp b).2.map fun e => (e, trOf path c k (poolOne n s c k comp b) b e) := by
  have nev : neverP path k c = ((none : Option Ins), c.map fun z => (⟨nexti z, .can, []⟩ : End)).2.map fun e => (e, trOf path c k ((none : Option Ins), c.map fun z => (⟨nexti z, .can, []⟩ : End)) b e) := by
    cases c <;> rfl
  unfold lawOne poolOne
  cases beginOf n s k comp with
  | none => exact nev
  | some g =>
    dsimp only
    cases na g c with
    | true => rfl
    | false => exact nev
theorem lawOne_fst (n path s c k comp b) : (lawOne n path s c k comp b).map (·.1) = (poolOne n s c k comp b).2 := by
  rw [lawOne_eq]
  cases (poolOne n s c k comp b).2 <;> rfl
/-- the law's pass, behind some parts -/
def lawFrom (n : Int) (path : Path) (s : Ins) (c : Option Ins) : Nat → List Ins → List Beh → List (Option Pred)
  | _, _, [] => []
  | k, comp, b :: bs => lawOne n path s c k comp b :: lawFrom n path s c (k + 1) (comp ++ comOf (poolOne n s c k comp b).2) bs
theorem lawAcc_eq (n : Int) (path : Path) (s : Ins) (c : Option Ins) : ∀ (bs : List Beh) (acc : List (Option Pred)), bs.foldl (lawAcc n path s c) acc = acc ++ lawFrom n path s c acc.length (comL acc) bs
  | [], acc => by simp [lawFrom]
  | b :: bs, acc => by
    rw [List.foldl_cons, lawAcc_eq n path s c bs]
    have e1' : (lawAcc n path s c acc b).length = acc.length + 1 := by unfold lawAcc; simp
    have e2' : comL (lawAcc n path s c acc b) = comL acc ++ comOf (poolOne n s c acc.length (comL acc) b).2 := by
      unfold lawAcc comL
      simp only [List.flatMap_append, List.flatMap_cons, List.flatMap_nil, List.append_nil]
      rw [lawOne_fst]
    rw [e1', e2']
    show acc ++ [lawOne n path s c acc.length (comL acc) b] ++ _ = _
    rw [List.append_assoc]
    rfl
theorem lawPass_eq (n path s c bs) : lawPass n path s c bs = lawFrom n path s c 0 [] bs := by
  unfold lawPass
  rw [lawAcc_eq]
  rfl
theorem lawFrom_ends (n : Int) (path : Path) (s : Ins) (c : Option Ins) : ∀ (bs : List Beh) (k : Nat) (comp : List Ins), (lawFrom n path s c k comp bs).map (fun p => p.map (·.1)) = (poolRes n s c k comp bs).map (·.2)
  | [], _, _ => rfl
  | b :: bs, k, comp => by
    show (lawOne n path s c k comp b).map (·.1) :: _ = (poolOne n s c k comp b).2 :: _
    rw [lawOne_fst, lawFrom_ends n path s c bs]
/-! the settled cancellation -/
theorem lawEarlier_eq (c : Option Ins) (y : Ins) : lawEarlier c y = earliest c (some y) := by
  cases c with
  | none => rfl
  | some x =>
    show (if ilt y x = true then some y else some x) = _
    rw [earliest_ss]
    by_cases h : ilt y x = true
    · rw [if_pos h, if_pos h]
    · rw [if_neg h, if_neg h]
theorem earliest_fold : ∀ (ys : List Ins) (c : Option Ins), ys.foldl (fun c y => earliest c (some y)) c = earliest c (minO ys)
  | [], c => by rw [List.foldl_nil]; exact (earliest_none c).symm
  | y :: ys, c => by
    rw [List.foldl_cons, earliest_fold ys]
    -- the least of the rest, of y and the rest
    have h1 : minO (y :: ys) = earliest (some y) (minO ys) := by
      cases ys with
      | nil => rfl
      | cons z zs =>
        show some (minI y (z :: zs)) = some (if ilt (minI z zs) y = true then minI z zs else y)
        congr 1
        have l1 := minI_le_head (z :: zs) y
        have l2 : ∀ w ∈ z :: zs, Le (minI y (z :: zs)) w := minI_le (z :: zs) y
        have m1 := minI_mem (z :: zs) y
        have m2 : minI z zs ∈ z :: zs := (minO_some (xs := z :: zs) rfl).1
        have l3 : ∀ w ∈ z :: zs, Le (minI z zs) w := (minO_some (xs := z :: zs) rfl).2
        by_cases h : ilt (minI z zs) y = true
        · rw [if_pos h]
          refine Le.antisymm (l2 _ m2) ?_
          rcases m1 with m1 | m1
          · rw [m1]
            rw [ilt_true] at h
            unfold Le
            omega
          · exact l3 _ m1
        · rw [if_neg h]
          refine Le.antisymm l1 ?_
          have hy : Le y (minI z zs) := ilt_false.mp (by simpa using h)
          rcases m1 with m1 | m1
          · rw [m1]; exact Le.refl _
          · exact Le.trans hy (l3 _ m1)
    rw [h1]
    cases c with
    | none => rfl
    | some a =>
      cases minO ys with
      | none => rw [earliest_none, earliest_none]
      | some m =>
        simp only [earliest_ss]
        congr 1
        by_cases a1 : ilt y a = true <;> by_cases a2 : ilt m y = true <;> by_cases a3 : ilt m a = true <;> simp only [a1, a2, a3, if_true, if_false, Bool.false_eq_true] <;>
          (first | rfl | (exfalso; rw [ilt_true] at *; omega))
theorem settle_eq : ∀ (ps : List (Option Pred)) (c : Option Ins), ps.foldl settleStep c = (((ps.filterMap fun p => p.map (·.1)).filter fun e => e.oc = .fai).map (·.en)).foldl (fun c y => earliest c (some y)) c
  | [], c => rfl
  | none :: ps, c => by
    rw [List.foldl_cons, settle_eq ps]
    rfl
  | some p :: ps, c => by
    rw [List.foldl_cons, settle_eq ps]
    have e : (List.filterMap (fun p => Option.map (·.1) p) (some p :: ps) : List End) = p.1 :: ps.filterMap fun p => p.map (·.1) := rfl
    rw [e]
    by_cases h : p.1.oc = .fai
    · rw [List.filter_cons_of_pos (by simpa using h), List.map_cons, List.foldl_cons]
      show (List.map _ _).foldl _ (if p.1.oc = .fai then lawEarlier c p.1.en else c) = _
      rw [if_pos h, lawEarlier_eq]
    · rw [List.filter_cons_of_neg (by simpa using h)]
      show (List.map _ _).foldl _ (if p.1.oc = .fai then lawEarlier c p.1.en else c) = _
      rw [if_neg h]
theorem fai_ends (s : Ins) : ∀ rs : List Res, ((rs.map (endOr s)).filter fun e => e.oc = .fai) = ((rs.filterMap (·.2)).filter fun e => e.oc = .fai)
  | [] => rfl
  | (g, none) :: rs => by
    have e1' : ((g, none) :: rs).map (endOr s) = ⟨s, .can, []⟩ :: rs.map (endOr s) := rfl
    have e2' : ((g, (none : Option End)) :: rs).filterMap (·.2) = rs.filterMap (·.2) := rfl
    rw [e1', e2', List.filter_cons_of_neg (by simp), fai_ends s rs]
  | (g, some e) :: rs => by
    have e1' : ((g, some e) :: rs).map (endOr s) = e :: rs.map (endOr s) := rfl
    have e2' : ((g, some e) :: rs).filterMap (·.2) = e :: rs.filterMap (·.2) := rfl
    rw [e1', e2', List.filter_cons, List.filter_cons, fai_ends s rs]
theorem lawSettled_eq (n path s c bs) : lawSettled n path s c bs = poolLim n bs s c := by
  have e : (lawPass n path s c bs).filterMap (fun p => p.map (·.1)) = (pres n bs s c).filterMap (·.2) := by
    rw [lawPass_eq]
    have h := lawFrom_ends n path s c bs 0 []
    have h2 := congrArg (fun l : List (Option End) => l.filterMap id) h
    simpa [List.filterMap_map, Function.comp_def] using h2
  unfold lawSettled
  rw [settle_eq, e, earliest_fold]
  show earliest c (minO _) = earliest c (firstOf (pends n bs s c) .fai)
  unfold firstOf
  rw [fai_ends]
/-! the law's end -/
theorem lawStep_fold : ∀ (ps : List Pred) (st : LawSt), ps.foldl lawStep st = ⟨maxI st.ended (ps.map (·.1.en)), st.values ++ (ps.map (·.1)).flatMap (fun e => if e.oc = .com then e.res else []), st.errors ++ errorsOf (ps.map (·.1)), st.whole && (ps.map (·.1)).all (fun e => e.oc = .com), st.trace ++ ps.flatMap (·.2)⟩
  | [], st => by
    cases st
    simp [maxI, errorsOf]
  | p :: ps, st => by
    rw [List.foldl_cons, lawStep_fold ps]
    unfold lawStep errorsOf
    simp only [LawSt.mk.injEq]
    refine ⟨rfl, ?_, ?_, ?_, ?_⟩
    · by_cases h : p.1.oc = .com <;> simp [h]
    · by_cases h : p.1.oc = .fai <;> simp [h]
    · by_cases h : p.1.oc = .com <;> simp [h]
    · simp
theorem com_res : ∀ es : List End, es.all (fun e => e.oc = .com) = true → es.flatMap (fun e => if e.oc = .com then e.res else []) = es.flatMap (·.res)
  | [], _ => rfl
  | e :: es, h => by
    rw [List.all_cons, Bool.and_eq_true] at h
    rw [List.flatMap_cons, List.flatMap_cons, com_res es h.2, if_pos (by simpa using h.1)]
theorem lawTold_eq (s : Ins) (c : Option Ins) (es : List End) (tr : List Entry) (st : LawSt) (h : st = ⟨maxI s (es.map (·.en)), es.flatMap (fun e => if e.oc = .com then e.res else []), errorsOf es, es.all (fun e => e.oc = .com), tr⟩) :
    (⟨st.ended, (lawTold c st).1, (lawTold c st).2⟩ : End) = together s c es es (allValues es) := by
  subst h
  unfold together lawTold allValues
  dsimp only
  by_cases he : errorsOf es = []
  · simp only [he, ne_eq, not_true_eq_false, if_false]
    cases hw : es.all (fun e => e.oc = .com) with
    | true =>
      rw [com_res es hw]
      cases hn : na (maxI s (es.map (·.en))) c <;> simp
    | false => simp
  · simp only [he, ne_eq, not_false_eq_true, if_true]
/-- the second pass: every part has a prediction -/
theorem lawFrom_some (n : Int) (path : Path) (s : Ins) (c : Option Ins) (all : List Beh) : ∀ (bs : List Beh) (k : Nat) (comp : List Ins), (∀ j b, bs[j]? = some b → all[k + j]? = some b) → (∀ r ∈ poolRes n s c k comp bs, ∃ e, r.2 = some e) →
    ∃ ps : List Pred, lawFrom n path s c k comp bs = ps.map some ∧ ps.map (·.1) = (poolRes n s c k comp bs).map (endOr s) ∧ ps.flatMap (·.2) = (poolParts s c k (poolRes n s c k comp bs)).flatMap (rowOf all path)
  | [], _, _, _, _ => ⟨[], rfl, rfl, rfl⟩
  | b :: bs, k, comp, ha, h => by
    obtain ⟨e, he⟩ := h _ List.mem_cons_self
    obtain ⟨ps, h1, h2, h3⟩ := lawFrom_some n path s c all bs (k + 1) (comp ++ comOf (poolOne n s c k comp b).2) (fun j b' hb => by
      have := ha (j + 1) b' (by simpa using hb)
      rw [show k + 1 + j = k + (j + 1) by omega]
      exact this) (fun r hr => h r (List.mem_cons_of_mem _ hr))
    refine ⟨(e, trOf path c k (poolOne n s c k comp b) b e) :: ps, ?_, ?_, ?_⟩
    · show lawOne n path s c k comp b :: lawFrom n path s c (k + 1) _ bs = _
      rw [h1, lawOne_eq, he]
      rfl
    · show e :: ps.map (·.1) = endOr s (poolOne n s c k comp b) :: _
      rw [h2]
      congr 1
      unfold endOr
      rw [he]
      rfl
    · show trOf path c k (poolOne n s c k comp b) b e ++ ps.flatMap (·.2) = rowOf all path (poolPart s c k (poolOne n s c k comp b)) ++ _
      rw [h3]
      congr 1
      unfold trOf poolPart rowOf
      cases q : (poolOne n s c k comp b).1 with
      | some g =>
        dsimp only
        rw [show all[k]? = some b from ha 0 b rfl]
        rfl
      | none =>
        dsimp only
        unfold endOr
        rw [he]
        -- a part that is never started
        have hx : ∃ x, c = some x ∧ e = ⟨nexti x, .can, []⟩ := by
          unfold poolOne at q he
          cases hb : beginOf n s k comp with
          | none =>
            rw [hb] at he
            cases c with
            | none => cases he
            | some x => cases he; exact ⟨x, rfl, rfl⟩
          | some g =>
            rw [hb] at he q
            dsimp only at he q
            cases hn : na g c with
            | true =>
              rw [hn, if_pos rfl] at q
              cases q
            | false =>
              rw [hn, if_neg Bool.false_ne_true] at he
              cases c with
              | none => cases he
              | some x => cases he; exact ⟨x, rfl, rfl⟩
        obtain ⟨x, rfl, rfl⟩ := hx
        rfl
/-- THE LAW's mathematics: what the law reckons is what the pool foretells -/
theorem law_due {n : Int} {bs : List Beh} (G : ∀ b ∈ bs, Good b) (hn : 1 ≤ n) (path : Path) {s : Ins} {c : Option Ins} (hs : OLe s c) :
    ∃ ps : List Pred, lawPass n path s (lawSettled n path s c bs) bs = ps.map some ∧
      lawOut path s c (ps.foldl lawStep ⟨s, [], [], true, []⟩) = ((mk bs (poolCrs n bs)).fin s c, (mk bs (poolCrs n bs)).tr path s c) := by
  rw [lawSettled_eq, lawPass_eq]
  -- every part of the second pass has an end
  have all : ∀ r ∈ pres n bs s (poolLim n bs s c), ∃ e, r.2 = some e := by
    cases t : firstOf (pends n bs s c) .fai with
    | none => rw [plim_none t]; exact pres_all G hn hs t
    | some f =>
      by_cases hf : OLe f c
      · rw [plim_some t hf]
        have hsf : OLe s (some f) := by
          obtain ⟨⟨e, he, ho, rfl⟩, _⟩ := firstOf_some t
          obtain ⟨r, hr, hre⟩ := pends_fai he (by rw [ho]; intro q; cases q)
          exact ((pres_ok G hs r hr).1 e hre).ge
        intro r hr
        cases q : r.2 with
        | none => have := (pres_ok G hsf r hr).2 q; cases this
        | some e => exact ⟨e, rfl⟩
      · rw [plim_late t hf]
        intro r hr
        cases q : r.2 with
        | none =>
          have := (pres_ok G hs r hr).2 q
          rw [this] at hf
          exact absurd trivial hf
        | some e => exact ⟨e, rfl⟩
  obtain ⟨ps, h1, h2, h3⟩ := lawFrom_some n path s (poolLim n bs s c) bs bs 0 [] (fun j b hb => by rw [Nat.zero_add]; exact hb) all
  refine ⟨ps, h1, ?_⟩
  have hst : ps.foldl lawStep ⟨s, [], [], true, []⟩ = ⟨maxI s ((pends n bs s (poolLim n bs s c)).map (·.en)), (pends n bs s (poolLim n bs s c)).flatMap (fun e => if e.oc = .com then e.res else []), errorsOf (pends n bs s (poolLim n bs s c)), (pends n bs s (poolLim n bs s c)).all (fun e => e.oc = .com), (poolParts s (poolLim n bs s c) 0 (pres n bs s (poolLim n bs s c))).flatMap (rowOf bs path)⟩ := by
    rw [lawStep_fold, h2, h3]
    simp only [List.nil_append, Bool.true_and]
    rw [show ps.map (·.1.en) = (ps.map (·.1)).map (·.en) by rw [List.map_map]; rfl, h2]
  have ht := lawTold_eq s c (pends n bs s (poolLim n bs s c)) _ _ hst
  unfold lawOut
  rw [ht, hst]
  rfl
end Asf
set_option Elab.async false
set_option linter.all false
set_option maxRecDepth 100000
set_option maxHeartbeats 4000000
/-! ### min(a, b), max(a, b) of anything whose order the heap decides -/
namespace PySem
section
variable {prog : Program} {w : World} {A : Around} {E : Value → Shared → Prop} {s : Shared} {a b : Value} {Q : Value → Shared → Prop}
theorem asf_max_two (h : wpAny (model prog w) A.in1 (pyIter (.ref s.heap.objs.size)) (fun it s₂ => ∃ I fp wr G n P St H bt, it = .ref I ∧ WalksS prog w A.in1 I fp wr G n P St ∧ St 0 s₂ ∧ (∀ b ∈ fp, b < s₂.heap.objs.size) ∧ 0 < n ∧
      (∀ b o, H.get? b = some o → b ∉ wr) ∧ (∀ b o, H.get? b = some o → s₂.heap.get? b = some o) ∧ CmpIn prog w A.in1 .Gt H P bt ∧ ∀ v s', P (argBest bt (n - 1)) v → Moved wr G s₂ s' → Q v s') E
      { s with heap := s.heap.push { cls := .type "tuple", data := .seq #[a, b] } }) : wpAny (model prog w) A (call (.builtin "max") [a, b]) Q E s := by
  have nm : (toString "max" ++ toString ".loop" : String) = "max.loop" := by decide
  refine call_function_tree F.kind_max F.plain_max F.entry_max (F.args_max2 a b) ?_
  refine (show wpAny _ A.in1 (Builtin.Builtins.bindParams "max" ["key", "default"] 0 ⟨[], []⟩ >>= _) _ _ s from wpAny_bind (wpAny_of_eq (show Builtin.Builtins.bindParams "max" ["key", "default"] 0 ⟨[], []⟩ = pure [none, none] from rfl) ?_))
  refine (show wpAny _ A.in1 (newTuple [a, b] >>= _) _ _ s from wpAny_bind (wpAny_newObj_type ?_))
  refine wpAny_bind (wpAny_mono h (fun it t ht => ?_) fun _ _ e => e)
  obtain ⟨J, fp, wr, G, n, P, St, H, bt, rfl, W, hst, hfp, hn, hw, hk, hc, hQ⟩ := ht
  refine wpAny_bind (wpAny_newObj_type ?_)
  rw [nm]
  refine wpAny_pure ⟨plainId_quiet F.plain_max_loop _, codeAny_max_loop_firstH W H hw bt hc t.heap.objs.size (fun q => Nat.lt_irrefl _ (hfp _ q)) (fresh_in hk) _ hn (fun c o e => Heap.get?_push_of_some _ (hk c o e)) (W.frame 0 t _ t.toks hst (Nat.le_refl _) fun c _ o e => Heap.get?_push_of_some _ e) (Heap.get?_push_size _ rfl) fun v s' hP hm => ?_⟩
  exact hQ v s' hP (Moved.drop_new (tk := t.toks) hm (Nat.le_refl _))
theorem asf_min_two (h : wpAny (model prog w) A.in1 (pyIter (.ref s.heap.objs.size)) (fun it s₂ => ∃ I fp wr G n P St H bt, it = .ref I ∧ WalksS prog w A.in1 I fp wr G n P St ∧ St 0 s₂ ∧ (∀ b ∈ fp, b < s₂.heap.objs.size) ∧ 0 < n ∧
      (∀ b o, H.get? b = some o → b ∉ wr) ∧ (∀ b o, H.get? b = some o → s₂.heap.get? b = some o) ∧ CmpIn prog w A.in1 .Lt H P bt ∧ ∀ v s', P (argBest bt (n - 1)) v → Moved wr G s₂ s' → Q v s') E
      { s with heap := s.heap.push { cls := .type "tuple", data := .seq #[a, b] } }) : wpAny (model prog w) A (call (.builtin "min") [a, b]) Q E s := by
  have nm : (toString "min" ++ toString ".loop" : String) = "min.loop" := by decide
  refine call_function_tree F.kind_min F.plain_min F.entry_min (F.args_min2 a b) ?_
  refine (show wpAny _ A.in1 (Builtin.Builtins.bindParams "min" ["key", "default"] 0 ⟨[], []⟩ >>= _) _ _ s from wpAny_bind (wpAny_of_eq (show Builtin.Builtins.bindParams "min" ["key", "default"] 0 ⟨[], []⟩ = pure [none, none] from rfl) ?_))
  refine (show wpAny _ A.in1 (newTuple [a, b] >>= _) _ _ s from wpAny_bind (wpAny_newObj_type ?_))
  refine wpAny_bind (wpAny_mono h (fun it t ht => ?_) fun _ _ e => e)
  obtain ⟨J, fp, wr, G, n, P, St, H, bt, rfl, W, hst, hfp, hn, hw, hk, hc, hQ⟩ := ht
  refine wpAny_bind (wpAny_newObj_type ?_)
  rw [nm]
  refine wpAny_pure ⟨plainId_quiet F.plain_min_loop _, codeAny_min_loop_firstH W H hw bt hc t.heap.objs.size (fun q => Nat.lt_irrefl _ (hfp _ q)) (fresh_in hk) _ hn (fun c o e => Heap.get?_push_of_some _ (hk c o e)) (W.frame 0 t _ t.toks hst (Nat.le_refl _) fun c _ o e => Heap.get?_push_of_some _ e) (Heap.get?_push_size _ rfl) fun v s' hP hm => ?_⟩
  exact hQ v s' hP (Moved.drop_new (tk := t.toks) hm (Nat.le_refl _))
end
end PySem
namespace PySem.W
open PySem PySem.SeqAt PyProof.Rows
section
variable {prog : Program} {w : World} {A : Around} {E : Value → Shared → Prop} {s : Shared} {a b : Value} {da db : PyData} {as bs : List Addr} {Q : Value → Shared → Prop}
/-- what stood behind the new tuple and its iterator -/
theorem asf_old {o : Obj} {t s' : Shared} {I : Addr} (ht : ∃ o2, t = { s with heap := (s.heap.push o).push o2 }) (hI : I = (s.heap.push o).objs.size) (m : Moved [I] (fun a b => b = a) t s') : ∃ h' tk, s' = { s with heap := h', toks := tk } ∧ ∀ b o, s.heap.get? b = some o → h'.get? b = some o := by
  obtain ⟨o2, rfl⟩ := ht
  subst hI
  refine ⟨s'.heap, s'.toks, ?_, fun c oc e => m.heap c oc (fun hb => ?_) (Heap.get?_push_of_some _ (Heap.get?_push_of_some _ e))⟩
  · obtain ⟨hp, g, d, tk, os⟩ := s'
    obtain rfl : g = s.gens := m.gens
    obtain rfl : d = s.drawn := m.drawn
    obtain rfl : os = s.os := m.os
    rfl
  · have h1 := Heap.lt_size e
    rw [List.mem_singleton.mp hb, Heap.size_push] at h1
    exact absurd h1 (Nat.not_lt.mpr (Nat.le_succ _))
theorem asf_max2 (hh : A.handled = none) (ra : Reads s.heap a da as) (rb : Reads s.heap b db bs) (al : AlikeAll [da, db]) (hu : A.units + 1 + PyData.depthAll [da, db] < cLine)
    (h : ∀ h' tk, (∀ b o, s.heap.get? b = some o → h'.get? b = some o) → Q (if dataLt da db = true then b else a) { s with heap := h', toks := tk }) : wpAny (model prog w) A (call (.builtin "max") [a, b]) Q E s := by
  have hT : (s.heap.push { cls := .type "tuple", data := .seq #[a, b] }).IsTuple s.heap.objs.size #[a, b] := ⟨_, Heap.get?_push_size _ rfl, rfl, 0, rfl⟩
  have hr : ReadsAll (s.heap.push { cls := .type "tuple", data := .seq #[a, b] }) (#[a, b] : Array Value).toList [da, db] _ := .cons (Reads.keeps (fun _ _ q => Heap.get?_push_of_some _ q) ra) (.cons (Reads.keeps (fun _ _ q => Heap.get?_push_of_some _ q) rb) .nil)
  refine asf_max_two (iter_tupleW (A := A.in1) (s := { s with heap := s.heap.push { cls := .type "tuple", data := .seq #[a, b] } }) hh hT fun t e W st hfp hw hk => ?_)
  refine ⟨_, _, _, _, _, _, _, _, _, rfl, W, st, hfp, Nat.zero_lt_succ 1, hw, hk, cmpIn_gt (A := A.in1) (s := { s with heap := s.heap.push { cls := .type "tuple", data := .seq #[a, b] } }) hr al hu, fun v s' hP m => ?_⟩
  obtain ⟨h', tk, rfl, k'⟩ := asf_old ⟨_, e⟩ rfl m
  have hv : v = if dataLt da db = true then b else a := by
    have q : (#[a, b] : Array Value)[if dataLt da db = true then 1 else 0]? = some v := hP
    cases c : dataLt da db with
    | true => rw [c] at q; exact (Option.some.inj q).symm
    | false => rw [c] at q; exact (Option.some.inj q).symm
  rw [hv]
  exact h h' tk k'
theorem asf_min2 (hh : A.handled = none) (ra : Reads s.heap a da as) (rb : Reads s.heap b db bs) (al : AlikeAll [da, db]) (hu : A.units + 1 + PyData.depthAll [da, db] < cLine)
    (h : ∀ h' tk, (∀ b o, s.heap.get? b = some o → h'.get? b = some o) → Q (if dataLt db da = true then b else a) { s with heap := h', toks := tk }) : wpAny (model prog w) A (call (.builtin "min") [a, b]) Q E s := by
  have hT : (s.heap.push { cls := .type "tuple", data := .seq #[a, b] }).IsTuple s.heap.objs.size #[a, b] := ⟨_, Heap.get?_push_size _ rfl, rfl, 0, rfl⟩
  have hr : ReadsAll (s.heap.push { cls := .type "tuple", data := .seq #[a, b] }) (#[a, b] : Array Value).toList [da, db] _ := .cons (Reads.keeps (fun _ _ q => Heap.get?_push_of_some _ q) ra) (.cons (Reads.keeps (fun _ _ q => Heap.get?_push_of_some _ q) rb) .nil)
  refine asf_min_two (iter_tupleW (A := A.in1) (s := { s with heap := s.heap.push { cls := .type "tuple", data := .seq #[a, b] } }) hh hT fun t e W st hfp hw hk => ?_)
  refine ⟨_, _, _, _, _, _, _, _, _, rfl, W, st, hfp, Nat.zero_lt_succ 1, hw, hk, cmpIn_lt (A := A.in1) (s := { s with heap := s.heap.push { cls := .type "tuple", data := .seq #[a, b] } }) hr al hu, fun v s' hP m => ?_⟩
  obtain ⟨h', tk, rfl, k'⟩ := asf_old ⟨_, e⟩ rfl m
  have hv : v = if dataLt db da = true then b else a := by
    have q : (#[a, b] : Array Value)[if dataLt db da = true then 1 else 0]? = some v := hP
    cases c : dataLt db da with
    | true => rw [c] at q; exact (Option.some.inj q).symm
    | false => rw [c] at q; exact (Option.some.inj q).symm
  rw [hv]
  exact h h' tk k'
end
end PySem.W
set_option Elab.async false
set_option linter.all false
set_option maxRecDepth 100000
set_option maxHeartbeats 4000000
namespace Asf
open PySem PySem.Spec PyProof.Rows L2
/-! ### pairs of lists -/
theorem paired_r {α β : Type} {R : α → β → Prop} : ∀ {l : List α} {m : List β}, Paired R l m → ∀ {j : Nat} {b : β}, m[j]? = some b → ∃ a, l[j]? = some a ∧ R a b
  | _, _, .nil, j, b, h => by simp at h
  | _, _, .cons r t, 0, b, h => by
    have e := Option.some.inj (show some _ = some b from h)
    subst e
    exact ⟨_, rfl, r⟩
  | _, _, .cons _ t, j + 1, b, h => paired_r t (j := j) (by simpa using h)
theorem paired_l {α β : Type} {R : α → β → Prop} : ∀ {l : List α} {m : List β}, Paired R l m → ∀ {j : Nat} {a : α}, l[j]? = some a → ∃ b, m[j]? = some b ∧ R a b
  | _, _, .nil, j, a, h => by simp at h
  | _, _, .cons r t, 0, a, h => by
    have e := Option.some.inj (show some _ = some a from h)
    subst e
    exact ⟨_, rfl, r⟩
  | _, _, .cons _ t, j + 1, a, h => paired_l t (j := j) (by simpa using h)
theorem paired_app {α β : Type} {R : α → β → Prop} : ∀ {l l' : List α} {m m' : List β}, Paired R l m → Paired R l' m' → Paired R (l ++ l') (m ++ m')
  | _, _, _, _, .nil, h => h
  | _, _, _, _, .cons r t, h => .cons r (paired_app t h)
theorem paired_imp {α β : Type} {R S : α → β → Prop} (f : ∀ a b, R a b → S a b) : ∀ {l : List α} {m : List β}, Paired R l m → Paired S l m
  | _, _, .nil => .nil
  | _, _, .cons r t => .cons (f _ _ r) (paired_imp f t)
theorem paired_fn {α β γ : Type} {R : α → β → Prop} (g : α → γ) (h : β → γ) (f : ∀ a b, R a b → g a = h b) : ∀ {l : List α} {m : List β}, Paired R l m → l.map g = m.map h
  | _, _, .nil => rfl
  | _, _, .cons r t => by rw [List.map_cons, List.map_cons, f _ _ r, paired_fn g h f t]
theorem paired_mem {α β : Type} {R : α → β → Prop} : ∀ {l : List α} {m : List β}, Paired R l m → ∀ a ∈ l, ∃ b ∈ m, R a b
  | _, _, .nil, a, h => by cases h
  | _, _, .cons r t, a, h => by
    rcases List.mem_cons.mp h with rfl | h
    · exact ⟨_, List.mem_cons_self, r⟩
    · obtain ⟨b, hb, q⟩ := paired_mem t a h
      exact ⟨b, List.mem_cons_of_mem _ hb, q⟩
/-! ### instants -/
abbrev eI (i : Ins) : PyData := .tuple [.int i.1, .int i.2]
def InsAt (H : Hp) (v : V) (i : Ins) : Prop := ∃ a, v = .ref a ∧ H a = some (.tup [.int i.1, .int i.2])
theorem InsAt.dp {K : PySem.W.Frag} {H : Hp} {v : V} {i : Ins} (h : InsAt H v i) : Dp K H v (eI i) := by
  obtain ⟨a, rfl, h⟩ := h
  exact .tup (SqT.of h) (.cons (.int _) (.cons (.int _) .nil))
theorem InsAt.inj {H : Hp} {v : V} {i j : Ins} (h : InsAt H v i) (h' : InsAt H v j) : i = j := by
  obtain ⟨a, rfl, h⟩ := h
  obtain ⟨b, e, h'⟩ := h'
  cases e
  rw [h] at h'
  injection h' with h'
  injection h' with h'
  injection h' with e1 e2
  injection e2 with e2 _
  injection e1 with e1
  injection e2 with e2
  exact Prod.ext e1 e2
section
variable {X : Cx} {pins : List (Addr × Obj)} {σ : L2.St} {H : Hp} {s : Shared}
theorem InsAt.holds {v : V} {u : Value} {i : Ins} (I : Inv X pins σ H s) (h : InsAt H v i) (r : RelV v u) : PySem.W.Holds s.heap u i := Dp.reads I (eI i) v u h.dp r
theorem holdAll_ins (I : Inv X pins σ H s) : ∀ {xs : List V} {is : List Ins} {us : List Value}, Paired (InsAt H) xs is → Vals xs us → PySem.W.HoldAll s.heap us is
  | _, _, _, .nil, .nil => PySem.W.HoldAll.nil
  | _, _, _, .cons h t, .cons r q => PySem.W.HoldAll.cons (h.holds I r) (holdAll_ins I t q)
theorem holds_one {h : Heap} {u : Value} {i j : Ins} (a : PySem.W.Holds h u i) (b : PySem.W.Holds h u j) : i = j := by
  obtain ⟨as, ra⟩ := a
  obtain ⟨bs, rb⟩ := b
  have e := SeqAt.plain_unique _ _ u as bs (PySem.W.Datum.plain i) ra rb
  have q := PySem.W.Datum.eqv i j
  rw [← e] at q
  have e1 := SeqAt.eqv_refl_plain _ (PySem.W.Datum.plain i)
  rw [e1] at q
  exact of_decide_eq_true q.symm
theorem Room.insU {k : Nat} {A : Around} (r : Room k A) (n : Nat) (hn : n ≤ 200) : A.units + n < cLine := by have := r.un; omega
theorem op_ltI (hu : X.A.units + 1 < cLine) : OpR X (compareOp .Lt) (fun x y H Q => ∃ i j, InsAt H x i ∧ InsAt H y j ∧ Q (.bl (ilt i j)) H) := by
  intro pins s σ H x y v u Q I rx ry h
  obtain ⟨i, j, hx, hy, q⟩ := h
  exact PySem.W.lt_datum (hx.holds I rx) (hy.holds I ry) hu ⟨.bl _, H, I, rfl, q⟩
theorem op_gtI (hu : X.A.units + 1 < cLine) : OpR X (compareOp .Gt) (fun x y H Q => ∃ i j, InsAt H x i ∧ InsAt H y j ∧ Q (.bl (ilt j i)) H) := by
  intro pins s σ H x y v u Q I rx ry h
  obtain ⟨i, j, hx, hy, q⟩ := h
  exact PySem.W.gt_datum (hx.holds I rx) (hy.holds I ry) hu ⟨.bl _, H, I, rfl, q⟩
theorem op_leI (hu : X.A.units + 1 < cLine) : OpR X (compareOp .LtE) (fun x y H Q => ∃ i j, InsAt H x i ∧ InsAt H y j ∧ Q (.bl (!ilt j i)) H) := by
  intro pins s σ H x y v u Q I rx ry h
  obtain ⟨i, j, hx, hy, q⟩ := h
  exact PySem.W.le_datum (hx.holds I rx) (hy.holds I ry) hu ⟨.bl _, H, I, rfl, q⟩
/-! least and greatest of a list -/
def rMinL (K : PySem.W.Frag) (f : Ins → List Ins → Ins) : List V → Hp → VK → Prop := fun vs H Q => ∃ (a : Addr) (xs : List V) (i : Ins) (is : List Ins), vs = [V.ref a] ∧ SqL K H a xs ∧ Paired (InsAt H) xs (i :: is) ∧ ∀ x, InsAt H x (f i is) → Q x H
theorem pick_ins (I : Inv X pins σ H s) {xs : List V} {is : List Ins} {its : List Value} {m : Ins} {j : Nat} {v : Value} {h' : Heap} (hp : Paired (InsAt H) xs is) (rv : Vals xs its) (hv : its.toArray[j]? = some v)
    (k : ∀ b o, s.heap.get? b = some o → h'.get? b = some o) (hm : PySem.W.Holds h' v m) : ∃ x, RelV x v ∧ InsAt H x m := by
  have hv' : its[j]? = some v := by simpa using hv
  obtain ⟨x, hx, rx⟩ := paired_r (R := RelV) rv hv'
  obtain ⟨i, hi, ix⟩ := paired_l hp hx
  have e := holds_one ((ix.holds I rx).keeps k) hm
  subst e
  exact ⟨x, rx, ix⟩
theorem cr_minL (hc : X.calm = true) (hu : X.A.units + 2 < cLine) : CallR X (.builtin "min") (rMinL X.K minI) := by
  intro pins s σ H vs us Q I r h
  obtain ⟨a, xs, i, is, rfl, hs, hp, q⟩ := h
  obtain ⟨its, rv, hl, _⟩ := I.list hs
  rw [Vals.ref1 r]
  refine PySem.W.min_list_datum (x := i) (xs := is) (I.ok.hd hc) hl.isList (by rw [List.toList_toArray]; exact holdAll_ins I hp rv) hu fun j v h' tk hv hm k => ?_
  obtain ⟨x, rx, ix⟩ := pick_ins I hp rv hv k hm
  exact ⟨x, H, I.kept k, rx, q x ix⟩
theorem cr_maxL (hc : X.calm = true) (hu : X.A.units + 2 < cLine) : CallR X (.builtin "max") (rMinL X.K maxI) := by
  intro pins s σ H vs us Q I r h
  obtain ⟨a, xs, i, is, rfl, hs, hp, q⟩ := h
  obtain ⟨its, rv, hl, _⟩ := I.list hs
  rw [Vals.ref1 r]
  refine PySem.W.max_list_datum (x := i) (xs := is) (I.ok.hd hc) hl.isList (by rw [List.toList_toArray]; exact holdAll_ins I hp rv) hu fun j v h' tk hv hm k => ?_
  obtain ⟨x, rx, ix⟩ := pick_ins I hp rv hv k hm
  exact ⟨x, H, I.kept k, rx, q x ix⟩
/-! of two -/
theorem alike_ins (i j : Ins) : PySem.W.AlikeAll [eI i, eI j] := PySem.W.alikeAll_datum [i, j]
theorem depth_ins (i j : Ins) : PyData.depthAll [eI i, eI j] = 1 := by
  simp [PyData.depthAll, PyData.depth]
theorem dataLt_ins (i j : Ins) : PySem.W.dataLt (eI i) (eI j) = ilt i j := PySem.W.DatumOrd.lt_eq i j
theorem cr_max2I (hc : X.calm = true) (hu : X.A.units + 2 < cLine) : CallR X (.builtin "max") (fun vs H Q => ∃ x y i j, vs = [x, y] ∧ InsAt H x i ∧ InsAt H y j ∧ Q (if ilt i j = true then y else x) H) := by
  intro pins s σ H vs us Q I r h
  obtain ⟨x, y, i, j, rfl, hx, hy, q⟩ := h
  obtain ⟨u, w', rfl, ru, rw'⟩ := vals2 r
  obtain ⟨as, ra⟩ := hx.holds I ru
  obtain ⟨bs, rb⟩ := hy.holds I rw'
  refine PySem.W.asf_max2 (da := eI i) (db := eI j) (I.ok.hd hc) ra rb (alike_ins i j) (by show X.A.units + 1 + PyData.depthAll [eI i, eI j] < cLine; rw [depth_ins]; exact hu) fun h' tk k => ?_
  rw [dataLt_ins]
  refine ⟨if ilt i j = true then y else x, H, I.kept k, ?_, q⟩
  cases ilt i j with
  | true => exact rw'
  | false => exact ru
theorem cr_min2I (hc : X.calm = true) (hu : X.A.units + 2 < cLine) : CallR X (.builtin "min") (fun vs H Q => ∃ x y i j, vs = [x, y] ∧ InsAt H x i ∧ InsAt H y j ∧ Q (if ilt j i = true then y else x) H) := by
  intro pins s σ H vs us Q I r h
  obtain ⟨x, y, i, j, rfl, hx, hy, q⟩ := h
  obtain ⟨u, w', rfl, ru, rw'⟩ := vals2 r
  obtain ⟨as, ra⟩ := hx.holds I ru
  obtain ⟨bs, rb⟩ := hy.holds I rw'
  refine PySem.W.asf_min2 (da := eI i) (db := eI j) (I.ok.hd hc) ra rb (alike_ins i j) (by show X.A.units + 1 + PyData.depthAll [eI i, eI j] < cLine; rw [depth_ins]; exact hu) fun h' tk k => ?_
  rw [dataLt_ins]
  refine ⟨if ilt j i = true then y else x, H, I.kept k, ?_, q⟩
  cases ilt j i with
  | true => exact rw'
  | false => exact ru
end
/-! sorted -/
def insOf (H : Hp) : V → Int × Int
  | .ref a => match H a with
    | some (.tup [.int t, .int r]) => (t, r)
    | _ => (0, 0)
  | _ => (0, 0)
theorem insOf_eq {H : Hp} {v : V} {i : Ins} (h : InsAt H v i) : insOf H v = i := by
  obtain ⟨a, rfl, h⟩ := h
  show (match H a with
    | some (.tup [.int t, .int r]) => (t, r)
    | _ => (0, 0)) = i
  rw [h]
theorem srtd_le (k : V → Int × Int) : ∀ {ys : List V}, SrtO.Srtd (ltP k) ys → (ys.map k).Pairwise Le := fun {ys} h => by
  refine List.pairwise_map.mpr (List.Pairwise.imp (fun {a b} q => ?_) h)
  have q2 := SrtO.lexB_no.mp q
  unfold Le
  omega
section
variable {X : Cx}
def rSortI (K : PySem.W.Frag) : List V → Hp → VK → Prop := fun vs H Q => ∃ (a : Addr) (xs : List V) (is : List Ins), vs = [V.ref a] ∧ SqL K H a xs ∧ Paired (InsAt H) xs is ∧
  ∀ p ys, H p = none → Paired (InsAt H) ys (isort is) → Q (.ref p) (upd H p (.lst ys))
theorem cr_sortI : CallR X (.builtin "sorted") (rSortI X.K) := by
  intro pins s σ H vs us Q I r h
  obtain ⟨a, xs, is, rfl, hs, hp, q⟩ := h
  have allI : ∀ x ∈ xs, InsAt H x (insOf H x) := fun x hx => by
    obtain ⟨i, _, hi⟩ := paired_mem hp x hx
    rw [insOf_eq hi]
    exact hi
  refine cr_sortedPO pins s σ H _ us Q I r ⟨a, xs, insOf H, rfl, hs, fun x hx => allI x hx, fun ys p h1 h2 hn => q p ys hn ?_⟩
  have hk : xs.map (insOf H) = is := (paired_fn (insOf H) id (fun _ _ h => insOf_eq h) hp).trans (List.map_id _)
  have e : ys.map (insOf H) = isort is := isort_of (by rw [← hk]; exact h2.perm.map _) (srtd_le _ h1)
  rw [← e]
  have all2 : ∀ y ∈ ys, InsAt H y (insOf H y) := fun y hy => allI y (h2.perm.mem_iff.mp hy)
  clear h1 h2 e q
  induction ys with
  | nil => exact .nil
  | cons y ys ih => exact .cons (all2 y List.mem_cons_self) (ih fun z hz => all2 z (List.mem_cons_of_mem _ hz))
end
end Asf
set_option Elab.async false
set_option linter.all false
set_option maxRecDepth 100000
set_option maxHeartbeats 4000000
namespace Asf
open PySem PySem.Spec PyProof.Rows L2
/-! ### data of tuples alone -/
/-- an empty tuple of the written part -/
def KEmp (K : PySem.W.Frag) (a : Addr) : Prop := ∃ (o : Obj) (n : Nat), K.lookup a = some o ∧ o.cls = .type "tuple" ∧ o.data = .seq #[] n
theorem KEmp.sq {K : PySem.W.Frag} {a : Addr} (h : KEmp K a) (H : Hp) : SqT K H a [] := by
  obtain ⟨o, n, h1, h2, h3⟩ := h
  exact .inr ⟨o, #[], n, h1, h2, h3, by show 0 ≤ sizeLine; exact Nat.zero_le _, .nil⟩
mutual
inductive DD (K : PySem.W.Frag) (H : Hp) : V → PyData → Prop
  | non : DD K H .non .none
  | int (i : Int) : DD K H (.int i) (.int i)
  | str (x : Str) : DD K H (.str x) (.str x)
  | tup {a : Addr} {xs : List V} {ds : List PyData} : H a = some (.tup xs) → DDs K H xs ds → DD K H (.ref a) (.tuple ds)
  | emp {a : Addr} : KEmp K a → DD K H (.ref a) (.tuple [])
inductive DDs (K : PySem.W.Frag) (H : Hp) : List V → List PyData → Prop
  | nil : DDs K H [] []
  | cons {v : V} {vs : List V} {d : PyData} {ds : List PyData} : DD K H v d → DDs K H vs ds → DDs K H (v :: vs) (d :: ds)
end
section
variable {K : PySem.W.Frag} {H H' : Hp}
mutual
theorem DD.dp : ∀ (d : PyData) (v : V), DD K H v d → Dp K H v d
  | .none, _, h => by cases h; exact .non
  | .bool b, _, h => by cases h
  | .int i, _, h => by cases h; exact .int i
  | .str x, _, h => by cases h; exact .str x
  | .list ds, _, h => by cases h
  | .dict _, _, h => by cases h
  | .tuple ds, _, h => by
    cases h with
    | tup h1 h2 => exact .tup (SqT.of h1) (DDs.dp ds _ h2)
    | emp h1 => exact .tup (h1.sq H) .nil
theorem DDs.dp : ∀ (ds : List PyData) (vs : List V), DDs K H vs ds → DpAll K H vs ds
  | [], _, h => by cases h; exact .nil
  | d :: ds, _, h => by
    cases h with
    | cons h1 h2 => exact .cons (DD.dp d _ h1) (DDs.dp ds _ h2)
end
/-- the tuples stay -/
def TK (H H' : Hp) : Prop := ∀ a xs, H a = some (.tup xs) → H' a = some (.tup xs)
mutual
theorem DD.mono (k : TK H H') : ∀ (d : PyData) (v : V), DD K H v d → DD K H' v d
  | .none, _, h => by cases h; exact .non
  | .bool b, _, h => by cases h
  | .int i, _, h => by cases h; exact .int i
  | .str x, _, h => by cases h; exact .str x
  | .list ds, _, h => by cases h
  | .dict _, _, h => by cases h
  | .tuple ds, _, h => by
    cases h with
    | tup h1 h2 => exact .tup (k _ _ h1) (DDs.mono k ds _ h2)
    | emp h1 => exact .emp h1
theorem DDs.mono (k : TK H H') : ∀ (ds : List PyData) (vs : List V), DDs K H vs ds → DDs K H' vs ds
  | [], _, h => by cases h; exact .nil
  | d :: ds, _, h => by
    cases h with
    | cons h1 h2 => exact .cons (DD.mono k d _ h1) (DDs.mono k ds _ h2)
end
theorem DD.sq {v : V} {ds : List PyData} (h : DD K H v (.tuple ds)) : ∃ a xs, v = .ref a ∧ SqT K H a xs ∧ DDs K H xs ds := by
  cases h with
  | tup h1 h2 => exact ⟨_, _, rfl, SqT.of h1, h2⟩
  | emp h1 => exact ⟨_, [], rfl, h1.sq H, .nil⟩
/-- a tuple that is not empty is tracked -/
theorem DD.own {v : V} {d : PyData} {ds : List PyData} (h : DD K H v (.tuple (d :: ds))) : ∃ a xs, v = .ref a ∧ H a = some (.tup xs) ∧ DDs K H xs (d :: ds) := by
  cases h with
  | tup h1 h2 => exact ⟨_, _, rfl, h1, h2⟩
theorem DD.to_int {v : V} {i : Int} (h : DD K H v (.int i)) : v = .int i := by cases h; rfl
theorem DD.to_str {v : V} {x : Str} (h : DD K H v (.str x)) : v = .str x := by cases h; rfl
theorem DD.to_non {v : V} (h : DD K H v .none) : v = .non := by cases h; rfl
theorem DDs.to1 {xs : List V} {d : PyData} (h : DDs K H xs [d]) : ∃ v, xs = [v] ∧ DD K H v d := by
  cases h with
  | cons h1 h2 => cases h2; exact ⟨_, rfl, h1⟩
theorem DDs.toC {xs : List V} {d : PyData} {ds : List PyData} (h : DDs K H xs (d :: ds)) : ∃ v vs, xs = v :: vs ∧ DD K H v d ∧ DDs K H vs ds := by
  cases h with
  | cons h1 h2 => exact ⟨_, _, rfl, h1, h2⟩
theorem DDs.toN {xs : List V} (h : DDs K H xs []) : xs = [] := by cases h; rfl
theorem DDs.len : ∀ {xs : List V} {ds : List PyData}, DDs K H xs ds → xs.length = ds.length
  | _, [], h => by cases h; rfl
  | _, d :: ds, h => by
    cases h with
    | cons h1 h2 => rw [List.length_cons, List.length_cons, DDs.len h2]
theorem DDs.get : ∀ {xs : List V} {ds : List PyData}, DDs K H xs ds → ∀ {j : Nat} {d : PyData}, ds[j]? = some d → ∃ v, xs[j]? = some v ∧ DD K H v d
  | _, [], h, j, d, e => by simp at e
  | _, x :: ds, h, 0, d, e => by
    cases h with
    | cons h1 h2 =>
      have e := Option.some.inj (show some x = some d from e)
      subst e
      exact ⟨_, rfl, h1⟩
  | _, x :: ds, h, j + 1, d, e => by
    cases h with
    | cons h1 h2 =>
      obtain ⟨v, q1, q2⟩ := DDs.get h2 (j := j) (d := d) (by simpa using e)
      exact ⟨v, by simpa using q1, q2⟩
theorem DDs.app : ∀ {xs ys : List V} {ds es : List PyData}, DDs K H xs ds → DDs K H ys es → DDs K H (xs ++ ys) (ds ++ es)
  | _, _, [], _, h, h' => by cases h; exact h'
  | _, _, d :: ds, _, h, h' => by
    cases h with
    | cons h1 h2 => exact .cons h1 (DDs.app h2 h')
theorem DDs.of_paired : ∀ {xs : List V} {ds : List PyData}, Paired (DD K H) xs ds → DDs K H xs ds
  | _, _, .nil => .nil
  | _, _, .cons r t => .cons r (DDs.of_paired t)
theorem DDs.paired : ∀ {xs : List V} {ds : List PyData}, DDs K H xs ds → Paired (DD K H) xs ds
  | _, [], h => by cases h; exact .nil
  | _, d :: ds, h => by
    cases h with
    | cons h1 h2 => exact .cons h1 (DDs.paired h2)
theorem DDs.ints : ∀ {xs : List V} {is : List Int}, DDs K H xs (is.map .int) → xs = is.map V.int
  | _, [], h => by cases h; rfl
  | _, i :: is, h => by
    cases h with
    | cons h1 h2 => rw [h1.to_int, DDs.ints h2]; rfl
theorem DDs.of_ints : ∀ is : List Int, DDs K H (is.map V.int) (is.map .int)
  | [] => .nil
  | i :: is => .cons (.int i) (DDs.of_ints is)
theorem InsAt.dd {v : V} {i : Ins} (h : InsAt H v i) : DD K H v (eI i) := by
  obtain ⟨a, rfl, h⟩ := h
  exact .tup h (.cons (.int _) (.cons (.int _) .nil))
theorem DD.ins {v : V} {i : Ins} (h : DD K H v (eI i)) : InsAt H v i := by
  obtain ⟨a, xs, rfl, h1, h2⟩ := h.own
  obtain ⟨v1, vs, rfl, h3, h4⟩ := h2.toC
  obtain ⟨v2, rfl, h5⟩ := h4.to1
  rw [h3.to_int, h5.to_int] at h1
  exact ⟨a, rfl, h1⟩
/-- an instant or None -/
def eO : Option Ins → PyData
  | none => .none
  | some i => eI i
def OIns (H : Hp) (v : V) : Option Ins → Prop
  | none => v = .non
  | some i => InsAt H v i
theorem OIns.dd {v : V} {c : Option Ins} (h : OIns H v c) : DD K H v (eO c) := by
  cases c with
  | none => cases h; exact .non
  | some i => exact InsAt.dd h
theorem DD.oins {v : V} {c : Option Ins} (h : DD K H v (eO c)) : OIns H v c := by
  cases c with
  | none => exact h.to_non
  | some i => exact h.ins
theorem InsAt.mono {v : V} {i : Ins} (k : TK H H') (h : InsAt H v i) : InsAt H' v i := by
  obtain ⟨a, rfl, h⟩ := h
  exact ⟨a, rfl, k _ _ h⟩
theorem OIns.mono {v : V} {c : Option Ins} (k : TK H H') (h : OIns H v c) : OIns H' v c := by
  cases c with
  | none => exact h
  | some i => exact InsAt.mono k h
/-! ### what stays: all, or all but one object -/
def Kp (B : Option Addr) (H H' : Hp) : Prop := ∀ a o, H a = some o → B ≠ some a → H' a = some o
theorem Kp.refl (B : Option Addr) (H : Hp) : Kp B H H := fun _ _ h _ => h
theorem Kp.trans {B : Option Addr} {H H1 H2 : Hp} (a : Kp B H H1) (b : Kp B H1 H2) : Kp B H H2 := fun c o h n => b c o (a c o h n) n
theorem Kp.weak {B : Option Addr} {H H1 : Hp} (a : Kp none H H1) : Kp B H H1 := fun c o h _ => a c o h (by simp)
theorem Kp.new {B : Option Addr} {H : Hp} {p : Addr} {o : HO} (n : H p = none) : Kp B H (upd H p o) := fun c u h _ => by rw [upd_ne (ne_of_none h n)]; exact h
theorem Kp.put {H : Hp} {p : Addr} {o : HO} : Kp (some p) H (upd H p o) := fun c u h n => by rw [upd_ne (fun e => n (by rw [e]))]; exact h
theorem Kp.at_ {B : Option Addr} {H H1 : Hp} (a : Kp B H H1) {c : Addr} {o : HO} (h : H c = some o) (n : B ≠ some c) : H1 c = some o := a c o h n
theorem Kp.tk0 {H H1 : Hp} (a : Kp none H H1) : TK H H1 := fun c xs h => a c _ h (by simp)
theorem Kp.tk {H H1 : Hp} {b : Addr} {o : HO} (a : Kp (some b) H H1) (hb : H b = some o) (ho : ∀ xs, o ≠ .tup xs) : TK H H1 := fun c xs h => a c _ h (fun e => by
  injection e with e
  subst e
  rw [hb] at h
  exact ho xs (Option.some.inj h))
theorem TK.refl (H : Hp) : TK H H := fun _ _ h => h
theorem TK.trans {H H1 H2 : Hp} (a : TK H H1) (b : TK H1 H2) : TK H H2 := fun c xs h => b c xs (a c xs h)
theorem TK.new {H : Hp} {p : Addr} {o : HO} (n : H p = none) : TK H (upd H p o) := (Kp.new (B := none) n).tk0
theorem TK.put {H : Hp} {p : Addr} {o u : HO} (h : H p = some u) (hu : ∀ xs, u ≠ .tup xs) : TK H (upd H p o) := Kp.put.tk h hu
theorem Kp.free0 {H H1 : Hp} (a : Kp none H H1) {p : Addr} (n : H1 p = none) : H p = none := by
  cases e : H p with
  | none => rfl
  | some o => rw [a p o e (by simp)] at n; cases n
theorem Kp.free {H H1 : Hp} {b : Addr} {o : HO} (a : Kp (some b) H H1) (hb : H1 b = some o) {p : Addr} (n : H1 p = none) : H p = none := by
  cases e : H p with
  | none => rfl
  | some u =>
    have hp : p ≠ b := fun q => by rw [q, hb] at n; cases n
    rw [a p u e (fun q => hp (by injection q with q; exact q.symm))] at n
    cases n
end
end Asf
set_option Elab.async false
set_option linter.all false
set_option maxRecDepth 100000
set_option maxHeartbeats 4000000
namespace Asf
open PySem PySem.Spec PyProof.Rows L2
/-! ### a dict whose keys are nested tuples -/
abbrev NE := NestedKey × Addr × V
def nkRel (p : NE) (q : NestedKey × Addr × Value) : Prop := p.1 = q.1 ∧ p.2.1 = q.2.1 ∧ RelV p.2.2 q.2.2
def nkF (P : Program) (w : World) (d : Addr) (xs : List NE) (h : Heap) : Prop := ∃ ys o es ep, Paired nkRel xs ys ∧ h.get? d = some o ∧ o.ExactDict ∧ o.data = .dict es ep ∧ es.toList = ys.map (entryOfKey (nestedKind P w)) ∧ (ys.map (·.1)).Nodup
def nkO (P : Program) (w : World) (d : Addr) (xs : List NE) : HO := .ext (nkF P w d xs)
def lookN (xs : List NE) (k : NestedKey) : Option V := (xs.find? fun x => decide (x.1 = k)).map (·.2.2)
def putN (xs : List NE) (k : NestedKey) (a : Addr) (v : V) : List NE := if (lookN xs k).isSome = true then xs.map (fun x => if x.1 = k then (x.1, x.2.1, v) else x) else xs ++ [(k, a, v)]
/-- the tuple at a is the key k -/
def NKey (K : PySem.W.Frag) (H : Hp) (k : NestedKey) (a : Addr) : Prop := DD K H (.ref a) k.data ∧ k.depth ≤ 8
mutual
theorem nested_reads {h : Heap} : ∀ (k : NestedKey) (v : Value) (as : List Addr), Reads h v k.data as → NestedIs h k v
  | .none, _, _, r => by
    simp only [NestedKey.data] at r
    cases r
    exact .none
  | .num i, _, _, r => by
    simp only [NestedKey.data] at r
    cases r
    exact .int _ _
  | .text x, _, _, r => by
    simp only [NestedKey.data] at r
    cases r
    exact .text _ _
  | .tup ks, _, _, r => by
    simp only [NestedKey.data] at r
    cases r with
    | tuple h1 h2 h3 h4 => exact .tup h1 h2 h3 (nested_readsAll ks _ _ h4)
theorem nested_readsAll {h : Heap} : ∀ (ks : List NestedKey) (vs : List Value) (as : List Addr), ReadsAll h vs (NestedKey.datas ks) as → NestedAll h ks vs
  | [], _, _, r => by
    simp only [NestedKey.datas] at r
    cases r
    exact .nil
  | k :: ks, _, _, r => by
    simp only [NestedKey.datas] at r
    cases r with
    | cons h1 h2 => exact .cons (nested_reads k _ _ h1) (nested_readsAll ks _ _ h2)
end
theorem lookN_rel {xs : List NE} {ys : List (NestedKey × Addr × Value)} (r : Paired nkRel xs ys) (k : NestedKey) : RelO (lookN xs k) ((atKey ys k).map (·.2)) := by
  induction r with
  | nil => exact True.intro
  | @cons p q ps qs h t ih =>
    obtain ⟨h1, _, h2⟩ := h
    by_cases e : p.1 = k
    · have e' : q.1 = k := h1.symm.trans e
      have a1 : lookN (p :: ps) k = some p.2.2 := by simp [lookN, List.find?_cons, e]
      have a2 : atKey (q :: qs) k = some q.2 := by simp [atKey, List.find?_cons, e']
      rw [a1, a2]
      exact h2
    · have e' : ¬ q.1 = k := fun z => e (h1.trans z)
      have a1 : lookN (p :: ps) k = lookN ps k := by simp [lookN, List.find?_cons, e]
      have a2 : atKey (q :: qs) k = atKey qs k := by simp [atKey, List.find?_cons, e']
      rw [a1, a2]
      exact ih
theorem relO_some {o : Option V} {o' : Option Value} (r : RelO o o') : o.isSome = o'.isSome := by
  cases o <;> cases o' <;> first | rfl | exact r.elim
theorem putN_rel {xs : List NE} {ys : List (NestedKey × Addr × Value)} (r : Paired nkRel xs ys) (k : NestedKey) (a : Addr) {v : V} {u : Value} (rv : RelV v u) : Paired nkRel (putN xs k a v) (storedH ys k a u) := by
  have e := relO_some (lookN_rel r k)
  rw [Option.isSome_map] at e
  unfold putN storedH
  rw [← e]
  by_cases q : (lookN xs k).isSome = true
  · rw [if_pos q, if_pos q]
    clear e q
    induction r with
    | nil => exact .nil
    | @cons p q ps qs h t ih =>
      obtain ⟨h1, h2, h3⟩ := h
      refine .cons ?_ ih
      unfold putAt
      dsimp only
      by_cases e : p.1 = k
      · rw [if_pos e, if_pos (h1.symm.trans e)]
        exact ⟨h1, h2, rv⟩
      · rw [if_neg e, if_neg (fun z => e (h1.trans z))]
        exact ⟨h1, h2, h3⟩
  · rw [if_neg q, if_neg q]
    exact Paired.snoc r ⟨rfl, rfl, rv⟩
theorem putN_len (xs : List NE) (k a v) : (putN xs k a v).length ≤ xs.length + 1 := by
  unfold putN
  split
  · rw [List.length_map]; omega
  · rw [List.length_append]; exact Nat.le_refl _
theorem putN_mem {xs : List NE} {k : NestedKey} {a : Addr} {v : V} {x : NE} (h : x ∈ putN xs k a v) : x ∈ xs ∨ (∃ y ∈ xs, y.1 = k ∧ x = (k, y.2.1, v)) ∨ x = (k, a, v) := by
  unfold putN at h
  split at h
  · obtain ⟨y, hy, e⟩ := List.mem_map.mp h
    by_cases q : y.1 = k
    · rw [if_pos q] at e
      exact .inr (.inl ⟨y, hy, q, by rw [← e, q]⟩)
    · rw [if_neg q] at e
      exact .inl (by rw [← e]; exact hy)
  · rcases List.mem_append.mp h with h | h
    · exact .inl h
    · exact .inr (.inr (List.mem_singleton.mp h))
theorem lookN_mem {xs : List NE} {k : NestedKey} {v : V} (h : lookN xs k = some v) : ∃ a, (k, a, v) ∈ xs := by
  unfold lookN at h
  obtain ⟨x, h1, h2⟩ := Option.map_eq_some_iff.mp h
  have h3 := List.find?_some h1
  have h4 := List.mem_of_find?_eq_some h1
  obtain ⟨k', a, v'⟩ := x
  have e1 : k' = k := of_decide_eq_true h3
  subst e1
  have e2 : v' = v := h2
  subst e2
  exact ⟨a, h4⟩
theorem lookN_put (xs : List NE) (k : NestedKey) (a : Addr) (v : V) : lookN (putN xs k a v) k = some v := by
  unfold putN
  by_cases q : (lookN xs k).isSome = true
  · rw [if_pos q]
    induction xs with
    | nil => simp [lookN] at q
    | cons x xs ih =>
      by_cases e : x.1 = k
      · simp [lookN, List.find?_cons, e]
      · have a1 : lookN (x :: xs) k = lookN xs k := by simp [lookN, List.find?_cons, e]
        rw [a1] at q
        have a2 := ih q
        rw [List.map_cons, if_neg e]
        have a3 : ∀ l : List NE, lookN (x :: l) k = lookN l k := fun l => by simp [lookN, List.find?_cons, e]
        rw [a3]
        exact a2
  · rw [if_neg q]
    induction xs with
    | nil => simp [lookN]
    | cons x xs ih =>
      by_cases e : x.1 = k
      · simp [lookN, List.find?_cons, e] at q
      · have a3 : ∀ l : List NE, lookN (x :: l) k = lookN l k := fun l => by simp [lookN, List.find?_cons, e]
        rw [a3] at q
        rw [List.cons_append, a3]
        exact ih q
section
variable {X : Cx} {pins : List (Addr × Obj)} {σ : L2.St} {H : Hp} {s : Shared}
theorem nk_is (I : Inv X pins σ H s) {k : NestedKey} {b : Addr} (h : NKey X.K H k b) : (nestedKind X.prog X.w).is s.heap k b := by
  obtain ⟨as, r⟩ := Dp.reads I _ _ (.ref b) h.1.dp rfl
  exact ⟨nested_reads k _ as r, h.2⟩
/-- the dict as the library's rules want it -/
theorem nk_dict (I : Inv X pins σ H s) {d : Addr} {xs : List NE} (h : H d = some (nkO X.prog X.w d xs)) (hk : ∀ x ∈ xs, NKey X.K H x.1 x.2.1) : ∃ ys, Paired nkRel xs ys ∧ s.heap.DictOfH (nestedKind X.prog X.w) d ys := by
  obtain ⟨⟨ys, o, es, ep, r, h1, h2, h3, h4, h5⟩, _, _⟩ := I.hok d _ h
  refine ⟨ys, r, o, es, ep, h1, h2, h3, h4, fun y hy => ?_, h5⟩
  have back : ∀ {l : List NE} {m : List (NestedKey × Addr × Value)}, Paired nkRel l m → ∀ y ∈ m, ∃ x ∈ l, x.1 = y.1 ∧ x.2.1 = y.2.1 := by
    intro l m q
    induction q with
    | nil => intro y hy; cases hy
    | cons h t ih =>
      intro y hy
      rcases List.mem_cons.mp hy with rfl | hy
      · exact ⟨_, List.mem_cons_self, h.1, h.2.1⟩
      · obtain ⟨x, hx, q⟩ := ih y hy
        exact ⟨x, List.mem_cons_of_mem _ hx, q⟩
  obtain ⟨x, hx, e1, e2⟩ := back r y hy
  have q := nk_is I (hk x hx)
  rw [e1, e2] at q
  exact q
theorem nk_type (I : Inv X pins σ H s) {d : Addr} {xs : List NE} (h : H d = some (nkO X.prog X.w d xs)) : s.TypeIs (.ref d) "dict" := by
  obtain ⟨⟨ys, o, es, ep, r, h1, h2, h3, h4, h5⟩, _, _⟩ := I.hok d _ h
  exact ⟨o, h1, h2.1⟩
theorem nk_ok {P : Program} {w : World} {H' : Hp} {h' : Heap} {d : Addr} {xs : List NE} {ys : List (NestedKey × Addr × Value)} (r : Paired nkRel xs ys) (dd : h'.DictOfH (nestedKind P w) d ys) : ObjOk P w H' h' d (nkO P w d xs) := by
  obtain ⟨o, es, ep, h1, h2, h3, h4, _, h5⟩ := dd
  exact ⟨⟨ys, o, es, ep, r, h1, h2, h3, h4, h5⟩, ⟨o, h1⟩, fun g1 g2 ⟨ys, o, es, ep, r, h1, h2, h3, h4, h5⟩ k => ⟨ys, o, es, ep, r, k o h1, h2, h3, h4, h5⟩⟩
end
/-- a known dict and a key -/
structure NkAt (K : PySem.W.Frag) (P : Program) (w : World) (H : Hp) (d : Addr) (xs : List NE) : Prop where
  ob : H d = some (nkO P w d xs)
  ns : (d == sysModules) = false
  ks : ∀ x ∈ xs, NKey K H x.1 x.2.1
section
variable {X : Cx} {o i e : Expr} {pos pos' : Pos} {td ty : TE}
def tNkNotIn (X : Cx) (ty td : TE) : TE := fun σ H Q => ty σ H fun y H1 => td σ H1 fun x H2 => ∃ d b k xs, x = .ref d ∧ y = .ref b ∧ NkAt X.K X.prog X.w H2 d xs ∧ NKey X.K H2 k b ∧ Q (.bl (!(lookN xs k).isSome)) H2
theorem pc_nknotin (hu : X.A.units + 10 < cLine) (hi : PE X i ty) (ho : PE X o td) : PC X .NotIn i o (tNkNotIn X ty td) := by
  refine ⟨fun pins s σ H Q I h => ?_⟩
  refine thn (hi.run pins s σ H _ I h) fun iv s1 ⟨y, H1, I1, ry, q1⟩ => thn (ho.run pins s1 σ H1 _ I1 q1) fun u s2 ⟨x, H2, I2, rx, d, b, k, xs, ex, ey, N, hk, q2⟩ => ?_
  subst ex ey
  obtain rfl : u = Value.ref d := rx
  obtain rfl : iv = Value.ref b := ry
  obtain ⟨ys, r, dd⟩ := nk_dict I2 N.ob N.ks
  have e := relO_some (lookN_rel r k)
  rw [Option.isSome_map] at e
  refine notIn_keyed (knd := nestedKind X.prog X.w) (kvs := pairsH ys) (show X.A.units + 1 + 8 < cLine by omega) (nk_is I2 hk) N.ns ⟨ys, dd, rfl⟩ ?_
  rw [valueAt_pairsH, Option.isSome_map, ← e]
  exact ⟨.bl _, H2, I2.tok _, rfl, q2⟩
def rNkGet (X : Cx) : R2 := fun x y H Q => ∃ d b k xs v, x = .ref d ∧ y = .ref b ∧ NkAt X.K X.prog X.w H d xs ∧ NKey X.K H k b ∧ lookN xs k = some v ∧ Q v H
theorem pe_nkget (hu : X.A.units + 10 < cLine) (ho : PE X o td) (hi : PE X i ty) (hs : NoSl i) : PE X (.Subscript o i pos) (tOp (rNkGet X) td ty) := by
  refine ⟨fun pins s σ H Q I h => ?_⟩
  refine subD_of PySem.F.slot_dict_getitem.lookup hs (thn (ho.run pins s σ H _ I h) fun u s1 ⟨x, H1, I1, rx, q1⟩ => thn (hi.run pins s1 σ H1 _ I1 q1) fun iv s2 ⟨y, H2, I2, ry, d, b, k, xs, v, ex, ey, N, hk, l, q2⟩ => ?_)
  subst ex ey
  obtain rfl : u = Value.ref d := rx
  obtain rfl : iv = Value.ref b := ry
  obtain ⟨ys, r, dd⟩ := nk_dict I2 N.ob N.ks
  have rl := lookN_rel r k
  rw [l] at rl
  refine ⟨nk_type I2 N.ob, ?_⟩
  cases ha : atKey ys k with
  | none => rw [ha] at rl; exact rl.elim
  | some p =>
    rw [ha] at rl
    exact wpAny_getItem_heap (show X.A.units + 1 + 8 < cLine by omega) (nk_is I2 hk) dd ha ⟨v, H2, I2.tok _, rl, q2⟩
def rNkSet (X : Cx) : TSet := fun o i v H Q => ∃ d b k xs, o = .ref d ∧ i = .ref b ∧ NkAt X.K X.prog X.w H d xs ∧ NKey X.K H k b ∧ xs.length < sizeLine ∧ Q (upd H d (nkO X.prog X.w d (putN xs k b v)))
theorem set_nk (hu : X.A.units + 10 < cLine) : PSet X (rNkSet X) := by
  intro pins s σ H o i v ov iv u Q I ro ri rv h
  obtain ⟨d, b, k, xs, rfl, rfl, N, hk, hl, q⟩ := h
  obtain rfl : ov = Value.ref d := ro
  obtain rfl : iv = Value.ref b := ri
  obtain ⟨ys, r, dd⟩ := nk_dict I N.ob N.ks
  have hz : ys.length ≤ sizeLine := by rw [← Paired.length r]; omega
  refine wpAny_setItem_heap (hsz := hz) (show X.A.units + 1 + 8 < cLine by omega) (nk_is I hk) dd fun h' dd' hs => ?_
  have he : ∃ q, h'.get? d = some q := let ⟨q, _, _, hq, _⟩ := dd'; ⟨q, hq⟩
  exact ⟨_, d_write I (by rw [N.ob]; exact True.intro) hs he (nk_ok (putN_rel r k b rv) dd'), q⟩
/-- {} whose keys will be nested tuples -/
def tNkNew (X : Cx) : TE := fun _ H Q => ∀ p, H p = none → (p == sysModules) = false → Q (.ref p) (upd H p (nkO X.prog X.w p []))
theorem pe_nknew {pos} : PE X (.Dict [] [] pos) (tNkNew X) := by
  refine ⟨fun pins s σ H Q I h => ?_⟩
  refine wpAny_Dict_empty ?_
  refine ⟨.ref s.heap.objs.size, _, I.laid (a := s.heap.objs.size) (o := nkO X.prog X.w s.heap.objs.size []) (t' := s.toks) (fun _ _ q => Heap.get?_push_of_some _ q) (Nat.le_refl _) (nk_ok .nil (Heap.DictOfH.new s.heap)), rfl, h _ (I.hok.fresh (Nat.le_refl _)) ?_⟩
  exact beq_eq_false_iff_ne.mpr (Ne.symm (Nat.ne_of_lt I.big))
end
end Asf
set_option Elab.async false
set_option linter.all false
set_option maxRecDepth 100000
set_option maxHeartbeats 4000000
namespace PySem
open Sem (wp)
open AutoSeq1 (wpAny_loadPart')
theorem asf_mul_one (l : Addr) (items : Array Value) (n : Nat) (dd : Option Addr) (sl : Array (Option Value)) (u : Tok) :
    Meets (Builtin.«tuple.__mul__» ⟨[.ref l, .int 1 u], []⟩) (fun _ R s => s.heap.get? l = some { cls := .type "tuple", dict := dd, data := .seq items n, slots := sl } ∧ R (.ok (.ret (Value.ref l))) s) :=
  .of_wp fun prog w A R s h => by
    obtain ⟨hp, g, d, tk, os⟩ := s
    obtain ⟨hl, h⟩ := h
    have f1 := AutoSeq1.idx_int
    have c1 : (items.isEmpty || (1 : Int) == 1) = true := by simp
    wp_walk using wpAny_loadPart' hl
    repeat (first
      | (refine wpAny_ite_true (decide_eq_true c1) ?_; wp_walk using wpAny_loadPart' hl)
      | (exact ⟨_, rfl, h⟩))
theorem asf_mul_zero (l : Addr) (items : Array Value) (n : Nat) (dd : Option Addr) (sl : Array (Option Value)) (u : Tok) (hi : items.isEmpty = false) :
    Meets (Builtin.«tuple.__mul__» ⟨[.ref l, .int 0 u], []⟩) (fun _ R s => s.heap.get? l = some { cls := .type "tuple", dict := dd, data := .seq items n, slots := sl } ∧
      R (.ok (.ret (Value.ref s.heap.objs.size))) { s with heap := s.heap.push { cls := Value.type "tuple", data := Data.seq #[] }, toks := s.toks }) :=
  .of_wp fun prog w A R s h => by
    obtain ⟨hp, g, d, tk, os⟩ := s
    obtain ⟨hl, h⟩ := h
    have f1 := AutoSeq1.idx_int
    have c1 : (items.isEmpty || (0 : Int) == 1) = false := by rw [hi]; rfl
    have c2 : (decide ((0 : Int) ≤ 0) || items.isEmpty) = true := by rfl
    wp_walk using wpAny_loadPart' hl
    repeat (first
      | (refine wpAny_ite_false (decide_eq_false (by rw [c1]; exact Bool.false_ne_true)) ?_; wp_walk using wpAny_loadPart' hl)
      | (refine wpAny_ite_true (decide_eq_true c2) ?_; wp_walk using wpAny_loadPart' hl)
      | (exact ⟨_, rfl, h⟩))
theorem asf_extend_tuple (l : Addr) (items : Array Value) (n : Nat) (b : Addr) (items2 : Array Value) (n2 : Nat) (dd : Option Addr) (sl : Array (Option Value)) (h0 : ¬(!items.isEmpty && Builtin.List.listTooLong (items.size + items2.size)) = true) (h1 : items.size ≤ sizeLine) (h2 : items.size + items2.size ≤ sizeLine + 1) :
    Meets (Builtin.«list.extend» ⟨[.ref l, .ref b], []⟩) (fun _ R s => s.heap.get? l = some { cls := .type "list", dict := none, data := .seq items n, slots := #[] } ∧ s.heap.get? b = some { cls := .type "tuple", dict := dd, data := .seq items2 n2, slots := sl } ∧ R (.ok (.ret Value.none)) { s with heap := s.heap.update l (Obj.mapSeq fun x => x ++ items2), toks := s.toks }) :=
  .of_wp fun prog w A R s h => by
    obtain ⟨hp, g, d, tk, os⟩ := s
    obtain ⟨hl, hb, h⟩ := h
    have f1 := AutoSeq1.idx_int
    have f2 := AutoSeq1.sub_tuple_tuple
    have f4 := AutoSeq1.sub_tuple_list
    have hz : (items ++ items2).size ≤ sizeLine + 1 := by rw [Array.size_append]; exact h2
    wp_walk using (wpAny_updateSeq hl rfl (hz := h1) (_hz' := hz)), wpAny_loadPart' hl, wpAny_loadPart' hb
    exact ⟨_, rfl, h⟩
set_option maxHeartbeats 8000000 in
theorem asf_enum_new (t : Addr) (items : Array Value) (n : Nat) (dd : Option Addr) (sl : Array (Option Value)) :
    Meets (Builtin.«enumerate.__new__» ⟨[.type "enumerate", .ref t], []⟩) (fun _ R s => s.heap.get? t = some { cls := .type "tuple", dict := dd, data := .seq items n, slots := sl } ∧
      R (.ok (.ret (.ref (s.heap.push { cls := .type "tuple_iterator", data := .fields #[.ref t, .int 0 0] }).objs.size))) { s with heap := (s.heap.push { cls := .type "tuple_iterator", data := .fields #[.ref t, .int 0 0] }).push { cls := .type "enumerate", data := .fields #[.none, .bool false, .ref s.heap.objs.size, rawInt 0, .none, .none] } }) :=
  .of_wp fun prog w A R s h => by
    obtain ⟨hp, g, d, tk, os⟩ := s
    obtain ⟨hl, h⟩ := h
    have hsub := sub_enumerate
    have hT : Heap.IsTuple (Shared.heap ⟨hp, g, d, tk, os⟩) t items := ⟨_, hl, rfl, n, rfl⟩
    wp_walk using wpAny_loadPart' hl
    refine wpAny_stack_any fun st => wpAny_pure ?_
    split
    · rename_i c _ _ _ _ _
      cases (c == Value.type "enumerate") <;> (wp_walk using wpAny_loadPart' hl, wpAny_pyIter_tuple hT; exact ⟨_, rfl, h⟩)
    · wp_walk using wpAny_loadPart' hl, wpAny_pyIter_tuple hT
      exact ⟨_, rfl, h⟩
end PySem
set_option Elab.async false
set_option linter.all false
set_option maxRecDepth 100000
set_option maxHeartbeats 4000000
namespace PySem
open Sem (wp)
theorem asf_enum_end {prog : Program} {w : World} {A : Around} {E : Value → Shared → Prop} {s : Shared} {e it t : Addr} {i : Nat} {c : Int} {items : Array Value} {old : Value} {Q : Option Value → Shared → Prop} (hh : A.handled = none)
    (he : IsEnum s.heap e it c old) (hit : s.heap.IsTupleIter it t i) (ht : s.heap.IsTuple t items) (hx : items[i]? = none) (hQ : ∀ h', Heap.ExtBut it s.heap h' → Q none { s with heap := h' }) : wpAny (model prog w) A (pyNext (.ref e)) Q E s := by
  have hne : t ≠ it := fun z => by
    obtain ⟨o, q1, q2, _⟩ := id ht
    obtain ⟨o', q3, q4, _⟩ := id hit
    rw [z, q3] at q1
    cases q1
    rw [q4] at q2
    exact absurd (Value.type.inj q2) (by decide)
  have D : Draws prog w A.in1 it [it, t] 0 (fun _ _ => False) (fun _ h => h.IsTupleIter it t i ∧ h.IsTuple t items) :=
    { live := fun _ _ st => let ⟨o, ho, _⟩ := st.1; ⟨o, ho⟩
      frame := fun _ _ _ st hk => ⟨st.1.at fun o q => hk it (by simp) o q, st.2.at fun o q => hk t (by simp) o q⟩
      item := fun i s Q E hi _ _ => absurd hi (Nat.not_lt_zero _)
      done := fun s Q E st hE => wpAny_nextOf_tuple_end (A := A.in1) hh st.1 st.2 hx hE }
  exact wpAny_pyNext_enum_endD D he ⟨hit, ht⟩ hQ
end PySem
namespace Asf
open PySem PySem.Spec PyProof.Rows L2
section
variable {X : Cx}
/-! ### a tuple not at all, once -/
def rRepS (K : PySem.W.Frag) : R2 := fun x y H Q => ∃ l k xs, x = .ref l ∧ y = .int k ∧ SqT K H l xs ∧ xs ≠ [] ∧ ((k = 1 ∧ Q (.ref l) H) ∨ (k = 0 ∧ ∀ p, H p = none → Q (.ref p) (upd H p (.tup []))))
theorem op_repS : OpR X (binaryOp .Mult) (rRepS X.K) := by
  intro pins s σ H x y v u Q I rx ry h
  obtain ⟨l, k, xs, rfl, rfl, hT, hne, h⟩ := h
  cases rx
  obtain ⟨t, rfl⟩ := ry
  obtain ⟨its, r, ⟨⟨cls, dd, data, sl⟩, ho, hc, n, hd⟩, hs⟩ := I.tuple hT
  simp only at hc hd
  subst hc hd
  have hi : its.toArray.isEmpty = false := by
    cases its with
    | nil => exact absurd (List.eq_nil_of_length_eq_zero r.length) hne
    | cons a b => rfl
  refine wpAny_binaryOp_repeat_ref (T := "tuple") (U := "int") (by decide) ⟨_, ho, rfl⟩ (fun s' => typeIs_int s' k t) noFill_tuple_mul F.fills_int_mul F.slot_int_rmul repeat_tuple F.slot_int_index.lookup
    (call_meets F.slot_int_rmul (typeIs_int s k t) F.entry_int_rmul (F.args_int_rmul_2 _ _) (int_rmul_tuple k t l its.toArray n dd sl) ⟨ho, rfl, ⟨_, ho, rfl⟩, ?_⟩)
  rcases h with ⟨rfl, q⟩ | ⟨rfl, q⟩
  · exact call_meets F.slot_tuple_mul ⟨_, ho, rfl⟩ F.entry_tuple_mul (F.args_tuple_mul_2 _ _) (asf_mul_one l its.toArray n dd sl t) ⟨ho, .ref l, H, I, rfl, q⟩
  · refine call_meets F.slot_tuple_mul ⟨_, ho, rfl⟩ F.entry_tuple_mul (F.args_tuple_mul_2 _ _) (asf_mul_zero l its.toArray n dd sl t hi) ⟨ho, ?_⟩
    refine ⟨.ref s.heap.objs.size, _, I.laid (t' := s.toks) (o := .tup []) (fun b ob q => Heap.get?_push_of_some _ q) (Nat.le_refl _) ?_, rfl, q _ (I.hok.fresh (Nat.le_refl _))⟩
    exact ⟨Nat.zero_le _, _, .nil, IsTup.new _ _⟩
/-! ### a list extended by a tuple -/
def rExtT (K : PySem.W.Frag) : V → List V → Hp → VK → Prop := fun x vs H Q => ∃ l b xs zs, x = .ref l ∧ vs = [.ref b] ∧ H l = some (.lst xs) ∧ SqT K H b zs ∧ xs.length + zs.length ≤ sizeLine ∧ Q .non (upd H l (.lst (xs ++ zs)))
theorem mt_extT : MtM X "list.extend" (rExtT X.K) := by
  intro pins s σ H x vs v us Q I rx rv h
  obtain ⟨l, b, xs, zs, rfl, rfl, hH, hB, hz, q⟩ := h
  cases rx
  obtain ⟨u, rfl, ru⟩ := rv.one
  cases ru
  obtain ⟨z, its, n, r, hl, e⟩ := I.lstM hH
  obtain ⟨its2, r2, ⟨⟨cls, dd, data, sl⟩, ho, hc, n2, hd⟩, _⟩ := I.tuple hB
  simp only at hc hd
  subst hc hd
  have hl2 := r2.length
  have hsz : its.toArray.size + its2.toArray.size ≤ sizeLine := by rw [List.size_toArray, List.size_toArray]; omega
  have hlong : ¬ (!its.toArray.isEmpty && Builtin.List.listTooLong (its.toArray.size + its2.toArray.size)) = true := by
    rw [notLongL hsz, Bool.and_false]; exact Bool.false_ne_true
  refine call_meets F.slot_list_extend ⟨_, e, rfl⟩ F.entry_list_extend (F.args_list_extend_2 _ _) (asf_extend_tuple l its.toArray n b its2.toArray n2 dd sl hlong (by rw [List.size_toArray]; omega) (by omega)) ⟨e, ho, ?_⟩
  refine ⟨.non, _, I.lset (its' := its ++ its2) hH e (by simp) (r.append r2) ?_, rfl, q⟩
  rw [List.length_append]; omega
/-! ### enumerate of a tuple -/
def Itet (K : PySem.W.Frag) (a : Addr) : It :=
  ⟨fun i H => ∃ (xs : List V) (x : V), SqT K H a xs ∧ xs[i]? = some x, fun i H v H' => ∃ T x, v = .ref T ∧ H T = none ∧ H' = upd H T (.tup [.int (i : Nat), x]) ∧ ∀ xs, SqT K H a xs → xs[i]? = some x, fun i H => ∃ xs : List V, SqT K H a xs ∧ xs.length ≤ i⟩
theorem turn_enumT {P : Program} {w : World} {K : PySem.W.Frag} {elts : List Expr} {kk : Nat} {tpos : Pos} (a e it : Addr) :
    Turn P w K (.Tuple elts kk tpos) (Itet K a) [e, it] e (fun i h => (∃ old, IsEnum h e it ((i : Nat) : Int) old) ∧ h.IsTupleIter it a i ∧ e ≠ it) where
  mem := by simp
  obj := fun i h ⟨⟨old, he⟩, ⟨o, ho, hc, hd⟩, _⟩ b hb => by
    rcases (show b = e ∨ b = it by simpa using hb) with rfl | rfl
    · exact ⟨_, he, fun v q => nomatch q⟩
    · exact ⟨o, ho, fun v q => by rw [hd] at q; cases q⟩
  keep := fun i h h' ⟨⟨old, he⟩, hi, hne⟩ k => ⟨⟨old, k e (by simp) _ he⟩, hi.at fun o q => k it (by simp) o q, hne⟩
  item := by
    intro X hP hw hK hc i pins s σ H E I hf st hg
    subst hP hw hK
    obtain ⟨⟨old, he⟩, hit, hne⟩ := st
    obtain ⟨xs, x, hq, hx⟩ := hg
    obtain ⟨its, rv, p, hz⟩ := I.tuple hq
    have hlt : i < its.toArray.size := by
      rw [List.size_toArray, ← rv.length]
      exact (List.getElem?_eq_some_iff.mp hx).1
    have hel : e < s.heap.objs.size := Heap.lt_size he
    have hil : it < s.heap.objs.size := by obtain ⟨_, q, _⟩ := hit; exact Heap.lt_size q
    have pt : s.heap.IsTuple a its.toArray := p
    have hae : e ≠ a := fun z => by
      obtain ⟨o, q1, q2, _⟩ := id pt
      rw [← z] at q1
      rw [he] at q1
      cases q1
      exact absurd (Value.type.inj q2) (by decide)
    have hai : a ≠ it := fun z => by
      obtain ⟨o, q1, q2, _⟩ := id pt
      obtain ⟨o', q3, q4, _⟩ := id hit
      rw [z, q3] at q1
      cases q1
      rw [q4] at q2
      exact absurd (Value.type.inj q2) (by decide)
    refine wpAny_pyNext_enum_itemD (Draws.tuple (A := X.A.in1) (I.ok.hd hc) it a hai its.toArray) he ⟨hit, pt⟩ hlt hne (by simp [hne, hae]) fun u h' tk hu ho hit' hT hsz hk => ?_
    obtain ⟨y, hy, ru⟩ := paired_r (R := RelV) rv (show its[i]? = some u by simpa using hu)
    have exy : y = x := Option.some.inj (hy.symm.trans hx)
    subst exy
    refine ⟨_, rfl, wpAny_letOwnedTupleGo_enum (s := { s with heap := h', toks := tk + 1 }) ho fun h'' he' sb => ?_⟩
    have hT2 : h''.get? s.heap.objs.size = some { cls := .type "tuple", data := .seq #[.int i tk, u] } := (sb.2 _ (Nat.ne_of_gt hel)).trans hT
    have new : ObjOk X.prog X.w (upd H s.heap.objs.size (.tup [.int (i : Nat), y])) h'' s.heap.objs.size (.tup [.int (i : Nat), y]) :=
      ⟨by show 2 ≤ sizeLine; decide, [.int i tk, u], .cons ⟨_, rfl⟩ (.cons ru .nil), ⟨_, hT2, rfl, _, rfl⟩⟩
    have I1 : Inv X pins σ (upd H s.heap.objs.size (.tup [.int (i : Nat), y])) { s with heap := h'', toks := tk + 1 } :=
      I.turnedNew (ch := [e, it]) (fun b ob hb q => (sb.2 b (fun z => hb (by simp [z]))).trans (hk b ob (fun z => hb (by simp [z])) (fun z => hb (by simp [z])) q)) hf (Nat.le_refl _) new
    refine ⟨.ref s.heap.objs.size, _, I1, rfl, ⟨_, y, rfl, I.hok.fresh (Nat.le_refl _), rfl, fun ys hy' => by rw [I.tuple_inj hy' hq]; exact hx⟩, ⟨⟨u, ?_⟩, hit'.1.at fun o q => (sb.2 it (Ne.symm hne)).trans q, hne⟩, fun b hb => ?_⟩
    · rw [show ((i + 1 : Nat) : Int) = (i : Int) + 1 by omega]; exact he'
    · have hb' : b < s.heap.objs.size := by
        rcases (show b = e ∨ b = it by simpa using hb) with z | z
        · rw [z]; exact hel
        · rw [z]; exact hil
      rw [upd_ne (Nat.ne_of_lt hb')]
      exact (hf b hb).1
  done := by
    intro X hP hw hK hc i pins s σ H E I hf st hg
    subst hP hw hK
    obtain ⟨⟨old, he⟩, hit, hne⟩ := st
    obtain ⟨xs, hq, hx⟩ := hg
    obtain ⟨its, rv, p, hz⟩ := I.tuple hq
    obtain ⟨f0, f1, f2, f3, f4, f5⟩ := hf it (by simp)
    have pt : s.heap.IsTuple a its.toArray := p
    have hl := rv.length
    refine asf_enum_end (I.ok.hd hc) he hit pt (by simp; omega) fun h' eb => ⟨rfl, I.turned (t' := s.toks) (fun b o hb q => eb b o hb q) f0 f1 f3 f4 f5⟩
  self := fun A i s Q E ⟨⟨_, he⟩, _⟩ h => wpAny_pyIter_enum he h
end
end Asf
set_option Elab.async false
set_option linter.all false
set_option maxRecDepth 100000
set_option maxHeartbeats 4000000
namespace Asf
open PySem PySem.Spec PyProof.Rows L2
def iEnumT (K : PySem.W.Frag) (ta : TA) : TI := fun σ H R => ta σ H fun vs H1 => ∃ a xs, vs = [.ref a] ∧ SqT K H1 a xs ∧ R (Itet K a) H1
theorem pi_enumT {X : Cx} {e : Expr} {ta : TA} {p pos tpos : Pos} {elts : List Expr} {kk : Nat} (hg : Gl X "enumerate") (hm : X.mg "enumerate" = none) (ha : PA X [e] ta) (hs : starEach [e] X.env = [(false, eval e X.env)] := by rfl) :
    PI X (.Tuple elts kk tpos) (.Call (.Name "enumerate" p) [e] [] pos) (iEnumT X.K ta) := by
  refine ⟨fun pins s σ H R I h => ?_⟩
  refine Call_ (ld_blt I hg hm boot_enumerate (PyProof.Rows.callWith_type1 (thn (ha.run pos pins s σ H _ I h) fun us s1 ⟨vs, H1, I1, r1, q1⟩ => ?_) hs rfl))
  obtain ⟨a, xs, rfl, hq, q⟩ := q1
  rw [Vals.ref1 r1]
  obtain ⟨its, rv, ⟨⟨cls, dd, data, sl⟩, ho, hc, n, hd⟩, hz⟩ := I1.tuple hq
  simp only at hc hd
  subst hc hd
  refine callType_new F.called_enumerate (by decide) (F.typeCall_enumerate_1 _) (F.newCall_enumerate_1 _) (fun obj => F.args_object_init_2 obj _) F.entry_enumerate_new (asf_enum_new a its.toArray n dd sl) ⟨ho, ?_⟩
  have hz1 : (s1.heap.push { cls := .type "tuple_iterator", data := .fields #[.ref a, .int 0 0] }).objs.size = s1.heap.objs.size + 1 := Heap.size_push ..
  show _ ∧ _
  rw [hz1]
  have he : IsEnum ((s1.heap.push { cls := .type "tuple_iterator", data := .fields #[.ref a, .int 0 0] }).push { cls := .type "enumerate", data := .fields #[.none, .bool false, .ref s1.heap.objs.size, rawInt 0, .none, .none] }) (s1.heap.objs.size + 1) s1.heap.objs.size 0 .none := by
    have q2 := Heap.get?_push_size (s1.heap.push { cls := .type "tuple_iterator", data := .fields #[.ref a, .int 0 0] }) (o := { cls := .type "enumerate", data := .fields #[.none, .bool false, .ref s1.heap.objs.size, rawInt 0, .none, .none] }) rfl
    rw [hz1] at q2
    exact q2
  have hit : Heap.IsTupleIter ((s1.heap.push { cls := .type "tuple_iterator", data := .fields #[.ref a, .int 0 0] }).push { cls := .type "enumerate", data := .fields #[.none, .bool false, .ref s1.heap.objs.size, rawInt 0, .none, .none] }) s1.heap.objs.size a 0 :=
    ⟨_, Heap.get?_push_of_some _ (Heap.get?_push_size _ rfl), rfl, rfl⟩
  refine ⟨⟨_, he, rfl⟩, wpAny_pyIter_enum he ?_⟩
  refine ⟨s1.heap.objs.size + 1, [s1.heap.objs.size + 1, s1.heap.objs.size], _, _, H1, rfl, I1.kept (t' := s1.toks) fun b o x => Heap.get?_push_of_some _ (Heap.get?_push_of_some _ x), turn_enumT a (s1.heap.objs.size + 1) s1.heap.objs.size, ⟨⟨.none, he⟩, hit, Nat.succ_ne_self _⟩, fun b hb => ?_, q⟩
  have hle : s1.heap.objs.size ≤ b := by
    rcases (show b = s1.heap.objs.size + 1 ∨ b = s1.heap.objs.size by simpa using hb) with z | z
    · rw [z]; exact Nat.le_add_right _ _
    · rw [z]; exact Nat.le_refl _
  exact I1.fpOk hle (I1.hok.fresh hle)
section
variable {K : PySem.W.Frag} {a : Addr} {xs : List V} {g : TG} {σ : L2.St} {H : Hp}
/-- over enumerate of a tuple that the body leaves as it is -/
theorem for_enumT {tb : TS} {D : Ends} (Pv : Nat → L2.St → Hp → Prop) (h0 : Pv 0 σ H) (hl : ∀ i σ H, i ≤ xs.length → Pv i σ H → SqT K H a xs)
    (hs : ∀ i x σ H T, xs[i]? = some x → Pv i σ H → H T = none → g (.ref T) σ (upd H T (.tup [.int (i : Nat), x])) fun σ2 H2 => tb { D with nx := Pv (i + 1), ct := Pv (i + 1), bk := D.nx } σ2 H2) (hd : ∀ σ H, Pv xs.length σ H → D.nx σ H) :
    ∃ W : Nat → Nat → L2.St → Hp → Prop, (∃ m, W 0 m σ H) ∧ ∀ i m σ H, W i m σ H →
      ((Itet K a).stop i H ∧ D.nx σ H) ∨ ((Itet K a).go i H ∧ ∃ N : L2.St → Hp → Prop, (∀ σ' H', N σ' H' → ∃ m', m' < m ∧ W (i + 1) m' σ' H') ∧ ∀ x H', (Itet K a).yld i H x H' → g x σ H' fun σ2 H2 => tb { D with nx := N, ct := N, bk := D.nx } σ2 H2) := by
  refine ⟨fun i m σ H => m = xs.length - i ∧ i ≤ xs.length ∧ Pv i σ H, ⟨xs.length, by simp, Nat.zero_le _, h0⟩, ?_⟩
  rintro i m σ H ⟨rfl, hi, p⟩
  have q := hl i σ H hi p
  rcases Nat.lt_or_ge i xs.length with hlt | hge
  · refine .inr ⟨⟨xs, xs[i], q, by simp [hlt]⟩, Pv (i + 1), fun σ' H' p' => ⟨xs.length - (i + 1), by omega, rfl, hlt, p'⟩, ?_⟩
    rintro _ _ ⟨T, x, rfl, hT, rfl, hx⟩
    exact hs i x σ H T (hx xs q) p hT
  · obtain rfl : i = xs.length := by omega
    exact .inl ⟨⟨xs, q, Nat.le_refl _⟩, hd σ H p⟩
theorem lc_enumT {tt : TT} {te : TE} {vs : List Nat} {D : Addr} {Qd : Hp → Prop} (Pv : Nat → Hp → Prop) (h0 : Pv 0 (upd H D (.lst []))) (hl : ∀ i H, i ≤ xs.length → Pv i H → SqT K H a xs)
    (hs : ∀ i x H T, xs[i]? = some x → Pv i H → H T = none → g (.ref T) (wipe σ vs) (upd H T (.tup [.int (i : Nat), x])) fun σ2 H2 => wipe σ2 vs = wipe σ vs ∧ tt σ2 H2 fun b H3 =>
      if b = true then te σ2 H3 fun y H4 => ∃ acc, H4 D = some (.lst acc) ∧ acc.length < sizeLine ∧ Pv (i + 1) (upd H4 D (.lst (acc ++ [y]))) else Pv (i + 1) H3) (hd : ∀ H, Pv xs.length H → Qd H) :
    ∃ W : Nat → Nat → Hp → Prop, (∃ m, W 0 m (upd H D (.lst []))) ∧ ∀ i m H, W i m H →
      ((Itet K a).stop i H ∧ Qd H) ∨ ((Itet K a).go i H ∧ ∃ Nx : Hp → Prop, (∀ H', Nx H' → ∃ m', m' < m ∧ W (i + 1) m' H') ∧ ∀ x H', (Itet K a).yld i H x H' → g x (wipe σ vs) H' fun σ2 H2 => wipe σ2 vs = wipe σ vs ∧ tt σ2 H2 fun b H3 =>
        if b = true then te σ2 H3 fun y H4 => ∃ acc, H4 D = some (.lst acc) ∧ acc.length < sizeLine ∧ Nx (upd H4 D (.lst (acc ++ [y]))) else Nx H3) := by
  refine ⟨fun i m H => m = xs.length - i ∧ i ≤ xs.length ∧ Pv i H, ⟨xs.length, by simp, Nat.zero_le _, h0⟩, ?_⟩
  rintro i m H ⟨rfl, hi, p⟩
  have q := hl i H hi p
  rcases Nat.lt_or_ge i xs.length with hlt | hge
  · refine .inr ⟨⟨xs, xs[i], q, by simp [hlt]⟩, Pv (i + 1), fun H' p' => ⟨xs.length - (i + 1), by omega, rfl, hlt, p'⟩, ?_⟩
    rintro _ _ ⟨T, x, rfl, hT, rfl, hx⟩
    exact hs i x H T (hx xs q) p hT
  · obtain rfl : i = xs.length := by omega
    exact .inl ⟨⟨xs, q, Nat.le_refl _⟩, hd H p⟩
end
/-! ### repr of data -/
def rRepr (K : PySem.W.Frag) : List V → Hp → VK → Prop := fun vs H Q => ∃ (a : Addr) (d : PyData), vs = [V.ref a] ∧ DD K H (.ref a) d ∧ d.showable = true ∧ d.hasDict = false ∧ d.depth ≤ 60 ∧ d.shown.length ≤ sizeLine ∧ Q (.str d.shown) H
theorem cr_repr {X : Cx} (hg : X.A.guards = some []) (hu : X.A.units + 64 < cLine) : CallR X (.builtin "repr") (rRepr X.K) := by
  intro pins s σ H vs us Q I r h
  obtain ⟨a, d, rfl, hd, h1, h2, h3, h4, q⟩ := h
  rw [Vals.ref1 r]
  obtain ⟨as, rd⟩ := Dp.reads I d (.ref a) (.ref a) hd.dp rfl
  exact repr_of_reads' rd h1 (fun z => by rw [h2] at z; cases z) hg (by omega) (fun _ _ e => e) (fun h' u tk k => ⟨.str d.shown, H, I.kept k, ⟨_, rfl⟩, q⟩) h4
/-! ### defs whose callers say that no repr is under way -/
structure FnG (P : Program) (w : World) (K : PySem.W.Frag) (mg : Str → Option Value) (base : Heap) (k : Nat) (f : Addr) (fd : FuncData) (ps : List Str) (sp : Sp) : Prop where
  len : ∀ vs H Q E, sp vs H Q E → vs.length = ps.length
  run : ∀ (A : Around) (outer : List Env) (s : Shared) (H : Hp) (args : Args) (us : List Value) (vs : List V) (Q : VK) (E : XK), Room k A → A.guards = some [] → Env0 P w K mg base A outer s H → BindsTo s fd args (ps.zip us) → Vals vs us → sp vs H Q E →
    codeAny (model P w) A (.call (.ref f) args) (CR CX0 outer P w H s Q E) s
theorem fn_ofG {P : Program} {w : World} {K : PySem.W.Frag} {mg : Str → Option Value} {base : Heap} {k : Nat} {f : Addr} {name qual : Str} {params : Arguments} {body : List Stmt} {scope : Scope} {dV kV doc pm cdv ct oc : Value} {an od : Option Addr}
    {osl : Array (Option Value)} {N ps : List Str} {sp : Sp} (lk : K.lookup f = some ⟨oc, od, .func (PySem.W.fnOf name qual params body scope dV kV doc pm an cdv ct), osl⟩) (hcd : PySem.W.codeIn K cdv qual = true) (S : FnScope N ps scope)
    (len : ∀ vs H Q E, sp vs H Q E → vs.length = ps.length)
    (hbody : ∀ (A : Around) (outer : List Env) (s : Shared) (H : Hp) (vs : List V) (Q : VK) (E : XK), Room k (A.deeper (envOfC qual scope s.heap.objs.size f cdv)) → A.guards = some [] → sp vs H Q E →
      ∃ t, PSs (cxOf CX0 P w K mg base N qual scope f cdv A outer s H E) body t ∧ t { nx := fun _ H' => Q .non H', rt := Q } (start N vs) H) :
    FnG P w K mg base (k + 1) f (PySem.W.fnOf name qual params body scope dV kV doc pm an cdv ct) ps sp := by
  refine ⟨len, fun A outer s H args us vs Q E hr hgu e0 hb r hsp => ?_⟩
  -- over this A alone: the library's rule, its promise told of A
  have all : FnOk P w K mg base CX0 (k + 1) f (PySem.W.fnOf name qual params body scope dV kV doc pm an cdv ct) ps sp ∨ True := .inr trivial
  have KX : K.In s.heap := e0.mod.kin.keeps fun b o e => (e0.bs b o e).1
  refine codeAny_call_function hr.depth (KX _ _ lk) rfl S.co S.gen rfl (PySem.W.codeRec_of KX hcd) (hb _ _ _ _ ?_)
  refine wpAny_newFunctionEnv_cells S.kind (fun y hy => ?_) fun env he s1 x => ?_
  · obtain ⟨n, v⟩ := y
    exact (S.par n (List.of_mem_zip hy).1).imp id fun q => ⟨q, PySem.W.cellsFrom_some _ _ _ (.inl q)⟩
  subst he
  obtain ⟨t, ht, hq⟩ := hbody A outer s H vs Q E (hr.deeper _) hgu hsp
  refine ⟨(e0.mod.nolimit.keeps fun b o e => (e0.bs b o e).1).keeps x.toInCall.keep, codeAny_func ?_⟩
  refine wpAny_mono (ht.run [] s1 (start N vs) H _ (inv_start S hr.hd e0 (len _ _ _ _ hsp) r x) hq) (fun fl s' hs => ?_) fun e s' hs => hs
  have out : ∀ {σ' : L2.St} {H' : Hp} {v : V} {u : Value}, Inv (cxOf CX0 P w K mg base N qual scope f cdv A outer s H E) [] σ' H' s' → RelV v u → Q v H' → CE outer P w H s Q u s' :=
    fun {σ' H' v u} J rv q => ⟨v, H', J.os, J.bare, J.base, J.hok, rv, q⟩
  match fl, hs with
  | .ret u, ⟨v, σ', H', J, rv, q⟩ => exact out J rv q
  | .next, ⟨σ', H', J, q⟩ => exact out (v := V.non) (u := Value.none) J rfl q
  | .brk, ⟨_, _, _, q⟩ => exact q.elim
  | .cont, ⟨_, _, _, q⟩ => exact q.elim
theorem FnOk.g {P : Program} {w : World} {K : PySem.W.Frag} {mg : Str → Option Value} {base : Heap} {k : Nat} {f : Addr} {fd : FuncData} {ps : List Str} {sp : Sp} (F : FnOk P w K mg base CX0 k f fd ps sp) : FnG P w K mg base k f fd ps sp :=
  ⟨F.len, fun A outer s H args us vs Q E hr _ he hb hv hs => F.run A outer s H args us vs Q E hr he hb hv hs⟩
section
variable {X : Cx} {k : Nat} {f : Addr} {fd : FuncData} {ps : List Str} {sp : Sp} {E : XK} {x : Str} {p pos : Pos} {e : Expr} {es : List Expr} {t : TA}
theorem pe_callG (F : FnG X.prog X.w X.K X.mg X.base k f fd ps sp) (hr : Room k X.A) (hgu : X.A.guards = some []) (hg : Gl X x) (hm : X.mg x = some (.ref f)) (hk : PySem.W.keepIn X.K (.ref f) = true) (hb : Binds X.K fd ps [])
    (ha : PA X (e :: es) t) (hdb : (x == ("__debug__" : Str)) = false := by decide) (he : starEach (e :: es) X.env = (false, eval e X.env) :: starEach es X.env := by rfl) (hpl : (backTo pos (starEach es X.env)).any (·.1) = false := by rfl) :
    PE X (.Call (.Name x p) (e :: es) [] pos) (tCall sp [] E0 t) := by
  refine ⟨fun pins s σ H Q I h => ?_⟩
  refine wpAny_Call_Name_kw (ld_glob I hg hm ?_ hdb)
  refine PySem.W.callWith_K (h₀ := X.base) I.ok.mod.kin hk (thn (ha.run pos pins s σ H _ I h) fun us s1 ⟨vs, H1, I1, r, q⟩ => ⟨I1.kIn, ?_⟩) he hpl
  have r2 : Vals (vs ++ []) (us ++ []) := r.append .nil
  have hl : (us ++ []).length = ps.length := by rw [← r2.length]; exact F.len _ _ _ _ q
  refine wpAny_call (codeAny_mono (F.run X.A X.stack s1 H1 ⟨us, []⟩ (us ++ []) (vs ++ []) Q E0 hr hgu I1.env0 (hb s1 us I1.kIn hl) r2 q) fun r s' hq => ?_)
  match r, hq with
  | .ok (.ret u), hq => exact I1.after hq
end
end Asf
namespace Asf
/-! ### the places of a plan's nodes -/
def kidsT : T → List T
  | .job .. => []
  | .scope _ ps => ps
  | .pool _ ps => ps
  | .seq ps => ps
  | .timeout _ p => [p]
  | .orelse p q => [p, q]
  | .retry _ _ p => [p]
mutual
def size : T → Nat
  | .job .. => 1
  | .scope _ ps => sizeL ps + 1
  | .pool _ ps => sizeL ps + 1
  | .seq ps => sizeL ps + 1
  | .timeout _ p => size p + 1
  | .orelse p q => size p + size q + 1
  | .retry _ _ p => size p + 1
def sizeL : List T → Nat
  | [] => 0
  | p :: ps => size p + sizeL ps
end
mutual
/-- all trees within, each behind its parts -/
def subs : T → List T
  | .job d g v cl f => [.job d g v cl f]
  | .scope k ps => subsL ps ++ [.scope k ps]
  | .pool n ps => subsL ps ++ [.pool n ps]
  | .seq ps => subsL ps ++ [.seq ps]
  | .timeout k p => subs p ++ [.timeout k p]
  | .orelse p q => subs p ++ subs q ++ [.orelse p q]
  | .retry n d p => subs p ++ [.retry n d p]
def subsL : List T → List T
  | [] => []
  | p :: ps => subs p ++ subsL ps
end
mutual
def depth : T → Nat
  | .job .. => 1
  | .scope _ ps => depthL ps + 1
  | .pool _ ps => depthL ps + 1
  | .seq ps => depthL ps + 1
  | .timeout _ p => depth p + 1
  | .orelse p q => max (depth p) (depth q) + 1
  | .retry _ _ p => depth p + 1
def depthL : List T → Nat
  | [] => 0
  | p :: ps => max (depth p) (depthL ps)
end
/-- the places of the trees' last nodes, from o on -/
def idxL : List T → Nat → List Nat
  | [], _ => []
  | p :: ps, o => (o + size p - 1) :: idxL ps (o + size p)
theorem size_eq (t : T) : size t = sizeL (kidsT t) + 1 := by
  cases t <;> simp [size, sizeL, kidsT] <;> omega
theorem subs_eq (t : T) : subs t = subsL (kidsT t) ++ [t] := by
  cases t <;> simp [subs, subsL, kidsT]
theorem depth_eq (t : T) : depth t = depthL (kidsT t) + 1 := by
  cases t <;> simp [depth, depthL, kidsT]
theorem size_pos (t : T) : 1 ≤ size t := by
  rw [size_eq]
  omega
theorem depth_pos (t : T) : 1 ≤ depth t := by
  rw [depth_eq]
  omega
mutual
theorem subs_len : ∀ t : T, (subs t).length = size t
  | .job .. => rfl
  | .scope k ps => by simp [subs, size, subsL_len ps]
  | .pool n ps => by simp [subs, size, subsL_len ps]
  | .seq ps => by simp [subs, size, subsL_len ps]
  | .timeout k p => by simp [subs, size, subs_len p]
  | .orelse p q => by simp [subs, size, subs_len p, subs_len q] <;> omega
  | .retry n d p => by simp [subs, size, subs_len p]
theorem subsL_len : ∀ ts : List T, (subsL ts).length = sizeL ts
  | [] => rfl
  | p :: ps => by simp [subsL, sizeL, subs_len p, subsL_len ps]
end
theorem subs_last (t : T) : (subs t)[size t - 1]? = some t := by
  have h := subs_len t
  rw [subs_eq] at h ⊢
  rw [List.length_append, List.length_singleton] at h
  rw [List.getElem?_append_right (by omega)]
  rw [show size t - 1 - (subsL (kidsT t)).length = 0 by omega]
  rfl
theorem subsL_append : ∀ as bs : List T, subsL (as ++ bs) = subsL as ++ subsL bs
  | [], _ => rfl
  | a :: as, bs => by simp [subsL, subsL_append as bs, List.append_assoc]
theorem sizeL_append : ∀ as bs : List T, sizeL (as ++ bs) = sizeL as + sizeL bs
  | [], _ => by simp [sizeL]
  | a :: as, bs => by simp [sizeL, sizeL_append as bs, Nat.add_assoc]
theorem idxL_append : ∀ (as bs : List T) (o : Nat), idxL (as ++ bs) o = idxL as o ++ idxL bs (o + sizeL as)
  | [], _, o => by simp [idxL, sizeL]
  | a :: as, bs, o => by simp [idxL, sizeL, idxL_append as bs, Nat.add_assoc]
theorem idxL_length : ∀ (as : List T) (o : Nat), (idxL as o).length = as.length
  | [], _ => rfl
  | a :: as, o => by simp [idxL, idxL_length as]
theorem idxL_lt : ∀ (as : List T) (o : Nat), ∀ j ∈ idxL as o, o ≤ j ∧ j < o + sizeL as
  | [], _, j, h => by cases h
  | a :: as, o, j, h => by
    have hp := size_pos a
    rcases List.mem_cons.mp h with rfl | h
    · simp only [sizeL]
      omega
    · have := idxL_lt as _ j h
      simp only [sizeL]
      omega
/-- a node at i spans the places from i + 1 - its size on -/
def Spans (all : List T) : Prop := ∀ (i : Nat) (t : T), all[i]? = some t → size t ≤ i + 1 ∧ (all.drop (i + 1 - size t)).take (size t) = subs t
theorem spans_append {as bs : List T} (h1 : Spans as) (h2 : Spans bs) : Spans (as ++ bs) := by
  intro i t h
  by_cases hi : i < as.length
  · rw [List.getElem?_append_left hi] at h
    obtain ⟨q1, q2⟩ := h1 i t h
    refine ⟨q1, ?_⟩
    rw [List.drop_append_of_le_length (by omega), List.take_append_of_le_length (by rw [List.length_drop]; omega)]
    exact q2
  · rw [List.getElem?_append_right (by omega)] at h
    obtain ⟨q1, q2⟩ := h2 _ t h
    refine ⟨by omega, ?_⟩
    rw [List.drop_append, List.drop_eq_nil_of_le (by omega), List.nil_append, show i + 1 - size t - as.length = i - as.length + 1 - size t by omega]
    exact q2
theorem spans_snoc {as : List T} {t : T} (h : Spans as) (e : subs t = as ++ [t]) : Spans (as ++ [t]) := by
  intro i u hu
  by_cases hi : i < as.length
  · rw [List.getElem?_append_left hi] at hu
    obtain ⟨q1, q2⟩ := h i u hu
    refine ⟨q1, ?_⟩
    rw [List.drop_append_of_le_length (by omega), List.take_append_of_le_length (by rw [List.length_drop]; omega)]
    exact q2
  · rw [List.getElem?_append_right (by omega)] at hu
    have hi0 : i - as.length = 0 := by
      apply Classical.byContradiction
      intro q
      rw [List.getElem?_eq_none (by simp; omega)] at hu
      cases hu
    rw [hi0] at hu
    have eu : t = u := Option.some.inj hu
    subst eu
    have hl : size t = as.length + 1 := by rw [← subs_len, e]; simp
    refine ⟨by omega, ?_⟩
    rw [show i + 1 - size t = 0 by omega, List.drop_zero, e, List.take_of_length_le (by simp; omega)]
mutual
theorem subs_spans : ∀ t : T, Spans (subs t)
  | .job d g v cl f => spans_snoc (as := []) (fun i t h => by simp at h) rfl
  | .scope k ps => spans_snoc (subsL_spans ps) rfl
  | .pool n ps => spans_snoc (subsL_spans ps) rfl
  | .seq ps => spans_snoc (subsL_spans ps) rfl
  | .timeout k p => spans_snoc (subs_spans p) rfl
  | .orelse p q => spans_snoc (spans_append (subs_spans p) (subs_spans q)) rfl
  | .retry n d p => spans_snoc (subs_spans p) rfl
theorem subsL_spans : ∀ ts : List T, Spans (subsL ts)
  | [] => fun i t h => by simp [subsL] at h
  | p :: ps => spans_append (subs_spans p) (subsL_spans ps)
end
/-- the first place of the node at i -/
def lo (i : Nat) (t : T) : Nat := i + 1 - size t
/-- the places of a node's parts -/
def kidIdx (i : Nat) (t : T) : List Nat := idxL (kidsT t) (lo i t)
theorem subsL_get : ∀ (ts : List T) (o k : Nat) (p : T), ts[k]? = some p → ∃ j, (idxL ts o)[k]? = some (o + j) ∧ (subsL ts)[j]? = some p
  | [], o, k, p, h => by simp at h
  | t :: ts, o, 0, p, h => by
    have e : t = p := Option.some.inj h
    subst e
    have hp := size_pos t
    refine ⟨size t - 1, ?_, ?_⟩
    · simp only [idxL, List.getElem?_cons_zero, Option.some.injEq]
      omega
    · simp only [subsL]
      rw [List.getElem?_append_left (by rw [subs_len]; omega)]
      exact subs_last t
  | t :: ts, o, k + 1, p, h => by
    obtain ⟨j, h1, h2⟩ := subsL_get ts (o + size t) k p (by simpa using h)
    refine ⟨size t + j, ?_, ?_⟩
    · simp only [idxL, List.getElem?_cons_succ]
      rw [h1, Nat.add_assoc]
    · simp only [subsL]
      rw [List.getElem?_append_right (by rw [subs_len]; omega), subs_len, show size t + j - size t = j by omega]
      exact h2
theorem kid_at {all : List T} (S : Spans all) {i : Nat} {t : T} (h : all[i]? = some t) {k : Nat} {p : T} (hk : (kidsT t)[k]? = some p) : ∃ j, (kidIdx i t)[k]? = some j ∧ all[j]? = some p ∧ j < i := by
  obtain ⟨q1, q2⟩ := S i t h
  obtain ⟨j, h1, h2⟩ := subsL_get (kidsT t) (lo i t) k p hk
  have hjl : j < sizeL (kidsT t) := by
    have := (List.getElem?_eq_some_iff.mp h2).1
    rw [subsL_len] at this
    exact this
  have hsz := size_eq t
  refine ⟨lo i t + j, h1, ?_, by unfold lo; omega⟩
  have h3 : (subs t)[j]? = some p := by
    rw [subs_eq, List.getElem?_append_left (by rw [subsL_len]; exact hjl)]
    exact h2
  rw [← q2, List.getElem?_take_of_lt (by omega), List.getElem?_drop] at h3
  exact h3
theorem kidIdx_length (i : Nat) (t : T) : (kidIdx i t).length = (kidsT t).length := idxL_length _ _
theorem depthL_le : ∀ (ts : List T) (p : T), p ∈ ts → depth p ≤ depthL ts
  | [], p, h => by cases h
  | t :: ts, p, h => by
    simp only [depthL]
    rcases List.mem_cons.mp h with rfl | h
    · omega
    · have := depthL_le ts p h
      omega
theorem kid_depth {t p : T} (h : p ∈ kidsT t) : depth p + 1 ≤ depth t := by
  rw [depth_eq t]
  have := depthL_le _ _ h
  omega
theorem WFL_mem : ∀ (ts : List T), WFL ts → ∀ p ∈ ts, WF p
  | [], _, p, h => by cases h
  | t :: ts, w, p, h => by
    rcases List.mem_cons.mp h with rfl | h
    · exact w.1
    · exact WFL_mem ts w.2 p h
theorem kid_wf {t p : T} (w : WF t) (h : p ∈ kidsT t) : WF p := by
  cases t with
  | job => cases h
  | scope k ps => exact WFL_mem ps w.2.2 p h
  | pool n ps => exact WFL_mem ps w.2.2.2 p h
  | seq ps => exact WFL_mem ps w.2.2 p h
  | timeout k q =>
    rw [List.mem_singleton.mp h]
    exact w.2
  | orelse q r =>
    rcases List.mem_cons.mp h with rfl | h
    · exact w.1
    · rw [List.mem_singleton.mp h]
      exact w.2
  | retry n d q =>
    rw [List.mem_singleton.mp h]
    exact w.2.2
mutual
theorem subs_wf : ∀ t : T, WF t → ∀ u ∈ subs t, WF u
  | .job d g v cl f, w, u, h => by
    rw [List.mem_singleton.mp h]
    exact w
  | .scope k ps, w, u, h => by
    rcases List.mem_append.mp h with h | h
    · exact subsL_wf ps w.2.2 u h
    · rw [List.mem_singleton.mp h]; exact w
  | .pool n ps, w, u, h => by
    rcases List.mem_append.mp h with h | h
    · exact subsL_wf ps w.2.2.2 u h
    · rw [List.mem_singleton.mp h]; exact w
  | .seq ps, w, u, h => by
    rcases List.mem_append.mp h with h | h
    · exact subsL_wf ps w.2.2 u h
    · rw [List.mem_singleton.mp h]; exact w
  | .timeout k p, w, u, h => by
    rcases List.mem_append.mp h with h | h
    · exact subs_wf p w.2 u h
    · rw [List.mem_singleton.mp h]; exact w
  | .orelse p q, w, u, h => by
    rcases List.mem_append.mp h with h | h
    · rcases List.mem_append.mp h with h | h
      · exact subs_wf p w.1 u h
      · exact subs_wf q w.2 u h
    · rw [List.mem_singleton.mp h]; exact w
  | .retry n d p, w, u, h => by
    rcases List.mem_append.mp h with h | h
    · exact subs_wf p w.2.2 u h
    · rw [List.mem_singleton.mp h]; exact w
theorem subsL_wf : ∀ ts : List T, WFL ts → ∀ u ∈ subsL ts, WF u
  | [], _, u, h => by cases h
  | p :: ps, w, u, h => by
    rcases List.mem_append.mp h with h | h
    · exact subs_wf p w.1 u h
    · exact subsL_wf ps w.2 u h
end
theorem denL_eq : ∀ ts : List T, denL ts = ts.map den
  | [] => rfl
  | t :: ts => by rw [denL, denL_eq ts]; rfl
/-! ### how many courses at most -/
mutual
def cost : T → Nat
  | .job .. => 1
  | .scope _ ps => 2 * costL ps + 1
  | .pool _ ps => 2 * costL ps + 1
  | .seq ps => costL ps + 1
  | .timeout _ p => cost p + 1
  | .orelse p q => cost p + cost q + 1
  | .retry n _ p => (n + 1) * cost p + 1
def costL : List T → Nat
  | [] => 0
  | p :: ps => cost p + costL ps
end
theorem costL_append : ∀ as bs : List T, costL (as ++ bs) = costL as + costL bs
  | [], _ => by simp [costL]
  | a :: as, bs => by simp [costL, costL_append as bs, Nat.add_assoc]
theorem costL_take_succ (ps : List T) {i : Nat} {p : T} (h : ps[i]? = some p) : costL (ps.take (i + 1)) = costL (ps.take i) + cost p := by
  rw [List.take_add_one, h, costL_append]
  simp [costL]
theorem costL_take_le (ps : List T) (i : Nat) : costL (ps.take i) ≤ costL ps := by
  have h := costL_append (ps.take i) (ps.drop i)
  rw [List.take_append_drop] at h
  omega
mutual
def tcost : T → Nat
  | .job .. => 1
  | .scope _ ps => 2 * costL ps + 1 + tcostL ps
  | .pool _ ps => 2 * costL ps + 1 + tcostL ps
  | .seq ps => costL ps + 1 + tcostL ps
  | .timeout _ p => cost p + 1 + tcost p
  | .orelse p q => cost p + cost q + 1 + tcost p + tcost q
  | .retry n _ p => (n + 1) * cost p + 1 + (n + 1) * tcost p
def tcostL : List T → Nat
  | [] => 0
  | p :: ps => tcost p + tcostL ps
end
mutual
def runs : T → Nat
  | .job .. => 1
  | .scope _ ps => runsL ps
  | .pool _ ps => runsL ps
  | .seq ps => runsL ps
  | .timeout _ p => runs p
  | .orelse p q => runs p + runs q
  | .retry n _ p => (n + 1) * runs p
def runsL : List T → Nat
  | [] => 0
  | p :: ps => runs p + runsL ps
end
end Asf
set_option Elab.async false
set_option linter.all false
set_option maxRecDepth 100000
set_option maxHeartbeats 4000000
namespace Asf
open PySem PySem.Spec PyProof.Rows L2
/-! ### the text by places -/
def top (i : Nat) : Stmt := PySem.Challenge.pw_asforetold_k13_pool_of_its_parts.main.body.getD i (.Pass ⟨0, 0, 0, 0⟩)
abbrev s_next_instant : Stmt := top 4
abbrev s_later : Stmt := top 5
abbrev s_earliest : Stmt := top 6
abbrev s_not_after : Stmt := top 7
abbrev s_child_path : Stmt := top 9
abbrev s_parts_of : Stmt := top 11
abbrev s_check_cancel : Stmt := top 15
abbrev s_job_end : Stmt := top 16
abbrev s_errors : Stmt := top 17
abbrev s_together : Stmt := top 18
abbrev s_all_values : Stmt := top 19
abbrev s_first_value : Stmt := top 20
abbrev s_first : Stmt := top 21
abbrev s_F_init : Stmt := inClass (top 22) 0
abbrev s_F_course : Stmt := inClass (top 22) 1
abbrev s_F_end : Stmt := inClass (top 22) 2
abbrev s_F_find : Stmt := inClass (top 22) 3
abbrev s_F_scope : Stmt := inClass (top 22) 4
abbrev s_F_pool_parts : Stmt := inClass (top 22) 5
abbrev s_F_pool : Stmt := inClass (top 22) 6
abbrev s_F_timeout : Stmt := inClass (top 22) 7
abbrev s_F_sequence : Stmt := inClass (top 22) 8
abbrev s_F_orelse : Stmt := inClass (top 22) 9
abbrev s_F_retry : Stmt := inClass (top 22) 10
abbrev s_F_tasks : Stmt := inClass (top 22) 11
abbrev s_predict : Stmt := top 23
abbrev s_end_of : Stmt := top 24
abbrev s_L_cell : Stmt := top 26
abbrev s_L_digits : Stmt := top 27
abbrev s_L_draw : Stmt := top 28
abbrev s_L_job : Stmt := top 29
abbrev s_L_whole : Stmt := top 30
abbrev s_L_plan : Stmt := top 31
abbrev s_L_parts : Stmt := top 32
abbrev s_L_sizes : Stmt := top 33
abbrev s_L_drawn : Stmt := top 34
abbrev s_L_start : Stmt := top 35
abbrev s_L_cancel : Stmt := top 36
abbrev s_L_first_of : Stmt := top 37
abbrev s_L_moved : Stmt := top 38
abbrev s_L_sub : Stmt := top 39
abbrev s_L_earlier : Stmt := top 40
abbrev s_L_late : Stmt := top 42
abbrev s_L_alike : Stmt := top 43
abbrev s_L_begin : Stmt := top 44
abbrev s_L_pass : Stmt := top 45
abbrev s_L_due : Stmt := top 46
abbrev s_law : Stmt := top 47
def fdAt (K : PySem.W.Frag) (f : Addr) : FuncData := match K.lookup f with
  | some ⟨_, _, .func fd, _⟩ => fd
  | _ => PySem.W.fnOf "" "" (defArgs (.Pass ⟨0, 0, 0, 0⟩)) [] (defScope (.Pass ⟨0, 0, 0, 0⟩)) .none .none .none .none none .none .none
abbrev FnP (K : PySem.W.Frag) (x q : Str) (st : Stmt) (f : Addr) (fd : FuncData) : Prop := FunD K x q (defArgs st) (defBody st) (defScope st) [] [] f fd
theorem fd_at {K : PySem.W.Frag} {x q : Str} {st : Stmt} {f : Addr} {fd : FuncData} (F : FnP K x q st f fd) : FnP K x q st f (fdAt K f) := by
  have e : fdAt K f = fd := by
    obtain ⟨oc, od, dV, kV, doc, pm, an, cdv, ct, osl, _, lk, _⟩ := F.ex
    unfold fdAt
    rw [lk]
  rw [e]
  exact F
/-- the class's address -/
abbrev CF (K : PySem.W.Frag) : Addr := He.ga K "Foretelling"
/-- CANCELLED: its two items -/
def CanT (K : PySem.W.Frag) : Prop := ∃ e, KEmp K e ∧ ∀ H, SqT K H (He.ga K "CANCELLED") [.str "cancelled", .ref e]
structure Txt (K : PySem.W.Frag) (mg : Str → Option Value) : Prop where
  d_next_instant : FnP K "next_instant" "next_instant" s_next_instant (He.ga K "next_instant") (fdAt K (He.ga K "next_instant"))
  g_next_instant : mg "next_instant" = some (.ref (He.ga K "next_instant"))
  d_later : FnP K "later" "later" s_later (He.ga K "later") (fdAt K (He.ga K "later"))
  g_later : mg "later" = some (.ref (He.ga K "later"))
  d_earliest : FnP K "earliest" "earliest" s_earliest (He.ga K "earliest") (fdAt K (He.ga K "earliest"))
  g_earliest : mg "earliest" = some (.ref (He.ga K "earliest"))
  d_not_after : FnP K "not_after" "not_after" s_not_after (He.ga K "not_after") (fdAt K (He.ga K "not_after"))
  g_not_after : mg "not_after" = some (.ref (He.ga K "not_after"))
  d_child_path : FnP K "child_path" "child_path" s_child_path (He.ga K "child_path") (fdAt K (He.ga K "child_path"))
  g_child_path : mg "child_path" = some (.ref (He.ga K "child_path"))
  d_parts_of : FnP K "parts_of" "parts_of" s_parts_of (He.ga K "parts_of") (fdAt K (He.ga K "parts_of"))
  g_parts_of : mg "parts_of" = some (.ref (He.ga K "parts_of"))
  d_check_cancel : FnP K "_check_cancel" "_check_cancel" s_check_cancel (He.ga K "_check_cancel") (fdAt K (He.ga K "_check_cancel"))
  g_check_cancel : mg "_check_cancel" = some (.ref (He.ga K "_check_cancel"))
  d_job_end : FnP K "job_end" "job_end" s_job_end (He.ga K "job_end") (fdAt K (He.ga K "job_end"))
  g_job_end : mg "job_end" = some (.ref (He.ga K "job_end"))
  d_errors : FnP K "_errors" "_errors" s_errors (He.ga K "_errors") (fdAt K (He.ga K "_errors"))
  g_errors : mg "_errors" = some (.ref (He.ga K "_errors"))
  d_together : FnP K "_together" "_together" s_together (He.ga K "_together") (fdAt K (He.ga K "_together"))
  g_together : mg "_together" = some (.ref (He.ga K "_together"))
  d_all_values : FnP K "_all_values" "_all_values" s_all_values (He.ga K "_all_values") (fdAt K (He.ga K "_all_values"))
  g_all_values : mg "_all_values" = some (.ref (He.ga K "_all_values"))
  d_first_value : FnP K "_first_value" "_first_value" s_first_value (He.ga K "_first_value") (fdAt K (He.ga K "_first_value"))
  g_first_value : mg "_first_value" = some (.ref (He.ga K "_first_value"))
  d_first : FnP K "_first" "_first" s_first (He.ga K "_first") (fdAt K (He.ga K "_first"))
  g_first : mg "_first" = some (.ref (He.ga K "_first"))
  d_F_init : FnP K "__init__" "Foretelling.__init__" s_F_init (He.ma K (CF K) "__init__") (fdAt K (He.ma K (CF K) "__init__"))
  d_F_course : FnP K "course" "Foretelling.course" s_F_course (He.ma K (CF K) "course") (fdAt K (He.ma K (CF K) "course"))
  m_F_course : Meth K (CF K) "course" (He.ma K (CF K) "course")
  d_F_end : FnP K "end" "Foretelling.end" s_F_end (He.ma K (CF K) "end") (fdAt K (He.ma K (CF K) "end"))
  m_F_end : Meth K (CF K) "end" (He.ma K (CF K) "end")
  d_F_find : FnP K "_find" "Foretelling._find" s_F_find (He.ma K (CF K) "_find") (fdAt K (He.ma K (CF K) "_find"))
  m_F_find : Meth K (CF K) "_find" (He.ma K (CF K) "_find")
  d_F_scope : FnP K "_scope" "Foretelling._scope" s_F_scope (He.ma K (CF K) "_scope") (fdAt K (He.ma K (CF K) "_scope"))
  m_F_scope : Meth K (CF K) "_scope" (He.ma K (CF K) "_scope")
  d_F_pool_parts : FnP K "_pool_parts" "Foretelling._pool_parts" s_F_pool_parts (He.ma K (CF K) "_pool_parts") (fdAt K (He.ma K (CF K) "_pool_parts"))
  m_F_pool_parts : Meth K (CF K) "_pool_parts" (He.ma K (CF K) "_pool_parts")
  d_F_pool : FnP K "_pool" "Foretelling._pool" s_F_pool (He.ma K (CF K) "_pool") (fdAt K (He.ma K (CF K) "_pool"))
  m_F_pool : Meth K (CF K) "_pool" (He.ma K (CF K) "_pool")
  d_F_timeout : FnP K "_timeout" "Foretelling._timeout" s_F_timeout (He.ma K (CF K) "_timeout") (fdAt K (He.ma K (CF K) "_timeout"))
  m_F_timeout : Meth K (CF K) "_timeout" (He.ma K (CF K) "_timeout")
  d_F_sequence : FnP K "_sequence" "Foretelling._sequence" s_F_sequence (He.ma K (CF K) "_sequence") (fdAt K (He.ma K (CF K) "_sequence"))
  m_F_sequence : Meth K (CF K) "_sequence" (He.ma K (CF K) "_sequence")
  d_F_orelse : FnP K "_orelse" "Foretelling._orelse" s_F_orelse (He.ma K (CF K) "_orelse") (fdAt K (He.ma K (CF K) "_orelse"))
  m_F_orelse : Meth K (CF K) "_orelse" (He.ma K (CF K) "_orelse")
  d_F_retry : FnP K "_retry" "Foretelling._retry" s_F_retry (He.ma K (CF K) "_retry") (fdAt K (He.ma K (CF K) "_retry"))
  m_F_retry : Meth K (CF K) "_retry" (He.ma K (CF K) "_retry")
  d_F_tasks : FnP K "tasks" "Foretelling.tasks" s_F_tasks (He.ma K (CF K) "tasks") (fdAt K (He.ma K (CF K) "tasks"))
  m_F_tasks : Meth K (CF K) "tasks" (He.ma K (CF K) "tasks")
  d_predict : FnP K "predict" "predict" s_predict (He.ga K "predict") (fdAt K (He.ga K "predict"))
  g_predict : mg "predict" = some (.ref (He.ga K "predict"))
  d_end_of : FnP K "end_of" "end_of" s_end_of (He.ga K "end_of") (fdAt K (He.ga K "end_of"))
  g_end_of : mg "end_of" = some (.ref (He.ga K "end_of"))
  d_L_cell : FnP K "_law_cell" "_law_cell" s_L_cell (He.ga K "_law_cell") (fdAt K (He.ga K "_law_cell"))
  g_L_cell : mg "_law_cell" = some (.ref (He.ga K "_law_cell"))
  d_L_digits : FnP K "_law_digits" "_law_digits" s_L_digits (He.ga K "_law_digits") (fdAt K (He.ga K "_law_digits"))
  g_L_digits : mg "_law_digits" = some (.ref (He.ga K "_law_digits"))
  d_L_draw : FnP K "_law_draw" "_law_draw" s_L_draw (He.ga K "_law_draw") (fdAt K (He.ga K "_law_draw"))
  g_L_draw : mg "_law_draw" = some (.ref (He.ga K "_law_draw"))
  d_L_job : FnP K "_law_job" "_law_job" s_L_job (He.ga K "_law_job") (fdAt K (He.ga K "_law_job"))
  g_L_job : mg "_law_job" = some (.ref (He.ga K "_law_job"))
  d_L_whole : FnP K "_law_whole" "_law_whole" s_L_whole (He.ga K "_law_whole") (fdAt K (He.ga K "_law_whole"))
  g_L_whole : mg "_law_whole" = some (.ref (He.ga K "_law_whole"))
  d_L_plan : FnP K "_law_plan" "_law_plan" s_L_plan (He.ga K "_law_plan") (fdAt K (He.ga K "_law_plan"))
  g_L_plan : mg "_law_plan" = some (.ref (He.ga K "_law_plan"))
  d_L_parts : FnP K "_law_parts" "_law_parts" s_L_parts (He.ga K "_law_parts") (fdAt K (He.ga K "_law_parts"))
  g_L_parts : mg "_law_parts" = some (.ref (He.ga K "_law_parts"))
  d_L_sizes : FnP K "_law_sizes" "_law_sizes" s_L_sizes (He.ga K "_law_sizes") (fdAt K (He.ga K "_law_sizes"))
  g_L_sizes : mg "_law_sizes" = some (.ref (He.ga K "_law_sizes"))
  d_L_drawn : FnP K "_law_drawn" "_law_drawn" s_L_drawn (He.ga K "_law_drawn") (fdAt K (He.ga K "_law_drawn"))
  g_L_drawn : mg "_law_drawn" = some (.ref (He.ga K "_law_drawn"))
  d_L_start : FnP K "_law_start" "_law_start" s_L_start (He.ga K "_law_start") (fdAt K (He.ga K "_law_start"))
  g_L_start : mg "_law_start" = some (.ref (He.ga K "_law_start"))
  d_L_cancel : FnP K "_law_cancel" "_law_cancel" s_L_cancel (He.ga K "_law_cancel") (fdAt K (He.ga K "_law_cancel"))
  g_L_cancel : mg "_law_cancel" = some (.ref (He.ga K "_law_cancel"))
  d_L_first_of : FnP K "_law_first_of" "_law_first_of" s_L_first_of (He.ga K "_law_first_of") (fdAt K (He.ga K "_law_first_of"))
  g_L_first_of : mg "_law_first_of" = some (.ref (He.ga K "_law_first_of"))
  d_L_moved : FnP K "_law_moved" "_law_moved" s_L_moved (He.ga K "_law_moved") (fdAt K (He.ga K "_law_moved"))
  g_L_moved : mg "_law_moved" = some (.ref (He.ga K "_law_moved"))
  d_L_sub : FnP K "_law_sub" "_law_sub" s_L_sub (He.ga K "_law_sub") (fdAt K (He.ga K "_law_sub"))
  g_L_sub : mg "_law_sub" = some (.ref (He.ga K "_law_sub"))
  d_L_earlier : FnP K "_law_earlier" "_law_earlier" s_L_earlier (He.ga K "_law_earlier") (fdAt K (He.ga K "_law_earlier"))
  g_L_earlier : mg "_law_earlier" = some (.ref (He.ga K "_law_earlier"))
  d_L_late : FnP K "_law_late" "_law_late" s_L_late (He.ga K "_law_late") (fdAt K (He.ga K "_law_late"))
  g_L_late : mg "_law_late" = some (.ref (He.ga K "_law_late"))
  d_L_alike : FnP K "_law_alike" "_law_alike" s_L_alike (He.ga K "_law_alike") (fdAt K (He.ga K "_law_alike"))
  g_L_alike : mg "_law_alike" = some (.ref (He.ga K "_law_alike"))
  d_L_begin : FnP K "_law_begin" "_law_begin" s_L_begin (He.ga K "_law_begin") (fdAt K (He.ga K "_law_begin"))
  g_L_begin : mg "_law_begin" = some (.ref (He.ga K "_law_begin"))
  d_L_pass : FnP K "_law_pass" "_law_pass" s_L_pass (He.ga K "_law_pass") (fdAt K (He.ga K "_law_pass"))
  g_L_pass : mg "_law_pass" = some (.ref (He.ga K "_law_pass"))
  d_L_due : FnP K "_law_due" "_law_due" s_L_due (He.ga K "_law_due") (fdAt K (He.ga K "_law_due"))
  g_L_due : mg "_law_due" = some (.ref (He.ga K "_law_due"))
  d_law : FnP K "law" "law" s_law (He.ga K "law") (fdAt K (He.ga K "law"))
  g_law : mg "law" = some (.ref (He.ga K "law"))
  z_len : mg "len" = none
  z_min : mg "min" = none
  z_max : mg "max" = none
  z_sorted : mg "sorted" = none
  z_sum : mg "sum" = none
  z_tuple : mg "tuple" = none
  z_range : mg "range" = none
  z_enumerate : mg "enumerate" = none
  z_repr : mg "repr" = none
  z_int : mg "int" = none
  gC : mg "Foretelling" = some (.ref (CF K))
  cl : Cls K (CF K)
  mkF : Mk K (CF K) (He.ma K (CF K) "__init__")
  nP : NoAttr K (CF K) "_plan"
  nK : NoAttr K (CF K) "_known"
  dl : ∃ t, mg "DEADLINE" = some (.str "deadline exceeded" t)
  gX : mg "CANCELLED" = some (.ref (He.ga K "CANCELLED"))
  cT : CanT K
/-- a def that is called by its name, what it promises -/
structure Cal (P : Program) (w : World) (K : PySem.W.Frag) (mg : Str → Option Value) (base : Heap) (k : Nat) (x : Str) (f : Addr) (ps : List Str) (sp : Sp) : Prop where
  F : FnOk P w K mg base CX0 k f (fdAt K f) ps sp
  g : mg x = some (.ref f)
  kp : PySem.W.keepIn K (.ref f) = true
  b : Binds K (fdAt K f) ps []
structure Met (P : Program) (w : World) (K : PySem.W.Frag) (mg : Str → Option Value) (base : Heap) (k : Nat) (m : Str) (f : Addr) (ps : List Str) (sp : Sp) : Prop where
  F : FnOk P w K mg base CX0 k f (fdAt K f) ps sp
  m : Meth K (CF K) m f
  b : Binds K (fdAt K f) ps []
def tK (sp : Sp) (t : TA) : TE := fun σ H Q => t σ H fun vs H1 => sp vs H1 Q E0
def tM (C : Addr) (m : Str) (sp : Sp) (ta : TE) (t : TA) : TE := fun σ H Q => ta σ H fun x H1 => ∃ a dx fs, x = .ref a ∧ H1 a = some (.ins C dx fs) ∧ fs.lookup m = none ∧ t σ H1 fun vs H2 => sp (x :: vs) H2 Q E0
theorem PE.of_eq {X : Cx} {e : Expr} {t t' : TE} (h : PE X e t) (q : t = t') : PE X e t' := q ▸ h
section
variable {X : Cx} {k j : Nat} {f : Addr} {ps : List Str} {sp : Sp} {x m : Str} {p pos apos : Pos} {e o : Expr} {es : List Expr} {t : TA} {ta : TE}
theorem pe_k (C : Cal X.prog X.w X.K X.mg X.base k x f ps sp) (hr : Room j X.A) (ha : PA X (e :: es) t) (hkj : k ≤ j := by decide) (hg : Gl X x := by rfl) (hdb : (x == ("__debug__" : Str)) = false := by decide)
    (he : starEach (e :: es) X.env = (false, eval e X.env) :: starEach es X.env := by rfl) (hpl : (backTo pos (starEach es X.env)).any (·.1) = false := by rfl) : PE X (.Call (.Name x p) (e :: es) [] pos) (tK sp t) :=
  PE.of_eq (pe_call C.F (hr.mono hkj) hg C.g C.kp C.b .nil pass0 ha hdb he hpl) (by unfold tCall tK; simp only [List.append_nil])
theorem pe_m {pl : Sem Bool} (M : Met X.prog X.w X.K X.mg X.base k m f ps sp) (c : Cls X.K (CF X.K)) (hr : Room j X.A) (ho : PE X o ta) (ha : PA X (e :: es) t) (hkj : k ≤ j := by decide)
    (hst : starEach (e :: es) X.env = (false, eval e X.env) :: starEach es X.env := by rfl) (hpl : (backTo pos (starEach es X.env)).any (·.1) = false := by rfl)
    (ht : eval (.Call (.Attribute o m apos) (e :: es) [] pos) X.env = (do
      let ov ← eval o X.env
      standAt apos.atName
      let (f, first) ← holding [ov] (getMethod ov m pl)
      callWith pos f first (backTo pos (starEach (e :: es) X.env)) (backToKw pos (keywordEach [] X.env))) := by rfl) : PE X (.Call (.Attribute o m apos) (e :: es) [] pos) (tM (CF X.K) m sp ta t) :=
  PE.of_eq (pe_meth ho c M.m M.F (hr.mono hkj) M.b .nil pass0 ha hst hpl ht) (by unfold tMeth tM; simp only [List.append_nil])
end
theorem okF {P : Program} {w : World} {K : PySem.W.Frag} {mg : Str → Option Value} {base : Heap} {x q : Str} {st : Stmt} {f : Addr} {fd : FuncData} {N ps : List Str} {k : Nat} {sp : Sp} (F : FnP K x q st f fd) (S : FnScope N ps (defScope st)) (len : ∀ vs H Q E, sp vs H Q E → vs.length = ps.length)
    (hbody : ∀ (cdv : Value) (A : Around) (outer : List Env) (s : Shared) (H : Hp) (vs : List V) (Q : VK) (E : XK), Room k (A.deeper (envOfC q (defScope st) s.heap.objs.size f cdv)) → sp vs H Q E →
      ∃ t, PSs (cxOf CX0 P w K mg base N q (defScope st) f cdv A outer s H E).nox (defBody st) t ∧ t { nx := fun _ H' => Q .non H', rt := Q } (start N vs) H) : FnOk P w K mg base CX0 (k + 1) f fd ps sp :=
  F.ok S len fun cdv A outer s H vs Q E hr h => by
    obtain ⟨t, h1, h2⟩ := hbody cdv A outer s H vs Q E hr h
    exact ⟨t, h1.nox, h2⟩
section
variable {P : Program} {w : World} {K : PySem.W.Frag} {mg : Str → Option Value} {base : Heap} {k : Nat} {sp : Sp}
theorem sc_next_instant : FnScope ["instant"] ["instant"] (defScope s_next_instant) := ⟨rfl, rfl, rfl, by decide +kernel, rfl, by decide +kernel, by decide +kernel⟩
theorem b_next_instant (T : Txt K mg) : Binds K (fdAt K (He.ga K "next_instant")) ["instant"] [] := T.d_next_instant.bindsN (ps := ["instant"]) fun _ _ _ _ _ _ us hl => match us, hl with | [_], _ => rfl
theorem cal_next_instant (T : Txt K mg) (F : FnOk P w K mg base CX0 k (He.ga K "next_instant") (fdAt K (He.ga K "next_instant")) ["instant"] sp) : Cal P w K mg base k "next_instant" (He.ga K "next_instant") ["instant"] sp := ⟨F, T.g_next_instant, T.d_next_instant.kp, b_next_instant T⟩
theorem sc_later : FnScope ["instant", "ticks"] ["instant", "ticks"] (defScope s_later) := ⟨rfl, rfl, rfl, by decide +kernel, rfl, by decide +kernel, by decide +kernel⟩
theorem b_later (T : Txt K mg) : Binds K (fdAt K (He.ga K "later")) ["instant", "ticks"] [] := T.d_later.bindsN (ps := ["instant", "ticks"]) fun _ _ _ _ _ _ us hl => match us, hl with | [_, _], _ => rfl
theorem cal_later (T : Txt K mg) (F : FnOk P w K mg base CX0 k (He.ga K "later") (fdAt K (He.ga K "later")) ["instant", "ticks"] sp) : Cal P w K mg base k "later" (He.ga K "later") ["instant", "ticks"] sp := ⟨F, T.g_later, T.d_later.kp, b_later T⟩
theorem sc_earliest : FnScope ["one", "two"] ["one", "two"] (defScope s_earliest) := ⟨rfl, rfl, rfl, by decide +kernel, rfl, by decide +kernel, by decide +kernel⟩
theorem b_earliest (T : Txt K mg) : Binds K (fdAt K (He.ga K "earliest")) ["one", "two"] [] := T.d_earliest.bindsN (ps := ["one", "two"]) fun _ _ _ _ _ _ us hl => match us, hl with | [_, _], _ => rfl
theorem cal_earliest (T : Txt K mg) (F : FnOk P w K mg base CX0 k (He.ga K "earliest") (fdAt K (He.ga K "earliest")) ["one", "two"] sp) : Cal P w K mg base k "earliest" (He.ga K "earliest") ["one", "two"] sp := ⟨F, T.g_earliest, T.d_earliest.kp, b_earliest T⟩
theorem sc_not_after : FnScope ["instant", "cancel"] ["instant", "cancel"] (defScope s_not_after) := ⟨rfl, rfl, rfl, by decide +kernel, rfl, by decide +kernel, by decide +kernel⟩
theorem b_not_after (T : Txt K mg) : Binds K (fdAt K (He.ga K "not_after")) ["instant", "cancel"] [] := T.d_not_after.bindsN (ps := ["instant", "cancel"]) fun _ _ _ _ _ _ us hl => match us, hl with | [_, _], _ => rfl
theorem cal_not_after (T : Txt K mg) (F : FnOk P w K mg base CX0 k (He.ga K "not_after") (fdAt K (He.ga K "not_after")) ["instant", "cancel"] sp) : Cal P w K mg base k "not_after" (He.ga K "not_after") ["instant", "cancel"] sp := ⟨F, T.g_not_after, T.d_not_after.kp, b_not_after T⟩
theorem sc_child_path : FnScope ["path", "scope", "part"] ["path", "scope", "part"] (defScope s_child_path) := ⟨rfl, rfl, rfl, by decide +kernel, rfl, by decide +kernel, by decide +kernel⟩
theorem b_child_path (T : Txt K mg) : Binds K (fdAt K (He.ga K "child_path")) ["path", "scope", "part"] [] := T.d_child_path.bindsN (ps := ["path", "scope", "part"]) fun _ _ _ _ _ _ us hl => match us, hl with | [_, _, _], _ => rfl
theorem cal_child_path (T : Txt K mg) (F : FnOk P w K mg base CX0 k (He.ga K "child_path") (fdAt K (He.ga K "child_path")) ["path", "scope", "part"] sp) : Cal P w K mg base k "child_path" (He.ga K "child_path") ["path", "scope", "part"] sp := ⟨F, T.g_child_path, T.d_child_path.kp, b_child_path T⟩
theorem sc_parts_of : FnScope ["node"] ["node"] (defScope s_parts_of) := ⟨rfl, rfl, rfl, by decide +kernel, rfl, by decide +kernel, by decide +kernel⟩
theorem b_parts_of (T : Txt K mg) : Binds K (fdAt K (He.ga K "parts_of")) ["node"] [] := T.d_parts_of.bindsN (ps := ["node"]) fun _ _ _ _ _ _ us hl => match us, hl with | [_], _ => rfl
theorem cal_parts_of (T : Txt K mg) (F : FnOk P w K mg base CX0 k (He.ga K "parts_of") (fdAt K (He.ga K "parts_of")) ["node"] sp) : Cal P w K mg base k "parts_of" (He.ga K "parts_of") ["node"] sp := ⟨F, T.g_parts_of, T.d_parts_of.kp, b_parts_of T⟩
theorem sc_check_cancel : FnScope ["start", "cancel"] ["start", "cancel"] (defScope s_check_cancel) := ⟨rfl, rfl, rfl, by decide +kernel, rfl, by decide +kernel, by decide +kernel⟩
theorem b_check_cancel (T : Txt K mg) : Binds K (fdAt K (He.ga K "_check_cancel")) ["start", "cancel"] [] := T.d_check_cancel.bindsN (ps := ["start", "cancel"]) fun _ _ _ _ _ _ us hl => match us, hl with | [_, _], _ => rfl
theorem cal_check_cancel (T : Txt K mg) (F : FnOk P w K mg base CX0 k (He.ga K "_check_cancel") (fdAt K (He.ga K "_check_cancel")) ["start", "cancel"] sp) : Cal P w K mg base k "_check_cancel" (He.ga K "_check_cancel") ["start", "cancel"] sp := ⟨F, T.g_check_cancel, T.d_check_cancel.kp, b_check_cancel T⟩
theorem sc_job_end : FnScope ["node", "start", "cancel", "_", "duration", "word", "value", "cleanup", "fault", "end"] ["node", "start", "cancel"] (defScope s_job_end) := ⟨rfl, rfl, rfl, by decide +kernel, rfl, by decide +kernel, by decide +kernel⟩
theorem b_job_end (T : Txt K mg) : Binds K (fdAt K (He.ga K "job_end")) ["node", "start", "cancel"] [] := T.d_job_end.bindsN (ps := ["node", "start", "cancel"]) fun _ _ _ _ _ _ us hl => match us, hl with | [_, _, _], _ => rfl
theorem cal_job_end (T : Txt K mg) (F : FnOk P w K mg base CX0 k (He.ga K "job_end") (fdAt K (He.ga K "job_end")) ["node", "start", "cancel"] sp) : Cal P w K mg base k "job_end" (He.ga K "job_end") ["node", "start", "cancel"] sp := ⟨F, T.g_job_end, T.d_job_end.kp, b_job_end T⟩
theorem sc_errors : FnScope ["ends", "_", "outcome", "result", "error"] ["ends"] (defScope s_errors) := ⟨rfl, rfl, rfl, by decide +kernel, rfl, by decide +kernel, by decide +kernel⟩
theorem b_errors (T : Txt K mg) : Binds K (fdAt K (He.ga K "_errors")) ["ends"] [] := T.d_errors.bindsN (ps := ["ends"]) fun _ _ _ _ _ _ us hl => match us, hl with | [_], _ => rfl
theorem cal_errors (T : Txt K mg) (F : FnOk P w K mg base CX0 k (He.ga K "_errors") (fdAt K (He.ga K "_errors")) ["ends"] sp) : Cal P w K mg base k "_errors" (He.ga K "_errors") ["ends"] sp := ⟨F, T.g_errors, T.d_errors.kp, b_errors T⟩
theorem sc_together : FnScope ["start", "cancel", "ends", "counted", "told", "end", "part", "errors"] ["start", "cancel", "ends", "counted", "told"] (defScope s_together) := ⟨rfl, rfl, rfl, by decide +kernel, rfl, by decide +kernel, by decide +kernel⟩
theorem b_together (T : Txt K mg) : Binds K (fdAt K (He.ga K "_together")) ["start", "cancel", "ends", "counted", "told"] [] := T.d_together.bindsN (ps := ["start", "cancel", "ends", "counted", "told"]) fun _ _ _ _ _ _ us hl => match us, hl with | [_, _, _, _, _], _ => rfl
theorem cal_together (T : Txt K mg) (F : FnOk P w K mg base CX0 k (He.ga K "_together") (fdAt K (He.ga K "_together")) ["start", "cancel", "ends", "counted", "told"] sp) : Cal P w K mg base k "_together" (He.ga K "_together") ["start", "cancel", "ends", "counted", "told"] sp := ⟨F, T.g_together, T.d_together.kp, b_together T⟩
theorem sc_all_values : FnScope ["ends", "values", "_", "outcome", "result"] ["ends"] (defScope s_all_values) := ⟨rfl, rfl, rfl, by decide +kernel, rfl, by decide +kernel, by decide +kernel⟩
theorem b_all_values (T : Txt K mg) : Binds K (fdAt K (He.ga K "_all_values")) ["ends"] [] := T.d_all_values.bindsN (ps := ["ends"]) fun _ _ _ _ _ _ us hl => match us, hl with | [_], _ => rfl
theorem cal_all_values (T : Txt K mg) (F : FnOk P w K mg base CX0 k (He.ga K "_all_values") (fdAt K (He.ga K "_all_values")) ["ends"] sp) : Cal P w K mg base k "_all_values" (He.ga K "_all_values") ["ends"] sp := ⟨F, T.g_all_values, T.d_all_values.kp, b_all_values T⟩
theorem sc_first_value : FnScope ["ends", "found", "end"] ["ends"] (defScope s_first_value) := ⟨rfl, rfl, rfl, by decide +kernel, rfl, by decide +kernel, by decide +kernel⟩
theorem b_first_value (T : Txt K mg) : Binds K (fdAt K (He.ga K "_first_value")) ["ends"] [] := T.d_first_value.bindsN (ps := ["ends"]) fun _ _ _ _ _ _ us hl => match us, hl with | [_], _ => rfl
theorem cal_first_value (T : Txt K mg) (F : FnOk P w K mg base CX0 k (He.ga K "_first_value") (fdAt K (He.ga K "_first_value")) ["ends"] sp) : Cal P w K mg base k "_first_value" (He.ga K "_first_value") ["ends"] sp := ⟨F, T.g_first_value, T.d_first_value.kp, b_first_value T⟩
theorem sc_first : FnScope ["ends", "outcome", "instants", "end"] ["ends", "outcome"] (defScope s_first) := ⟨rfl, rfl, rfl, by decide +kernel, rfl, by decide +kernel, by decide +kernel⟩
theorem b_first (T : Txt K mg) : Binds K (fdAt K (He.ga K "_first")) ["ends", "outcome"] [] := T.d_first.bindsN (ps := ["ends", "outcome"]) fun _ _ _ _ _ _ us hl => match us, hl with | [_, _], _ => rfl
theorem cal_first (T : Txt K mg) (F : FnOk P w K mg base CX0 k (He.ga K "_first") (fdAt K (He.ga K "_first")) ["ends", "outcome"] sp) : Cal P w K mg base k "_first" (He.ga K "_first") ["ends", "outcome"] sp := ⟨F, T.g_first, T.d_first.kp, b_first T⟩
theorem sc_F_init : FnScope ["self", "plan"] ["self", "plan"] (defScope s_F_init) := ⟨rfl, rfl, rfl, by decide +kernel, rfl, by decide +kernel, by decide +kernel⟩
theorem b_F_init (T : Txt K mg) : Binds K (fdAt K (He.ma K (CF K) "__init__")) ["self", "plan"] [] := T.d_F_init.bindsN (ps := ["self", "plan"]) fun _ _ _ _ _ _ us hl => match us, hl with | [_, _], _ => rfl
theorem sc_F_course : FnScope ["self", "place", "start", "cancel", "key"] ["self", "place", "start", "cancel"] (defScope s_F_course) := ⟨rfl, rfl, rfl, by decide +kernel, rfl, by decide +kernel, by decide +kernel⟩
theorem b_F_course (T : Txt K mg) : Binds K (fdAt K (He.ma K (CF K) "course")) ["self", "place", "start", "cancel"] [] := T.d_F_course.bindsN (ps := ["self", "place", "start", "cancel"]) fun _ _ _ _ _ _ us hl => match us, hl with | [_, _, _, _], _ => rfl
theorem met_F_course (T : Txt K mg) (F : FnOk P w K mg base CX0 k (He.ma K (CF K) "course") (fdAt K (He.ma K (CF K) "course")) ["self", "place", "start", "cancel"] sp) : Met P w K mg base k "course" (He.ma K (CF K) "course") ["self", "place", "start", "cancel"] sp := ⟨F, T.m_F_course, b_F_course T⟩
theorem sc_F_end : FnScope ["self", "place", "start", "cancel"] ["self", "place", "start", "cancel"] (defScope s_F_end) := ⟨rfl, rfl, rfl, by decide +kernel, rfl, by decide +kernel, by decide +kernel⟩
theorem b_F_end (T : Txt K mg) : Binds K (fdAt K (He.ma K (CF K) "end")) ["self", "place", "start", "cancel"] [] := T.d_F_end.bindsN (ps := ["self", "place", "start", "cancel"]) fun _ _ _ _ _ _ us hl => match us, hl with | [_, _, _, _], _ => rfl
theorem met_F_end (T : Txt K mg) (F : FnOk P w K mg base CX0 k (He.ma K (CF K) "end") (fdAt K (He.ma K (CF K) "end")) ["self", "place", "start", "cancel"] sp) : Met P w K mg base k "end" (He.ma K (CF K) "end") ["self", "place", "start", "cancel"] sp := ⟨F, T.m_F_end, b_F_end T⟩
theorem sc_F_find : FnScope ["self", "place", "start", "cancel", "node"] ["self", "place", "start", "cancel"] (defScope s_F_find) := ⟨rfl, rfl, rfl, by decide +kernel, rfl, by decide +kernel, by decide +kernel⟩
theorem b_F_find (T : Txt K mg) : Binds K (fdAt K (He.ma K (CF K) "_find")) ["self", "place", "start", "cancel"] [] := T.d_F_find.bindsN (ps := ["self", "place", "start", "cancel"]) fun _ _ _ _ _ _ us hl => match us, hl with | [_, _, _, _], _ => rfl
theorem met_F_find (T : Txt K mg) (F : FnOk P w K mg base CX0 k (He.ma K (CF K) "_find") (fdAt K (He.ma K (CF K) "_find")) ["self", "place", "start", "cancel"] sp) : Met P w K mg base k "_find" (He.ma K (CF K) "_find") ["self", "place", "start", "cancel"] sp := ⟨F, T.m_F_find, b_F_find T⟩
theorem sc_F_scope : FnScope ["self", "node", "start", "cancel", "places", "ends", "place", "limit", "end", "parts", "part", "counted", "told"] ["self", "node", "start", "cancel"] (defScope s_F_scope) := ⟨rfl, rfl, rfl, by decide +kernel, rfl, by decide +kernel, by decide +kernel⟩
theorem b_F_scope (T : Txt K mg) : Binds K (fdAt K (He.ma K (CF K) "_scope")) ["self", "node", "start", "cancel"] [] := T.d_F_scope.bindsN (ps := ["self", "node", "start", "cancel"]) fun _ _ _ _ _ _ us hl => match us, hl with | [_, _, _, _], _ => rfl
theorem met_F_scope (T : Txt K mg) (F : FnOk P w K mg base CX0 k (He.ma K (CF K) "_scope") (fdAt K (He.ma K (CF K) "_scope")) ["self", "node", "start", "cancel"] sp) : Met P w K mg base k "_scope" (He.ma K (CF K) "_scope") ["self", "node", "start", "cancel"] sp := ⟨F, T.m_F_scope, b_F_scope T⟩
theorem sc_F_pool_parts : FnScope ["self", "node", "start", "cancel", "ends", "parts", "part", "place", "done", "end", "begin", "never"] ["self", "node", "start", "cancel"] (defScope s_F_pool_parts) := ⟨rfl, rfl, rfl, by decide +kernel, rfl, by decide +kernel, by decide +kernel⟩
theorem b_F_pool_parts (T : Txt K mg) : Binds K (fdAt K (He.ma K (CF K) "_pool_parts")) ["self", "node", "start", "cancel"] [] := T.d_F_pool_parts.bindsN (ps := ["self", "node", "start", "cancel"]) fun _ _ _ _ _ _ us hl => match us, hl with | [_, _, _, _], _ => rfl
theorem met_F_pool_parts (T : Txt K mg) (F : FnOk P w K mg base CX0 k (He.ma K (CF K) "_pool_parts") (fdAt K (He.ma K (CF K) "_pool_parts")) ["self", "node", "start", "cancel"] sp) : Met P w K mg base k "_pool_parts" (He.ma K (CF K) "_pool_parts") ["self", "node", "start", "cancel"] sp := ⟨F, T.m_F_pool_parts, b_F_pool_parts T⟩
theorem sc_F_pool : FnScope ["self", "node", "start", "cancel", "limit", "ends", "parts"] ["self", "node", "start", "cancel"] (defScope s_F_pool) := ⟨rfl, rfl, rfl, by decide +kernel, rfl, by decide +kernel, by decide +kernel⟩
theorem b_F_pool (T : Txt K mg) : Binds K (fdAt K (He.ma K (CF K) "_pool")) ["self", "node", "start", "cancel"] [] := T.d_F_pool.bindsN (ps := ["self", "node", "start", "cancel"]) fun _ _ _ _ _ _ us hl => match us, hl with | [_, _, _, _], _ => rfl
theorem met_F_pool (T : Txt K mg) (F : FnOk P w K mg base CX0 k (He.ma K (CF K) "_pool") (fdAt K (He.ma K (CF K) "_pool")) ["self", "node", "start", "cancel"] sp) : Met P w K mg base k "_pool" (He.ma K (CF K) "_pool") ["self", "node", "start", "cancel"] sp := ⟨F, T.m_F_pool, b_F_pool T⟩
theorem sc_F_timeout : FnScope ["self", "node", "start", "cancel", "deadline", "limit", "parts", "end", "outcome", "result", "errors"] ["self", "node", "start", "cancel"] (defScope s_F_timeout) := ⟨rfl, rfl, rfl, by decide +kernel, rfl, by decide +kernel, by decide +kernel⟩
theorem b_F_timeout (T : Txt K mg) : Binds K (fdAt K (He.ma K (CF K) "_timeout")) ["self", "node", "start", "cancel"] [] := T.d_F_timeout.bindsN (ps := ["self", "node", "start", "cancel"]) fun _ _ _ _ _ _ us hl => match us, hl with | [_, _, _, _], _ => rfl
theorem met_F_timeout (T : Txt K mg) (F : FnOk P w K mg base CX0 k (He.ma K (CF K) "_timeout") (fdAt K (He.ma K (CF K) "_timeout")) ["self", "node", "start", "cancel"] sp) : Met P w K mg base k "_timeout" (He.ma K (CF K) "_timeout") ["self", "node", "start", "cancel"] sp := ⟨F, T.m_F_timeout, b_F_timeout T⟩
theorem sc_F_sequence : FnScope ["self", "node", "start", "cancel", "parts", "told", "scope", "place"] ["self", "node", "start", "cancel"] (defScope s_F_sequence) := ⟨rfl, rfl, rfl, by decide +kernel, rfl, by decide +kernel, by decide +kernel⟩
theorem b_F_sequence (T : Txt K mg) : Binds K (fdAt K (He.ma K (CF K) "_sequence")) ["self", "node", "start", "cancel"] [] := T.d_F_sequence.bindsN (ps := ["self", "node", "start", "cancel"]) fun _ _ _ _ _ _ us hl => match us, hl with | [_, _, _, _], _ => rfl
theorem met_F_sequence (T : Txt K mg) (F : FnOk P w K mg base CX0 k (He.ma K (CF K) "_sequence") (fdAt K (He.ma K (CF K) "_sequence")) ["self", "node", "start", "cancel"] sp) : Met P w K mg base k "_sequence" (He.ma K (CF K) "_sequence") ["self", "node", "start", "cancel"] sp := ⟨F, T.m_F_sequence, b_F_sequence T⟩
theorem sc_F_orelse : FnScope ["self", "node", "start", "cancel", "parts", "told"] ["self", "node", "start", "cancel"] (defScope s_F_orelse) := ⟨rfl, rfl, rfl, by decide +kernel, rfl, by decide +kernel, by decide +kernel⟩
theorem b_F_orelse (T : Txt K mg) : Binds K (fdAt K (He.ma K (CF K) "_orelse")) ["self", "node", "start", "cancel"] [] := T.d_F_orelse.bindsN (ps := ["self", "node", "start", "cancel"]) fun _ _ _ _ _ _ us hl => match us, hl with | [_, _, _, _], _ => rfl
theorem met_F_orelse (T : Txt K mg) (F : FnOk P w K mg base CX0 k (He.ma K (CF K) "_orelse") (fdAt K (He.ma K (CF K) "_orelse")) ["self", "node", "start", "cancel"] sp) : Met P w K mg base k "_orelse" (He.ma K (CF K) "_orelse") ["self", "node", "start", "cancel"] sp := ⟨F, T.m_F_orelse, b_F_orelse T⟩
theorem sc_F_retry : FnScope ["self", "node", "start", "cancel", "_", "retries", "delay", "place", "parts", "run", "told"] ["self", "node", "start", "cancel"] (defScope s_F_retry) := ⟨rfl, rfl, rfl, by decide +kernel, rfl, by decide +kernel, by decide +kernel⟩
theorem b_F_retry (T : Txt K mg) : Binds K (fdAt K (He.ma K (CF K) "_retry")) ["self", "node", "start", "cancel"] [] := T.d_F_retry.bindsN (ps := ["self", "node", "start", "cancel"]) fun _ _ _ _ _ _ us hl => match us, hl with | [_, _, _, _], _ => rfl
theorem met_F_retry (T : Txt K mg) (F : FnOk P w K mg base CX0 k (He.ma K (CF K) "_retry") (fdAt K (He.ma K (CF K) "_retry")) ["self", "node", "start", "cancel"] sp) : Met P w K mg base k "_retry" (He.ma K (CF K) "_retry") ["self", "node", "start", "cancel"] sp := ⟨F, T.m_F_retry, b_F_retry T⟩
theorem sc_F_tasks : FnScope ["self", "place", "path", "start", "cancel", "told", "parts", "rows", "scope", "part", "below", "begin", "limit", "never", "here"] ["self", "place", "path", "start", "cancel"] (defScope s_F_tasks) := ⟨rfl, rfl, rfl, by decide +kernel, rfl, by decide +kernel, by decide +kernel⟩
theorem b_F_tasks (T : Txt K mg) : Binds K (fdAt K (He.ma K (CF K) "tasks")) ["self", "place", "path", "start", "cancel"] [] := T.d_F_tasks.bindsN (ps := ["self", "place", "path", "start", "cancel"]) fun _ _ _ _ _ _ us hl => match us, hl with | [_, _, _, _, _], _ => rfl
theorem met_F_tasks (T : Txt K mg) (F : FnOk P w K mg base CX0 k (He.ma K (CF K) "tasks") (fdAt K (He.ma K (CF K) "tasks")) ["self", "place", "path", "start", "cancel"] sp) : Met P w K mg base k "tasks" (He.ma K (CF K) "tasks") ["self", "place", "path", "start", "cancel"] sp := ⟨F, T.m_F_tasks, b_F_tasks T⟩
theorem sc_predict : FnScope ["plan", "path", "start", "cancel", "foretelling", "last", "end", "outcome", "result", "trace", "_", "entry"] ["plan", "path", "start", "cancel"] (defScope s_predict) := ⟨rfl, rfl, rfl, by decide +kernel, rfl, by decide +kernel, by decide +kernel⟩
theorem b_predict (T : Txt K mg) : Binds K (fdAt K (He.ga K "predict")) ["plan", "path", "start", "cancel"] [] := T.d_predict.bindsN (ps := ["plan", "path", "start", "cancel"]) fun _ _ _ _ _ _ us hl => match us, hl with | [_, _, _, _], _ => rfl
theorem cal_predict (T : Txt K mg) (F : FnOk P w K mg base CX0 k (He.ga K "predict") (fdAt K (He.ga K "predict")) ["plan", "path", "start", "cancel"] sp) : Cal P w K mg base k "predict" (He.ga K "predict") ["plan", "path", "start", "cancel"] sp := ⟨F, T.g_predict, T.d_predict.kp, b_predict T⟩
theorem sc_end_of : FnScope ["plan", "start", "cancel"] ["plan", "start", "cancel"] (defScope s_end_of) := ⟨rfl, rfl, rfl, by decide +kernel, rfl, by decide +kernel, by decide +kernel⟩
theorem b_end_of (T : Txt K mg) : Binds K (fdAt K (He.ga K "end_of")) ["plan", "start", "cancel"] [] := T.d_end_of.bindsN (ps := ["plan", "start", "cancel"]) fun _ _ _ _ _ _ us hl => match us, hl with | [_, _, _], _ => rfl
theorem cal_end_of (T : Txt K mg) (F : FnOk P w K mg base CX0 k (He.ga K "end_of") (fdAt K (He.ga K "end_of")) ["plan", "start", "cancel"] sp) : Cal P w K mg base k "end_of" (He.ga K "end_of") ["plan", "start", "cancel"] sp := ⟨F, T.g_end_of, T.d_end_of.kp, b_end_of T⟩
theorem sc_L_cell : FnScope ["_law_script", "_law_k"] ["_law_script", "_law_k"] (defScope s_L_cell) := ⟨rfl, rfl, rfl, by decide +kernel, rfl, by decide +kernel, by decide +kernel⟩
theorem b_L_cell (T : Txt K mg) : Binds K (fdAt K (He.ga K "_law_cell")) ["_law_script", "_law_k"] [] := T.d_L_cell.bindsN (ps := ["_law_script", "_law_k"]) fun _ _ _ _ _ _ us hl => match us, hl with | [_, _], _ => rfl
theorem cal_L_cell (T : Txt K mg) (F : FnOk P w K mg base CX0 k (He.ga K "_law_cell") (fdAt K (He.ga K "_law_cell")) ["_law_script", "_law_k"] sp) : Cal P w K mg base k "_law_cell" (He.ga K "_law_cell") ["_law_script", "_law_k"] sp := ⟨F, T.g_L_cell, T.d_L_cell.kp, b_L_cell T⟩
theorem sc_L_digits : FnScope ["_law_script", "_law_first", "_law_last", "_law_digits_here", "_law_k", "_law_cell_here", "_law_turn", "_law_seed"] ["_law_script", "_law_first", "_law_last"] (defScope s_L_digits) := ⟨rfl, rfl, rfl, by decide +kernel, rfl, by decide +kernel, by decide +kernel⟩
theorem b_L_digits (T : Txt K mg) : Binds K (fdAt K (He.ga K "_law_digits")) ["_law_script", "_law_first", "_law_last"] [] := T.d_L_digits.bindsN (ps := ["_law_script", "_law_first", "_law_last"]) fun _ _ _ _ _ _ us hl => match us, hl with | [_, _, _], _ => rfl
theorem cal_L_digits (T : Txt K mg) (F : FnOk P w K mg base CX0 k (He.ga K "_law_digits") (fdAt K (He.ga K "_law_digits")) ["_law_script", "_law_first", "_law_last"] sp) : Cal P w K mg base k "_law_digits" (He.ga K "_law_digits") ["_law_script", "_law_first", "_law_last"] sp := ⟨F, T.g_L_digits, T.d_L_digits.kp, b_L_digits T⟩
theorem sc_L_draw : FnScope ["_law_box", "_law_many", "_law_at"] ["_law_box", "_law_many"] (defScope s_L_draw) := ⟨rfl, rfl, rfl, by decide +kernel, rfl, by decide +kernel, by decide +kernel⟩
theorem b_L_draw (T : Txt K mg) : Binds K (fdAt K (He.ga K "_law_draw")) ["_law_box", "_law_many"] [] := T.d_L_draw.bindsN (ps := ["_law_box", "_law_many"]) fun _ _ _ _ _ _ us hl => match us, hl with | [_, _], _ => rfl
theorem cal_L_draw (T : Txt K mg) (F : FnOk P w K mg base CX0 k (He.ga K "_law_draw") (fdAt K (He.ga K "_law_draw")) ["_law_box", "_law_many"] sp) : Cal P w K mg base k "_law_draw" (He.ga K "_law_draw") ["_law_box", "_law_many"] sp := ⟨F, T.g_L_draw, T.d_L_draw.kp, b_L_draw T⟩
theorem sc_L_job : FnScope ["_law_box", "_law_duration", "_law_word", "_law_cleanup", "_law_fault"] ["_law_box"] (defScope s_L_job) := ⟨rfl, rfl, rfl, by decide +kernel, rfl, by decide +kernel, by decide +kernel⟩
theorem b_L_job (T : Txt K mg) : Binds K (fdAt K (He.ga K "_law_job")) ["_law_box"] [] := T.d_L_job.bindsN (ps := ["_law_box"]) fun _ _ _ _ _ _ us hl => match us, hl with | [_], _ => rfl
theorem cal_L_job (T : Txt K mg) (F : FnOk P w K mg base CX0 k (He.ga K "_law_job") (fdAt K (He.ga K "_law_job")) ["_law_box"] sp) : Cal P w K mg base k "_law_job" (He.ga K "_law_job") ["_law_box"] sp := ⟨F, T.g_L_job, T.d_L_job.kp, b_L_job T⟩
theorem sc_L_whole : FnScope ["_law_box", "_law_kind", "_law_tops"] ["_law_box", "_law_kind", "_law_tops"] (defScope s_L_whole) := ⟨rfl, rfl, rfl, by decide +kernel, rfl, by decide +kernel, by decide +kernel⟩
theorem b_L_whole (T : Txt K mg) : Binds K (fdAt K (He.ga K "_law_whole")) ["_law_box", "_law_kind", "_law_tops"] [] := T.d_L_whole.bindsN (ps := ["_law_box", "_law_kind", "_law_tops"]) fun _ _ _ _ _ _ us hl => match us, hl with | [_, _, _], _ => rfl
theorem cal_L_whole (T : Txt K mg) (F : FnOk P w K mg base CX0 k (He.ga K "_law_whole") (fdAt K (He.ga K "_law_whole")) ["_law_box", "_law_kind", "_law_tops"] sp) : Cal P w K mg base k "_law_whole" (He.ga K "_law_whole") ["_law_box", "_law_kind", "_law_tops"] sp := ⟨F, T.g_L_whole, T.d_L_whole.kp, b_L_whole T⟩
theorem sc_L_plan : FnScope ["_law_box", "_law_jobs", "_law_nodes", "_law_tops", "_law_deep", "_law_runs", "_law_turn", "_law_step", "_law_kind", "_law_many", "_law_times"] ["_law_box", "_law_jobs"] (defScope s_L_plan) := ⟨rfl, rfl, rfl, by decide +kernel, rfl, by decide +kernel, by decide +kernel⟩
theorem b_L_plan (T : Txt K mg) : Binds K (fdAt K (He.ga K "_law_plan")) ["_law_box", "_law_jobs"] [] := T.d_L_plan.bindsN (ps := ["_law_box", "_law_jobs"]) fun _ _ _ _ _ _ us hl => match us, hl with | [_, _], _ => rfl
theorem cal_L_plan (T : Txt K mg) (F : FnOk P w K mg base CX0 k (He.ga K "_law_plan") (fdAt K (He.ga K "_law_plan")) ["_law_box", "_law_jobs"] sp) : Cal P w K mg base k "_law_plan" (He.ga K "_law_plan") ["_law_box", "_law_jobs"] sp := ⟨F, T.g_L_plan, T.d_L_plan.kp, b_L_plan T⟩
theorem sc_L_parts : FnScope ["_law_node"] ["_law_node"] (defScope s_L_parts) := ⟨rfl, rfl, rfl, by decide +kernel, rfl, by decide +kernel, by decide +kernel⟩
theorem b_L_parts (T : Txt K mg) : Binds K (fdAt K (He.ga K "_law_parts")) ["_law_node"] [] := T.d_L_parts.bindsN (ps := ["_law_node"]) fun _ _ _ _ _ _ us hl => match us, hl with | [_], _ => rfl
theorem cal_L_parts (T : Txt K mg) (F : FnOk P w K mg base CX0 k (He.ga K "_law_parts") (fdAt K (He.ga K "_law_parts")) ["_law_node"] sp) : Cal P w K mg base k "_law_parts" (He.ga K "_law_parts") ["_law_node"] sp := ⟨F, T.g_L_parts, T.d_L_parts.kp, b_L_parts T⟩
theorem sc_L_sizes : FnScope ["_law_plan_here", "_law_rows", "_law_node", "_law_deep", "_law_runs", "_law_clean", "_law_part"] ["_law_plan_here"] (defScope s_L_sizes) := ⟨rfl, rfl, rfl, by decide +kernel, rfl, by decide +kernel, by decide +kernel⟩
theorem b_L_sizes (T : Txt K mg) : Binds K (fdAt K (He.ga K "_law_sizes")) ["_law_plan_here"] [] := T.d_L_sizes.bindsN (ps := ["_law_plan_here"]) fun _ _ _ _ _ _ us hl => match us, hl with | [_], _ => rfl
theorem cal_L_sizes (T : Txt K mg) (F : FnOk P w K mg base CX0 k (He.ga K "_law_sizes") (fdAt K (He.ga K "_law_sizes")) ["_law_plan_here"] sp) : Cal P w K mg base k "_law_sizes" (He.ga K "_law_sizes") ["_law_plan_here"] sp := ⟨F, T.g_L_sizes, T.d_L_sizes.kp, b_L_sizes T⟩
theorem sc_L_drawn : FnScope ["_law_box", "_law_kinds", "_law_jobs", "_law_plan_here", "_law_tops", "_law_kind", "_law_more"] ["_law_box", "_law_kinds", "_law_jobs"] (defScope s_L_drawn) := ⟨rfl, rfl, rfl, by decide +kernel, rfl, by decide +kernel, by decide +kernel⟩
theorem b_L_drawn (T : Txt K mg) : Binds K (fdAt K (He.ga K "_law_drawn")) ["_law_box", "_law_kinds", "_law_jobs"] [] := T.d_L_drawn.bindsN (ps := ["_law_box", "_law_kinds", "_law_jobs"]) fun _ _ _ _ _ _ us hl => match us, hl with | [_, _, _], _ => rfl
theorem cal_L_drawn (T : Txt K mg) (F : FnOk P w K mg base CX0 k (He.ga K "_law_drawn") (fdAt K (He.ga K "_law_drawn")) ["_law_box", "_law_kinds", "_law_jobs"] sp) : Cal P w K mg base k "_law_drawn" (He.ga K "_law_drawn") ["_law_box", "_law_kinds", "_law_jobs"] sp := ⟨F, T.g_L_drawn, T.d_L_drawn.kp, b_L_drawn T⟩
theorem sc_L_start : FnScope ["_law_box"] ["_law_box"] (defScope s_L_start) := ⟨rfl, rfl, rfl, by decide +kernel, rfl, by decide +kernel, by decide +kernel⟩
theorem b_L_start (T : Txt K mg) : Binds K (fdAt K (He.ga K "_law_start")) ["_law_box"] [] := T.d_L_start.bindsN (ps := ["_law_box"]) fun _ _ _ _ _ _ us hl => match us, hl with | [_], _ => rfl
theorem cal_L_start (T : Txt K mg) (F : FnOk P w K mg base CX0 k (He.ga K "_law_start") (fdAt K (He.ga K "_law_start")) ["_law_box"] sp) : Cal P w K mg base k "_law_start" (He.ga K "_law_start") ["_law_box"] sp := ⟨F, T.g_L_start, T.d_L_start.kp, b_L_start T⟩
theorem sc_L_cancel : FnScope ["_law_box", "_law_plan_here", "_law_start_here", "_law_trace", "_law_entry", "_law_at", "_law_kind"] ["_law_box", "_law_plan_here", "_law_start_here"] (defScope s_L_cancel) := ⟨rfl, rfl, rfl, by decide +kernel, rfl, by decide +kernel, by decide +kernel⟩
theorem b_L_cancel (T : Txt K mg) : Binds K (fdAt K (He.ga K "_law_cancel")) ["_law_box", "_law_plan_here", "_law_start_here"] [] := T.d_L_cancel.bindsN (ps := ["_law_box", "_law_plan_here", "_law_start_here"]) fun _ _ _ _ _ _ us hl => match us, hl with | [_, _, _], _ => rfl
theorem cal_L_cancel (T : Txt K mg) (F : FnOk P w K mg base CX0 k (He.ga K "_law_cancel") (fdAt K (He.ga K "_law_cancel")) ["_law_box", "_law_plan_here", "_law_start_here"] sp) : Cal P w K mg base k "_law_cancel" (He.ga K "_law_cancel") ["_law_box", "_law_plan_here", "_law_start_here"] sp := ⟨F, T.g_L_cancel, T.d_L_cancel.kp, b_L_cancel T⟩
theorem sc_L_first_of : FnScope ["_law_plan_here", "_law_at", "_law_turn"] ["_law_plan_here", "_law_at"] (defScope s_L_first_of) := ⟨rfl, rfl, rfl, by decide +kernel, rfl, by decide +kernel, by decide +kernel⟩
theorem b_L_first_of (T : Txt K mg) : Binds K (fdAt K (He.ga K "_law_first_of")) ["_law_plan_here", "_law_at"] [] := T.d_L_first_of.bindsN (ps := ["_law_plan_here", "_law_at"]) fun _ _ _ _ _ _ us hl => match us, hl with | [_, _], _ => rfl
theorem cal_L_first_of (T : Txt K mg) (F : FnOk P w K mg base CX0 k (He.ga K "_law_first_of") (fdAt K (He.ga K "_law_first_of")) ["_law_plan_here", "_law_at"] sp) : Cal P w K mg base k "_law_first_of" (He.ga K "_law_first_of") ["_law_plan_here", "_law_at"] sp := ⟨F, T.g_L_first_of, T.d_L_first_of.kp, b_L_first_of T⟩
theorem sc_L_moved : FnScope ["_law_node", "_law_less", "_law_part"] ["_law_node", "_law_less"] (defScope s_L_moved) := ⟨rfl, rfl, rfl, by decide +kernel, rfl, by decide +kernel, by decide +kernel⟩
theorem b_L_moved (T : Txt K mg) : Binds K (fdAt K (He.ga K "_law_moved")) ["_law_node", "_law_less"] [] := T.d_L_moved.bindsN (ps := ["_law_node", "_law_less"]) fun _ _ _ _ _ _ us hl => match us, hl with | [_, _], _ => rfl
theorem cal_L_moved (T : Txt K mg) (F : FnOk P w K mg base CX0 k (He.ga K "_law_moved") (fdAt K (He.ga K "_law_moved")) ["_law_node", "_law_less"] sp) : Cal P w K mg base k "_law_moved" (He.ga K "_law_moved") ["_law_node", "_law_less"] sp := ⟨F, T.g_L_moved, T.d_L_moved.kp, b_L_moved T⟩
theorem sc_L_sub : FnScope ["_law_plan_here", "_law_at", "_law_first", "_law_node"] ["_law_plan_here", "_law_at"] (defScope s_L_sub) := ⟨rfl, rfl, rfl, by decide +kernel, rfl, by decide +kernel, by decide +kernel⟩
theorem b_L_sub (T : Txt K mg) : Binds K (fdAt K (He.ga K "_law_sub")) ["_law_plan_here", "_law_at"] [] := T.d_L_sub.bindsN (ps := ["_law_plan_here", "_law_at"]) fun _ _ _ _ _ _ us hl => match us, hl with | [_, _], _ => rfl
theorem cal_L_sub (T : Txt K mg) (F : FnOk P w K mg base CX0 k (He.ga K "_law_sub") (fdAt K (He.ga K "_law_sub")) ["_law_plan_here", "_law_at"] sp) : Cal P w K mg base k "_law_sub" (He.ga K "_law_sub") ["_law_plan_here", "_law_at"] sp := ⟨F, T.g_L_sub, T.d_L_sub.kp, b_L_sub T⟩
theorem sc_L_earlier : FnScope ["_law_one", "_law_two"] ["_law_one", "_law_two"] (defScope s_L_earlier) := ⟨rfl, rfl, rfl, by decide +kernel, rfl, by decide +kernel, by decide +kernel⟩
theorem b_L_earlier (T : Txt K mg) : Binds K (fdAt K (He.ga K "_law_earlier")) ["_law_one", "_law_two"] [] := T.d_L_earlier.bindsN (ps := ["_law_one", "_law_two"]) fun _ _ _ _ _ _ us hl => match us, hl with | [_, _], _ => rfl
theorem cal_L_earlier (T : Txt K mg) (F : FnOk P w K mg base CX0 k (He.ga K "_law_earlier") (fdAt K (He.ga K "_law_earlier")) ["_law_one", "_law_two"] sp) : Cal P w K mg base k "_law_earlier" (He.ga K "_law_earlier") ["_law_one", "_law_two"] sp := ⟨F, T.g_L_earlier, T.d_L_earlier.kp, b_L_earlier T⟩
theorem sc_L_late : FnScope ["_law_instant", "_law_cancel_here"] ["_law_instant", "_law_cancel_here"] (defScope s_L_late) := ⟨rfl, rfl, rfl, by decide +kernel, rfl, by decide +kernel, by decide +kernel⟩
theorem b_L_late (T : Txt K mg) : Binds K (fdAt K (He.ga K "_law_late")) ["_law_instant", "_law_cancel_here"] [] := T.d_L_late.bindsN (ps := ["_law_instant", "_law_cancel_here"]) fun _ _ _ _ _ _ us hl => match us, hl with | [_, _], _ => rfl
theorem cal_L_late (T : Txt K mg) (F : FnOk P w K mg base CX0 k (He.ga K "_law_late") (fdAt K (He.ga K "_law_late")) ["_law_instant", "_law_cancel_here"] sp) : Cal P w K mg base k "_law_late" (He.ga K "_law_late") ["_law_instant", "_law_cancel_here"] sp := ⟨F, T.g_L_late, T.d_L_late.kp, b_L_late T⟩
theorem sc_L_alike : FnScope ["_law_one", "_law_two"] ["_law_one", "_law_two"] (defScope s_L_alike) := ⟨rfl, rfl, rfl, by decide +kernel, rfl, by decide +kernel, by decide +kernel⟩
theorem b_L_alike (T : Txt K mg) : Binds K (fdAt K (He.ga K "_law_alike")) ["_law_one", "_law_two"] [] := T.d_L_alike.bindsN (ps := ["_law_one", "_law_two"]) fun _ _ _ _ _ _ us hl => match us, hl with | [_, _], _ => rfl
theorem cal_L_alike (T : Txt K mg) (F : FnOk P w K mg base CX0 k (He.ga K "_law_alike") (fdAt K (He.ga K "_law_alike")) ["_law_one", "_law_two"] sp) : Cal P w K mg base k "_law_alike" (He.ga K "_law_alike") ["_law_one", "_law_two"] sp := ⟨F, T.g_L_alike, T.d_L_alike.kp, b_L_alike T⟩
theorem sc_L_begin : FnScope ["_law_parts_here", "_law_size", "_law_k", "_law_start_here", "_law_ends", "_law_part"] ["_law_parts_here", "_law_size", "_law_k", "_law_start_here"] (defScope s_L_begin) := ⟨rfl, rfl, rfl, by decide +kernel, rfl, by decide +kernel, by decide +kernel⟩
theorem b_L_begin (T : Txt K mg) : Binds K (fdAt K (He.ga K "_law_begin")) ["_law_parts_here", "_law_size", "_law_k", "_law_start_here"] [] := T.d_L_begin.bindsN (ps := ["_law_parts_here", "_law_size", "_law_k", "_law_start_here"]) fun _ _ _ _ _ _ us hl => match us, hl with | [_, _, _, _], _ => rfl
theorem cal_L_begin (T : Txt K mg) (F : FnOk P w K mg base CX0 k (He.ga K "_law_begin") (fdAt K (He.ga K "_law_begin")) ["_law_parts_here", "_law_size", "_law_k", "_law_start_here"] sp) : Cal P w K mg base k "_law_begin" (He.ga K "_law_begin") ["_law_parts_here", "_law_size", "_law_k", "_law_start_here"] sp := ⟨F, T.g_L_begin, T.d_L_begin.kp, b_L_begin T⟩
theorem sc_L_pass : FnScope ["_law_subs", "_law_size", "_law_path", "_law_start_here", "_law_settled", "_law_parts_here", "_law_k", "_law_begin_here", "_law_ended"] ["_law_subs", "_law_size", "_law_path", "_law_start_here", "_law_settled"] (defScope s_L_pass) := ⟨rfl, rfl, rfl, by decide +kernel, rfl, by decide +kernel, by decide +kernel⟩
theorem b_L_pass (T : Txt K mg) : Binds K (fdAt K (He.ga K "_law_pass")) ["_law_subs", "_law_size", "_law_path", "_law_start_here", "_law_settled"] [] := T.d_L_pass.bindsN (ps := ["_law_subs", "_law_size", "_law_path", "_law_start_here", "_law_settled"]) fun _ _ _ _ _ _ us hl => match us, hl with | [_, _, _, _, _], _ => rfl
theorem cal_L_pass (T : Txt K mg) (F : FnOk P w K mg base CX0 k (He.ga K "_law_pass") (fdAt K (He.ga K "_law_pass")) ["_law_subs", "_law_size", "_law_path", "_law_start_here", "_law_settled"] sp) : Cal P w K mg base k "_law_pass" (He.ga K "_law_pass") ["_law_subs", "_law_size", "_law_path", "_law_start_here", "_law_settled"] sp := ⟨F, T.g_L_pass, T.d_L_pass.kp, b_L_pass T⟩
theorem sc_L_due : FnScope ["_law_plan_here", "_law_path", "_law_start_here", "_law_cancel_here", "_law_size", "_law_subs", "_law_at", "_law_settled", "_law_part", "_law_ended", "_law_values", "_law_errors", "_law_whole_here", "_law_trace", "_law_told"] ["_law_plan_here", "_law_path", "_law_start_here", "_law_cancel_here"] (defScope s_L_due) := ⟨rfl, rfl, rfl, by decide +kernel, rfl, by decide +kernel, by decide +kernel⟩
theorem b_L_due (T : Txt K mg) : Binds K (fdAt K (He.ga K "_law_due")) ["_law_plan_here", "_law_path", "_law_start_here", "_law_cancel_here"] [] := T.d_L_due.bindsN (ps := ["_law_plan_here", "_law_path", "_law_start_here", "_law_cancel_here"]) fun _ _ _ _ _ _ us hl => match us, hl with | [_, _, _, _], _ => rfl
theorem cal_L_due (T : Txt K mg) (F : FnOk P w K mg base CX0 k (He.ga K "_law_due") (fdAt K (He.ga K "_law_due")) ["_law_plan_here", "_law_path", "_law_start_here", "_law_cancel_here"] sp) : Cal P w K mg base k "_law_due" (He.ga K "_law_due") ["_law_plan_here", "_law_path", "_law_start_here", "_law_cancel_here"] sp := ⟨F, T.g_L_due, T.d_L_due.kp, b_L_due T⟩
theorem sc_law : FnScope ["_law_script", "_law_box", "_law_turn", "_law_plan_here", "_law_start_here", "_law_cancel_here", "_law_path", "_law_due_here"] ["_law_script"] (defScope s_law) := ⟨rfl, rfl, rfl, by decide +kernel, rfl, by decide +kernel, by decide +kernel⟩
theorem b_law (T : Txt K mg) : Binds K (fdAt K (He.ga K "law")) ["_law_script"] [] := T.d_law.bindsN (ps := ["_law_script"]) fun _ _ _ _ _ _ us hl => match us, hl with | [_], _ => rfl
theorem cal_law (T : Txt K mg) (F : FnOk P w K mg base CX0 k (He.ga K "law") (fdAt K (He.ga K "law")) ["_law_script"] sp) : Cal P w K mg base k "law" (He.ga K "law") ["_law_script"] sp := ⟨F, T.g_law, T.d_law.kp, b_law T⟩
end
end Asf
set_option Elab.async false
set_option linter.all false
set_option maxRecDepth 100000
set_option maxHeartbeats 4000000
namespace Asf
open PySem PySem.Spec PyProof.Rows L2
/-! ### rules of data -/
section
variable {K : PySem.W.Frag} {H H' : Hp}
theorem DDs.atI {xs : List V} {ds : List PyData} (h : DDs K H xs ds) {i : Int} {d : PyData} (e : L2.atI ds i = some d) : ∃ v, L2.atI xs i = some v ∧ DD K H v d := by
  have hl := h.len
  unfold L2.atI at e ⊢
  rw [hl]
  cases q : ixN ds.length i with
  | none => rw [q] at e; cases e
  | some j =>
    rw [q] at e
    exact DDs.get h e
theorem new_dd {p : Addr} {xs : List V} {ds : List PyData} (hp : H p = none) (h : DDs K H xs ds) : DD K (upd H p (.tup xs)) (.ref p) (.tuple ds) := .tup upd_same (DDs.mono (TK.new hp) _ _ h)
theorem DD.mk0 {v : V} {d : PyData} (k : Kp none H H') (h : DD K H v d) : DD K H' v d := DD.mono k.tk0 _ _ h
theorem DDs.mk0 {v : List V} {d : List PyData} (k : Kp none H H') (h : DDs K H v d) : DDs K H' v d := DDs.mono k.tk0 _ _ h
theorem OIns.mk0 {v : V} {c : Option Ins} (k : Kp none H H') (h : OIns H v c) : OIns H' v c := h.mono k.tk0
theorem InsAt.mk0 {v : V} {c : Ins} (k : Kp none H H') (h : InsAt H v c) : InsAt H' v c := h.mono k.tk0
end
/-- a datum comes back, all stays -/
def Ret (K : PySem.W.Frag) (H : Hp) (d : PyData) (Q : VK) : Prop := ∀ v H', Kp none H H' → DD K H' v d → Q v H'
theorem Ret.here {K : PySem.W.Frag} {H : Hp} {d : PyData} {Q : VK} (r : Ret K H d Q) {v : V} (h : DD K H v d) : Q v H := r v H (Kp.refl _ _) h
theorem Ret.new {K : PySem.W.Frag} {H : Hp} {ds : List PyData} {Q : VK} (r : Ret K H (.tuple ds) Q) {p : Addr} {xs : List V} (hp : H p = none) (h : DDs K H xs ds) : Q (.ref p) (upd H p (.tup xs)) := r _ _ (Kp.new hp) (new_dd hp h)
theorem Ret.mono {K : PySem.W.Frag} {H H' : Hp} {d : PyData} {Q : VK} (r : Ret K H d Q) (k : Kp none H H') : Ret K H' d Q := fun v H2 k2 h => r v H2 (k.trans k2) h
section
variable {X : Cx}
def rIxD (K : PySem.W.Frag) : R2 := fun x y H Q => ∃ ds i d, DD K H x (.tuple ds) ∧ y = .int i ∧ L2.atI ds i = some d ∧ ∀ v, DD K H v d → Q v H
theorem ix_dd : IxR X (rIxD X.K) := by
  intro value slice pins s σ H x y v u Q I rx ry h hs
  obtain ⟨ds, i, d, h1, h2, h3, q⟩ := h
  obtain ⟨a, xs, e, hq, hd⟩ := h1.sq
  obtain ⟨z, e1, hz⟩ := hd.atI h3
  exact ix_tup value slice pins s σ H x y v u Q I rx ry ⟨a, xs, i, z, e, h2, hq, e1, q z hz⟩ hs
def rCatD (K : PySem.W.Frag) : R2 := fun x y H Q => ∃ ds es, DD K H x (.tuple ds) ∧ DD K H y (.tuple es) ∧ ds.length + es.length ≤ sizeLine ∧ Ret K H (.tuple (ds ++ es)) Q
theorem op_catD : OpR X (binaryOp .Add) (rCatD X.K) := by
  intro pins s σ H x y v u Q I rx ry h
  obtain ⟨ds, es, h1, h2, hl, q⟩ := h
  obtain ⟨a, xs, e1, hq1, hd1⟩ := h1.sq
  obtain ⟨b, ys, e2, hq2, hd2⟩ := h2.sq
  refine op_catA pins s σ H x y v u Q I rx ry ⟨a, b, xs, ys, e1, e2, hq1, hq2, by rw [hd1.len, hd2.len]; exact hl, fun z => ?_, fun _ z => ?_, fun _ _ p hp => q.new hp (hd1.app hd2)⟩
  · subst z e2
    cases hd1
    exact q.here h2
  · subst z e1
    cases hd2
    rw [List.append_nil] at q
    exact q.here h1
theorem DDs.drop : ∀ {K : PySem.W.Frag} {H : Hp} {xs : List V} {ds : List PyData} (n : Nat), DDs K H xs ds → DDs K H (xs.drop n) (ds.drop n)
  | _, _, _, _, 0, h => h
  | _, _, _, [], n + 1, h => by cases h; exact .nil
  | _, _, _, d :: ds, n + 1, h => by
    cases h with
    | cons h1 h2 => exact DDs.drop n h2
theorem DDs.take : ∀ {K : PySem.W.Frag} {H : Hp} {xs : List V} {ds : List PyData} (n : Nat), DDs K H xs ds → DDs K H (xs.take n) (ds.take n)
  | _, _, _, _, 0, h => .nil
  | _, _, _, [], n + 1, h => by cases h; exact .nil
  | _, _, _, d :: ds, n + 1, h => by
    cases h with
    | cons h1 h2 => exact .cons h1 (DDs.take n h2)
def cutD (xs : List PyData) (lo hi : Option Int) : List PyData := (xs.drop (HT.sIx xs.length 0 lo)).take (HT.sIx xs.length xs.length hi - HT.sIx xs.length 0 lo)
def rSlD (K : PySem.W.Frag) : V → Option Int → Option Int → Hp → VK → Prop := fun x lo hi H Q => ∃ ds, DD K H x (.tuple ds) ∧ Ret K H (.tuple (cutD ds lo hi)) Q
theorem sl_dd : SlR X (rSlD X.K) := by
  intro pins s σ H x v vl vu lo hi sl Q I rx hs pl pu h
  obtain ⟨ds, h1, q⟩ := h
  obtain ⟨a, xs, e1, hq1, hd1⟩ := h1.sq
  have hl := hd1.len
  refine sl_tupA pins s σ H x v vl vu lo hi sl Q I rx hs pl pu ⟨a, xs, e1, hq1, fun hw => ?_, fun _ p hp => ?_⟩
  · rw [hl] at hw
    have e : cutD ds lo hi = ds := by
      unfold cutD
      rw [hw.1, hw.2, List.drop_zero, Nat.sub_zero, List.take_length]
    rw [e] at q
    subst e1
    exact q.here h1
  · refine q.new hp ?_
    unfold L2.cutV cutD
    rw [hl]
    exact (hd1.drop _).take _
end
/-! ### what the program's things look like -/
def ocS : Oc → Str
  | .com => "completed"
  | .fai => "failed"
  | .can => "cancelled"
theorem dCom (o : Oc) : decide (V.str (ocS o) = V.str "completed") = decide (o = .com) := by cases o <;> decide
theorem dFai (o : Oc) : decide (V.str (ocS o) = V.str "failed") = decide (o = .fai) := by cases o <;> decide
theorem dOc (o q : Oc) : decide (V.str (ocS o) = V.str (ocS q)) = decide (o = q) := by cases o <;> cases q <;> decide
def eEr : Er → PyData
  | .num i => .int i
  | .dl => .str "deadline exceeded"
abbrev eRes (r : List Er) : PyData := .tuple (r.map eEr)
abbrev eEndL (e : End) : List PyData := [eI e.en, .str (ocS e.oc), eRes e.res]
abbrev eEnd (e : End) : PyData := .tuple (eEndL e)
abbrev ePath (p : Path) : PyData := .tuple (p.map .int)
abbrev eTold (t : Oc × List Er) : PyData := .tuple [.str (ocS t.1), eRes t.2]
abbrev eEntry (e : Entry) : PyData := .tuple [ePath e.path, eO e.start, eI e.en.en, .str (ocS e.en.oc), eRes e.en.res]
def kdS : Kd → Str
  | .all => "all"
  | .race => "race"
  | .any => "any"
def eF : Option Int → PyData
  | none => .none
  | some i => .int i
abbrev eN (n : Nat) : PyData := .int (n : Int)
abbrev eIdx (l : List Nat) : PyData := .tuple (l.map eN)
def eNodeL (t : T) (o : Nat) : List PyData := match t with
  | .job d g v cl f => [.str "job", .int d, .str (if g = true then "gives" else "throws"), .int v, .int cl, eF f]
  | .scope k ps => [.str (kdS k), eIdx (idxL ps o)]
  | .pool n ps => [.str "pool", .int n, eIdx (idxL ps o)]
  | .seq ps => [.str "sequence", eIdx (idxL ps o)]
  | .timeout k p => [.str "timeout", .int k, eN (o + size p - 1)]
  | .orelse p q => [.str "orelse", eN (o + size p - 1), eN (o + size p + size q - 1)]
  | .retry n d p => [.str "retry", .int n, .int d, eN (o + size p - 1)]
abbrev eNode (t : T) (o : Nat) : PyData := .tuple (eNodeL t o)
/-- the node at i of a plan -/
abbrev eAt (i : Nat) (t : T) : PyData := eNode t (lo i t)
abbrev ePlanL (ts : List T) : List PyData := ts.mapIdx eAt
abbrev ePlan (ts : List T) : PyData := .tuple (ePlanL ts)
def kindS : T → Str
  | .job .. => "job"
  | .scope k _ => kdS k
  | .pool .. => "pool"
  | .seq _ => "sequence"
  | .timeout .. => "timeout"
  | .orelse .. => "orelse"
  | .retry .. => "retry"
theorem eNodeL_head (t : T) (o : Nat) : ∃ ds, eNodeL t o = .str (kindS t) :: ds := by
  cases t <;> exact ⟨_, rfl⟩
theorem eAt_get {ts : List T} {i : Nat} {t : T} (h : ts[i]? = some t) : (ePlanL ts)[i]? = some (eAt i t) := by
  show (ts.mapIdx eAt)[i]? = _
  rw [List.getElem?_mapIdx, h]
  rfl
theorem itT {b : Bool} {A B : Prop} (e : b = true) (h : A) : if b = true then A else B := by rw [if_pos e]; exact h
theorem itF {b : Bool} {A B : Prop} (e : b = false) (h : B) : if b = true then A else B := by rw [e, if_neg Bool.false_ne_true]; exact h
theorem itB {b : Bool} {A B : Prop} (h1 : b = true → A) (h2 : b = false → B) : if b = true then A else B := by
  cases e : b with
  | true => exact itT rfl (h1 e)
  | false => exact itF rfl (h2 e)
theorem decStr (a b : Str) : decide (V.str a = V.str b) = decide (a = b) := by
  by_cases e : a = b
  · rw [decide_eq_true e, decide_eq_true (congrArg V.str e)]
  · rw [decide_eq_false e, decide_eq_false (fun z => e (V.str.inj z))]
theorem decInt (a b : Int) : decide (V.int a = V.int b) = decide (a = b) := by
  by_cases e : a = b
  · rw [decide_eq_true e, decide_eq_true (congrArg V.int e)]
  · rw [decide_eq_false e, decide_eq_false (fun z => e (V.int.inj z))]
section
variable {K : PySem.W.Frag} {H : Hp} {σ : L2.St}
theorem rd_if {c : TT} {t u : TS} {D : Ends} (h : c σ H fun b H1 => if b = true then t D σ H1 else u D σ H1) : tIfS c t u D σ H := h
theorem rd_gn {i : Nat} {v : V} {N : L2.St → Hp → Prop} (h : N (σ.set i (some v)) H) : gName i v σ H N := h
theorem rd_next {D : Ends} (h : D.nx σ H) : tNext D σ H := h
theorem elF {b : Bool} {A : Prop} {N : L2.St → Hp → Prop} {c d : L2.St → Hp → Prop} {r : VK} (e : b = false) (h : N σ H) : if b = true then A else tNext { nx := N, bk := c, ct := d, rt := r } σ H := itF e h
theorem rd_seq {t u : TS} {D : Ends} (h : t { D with nx := u D } σ H) : tSeq t u D σ H := h
theorem rd_and {t u : TT} {A B : Bool} {Q : Bool → Hp → Prop} (ha : ∀ R : Bool → Hp → Prop, R A H → t σ H R) (hb : ∀ R : Bool → Hp → Prop, R B H → u σ H R) (q : Q (A && B) H) : tAnd t u σ H Q := ha _ (by
  cases A with
  | true => exact itT rfl (hb _ q)
  | false => exact itF rfl q)
theorem rd_andI {t u : TT} {A B : Bool} {Q : Bool → Hp → Prop} (ha : ∀ R : Bool → Hp → Prop, R A H → t σ H R) (hb : A = true → ∀ R : Bool → Hp → Prop, R B H → u σ H R) (q : Q (A && B) H) : tAnd t u σ H Q := ha _ (by
  cases A with
  | true => exact itT rfl (hb rfl _ q)
  | false => exact itF rfl q)
/-- name = e, then the rest -/
theorem rd_sa {te : TE} {i : Nat} {u : TS} {D : Ends} (h : te σ H fun x H1 => u D (σ.set i (some x)) H1) : tSeq (tAsg te (gName i)) u D σ H := h
theorem rd_or {t u : TT} {A B : Bool} {Q : Bool → Hp → Prop} (ha : ∀ R : Bool → Hp → Prop, R A H → t σ H R) (hb : ∀ R : Bool → Hp → Prop, R B H → u σ H R) (q : Q (A || B) H) : tOr t u σ H Q := ha _ (by
  cases A with
  | true => exact itT rfl q
  | false => exact itF rfl (hb _ q))
/-- v[j] of a datum -/
theorem rd_ix {ta : TE} {v : V} {ds : List PyData} {j : Int} {d : PyData} {Q : VK} (ha : ∀ Q : VK, Q v H → ta σ H Q) (h : DD K H v (.tuple ds)) (e : L2.atI ds j = some d) (q : ∀ x, DD K H x d → Q x H) : tOp (rIxD K) ta (tC (.int j)) σ H Q := ha _ ⟨ds, j, d, h, rfl, e, q⟩
theorem rd_var {i : Nat} {v : V} (h : σ[i]? = some (some v)) : ∀ Q : VK, Q v H → tVar i σ H Q := fun _ q => ⟨v, h, q⟩
/-- v[j] == lit -/
theorem rd_ixS {ta : TE} {v : V} {ds : List PyData} {j : Int} {a b : Str} {Q : Bool → Hp → Prop} (ha : ∀ Q : VK, Q v H → ta σ H Q) (h : DD K H v (.tuple ds)) (e : L2.atI ds j = some (.str a)) (q : Q (decide (a = b)) H) : tTest (tOp rEq (tOp (rIxD K) ta (tC (.int j))) (tC (.str b))) σ H Q :=
  rd_ix ha h e fun x hx => by
    cases hx.to_str
    exact ⟨rfl, _, rfl, by rw [decStr]; exact q⟩
theorem rd_ixN {ta : TE} {v : V} {ds : List PyData} {j : Int} {a b : Str} {Q : Bool → Hp → Prop} (ha : ∀ Q : VK, Q v H → ta σ H Q) (h : DD K H v (.tuple ds)) (e : L2.atI ds j = some (.str a)) (q : Q (!decide (a = b)) H) : tTest (tOp rNe (tOp (rIxD K) ta (tC (.int j))) (tC (.str b))) σ H Q :=
  rd_ix ha h e fun x hx => by
    cases hx.to_str
    exact ⟨rfl, _, rfl, by rw [decStr]; exact q⟩
theorem rd_kind (a : Str) {i : Nat} {v : V} {t : T} {o : Nat} {s : Str} {Q : Bool → Hp → Prop} (hv : σ[i]? = some (some v)) (h : DD K H v (eNode t o)) (ea : kindS t = a) (q : Q (decide (a = s)) H) : tTest (tOp rEq (tOp (rIxD K) (tVar i) (tC (.int 0))) (tC (.str s))) σ H Q := by
  obtain ⟨ds, e⟩ := eNodeL_head t o
  refine rd_ixS (rd_var hv) h ?_ q
  rw [e, ← ea]
  exact L2.atI_nat (j := 0) rfl
theorem g_dd {n : Nat} {v : V} {ds : List PyData} {g : TGs} {Q : L2.St → Hp → Prop} (h : DD K H v (.tuple ds)) (hl : ds.length = n) (q : ∀ xs, DDs K H xs ds → g xs σ H Q) : gTup K n g v σ H Q := by
  obtain ⟨a, xs, e, hq, hd⟩ := h.sq
  exact ⟨a, xs, e, hq, by rw [hd.len, hl], q xs hd⟩
end
theorem eqOcF (o : Oc) : decide (ocS o = "failed") = decide (o = .fai) := by cases o <;> decide
theorem eqOcC (o : Oc) : decide (ocS o = "completed") = decide (o = .com) := by cases o <;> decide
/-! loops over what stands still, the body as it is -/
theorem lcL {K : PySem.W.Frag} {a : Addr} {xs : List V} {H1 : Hp} {Qd : Hp → Prop} {body : (Hp → Prop) → V → Hp → Prop} (Pv : Nat → Hp → Prop) (h0 : Pv 0 H1) (hl : ∀ i H, i ≤ xs.length → Pv i H → SqL K H a xs)
    (hs : ∀ i x H, xs[i]? = some x → Pv i H → body (Pv (i + 1)) x H) (hd : ∀ H, Pv xs.length H → Qd H) :
    ∃ W : Nat → Nat → Hp → Prop, (∃ m, W 0 m H1) ∧ ∀ i m H, W i m H →
      ((Itl K a).stop i H ∧ Qd H) ∨ ((Itl K a).go i H ∧ ∃ Nx : Hp → Prop, (∀ H', Nx H' → ∃ m', m' < m ∧ W (i + 1) m' H') ∧ ∀ x H', (Itl K a).yld i H x H' → body Nx x H') := by
  refine ⟨fun i m H => m = xs.length - i ∧ i ≤ xs.length ∧ Pv i H, ⟨xs.length, by simp, Nat.zero_le _, h0⟩, ?_⟩
  rintro i m H ⟨rfl, hi, p⟩
  have q := hl i H hi p
  by_cases hlt : i < xs.length
  · refine .inr ⟨⟨xs, xs[i], q, by simp [hlt]⟩, Pv (i + 1), fun H' p' => ⟨xs.length - (i + 1), by omega, rfl, hlt, p'⟩, fun x H' y => ?_⟩
    obtain ⟨e, y⟩ := y
    subst e
    exact hs i x _ (y xs q) p
  · have e : i = xs.length := by omega
    subst e
    exact .inl ⟨⟨xs, q, Nat.le_refl _⟩, hd H p⟩
theorem lcT {K : PySem.W.Frag} {a : Addr} {xs : List V} {H1 : Hp} {Qd : Hp → Prop} {body : (Hp → Prop) → V → Hp → Prop} (Pv : Nat → Hp → Prop) (h0 : Pv 0 H1) (hl : ∀ i H, i ≤ xs.length → Pv i H → SqT K H a xs)
    (hs : ∀ i x H, xs[i]? = some x → Pv i H → body (Pv (i + 1)) x H) (hd : ∀ H, Pv xs.length H → Qd H) :
    ∃ W : Nat → Nat → Hp → Prop, (∃ m, W 0 m H1) ∧ ∀ i m H, W i m H →
      ((Itt K a).stop i H ∧ Qd H) ∨ ((Itt K a).go i H ∧ ∃ Nx : Hp → Prop, (∀ H', Nx H' → ∃ m', m' < m ∧ W (i + 1) m' H') ∧ ∀ x H', (Itt K a).yld i H x H' → body Nx x H') := by
  refine ⟨fun i m H => m = xs.length - i ∧ i ≤ xs.length ∧ Pv i H, ⟨xs.length, by simp, Nat.zero_le _, h0⟩, ?_⟩
  rintro i m H ⟨rfl, hi, p⟩
  have q := hl i H hi p
  by_cases hlt : i < xs.length
  · refine .inr ⟨⟨xs, xs[i], q, by simp [hlt]⟩, Pv (i + 1), fun H' p' => ⟨xs.length - (i + 1), by omega, rfl, hlt, p'⟩, fun x H' y => ?_⟩
    obtain ⟨e, y⟩ := y
    subst e
    exact hs i x _ (y xs q) p
  · have e : i = xs.length := by omega
    subst e
    exact .inl ⟨⟨xs, q, Nat.le_refl _⟩, hd H p⟩
/-- a list of data that grows at D -/
def Gr (K : PySem.W.Frag) (B : Option Addr) (H0 : Hp) (D : Addr) (ds : List PyData) (H : Hp) : Prop := Kp B H0 H ∧ ∃ acc, H D = some (.lst acc) ∧ DDs K H acc ds
section
variable {K : PySem.W.Frag} {B : Option Addr} {H0 H H' : Hp} {D : Addr} {ds : List PyData}
theorem Gr.start (n : H0 D = none) : Gr K B H0 D [] (upd H0 D (.lst [])) := ⟨Kp.new n, [], upd_same, .nil⟩
theorem Gr.add (g : Gr K B H0 D ds H) (n : H0 D = none) (k : Kp B H H') (tk : TK H H') (hB : B ≠ some D) {y : V} {d : PyData} (h : DD K H' y d) (hl : ds.length < sizeLine) :
    ∃ acc, H' D = some (.lst acc) ∧ acc.length < sizeLine ∧ Gr K B H0 D (ds ++ [d]) (upd H' D (.lst (acc ++ [y]))) := by
  obtain ⟨g1, acc, g2, g3⟩ := g
  have e := k D _ g2 hB
  have tp : TK H' (upd H' D (.lst (acc ++ [y]))) := TK.put e (fun xs z => by cases z)
  refine ⟨acc, e, by rw [g3.len]; exact hl, fun a o ha hb => ?_, acc ++ [y], upd_same, (DDs.mono tp _ _ (DDs.mono tk _ _ g3)).app (.cons (DD.mono tp _ _ h) .nil)⟩
  rw [upd_ne (ne_of_none ha n)]
  exact k a o (g1 a o ha hb) hb
theorem Gr.add0 (g : Gr K none H0 D ds H) (n : H0 D = none) (k : Kp none H H') {y : V} {d : PyData} (h : DD K H' y d) (hl : ds.length < sizeLine) :
    ∃ acc, H' D = some (.lst acc) ∧ acc.length < sizeLine ∧ Gr K none H0 D (ds ++ [d]) (upd H' D (.lst (acc ++ [y]))) := g.add n k k.tk0 (by simp) h hl
theorem Gr.stay (g : Gr K B H0 D ds H) (k : Kp B H H') (tk : TK H H') (hB : B ≠ some D) : Gr K B H0 D ds H' := by
  obtain ⟨g1, acc, g2, g3⟩ := g
  exact ⟨g1.trans k, acc, k D _ g2 hB, DDs.mono tk _ _ g3⟩
theorem sqL_keep {a : Addr} {xs : List V} (h : SqL K H a xs) (k : Kp none H H') : SqL K H' a xs := by
  rcases h with (h | ⟨o, h⟩) | h
  · exact .inl (.inl (k _ _ h (by simp)))
  · exact .inl (.inr ⟨o, k _ _ h (by simp)⟩)
  · exact .inr h
theorem sqT_keep {a : Addr} {xs : List V} (h : SqT K H a xs) (k : Kp none H H') : SqT K H' a xs := by
  rcases h with (h | ⟨o, h⟩) | h
  · exact .inl (.inl (k _ _ h (by simp)))
  · exact .inl (.inr ⟨o, k _ _ h (by simp)⟩)
  · exact .inr h
end
theorem take_succ_map {α β : Type} (f : α → β) (xs : List α) {i : Nat} {x : α} (h : xs[i]? = some x) : (xs.take (i + 1)).map f = (xs.take i).map f ++ [f x] := by
  rw [List.take_add_one, h]
  simp
theorem take_succ_flat {α β : Type} (f : α → List β) (xs : List α) {i : Nat} {x : α} (h : xs[i]? = some x) : (xs.take (i + 1)).flatMap f = (xs.take i).flatMap f ++ f x := by
  rw [List.take_add_one, h]
  simp
theorem map_get {α β : Type} {f : α → β} {xs : List α} {i : Nat} {d : β} (h : (xs.map f)[i]? = some d) : ∃ x, xs[i]? = some x ∧ d = f x := by
  rw [List.getElem?_map] at h
  obtain ⟨x, h1, h2⟩ := Option.map_eq_some_iff.mp h
  exact ⟨x, h1, h2.symm⟩
section
variable {K : PySem.W.Frag} {H : Hp}
theorem DDs.of_get : ∀ {xs : List V} {ds : List PyData}, DDs K H xs ds → ∀ {j : Nat} {x : V}, xs[j]? = some x → ∃ d, ds[j]? = some d ∧ DD K H x d
  | _, [], h, j, x, e => by cases h; simp at e
  | _, d :: ds, h, 0, x, e => by
    cases h with
    | cons h1 h2 =>
      have e := Option.some.inj (show some _ = some x from e)
      subst e
      exact ⟨_, rfl, h1⟩
  | _, d :: ds, h, j + 1, x, e => by
    cases h with
    | cons h1 h2 =>
      obtain ⟨v, q1, q2⟩ := DDs.of_get h2 (j := j) (x := x) (by simpa using e)
      exact ⟨v, by simpa using q1, q2⟩
end
/-! tuples that may be the written one -/
def DT (K : PySem.W.Frag) (H : Hp) (v : V) (ds : List PyData) : Prop := ∃ a xs, v = .ref a ∧ SqT K H a xs ∧ DDs K H xs ds
section
variable {K : PySem.W.Frag} {H H' : Hp}
theorem DD.dt {v : V} {ds : List PyData} (h : DD K H v (.tuple ds)) : DT K H v ds := h.sq
theorem DT.mk0 {v : V} {ds : List PyData} (k : Kp none H H') (h : DT K H v ds) : DT K H' v ds := by
  obtain ⟨a, xs, h1, h2, h3⟩ := h
  exact ⟨a, xs, h1, sqT_keep h2 k, h3.mk0 k⟩
theorem CanT.dt (h : CanT K) (H : Hp) : DT K H (.ref (He.ga K "CANCELLED")) [.str "cancelled", .tuple []] := by
  obtain ⟨e, h1, h2⟩ := h
  exact ⟨_, _, rfl, h2 H, .cons (.str _) (.cons (.emp h1) .nil)⟩
theorem DDs.insts : ∀ {xs : List V} {is : List Ins}, DDs K H xs (is.map eI) → Paired (InsAt H) xs is
  | _, [], h => by cases h; exact .nil
  | _, i :: is, h => by
    cases h with
    | cons h1 h2 => exact .cons h1.ins (DDs.insts h2)
theorem DDs.of_insts : ∀ {xs : List V} {is : List Ins}, Paired (InsAt H) xs is → DDs K H xs (is.map eI)
  | _, _, .nil => .nil
  | _, _, .cons h t => .cons h.dd (DDs.of_insts t)
end
section
variable {X : Cx}
def rIxC (K : PySem.W.Frag) : R2 := fun x y H Q => ∃ ds i d, DT K H x ds ∧ y = .int i ∧ L2.atI ds i = some d ∧ ∀ v, DD K H v d → Q v H
theorem ix_dt : IxR X (rIxC X.K) := by
  intro value slice pins s σ H x y v u Q I rx ry h hs
  obtain ⟨ds, i, d, ⟨a, xs, e, hq, hd⟩, h2, h3, q⟩ := h
  obtain ⟨z, e1, hz⟩ := hd.atI h3
  exact ix_tup value slice pins s σ H x y v u Q I rx ry ⟨a, xs, i, z, e, h2, hq, e1, q z hz⟩ hs
def rCatC (K : PySem.W.Frag) : R2 := fun x y H Q => ∃ ds es, DT K H x ds ∧ DT K H y es ∧ ds ≠ [] ∧ es ≠ [] ∧ ds.length + es.length ≤ sizeLine ∧ Ret K H (.tuple (ds ++ es)) Q
theorem op_catC : OpR X (binaryOp .Add) (rCatC X.K) := by
  intro pins s σ H x y v u Q I rx ry h
  obtain ⟨ds, es, ⟨a, xs, e1, hq1, hd1⟩, ⟨b, ys, e2, hq2, hd2⟩, n1, n2, hl, q⟩ := h
  refine op_catA pins s σ H x y v u Q I rx ry ⟨a, b, xs, ys, e1, e2, hq1, hq2, by rw [hd1.len, hd2.len]; exact hl, fun z => ?_, fun _ z => ?_, fun _ _ p hp => q.new hp (hd1.app hd2)⟩
  · subst z
    cases hd1
    exact absurd rfl n1
  · subst z
    cases hd2
    exact absurd rfl n2
end
def rLenQ (K : PySem.W.Frag) : List V → Hp → VK → Prop := fun xs H Q => ∃ p ys, xs = [.ref p] ∧ (SqL K H p ys ∨ SqT K H p ys) ∧ Q (.int ys.length) H
theorem call_lenQ {X : Cx} : CallR X (.builtin "len") (rLenQ X.K) := call_len_seq
theorem hu_of2 {A : Around} {k : Nat} (hr : Room k A) : A.units + 2 < cLine := Nat.lt_of_le_of_lt (Nat.add_le_add_left (by decide : 2 ≤ 64) _) hr.units
theorem hu_of10 {A : Around} {k : Nat} (hr : Room k A) : A.units + 10 < cLine := Nat.lt_of_le_of_lt (Nat.add_le_add_left (by decide : 10 ≤ 64) _) hr.units
end Asf
set_option Elab.async false
set_option linter.all false
set_option maxRecDepth 100000
set_option maxHeartbeats 4000000
namespace Asf
open PySem PySem.Spec PyProof.Rows L2
section
variable {P : Program} {w : World} {K : PySem.W.Frag} {mg : Str → Option Value} {base : Heap}
def sp_next (K : PySem.W.Frag) : Sp := fun vs H Q E => match vs with
  | [v] => ∃ i, InsAt H v i ∧ Ret K H (eI (nexti i)) Q
  | _ => False
theorem k_next_instant (T : Txt K mg) : Cal P w K mg base 1 "next_instant" (He.ga K "next_instant") ["instant"] (sp_next K) :=
  cal_next_instant T (okF T.d_next_instant sc_next_instant (fun vs H Q E h => match vs, h with | [_], _ => rfl) fun cdv A outer s H vs Q E hr h => match vs, h with
  | [v], h => by
    obtain ⟨i, hi, r⟩ := h
    refine ⟨_, (pss_one (ps_ret (pe_tup (pa_cons (pe_ix ix_dd (pv 0) pe_int (fun _ _ => rfl)) (pa_cons (pe_op op_add (pe_ix ix_dd (pv 0) pe_int (fun _ _ => rfl)) pe_int) pa_nil))))), ?_⟩
    exact ⟨v, rfl, _, _, _, hi.dd, rfl, rfl, fun x hx => ⟨v, rfl, _, _, _, hi.dd, rfl, rfl, fun y hy => ⟨_, _, hy.to_int, rfl, ⟨by show 2 ≤ sizeLine; decide, fun p hp => r.new hp (.cons hx (.cons (.int _) .nil))⟩⟩⟩⟩)
def sp_later (K : PySem.W.Frag) : Sp := fun vs H Q E => match vs with
  | [v, .int d] => ∃ i, InsAt H v i ∧ Ret K H (eI (later i d)) Q
  | _ => False
theorem k_later (T : Txt K mg) : Cal P w K mg base 1 "later" (He.ga K "later") ["instant", "ticks"] (sp_later K) :=
  cal_later T (okF T.d_later sc_later (fun vs H Q E h => match vs, h with | [_, .int _], _ => rfl) fun cdv A outer s H vs Q E hr h => match vs, h with
  | [v, .int d], h => by
    obtain ⟨i, hi, r⟩ := h
    refine ⟨_, (pss_one (ps_ret (pe_ifExp (pt_cmpR (op_eq) (pv 1) pe_int (nomark _)) (pv 0) (pe_tup (pa_cons (pe_op op_add (pe_ix ix_dd (pv 0) pe_int (fun _ _ => rfl)) (pv 1)) (pa_cons pe_int pa_nil)))))), ?_⟩
    refine ⟨_, rfl, rfl, _, rfl, ?_⟩
    by_cases hd : d = 0
    · refine itT (by simp [hd]) ?_
      have e : later i d = i := by unfold later; rw [if_pos hd]
      rw [e] at r
      exact ⟨v, rfl, r.here hi.dd⟩
    · refine itF (by simp [hd]) ?_
      have e : later i d = (i.1 + d, 0) := by unfold later; rw [if_neg hd]
      rw [e] at r
      exact ⟨v, rfl, _, _, _, hi.dd, rfl, rfl, fun x hx => ⟨_, rfl, _, _, hx.to_int, rfl, ⟨by show 2 ≤ sizeLine; decide, fun p hp => r.new hp (.cons (.int _) (.cons (.int _) .nil))⟩⟩⟩)
def sp_earliest (K : PySem.W.Frag) : Sp := fun vs H Q E => match vs with
  | [x, y] => ∃ a b, OIns H x a ∧ OIns H y b ∧ ∀ v, OIns H v (earliest a b) → Q v H
  | _ => False
theorem InsAt.ne_non {H : Hp} {v : V} {i : Ins} (h : InsAt H v i) : decide (v = .non) = false := by
  obtain ⟨a, rfl, _⟩ := h
  rfl
theorem k_earliest (T : Txt K mg) : Cal P w K mg base 1 "earliest" (He.ga K "earliest") ["one", "two"] (sp_earliest K) :=
  cal_earliest T (okF T.d_earliest sc_earliest (fun vs H Q E h => match vs, h with | [_, _], _ => rfl) fun cdv A outer s H vs Q E hr h => match vs, h with
  | [x, y], h => by
    obtain ⟨a, b, ha, hb, r⟩ := h
    refine ⟨_, (pss_cons (ps_if (pt_cmp (pc_isN (pv 0)) rfl) (pss_one (ps_ret (pv 1))) pss_nil) (pss_cons (ps_if (pt_cmp (pc_isN (pv 1)) rfl) (pss_one (ps_ret (pv 0))) pss_nil) (pss_one (ps_ret (pe_callB (cr_min2I rfl (hu_of2 hr)) (by rfl) T.z_min (by decide +kernel) (pa_cons (pv 0) (pa_cons (pv 1) pa_nil))))))), ?_⟩
    refine ⟨x, rfl, _, rfl, ?_⟩
    cases a with
    | none =>
      cases ha
      exact ⟨y, rfl, r y hb⟩
    | some i =>
      refine itF (InsAt.ne_non ha) ?_
      refine ⟨y, rfl, _, rfl, ?_⟩
      cases b with
      | none =>
        cases hb
        exact ⟨x, rfl, r x ha⟩
      | some j =>
        refine itF (InsAt.ne_non hb) ?_
        refine ⟨x, rfl, y, rfl, x, y, i, j, rfl, ha, hb, r _ ?_⟩
        rw [earliest_ss]
        by_cases q : ilt j i = true
        · rw [if_pos q, if_pos q]
          exact hb
        · rw [if_neg q, if_neg q]
          exact ha)
def sp_na (K : PySem.W.Frag) : Sp := fun vs H Q E => match vs with
  | [x, y] => ∃ a b, InsAt H x a ∧ OIns H y b ∧ Q (.bl (na a b)) H
  | _ => False
theorem k_not_after (T : Txt K mg) : Cal P w K mg base 1 "not_after" (He.ga K "not_after") ["instant", "cancel"] (sp_na K) :=
  cal_not_after T (okF T.d_not_after sc_not_after (fun vs H Q E h => match vs, h with | [_, _], _ => rfl) fun cdv A outer s H vs Q E hr h => match vs, h with
  | [x, y], h => by
    obtain ⟨a, b, ha, hb, r⟩ := h
    refine ⟨_, (pss_one (ps_ret (pe_or (pe_cmp (pc_isN (pv 1)) rfl) (pe_one (pe_cmpR (op_leI (hu_of hr)) (pv 0) (pv 1) (nomark _)))))), ?_⟩
    refine ⟨y, rfl, _, rfl, ?_⟩
    cases b with
    | none =>
      cases hb
      exact r
    | some j =>
      refine itF (InsAt.ne_non hb) ?_
      exact ⟨x, rfl, y, rfl, a, j, ha, hb, r⟩)
def sp_child (K : PySem.W.Frag) : Sp := fun vs H Q E => match vs with
  | [x, .int i, .int j] => ∃ p : Path, DD K H x (ePath p) ∧ p.length ≤ 1000 ∧ Ret K H (ePath (p ++ [i, j])) Q
  | _ => False
theorem k_child_path (T : Txt K mg) : Cal P w K mg base 1 "child_path" (He.ga K "child_path") ["path", "scope", "part"] (sp_child K) :=
  cal_child_path T (okF T.d_child_path sc_child_path (fun vs H Q E h => match vs, h with | [_, .int _, .int _], _ => rfl) fun cdv A outer s H vs Q E hr h => match vs, h with
  | [x, .int i, .int j], h => by
    obtain ⟨p, hp, hl, r⟩ := h
    refine ⟨_, (pss_one (ps_ret (pe_op op_catD (pv 0) (pe_tup (pa_cons (pv 1) (pa_cons (pv 2) pa_nil)))))), ?_⟩
    refine ⟨x, rfl, _, rfl, _, rfl, by show 2 ≤ sizeLine; decide, fun q hq => ?_⟩
    have k : Kp none H (upd H q (.tup [.int i, .int j])) := Kp.new hq
    refine ⟨_, _, hp.mk0 k, new_dd hq (.cons (.int i) (.cons (.int j) .nil)), ?_, ?_⟩
    · rw [List.length_map]
      show p.length + 2 ≤ 16777216
      omega
    · have e : p.map PyData.int ++ [.int i, .int j] = (p ++ [i, j]).map .int := by simp
      rw [e]
      exact r.mono k)
def sp_check (K : PySem.W.Frag) : Sp := fun vs H Q E => match vs with
  | [x, y] => ∃ a b, InsAt H x a ∧ OIns H y b ∧ OLe a b ∧ Q .non H
  | _ => False
theorem k_check_cancel (T : Txt K mg) : Cal P w K mg base 1 "_check_cancel" (He.ga K "_check_cancel") ["start", "cancel"] (sp_check K) :=
  cal_check_cancel T (okF T.d_check_cancel sc_check_cancel (fun vs H Q E h => match vs, h with | [_, _], _ => rfl) fun cdv A outer s H vs Q E hr h => match vs, h with
  | [x, y], h => by
    obtain ⟨a, b, ha, hb, ho, r⟩ := h
    refine ⟨_, (pss_one (ps_if (PW.pt (pw_and (pt_cmp (pc_notN (pv 1)) rfl) (pw_and1 (pt_cmpR (op_ltI (hu_of hr)) (pv 1) (pv 0) (nomark _))))) (pss_one ps_never) pss_nil)), ?_⟩
    refine ⟨y, rfl, _, rfl, ?_⟩
    cases b with
    | none =>
      cases hb
      exact r
    | some j =>
      rw [InsAt.ne_non hb]
      refine ⟨y, rfl, x, rfl, j, a, hb, ha, _, rfl, ?_⟩
      rw [ilt_false.mpr ho]
      exact r)
end
end Asf
set_option Elab.async false
set_option linter.all false
set_option maxRecDepth 100000
set_option maxHeartbeats 4000000
namespace Asf
open PySem PySem.Spec PyProof.Rows L2
section
variable {P : Program} {w : World} {K : PySem.W.Frag} {mg : Str → Option Value} {base : Heap}
def sp_parts (K : PySem.W.Frag) : Sp := fun vs H Q E => match vs with
  | [v] => ∃ t o, DD K H v (eNode t o) ∧ Ret K H (eIdx (idxL (kidsT t) o)) Q
  | _ => False
theorem k_parts_of (T : Txt K mg) : Cal P w K mg base 1 "parts_of" (He.ga K "parts_of") ["node"] (sp_parts K) :=
  cal_parts_of T (okF T.d_parts_of sc_parts_of (fun vs H Q E h => match vs, h with | [_], _ => rfl) fun cdv A outer s H vs Q E hr h => match vs, h with
  | [v], h => by
    obtain ⟨t, o, h, r⟩ := h
    refine ⟨_, (pss_cons (ps_if (pt_cmpR (op_eq) (pe_ix ix_dd (pv 0) pe_int (fun _ _ => rfl)) pe_str (nomark _)) (pss_one (ps_ret (pe_tup pa_nil))) pss_nil) (pss_cons (ps_if (pt_cmpR (op_eq) (pe_ix ix_dd (pv 0) pe_int (fun _ _ => rfl)) pe_str (nomark _)) (pss_one (ps_ret (pe_tup (pa_cons (pe_ix ix_dd (pv 0) pe_int (fun _ _ => rfl)) pa_nil)))) pss_nil) (pss_cons (ps_if (pt_cmpR (op_eq) (pe_ix ix_dd (pv 0) pe_int (fun _ _ => rfl)) pe_str (nomark _)) (pss_one (ps_ret (pe_tup (pa_cons (pe_ix ix_dd (pv 0) pe_int (fun _ _ => rfl)) pa_nil)))) pss_nil) (pss_cons (ps_if (pt_cmpR (op_eq) (pe_ix ix_dd (pv 0) pe_int (fun _ _ => rfl)) pe_str (nomark _)) (pss_one (ps_ret (pe_tup (pa_cons (pe_ix ix_dd (pv 0) pe_int (fun _ _ => rfl)) (pa_cons (pe_ix ix_dd (pv 0) pe_int (fun _ _ => rfl)) pa_nil))))) pss_nil) (pss_one (ps_ret (pe_ifExp (pt_cmpR (op_eq) (pe_ix ix_dd (pv 0) pe_int (fun _ _ => rfl)) pe_str (nomark _)) (pe_ix ix_dd (pv 0) pe_int (fun _ _ => rfl)) (pe_ix ix_dd (pv 0) pe_int (fun _ _ => rfl))))))))), ?_⟩
    refine rd_seq ?_
    refine rd_if ?_
    cases t with
    | job d g v cl f =>
      refine rd_kind "job" (by rfl) h rfl ?_
      refine itT (by decide) ?_
      exact ⟨by show 0 ≤ sizeLine; decide, fun p hp => r.new hp .nil⟩
    | timeout k p =>
      refine rd_kind "timeout" (by rfl) h rfl ?_
      refine elF (by decide) ?_
      refine rd_seq ?_; refine rd_if ?_; refine rd_kind "timeout" (by rfl) h rfl ?_
      refine itT (by decide) ?_
      exact ⟨_, rfl, _, _, _, h, rfl, rfl, fun x hx => ⟨by show 1 ≤ sizeLine; decide, fun p hp => r.new hp (.cons hx .nil)⟩⟩
    | retry n d p =>
      refine rd_kind "retry" (by rfl) h rfl ?_
      refine elF (by decide) ?_
      refine rd_seq ?_; refine rd_if ?_; refine rd_kind "retry" (by rfl) h rfl ?_
      refine elF (by decide) ?_
      refine rd_seq ?_; refine rd_if ?_; refine rd_kind "retry" (by rfl) h rfl ?_
      refine itT (by decide) ?_
      exact ⟨_, rfl, _, _, _, h, rfl, rfl, fun x hx => ⟨by show 1 ≤ sizeLine; decide, fun p hp => r.new hp (.cons hx .nil)⟩⟩
    | orelse p q =>
      refine rd_kind "orelse" (by rfl) h rfl ?_
      refine elF (by decide) ?_
      refine rd_seq ?_; refine rd_if ?_; refine rd_kind "orelse" (by rfl) h rfl ?_
      refine elF (by decide) ?_
      refine rd_seq ?_; refine rd_if ?_; refine rd_kind "orelse" (by rfl) h rfl ?_
      refine elF (by decide) ?_
      refine rd_seq ?_; refine rd_if ?_; refine rd_kind "orelse" (by rfl) h rfl ?_
      refine itT (by decide) ?_
      exact ⟨_, rfl, _, _, _, h, rfl, rfl, fun x hx => ⟨_, rfl, _, _, _, h, rfl, rfl, fun y hy => ⟨by show 2 ≤ sizeLine; decide, fun p hp => r.new hp (.cons hx (.cons hy .nil))⟩⟩⟩
    | pool n ps =>
      refine rd_kind "pool" (by rfl) h rfl ?_
      refine elF (by decide) ?_
      refine rd_seq ?_; refine rd_if ?_; refine rd_kind "pool" (by rfl) h rfl ?_
      refine elF (by decide) ?_
      refine rd_seq ?_; refine rd_if ?_; refine rd_kind "pool" (by rfl) h rfl ?_
      refine elF (by decide) ?_
      refine rd_seq ?_; refine rd_if ?_; refine rd_kind "pool" (by rfl) h rfl ?_
      refine elF (by decide) ?_
      refine rd_kind "pool" (by rfl) h rfl ?_
      refine itT (by decide) ?_
      exact ⟨_, rfl, _, _, _, h, rfl, rfl, fun x hx => r.here hx⟩
    | seq ps =>
      refine rd_kind "sequence" (by rfl) h rfl ?_
      refine elF (by decide) ?_
      refine rd_seq ?_; refine rd_if ?_; refine rd_kind "sequence" (by rfl) h rfl ?_
      refine elF (by decide) ?_
      refine rd_seq ?_; refine rd_if ?_; refine rd_kind "sequence" (by rfl) h rfl ?_
      refine elF (by decide) ?_
      refine rd_seq ?_; refine rd_if ?_; refine rd_kind "sequence" (by rfl) h rfl ?_
      refine elF (by decide) ?_
      refine rd_kind "sequence" (by rfl) h rfl ?_
      refine itF (by decide) ?_
      exact ⟨_, rfl, _, _, _, h, rfl, rfl, fun x hx => r.here hx⟩
    | scope k ps =>
      refine rd_kind (kdS k) (by rfl) h rfl ?_
      refine elF (by cases k <;> decide) ?_
      refine rd_seq ?_; refine rd_if ?_; refine rd_kind (kdS k) (by rfl) h rfl ?_
      refine elF (by cases k <;> decide) ?_
      refine rd_seq ?_; refine rd_if ?_; refine rd_kind (kdS k) (by rfl) h rfl ?_
      refine elF (by cases k <;> decide) ?_
      refine rd_seq ?_; refine rd_if ?_; refine rd_kind (kdS k) (by rfl) h rfl ?_
      refine elF (by cases k <;> decide) ?_
      refine rd_kind (kdS k) (by rfl) h rfl ?_
      refine itF (by cases k <;> decide) ?_
      exact ⟨_, rfl, _, _, _, h, rfl, rfl, fun x hx => r.here hx⟩)
def sp_jobEnd (K : PySem.W.Frag) : Sp := fun vs H Q E => match vs with
  | [n, x, y] => ∃ d g v cl f o i c, DD K H n (eNode (.job d g v cl f) o) ∧ InsAt H x i ∧ OIns H y c ∧ OLe i c ∧ Ret K H (eEnd (jobEnd d g v cl f i c)) Q
  | _ => False
theorem k_job_end (T : Txt K mg) : Cal P w K mg base 2 "job_end" (He.ga K "job_end") ["node", "start", "cancel"] (sp_jobEnd K) :=
  cal_job_end T (okF T.d_job_end sc_job_end (fun vs H Q E h => match vs, h with | [_, _, _], _ => rfl) fun cdv A outer s H vs Q E hr h => match vs, h with
  | [n, x, y], h => by
    obtain ⟨d, g, v, cl, f, o, i, c, hn, hi, hc, ho, r⟩ := h
    refine ⟨_, (pss_cons (ps_expr (pe_k (k_check_cancel T) hr (pa_cons (pv 1) (pa_cons (pv 2) pa_nil)))) (pss_cons (ps_asg (pv 0) (pg_tup (by rfl) (pgs_cons (pg_name (i := 3) sc_job_end.nd rfl (by first | exact Or.inl rfl | exact Or.inr rfl)) (pgs_cons (pg_name (i := 4) sc_job_end.nd rfl (by first | exact Or.inl rfl | exact Or.inr rfl)) (pgs_cons (pg_name (i := 5) sc_job_end.nd rfl (by first | exact Or.inl rfl | exact Or.inr rfl)) (pgs_cons (pg_name (i := 6) sc_job_end.nd rfl (by first | exact Or.inl rfl | exact Or.inr rfl)) (pgs_cons (pg_name (i := 7) sc_job_end.nd rfl (by first | exact Or.inl rfl | exact Or.inr rfl)) (pgs_cons (pg_name (i := 8) sc_job_end.nd rfl (by first | exact Or.inl rfl | exact Or.inr rfl)) pgs_nil)))))))) (pss_cons (ps_set (i := 9) sc_job_end.nd rfl (by first | exact Or.inl rfl | exact Or.inr rfl) (pe_k (k_later T) hr (pa_cons (pv 1) (pa_cons (pv 4) pa_nil)))) (pss_cons (ps_if (pt_val (pe_k (k_not_after T) hr (pa_cons (pv 9) (pa_cons (pv 2) pa_nil)))) (pss_one (ps_ret (pe_tup (pa_cons (pv 9) (pa_cons (pe_ifExp (pt_cmpR (op_eq) (pv 5) pe_str (nomark _)) pe_str pe_str) (pa_cons (pe_tup (pa_cons (pv 6) pa_nil)) pa_nil)))))) pss_nil) (pss_cons (ps_set (i := 9) sc_job_end.nd rfl (by first | exact Or.inl rfl | exact Or.inr rfl) (pe_k (k_later T) hr (pa_cons (pe_k (k_next_instant T) hr (pa_cons (pv 2) pa_nil)) (pa_cons (pv 7) pa_nil)))) (pss_one (ps_ret (pe_ifExp (pt_cmp (pc_isN (pv 8)) rfl) (pe_tup (pa_cons (pv 9) (pa_cons pe_str (pa_cons (pe_tup pa_nil) pa_nil)))) (pe_tup (pa_cons (pv 9) (pa_cons pe_str (pa_cons (pe_tup (pa_cons (pv 8) pa_nil)) pa_nil)))))))))))), ?_⟩
    refine ⟨_, rfl, _, rfl, i, c, hi, hc, ho, ?_⟩
    refine ⟨n, rfl, g_dd hn rfl fun xs hx => ?_⟩
    obtain ⟨x1, _, rfl, h1, hx⟩ := hx.toC
    obtain ⟨x2, _, rfl, h2, hx⟩ := hx.toC
    obtain ⟨x3, _, rfl, h3, hx⟩ := hx.toC
    obtain ⟨x4, _, rfl, h4, hx⟩ := hx.toC
    obtain ⟨x5, _, rfl, h5, hx⟩ := hx.toC
    obtain ⟨x6, rfl, h6⟩ := hx.to1
    refine ⟨_, _, rfl, _, _, rfl, _, _, rfl, _, _, rfl, _, _, rfl, _, _, rfl, rfl, ?_⟩
    cases h2.to_int
    cases h5.to_int
    refine ⟨_, rfl, _, rfl, i, hi, fun e H1 k1 he => ?_⟩
    refine ⟨_, rfl, _, rfl, _, _, he.ins, hc.mk0 k1, _, rfl, ?_⟩
    unfold jobEnd at r
    refine itB (fun q => ?_) (fun q => ?_)
    · rw [if_pos q] at r
      cases h3.to_str
      refine ⟨_, rfl, ?_⟩
      refine ⟨_, rfl, rfl, _, rfl, ?_⟩
      have fin : ∀ H2 p z, H1 p = none → H2 = upd H1 p (.tup [x4]) → z = V.str (if g = true then ocS .com else ocS .fai) → [e, z, V.ref p].length ≤ sizeLine ∧ ∀ p_1, H2 p_1 = none → Q (.ref p_1) (upd H2 p_1 (.tup [e, z, .ref p])) := by
        intro H2 p z hp eh ez
        subst eh ez
        have k2 : Kp none H1 (upd H1 p (.tup [x4])) := Kp.new hp
        refine ⟨by show 3 ≤ sizeLine; decide, fun u hu => (r.mono (k1.trans k2)).new hu (.cons (he.mk0 k2) (.cons ?_ (.cons (new_dd hp (.cons (h4.mk0 k1) .nil)) .nil)))⟩
        cases g <;> exact .str _
      cases g with
      | true => exact itT (by decide) ⟨_, rfl, by show 1 ≤ sizeLine; decide, fun p hp => fin _ p _ hp rfl rfl⟩
      | false => exact itF (by decide) ⟨_, rfl, by show 1 ≤ sizeLine; decide, fun p hp => fin _ p _ hp rfl rfl⟩
    · rw [if_neg (by rw [q]; exact Bool.false_ne_true)] at r
      have hc2 : ∃ j, c = some j := by
        cases c with
        | none => cases q
        | some j => exact ⟨j, rfl⟩
      obtain ⟨j, rfl⟩ := hc2
      refine ⟨_, rfl, j, (show OIns H y (some j) from hc).mk0 k1, fun e2 H2 k2 he2 => ?_⟩
      refine ⟨_, rfl, _, he2.ins, fun e3 H3 k3 he3 => ?_⟩
      refine ⟨_, rfl, _, rfl, ?_⟩
      have k13 := (k1.trans k2).trans k3
      cases f with
      | none =>
        cases h6.to_non
        refine itT rfl ⟨_, rfl, by show 0 ≤ sizeLine; decide, fun p hp => ⟨by show 3 ≤ sizeLine; decide, fun u hu => ?_⟩⟩
        have k4 : Kp none H3 (upd H3 p (.tup [])) := Kp.new hp
        exact (r.mono (k13.trans k4)).new hu (.cons (he3.mk0 k4) (.cons (.str _) (.cons (new_dd hp .nil) .nil)))
      | some z =>
        have e6 : x6 = .int z := DD.to_int h6
        subst e6
        refine itF (by rfl) ⟨_, rfl, _, rfl, by show 1 ≤ sizeLine; decide, fun p hp => ⟨by show 3 ≤ sizeLine; decide, fun u hu => ?_⟩⟩
        have k4 : Kp none H3 (upd H3 p (.tup [.int z])) := Kp.new hp
        exact (r.mono (k13.trans k4)).new hu (.cons (he3.mk0 k4) (.cons (.str _) (.cons (new_dd hp (.cons (.int _) .nil)) .nil))))
end
end Asf
set_option Elab.async false
set_option linter.all false
set_option maxRecDepth 100000
set_option maxHeartbeats 4000000
namespace Asf
open PySem PySem.Spec PyProof.Rows L2
section
variable {P : Program} {w : World} {K : PySem.W.Frag} {mg : Str → Option Value} {base : Heap}
/-- a list of ends -/
def EndsAt (K : PySem.W.Frag) (H : Hp) (v : V) (es : List End) : Prop := ∃ a xs, v = .ref a ∧ SqL K H a xs ∧ DDs K H xs (es.map eEnd) ∧ es.length ≤ 1000
theorem EndsAt.mk0 {H H' : Hp} {v : V} {es : List End} (k : Kp none H H') (h : EndsAt K H v es) : EndsAt K H' v es := by
  obtain ⟨a, xs, h1, h2, h3, h4⟩ := h
  exact ⟨a, xs, h1, sqL_keep h2 k, h3.mk0 k, h4⟩
def resN (es : List End) : Nat := (es.flatMap (·.res)).length
def sp_errors (K : PySem.W.Frag) : Sp := fun vs H Q E => match vs with
  | [v] => ∃ es, EndsAt K H v es ∧ resN es ≤ 1000000 ∧ Ret K H (eRes (errorsOf es)) Q
  | _ => False
theorem errorsOf_cons (e : End) (es : List End) : errorsOf (e :: es) = (if e.oc = .fai then e.res else []) ++ errorsOf es := rfl
theorem errorsOf_le : ∀ es : List End, (errorsOf es).length ≤ resN es
  | [] => Nat.le_refl _
  | e :: es => by
    have ih := errorsOf_le es
    have h2 : resN (e :: es) = e.res.length + resN es := by unfold resN; rw [List.flatMap_cons, List.length_append]
    rw [errorsOf_cons, List.length_append, h2]
    by_cases h : e.oc = .fai
    · rw [if_pos h]; omega
    · rw [if_neg h, List.length_nil]; omega
theorem errorsOf_take_le (es : List End) (i : Nat) : (errorsOf (es.take i)).length ≤ (errorsOf es).length := by
  have h : errorsOf es = errorsOf (es.take i) ++ errorsOf (es.drop i) := by
    unfold errorsOf
    rw [← List.flatMap_append, List.take_append_drop]
  rw [h, List.length_append]
  omega
theorem errorsOf_succ (es : List End) {i : Nat} {e : End} (h : es[i]? = some e) : errorsOf (es.take (i + 1)) = errorsOf (es.take i) ++ (if e.oc = .fai then e.res else []) := take_succ_flat _ es h
theorem k_errors (T : Txt K mg) : Cal P w K mg base 1 "_errors" (He.ga K "_errors") ["ends"] (sp_errors K) :=
  cal_errors T (okF T.d_errors sc_errors (fun vs H Q E h => match vs, h with | [_], _ => rfl) fun cdv A outer s H vs Q E hr h => match vs, h with
  | [v], h => by
    obtain ⟨es, ⟨a, xs, rfl, hsq, hxs, hlen⟩, hN, r⟩ := h
    have hE := errorsOf_le es
    refine ⟨_, (pss_one (ps_ret (pe_callTy call_tuple_of (by rfl) T.z_tuple (by decide +kernel) (pa_cons (pe_lc2 (own := [("_", 1), ("outcome", 2), ("result", 3), ("error", 4)]) (g := (gTup K 3 (gCons (gName 1) (gCons (gName 2) (gCons (gName 3) gNil))))) (tt := (tTest (tOp rEq (tVar 2) (tC (.str "failed"))))) (wi1 := (iTup K (tVar 3))) (g1 := (gName 4)) (tt1 := tYes) (te := (tVar 4)) (vs1 := [4]) rfl sc_errors.nd (pi_list (pv 0)) (blkOk_by (N := ["ends", "_", "outcome", "result", "error"]) (sc := defScope s_errors) (by decide +kernel)) (by decide) (fun _ _ _ _ _ => (pg_tup (by rfl) (pgs_cons (pg_name (i := 1) sc_errors.nd rfl (by first | exact Or.inl rfl | exact Or.inr rfl)) (pgs_cons (pg_name (i := 2) sc_errors.nd rfl (by first | exact Or.inl rfl | exact Or.inr rfl)) (pgs_cons (pg_name (i := 3) sc_errors.nd rfl (by first | exact Or.inl rfl | exact Or.inr rfl)) pgs_nil))))) (fun _ _ _ _ _ => (pts_one (pt_cmpR (op_eq) (pv 2) pe_str (nomark _)))) (fun _ _ _ _ _ => (pi_tup (pv 3))) (fun _ _ _ _ _ => (pg_name (i := 4) sc_errors.nd rfl (by first | exact Or.inl rfl | exact Or.inr rfl))) (fun _ _ _ _ _ => pts_nil) (fun _ _ _ _ _ => (pv 4))) pa_nil)))), ?_⟩
    refine ⟨_, rfl, a, rfl, ⟨xs, hsq⟩, fun D hD => ?_⟩
    refine lcL (xs := xs) (fun i H1 => Gr K none H D ((errorsOf (es.take i)).map eEr) H1) (Gr.start hD) (fun i H1 _ g => sqL_keep hsq g.1) ?_ ?_
    · intro i x H1 hx g
      obtain ⟨d, hd, hxd⟩ := hxs.of_get hx
      obtain ⟨e, he, rfl⟩ := map_get hd
      obtain ⟨a2, zs, rfl, hq, hz⟩ := hxd.sq
      refine ⟨a2, zs, rfl, sqT_keep hq g.1, by rw [hz.len]; rfl, ?_⟩
      obtain ⟨z1, _, rfl, h1, hz⟩ := hz.toC
      obtain ⟨z2, _, rfl, h2, hz⟩ := hz.toC
      obtain ⟨z3, rfl, h3⟩ := hz.to1
      refine ⟨_, _, rfl, _, _, rfl, _, _, rfl, rfl, rfl, ?_⟩
      cases h2.to_str
      refine ⟨_, rfl, rfl, _, rfl, ?_⟩
      rw [dFai]
      have es1 := errorsOf_succ es he
      refine itB (fun q => ?_) (fun q => ?_)
      · have q : e.oc = .fai := of_decide_eq_true q
        rw [if_pos q] at es1
        obtain ⟨b, ys, rfl, hb, hys⟩ := h3.sq
        refine ⟨_, rfl, b, rfl, ⟨ys, sqT_keep hb g.1⟩, ?_⟩
        have hl2 : (errorsOf (es.take (i + 1))).length ≤ 1000000 := Nat.le_trans (errorsOf_take_le es _) (Nat.le_trans hE hN)
        rw [es1, List.length_append] at hl2
        refine lcT (xs := ys) (fun j H2 => Gr K none H D ((errorsOf (es.take i) ++ e.res.take j).map eEr) H2) ?_ (fun j H2 _ g2 => sqT_keep hb g2.1) ?_ ?_
        · rw [List.take_zero, List.append_nil]
          exact g
        · intro j y H2 hy g2
          obtain ⟨d, hd, hyd⟩ := hys.of_get hy
          obtain ⟨er, her, rfl⟩ := map_get hd
          have hj := (List.getElem?_eq_some_iff.mp her).1
          refine ⟨rfl, ?_⟩
          refine ⟨_, rfl, ?_⟩
          have e2 := g2.add0 hD (Kp.refl _ _) (hyd.mk0 g2.1) (by rw [List.length_map, List.length_append, List.length_take]; show _ < 16777216; omega)
          rw [List.take_add_one, her]
          simpa using e2
        · intro H2 g2
          rw [hys.len, List.length_map, List.take_length, ← es1] at g2
          exact g2
      · have q : ¬ e.oc = .fai := of_decide_eq_false q
        rw [if_neg q, List.append_nil] at es1
        rw [es1]
        exact g
    · intro H1 g
      rw [show es.take xs.length = es by rw [hxs.len, List.length_map, List.take_length]] at g
      obtain ⟨k, acc, g2, g3⟩ := g
      exact ⟨D, acc, rfl, .inl ⟨SqL.of g2, fun l hl => (r.mono k).new hl g3⟩⟩)
abbrev toldL (t : Oc × List Er) : List PyData := [.str (ocS t.1), eRes t.2]
def sp_together (K : PySem.W.Frag) : Sp := fun vs H Q E => match vs with
  | [s, c, ends, counted, told] => ∃ i cc es cs t, InsAt H s i ∧ OIns H c cc ∧ EndsAt K H ends es ∧ EndsAt K H counted cs ∧ DT K H told (toldL t) ∧ resN cs ≤ 1000000 ∧ Ret K H (eEnd (together i cc es cs t)) Q
  | _ => False
theorem k_together (T : Txt K mg) : Cal P w K mg base 2 "_together" (He.ga K "_together") ["start", "cancel", "ends", "counted", "told"] (sp_together K) :=
  cal_together T (okF T.d_together sc_together (fun vs H Q E h => match vs, h with | [_, _, _, _, _], _ => rfl) fun cdv A outer s H vs Q E hr h => match vs, h with
  | [sv, c, ends, counted, told], h => by
    obtain ⟨i, cc, es, cs, t, hi, hc, ⟨a, xs, rfl, hsq, hxs, hlen⟩, hcs, ht, hN, r⟩ := h
    have ie : ∀ e0, e0 = together i cc es cs t → Ret K H (eEnd e0) Q := fun e0 e => e ▸ r
    unfold together at ie
    refine ⟨_, (pss_cons (ps_set (i := 5) sc_together.nd rfl (by first | exact Or.inl rfl | exact Or.inr rfl) (pe_callB (cr_maxL rfl (hu_of2 hr)) (by rfl) T.z_max (by decide +kernel) (pa_cons (pe_op op_cat (pe_lst (pa_cons (pv 0) pa_nil)) (pe_lc (own := [("part", 6)]) (g := (gName 6)) (tt := tYes) (te := (tOp (rIxD K) (tVar 6) (tC (.int 0)))) rfl sc_together.nd (pi_list (pv 2)) (blkOk_by (N := ["start", "cancel", "ends", "counted", "told", "end", "part", "errors"]) (sc := defScope s_together) (by decide +kernel)) (fun _ _ _ _ _ => (pg_name (i := 6) sc_together.nd rfl (by first | exact Or.inl rfl | exact Or.inr rfl))) (fun _ _ _ _ _ => pts_nil) (fun _ _ _ _ _ => (pe_ix ix_dd (pv 6) pe_int (fun _ _ => rfl))))) pa_nil))) (pss_cons (ps_set (i := 7) sc_together.nd rfl (by first | exact Or.inl rfl | exact Or.inr rfl) (pe_k (k_errors T) hr (pa_cons (pv 3) pa_nil))) (pss_cons (ps_if (pt_truth (pv 7) (by intro _; rfl)) (pss_one (ps_ret (pe_tup (pa_cons (pv 5) (pa_cons pe_str (pa_cons (pv 7) pa_nil)))))) pss_nil) (pss_cons (ps_if (PW.pt (pw_and (pt_cmpR (op_eq) (pe_ix ix_dt (pv 4) pe_int (fun _ _ => rfl)) pe_str (nomark _)) (pw_and1 (pt_not (pt_val (pe_k (k_not_after T) hr (pa_cons (pv 5) (pa_cons (pv 1) pa_nil)))))))) (pss_one (ps_ret (pe_op op_catC (pe_tup (pa_cons (pv 5) pa_nil)) (pe_glob (v := .ref (He.ga K "CANCELLED")) rfl T.gX rfl)))) pss_nil) (pss_one (ps_ret (pe_op op_catC (pe_tup (pa_cons (pv 5) pa_nil)) (pv 4)))))))), ?_⟩
    refine ⟨_, rfl, by show 1 ≤ sizeLine; decide, fun p hp => ?_⟩
    have kp : Kp none H (upd H p (.lst [sv])) := Kp.new hp
    refine ⟨_, rfl, a, rfl, ⟨xs, sqL_keep hsq kp⟩, fun D hD => ?_⟩
    have dD : H D = none := kp.free0 hD
    refine lcL (xs := xs) (fun j H1 => Gr K none (upd H p (.lst [sv])) D ((es.take j).map fun e => eI e.en) H1) (Gr.start hD) (fun j H1 _ g => sqL_keep hsq (kp.trans g.1)) ?_ ?_
    · intro j x H1 hx g
      obtain ⟨d, hd, hxd⟩ := hxs.of_get hx
      obtain ⟨e, he, rfl⟩ := map_get hd
      refine ⟨rfl, ?_⟩
      refine ⟨_, rfl, _, _, _, hxd.mk0 (kp.trans g.1), rfl, rfl, fun y hy => ?_⟩
      rw [take_succ_map (fun e : End => eI e.en) es he]
      refine g.add0 hD (Kp.refl _ _) hy ?_
      rw [List.length_map, List.length_take]
      show _ < 16777216
      omega
    · intro H1 g
      rw [show es.take xs.length = es by rw [hxs.len, List.length_map, List.take_length]] at g
      obtain ⟨k, acc, g2, g3⟩ := g
      have k1 := kp.trans k
      have hle : acc.length ≤ 1000 := by rw [g3.len, List.length_map]; exact hlen
      refine ⟨p, D, [sv], acc, rfl, rfl, k p _ upd_same (by simp), g2, by show 1 + acc.length ≤ 16777216; omega, fun q hq => ?_⟩
      have k2 : Kp none H (upd H1 q (.lst ([sv] ++ acc))) := k1.trans (Kp.new hq)
      have pi : Paired (InsAt (upd H1 q (.lst ([sv] ++ acc)))) ([sv] ++ acc) (i :: es.map (·.en)) := by
        refine .cons (hi.mk0 k2) (DDs.insts (K := K) ?_)
        rw [List.map_map]
        exact g3.mk0 (Kp.new hq)
      refine ⟨q, _, i, _, rfl, SqL.of upd_same, pi, fun e he => ?_⟩
      refine ⟨_, rfl, cs, hcs.mk0 k2, hN, fun er H3 k3 her => ?_⟩
      have k13 := k2.trans k3
      obtain ⟨b, ys, rfl, hb, hys⟩ := her.sq
      refine ⟨_, rfl, _, .inr (.inl ⟨ys, hb, rfl⟩), ?_⟩
      have eE : ys.isEmpty = true ↔ errorsOf cs = [] := by
        have := hys.len
        rw [List.length_map] at this
        rw [List.isEmpty_iff]
        constructor
        · intro z; rw [z] at this; exact List.eq_nil_of_length_eq_zero this.symm
        · intro z; rw [z] at this; exact List.eq_nil_of_length_eq_zero this
      refine itB (fun q0 => ?_) (fun q0 => ?_)
      · have ne : errorsOf cs ≠ [] := fun z => by rw [eE.mpr z] at q0; cases q0
        rw [if_pos ne] at ie
        refine ⟨_, rfl, _, rfl, by show 3 ≤ sizeLine; decide, fun u hu => ?_⟩
        exact ((ie _ rfl).mono k13).new hu (.cons (he.dd.mk0 k3) (.cons (.str _) (.cons her .nil)))
      · have ne : ¬ errorsOf cs ≠ [] := fun z => z (eE.mp (by cases hz : ys.isEmpty with | true => rfl | false => rw [hz] at q0; cases q0))
        rw [if_neg ne] at ie
        have last : ∀ (t2 : Oc × List Er) (v2 : V) (u : Addr), H3 u = none → DT K H3 v2 (toldL t2) → (∀ e0, e0 = (⟨maxI i (es.map (·.en)), t2.1, t2.2⟩ : End) → Ret K H (eEnd e0) Q) → rCatC K (.ref u) v2 (upd H3 u (.tup [e])) Q := by
          intro t2 v2 u hu ht2 r2
          have k4 : Kp none H3 (upd H3 u (.tup [e])) := Kp.new hu
          refine ⟨_, _, (new_dd hu (.cons (he.dd.mk0 k3) .nil)).dt, ht2.mk0 k4, by simp, by simp, by show 1 + 2 ≤ sizeLine; decide, ?_⟩
          exact (r2 _ rfl).mono (k13.trans k4)
        refine ⟨told, rfl, _, _, _, ht.mk0 k13, rfl, rfl, fun z hz => ?_⟩
        cases hz.to_str
        refine ⟨rfl, _, rfl, ?_⟩
        rw [dCom]
        by_cases hcom : t.1 = .com
        · refine itT (decide_eq_true hcom) ?_
          refine ⟨_, rfl, _, rfl, _, _, he.mk0 k3, hc.mk0 k13, _, rfl, ?_⟩
          cases hna : na (maxI i (es.map (·.en))) cc with
          | true =>
            rw [if_neg (by rw [hna]; simp)] at ie
            exact itF rfl ⟨_, rfl, by show 1 ≤ sizeLine; decide, fun u hu => ⟨_, rfl, last t told u hu (ht.mk0 k13) ie⟩⟩
          | false =>
            rw [if_pos ⟨hcom, hna⟩] at ie
            exact itT rfl ⟨_, rfl, by show 1 ≤ sizeLine; decide, fun u hu => last (.can, []) _ u hu (T.cT.dt H3) ie⟩
        · refine itF (decide_eq_false hcom) ?_
          rw [if_neg (fun z => hcom z.1)] at ie
          exact ⟨_, rfl, by show 1 ≤ sizeLine; decide, fun u hu => ⟨_, rfl, last t told u hu (ht.mk0 k13) ie⟩⟩)
end
end Asf
set_option Elab.async false
set_option linter.all false
set_option maxRecDepth 100000
set_option maxHeartbeats 4000000
namespace Asf
open PySem PySem.Spec PyProof.Rows L2
section
variable {P : Program} {w : World} {K : PySem.W.Frag} {mg : Str → Option Value} {base : Heap}
def RetT (K : PySem.W.Frag) (H : Hp) (ds : List PyData) (Q : VK) : Prop := ∀ v H', Kp none H H' → DT K H' v ds → Q v H'
theorem RetT.mono {H H' : Hp} {d : List PyData} {Q : VK} (r : RetT K H d Q) (k : Kp none H H') : RetT K H' d Q := fun v H2 k2 h => r v H2 (k.trans k2) h
def sp_allValues (K : PySem.W.Frag) : Sp := fun vs H Q E => match vs with
  | [v] => ∃ es, EndsAt K H v es ∧ resN es ≤ 1000000 ∧ RetT K H (toldL (allValues es)) Q
  | _ => False
theorem tyV_list {K : PySem.W.Frag} {H : Hp} {D : Addr} {acc : List V} (h : H D = some (.lst acc)) : tyV K "list" (.ref D) H := .inl ⟨rfl, _, SqL.of h⟩
theorem resN_take (es : List End) (i : Nat) : resN (es.take i) ≤ resN es := by
  have h : resN es = resN (es.take i) + resN (es.drop i) := by
    unfold resN
    rw [← List.length_append, ← List.flatMap_append, List.take_append_drop]
  omega
theorem k_all_values (T : Txt K mg) : Cal P w K mg base 1 "_all_values" (He.ga K "_all_values") ["ends"] (sp_allValues K) :=
  cal_all_values T (okF T.d_all_values sc_all_values (fun vs H Q E h => match vs, h with | [_], _ => rfl) fun cdv A outer s H vs Q E hr h => match vs, h with
  | [v], h => by
    obtain ⟨es, ⟨a, xs, rfl, hsq, hxs, hlen⟩, hN, r⟩ := h
    refine ⟨_, (pss_cons (ps_set (i := 1) sc_all_values.nd rfl (by first | exact Or.inl rfl | exact Or.inr rfl) (pe_lst pa_nil)) (pss_cons (ps_for PassesOwn.never rfl (pi_list (pv 0)) (pg_tup (by rfl) (pgs_cons (pg_name (i := 2) sc_all_values.nd rfl (by first | exact Or.inl rfl | exact Or.inr rfl)) (pgs_cons (pg_name (i := 3) sc_all_values.nd rfl (by first | exact Or.inl rfl | exact Or.inr rfl)) (pgs_cons (pg_name (i := 4) sc_all_values.nd rfl (by first | exact Or.inl rfl | exact Or.inr rfl)) pgs_nil)))) (pss_cons (ps_if (pt_cmpR (op_ne) (pv 3) pe_str (nomark _)) (pss_one (ps_ret (pe_glob (v := .ref (He.ga K "CANCELLED")) rfl T.gX rfl))) pss_nil) (pss_one (ps_expr (pe_bm PySem.F.plainAttrs_list PySem.F.slot_list_extend PySem.F.type_list_extend mt_extT (pv 1) (pa_cons (pv 4) pa_nil)))))) (pss_one (ps_ret (pe_tup (pa_cons pe_str (pa_cons (pe_callTy call_tuple_of (by rfl) T.z_tuple (by decide +kernel) (pa_cons (pv 1) pa_nil)) pa_nil))))))), ?_⟩
    refine ⟨by show 0 ≤ sizeLine; decide, fun D hD => ?_⟩
    refine ⟨_, rfl, a, rfl, ⟨xs, sqL_keep hsq (Kp.new hD)⟩, ?_⟩
    refine for_list (xs := xs) (fun i σ H1 => (∃ p q u, σ = [some (.ref a), some (.ref D), p, q, u]) ∧ Gr K none H D (((es.take i).flatMap (·.res)).map eEr) H1 ∧ ∀ e ∈ es.take i, e.oc = .com) ⟨⟨_, _, _, rfl⟩, Gr.start hD, by simp⟩ (fun i σ H1 _ g => sqL_keep hsq g.2.1.1) ?_ ?_
    · rintro i x σ H1 hx ⟨⟨p, q, u, rfl⟩, g, hc⟩
      obtain ⟨d, hd, hxd⟩ := hxs.of_get hx
      obtain ⟨e, he, rfl⟩ := map_get hd
      obtain ⟨a2, zs, rfl, hq, hz⟩ := hxd.sq
      refine ⟨a2, zs, rfl, sqT_keep hq g.1, by rw [hz.len]; rfl, ?_⟩
      obtain ⟨z1, _, rfl, h1, hz⟩ := hz.toC
      obtain ⟨z2, _, rfl, h2, hz⟩ := hz.toC
      obtain ⟨z3, rfl, h3⟩ := hz.to1
      refine ⟨_, _, rfl, _, _, rfl, _, _, rfl, rfl, ?_⟩
      cases h2.to_str
      refine ⟨_, rfl, rfl, _, rfl, ?_⟩
      rw [dCom]
      by_cases q : e.oc = .com
      · refine elF (by rw [decide_eq_true q]; rfl) ?_
        obtain ⟨k, acc, g2, g3⟩ := g
        obtain ⟨b, ys, rfl, hb, hys⟩ := h3.sq
        have hl1 : acc.length + ys.length ≤ 1000000 := by
          rw [g3.len, hys.len, List.length_map, List.length_map, ← List.length_append, ← take_succ_flat _ es he]
          exact Nat.le_trans (resN_take es (i + 1)) hN
        refine ⟨_, rfl, tyV_list g2, _, rfl, D, b, acc, ys, rfl, rfl, g2, sqT_keep hb k, by show _ ≤ 16777216; omega, ?_⟩
        have tp : TK H1 (upd H1 D (.lst (acc ++ ys))) := TK.put g2 (fun xs z => by cases z)
        refine ⟨⟨_, _, _, rfl⟩, ⟨fun c o hc ho => ?_, _, upd_same, ?_⟩, ?_⟩
        · rw [upd_ne (ne_of_none hc hD)]
          exact k c o hc ho
        · rw [take_succ_flat _ es he, List.map_append]
          exact (DDs.mono tp _ _ g3).app (DDs.mono tp _ _ (hys.mk0 k))
        · intro e2 he2
          rw [List.take_add_one, he] at he2
          rcases List.mem_append.mp he2 with z | z
          · exact hc e2 z
          · have : e2 = e := by simpa using z
            rw [this]; exact q
      · refine itT (by rw [decide_eq_false q]; rfl) ?_
        have ea : allValues es = (.can, []) := by
          unfold allValues
          rw [if_neg]
          intro z
          have hm : e ∈ es := List.mem_of_getElem? he
          exact q (of_decide_eq_true (List.all_eq_true.mp z e hm))
        rw [ea] at r
        exact r _ _ g.1 (T.cT.dt _)
    · rintro σ H1 ⟨⟨p, q, u, rfl⟩, g, hc⟩
      have et : es.take xs.length = es := by rw [hxs.len, List.length_map, List.take_length]
      rw [et] at g hc
      obtain ⟨k, acc, g2, g3⟩ := g
      have ea : allValues es = (.com, es.flatMap (·.res)) := by
        unfold allValues
        rw [if_pos]
        rw [List.all_eq_true]
        intro e he
        exact decide_eq_true (hc e he)
      rw [ea] at r
      refine ⟨_, rfl, D, acc, rfl, .inl ⟨SqL.of g2, fun l hl => ⟨by show 2 ≤ sizeLine; decide, fun p hp => ?_⟩⟩⟩
      have k1 : Kp none H1 (upd H1 l (.tup acc)) := Kp.new hl
      exact r _ _ ((k.trans k1).trans (Kp.new hp)) (new_dd hp (.cons (.str _) (.cons (new_dd hl g3) .nil))).dt)
def sp_firstValue (K : PySem.W.Frag) : Sp := fun vs H Q E => match vs with
  | [v] => ∃ es, EndsAt K H v es ∧ RetT K H (toldL (firstValue es)) Q
  | _ => False
/-- None, or an end -/
def OEnd (K : PySem.W.Frag) (H : Hp) (v : V) : Option End → Prop
  | none => v = .non
  | some e => DD K H v (eEnd e)
theorem DD.ne_non {K : PySem.W.Frag} {H : Hp} {v : V} {ds : List PyData} (h : DD K H v (.tuple ds)) : decide (v = .non) = false := by
  obtain ⟨a, xs, rfl, _⟩ := h.sq
  rfl
theorem firstGo_step (f : Option End) (e : End) (es : List End) : firstGo f (e :: es) = firstGo (if e.oc = .com then (match f with | none => some e | some g => if ilt e.en g.en = true then some e else some g) else f) es := rfl
theorem k_first_value (T : Txt K mg) : Cal P w K mg base 1 "_first_value" (He.ga K "_first_value") ["ends"] (sp_firstValue K) :=
  cal_first_value T (okF T.d_first_value sc_first_value (fun vs H Q E h => match vs, h with | [_], _ => rfl) fun cdv A outer s H vs Q E hr h => match vs, h with
  | [v], h => by
    obtain ⟨es, ⟨a, xs, rfl, hsq, hxs, hlen⟩, r⟩ := h
    refine ⟨_, (pss_cons (ps_set (i := 1) sc_first_value.nd rfl (by first | exact Or.inl rfl | exact Or.inr rfl) pe_non) (pss_cons (ps_for PassesOwn.never rfl (pi_list (pv 0)) (pg_name (i := 2) sc_first_value.nd rfl (by first | exact Or.inl rfl | exact Or.inr rfl)) (pss_one (ps_if (PW.pt (pw_and (pt_cmpR (op_eq) (pe_ix ix_dd (pv 2) pe_int (fun _ _ => rfl)) pe_str (nomark _)) (pw_and1 (PW.pt (pw_or (pt_cmp (pc_isN (pv 1)) rfl) (pw_or1 (pt_cmpR (op_ltI (hu_of hr)) (pe_ix ix_dd (pv 2) pe_int (fun _ _ => rfl)) (pe_ix ix_dd (pv 1) pe_int (fun _ _ => rfl)) (nomark _)))))))) (pss_one (ps_set (i := 1) sc_first_value.nd rfl (by first | exact Or.inl rfl | exact Or.inr rfl) (pv 2))) pss_nil))) (pss_one (ps_ret (pe_ifExp (pt_cmp (pc_isN (pv 1)) rfl) (pe_glob (v := .ref (He.ga K "CANCELLED")) rfl T.gX rfl) (pe_slice sl_dd (pv 1) (po_some pe_int) po_none)))))), ?_⟩
    refine ⟨_, rfl, a, rfl, ⟨xs, hsq⟩, ?_⟩
    refine for_list (xs := xs) (fun i σ H1 => H1 = H ∧ ∃ f vf p, σ = [some (.ref a), some vf, p] ∧ OEnd K H vf f ∧ firstGo none es = firstGo f (es.drop i)) ⟨rfl, none, _, _, rfl, rfl, rfl⟩ (fun i σ H1 _ g => by rw [g.1]; exact hsq) ?_ ?_
    · rintro i x σ H1 hx ⟨rfl, f, vf, p, rfl, hf, ef⟩
      obtain ⟨d, hd, hxd⟩ := hxs.of_get hx
      obtain ⟨e, he, rfl⟩ := map_get hd
      have hi := (List.getElem?_eq_some_iff.mp he).1
      have hdrop : es.drop i = e :: es.drop (i + 1) := by
        rw [List.drop_eq_getElem_cons hi]
        congr 1
        exact (List.getElem?_eq_some_iff.mp he).2
      rw [hdrop, firstGo_step] at ef
      refine ⟨_, rfl, _, _, _, hxd, rfl, rfl, fun z hz => ?_⟩
      cases hz.to_str
      refine ⟨rfl, _, rfl, ?_⟩
      rw [dCom]
      by_cases q : e.oc = .com
      · rw [if_pos q] at ef
        refine itT (decide_eq_true q) ?_
        refine ⟨_, rfl, _, rfl, ?_⟩
        cases f with
        | none =>
          cases hf
          exact ⟨_, rfl, rfl, some e, _, _, rfl, hxd, ef⟩
        | some g =>
          refine itF (DD.ne_non hf) ?_
          refine ⟨_, rfl, _, _, _, hxd, rfl, rfl, fun y hy => ⟨_, rfl, _, _, _, hf, rfl, rfl, fun y2 hy2 => ⟨_, _, hy.ins, hy2.ins, _, rfl, ?_⟩⟩⟩
          dsimp only at ef
          refine itB (fun z => ?_) (fun z => ?_)
          · rw [if_pos z] at ef
            exact ⟨_, rfl, rfl, some e, _, _, rfl, hxd, ef⟩
          · rw [if_neg (by rw [z]; exact Bool.false_ne_true)] at ef
            exact ⟨rfl, some g, _, _, rfl, hf, ef⟩
      · rw [if_neg q] at ef
        refine itF (decide_eq_false q) ?_
        refine itF rfl ?_
        exact ⟨rfl, f, _, _, rfl, hf, ef⟩
    · rintro σ H1 ⟨rfl, f, vf, p, rfl, hf, ef⟩
      have ed : es.drop xs.length = [] := by rw [hxs.len, List.length_map, List.drop_length]
      rw [ed] at ef
      have ef : firstGo none es = f := ef
      refine ⟨_, rfl, _, rfl, ?_⟩
      unfold firstValue at r
      rw [ef] at r
      cases f with
      | none =>
        cases hf
        exact r _ _ (Kp.refl _ _) (T.cT.dt _)
      | some g =>
        refine itF (DD.ne_non hf) ?_
        refine ⟨_, rfl, _, rfl, _, hf, fun v H' k h => r v H' k h.dt⟩)
def sp_first (K : PySem.W.Frag) : Sp := fun vs H Q E => match vs with
  | [v, .str s] => ∃ es o, EndsAt K H v es ∧ s = ocS o ∧ ∀ v H', Kp none H H' → OIns H' v (firstOf es o) → Q v H'
  | _ => False
theorem k_first (T : Txt K mg) : Cal P w K mg base 1 "_first" (He.ga K "_first") ["ends", "outcome"] (sp_first K) :=
  cal_first T (okF T.d_first sc_first (fun vs H Q E h => match vs, h with | [_, .str _], _ => rfl) fun cdv A outer s H vs Q E hr h => match vs, h with
  | [v, .str s], h => by
    obtain ⟨es, o, ⟨a, xs, rfl, hsq, hxs, hlen⟩, rfl, r⟩ := h
    refine ⟨_, (pss_cons (ps_setLc (i := 2) (own := [("end", 3)]) (g := (gName 3)) (tt := (tTest (tOp rEq (tOp (rIxD K) (tVar 3) (tC (.int 1))) (tVar 1)))) (te := (tOp (rIxD K) (tVar 3) (tC (.int 0)))) rfl sc_first.nd rfl rfl (sw_true rfl rfl rfl (by decide +kernel)) (pi_list (pv 0)) (blkOk_by (N := ["ends", "outcome", "instants", "end"]) (sc := defScope s_first) (by decide +kernel)) (fun _ _ _ _ _ => (pg_name (i := 3) sc_first.nd rfl (by first | exact Or.inl rfl | exact Or.inr rfl))) (fun _ _ _ _ _ => (pts_one (pt_cmpR (op_eq) (pe_ix ix_dd (pv 3) pe_int (fun _ _ => rfl)) (pv 1) (nomark _)))) (fun _ _ _ _ _ => (pe_ix ix_dd (pv 3) pe_int (fun _ _ => rfl)))) (pss_one (ps_ret (pe_ifExp (pt_truth (pv 2) (by intro _; rfl)) (pe_callB (cr_minL rfl (hu_of2 hr)) (by rfl) T.z_min (by decide +kernel) (pa_cons (pv 2) pa_nil)) pe_non)))), ?_⟩
    refine ⟨_, rfl, a, rfl, ⟨xs, hsq⟩, fun D hD => ?_⟩
    refine lcL (xs := xs) (fun i H1 => Gr K none H D (((es.take i).filter fun e => e.oc = o).map fun e => eI e.en) H1) (Gr.start hD) (fun i H1 _ g => sqL_keep hsq g.1) ?_ ?_
    · intro i x H1 hx g
      obtain ⟨d, hd, hxd⟩ := hxs.of_get hx
      obtain ⟨e, he, rfl⟩ := map_get hd
      refine ⟨rfl, ?_⟩
      refine ⟨_, rfl, _, _, _, hxd.mk0 g.1, rfl, rfl, fun z hz => ?_⟩
      cases hz.to_str
      refine ⟨_, rfl, rfl, _, rfl, ?_⟩
      rw [dOc, List.take_add_one, he, List.filter_append]
      by_cases q : e.oc = o
      · refine itT (decide_eq_true q) ?_
        refine ⟨_, rfl, _, _, _, hxd.mk0 g.1, rfl, rfl, fun y hy => ?_⟩
        have e2 := g.add0 hD (Kp.refl _ _) hy (by
          rw [List.length_map]
          refine Nat.lt_of_le_of_lt (List.length_filter_le _ _) ?_
          rw [List.length_take]
          show _ < 16777216
          omega)
        simpa [q] using e2
      · refine itF (decide_eq_false q) ?_
        simpa [q] using g
    · intro H1 g
      rw [show es.take xs.length = es by rw [hxs.len, List.length_map, List.take_length]] at g
      obtain ⟨k, acc, g2, g3⟩ := g
      refine ⟨_, rfl, _, .inl ⟨acc, SqL.of g2, rfl⟩, ?_⟩
      have g3 : DDs K H1 acc (((es.filter fun e => e.oc = o).map (·.en)).map eI) := by rw [List.map_map]; exact g3
      have r := r
      unfold firstOf at r
      cases hc : (es.filter fun e => e.oc = o).map (·.en) with
      | nil =>
        rw [hc] at g3 r
        cases g3
        exact r _ _ k rfl
      | cons i is =>
        rw [hc] at g3 r
        cases g3 with
        | @cons v0 vs0 _ _ h1 h2 =>
        refine itT rfl ?_
        refine ⟨_, rfl, D, v0 :: vs0, i, is, rfl, SqL.of g2, .cons h1.ins (DDs.insts h2), fun x hx => r _ _ k hx⟩)
end
end Asf
set_option linter.all false
namespace Asf
/-! ### how many values or errors at most -/
theorem resN_nil : resN [] = 0 := rfl
theorem resN_cons (e : End) (es : List End) : resN (e :: es) = e.res.length + resN es := by unfold resN; rw [List.flatMap_cons, List.length_append]
theorem resN_mem {es : List End} {e : End} (h : e ∈ es) : e.res.length ≤ resN es := by
  induction es with
  | nil => cases h
  | cons x es ih =>
    rw [resN_cons]
    rcases List.mem_cons.mp h with rfl | h
    · omega
    · have := ih h; omega
theorem resN_filter (p : End → Bool) (es : List End) : resN (es.filter p) ≤ resN es := by
  induction es with
  | nil => exact Nat.le_refl _
  | cons x es ih =>
    rw [resN_cons, List.filter_cons]
    split
    · rw [resN_cons]; omega
    · omega
theorem allValues_le (es : List End) : (allValues es).2.length ≤ resN es := by
  unfold allValues
  split
  · exact Nat.le_refl _
  · exact Nat.zero_le _
theorem firstGo_le (n : Nat) : ∀ (es : List End) (f : Option End), (∀ g, f = some g → g.res.length ≤ n) → (∀ e ∈ es, e.res.length ≤ n) → ∀ g, firstGo f es = some g → g.res.length ≤ n
  | [], f, h1, h2, g, h => h1 g h
  | e :: es, f, h1, h2, g, h => by
    rw [firstGo_step] at h
    refine firstGo_le n es _ ?_ (fun x hx => h2 x (List.mem_cons_of_mem _ hx)) g h
    intro x hx
    by_cases q : e.oc = .com
    · rw [if_pos q] at hx
      cases f with
      | none =>
        obtain rfl := Option.some.inj hx
        exact h2 e List.mem_cons_self
      | some y =>
        dsimp only at hx
        split at hx
        · obtain rfl := Option.some.inj hx
          exact h2 e List.mem_cons_self
        · exact h1 x hx
    · rw [if_neg q] at hx
      exact h1 x hx
theorem firstValue_le (es : List End) : (firstValue es).2.length ≤ resN es := by
  unfold firstValue
  cases h : firstGo none es with
  | none => exact Nat.zero_le _
  | some f => exact firstGo_le (resN es) es none (by simp) (fun e he => resN_mem he) f h
theorem together_le (s : Ins) (c : Option Ins) (ends counted : List End) (told : Oc × List Er) {n : Nat} (h1 : resN counted ≤ n) (h2 : told.2.length ≤ n) : (together s c ends counted told).res.length ≤ n := by
  unfold together
  split
  · exact Nat.le_trans (errorsOf_le counted) h1
  · split
    · exact Nat.zero_le _
    · exact h2
theorem ends_le : ∀ (ts : List T), (∀ t ∈ ts, ∀ s c, ((den t).fin s c).res.length ≤ size t) → ∀ s c, resN ((denL ts).map fun b => b.fin s c) ≤ sizeL ts
  | [], _, s, c => Nat.le_refl _
  | t :: ts, h, s, c => by
    have h1 := h t List.mem_cons_self s c
    have h2 := ends_le ts (fun x hx => h x (List.mem_cons_of_mem _ hx)) s c
    rw [denL, List.map_cons, resN_cons, sizeL]
    omega
theorem pool_le : ∀ (ts : List T), (∀ t ∈ ts, ∀ s c, ((den t).fin s c).res.length ≤ size t) → ∀ (n : Int) (s : Ins) (c : Option Ins) (k : Nat) (comp : List Ins), resN ((poolRes n s c k comp (denL ts)).map (endOr s)) ≤ sizeL ts
  | [], _, n, s, c, k, comp => Nat.le_refl _
  | t :: ts, h, n, s, c, k, comp => by
    have h1 := h t List.mem_cons_self
    have h2 := pool_le ts (fun x hx => h x (List.mem_cons_of_mem _ hx)) n s c (k + 1) (comp ++ comOf (poolOne n s c k comp (den t)).2)
    rw [denL, poolRes, List.map_cons, resN_cons, sizeL]
    have h3 : (endOr s (poolOne n s c k comp (den t))).res.length ≤ size t := by
      unfold poolOne
      have z : (endOr s ((none : Option Ins), c.map fun x => (⟨nexti x, .can, []⟩ : End))).res.length ≤ size t := by
        unfold endOr
        cases c <;> exact Nat.zero_le _
      cases beginOf n s k comp with
      | none => exact z
      | some g =>
        dsimp only
        split
        · exact h1 g c
        · exact z
    omega
theorem seqGo_le (n : Nat) (c : Option Ins) : ∀ (ts : List T), (∀ t ∈ ts, ∀ s c, ((den t).fin s c).res.length ≤ n) → ∀ (k : Nat) (told : End), told.res.length ≤ n → (seqGo c k told (denL ts)).1.res.length ≤ n
  | [], _, k, told, h => h
  | t :: ts, h, k, told, h0 => by
    rw [denL, seqGo]
    split
    · exact seqGo_le n c ts (fun x hx => h x (List.mem_cons_of_mem _ hx)) _ _ (h t List.mem_cons_self _ _)
    · exact h t List.mem_cons_self _ _
theorem size_mem {ts : List T} {t : T} (h : t ∈ ts) : size t ≤ sizeL ts := by
  induction ts with
  | nil => cases h
  | cons x ts ih =>
    rw [sizeL]
    rcases List.mem_cons.mp h with rfl | h
    · omega
    · have := ih h; omega
theorem retryGo_le (n : Nat) (b : Beh) (d : Int) (c : Option Ins) (h : ∀ s c, (b.fin s c).res.length ≤ n) : ∀ (left run : Nat) (s : Ins), (retryGo b d c left run s).1.res.length ≤ n
  | 0, run, s => h s c
  | left + 1, run, s => by
    rw [retryGo]
    split
    · split
      · split
        · exact retryGo_le n b d c h left _ _
        · exact Nat.zero_le _
      · exact Nat.zero_le _
    · exact h s c
mutual
theorem res_le : ∀ (t : T) (s : Ins) (c : Option Ins), ((den t).fin s c).res.length ≤ size t
  | .job d g v cl f, s, c => by
    show (jobEnd d g v cl f s c).res.length ≤ 1
    unfold jobEnd
    split
    · exact Nat.le_refl _
    · cases f
      · exact Nat.zero_le _
      · exact Nat.le_refl _
  | .scope k ps, s, c => by
    have h := ends_le ps (res_leL ps) s (limOf k c ((denL ps).map fun b => b.fin s c))
    unfold den
    show (scopeEnd k (denL ps) s c).res.length ≤ sizeL ps + 1
    unfold scopeEnd
    refine Nat.le_succ_of_le (together_le _ _ _ _ _ ?_ ?_)
    · unfold countedOf
      split
      · exact Nat.le_trans (resN_filter _ _) h
      · exact h
    · unfold toldOf
      split
      · exact Nat.le_trans (allValues_le _) h
      · exact Nat.le_trans (firstValue_le _) h
  | .pool n ps, s, c => by
    unfold den
    show (poolEnd n (denL ps) s c).res.length ≤ sizeL ps + 1
    unfold poolEnd
    have h := pool_le ps (res_leL ps) n s (poolLim n (denL ps) s c) 0 []
    exact Nat.le_succ_of_le (together_le _ _ _ _ _ h (Nat.le_trans (allValues_le _) h))
  | .seq ps, s, c => by
    unfold den
    show (seqGo c 0 ⟨s, .com, []⟩ (denL ps)).1.res.length ≤ sizeL ps + 1
    exact Nat.le_succ_of_le (seqGo_le (sizeL ps) c ps (fun t ht s c => Nat.le_trans (res_leL ps t ht s c) (size_mem ht)) 0 _ (Nat.zero_le _))
  | .timeout k p, s, c => by
    unfold den
    show (timeoutEnd k (den p) s c).res.length ≤ size p + 1
    unfold timeoutEnd timeoutFin
    have h := res_le p s (earliest c (some (later s k)))
    split
    · exact Nat.le_succ_of_le h
    · have h2 : (timeoutEr k s c ((den p).fin s (earliest c (some (later s k))))).length ≤ size p + 1 := by
        have h3 := errorsOf_le [(den p).fin s (earliest c (some (later s k)))]
        rw [resN_cons, resN_nil] at h3
        unfold timeoutEr
        split
        · rw [List.length_cons]; omega
        · omega
      unfold lateEnd
      split
      · exact Nat.zero_le _
      · exact h2
  | .orelse p q, s, c => by
    unfold den
    show (orelseCrs (den p) (den q) s c).1.res.length ≤ size p + size q + 1
    unfold orelseCrs
    have h1 := res_le p s c
    split
    · split
      · have h2 := res_le q ((den p).fin s c).en c
        show ((den q).fin ((den p).fin s c).en c).res.length ≤ _
        omega
      · exact Nat.zero_le _
    · show ((den p).fin s c).res.length ≤ _
      omega
  | .retry n d p, s, c => by
    unfold den
    exact Nat.le_succ_of_le (retryGo_le (size p) (den p) d c (fun s c => res_le p s c) n 0 s)
theorem res_leL : ∀ (ts : List T), ∀ t ∈ ts, ∀ s c, ((den t).fin s c).res.length ≤ size t
  | [], t, h, _, _ => by cases h
  | p :: ps, t, h, s, c => by
    rcases List.mem_cons.mp h with e | h
    · rw [e]; exact res_le p s c
    · exact res_leL ps t h s c
end
theorem crs_timeout (k : Int) (p : T) : (den (.timeout k p)).crs = timeoutCrs k (den p) := by rw [den]; rfl
theorem crs_scope (k : Kd) (ps : List T) : (den (.scope k ps)).crs = scopeCrs k (denL ps) := by rw [den]; rfl
theorem crs_pool (n : Int) (ps : List T) : (den (.pool n ps)).crs = poolCrs n (denL ps) := by rw [den]; rfl
theorem crs_seq (ps : List T) : (den (.seq ps)).crs = seqCrs (denL ps) := by rw [den]; rfl
theorem crs_orelse (p q : T) : (den (.orelse p q)).crs = orelseCrs (den p) (den q) := by rw [den]; rfl
theorem crs_retry (n : Nat) (d : Int) (p : T) : (den (.retry n d p)).crs = retryCrs n d (den p) := by rw [den]; rfl
theorem ole_earliest {s : Ins} {c k : Option Ins} (h1 : OLe s c) (h2 : OLe s k) : OLe s (earliest c k) := by
  cases c with
  | none => exact h2
  | some x =>
    cases k with
    | none => exact h1
    | some y =>
      rw [earliest_ss]
      split
      · exact h2
      · exact h1
theorem kid_size {t p : T} (h : p ∈ kidsT t) : size p < size t := by
  rw [size_eq t]
  have := size_mem h
  omega
theorem spans_size {all : List T} (S : Spans all) {i : Nat} {t : T} (h : all[i]? = some t) : size t ≤ all.length := by
  have h1 := (S i t h).1
  have h2 := (List.getElem?_eq_some_iff.mp h).1
  omega
theorem subs_size {t u : T} {i : Nat} (h : (subs t)[i]? = some u) : size u ≤ size t := by
  rw [← subs_len t]
  exact spans_size (subs_spans t) h
end Asf
set_option Elab.async false
set_option linter.all false
set_option maxRecDepth 100000
set_option maxHeartbeats 4000000
namespace Asf
open PySem PySem.Spec PyProof.Rows L2
/-! ### keys -/
def kI (i : Ins) : NestedKey := .tup [.num i.1, .num i.2]
def kO : Option Ins → NestedKey
  | none => .none
  | some i => kI i
def ckey (i : Nat) (s : Ins) (c : Option Ins) : NestedKey := .tup [.num i, kI s, kO c]
theorem kI_data (i : Ins) : (kI i).data = eI i := by simp [kI, NestedKey.data, NestedKey.datas]
theorem kO_data (c : Option Ins) : (kO c).data = eO c := by
  cases c with
  | none => simp [kO, NestedKey.data, eO]
  | some i => exact kI_data i
theorem ckey_data (i : Nat) (s : Ins) (c : Option Ins) : (ckey i s c).data = .tuple [.int i, eI s, eO c] := by
  unfold ckey
  simp only [NestedKey.data, NestedKey.datas, kI_data, kO_data]
theorem kI_depth (i : Ins) : (kI i).depth ≤ 2 := by simp [kI, NestedKey.depth, NestedKey.depthAll]
theorem kO_depth (c : Option Ins) : (kO c).depth ≤ 2 := by
  cases c with
  | none => simp [kO, NestedKey.depth]
  | some i => exact kI_depth i
theorem ckey_depth (i : Nat) (s : Ins) (c : Option Ins) : (ckey i s c).depth ≤ 8 := by
  have h1 := kI_depth s
  have h2 := kO_depth c
  unfold ckey
  simp only [NestedKey.depth, NestedKey.depthAll]
  omega
theorem kI_inj {i j : Ins} (h : kI i = kI j) : i = j := by
  unfold kI at h
  injection h with h
  injection h with h1 h2
  injection h2 with h2 _
  injection h1 with h1
  injection h2 with h2
  exact Prod.ext h1 h2
theorem kO_inj {c d : Option Ins} (h : kO c = kO d) : c = d := by
  cases c <;> cases d
  · rfl
  · unfold kO kI at h; cases h
  · unfold kO kI at h; cases h
  · rw [kI_inj h]
theorem ckey_inj {i j : Nat} {s u : Ins} {c d : Option Ins} (h : ckey i s c = ckey j u d) : i = j ∧ s = u ∧ c = d := by
  unfold ckey at h
  injection h with h
  injection h with h1 h
  injection h with h2 h
  injection h with h3 _
  injection h1 with h1
  exact ⟨by omega, kI_inj h2, kO_inj h3⟩
/-! ### what a course looks like -/
def ePart (ki : List Nat) (p : Part) : PyData := .tuple [.int p.scope, .int p.part, .int ((ki.getD p.kid 0 : Nat) : Int), eO p.beg, eO p.lim, eO p.nev]
def CourseAt (K : PySem.W.Frag) (N : Addr → Prop) (H : Hp) (v : V) (c : End × List Part) (ki : List Nat) : Prop :=
  ∃ a ve l pv, v = .ref a ∧ H a = some (.tup [ve, .ref l]) ∧ DD K H ve (eEnd c.1) ∧ H l = some (.lst pv) ∧ DDs K H pv (c.2.map (ePart ki)) ∧ ¬ N l
def Tr (N : Addr → Prop) (H : Hp) : Prop := ∀ D, N D → ∃ xs, H D = some (.lst xs)
def KN (N : Addr → Prop) (H H' : Hp) : Prop := ∀ a o, H a = some o → ¬ N a → H' a = some o
abbrev addN (N : Addr → Prop) (D : Addr) : Addr → Prop := fun a => a = D ∨ N a
theorem KN.of0 {N : Addr → Prop} {H H' : Hp} (k : Kp none H H') : KN N H H' := fun a o h _ => k a o h (by simp)
theorem KN.put {N : Addr → Prop} {H : Hp} {D : Addr} {o : HO} (h : N D) : KN N H (upd H D o) := fun a u ha hn => by
  rw [upd_ne (fun e => hn (by rw [e]; exact h))]
  exact ha
theorem KN.tk {N : Addr → Prop} {H H' : Hp} (k : KN N H H') (t : Tr N H) : TK H H' := fun a xs h => k a _ h fun n => by
  obtain ⟨ys, e⟩ := t a n
  rw [e] at h
  cases h
theorem Tr.keep {N : Addr → Prop} {H H' : Hp} {B : Option Addr} (t : Tr N H) (k : Kp B H H') (hB : ∀ b, B = some b → ∀ xs, H b ≠ some (.lst xs)) : Tr N H' := fun D n => by
  obtain ⟨xs, e⟩ := t D n
  exact ⟨xs, k D _ e (fun z => hB D z xs e)⟩
theorem CourseAt.mono {K : PySem.W.Frag} {N : Addr → Prop} {H H' : Hp} {v : V} {c : End × List Part} {ki : List Nat} (h : CourseAt K N H v c ki) (t : Tr N H) (k : KN N H H') : CourseAt K N H' v c ki := by
  obtain ⟨a, ve, l, pv, h1, h2, h3, h4, h5, h6⟩ := h
  have tk := k.tk t
  exact ⟨a, ve, l, pv, h1, tk _ _ h2, DD.mono tk _ _ h3, k l _ h4 h6, DDs.mono tk _ _ h5, h6⟩
/-- all stays but one dict of nested keys -/
theorem CourseAt.keep {K : PySem.W.Frag} {N : Addr → Prop} {H H' : Hp} {v : V} {c : End × List Part} {ki : List Nat} {b : Addr} {F : Heap → Prop} (h : CourseAt K N H v c ki) (hb : H b = some (.ext F)) (k : Kp (some b) H H') : CourseAt K N H' v c ki := by
  obtain ⟨a, ve, l, pv, h1, h2, h3, h4, h5, h6⟩ := h
  have tk := k.tk hb (fun xs z => by cases z)
  have hl : some b ≠ some l := fun z => by
    injection z with z
    rw [z, h4] at hb
    cases hb
  exact ⟨a, ve, l, pv, h1, tk _ _ h2, DD.mono tk _ _ h3, k l _ h4 hl, DDs.mono tk _ _ h5, h6⟩
/-- the object Foretelling, its known courses -/
structure Fore (P : Program) (w : World) (K : PySem.W.Frag) (N : Addr → Prop) (t : T) (m : Nat) (H : Hp) (p kd : Addr) : Prop where
  wf : WF t
  sz : size t ≤ 1000
  ob : ∃ dx vp, H p = some (.ins (CF K) dx [("_plan", vp), ("_known", .ref kd)]) ∧ DD K H vp (ePlan (subs t))
  nk : ∃ xs, NkAt K P w H kd xs ∧ xs.length ≤ m ∧ ∀ x ∈ xs, ∃ i s c u, x.1 = ckey i s c ∧ (subs t)[i]? = some u ∧ CourseAt K N H x.2.2 ((den u).crs s c) (kidIdx i u)
  tr : Tr N H
theorem NKey.mono {K : PySem.W.Frag} {H H' : Hp} {k : NestedKey} {a : Addr} (h : NKey K H k a) (tk : TK H H') : NKey K H' k a := ⟨DD.mono tk _ _ h.1, h.2⟩
section
variable {P : Program} {w : World} {K : PySem.W.Frag} {N : Addr → Prop} {t : T} {m : Nat} {H H' : Hp} {p kd : Addr}
theorem Fore.kdx (F : Fore P w K N t m H p kd) : ∃ G, H kd = some (.ext G) := by
  obtain ⟨xs, n, _⟩ := F.nk
  exact ⟨_, n.ob⟩
theorem Fore.tk (F : Fore P w K N t m H p kd) (k : Kp (some kd) H H') : TK H H' := by
  obtain ⟨G, h⟩ := F.kdx
  exact k.tk h (fun xs z => by cases z)
theorem Fore.mono (F : Fore P w K N t m H p kd) (k : KN N H H') (tr : Tr N H') : Fore P w K N t m H' p kd := by
  have tk := k.tk F.tr
  refine ⟨F.wf, F.sz, ?_, ?_, tr⟩
  · obtain ⟨dx, vp, h1, h2⟩ := F.ob
    exact ⟨dx, vp, k p _ h1 (fun n => by obtain ⟨ys, e⟩ := F.tr p n; rw [e] at h1; cases h1), DD.mono tk _ _ h2⟩
  · obtain ⟨xs, n, hl, h⟩ := F.nk
    refine ⟨xs, ⟨k kd _ n.ob (fun z => by obtain ⟨ys, e⟩ := F.tr kd z; rw [n.ob] at e; cases e), n.ns, fun x hx => (n.ks x hx).mono tk⟩, hl, fun x hx => ?_⟩
    obtain ⟨i, s, c, u, q1, q2, q3⟩ := h x hx
    exact ⟨i, s, c, u, q1, q2, q3.mono F.tr k⟩
theorem Fore.keep0 (F : Fore P w K N t m H p kd) (k : Kp none H H') : Fore P w K N t m H' p kd := F.mono (KN.of0 k) (F.tr.keep k (fun b z => by cases z))
theorem Fore.put (F : Fore P w K N t m H p kd) {D : Addr} (h : N D) (xs : List V) : Fore P w K N t m (upd H D (.lst xs)) p kd := F.mono (KN.put h) fun E n => by
  by_cases e : E = D
  · rw [e]; exact ⟨xs, upd_same⟩
  · rw [upd_ne e]; exact F.tr E n
/-- a list that is new is no part of it -/
theorem Fore.addN (F : Fore P w K N t m H p kd) {D : Addr} (h : H D = none) (xs : List V) : Fore P w K (addN N D) t m (upd H D (.lst xs)) p kd := by
  have F1 := F.keep0 (Kp.new (p := D) (o := .lst xs) h)
  refine ⟨F.wf, F.sz, F1.ob, ?_, ?_⟩
  · obtain ⟨ys, n, hl, q⟩ := F1.nk
    obtain ⟨ys0, n0, hl0, q0⟩ := F.nk
    refine ⟨ys0, ⟨?_, n0.ns, fun x hx => (n0.ks x hx).mono (TK.new h)⟩, hl0, fun x hx => ?_⟩
    · exact Kp.new (B := none) h kd _ n0.ob (by simp)
    · obtain ⟨i, s, c, u, q1, q2, a, ve, l, pv, h1, h2, h3, h4, h5, h6⟩ := q0 x hx
      have tk : TK H (upd H D (.lst xs)) := TK.new h
      exact ⟨i, s, c, u, q1, q2, a, ve, l, pv, h1, tk _ _ h2, DD.mono tk _ _ h3, Kp.new (B := none) h l _ h4 (by simp), DDs.mono tk _ _ h5, fun z => z.elim (fun e => by rw [e, h] at h4; cases h4) h6⟩
  · intro E n
    rcases n with n | n
    · rw [n]; exact ⟨xs, upd_same⟩
    · obtain ⟨ys, e⟩ := F.tr E n
      exact ⟨ys, Kp.new (B := none) h E _ e (by simp)⟩
theorem CourseAt.sub {N' : Addr → Prop} {v : V} {c : End × List Part} {ki : List Nat} (h : CourseAt K N' H v c ki) (s : ∀ a, N a → N' a) : CourseAt K N H v c ki := by
  obtain ⟨a, ve, l, pv, h1, h2, h3, h4, h5, h6⟩ := h
  exact ⟨a, ve, l, pv, h1, h2, h3, h4, h5, fun z => h6 (s l z)⟩
theorem Fore.sub {N' : Addr → Prop} (F : Fore P w K N' t m H p kd) (s : ∀ a, N a → N' a) : Fore P w K N t m H p kd := by
  refine ⟨F.wf, F.sz, F.ob, ?_, fun D n => F.tr D (s D n)⟩
  obtain ⟨xs, n, hl, h⟩ := F.nk
  refine ⟨xs, n, hl, fun x hx => ?_⟩
  obtain ⟨i, s', c, u, q1, q2, q3⟩ := h x hx
  exact ⟨i, s', c, u, q1, q2, q3.sub s⟩
theorem Fore.le {m' : Nat} (F : Fore P w K N t m H p kd) (h : m ≤ m') : Fore P w K N t m' H p kd := by
  refine ⟨F.wf, F.sz, F.ob, ?_, F.tr⟩
  obtain ⟨xs, n, hl, q⟩ := F.nk
  exact ⟨xs, n, Nat.le_trans hl h, q⟩
theorem Fore.sqL (F : Fore P w K N t m H p kd) (k : Kp (some kd) H H') {a : Addr} {xs : List V} (h : SqL K H a xs) : SqL K H' a xs := by
  obtain ⟨G, hG⟩ := F.kdx
  rcases h with (h | ⟨o, h⟩) | h
  · exact .inl (.inl (k _ _ h (fun e => by injection e with e; rw [e, h] at hG; cases hG)))
  · exact .inl (.inr ⟨o, k _ _ h (fun e => by injection e with e; rw [e, h] at hG; cases hG)⟩)
  · exact .inr h
theorem Fore.sqT (F : Fore P w K N t m H p kd) (k : Kp (some kd) H H') {a : Addr} {xs : List V} (h : SqT K H a xs) : SqT K H' a xs := by
  obtain ⟨G, hG⟩ := F.kdx
  rcases h with (h | ⟨o, h⟩) | h
  · exact .inl (.inl (k _ _ h (fun e => by injection e with e; rw [e, h] at hG; cases hG)))
  · exact .inl (.inr ⟨o, k _ _ h (fun e => by injection e with e; rw [e, h] at hG; cases hG)⟩)
  · exact .inr h
theorem Fore.ne_new_l (F : Fore P w K N t m H p kd) {D : Addr} {xs : List V} (h : H D = some (.lst xs)) : some kd ≠ some D := fun e => by
  injection e with e
  obtain ⟨G, hG⟩ := F.kdx
  rw [e, h] at hG
  cases hG
theorem Fore.ne_new (F : Fore P w K N t m H p kd) {D : Addr} (h : H D = none) : some kd ≠ some D := fun e => by
  injection e with e
  obtain ⟨G, hG⟩ := F.kdx
  rw [e, h] at hG
  cases hG
end
/-! ### promises -/
section
variable (P : Program) (w : World) (K : PySem.W.Frag) (d : Nat)
def sp_end : Sp := fun vs H Q E => match vs with
  | [.ref p, .int pl, sv, cv] => ∃ N t m kd i u s c, Fore P w K N t m H p kd ∧ pl = (i : Nat) ∧ (subs t)[i]? = some u ∧ depth u ≤ d ∧ InsAt H sv s ∧ OIns H cv c ∧ OLe s c ∧ m + cost u ≤ 1000000 ∧
    ∀ v H', Kp (some kd) H H' → Fore P w K N t (m + cost u) H' p kd → DD K H' v (eEnd ((den u).fin s c)) → Q v H'
  | _ => False
def sp_course : Sp := fun vs H Q E => match vs with
  | [.ref p, .int pl, sv, cv] => ∃ N t m kd i u s c, Fore P w K N t m H p kd ∧ pl = (i : Nat) ∧ (subs t)[i]? = some u ∧ depth u ≤ d ∧ InsAt H sv s ∧ OIns H cv c ∧ OLe s c ∧ m + cost u ≤ 1000000 ∧
    ∀ v H', Kp (some kd) H H' → Fore P w K N t (m + cost u) H' p kd → CourseAt K N H' v ((den u).crs s c) (kidIdx i u) → Q v H'
  | _ => False
def sp_find : Sp := fun vs H Q E => match vs with
  | [.ref p, .int pl, sv, cv] => ∃ N t m kd i u s c, Fore P w K N t m H p kd ∧ pl = (i : Nat) ∧ (subs t)[i]? = some u ∧ depth u ≤ d ∧ InsAt H sv s ∧ OIns H cv c ∧ OLe s c ∧ m + cost u ≤ 1000000 ∧
    ∀ v H', Kp (some kd) H H' → Fore P w K N t (m + (cost u - 1)) H' p kd → CourseAt K N H' v ((den u).crs s c) (kidIdx i u) → Q v H'
  | _ => False
/-- one of the node's own methods -/
def sp_node (sel : T → Prop) : Sp := fun vs H Q E => match vs with
  | [.ref p, nv, sv, cv] => ∃ N t m kd i u s c, Fore P w K N t m H p kd ∧ DD K H nv (eAt i u) ∧ sel u ∧ (subs t)[i]? = some u ∧ depth u ≤ d ∧ InsAt H sv s ∧ OIns H cv c ∧ OLe s c ∧ m + cost u ≤ 1000000 ∧
    ∀ v H', Kp (some kd) H H' → Fore P w K N t (m + (cost u - 1)) H' p kd → CourseAt K N H' v ((den u).crs s c) (kidIdx i u) → Q v H'
  | _ => False
end
theorem cost_pos (u : T) : 1 ≤ cost u := by cases u <;> simp [cost]
theorem den_good {t u : T} {i : Nat} (w : WF t) (h : (subs t)[i]? = some u) : Good (den u) := good_den u (subs_wf t w u (List.mem_of_getElem? h))
end Asf
set_option Elab.async false
set_option linter.all false
set_option maxRecDepth 100000
set_option maxHeartbeats 4000000
namespace Asf
open PySem PySem.Spec PyProof.Rows L2
section
variable {P : Program} {w : World} {K : PySem.W.Frag} {mg : Str → Option Value} {base : Heap}
theorem m_end (T : Txt K mg) {k d : Nat} (M : Met P w K mg base k "course" (He.ma K (CF K) "course") ["self", "place", "start", "cancel"] (sp_course P w K d)) : Met P w K mg base (k + 1) "end" (He.ma K (CF K) "end") ["self", "place", "start", "cancel"] (sp_end P w K d) :=
  met_F_end T (okF T.d_F_end sc_F_end (fun vs H Q E h => match vs, h with | [.ref _, .int _, _, _], _ => rfl) fun cdv A outer s0 H vs Q E hr h => match vs, h with
  | [.ref p, .int pl, sv, cv], h => by
    obtain ⟨N, t, m, kd, i, u, s, c, F, rfl, hu, hd, hs, hc, ho, hm, r⟩ := h
    refine ⟨_, (pss_one (ps_ret (pe_ix ix_tup (pe_m M T.cl hr (pv 0) (pa_cons (pv 1) (pa_cons (pv 2) (pa_cons (pv 3) pa_nil))) (by omega)) pe_int (fun _ _ => rfl)))), ?_⟩
    obtain ⟨dx, vp, hob, hp⟩ := F.ob
    refine ⟨_, rfl, p, dx, _, rfl, hob, rfl, _, rfl, _, rfl, _, rfl, ?_⟩
    refine ⟨N, t, m, kd, i, u, s, c, F, rfl, hu, hd, hs, hc, ho, hm, fun v H1 k1 F1 hv => ?_⟩
    obtain ⟨a, ve, l, pv, rfl, h2, h3, h4, h5, h6⟩ := hv
    exact ⟨a, _, _, ve, rfl, rfl, SqT.of h2, rfl, r _ _ k1 F1 h3⟩)
theorem m_course (T : Txt K mg) {k d : Nat} (M : Met P w K mg base k "_find" (He.ma K (CF K) "_find") ["self", "place", "start", "cancel"] (sp_find P w K d)) : Met P w K mg base (k + 1) "course" (He.ma K (CF K) "course") ["self", "place", "start", "cancel"] (sp_course P w K d) :=
  met_F_course T (okF T.d_F_course sc_F_course (fun vs H Q E h => match vs, h with | [.ref _, .int _, _, _], _ => rfl) fun cdv A outer s0 H vs Q E hr h => match vs, h with
  | [.ref p, .int pl, sv, cv], h => by
    obtain ⟨N, t, m, kd, i, u, s, c, F, rfl, hu, hd, hs, hc, ho, hm, r⟩ := h
    refine ⟨_, (pss_cons (ps_set (i := 4) sc_F_course.nd rfl (by first | exact Or.inl rfl | exact Or.inr rfl) (pe_tup (pa_cons (pv 1) (pa_cons (pv 2) (pa_cons (pv 3) pa_nil))))) (pss_cons (ps_if (pt_cmp (pc_nknotin (hu_of10 hr) (pv 4) (pe_fld (pv 0) rfl))) (pss_one (ps_asg (pe_m M T.cl hr (pv 0) (pa_cons (pv 1) (pa_cons (pv 2) (pa_cons (pv 3) pa_nil))) (by omega)) (pg_sub (pe_fld (pv 0) rfl) (pv 4) (set_nk (hu_of10 hr))))) pss_nil) (pss_one (ps_ret (pe_nkget (hu_of10 hr) (pe_fld (pv 0) rfl) (pv 4) (fun _ _ => rfl)))))), ?_⟩
    obtain ⟨dx, vp, hob, hp⟩ := F.ob
    obtain ⟨xs, nk, hl, hx⟩ := F.nk
    refine ⟨_, rfl, _, rfl, _, rfl, by show 3 ≤ sizeLine; decide, fun b hb => ?_⟩
    have k1 : Kp none H (upd H b (.tup [.int (i : Nat), sv, cv])) := Kp.new hb
    have F1 := F.keep0 k1
    have key : NKey K (upd H b (.tup [.int (i : Nat), sv, cv])) (ckey i s c) b := ⟨by rw [ckey_data]; exact new_dd hb (.cons (.int _) (.cons hs.dd (.cons hc.dd .nil))), ckey_depth i s c⟩
    obtain ⟨dx1, vp1, hob1, hp1⟩ := F1.ob
    obtain ⟨xs1, nk1, hl1, hx1⟩ := F1.nk
    refine ⟨_, rfl, _, rfl, p, _, dx1, _, _, rfl, hob1, T.cl, T.nK, rfl, kd, b, ckey i s c, xs1, rfl, rfl, nk1, key, _, rfl, ?_⟩
    cases hlk : lookN xs1 (ckey i s c) with
    | some v =>
      refine elF rfl ?_
      obtain ⟨a, hm1⟩ := lookN_mem hlk
      obtain ⟨i', s', c', u', e1, e2, e3⟩ := hx1 _ hm1
      obtain ⟨rfl, rfl, rfl⟩ := ckey_inj e1
      obtain rfl : u = u' := Option.some.inj (hu.symm.trans e2)
      refine ⟨_, rfl, p, _, dx1, _, _, rfl, hob1, T.cl, T.nK, rfl, _, rfl, kd, b, ckey i s c, xs1, v, rfl, rfl, nk1, key, hlk, ?_⟩
      exact r _ _ k1.weak (F1.le (Nat.le_add_right _ _)) e3
    | none =>
      refine itT rfl ?_
      refine ⟨_, rfl, p, dx1, _, rfl, hob1, rfl, _, rfl, _, rfl, _, rfl, ?_⟩
      refine ⟨N, t, m, kd, i, u, s, c, F1, rfl, hu, hd, hs.mk0 k1, hc.mk0 k1, ho, hm, fun v H2 k2 F2 hv => ?_⟩
      obtain ⟨dx2, vp2, hob2, hp2⟩ := F2.ob
      obtain ⟨xs2, nk2, hl2, hx2⟩ := F2.nk
      have key2 := key.mono (F1.tk k2)
      have hcp := cost_pos u
      refine ⟨_, rfl, p, _, dx2, _, _, rfl, hob2, T.cl, T.nK, rfl, _, rfl, kd, b, ckey i s c, xs2, rfl, rfl, nk2, key2, by show _ < 16777216; omega, ?_⟩
      have F3 : Fore P w K N t (m + cost u) (upd H2 kd (nkO P w kd (putN xs2 (ckey i s c) b v))) p kd := by
        have kp : Kp (some kd) H2 (upd H2 kd (nkO P w kd (putN xs2 (ckey i s c) b v))) := Kp.put
        have tk := F2.tk kp
        have tr3 : Tr N (upd H2 kd (nkO P w kd (putN xs2 (ckey i s c) b v))) := F2.tr.keep kp (fun b e xs z => by
          injection e with e
          rw [← e, nk2.ob] at z
          cases z)
        refine ⟨F2.wf, F2.sz, ⟨dx2, vp2, ?_, DD.mono tk _ _ hp2⟩, ⟨putN xs2 (ckey i s c) b v, ⟨upd_same, nk2.ns, fun x hx => ?_⟩, ?_, fun x hx => ?_⟩, tr3⟩
        · refine kp p _ hob2 (fun e => ?_)
          injection e with e
          rw [← e, nk2.ob] at hob2
          cases hob2
        · rcases putN_mem hx with q | ⟨y, q1, q2, q3⟩ | q
          · exact (nk2.ks x q).mono tk
          · rw [q3]
            have := (nk2.ks y q1).mono tk
            rw [q2] at this
            exact this
          · rw [q]
            exact key2.mono tk
        · have := putN_len xs2 (ckey i s c) b v
          omega
        · have hv3 := hv.keep nk2.ob kp
          rcases putN_mem hx with q | ⟨y, q1, q2, q3⟩ | q
          · obtain ⟨i', s', c', u', e1, e2, e3⟩ := hx2 x q
            exact ⟨i', s', c', u', e1, e2, e3.keep nk2.ob kp⟩
          · rw [q3]
            exact ⟨i, s, c, u, rfl, hu, hv3⟩
          · rw [q]
            exact ⟨i, s, c, u, rfl, hu, hv3⟩
      obtain ⟨dx3, vp3, hob3, hp3⟩ := F3.ob
      have kp : Kp (some kd) H2 (upd H2 kd (nkO P w kd (putN xs2 (ckey i s c) b v))) := Kp.put
      have nk3 : NkAt K P w (upd H2 kd (nkO P w kd (putN xs2 (ckey i s c) b v))) kd (putN xs2 (ckey i s c) b v) := by
        obtain ⟨xs3, n3, _⟩ := F3.nk
        refine ⟨upd_same, nk2.ns, fun x hx => ?_⟩
        have tk := F2.tk kp
        rcases putN_mem hx with q | ⟨y, q1, q2, q3⟩ | q
        · exact (nk2.ks x q).mono tk
        · rw [q3]
          have := (nk2.ks y q1).mono tk
          rw [q2] at this
          exact this
        · rw [q]
          exact key2.mono tk
      refine ⟨_, rfl, p, _, dx3, _, _, rfl, hob3, T.cl, T.nK, rfl, _, rfl, kd, b, ckey i s c, _, v, rfl, rfl, nk3, key2.mono (F2.tk kp), lookN_put _ _ _ _, ?_⟩
      exact r _ _ ((k1.weak.trans k2).trans kp) F3 (hv.keep nk2.ob kp))
end
end Asf
set_option Elab.async false
set_option linter.all false
set_option maxRecDepth 100000
set_option maxHeartbeats 4000000
namespace Asf
open PySem PySem.Spec PyProof.Rows L2
theorem Met.lift {P : Program} {w : World} {K : PySem.W.Frag} {mg : Str → Option Value} {base : Heap} {k k' : Nat} {m : Str} {f : Addr} {ps : List Str} {sp : Sp} (M : Met P w K mg base k m f ps sp) (h : k ≤ k') : Met P w K mg base k' m f ps sp :=
  ⟨⟨M.F.len, fun A outer s H args us vs Q E hr => M.F.run A outer s H args us vs Q E (hr.mono h)⟩, M.m, M.b⟩
def isTimeout : T → Prop | .timeout .. => True | _ => False
def isSeq : T → Prop | .seq .. => True | _ => False
def isOrelse : T → Prop | .orelse .. => True | _ => False
def isRetry : T → Prop | .retry .. => True | _ => False
def isPool : T → Prop | .pool .. => True | _ => False
def isScope : T → Prop | .scope .. => True | _ => False
section
variable {P : Program} {w : World} {K : PySem.W.Frag} {mg : Str → Option Value} {base : Heap}
theorem m_find (T : Txt K mg) {k d : Nat} (h2 : 2 ≤ k) (Mt : Met P w K mg base k "_timeout" (He.ma K (CF K) "_timeout") ["self", "node", "start", "cancel"] (sp_node P w K d isTimeout)) (Ms : Met P w K mg base k "_sequence" (He.ma K (CF K) "_sequence") ["self", "node", "start", "cancel"] (sp_node P w K d isSeq))
    (Mo : Met P w K mg base k "_orelse" (He.ma K (CF K) "_orelse") ["self", "node", "start", "cancel"] (sp_node P w K d isOrelse)) (Mr : Met P w K mg base k "_retry" (He.ma K (CF K) "_retry") ["self", "node", "start", "cancel"] (sp_node P w K d isRetry))
    (Mp : Met P w K mg base k "_pool" (He.ma K (CF K) "_pool") ["self", "node", "start", "cancel"] (sp_node P w K d isPool)) (Mc : Met P w K mg base k "_scope" (He.ma K (CF K) "_scope") ["self", "node", "start", "cancel"] (sp_node P w K d isScope)) :
    Met P w K mg base (k + 1) "_find" (He.ma K (CF K) "_find") ["self", "place", "start", "cancel"] (sp_find P w K d) :=
  met_F_find T (okF T.d_F_find sc_F_find (fun vs H Q E h => match vs, h with | [.ref _, .int _, _, _], _ => rfl) fun cdv A outer s0 H vs Q E hr h => match vs, h with
  | [.ref p, .int pl, sv, cv], h => by
    obtain ⟨N, t, m, kd, i, u, s, c, F, rfl, hu, hd, hs, hc, ho, hm, r⟩ := h
    refine ⟨_, (pss_cons (ps_set (i := 4) sc_F_find.nd rfl (by first | exact Or.inl rfl | exact Or.inr rfl) (pe_ix ix_dd (pe_fld (pv 0) rfl) (pv 1) (fun _ _ => rfl))) (pss_cons (ps_if (pt_cmpR (op_eq) (pe_ix ix_dd (pv 4) pe_int (fun _ _ => rfl)) pe_str (nomark _)) (pss_one (ps_ret (pe_tup (pa_cons (pe_k (k_job_end T) hr (pa_cons (pv 4) (pa_cons (pv 2) (pa_cons (pv 3) pa_nil))) (by omega)) (pa_cons (pe_lst pa_nil) pa_nil))))) pss_nil) (pss_cons (ps_if (pt_cmpR (op_eq) (pe_ix ix_dd (pv 4) pe_int (fun _ _ => rfl)) pe_str (nomark _)) (pss_one (ps_ret (pe_m Mt T.cl hr (pv 0) (pa_cons (pv 4) (pa_cons (pv 2) (pa_cons (pv 3) pa_nil))) (by omega)))) pss_nil) (pss_cons (ps_if (pt_cmpR (op_eq) (pe_ix ix_dd (pv 4) pe_int (fun _ _ => rfl)) pe_str (nomark _)) (pss_one (ps_ret (pe_m Ms T.cl hr (pv 0) (pa_cons (pv 4) (pa_cons (pv 2) (pa_cons (pv 3) pa_nil))) (by omega)))) pss_nil) (pss_cons (ps_if (pt_cmpR (op_eq) (pe_ix ix_dd (pv 4) pe_int (fun _ _ => rfl)) pe_str (nomark _)) (pss_one (ps_ret (pe_m Mo T.cl hr (pv 0) (pa_cons (pv 4) (pa_cons (pv 2) (pa_cons (pv 3) pa_nil))) (by omega)))) pss_nil) (pss_cons (ps_if (pt_cmpR (op_eq) (pe_ix ix_dd (pv 4) pe_int (fun _ _ => rfl)) pe_str (nomark _)) (pss_one (ps_ret (pe_m Mr T.cl hr (pv 0) (pa_cons (pv 4) (pa_cons (pv 2) (pa_cons (pv 3) pa_nil))) (by omega)))) pss_nil) (pss_cons (ps_if (pt_cmpR (op_eq) (pe_ix ix_dd (pv 4) pe_int (fun _ _ => rfl)) pe_str (nomark _)) (pss_one (ps_ret (pe_m Mp T.cl hr (pv 0) (pa_cons (pv 4) (pa_cons (pv 2) (pa_cons (pv 3) pa_nil))) (by omega)))) pss_nil) (pss_one (ps_ret (pe_m Mc T.cl hr (pv 0) (pa_cons (pv 4) (pa_cons (pv 2) (pa_cons (pv 3) pa_nil))) (by omega))))))))))), ?_⟩
    obtain ⟨dx, vp, hob, hp⟩ := F.ob
    refine ⟨_, rfl, p, _, dx, _, _, rfl, hob, T.cl, T.nP, rfl, _, rfl, _, _, _, hp, rfl, L2.atI_nat (eAt_get hu), fun nv hn => ?_⟩
    dsimp only [gName]
    refine rd_seq ?_
    refine rd_if ?_
    cases u with
    | job jd g v cl f =>
      refine rd_kind "job" (by rfl) hn rfl ?_
      refine itT (by decide) ?_
      refine ⟨_, rfl, _, rfl, _, rfl, jd, g, v, cl, f, _, s, c, hn, hs, hc, ho, fun e H1 k1 he => ?_⟩
      refine ⟨by show 0 ≤ sizeLine; decide, fun l hl => ⟨by show 2 ≤ sizeLine; decide, fun a ha => ?_⟩⟩
      have k2 : Kp none H1 (upd H1 l (.lst [])) := Kp.new hl
      have k3 : Kp none (upd H1 l (.lst [])) (upd (upd H1 l (.lst [])) a (.tup [e, .ref l])) := Kp.new ha
      have hn0 : ¬ N l := fun z => by
        obtain ⟨xs, q⟩ := F.tr l z
        rw [k1 l _ q (by simp)] at hl
        cases hl
      refine r _ _ ((k1.trans k2).trans k3).weak ((F.keep0 ((k1.trans k2).trans k3)).le (by simp)) ?_
      exact ⟨a, e, l, [], rfl, upd_same, he.mk0 (k2.trans k3), k3 l _ upd_same (by simp), .nil, hn0⟩
    | timeout tk q =>
      refine rd_kind "timeout" (by rfl) hn rfl ?_
      refine elF (by decide) ?_
      refine rd_seq ?_; refine rd_if ?_; refine rd_kind "timeout" (by rfl) hn rfl ?_
      refine itT (by decide) ?_
      exact ⟨_, rfl, p, dx, _, rfl, hob, rfl, _, rfl, _, rfl, _, rfl, N, t, m, kd, i, _, s, c, F, hn, trivial, hu, hd, hs, hc, ho, hm, r⟩
    | seq ps =>
      refine rd_kind "sequence" (by rfl) hn rfl ?_
      refine elF (by decide) ?_
      refine rd_seq ?_; refine rd_if ?_; refine rd_kind "sequence" (by rfl) hn rfl ?_
      refine elF (by decide) ?_
      refine rd_seq ?_; refine rd_if ?_; refine rd_kind "sequence" (by rfl) hn rfl ?_
      refine itT (by decide) ?_
      exact ⟨_, rfl, p, dx, _, rfl, hob, rfl, _, rfl, _, rfl, _, rfl, N, t, m, kd, i, _, s, c, F, hn, trivial, hu, hd, hs, hc, ho, hm, r⟩
    | orelse q1 q2 =>
      refine rd_kind "orelse" (by rfl) hn rfl ?_
      refine elF (by decide) ?_
      refine rd_seq ?_; refine rd_if ?_; refine rd_kind "orelse" (by rfl) hn rfl ?_
      refine elF (by decide) ?_
      refine rd_seq ?_; refine rd_if ?_; refine rd_kind "orelse" (by rfl) hn rfl ?_
      refine elF (by decide) ?_
      refine rd_seq ?_; refine rd_if ?_; refine rd_kind "orelse" (by rfl) hn rfl ?_
      refine itT (by decide) ?_
      exact ⟨_, rfl, p, dx, _, rfl, hob, rfl, _, rfl, _, rfl, _, rfl, N, t, m, kd, i, _, s, c, F, hn, trivial, hu, hd, hs, hc, ho, hm, r⟩
    | retry rn rd q =>
      refine rd_kind "retry" (by rfl) hn rfl ?_
      refine elF (by decide) ?_
      refine rd_seq ?_; refine rd_if ?_; refine rd_kind "retry" (by rfl) hn rfl ?_
      refine elF (by decide) ?_
      refine rd_seq ?_; refine rd_if ?_; refine rd_kind "retry" (by rfl) hn rfl ?_
      refine elF (by decide) ?_
      refine rd_seq ?_; refine rd_if ?_; refine rd_kind "retry" (by rfl) hn rfl ?_
      refine elF (by decide) ?_
      refine rd_seq ?_; refine rd_if ?_; refine rd_kind "retry" (by rfl) hn rfl ?_
      refine itT (by decide) ?_
      exact ⟨_, rfl, p, dx, _, rfl, hob, rfl, _, rfl, _, rfl, _, rfl, N, t, m, kd, i, _, s, c, F, hn, trivial, hu, hd, hs, hc, ho, hm, r⟩
    | pool pn ps =>
      refine rd_kind "pool" (by rfl) hn rfl ?_
      refine elF (by decide) ?_
      refine rd_seq ?_; refine rd_if ?_; refine rd_kind "pool" (by rfl) hn rfl ?_
      refine elF (by decide) ?_
      refine rd_seq ?_; refine rd_if ?_; refine rd_kind "pool" (by rfl) hn rfl ?_
      refine elF (by decide) ?_
      refine rd_seq ?_; refine rd_if ?_; refine rd_kind "pool" (by rfl) hn rfl ?_
      refine elF (by decide) ?_
      refine rd_seq ?_; refine rd_if ?_; refine rd_kind "pool" (by rfl) hn rfl ?_
      refine elF (by decide) ?_
      refine rd_seq ?_; refine rd_if ?_; refine rd_kind "pool" (by rfl) hn rfl ?_
      refine itT (by decide) ?_
      exact ⟨_, rfl, p, dx, _, rfl, hob, rfl, _, rfl, _, rfl, _, rfl, N, t, m, kd, i, _, s, c, F, hn, trivial, hu, hd, hs, hc, ho, hm, r⟩
    | scope k ps =>
      refine rd_kind (kdS k) (by rfl) hn rfl ?_
      refine elF (by cases k <;> decide) ?_
      refine rd_seq ?_; refine rd_if ?_; refine rd_kind (kdS k) (by rfl) hn rfl ?_
      refine elF (by cases k <;> decide) ?_
      refine rd_seq ?_; refine rd_if ?_; refine rd_kind (kdS k) (by rfl) hn rfl ?_
      refine elF (by cases k <;> decide) ?_
      refine rd_seq ?_; refine rd_if ?_; refine rd_kind (kdS k) (by rfl) hn rfl ?_
      refine elF (by cases k <;> decide) ?_
      refine rd_seq ?_; refine rd_if ?_; refine rd_kind (kdS k) (by rfl) hn rfl ?_
      refine elF (by cases k <;> decide) ?_
      refine rd_seq ?_; refine rd_if ?_; refine rd_kind (kdS k) (by rfl) hn rfl ?_
      refine elF (by cases k <;> decide) ?_
      exact ⟨_, rfl, p, dx, _, rfl, hob, rfl, _, rfl, _, rfl, _, rfl, N, t, m, kd, i, _, s, c, F, hn, trivial, hu, hd, hs, hc, ho, hm, r⟩)
end
end Asf
set_option Elab.async false
set_option linter.all false
set_option maxRecDepth 100000
set_option maxHeartbeats 4000000
namespace Asf
open PySem PySem.Spec PyProof.Rows L2
section
variable {P : Program} {w : World} {K : PySem.W.Frag} {mg : Str → Option Value} {base : Heap}
theorem mkCourse {N : Addr → Prop} {H : Hp} {a : Addr} {ve : V} {l : Addr} {pv : List V} {c : End × List Part} {ki : List Nat} (ha : H a = none) (hv : DD K H ve (eEnd c.1)) (hl : H l = some (.lst pv)) (hp : DDs K H pv (c.2.map (ePart ki))) (hn : ¬ N l) : CourseAt K N (upd H a (.tup [ve, .ref l])) (.ref a) c ki := by
  have tk : TK H (upd H a (.tup [ve, .ref l])) := TK.new ha
  exact ⟨a, ve, l, pv, rfl, upd_same, DD.mono tk _ _ hv, Kp.new (B := none) ha l _ hl (by simp), DDs.mono tk _ _ hp, hn⟩
theorem not_tr {N : Addr → Prop} {H H' : Hp} {l : Addr} (t : Tr N H) (k : Kp none H H') (h : H' l = none) : ¬ N l := fun z => by
  obtain ⟨xs, q⟩ := t l z
  rw [k l _ q (by simp)] at h
  cases h
/-- what comes back at the end of a node's method -/
theorem retC {N : Addr → Prop} {t : T} {m : Nat} {H Hx : Hp} {p kd : Addr} {crs : End × List Part} {ki : List Nat} {Q : VK} (r : ∀ v H', Kp (some kd) H H' → Fore P w K N t m H' p kd → CourseAt K N H' v crs ki → Q v H') (k : Kp (some kd) H Hx) (F : Fore P w K N t m Hx p kd)
    {ve : V} {l : Addr} {pv : List V} (hv : DD K Hx ve (eEnd crs.1)) (hl : Hx l = some (.lst pv)) (hp : DDs K Hx pv (crs.2.map (ePart ki))) (hn : ¬ N l) : ∀ a, Hx a = none → Q (.ref a) (upd Hx a (.tup [ve, .ref l])) := fun a ha =>
  r _ _ (k.trans (Kp.new ha)) (F.keep0 (Kp.new ha)) (mkCourse ha hv hl hp hn)
theorem two_new {H : Hp} {a l : Addr} {xs : List V} {ds : List PyData} (ha : H a = none) (hl : upd H a (.tup xs) l = none) (hx : DDs K H xs ds) :
    Kp none H (upd (upd H a (.tup xs)) l (.lst [.ref a])) ∧ (upd (upd H a (.tup xs)) l (.lst [.ref a])) l = some (.lst [.ref a]) ∧ DD K (upd (upd H a (.tup xs)) l (.lst [.ref a])) (.ref a) (.tuple ds) ∧ H l = none :=
  ⟨(Kp.new ha).trans (Kp.new hl), upd_same, (new_dd ha hx).mk0 (Kp.new hl), (Kp.new (B := none) ha).free0 hl⟩
theorem m_timeout (T : Txt K mg) {k d : Nat} (hk : 1 ≤ k) (M : Met P w K mg base k "end" (He.ma K (CF K) "end") ["self", "place", "start", "cancel"] (sp_end P w K d)) : Met P w K mg base (k + 1) "_timeout" (He.ma K (CF K) "_timeout") ["self", "node", "start", "cancel"] (sp_node P w K (d + 1) isTimeout) :=
  met_F_timeout T (okF T.d_F_timeout sc_F_timeout (fun vs H Q E h => match vs, h with | [.ref _, _, _, _], _ => rfl) fun cdv A outer s0 H vs Q E hr h => match vs, h with
  | [.ref p, nv, sv, cv], h => by
    obtain ⟨N, t, m, kd, i, u, s, c, F, hn, sel, hu, hd, hs, hc, ho, hm, r⟩ := h
    obtain ⟨tdl, hdl⟩ := T.dl
    obtain ⟨tk, q, rfl⟩ : ∃ tk q, u = Asf.T.timeout tk q := by cases u <;> first | exact ⟨_, _, rfl⟩ | exact sel.elim
    have hwu := subs_wf t F.wf _ (List.mem_of_getElem? hu)
    obtain ⟨j, hj1, hj2, hj3⟩ := kid_at (subs_spans t) hu (k := 0) (p := q) rfl
    have hj : j = lo i (.timeout tk q) + size q - 1 := (Option.some.inj (hj1 : some _ = some j)).symm
    have hdq : depth q ≤ d := by have := kid_depth (t := Asf.T.timeout tk q) (p := q) (by simp [kidsT]); omega
    have hcq : cost (Asf.T.timeout tk q) = cost q + 1 := rfl
    refine ⟨_, (pss_cons (ps_set (i := 4) sc_F_timeout.nd rfl (by first | exact Or.inl rfl | exact Or.inr rfl) (pe_k (k_later T) hr (pa_cons (pv 2) (pa_cons (pe_ix ix_dd (pv 1) pe_int (fun _ _ => rfl)) pa_nil)) (by omega))) (pss_cons (ps_set (i := 5) sc_F_timeout.nd rfl (by first | exact Or.inl rfl | exact Or.inr rfl) (pe_k (k_earliest T) hr (pa_cons (pv 3) (pa_cons (pv 4) pa_nil)) (by omega))) (pss_cons (ps_set (i := 6) sc_F_timeout.nd rfl (by first | exact Or.inl rfl | exact Or.inr rfl) (pe_lst (pa_cons (pe_tup (pa_cons pe_int (pa_cons pe_int (pa_cons (pe_ix ix_dd (pv 1) pe_int (fun _ _ => rfl)) (pa_cons (pv 2) (pa_cons (pv 5) (pa_cons pe_non pa_nil))))))) pa_nil))) (pss_cons (ps_asg (pe_m M T.cl hr (pv 0) (pa_cons (pe_ix ix_dd (pv 1) pe_int (fun _ _ => rfl)) (pa_cons (pv 2) (pa_cons (pv 5) pa_nil))) (by omega)) (pg_tup (by rfl) (pgs_cons (pg_name (i := 7) sc_F_timeout.nd rfl (by first | exact Or.inl rfl | exact Or.inr rfl)) (pgs_cons (pg_name (i := 8) sc_F_timeout.nd rfl (by first | exact Or.inl rfl | exact Or.inr rfl)) (pgs_cons (pg_name (i := 9) sc_F_timeout.nd rfl (by first | exact Or.inl rfl | exact Or.inr rfl)) pgs_nil))))) (pss_cons (ps_if (PW.pt (pw_and (pt_cmpR (op_leI (hu_of hr)) (pv 7) (pv 4) (nomark _)) (pw_and1 (pt_val (pe_k (k_not_after T) hr (pa_cons (pv 7) (pa_cons (pv 3) pa_nil)) (by omega)))))) (pss_one (ps_ret (pe_tup (pa_cons (pe_tup (pa_cons (pv 7) (pa_cons (pv 8) (pa_cons (pv 9) pa_nil)))) (pa_cons (pv 6) pa_nil))))) pss_nil) (pss_cons (ps_set (i := 10) sc_F_timeout.nd rfl (by first | exact Or.inl rfl | exact Or.inr rfl) (pe_k (k_errors T) hr (pa_cons (pe_lst (pa_cons (pe_tup (pa_cons (pv 7) (pa_cons (pv 8) (pa_cons (pv 9) pa_nil)))) pa_nil)) pa_nil) (by omega))) (pss_cons (ps_if (pt_val (pe_k (k_not_after T) hr (pa_cons (pv 4) (pa_cons (pv 3) pa_nil)) (by omega))) (pss_one (ps_set (i := 10) sc_F_timeout.nd rfl (by first | exact Or.inl rfl | exact Or.inr rfl) (pe_op op_catD (pe_tup (pa_cons (pe_glob (v := .str "deadline exceeded") rfl hdl ⟨_, rfl⟩) pa_nil)) (pv 10)))) pss_nil) (pss_one (ps_ret (pe_tup (pa_cons (pe_ifExp (pt_truth (pv 10) (by intro _; rfl)) (pe_tup (pa_cons (pv 7) (pa_cons pe_str (pa_cons (pv 10) pa_nil)))) (pe_op op_catC (pe_tup (pa_cons (pv 7) pa_nil)) (pe_glob (v := .ref (He.ga K "CANCELLED")) rfl T.gX rfl))) (pa_cons (pv 6) pa_nil)))))))))))), ?_⟩
    refine ⟨_, rfl, _, rfl, _, _, _, hn, rfl, rfl, fun tv htv => ?_⟩
    cases htv.to_int
    refine ⟨s, hs, fun dv H1 k1 hdv => ?_⟩
    have hdv := hdv.ins
    refine ⟨_, rfl, _, rfl, c, some (later s tk), hc.mk0 k1, hdv, fun lv hlv => ?_⟩
    refine ⟨_, rfl, _, _, _, hn.mk0 k1, rfl, rfl, fun iv hiv => ?_⟩
    cases hiv.to_int
    refine ⟨_, rfl, _, rfl, by show 6 ≤ sizeLine; decide, fun a ha => ⟨by show 1 ≤ sizeLine; decide, fun l hl => ?_⟩⟩
    obtain ⟨k2, hll, dpa, hl0⟩ := two_new ha hl (.cons (.int 0) (.cons (.int 0) (.cons hiv (.cons ((hs.mk0 k1).dd) (.cons hlv.dd (.cons .non .nil))))))
    have k12 := k1.trans k2
    have hnl : ¬ N l := not_tr F.tr k1 hl0
    have F2 := F.keep0 k12
    obtain ⟨dx2, vp2, hob2, hp2⟩ := F2.ob
    have hlim : OLe s (earliest c (some (later s tk))) := ole_earliest ho (le_later hwu.1.1)
    refine ⟨_, rfl, p, dx2, _, rfl, hob2, rfl, _, rfl, _, _, _, hn.mk0 k12, rfl, rfl, fun iv2 hiv2 => ?_⟩
    cases hiv2.to_int
    refine ⟨_, rfl, _, rfl, N, t, m, kd, j, q, s, earliest c (some (later s tk)), F2, by rw [hj], hj2, hdq, hs.mk0 k12, hlv.mk0 k2, hlim, by omega, fun ev H3 k3 F3 hev => ?_⟩
    have tk3 := F2.tk k3
    have k13 : Kp (some kd) H H3 := k12.weak.trans k3
    have e3 : m + cost q = m + (cost (Asf.T.timeout tk q) - 1) := by rw [hcq]; omega
    rw [e3] at F3
    have hres : ((den q).fin s (earliest c (some (later s tk)))).res.length ≤ 1000 := Nat.le_trans (res_le q _ _) (Nat.le_trans (subs_size hj2) F.sz)
    have hcrs : (den (Asf.T.timeout tk q)).crs s c = (timeoutFin tk s c ((den q).fin s (earliest c (some (later s tk)))), [⟨0, 0, 0, some s, earliest c (some (later s tk)), none⟩]) := by
      rw [crs_timeout]
      rfl
    rw [hcrs] at r
    have hll3 : H3 l = some (.lst [.ref a]) := k3 l _ hll (F2.ne_new_l hll)
    have hpp : DDs K H3 [.ref a] (([⟨0, 0, 0, some s, earliest c (some (later s tk)), none⟩] : List Part).map (ePart (kidIdx i (Asf.T.timeout tk q)))) := by
      refine .cons ?_ .nil
      exact DD.mono tk3 _ _ dpa
    generalize hE : (den q).fin s (earliest c (some (later s tk))) = en at hev hres r
    refine g_dd hev rfl fun zs hz => ?_
    obtain ⟨z1, _, rfl, h1, hz⟩ := hz.toC
    obtain ⟨z2, _, rfl, h2, hz⟩ := hz.toC
    obtain ⟨z3, rfl, h3⟩ := hz.to1
    cases h2.to_str
    refine ⟨_, _, rfl, _, _, rfl, _, _, rfl, rfl, ?_⟩
    have hdv3 : InsAt H3 dv (later s tk) := (hdv.mk0 k2).mono tk3
    have hc3 : OIns H3 cv c := (hc.mk0 k12).mono tk3
    have fin : ∀ Hx ve e0, Kp none H3 Hx → DD K Hx ve (eEnd e0) → e0 = timeoutFin tk s c en → [ve, V.ref l].length ≤ sizeLine ∧ ∀ a, Hx a = none → Q (.ref a) (upd Hx a (.tup [ve, .ref l])) := by
      intro Hx ve e0 kx hve e
      subst e
      exact ⟨by show 2 ≤ sizeLine; decide, retC r (k13.trans kx.weak) (F3.keep0 kx) hve (kx l _ hll3 (by simp)) (hpp.mk0 kx) hnl⟩
    dsimp only
    refine rd_seq ?_
    refine rd_if ?_
    refine rd_and (fun R z => ⟨_, rfl, _, rfl, _, _, h1.ins, hdv3, _, rfl, z⟩) (fun R z => ⟨_, rfl, _, rfl, _, _, h1.ins, hc3, _, rfl, z⟩) ?_
    refine itB (fun q0 => ?_) (fun q0 => ?_)
    · have q0 : ilt (later s tk) en.en = false ∧ na en.en c = true := by simpa using q0
      refine ⟨_, rfl, _, rfl, _, rfl, by show 3 ≤ sizeLine; decide, fun a1 ha1 => ⟨_, rfl, ?_⟩⟩
      exact fin _ _ en (Kp.new ha1) (new_dd ha1 (.cons h1 (.cons (.str _) (.cons h3 .nil)))) (by unfold timeoutFin; rw [if_pos q0])
    · have q0 : ¬ (ilt (later s tk) en.en = false ∧ na en.en c = true) := by
        rintro ⟨x1, x2⟩
        rw [x1, x2] at q0
        cases q0
      have eF : timeoutFin tk s c en = lateEnd en.en (timeoutEr tk s c en) := by unfold timeoutFin; rw [if_neg q0]
      refine ⟨_, rfl, _, rfl, _, rfl, by show 3 ≤ sizeLine; decide, fun a2 ha2 => ⟨by show 1 ≤ sizeLine; decide, fun l2 hl2 => ?_⟩⟩
      obtain ⟨k4, hll4, dpa4, _⟩ := two_new ha2 hl2 (.cons h1 (.cons (.str _) (.cons h3 .nil)))
      have hrs : resN [en] ≤ 1000 := by rw [resN_cons, resN_nil]; omega
      refine ⟨[en], ⟨l2, _, rfl, SqL.of hll4, .cons dpa4 .nil, by show 1 ≤ 1000; decide⟩, by omega, fun erv H5 k5 her => ?_⟩
      have k35 := k4.trans k5
      have hel : (errorsOf [en]).length ≤ 1000 := Nat.le_trans (errorsOf_le _) hrs
      have last : ∀ (σ : L2.St) (H6 : Hp) (ev2 : V), Kp none H3 H6 → DD K H6 ev2 (eRes (timeoutEr tk s c en)) → σ[6]? = some (some (.ref l)) → σ[7]? = some (some z1) → σ[10]? = some (some ev2) → (tRet (tTup (tCons (tIf (fun σ H Q => (tVar 10) σ H fun x H' => ∃ k, TruV K x H' k ∧ Q k H') (tTup (tCons (tVar 7) (tCons (tC (.str "failed")) (tCons (tVar 10) tNil)))) (tOp (rCatC K) (tTup (tCons (tVar 7) tNil)) (tC (.ref (He.ga K "CANCELLED"))))) (tCons (tVar 6) tNil)))) { nx := fun _ H' => Q .non H', rt := Q } σ H6 := by
        intro σ H6 ev2 k6 he6 s6 s7 s10
        obtain ⟨b, ys, rfl, hb, hys⟩ := he6.sq
        refine ⟨_, s10, _, .inr (.inl ⟨ys, hb, rfl⟩), ?_⟩
        have hy := hys.len
        rw [List.length_map] at hy
        unfold lateEnd at eF
        cases ys with
        | nil =>
          have e0 : timeoutEr tk s c en = [] := List.eq_nil_of_length_eq_zero hy.symm
          rw [if_pos e0] at eF
          refine ⟨_, s7, by show 1 ≤ sizeLine; decide, fun u hu => ?_⟩
          have k7 : Kp none H6 (upd H6 u (.tup [z1])) := Kp.new hu
          refine ⟨_, _, (new_dd hu (.cons (h1.mk0 k6) .nil)).dt, T.cT.dt _, by simp, by simp, by show 1 + 2 ≤ sizeLine; decide, fun v H8 k8 hv => ⟨_, s6, ?_⟩⟩
          exact fin _ _ ⟨en.en, .can, []⟩ (k6.trans (k7.trans k8)) hv eF.symm
        | cons y0 ys0 =>
          have e0 : timeoutEr tk s c en ≠ [] := fun z => by rw [z] at hy; cases hy
          rw [if_neg e0] at eF
          refine ⟨_, s7, _, s10, by show 3 ≤ sizeLine; decide, fun u hu => ⟨_, s6, ?_⟩⟩
          exact fin _ _ ⟨en.en, .fai, timeoutEr tk s c en⟩ (k6.trans (Kp.new hu)) (new_dd hu (.cons (h1.mk0 k6) (.cons (.str _) (.cons he6 .nil)))) eF.symm
      refine ⟨_, rfl, _, rfl, _, _, hdv3.mk0 k35, hc3.mk0 k35, _, rfl, ?_⟩
      refine itB (fun q5 => ?_) (fun q5 => ?_)
      · have eT : timeoutEr tk s c en = Er.dl :: errorsOf [en] := by unfold timeoutEr; rw [if_pos q5]
        refine ⟨by show 1 ≤ sizeLine; decide, fun u hu => ⟨_, rfl, ?_⟩⟩
        have k6 : Kp none H5 (upd H5 u (.tup [.str "deadline exceeded"])) := Kp.new hu
        refine ⟨_, _, new_dd hu (.cons (.str _) .nil), her.mk0 k6, ?_, fun v H7 k7 hv => ?_⟩
        · rw [List.length_map]
          show 1 + _ ≤ 16777216
          omega
        · exact last _ _ v (k35.trans (k6.trans k7)) (by rw [eT]; exact hv) rfl rfl rfl
      · have eT : timeoutEr tk s c en = errorsOf [en] := by unfold timeoutEr; rw [if_neg (by rw [q5]; exact Bool.false_ne_true)]
        exact last _ _ erv k35 (by rw [eT]; exact her) rfl rfl rfl)
end
end Asf
set_option Elab.async false
set_option linter.all false
set_option maxRecDepth 100000
set_option maxHeartbeats 4000000
namespace Asf
open PySem PySem.Spec PyProof.Rows L2
section
variable {P : Program} {w : World} {K : PySem.W.Frag} {mg : Str → Option Value} {base : Heap}
theorem na_not {i : Ins} {c : Option Ins} (h : na i c = true) : OLe i c := na_iff.mp h
theorem m_orelse (T : Txt K mg) {k d : Nat} (hk : 1 ≤ k) (M : Met P w K mg base k "end" (He.ma K (CF K) "end") ["self", "place", "start", "cancel"] (sp_end P w K d)) : Met P w K mg base (k + 1) "_orelse" (He.ma K (CF K) "_orelse") ["self", "node", "start", "cancel"] (sp_node P w K (d + 1) isOrelse) :=
  met_F_orelse T (okF T.d_F_orelse sc_F_orelse (fun vs H Q E h => match vs, h with | [.ref _, _, _, _], _ => rfl) fun cdv A outer s0 H vs Q E hr h => match vs, h with
  | [.ref p, nv, sv, cv], h => by
    obtain ⟨N, t, m, kd, i, u, s, c, F, hn, sel, hu, hd, hs, hc, ho, hm, r⟩ := h
    obtain ⟨q1, q2, rfl⟩ : ∃ q1 q2, u = Asf.T.orelse q1 q2 := by cases u <;> first | exact ⟨_, _, rfl⟩ | exact sel.elim
    obtain ⟨j1, hj1, hu1, _⟩ := kid_at (subs_spans t) hu (k := 0) (p := q1) rfl
    obtain ⟨j2, hj2, hu2, _⟩ := kid_at (subs_spans t) hu (k := 1) (p := q2) rfl
    have e1 : j1 = lo i (.orelse q1 q2) + size q1 - 1 := (Option.some.inj (hj1 : some _ = some j1)).symm
    have e2 : j2 = lo i (.orelse q1 q2) + size q1 + size q2 - 1 := (Option.some.inj (hj2 : some _ = some j2)).symm
    have hd1 : depth q1 ≤ d := by have := kid_depth (t := Asf.T.orelse q1 q2) (p := q1) (by simp [kidsT]); omega
    have hd2 : depth q2 ≤ d := by have := kid_depth (t := Asf.T.orelse q1 q2) (p := q2) (by simp [kidsT]); omega
    have hcq : cost (Asf.T.orelse q1 q2) = cost q1 + cost q2 + 1 := rfl
    have hcrs : (den (Asf.T.orelse q1 q2)).crs s c = orelseCrs (den q1) (den q2) s c := by rw [crs_orelse]
    rw [hcrs] at r
    unfold orelseCrs at r
    refine ⟨_, (pss_cons (ps_set (i := 4) sc_F_orelse.nd rfl (by first | exact Or.inl rfl | exact Or.inr rfl) (pe_lst (pa_cons (pe_tup (pa_cons pe_int (pa_cons pe_int (pa_cons (pe_ix ix_dd (pv 1) pe_int (fun _ _ => rfl)) (pa_cons (pv 2) (pa_cons (pv 3) (pa_cons pe_non pa_nil))))))) pa_nil))) (pss_cons (ps_set (i := 5) sc_F_orelse.nd rfl (by first | exact Or.inl rfl | exact Or.inr rfl) (pe_m M T.cl hr (pv 0) (pa_cons (pe_ix ix_dd (pv 1) pe_int (fun _ _ => rfl)) (pa_cons (pv 2) (pa_cons (pv 3) pa_nil))) (by omega))) (pss_cons (ps_if (pt_cmpR (op_ne) (pe_ix ix_dd (pv 5) pe_int (fun _ _ => rfl)) pe_str (nomark _)) (pss_one (ps_ret (pe_tup (pa_cons (pv 5) (pa_cons (pv 4) pa_nil))))) pss_nil) (pss_cons (ps_if (pt_not (pt_val (pe_k (k_not_after T) hr (pa_cons (pe_ix ix_dd (pv 5) pe_int (fun _ _ => rfl)) (pa_cons (pv 3) pa_nil)) (by omega)))) (pss_one (ps_ret (pe_tup (pa_cons (pe_op op_catC (pe_tup (pa_cons (pe_ix ix_dd (pv 5) pe_int (fun _ _ => rfl)) pa_nil)) (pe_glob (v := .ref (He.ga K "CANCELLED")) rfl T.gX rfl)) (pa_cons (pv 4) pa_nil))))) pss_nil) (pss_cons (ps_expr (pe_bm PySem.F.plainAttrs_list PySem.F.slot_list_append PySem.F.type_list_append mt_append (pv 4) (pa_cons (pe_tup (pa_cons pe_int (pa_cons pe_int (pa_cons (pe_ix ix_dd (pv 1) pe_int (fun _ _ => rfl)) (pa_cons (pe_ix ix_dd (pv 5) pe_int (fun _ _ => rfl)) (pa_cons (pv 3) (pa_cons pe_non pa_nil))))))) pa_nil))) (pss_one (ps_ret (pe_tup (pa_cons (pe_m M T.cl hr (pv 0) (pa_cons (pe_ix ix_dd (pv 1) pe_int (fun _ _ => rfl)) (pa_cons (pe_ix ix_dd (pv 5) pe_int (fun _ _ => rfl)) (pa_cons (pv 3) pa_nil))) (by omega)) (pa_cons (pv 4) pa_nil)))))))))), ?_⟩
    refine ⟨_, rfl, _, _, _, hn, rfl, rfl, fun iv hiv => ?_⟩
    cases hiv.to_int
    refine ⟨_, rfl, _, rfl, by show 6 ≤ sizeLine; decide, fun a ha => ⟨by show 1 ≤ sizeLine; decide, fun l hl => ?_⟩⟩
    obtain ⟨k1, hll, dpa, hl0⟩ := two_new ha hl (.cons (.int 0) (.cons (.int 0) (.cons hiv (.cons hs.dd (.cons hc.dd (.cons .non .nil))))))
    have hnl : ¬ N l := not_tr F.tr (Kp.refl _ _) hl0
    have F1 := (F.keep0 (Kp.new ha)).addN hl [.ref a]
    obtain ⟨dx1, vp1, hob1, hp1⟩ := F1.ob
    refine ⟨_, rfl, p, dx1, _, rfl, hob1, rfl, _, rfl, _, _, _, hn.mk0 k1, rfl, rfl, fun iv2 hiv2 => ?_⟩
    cases hiv2.to_int
    refine ⟨_, rfl, _, rfl, addN N l, t, m, kd, j1, q1, s, c, F1, by rw [e1], hu1, hd1, hs.mk0 k1, hc.mk0 k1, ho, by omega, fun ev H2 k2 F2 hev => ?_⟩
    have tk2 := F1.tk k2
    have k12 : Kp (some kd) H H2 := k1.weak.trans k2
    have hll2 := k2 l _ hll (F1.ne_new_l hll)
    have dpa2 := DD.mono tk2 _ _ dpa
    have hc2 := (hc.mk0 k1).mono tk2
    have hpp : DDs K H2 [.ref a] (([⟨0, 0, 0, some s, c, none⟩] : List Part).map (ePart (kidIdx i (Asf.T.orelse q1 q2)))) := .cons dpa2 .nil
    generalize hE : (den q1).fin s c = en at hev r
    dsimp only [gName]
    refine rd_seq ?_
    refine rd_if ?_
    refine rd_ixN (rd_var rfl) hev rfl ?_
    rw [eqOcF]
    have F2' : Fore P w K N t (m + (cost (Asf.T.orelse q1 q2) - 1)) H2 p kd := (F2.sub fun _ z => .inr z).le (by rw [hcq]; omega)
    by_cases hf : en.oc = .fai
    · rw [if_pos hf] at r
      refine elF (by rw [decide_eq_true hf]; rfl) ?_
      refine rd_seq ?_
      refine rd_if ?_
      refine ⟨_, rfl, _, _, _, hev, rfl, rfl, fun z0 hz0 => ⟨_, rfl, _, _, hz0.ins, hc2, _, rfl, ?_⟩⟩
      cases hna : na en.en c with
      | false =>
        rw [if_neg (by rw [hna]; exact Bool.false_ne_true)] at r
        refine itT rfl ?_
        refine ⟨_, rfl, _, _, _, hev, rfl, rfl, fun z1 hz1 => ⟨by show 1 ≤ sizeLine; decide, fun b hb => ?_⟩⟩
        have k3 : Kp none H2 (upd H2 b (.tup [z1])) := Kp.new hb
        refine ⟨_, _, (new_dd hb (.cons hz1 .nil)).dt, T.cT.dt _, by simp, by simp, by show 1 + 2 ≤ sizeLine; decide, fun v H4 k4 hv => ⟨_, rfl, by show 2 ≤ sizeLine; decide, ?_⟩⟩
        have k24 := k3.trans k4
        exact retC r (k12.trans k24.weak) (F2'.keep0 k24) hv (k24 l _ hll2 (by simp)) (hpp.mk0 k24) hnl
      | true =>
        rw [if_pos hna] at r
        refine elF rfl ?_
        refine ⟨_, rfl, tyV_list hll2, _, rfl, _, _, _, DD.mono tk2 _ _ (hn.mk0 k1), rfl, rfl, fun iv3 hiv3 => ?_⟩
        cases hiv3.to_int
        refine ⟨_, rfl, _, _, _, hev, rfl, rfl, fun z1 hz1 => ⟨_, rfl, by show 6 ≤ sizeLine; decide, fun a2 ha2 => ?_⟩⟩
        have k3 : Kp none H2 (upd H2 a2 (.tup [.int 1, .int 0, .int ((lo i (Asf.T.orelse q1 q2) + size q1 + size q2 - 1 : Nat) : Int), z1, cv, .non])) := Kp.new ha2
        have dpb := new_dd (K := K) ha2 (.cons (.int 1) (.cons (.int 0) (.cons hiv3 (.cons hz1 (.cons hc2.dd (.cons .non .nil))))))
        have hll3 := k3 l _ hll2 (by simp)
        refine ⟨l, _, _, rfl, rfl, hll3, by show 1 < sizeLine; decide, ?_⟩
        have F3 := F2.keep0 k3
        have F4 := F3.put (D := l) (.inl rfl) ([.ref a] ++ [.ref a2])
        have tk4 := (KN.put (N := addN N l) (.inl rfl)).tk F3.tr (H' := upd _ l (.lst ([.ref a] ++ [.ref a2])))
        have tk24 := k3.tk0.trans tk4
        have k14 : Kp (some kd) H (upd (upd H2 a2 (.tup [.int 1, .int 0, .int ((lo i (Asf.T.orelse q1 q2) + size q1 + size q2 - 1 : Nat) : Int), z1, cv, .non])) l (.lst ([.ref a] ++ [.ref a2]))) := fun b o hb hn => by
          rw [upd_ne (ne_of_none hb hl0)]
          exact (k12.trans k3.weak) b o hb hn
        obtain ⟨dx4, vp4, hob4, hp4⟩ := F4.ob
        have hn4 := DD.mono tk24 _ _ (DD.mono tk2 _ _ (hn.mk0 k1))
        have hev4 := DD.mono tk24 _ _ hev
        refine ⟨_, rfl, p, dx4, _, rfl, hob4, rfl, _, rfl, _, _, _, hn4, rfl, rfl, fun iv4 hiv4 => ?_⟩
        cases hiv4.to_int
        refine ⟨_, rfl, _, _, _, hev4, rfl, rfl, fun z2 hz2 => ?_⟩
        refine ⟨_, rfl, addN N l, t, _, kd, j2, q2, en.en, c, F4, by rw [e2], hu2, hd2, hz2.ins, hc2.mono tk24, na_not hna, by omega, fun ev2 H5 k5 F5 hev2 => ?_⟩
        have tk5 := F4.tk k5
        refine ⟨_, rfl, by show 2 ≤ sizeLine; decide, ?_⟩
        refine retC r (k14.trans k5) ((F5.sub fun _ z => .inr z).le (by rw [hcq]; omega)) hev2 (k5 l _ upd_same (F4.ne_new_l upd_same)) ?_ hnl
        exact .cons (DD.mono tk5 _ _ (DD.mono tk24 _ _ dpa2)) (.cons (DD.mono tk5 _ _ (DD.mono tk4 _ _ dpb)) .nil)
    · rw [if_neg hf] at r
      refine itT (by rw [decide_eq_false hf]; rfl) ?_
      refine ⟨_, rfl, _, rfl, by show 2 ≤ sizeLine; decide, ?_⟩
      exact retC r k12 F2' hev hll2 hpp hnl)
end
end Asf
set_option Elab.async false
set_option linter.all false
set_option maxRecDepth 100000
set_option maxHeartbeats 4000000
namespace Asf
open PySem PySem.Spec PyProof.Rows L2
section
variable {P : Program} {w : World} {K : PySem.W.Frag} {mg : Str → Option Value} {base : Heap}
/-- one more row in a list of parts -/
theorem app_part {N : Addr → Prop} {t : T} {m : Nat} {H0 H2 : Hp} {p kd l a : Addr} {pv xs : List V} {ds es : List PyData} (F2 : Fore P w K (addN N l) t m H2 p kd) (hl0 : H0 l = none) (k : Kp (some kd) H0 H2) (hll : H2 l = some (.lst pv)) (hp : DDs K H2 pv ds) (ha : H2 a = none) (hx : DDs K H2 xs es) :
    (upd H2 a (.tup xs)) l = some (.lst pv) ∧ Fore P w K (addN N l) t m (upd (upd H2 a (.tup xs)) l (.lst (pv ++ [.ref a]))) p kd ∧ Kp (some kd) H0 (upd (upd H2 a (.tup xs)) l (.lst (pv ++ [.ref a]))) ∧ TK H2 (upd (upd H2 a (.tup xs)) l (.lst (pv ++ [.ref a]))) ∧
      (upd (upd H2 a (.tup xs)) l (.lst (pv ++ [.ref a]))) l = some (.lst (pv ++ [.ref a])) ∧ DDs K (upd (upd H2 a (.tup xs)) l (.lst (pv ++ [.ref a]))) (pv ++ [.ref a]) (ds ++ [.tuple es]) := by
  have k3 : Kp none H2 (upd H2 a (.tup xs)) := Kp.new ha
  have hll3 := k3 l _ hll (by simp)
  have F3 := F2.keep0 k3
  have F4 := F3.put (D := l) (.inl rfl) (pv ++ [.ref a])
  have tk4 := (KN.put (N := addN N l) (.inl rfl)).tk F3.tr (H' := upd (upd H2 a (.tup xs)) l (.lst (pv ++ [.ref a])))
  refine ⟨hll3, F4, fun b o hb hn => ?_, k3.tk0.trans tk4, upd_same, ?_⟩
  · rw [upd_ne (ne_of_none hb hl0)]
    exact (k.trans k3.weak) b o hb hn
  · exact (DDs.mono (k3.tk0.trans tk4) _ _ hp).app (.cons (DD.mono tk4 _ _ (new_dd ha hx)) .nil)
abbrev iV (is : List Nat) : List V := is.map fun n : Nat => V.int (n : Int)
theorem DD.idx {H : Hp} {b : Addr} {is : List Nat} (h : DD K H (.ref b) (eIdx is)) : SqT K H b (iV is) := by
  obtain ⟨a, xs, e, hq, hd⟩ := h.sq
  cases e
  have : xs = iV is := by
    have h2 := DDs.ints (is := is.map fun n : Nat => (n : Int)) (xs := xs) (by rw [List.map_map]; exact hd)
    rw [h2, List.map_map]
    rfl
  rw [← this]
  exact hq
theorem denL_get {ps : List T} {j : Nat} {q : T} (h : ps[j]? = some q) : (denL ps)[j]? = some (den q) := by
  rw [denL_eq, List.getElem?_map, h]
  rfl
theorem drop_get {α : Type} {xs : List α} {j : Nat} {x : α} (h : xs[j]? = some x) : xs.drop j = x :: xs.drop (j + 1) := by
  have hi := (List.getElem?_eq_some_iff.mp h).1
  rw [List.drop_eq_getElem_cons hi]
  congr 1
  exact (List.getElem?_eq_some_iff.mp h).2
theorem kid_of_idx {t u : T} {i j n : Nat} (hu : (subs t)[i]? = some u) (h : (kidIdx i u)[j]? = some n) : ∃ q, (kidsT u)[j]? = some q ∧ (subs t)[n]? = some q ∧ (kidIdx i u).getD j 0 = n := by
  have hl := (List.getElem?_eq_some_iff.mp h).1
  rw [kidIdx_length] at hl
  obtain ⟨n', h1, h2, _⟩ := kid_at (subs_spans t) hu (k := j) (p := (kidsT u)[j]) (by simp [hl])
  rw [h] at h1
  obtain rfl := Option.some.inj h1
  exact ⟨_, by simp [hl], h2, by rw [List.getD_eq_getElem?_getD, h]; rfl⟩
theorem m_sequence (T : Txt K mg) {k d : Nat} (hk : 1 ≤ k) (M : Met P w K mg base k "end" (He.ma K (CF K) "end") ["self", "place", "start", "cancel"] (sp_end P w K d)) : Met P w K mg base (k + 1) "_sequence" (He.ma K (CF K) "_sequence") ["self", "node", "start", "cancel"] (sp_node P w K (d + 1) isSeq) :=
  met_F_sequence T (okF T.d_F_sequence sc_F_sequence (fun vs H Q E h => match vs, h with | [.ref _, _, _, _], _ => rfl) fun cdv A outer s0 H vs Q E hr h => match vs, h with
  | [.ref p, nv, sv, cv], h => by
    obtain ⟨N, t, m, kd, i, u, s, c, F, hn, sel, hu, hd, hs, hc, ho, hm, r⟩ := h
    obtain ⟨ps, rfl⟩ : ∃ ps, u = Asf.T.seq ps := by cases u <;> first | exact ⟨_, rfl⟩ | exact sel.elim
    have hcq : cost (Asf.T.seq ps) = costL ps + 1 := rfl
    have hwu := subs_wf t F.wf _ (List.mem_of_getElem? hu)
    rw [crs_seq] at r
    refine ⟨_, (pss_cons (ps_set (i := 4) sc_F_sequence.nd rfl (by first | exact Or.inl rfl | exact Or.inr rfl) (pe_lst pa_nil)) (pss_cons (ps_set (i := 5) sc_F_sequence.nd rfl (by first | exact Or.inl rfl | exact Or.inr rfl) (pe_tup (pa_cons (pv 2) (pa_cons pe_str (pa_cons (pe_tup pa_nil) pa_nil))))) (pss_cons (ps_for PassesOwn.never rfl (pi_enumT (by rfl) T.z_enumerate (pa_cons (pe_k (k_parts_of T) hr (pa_cons (pv 1) pa_nil) (by omega)) pa_nil)) (pg_tup (by rfl) (pgs_cons (pg_name (i := 6) sc_F_sequence.nd rfl (by first | exact Or.inl rfl | exact Or.inr rfl)) (pgs_cons (pg_name (i := 7) sc_F_sequence.nd rfl (by first | exact Or.inl rfl | exact Or.inr rfl)) pgs_nil))) (pss_cons (ps_expr (pe_bm PySem.F.plainAttrs_list PySem.F.slot_list_append PySem.F.type_list_append mt_append (pv 4) (pa_cons (pe_tup (pa_cons (pv 6) (pa_cons pe_int (pa_cons (pv 7) (pa_cons (pe_ix ix_dd (pv 5) pe_int (fun _ _ => rfl)) (pa_cons (pv 3) (pa_cons pe_non pa_nil))))))) pa_nil))) (pss_cons (ps_set (i := 5) sc_F_sequence.nd rfl (by first | exact Or.inl rfl | exact Or.inr rfl) (pe_m M T.cl hr (pv 0) (pa_cons (pv 7) (pa_cons (pe_ix ix_dd (pv 5) pe_int (fun _ _ => rfl)) (pa_cons (pv 3) pa_nil))) (by omega))) (pss_one (ps_if (pt_cmpR (op_ne) (pe_ix ix_dd (pv 5) pe_int (fun _ _ => rfl)) pe_str (nomark _)) (pss_one ps_break) pss_nil))))) (pss_one (ps_ret (pe_tup (pa_cons (pv 5) (pa_cons (pv 4) pa_nil)))))))), ?_⟩
    refine ⟨by show 0 ≤ sizeLine; decide, fun l hl => ?_⟩
    have F1 := F.addN hl []
    have k1 : Kp none H (upd H l (.lst [])) := Kp.new hl
    have hnl : ¬ N l := not_tr F.tr (Kp.refl _ _) hl
    refine ⟨_, rfl, by show 0 ≤ sizeLine; decide, fun e0 he0 => ⟨by show 3 ≤ sizeLine; decide, fun a0 ha0 => ?_⟩⟩
    have k2 : Kp none (upd H l (.lst [])) (upd (upd H l (.lst [])) e0 (.tup [])) := Kp.new he0
    have k3 : Kp none (upd (upd H l (.lst [])) e0 (.tup [])) (upd (upd (upd H l (.lst [])) e0 (.tup [])) a0 (.tup [sv, .str "completed", .ref e0])) := Kp.new ha0
    have ht0 := new_dd (K := K) ha0 (.cons ((hs.mk0 (k1.trans k2)).dd) (.cons (.str "completed") (.cons (new_dd he0 .nil) .nil)))
    have k13 := (k1.trans k2).trans k3
    have hl3 := (k2.trans k3) l _ upd_same (by simp)
    have F3 := F1.keep0 (k2.trans k3)
    refine ⟨_, rfl, _, _, hn.mk0 k13, fun bv H1 k4 hbv => ?_⟩
    obtain ⟨b, xs0, rfl, hb0, _⟩ := id hbv.sq
    refine ⟨b, _, rfl, hbv.idx, ?_⟩
    have k14 := k13.trans k4
    have F4 := F3.keep0 k4
    have last : ∀ (σ : L2.St) (H' : Hp) (tv : V) (pv : List V) (m' : Nat), σ[5]? = some (some tv) → σ[4]? = some (some (.ref l)) → Kp (some kd) H H' → Fore P w K (addN N l) t m' H' p kd → m' ≤ m + costL ps → DD K H' tv (eEnd (seqCrs (denL ps) s c).1) → H' l = some (.lst pv) → DDs K H' pv ((seqCrs (denL ps) s c).2.map (ePart (kidIdx i (Asf.T.seq ps)))) →
        (tRet (tTup (tCons (tVar 5) (tCons (tVar 4) tNil)))) { nx := fun _ H' => Q .non H', rt := Q } σ H' := by
      intro σ H' tv pv m' s5 s4 kk FF hm' htv hlv hpv
      refine ⟨_, s5, _, s4, by show 2 ≤ sizeLine; decide, ?_⟩
      exact retC r kk ((FF.sub fun _ z => .inr z).le (by rw [hcq]; omega)) htv hlv hpv hnl
    refine for_enumT (xs := iV (kidIdx i (Asf.T.seq ps))) (fun j σ H' => ∃ pv tv told prt x6 x7, σ = [some (.ref p), some nv, some sv, some cv, some (.ref l), some tv, x6, x7] ∧ Kp (some kd) H H' ∧ Fore P w K (addN N l) t (m + costL (ps.take j)) H' p kd ∧ H' l = some (.lst pv) ∧
      DDs K H' pv (prt.map (ePart (kidIdx i (Asf.T.seq ps)))) ∧ DD K H' tv (eEnd told) ∧ OLe told.en c ∧ DD K H' (.ref b) (eIdx (kidIdx i (Asf.T.seq ps))) ∧
      seqCrs (denL ps) s c = ((seqGo c j told ((denL ps).drop j)).1, prt ++ (seqGo c j told ((denL ps).drop j)).2) ∧ prt.length ≤ j) ?_ (fun j σ H' _ g => ?_) ?_ ?_
    · refine ⟨[], _, ⟨s, .com, []⟩, [], _, _, rfl, k14.weak, F4, k4 l _ hl3 (by simp), .nil, ht0.mk0 k4, ho, hbv, rfl, Nat.le_refl _⟩
    · obtain ⟨_, _, _, _, _, _, _, _, _, _, _, _, _, g, _⟩ := g
      exact g.idx
    · rintro j x σ H' Tn hx ⟨pv, tv, told, prt, x6, x7, rfl, kk, FF, hlv, hpv, htv, hto, hbb, heq, hlen⟩ hTn
      obtain ⟨n, hkn, rfl⟩ := map_get hx
      obtain ⟨q, hq, hun, hgd⟩ := kid_of_idx hu hkn
      have hq : ps[j]? = some q := hq
      have hjl := (List.getElem?_eq_some_iff.mp hq).1
      have hdq : depth q ≤ d := by have := kid_depth (t := Asf.T.seq ps) (p := q) (List.mem_of_getElem? hq); omega
      have kT : Kp none H' (upd H' Tn (.tup [.int (j : Nat), .int (n : Int)])) := Kp.new hTn
      have FT := FF.keep0 kT
      have htv2 := htv.mk0 kT
      have hc2 := hc.mono ((F.tk kk).trans kT.tk0)
      refine ⟨Tn, _, rfl, SqT.of upd_same, rfl, _, _, rfl, _, _, rfl, rfl, ?_⟩
      have hlT := kT l _ hlv (by simp)
      refine ⟨_, rfl, tyV_list hlT, _, rfl, _, rfl, _, rfl, _, _, _, htv2, rfl, rfl, fun z hz => ⟨_, rfl, by show 6 ≤ sizeLine; decide, fun a ha => ?_⟩⟩
      obtain ⟨h1, F5, k5, tk5, h5, hp5⟩ := app_part FT hl (kk.trans kT.weak) hlT (hpv.mk0 kT) ha (.cons (.int (j : Nat)) (.cons (.int 0) (.cons (.int (n : Int)) (.cons hz (.cons hc2.dd (.cons .non .nil))))))
      refine ⟨l, _, _, rfl, rfl, h1, ?_, ?_⟩
      · have := (hpv.mk0 kT).len
        rw [List.length_map] at this
        show pv.length < 16777216
        have h6 := hwu.2.1
        omega
      obtain ⟨dx5, vp5, hob5, hp5'⟩ := F5.ob
      have htv5 := DD.mono tk5 _ _ htv2
      have hc5 := hc2.mono tk5
      refine ⟨_, rfl, p, dx5, _, rfl, hob5, rfl, _, rfl, _, rfl, _, _, _, htv5, rfl, rfl, fun z2 hz2 => ?_⟩
      have hcs := costL_take_succ ps hq
      have hle := costL_take_le ps (j + 1)
      refine ⟨_, rfl, addN N l, t, _, kd, n, q, told.en, c, F5, rfl, hun, hdq, hz2.ins, hc5, hto, by omega, fun ev H7 k7 F7 hev => ?_⟩
      have tk7 := F5.tk k7
      have hl7 := k7 l _ h5 (F5.ne_new_l h5)
      have hp7 := DDs.mono tk7 _ _ hp5
      have hb7 := DD.mono tk7 _ _ (DD.mono tk5 _ _ (hbb.mk0 kT))
      have hgo := heq
      rw [drop_get (denL_get hq)] at hgo
      unfold seqGo at hgo
      have ep : (prt.map (ePart (kidIdx i (Asf.T.seq ps))) ++ [.tuple [.int (j : Nat), .int 0, .int (n : Int), eI told.en, eO c, .none]] : List PyData) = (prt ++ [(⟨j, 0, j, some told.en, c, none⟩ : Part)]).map (ePart (kidIdx i (Asf.T.seq ps))) := by
        rw [List.map_append]
        show _ = _ ++ [ePart _ _]
        unfold ePart
        dsimp only
        rw [hgd]
        rfl
      rw [ep] at hp7
      dsimp only [gName]
      refine rd_if ?_
      refine rd_ixN (rd_var rfl) hev rfl ?_
      rw [eqOcC]
      have F8 : Fore P w K (addN N l) t (m + costL (ps.take (j + 1))) _ p kd := F7.le (by omega)
      by_cases hcom : ((den q).fin told.en c).oc = .com
      · rw [if_pos hcom] at hgo
        refine elF (by rw [decide_eq_true hcom]; rfl) ?_
        refine ⟨_, _, _, _, _, _, rfl, k5.trans k7, F8, hl7, hp7, hev, (den_good F.wf hun).com _ _ hto hcom, hb7, ?_, by rw [List.length_append]; show prt.length + 1 ≤ j + 1; omega⟩
        rw [hgo, List.append_assoc]
        rfl
      · rw [if_neg hcom] at hgo
        refine itT (by rw [decide_eq_false hcom]; rfl) ?_
        exact last _ _ ev _ _ rfl rfl (k5.trans k7) F8 (by omega) (by rw [hgo]; exact hev) hl7 (by rw [hgo]; exact hp7)
    · rintro σ H' ⟨pv, tv, told, prt, x6, x7, rfl, kk, FF, hlv, hpv, htv, hto, hbb, heq, hlen⟩
      have e1 : (denL ps).drop (iV (kidIdx i (Asf.T.seq ps))).length = [] := by
        rw [List.length_map, kidIdx_length, denL_eq]
        exact List.drop_of_length_le (by rw [List.length_map]; exact Nat.le_refl _)
      rw [e1] at heq
      unfold seqGo at heq
      rw [List.append_nil] at heq
      exact last _ _ tv pv _ rfl rfl kk FF (Nat.add_le_add_left (costL_take_le ps _) m) (by rw [heq]; exact htv) hlv (by rw [heq]; exact hpv))
end
end Asf
set_option Elab.async false
set_option linter.all false
set_option maxRecDepth 100000
set_option maxHeartbeats 4000000
namespace Asf
open PySem PySem.Spec PyProof.Rows L2
section
variable {P : Program} {w : World} {K : PySem.W.Frag} {mg : Str → Option Value} {base : Heap}
theorem m_retry (T : Txt K mg) {k d : Nat} (hk : 1 ≤ k) (M : Met P w K mg base k "end" (He.ma K (CF K) "end") ["self", "place", "start", "cancel"] (sp_end P w K d)) : Met P w K mg base (k + 1) "_retry" (He.ma K (CF K) "_retry") ["self", "node", "start", "cancel"] (sp_node P w K (d + 1) isRetry) :=
  met_F_retry T (okF T.d_F_retry sc_F_retry (fun vs H Q E h => match vs, h with | [.ref _, _, _, _], _ => rfl) fun cdv A outer s0 H vs Q E hr h => match vs, h with
  | [.ref p, nv, sv, cv], h => by
    obtain ⟨N, t, m, kd, i, u, s, c, F, hn, sel, hu, hd, hs, hc, ho, hm, r⟩ := h
    obtain ⟨n, dl, q, rfl⟩ : ∃ n dl q, u = Asf.T.retry n dl q := by cases u <;> first | exact ⟨_, _, _, rfl⟩ | exact sel.elim
    have hcq : cost (Asf.T.retry n dl q) = (n + 1) * cost q + 1 := rfl
    have hwu := subs_wf t F.wf _ (List.mem_of_getElem? hu)
    obtain ⟨j, hj1, huq, _⟩ := kid_at (subs_spans t) hu (k := 0) (p := q) rfl
    have e1 : j = lo i (.retry n dl q) + size q - 1 := (Option.some.inj (hj1 : some _ = some j)).symm
    have hdq : depth q ≤ d := by have := kid_depth (t := Asf.T.retry n dl q) (p := q) (by simp [kidsT]); omega
    have hn5 : n ≤ 5 := hwu.1
    rw [crs_retry] at r
    refine ⟨_, (pss_cons (ps_asg (pv 1) (pg_tup (by rfl) (pgs_cons (pg_name (i := 4) sc_F_retry.nd rfl (by first | exact Or.inl rfl | exact Or.inr rfl)) (pgs_cons (pg_name (i := 5) sc_F_retry.nd rfl (by first | exact Or.inl rfl | exact Or.inr rfl)) (pgs_cons (pg_name (i := 6) sc_F_retry.nd rfl (by first | exact Or.inl rfl | exact Or.inr rfl)) (pgs_cons (pg_name (i := 7) sc_F_retry.nd rfl (by first | exact Or.inl rfl | exact Or.inr rfl)) pgs_nil)))))) (pss_cons (ps_set (i := 8) sc_F_retry.nd rfl (by first | exact Or.inl rfl | exact Or.inr rfl) (pe_lst pa_nil)) (pss_cons (ps_for PassesOwn.never rfl (pi_range1 rfl T.z_range (pa_cons (pe_op op_add (pv 5) pe_int) pa_nil)) (pg_name (i := 9) sc_F_retry.nd rfl (by first | exact Or.inl rfl | exact Or.inr rfl)) (pss_cons (ps_expr (pe_bm PySem.F.plainAttrs_list PySem.F.slot_list_append PySem.F.type_list_append mt_append (pv 8) (pa_cons (pe_tup (pa_cons (pv 9) (pa_cons pe_int (pa_cons (pv 7) (pa_cons (pv 2) (pa_cons (pv 3) (pa_cons pe_non pa_nil))))))) pa_nil))) (pss_cons (ps_set (i := 10) sc_F_retry.nd rfl (by first | exact Or.inl rfl | exact Or.inr rfl) (pe_m M T.cl hr (pv 0) (pa_cons (pv 7) (pa_cons (pv 2) (pa_cons (pv 3) pa_nil))) (by omega))) (pss_cons (ps_if (PW.pt (pw_or (pt_cmpR (op_ne) (pe_ix ix_dd (pv 10) pe_int (fun _ _ => rfl)) pe_str (nomark _)) (pw_or1 (pt_cmpR (op_eq) (pv 9) (pv 5) (nomark _))))) (pss_one (ps_ret (pe_tup (pa_cons (pv 10) (pa_cons (pv 8) pa_nil))))) pss_nil) (pss_cons (ps_if (pt_not (pt_val (pe_k (k_not_after T) hr (pa_cons (pe_ix ix_dd (pv 10) pe_int (fun _ _ => rfl)) (pa_cons (pv 3) pa_nil)) (by omega)))) (pss_one (ps_ret (pe_tup (pa_cons (pe_op op_catC (pe_tup (pa_cons (pe_ix ix_dd (pv 10) pe_int (fun _ _ => rfl)) pa_nil)) (pe_glob (v := .ref (He.ga K "CANCELLED")) rfl T.gX rfl)) (pa_cons (pv 8) pa_nil))))) pss_nil) (pss_cons (ps_set (i := 2) sc_F_retry.nd rfl (by first | exact Or.inl rfl | exact Or.inr rfl) (pe_k (k_later T) hr (pa_cons (pe_ix ix_dd (pv 10) pe_int (fun _ _ => rfl)) (pa_cons (pv 6) pa_nil)) (by omega))) (pss_one (ps_if (pt_not (pt_val (pe_k (k_not_after T) hr (pa_cons (pv 2) (pa_cons (pv 3) pa_nil)) (by omega)))) (pss_one (ps_ret (pe_tup (pa_cons (pe_op op_catC (pe_tup (pa_cons (pe_k (k_next_instant T) hr (pa_cons (pv 3) pa_nil) (by omega)) pa_nil)) (pe_glob (v := .ref (He.ga K "CANCELLED")) rfl T.gX rfl)) (pa_cons (pv 8) pa_nil))))) pss_nil)))))))) (pss_one (ps_ret (pe_tup (pa_cons (pe_op op_catC (pe_tup (pa_cons (pv 2) pa_nil)) (pe_glob (v := .ref (He.ga K "CANCELLED")) rfl T.gX rfl)) (pa_cons (pv 8) pa_nil)))))))), ?_⟩
    refine ⟨_, rfl, g_dd hn rfl fun zs hz => ?_⟩
    obtain ⟨z1, _, rfl, hz1, hz⟩ := hz.toC
    obtain ⟨z2, _, rfl, hz2, hz⟩ := hz.toC
    obtain ⟨z3, _, rfl, hz3, hz⟩ := hz.toC
    obtain ⟨z4, rfl, hz4⟩ := hz.to1
    cases hz2.to_int
    cases hz3.to_int
    cases hz4.to_int
    rw [← e1]
    refine ⟨_, _, rfl, _, _, rfl, _, _, rfl, _, _, rfl, rfl, ?_⟩
    refine ⟨by show 0 ≤ sizeLine; decide, fun l hl => ?_⟩
    have F1 := F.addN hl []
    have k1 : Kp none H (upd H l (.lst [])) := Kp.new hl
    have hnl : ¬ N l := not_tr F.tr (Kp.refl _ _) hl
    have fin : ∀ (Hx : Hp) (ve : V) (pv : List V) (m' : Nat), Kp (some kd) H Hx → Fore P w K (addN N l) t m' Hx p kd → m' ≤ m + (n + 1) * cost q → DD K Hx ve (eEnd (retryCrs n dl (den q) s c).1) → Hx l = some (.lst pv) → DDs K Hx pv ((retryCrs n dl (den q) s c).2.map (ePart (kidIdx i (Asf.T.retry n dl q)))) →
        [ve, V.ref l].length ≤ sizeLine ∧ ∀ a, Hx a = none → Q (.ref a) (upd Hx a (.tup [ve, .ref l])) := by
      intro Hx ve pv m' kk FF hm' hve hlv hpv
      exact ⟨by show 2 ≤ sizeLine; decide, retC r kk ((FF.sub fun _ z => .inr z).le (by rw [hcq]; omega)) hve hlv hpv hnl⟩
    refine ⟨_, rfl, _, _, rfl, rfl, ((n : Int) + 1), rfl, by omega, by omega, ?_⟩
    have en : ((n : Int) + 1).toNat = n + 1 := by omega
    rw [en]
    refine for_range (lo := 0) (n := n + 1) (fun r0 σ H' => r0 ≤ n ∧ ∃ pv prt sv' s' x9 x10, σ = [some (.ref p), some nv, some sv', some cv, some z1, some (.int (n : Int)), some (.int dl), some (.int (j : Nat)), some (.ref l), x9, x10] ∧ Kp (some kd) H H' ∧ Fore P w K (addN N l) t (m + r0 * cost q) H' p kd ∧ H' l = some (.lst pv) ∧
      DDs K H' pv (prt.map (ePart (kidIdx i (Asf.T.retry n dl q)))) ∧ InsAt H' sv' s' ∧ OLe s' c ∧
      retryCrs n dl (den q) s c = ((retryGo (den q) dl c (n - r0) r0 s').1, prt ++ (retryGo (den q) dl c (n - r0) r0 s').2) ∧ prt.length ≤ r0) ?_ ?_ ?_
    · exact ⟨Nat.zero_le _, [], [], _, s, _, _, rfl, k1.weak, F1.le (by omega), upd_same, .nil, hs.mk0 k1, ho, rfl, Nat.le_refl _⟩
    · rintro r0 σ H' hr0 ⟨hrn, pv, prt, sv', s', x9, x10, rfl, kk, FF, hlv, hpv, hs', hos, heq, hlen⟩
      rw [show (0 : Int) + (r0 : Int) = (r0 : Int) by omega]
      have hc2 := hc.mono (F.tk kk)
      have hmul : (r0 + 1) * cost q = r0 * cost q + cost q := by rw [Nat.add_mul, Nat.one_mul]
      have hmle : (r0 + 1) * cost q ≤ (n + 1) * cost q := Nat.mul_le_mul_right _ (by omega)
      refine ⟨_, rfl, tyV_list hlv, _, rfl, _, rfl, _, rfl, _, rfl, by show 6 ≤ sizeLine; decide, fun a ha => ?_⟩
      obtain ⟨h1, F5, k5, tk5, h5, hp5⟩ := app_part FF hl kk hlv hpv ha (.cons (.int (r0 : Nat)) (.cons (.int 0) (.cons (.int (j : Nat)) (.cons hs'.dd (.cons hc2.dd (.cons .non .nil))))))
      refine ⟨l, _, _, rfl, rfl, h1, ?_, ?_⟩
      · have := hpv.len
        rw [List.length_map] at this
        show pv.length < 16777216
        omega
      obtain ⟨dx5, vp5, hob5, hp5'⟩ := F5.ob
      have hc5 := hc2.mono tk5
      refine ⟨_, rfl, p, dx5, _, rfl, hob5, rfl, _, rfl, _, rfl, _, rfl, ?_⟩
      refine ⟨addN N l, t, _, kd, j, q, s', c, F5, rfl, huq, hdq, hs'.mono tk5, hc5, hos, by omega, fun ev H7 k7 F7 hev => ?_⟩
      have tk7 := F5.tk k7
      have k17 := k5.trans k7
      have hl7 := k7 l _ h5 (F5.ne_new_l h5)
      have hp7 := DDs.mono tk7 _ _ hp5
      have hc7 := hc5.mono tk7
      have F8 : Fore P w K (addN N l) t (m + (r0 + 1) * cost q) H7 p kd := F7.le (by omega)
      have ep : (prt.map (ePart (kidIdx i (Asf.T.retry n dl q))) ++ [.tuple [.int (r0 : Nat), .int 0, .int (j : Nat), eI s', eO c, .none]] : List PyData) = (prt ++ [(⟨r0, 0, 0, some s', c, none⟩ : Part)]).map (ePart (kidIdx i (Asf.T.retry n dl q))) := by
        rw [List.map_append]
        show _ = _ ++ [ePart _ _]
        unfold ePart
        dsimp only
        rw [show (kidIdx i (Asf.T.retry n dl q)).getD 0 0 = j by rw [List.getD_eq_getElem?_getD, hj1]; rfl]
        rfl
      rw [ep] at hp7
      generalize hE : (den q).fin s' c = en at hev
      have hcr : ∀ e0, retryCrs n dl (den q) s c = (e0, prt ++ [(⟨r0, 0, 0, some s', c, none⟩ : Part)]) → ∀ (Hx : Hp) (ve : V), Kp none H7 Hx → DD K Hx ve (eEnd e0) → [ve, V.ref l].length ≤ sizeLine ∧ ∀ a, Hx a = none → Q (.ref a) (upd Hx a (.tup [ve, .ref l])) := by
        intro e0 he Hx ve kx hve
        exact fin Hx ve _ _ (k17.trans kx.weak) (F8.keep0 kx) (by omega) (by rw [he]; exact hve) (kx l _ hl7 (by simp)) (by rw [he]; exact hp7.mk0 kx)
      dsimp only [gName]
      refine rd_seq ?_
      refine rd_if ?_
      refine rd_or (fun R z => rd_ixN (rd_var rfl) hev rfl z) (fun R z => ⟨_, rfl, _, rfl, rfl, _, rfl, z⟩) ?_
      rw [eqOcF]
      by_cases hst : en.oc = .fai ∧ r0 ≠ n
      · obtain ⟨hf, hrne⟩ := hst
        refine elF (by rw [decide_eq_true hf, decInt, decide_eq_false (by omega)]; rfl) ?_
        obtain ⟨left, hleft⟩ : ∃ left, n - r0 = left + 1 := ⟨n - r0 - 1, by omega⟩
        rw [hleft] at heq
        unfold retryGo at heq
        rw [hE, if_pos hf] at heq
        refine rd_seq ?_
        refine rd_if ?_
        refine ⟨_, rfl, _, _, _, hev, rfl, rfl, fun w0 hw0 => ⟨_, rfl, _, _, hw0.ins, hc7, _, rfl, ?_⟩⟩
        cases hna : na en.en c with
        | false =>
          rw [if_neg (by rw [hna]; exact Bool.false_ne_true)] at heq
          refine itT rfl ?_
          refine ⟨_, rfl, _, _, _, hev, rfl, rfl, fun w1 hw1 => ⟨by show 1 ≤ sizeLine; decide, fun b hb => ?_⟩⟩
          have k8 : Kp none H7 (upd H7 b (.tup [w1])) := Kp.new hb
          refine ⟨_, _, (new_dd hb (.cons hw1 .nil)).dt, T.cT.dt _, by simp, by simp, by show 1 + 2 ≤ sizeLine; decide, fun v H9 k9 hv => ⟨_, rfl, ?_⟩⟩
          exact hcr ⟨en.en, .can, []⟩ heq _ _ (k8.trans k9) hv
        | true =>
          rw [if_pos hna] at heq
          refine elF rfl ?_
          refine ⟨_, rfl, _, _, _, hev, rfl, rfl, fun w1 hw1 => ⟨_, rfl, en.en, hw1.ins, fun lv H9 k9 hlv => ?_⟩⟩
          have hlv := hlv.ins
          dsimp only [gName]
          refine rd_if ?_
          refine ⟨_, rfl, _, rfl, _, _, hlv, hc7.mk0 k9, _, rfl, ?_⟩
          cases hnb : na (later en.en dl) c with
          | false =>
            rw [if_neg (by rw [hnb]; exact Bool.false_ne_true)] at heq
            refine itT rfl ?_
            obtain ⟨cc, rfl⟩ : ∃ cc, c = some cc := by
              cases c with
              | none => cases hnb
              | some cc => exact ⟨cc, rfl⟩
            refine ⟨_, rfl, cc, hc7.mk0 k9, fun nx H10 k10 hnx => ⟨by show 1 ≤ sizeLine; decide, fun b hb => ?_⟩⟩
            have k11 : Kp none H10 (upd H10 b (.tup [nx])) := Kp.new hb
            refine ⟨_, _, (new_dd hb (.cons hnx .nil)).dt, T.cT.dt _, by simp, by simp, by show 1 + 2 ≤ sizeLine; decide, fun v H12 k12 hv => ⟨_, rfl, ?_⟩⟩
            exact hcr ⟨nexti cc, .can, []⟩ heq _ _ ((k9.trans k10).trans (k11.trans k12)) hv
          | true =>
            rw [if_pos hnb] at heq
            refine elF rfl ?_
            have e9 : n - (r0 + 1) = left := by omega
            refine ⟨by omega, _, _, _, later en.en dl, _, _, rfl, k17.trans k9.weak, F8.keep0 k9, k9 l _ hl7 (by simp), hp7.mk0 k9, hlv, na_not hnb, ?_, by rw [List.length_append]; show prt.length + 1 ≤ r0 + 1; omega⟩
            rw [heq, e9, List.append_assoc]
            rfl
      · refine itT ?_ ?_
        · by_cases hf : en.oc = .fai
          · have : r0 = n := Classical.byContradiction fun z => hst ⟨hf, z⟩
            rw [decInt, this]
            simp
          · rw [decide_eq_false hf]
            rfl
        · refine ⟨_, rfl, _, rfl, ?_⟩
          refine hcr en ?_ _ _ (Kp.refl _ _) hev
          rw [heq]
          cases hl0 : n - r0 with
          | zero =>
            unfold retryGo
            rw [hE]
          | succ left =>
            have hf : ¬ en.oc = .fai := fun z => hst ⟨z, by omega⟩
            unfold retryGo
            rw [hE, if_neg hf]
    · rintro σ H' ⟨hbad, _⟩
      omega)
end
end Asf
set_option Elab.async false
set_option linter.all false
set_option maxRecDepth 100000
set_option maxHeartbeats 4000000
namespace Asf
open PySem PySem.Spec PyProof.Rows L2
theorem rd_asg {te : TE} {g : TG} {D : Ends} {σ : L2.St} {H : Hp} (h : te σ H fun x H1 => g x σ H1 D.nx) : tAsg te g D σ H := h
section
variable {P : Program} {w : World} {K : PySem.W.Frag} {mg : Str → Option Value} {base : Heap} {N : Addr → Prop} {t : T} {m d i : Nat} {H : Hp} {p kd : Addr} {u : T} {s : Ins} {c lim : Option Ins}
/-- the ends of all parts -/
theorem ends_lc {σ : L2.St} {L : Nat} {b : Addr} {sv lv : V} {Qd : VK} (F : Fore P w K N t m H p kd) (hu : (subs t)[i]? = some u) (hdep : ∀ q ∈ kidsT u, depth q ≤ d) (hs : InsAt H sv s) (hl : OIns H lv lim) (ho : OLe s lim) (hb : DD K H (.ref b) (eIdx (kidIdx i u)))
    (hm : m + costL (kidsT u) ≤ 1000000) (hlen : (kidsT u).length ≤ 6)
    (r : ∀ D H', Kp (some kd) H H' → Fore P w K N t (m + costL (kidsT u)) H' p kd → EndsAt K H' (.ref D) ((denL (kidsT u)).map fun b => b.fin s lim) → H D = none → Qd (.ref D) H')
    (g4 : σ[4]? = some (some (.ref b))) (g0 : ∀ x, ((wipe σ [6]).set 6 (some x))[0]? = some (some (.ref p))) (g2 : ∀ x, ((wipe σ [6]).set 6 (some x))[2]? = some (some sv)) (g6 : ∀ x, ((wipe σ [6]).set 6 (some x))[6]? = some (some x)) (gL : ∀ x, ((wipe σ [6]).set 6 (some x))[L]? = some (some lv))
    (gw : ∀ x, wipe ((wipe σ [6]).set 6 (some x)) [6] = wipe σ [6]) :
    tLc (iTup K (tVar 4)) (gName 6) tYes (tM (CF K) "end" (sp_end P w K d) (tVar 0) (tCons (tVar 6) (tCons (tVar 2) (tCons (tVar L) tNil)))) [6] σ H Qd := by
  refine ⟨_, g4, b, rfl, ⟨_, hb.idx⟩, fun D hD => ?_⟩
  have eb := hb.idx
  refine lcT (xs := iV (kidIdx i u)) (fun j H' => Gr K (some kd) H D ((((denL (kidsT u)).map fun b => b.fin s lim).take j).map eEnd) H' ∧ Fore P w K (addN N D) t (m + costL ((kidsT u).take j)) H' p kd) ?_ (fun j H' _ g => F.sqT g.1.1 eb) ?_ ?_
  · exact ⟨Gr.start hD, (F.addN hD []).le (Nat.le_add_right _ _)⟩
  · rintro j x H' hx ⟨g, FF⟩
    obtain ⟨n, hkn, rfl⟩ := map_get hx
    obtain ⟨q, hq, hun, _⟩ := kid_of_idx hu hkn
    have hqm := List.mem_of_getElem? hq
    obtain ⟨dx, vp, hob, hp⟩ := FF.ob
    have tk := F.tk g.1
    have hcs := costL_take_succ (kidsT u) hq
    have hle := costL_take_le (kidsT u) (j + 1)
    have hj := (List.getElem?_eq_some_iff.mp hq).1
    refine ⟨gw _, ?_⟩
    refine ⟨_, g0 _, p, dx, _, rfl, hob, rfl, _, g6 _, _, g2 _, _, gL _, ?_⟩
    refine ⟨addN N D, t, _, kd, n, q, s, lim, FF, rfl, hun, hdep q hqm, hs.mono tk, hl.mono tk, ho, by omega, fun ev H2 k2 F2 hev => ?_⟩
    have he : ((denL (kidsT u)).map fun b => b.fin s lim)[j]? = some ((den q).fin s lim) := by
      rw [List.getElem?_map, denL_get hq]
      rfl
    rw [take_succ_map eEnd _ he]
    obtain ⟨acc, a1, a2, a3⟩ := g.add hD k2 (FF.tk k2) (F.ne_new hD) hev (by
      rw [List.length_map, List.length_take]
      show _ < 16777216
      omega)
    exact ⟨acc, a1, a2, a3, (F2.put (D := D) (.inl rfl) _).le (by omega)⟩
  · rintro H' ⟨g, FF⟩
    have el : (iV (kidIdx i u)).length = (kidsT u).length := by rw [List.length_map, kidIdx_length]
    have el2 : ((denL (kidsT u)).map fun b => b.fin s lim).length = (kidsT u).length := by rw [List.length_map, denL_eq, List.length_map]
    rw [el, List.take_length] at FF
    rw [el, ← el2, List.take_length] at g
    obtain ⟨k, acc, g2, g3⟩ := g
    exact r D H' k (FF.sub fun _ z => .inr z) ⟨D, acc, rfl, SqL.of g2, g3, by rw [el2]; omega⟩ hD
variable {Nx Bk Ct : L2.St → Hp → Prop} {Rt : VK} {kk : Kd} {o : Nat} {ps : List T}
theorem scope_lim {pv nv sv cv bv ev : V} {x6 x7 x8 x9 x10 x11 x12 : Option V} {e1 : List End} (hn : DD K H nv (eNode (.scope kk ps) o)) (hc : OIns H cv c) (he : EndsAt K H ev e1) (hne : e1 ≠ [])
    (r : ∀ lv H', Kp none H H' → OIns H' lv (limOf kk c e1) → Nx [some pv, some nv, some sv, some cv, some bv, some ev, x6, some lv, x8, x9, x10, x11, x12] H') :
    (tIfS (tTest (tOp rEq (tOp (rIxD K) (tVar 1) (tC (.int 0))) (tC (.str "all")))) (tAsg (tK (sp_earliest K) (tCons (tVar 3) (tCons (tK (sp_first K) (tCons (tVar 5) (tCons (tC (.str "failed")) tNil))) tNil))) (gName 7)) (tIfS (tTest (tOp rEq (tOp (rIxD K) (tVar 1) (tC (.int 0))) (tC (.str "race")))) (tAsg (tK (sp_earliest K) (tCons (tVar 3) (tCons (tCB (rMinL K minI) (tCons (tLc (iList K (tVar 5)) (gName 8) tYes (tOp (rIxD K) (tVar 8) (tC (.int 0))) [8]) tNil)) tNil))) (gName 7)) (tAsg (tK (sp_earliest K) (tCons (tVar 3) (tCons (tK (sp_first K) (tCons (tVar 5) (tCons (tC (.str "completed")) tNil))) tNil))) (gName 7)))) { nx := Nx, bk := Bk, ct := Ct, rt := Rt } [some pv, some nv, some sv, some cv, some bv, some ev, x6, x7, x8, x9, x10, x11, x12] H := by
  refine rd_if ?_
  refine rd_kind (kdS kk) (by rfl) hn rfl ?_
  cases kk with
  | all =>
    refine itT (by decide) ?_
    exact ⟨_, rfl, _, rfl, e1, .fai, he, rfl, fun v H' k hv => ⟨c, _, hc.mk0 k, hv, fun lv hlv => r lv H' k hlv⟩⟩
  | any =>
    refine itF (by decide) ?_
    refine rd_if ?_
    refine rd_kind (kdS .any) (by rfl) hn rfl ?_
    refine itF (by decide) ?_
    exact ⟨_, rfl, _, rfl, e1, .com, he, rfl, fun v H' k hv => ⟨c, _, hc.mk0 k, hv, fun lv hlv => r lv H' k hlv⟩⟩
  | race =>
    refine itF (by decide) ?_
    refine rd_if ?_
    refine rd_kind (kdS .race) (by rfl) hn rfl ?_
    refine itT (by decide) ?_
    obtain ⟨a, xs, rfl, hsq, hxs, hlen⟩ := he
    refine ⟨_, rfl, _, rfl, a, rfl, ⟨xs, hsq⟩, fun D hD => ?_⟩
    refine lcL (xs := xs) (fun j H1 => Gr K none H D ((e1.take j).map fun e => eI e.en) H1) (Gr.start hD) (fun j H1 _ g => sqL_keep hsq g.1) ?_ ?_
    · intro j x H1 hx g
      obtain ⟨d, hd, hxd⟩ := hxs.of_get hx
      obtain ⟨e, he, rfl⟩ := map_get hd
      refine ⟨rfl, ?_⟩
      refine ⟨_, rfl, _, _, _, hxd.mk0 g.1, rfl, rfl, fun y hy => ?_⟩
      rw [take_succ_map (fun e : End => eI e.en) e1 he]
      refine g.add0 hD (Kp.refl _ _) hy ?_
      rw [List.length_map, List.length_take]
      show _ < 16777216
      omega
    · intro H1 g
      rw [show e1.take xs.length = e1 by rw [hxs.len, List.length_map, List.take_length]] at g
      obtain ⟨k, acc, g2, g3⟩ := g
      have g3 : DDs K H1 acc ((e1.map (·.en)).map eI) := by rw [List.map_map]; exact g3
      have el : limOf .race c e1 = earliest c (minO (e1.map (·.en))) := rfl
      rw [el] at r
      cases hcs : e1.map (·.en) with
      | nil => exact absurd (List.map_eq_nil_iff.mp hcs) hne
      | cons i0 is =>
        rw [hcs] at g3 r
        refine ⟨D, acc, i0, is, rfl, SqL.of g2, DDs.insts g3, fun x hx => ?_⟩
        exact ⟨c, some (minI i0 is), hc.mk0 k, hx, fun lv hlv => r lv H1 k hlv⟩
theorem OIns.isN {H : Hp} {v : V} {c : Option Ins} (h : OIns H v c) : decide (v = .non) = decide (c = none) := by
  cases c with
  | none => cases h; rfl
  | some i => rw [InsAt.ne_non h]; rfl
theorem scope_counted {pv nv sv cv bv ev lv : V} {x6 x8 x9 x10 x12 : Option V} {e2 : List End} (hn : DD K H nv (eNode (.scope kk ps) o)) (hl : OIns H lv lim) (he : EndsAt K H ev e2)
    (r : ∀ cv2 H' y8, Kp none H H' → EndsAt K H' cv2 (countedOf kk lim e2) → Nx [some pv, some nv, some sv, some cv, some bv, some ev, x6, some lv, y8, x9, x10, some cv2, x12] H') :
    (tIfS (tAnd (tTest (tOp rEq (tOp (rIxD K) (tVar 1) (tC (.int 0))) (tC (.str "any")))) (tB (tNotN (tK (sp_first K) (tCons (tVar 5) (tCons (tC (.str "completed")) tNil)))))) (tAsg (tLc (iList K (tVar 5)) (gName 8) (tNot (tB (tK (sp_na K) (tCons (tOp (rIxD K) (tVar 8) (tC (.int 0))) (tCons (tVar 7) tNil))))) (tVar 8) [8]) (gName 11)) tNext) { nx := Nx, bk := Bk, ct := Ct, rt := Rt } [some pv, some nv, some sv, some cv, some bv, some ev, x6, some lv, x8, x9, x10, some ev, x12] H := by
  refine rd_if ?_
  refine rd_kind (kdS kk) (by rfl) hn rfl ?_
  by_cases hk : kk = .any
  · subst hk
    refine itT (by decide) ?_
    refine ⟨_, rfl, e2, .com, he, rfl, fun v H1 k1 hv => ⟨_, rfl, ?_⟩⟩
    rw [OIns.isN hv]
    by_cases hf : firstOf e2 .com = none
    · have ec : countedOf .any lim e2 = e2 := by unfold countedOf; rw [if_neg (fun z => z.2 hf)]
      refine itF (by rw [decide_eq_true hf]; rfl) ?_
      rw [ec] at r
      exact r ev H1 _ k1 (he.mk0 k1)
    · have ec : countedOf .any lim e2 = e2.filter (fun e => !na e.en lim) := by unfold countedOf; rw [if_pos ⟨rfl, hf⟩]
      refine itT (by rw [decide_eq_false hf]; rfl) ?_
      rw [ec] at r
      obtain ⟨a, xs, rfl, hsq, hxs, hlen⟩ := he
      refine ⟨_, rfl, a, rfl, ⟨xs, sqL_keep hsq k1⟩, fun D hD => ?_⟩
      refine lcL (xs := xs) (fun j H2 => Gr K none H1 D (((e2.take j).filter (fun e => !na e.en lim)).map eEnd) H2) (Gr.start hD) (fun j H2 _ g => sqL_keep hsq (k1.trans g.1)) ?_ ?_
      · intro j x H2 hx g
        obtain ⟨d, hd, hxd⟩ := hxs.of_get hx
        obtain ⟨e, he, rfl⟩ := map_get hd
        have k2 := k1.trans g.1
        have hx2 := hxd.mk0 k2
        refine ⟨rfl, ?_⟩
        refine ⟨_, rfl, _, _, _, hx2, rfl, rfl, fun y hy => ⟨_, rfl, _, _, hy.ins, hl.mk0 k2, _, rfl, ?_⟩⟩
        rw [List.take_add_one, he, List.filter_append]
        cases hna : na e.en lim with
        | true =>
          refine itF rfl ?_
          simpa [hna] using g
        | false =>
          refine itT rfl ?_
          refine ⟨_, rfl, ?_⟩
          have e3 := g.add0 hD (Kp.refl _ _) hx2 (by
            rw [List.length_map]
            refine Nat.lt_of_le_of_lt (List.length_filter_le _ _) ?_
            rw [List.length_take]
            show _ < 16777216
            omega)
          simpa [hna] using e3
      · intro H2 g
        rw [show e2.take xs.length = e2 by rw [hxs.len, List.length_map, List.take_length]] at g
        obtain ⟨k, acc, g2, g3⟩ := g
        exact r (.ref D) H2 _ (k1.trans k) ⟨D, acc, rfl, SqL.of g2, g3, Nat.le_trans (List.length_filter_le _ _) hlen⟩
  · have ec : countedOf kk lim e2 = e2 := by unfold countedOf; rw [if_neg (fun z => hk z.1)]
    refine itF (by cases kk <;> first | decide | exact absurd rfl hk) ?_
    refine itF rfl ?_
    rw [ec] at r
    exact r ev H _ (Kp.refl _ _) he
theorem scope_told {pv nv sv cv bv ev lv : V} {x6 x8 x9 x10 x11 x12 : Option V} {e2 : List End} (hn : DD K H nv (eNode (.scope kk ps) o)) (he : EndsAt K H ev e2) (hN : resN e2 ≤ 1000000)
    (r : ∀ tv H', Kp none H H' → DT K H' tv (toldL (toldOf kk e2)) → Nx [some pv, some nv, some sv, some cv, some bv, some ev, x6, some lv, x8, x9, x10, x11, some tv] H') :
    (tAsg (tIf (tTest (tOp rEq (tOp (rIxD K) (tVar 1) (tC (.int 0))) (tC (.str "all")))) (tK (sp_allValues K) (tCons (tVar 5) tNil)) (tK (sp_firstValue K) (tCons (tVar 5) tNil))) (gName 12)) { nx := Nx, bk := Bk, ct := Ct, rt := Rt } [some pv, some nv, some sv, some cv, some bv, some ev, x6, some lv, x8, x9, x10, x11, x12] H := by
  refine rd_kind (kdS kk) (by rfl) hn rfl ?_
  unfold toldOf at r
  by_cases hk : kk = .all
  · subst hk
    rw [if_pos rfl] at r
    refine itT (by decide) ?_
    exact ⟨_, rfl, e2, he, hN, fun v H' k hv => r v H' k hv⟩
  · rw [if_neg hk] at r
    refine itF (by cases kk <;> first | decide | exact absurd rfl hk) ?_
    exact ⟨_, rfl, e2, he, fun v H' k hv => r v H' k hv⟩
end
end Asf
set_option Elab.async false
set_option linter.all false
set_option maxRecDepth 100000
set_option maxHeartbeats 4000000
namespace Asf
open PySem PySem.Spec PyProof.Rows L2
section
variable {P : Program} {w : World} {K : PySem.W.Frag} {mg : Str → Option Value} {base : Heap}
theorem Fore.ends {N : Addr → Prop} {t : T} {m : Nat} {H H' : Hp} {p kd : Addr} (F : Fore P w K N t m H p kd) (k : Kp (some kd) H H') {v : V} {es : List End} (h : EndsAt K H v es) : EndsAt K H' v es := by
  obtain ⟨a, xs, h1, h2, h3, h4⟩ := h
  exact ⟨a, xs, h1, F.sqL k h2, DDs.mono (F.tk k) _ _ h3, h4⟩
theorem not_trK {N : Addr → Prop} {t : T} {m : Nat} {H H' : Hp} {p kd l : Addr} (F : Fore P w K N t m H p kd) (k : Kp (some kd) H H') (h : H' l = none) : ¬ N l := fun z => by
  obtain ⟨xs, q⟩ := F.tr l z
  rw [k l _ q (F.ne_new_l q)] at h
  cases h
theorem m_scope (T : Txt K mg) {k d : Nat} (hk : 2 ≤ k) (M : Met P w K mg base k "end" (He.ma K (CF K) "end") ["self", "place", "start", "cancel"] (sp_end P w K d)) : Met P w K mg base (k + 1) "_scope" (He.ma K (CF K) "_scope") ["self", "node", "start", "cancel"] (sp_node P w K (d + 1) isScope) :=
  met_F_scope T (okF T.d_F_scope sc_F_scope (fun vs H Q E h => match vs, h with | [.ref _, _, _, _], _ => rfl) fun cdv A outer s0 H vs Q E hr h => match vs, h with
  | [.ref p, nv, sv, cv], h => by
    obtain ⟨N, t, m, kd, i, u, s, c, F, hn, sel, hu, hd, hs, hc, ho, hm, r⟩ := h
    obtain ⟨kk, ps, rfl⟩ : ∃ kk ps, u = Asf.T.scope kk ps := by cases u <;> first | exact ⟨_, _, rfl⟩ | exact sel.elim
    have hcq : cost (Asf.T.scope kk ps) = 2 * costL ps + 1 := rfl
    have hwu := subs_wf t F.wf _ (List.mem_of_getElem? hu)
    have hdep : ∀ q ∈ kidsT (Asf.T.scope kk ps), depth q ≤ d := fun q hq => by have := kid_depth (t := Asf.T.scope kk ps) hq; omega
    have G : ∀ b ∈ denL ps, Good b := good_denL ps hwu.2.2
    rw [crs_scope] at r
    refine ⟨_, (pss_cons (ps_set (i := 4) sc_F_scope.nd rfl (by first | exact Or.inl rfl | exact Or.inr rfl) (pe_k (k_parts_of T) hr (pa_cons (pv 1) pa_nil) (by omega))) (pss_cons (ps_setLc (i := 5) (own := [("place", 6)]) (g := (gName 6)) (tt := tYes) (te := (tM (CF K) "end" (sp_end P w K d) (tVar 0) (tCons (tVar 6) (tCons (tVar 2) (tCons (tVar 3) tNil))))) rfl sc_F_scope.nd rfl rfl (sw_true rfl rfl rfl (by decide +kernel)) (pi_tup (pv 4)) (blkOk_by (N := ["self", "node", "start", "cancel", "places", "ends", "place", "limit", "end", "parts", "part", "counted", "told"]) (sc := defScope s_F_scope) (by decide +kernel)) (fun _ _ _ _ _ => (pg_name (i := 6) sc_F_scope.nd rfl (by first | exact Or.inl rfl | exact Or.inr rfl))) (fun _ _ _ _ _ => pts_nil) (fun _ _ _ _ _ => (pe_m M T.cl hr (pv 0) (pa_cons (pv 6) (pa_cons (pv 2) (pa_cons (pv 3) pa_nil))) (by omega)))) (pss_cons (ps_if (pt_cmpR (op_eq) (pe_ix ix_dd (pv 1) pe_int (fun _ _ => rfl)) pe_str (nomark _)) (pss_one (ps_set (i := 7) sc_F_scope.nd rfl (by first | exact Or.inl rfl | exact Or.inr rfl) (pe_k (k_earliest T) hr (pa_cons (pv 3) (pa_cons (pe_k (k_first T) hr (pa_cons (pv 5) (pa_cons pe_str pa_nil)) (by omega)) pa_nil)) (by omega)))) (pss_one (ps_if (pt_cmpR (op_eq) (pe_ix ix_dd (pv 1) pe_int (fun _ _ => rfl)) pe_str (nomark _)) (pss_one (ps_set (i := 7) sc_F_scope.nd rfl (by first | exact Or.inl rfl | exact Or.inr rfl) (pe_k (k_earliest T) hr (pa_cons (pv 3) (pa_cons (pe_callB (cr_minL rfl (hu_of2 hr)) (by rfl) T.z_min (by decide +kernel) (pa_cons (pe_lc (own := [("end", 8)]) (g := (gName 8)) (tt := tYes) (te := (tOp (rIxD K) (tVar 8) (tC (.int 0)))) rfl sc_F_scope.nd (pi_list (pv 5)) (blkOk_by (N := ["self", "node", "start", "cancel", "places", "ends", "place", "limit", "end", "parts", "part", "counted", "told"]) (sc := defScope s_F_scope) (by decide +kernel)) (fun _ _ _ _ _ => (pg_name (i := 8) sc_F_scope.nd rfl (by first | exact Or.inl rfl | exact Or.inr rfl))) (fun _ _ _ _ _ => pts_nil) (fun _ _ _ _ _ => (pe_ix ix_dd (pv 8) pe_int (fun _ _ => rfl)))) pa_nil)) pa_nil)) (by omega)))) (pss_one (ps_set (i := 7) sc_F_scope.nd rfl (by first | exact Or.inl rfl | exact Or.inr rfl) (pe_k (k_earliest T) hr (pa_cons (pv 3) (pa_cons (pe_k (k_first T) hr (pa_cons (pv 5) (pa_cons pe_str pa_nil)) (by omega)) pa_nil)) (by omega))))))) (pss_cons (ps_setLc (i := 5) (own := [("place", 6)]) (g := (gName 6)) (tt := tYes) (te := (tM (CF K) "end" (sp_end P w K d) (tVar 0) (tCons (tVar 6) (tCons (tVar 2) (tCons (tVar 7) tNil))))) rfl sc_F_scope.nd rfl rfl (sw_true rfl rfl rfl (by decide +kernel)) (pi_tup (pv 4)) (blkOk_by (N := ["self", "node", "start", "cancel", "places", "ends", "place", "limit", "end", "parts", "part", "counted", "told"]) (sc := defScope s_F_scope) (by decide +kernel)) (fun _ _ _ _ _ => (pg_name (i := 6) sc_F_scope.nd rfl (by first | exact Or.inl rfl | exact Or.inr rfl))) (fun _ _ _ _ _ => pts_nil) (fun _ _ _ _ _ => (pe_m M T.cl hr (pv 0) (pa_cons (pv 6) (pa_cons (pv 2) (pa_cons (pv 7) pa_nil))) (by omega)))) (pss_cons (ps_setLc (i := 9) (own := [("part", 10), ("place", 6)]) (g := (gTup K 2 (gCons (gName 10) (gCons (gName 6) gNil)))) (tt := tYes) (te := (tTup (tCons (tC (.int 0)) (tCons (tVar 10) (tCons (tVar 6) (tCons (tVar 2) (tCons (tVar 7) (tCons (tC .non) tNil)))))))) rfl sc_F_scope.nd rfl rfl (sw_true rfl rfl rfl (by decide +kernel)) (pi_enumT (by rfl) T.z_enumerate (pa_cons (pv 4) pa_nil)) (blkOk_by (N := ["self", "node", "start", "cancel", "places", "ends", "place", "limit", "end", "parts", "part", "counted", "told"]) (sc := defScope s_F_scope) (by decide +kernel)) (fun _ _ _ _ _ => (pg_tup (by rfl) (pgs_cons (pg_name (i := 10) sc_F_scope.nd rfl (by first | exact Or.inl rfl | exact Or.inr rfl)) (pgs_cons (pg_name (i := 6) sc_F_scope.nd rfl (by first | exact Or.inl rfl | exact Or.inr rfl)) pgs_nil)))) (fun _ _ _ _ _ => pts_nil) (fun _ _ _ _ _ => (pe_tup (pa_cons pe_int (pa_cons (pv 10) (pa_cons (pv 6) (pa_cons (pv 2) (pa_cons (pv 7) (pa_cons pe_non pa_nil))))))))) (pss_cons (ps_set (i := 11) sc_F_scope.nd rfl (by first | exact Or.inl rfl | exact Or.inr rfl) (pv 5)) (pss_cons (ps_if (PW.pt (pw_and (pt_cmpR (op_eq) (pe_ix ix_dd (pv 1) pe_int (fun _ _ => rfl)) pe_str (nomark _)) (pw_and1 (pt_cmp (pc_notN (pe_k (k_first T) hr (pa_cons (pv 5) (pa_cons pe_str pa_nil)) (by omega))) rfl)))) (pss_one (ps_setLc (i := 11) (own := [("end", 8)]) (g := (gName 8)) (tt := (tNot (tB (tK (sp_na K) (tCons (tOp (rIxD K) (tVar 8) (tC (.int 0))) (tCons (tVar 7) tNil)))))) (te := (tVar 8)) rfl sc_F_scope.nd rfl rfl (sw_true rfl rfl rfl (by decide +kernel)) (pi_list (pv 5)) (blkOk_by (N := ["self", "node", "start", "cancel", "places", "ends", "place", "limit", "end", "parts", "part", "counted", "told"]) (sc := defScope s_F_scope) (by decide +kernel)) (fun _ _ _ _ _ => (pg_name (i := 8) sc_F_scope.nd rfl (by first | exact Or.inl rfl | exact Or.inr rfl))) (fun _ _ _ _ _ => (pts_one (pt_not (pt_val (pe_k (k_not_after T) hr (pa_cons (pe_ix ix_dd (pv 8) pe_int (fun _ _ => rfl)) (pa_cons (pv 7) pa_nil)) (by omega)))))) (fun _ _ _ _ _ => (pv 8)))) pss_nil) (pss_cons (ps_set (i := 12) sc_F_scope.nd rfl (by first | exact Or.inl rfl | exact Or.inr rfl) (pe_ifExp (pt_cmpR (op_eq) (pe_ix ix_dd (pv 1) pe_int (fun _ _ => rfl)) pe_str (nomark _)) (pe_k (k_all_values T) hr (pa_cons (pv 5) pa_nil) (by omega)) (pe_k (k_first_value T) hr (pa_cons (pv 5) pa_nil) (by omega)))) (pss_one (ps_ret (pe_tup (pa_cons (pe_k (k_together T) hr (pa_cons (pv 2) (pa_cons (pv 3) (pa_cons (pv 5) (pa_cons (pv 11) (pa_cons (pv 12) pa_nil))))) (by omega)) (pa_cons (pv 9) pa_nil))))))))))))), ?_⟩
    refine ⟨_, rfl, _, _, hn, fun bv H1 k1 hbv => ?_⟩
    obtain ⟨b, xs0, rfl, hb0, _⟩ := id hbv.sq
    have F1 := F.keep0 k1
    dsimp only [gName]
    refine rd_seq ?_
    refine rd_asg ?_
    refine ends_lc (u := .scope kk ps) F1 hu hdep (hs.mk0 k1) (hc.mk0 k1) ho hbv (by show m + costL ps ≤ _; omega) hwu.2.1 (fun D H2 k2 F2 he2 _ => ?_) (by rfl) (fun _ => rfl) (fun _ => rfl) (fun _ => rfl) (fun _ => rfl) (fun _ => rfl)
    have tk2 := F1.tk k2
    have hn2 := DD.mono tk2 _ _ (hn.mk0 k1)
    have hs2 := (hs.mk0 k1).mono tk2
    have hc2 := (hc.mk0 k1).mono tk2
    have hb2 := DD.mono tk2 _ _ hbv
    have he2 : EndsAt K H2 (.ref D) ((denL ps).map fun b => b.fin s c) := he2
    have hne : ((denL ps).map fun b => b.fin s c) ≠ [] := fun z => by
      rw [List.map_eq_nil_iff, denL_eq, List.map_eq_nil_iff] at z
      exact hwu.1 z
    dsimp only [gName]
    refine rd_seq ?_
    refine scope_lim hn2 hc2 he2 hne (fun lv H3 k3 hlv => ?_)
    have F3 := F2.keep0 k3
    have hlim : OLe s (limOf kk c ((denL ps).map fun b => b.fin s c)) := lim_ge G ho
    have er : scopeCrs kk (denL ps) s c = (together s c ((denL ps).map fun b => b.fin s (limOf kk c ((denL ps).map fun b => b.fin s c))) (countedOf kk (limOf kk c ((denL ps).map fun b => b.fin s c)) ((denL ps).map fun b => b.fin s (limOf kk c ((denL ps).map fun b => b.fin s c))))
      (toldOf kk ((denL ps).map fun b => b.fin s (limOf kk c ((denL ps).map fun b => b.fin s c)))), scopeParts (denL ps).length s (limOf kk c ((denL ps).map fun b => b.fin s c))) := rfl
    rw [er] at r
    generalize limOf kk c ((denL ps).map fun b => b.fin s c) = lim at hlv hlim r
    refine rd_seq ?_
    refine rd_asg ?_
    refine ends_lc (u := .scope kk ps) F3 hu hdep (hs2.mk0 k3) hlv hlim (hb2.mk0 k3) (by show m + costL ps + costL ps ≤ _; omega) hwu.2.1 (fun D2 H4 k4 F4 he4 _ => ?_) (by rfl) (fun _ => rfl) (fun _ => rfl) (fun _ => rfl) (fun _ => rfl) (fun _ => rfl)
    have tk4 := F3.tk k4
    have hn4 := DD.mono tk4 _ _ (hn2.mk0 k3)
    have hs4 := (hs2.mk0 k3).mono tk4
    have hc4 := (hc2.mk0 k3).mono tk4
    have hl4 := hlv.mono tk4
    have hb4 := DD.mono tk4 _ _ (hb2.mk0 k3)
    have k14 : Kp (some kd) H H4 := ((k1.weak.trans k2).trans k3.weak).trans k4
    generalize he : ((denL (kidsT (Asf.T.scope kk ps))).map fun b => b.fin s lim) = es at he4
    have he' : ((denL ps).map fun b => b.fin s lim) = es := he
    rw [he'] at r
    have hN : resN es ≤ 1000000 := by
      rw [← he']
      have h1 := ends_le ps (fun q hq s c => res_le q s c) s lim
      have h2 := subs_size hu
      have h3 := F.sz
      have h4 : size (Asf.T.scope kk ps) = sizeL ps + 1 := rfl
      omega
    dsimp only [gName]
    refine ⟨_, rfl, b, _, rfl, hb4.idx, fun l hl => ?_⟩
    refine lc_enumT (xs := iV (kidIdx i (Asf.T.scope kk ps))) (fun j H' => Gr K none H4 l ((scopeParts j s lim).map (ePart (kidIdx i (Asf.T.scope kk ps)))) H') (Gr.start hl) (fun j H' _ g => sqT_keep hb4.idx g.1) ?_ ?_
    · rintro j x H' Tn hx g hTn
      obtain ⟨n, hkn, rfl⟩ := map_get hx
      obtain ⟨q, hq, hun, hgd⟩ := kid_of_idx hu hkn
      have hjl := (List.getElem?_eq_some_iff.mp hkn).1
      rw [kidIdx_length] at hjl
      have h6 : (kidsT (Asf.T.scope kk ps)).length ≤ 6 := hwu.2.1
      have kT : Kp none H' (upd H' Tn (.tup [.int (j : Nat), .int (n : Int)])) := Kp.new hTn
      refine ⟨Tn, _, rfl, SqT.of upd_same, rfl, _, _, rfl, _, _, rfl, rfl, rfl, ?_⟩
      refine ⟨_, rfl, _, rfl, _, rfl, _, rfl, by show 6 ≤ sizeLine; decide, fun a ha => ?_⟩
      have h5 := g.1.trans kT
      have new := new_dd (K := K) ha (.cons (.int 0) (.cons (.int (j : Nat)) (.cons (.int (n : Int)) (.cons ((hs4.mk0 h5).dd) (.cons ((hl4.mk0 h5).dd) (.cons .non .nil))))))
      have ep : (scopeParts (j + 1) s lim).map (ePart (kidIdx i (Asf.T.scope kk ps))) = (scopeParts j s lim).map (ePart (kidIdx i (Asf.T.scope kk ps))) ++ [.tuple [.int 0, .int (j : Nat), .int (n : Int), eI s, eO lim, .none]] := by
        unfold scopeParts
        rw [List.range_succ, List.map_append, List.map_append]
        show _ ++ [ePart _ _] = _
        unfold ePart
        dsimp only
        rw [hgd]
        rfl
      rw [ep]
      refine g.add0 hl (kT.trans (Kp.new ha)) new ?_
      unfold scopeParts
      rw [List.length_map, List.length_map, List.length_range]
      show j < 16777216
      omega
    · intro H5 g
      rw [show (iV (kidIdx i (Asf.T.scope kk ps))).length = (denL ps).length by rw [List.length_map, kidIdx_length, denL_eq, List.length_map]; rfl] at g
      obtain ⟨k5, acc, g2, g3⟩ := g
      have hnl : ¬ N l := not_trK F k14 hl
      have he5 := he4.mk0 k5
      refine ⟨_, rfl, ?_⟩
      dsimp only [gName]
      refine rd_seq ?_
      refine scope_counted (hn4.mk0 k5) (hl4.mk0 k5) he5 (fun cv2 H6 y8 k6 hct => ?_)
      refine rd_seq ?_
      refine scope_told (hn4.mk0 (k5.trans k6)) (he5.mk0 k6) hN (fun tv H7 k7 htv => ?_)
      have k57 := (k5.trans k6).trans k7
      refine ⟨_, rfl, _, rfl, _, rfl, _, rfl, _, rfl, s, c, es, _, _, hs4.mk0 k57, hc4.mk0 k57, he5.mk0 (k6.trans k7), hct.mk0 k7, htv, ?_, fun ev H8 k8 hev => ⟨_, rfl, by show 2 ≤ sizeLine; decide, ?_⟩⟩
      · unfold countedOf
        split
        · exact Nat.le_trans (resN_filter _ _) hN
        · exact hN
      · have k58 := k57.trans k8
        exact retC r (k14.trans k58.weak) ((F4.keep0 k58).le (by rw [hcq]; show m + costL ps + costL ps ≤ _; omega)) hev (((k6.trans k7).trans k8) l _ g2 (by simp)) (g3.mk0 ((k6.trans k7).trans k8)) hnl)
end
end Asf
set_option Elab.async false
set_option linter.all false
set_option maxRecDepth 100000
set_option maxHeartbeats 4000000
namespace Asf
open PySem PySem.Spec PyProof.Rows L2
/-! ### pool -/
theorem poolParts_snoc (s : Ins) (c : Option Ins) (r : Option Ins × Option End) : ∀ (rs : List (Option Ins × Option End)) (k : Nat), poolParts s c k (rs ++ [r]) = poolParts s c k rs ++ [poolPart s c (k + rs.length) r]
  | [], k => rfl
  | x :: rs, k => by
    rw [List.cons_append, poolParts, poolParts, poolParts_snoc s c r rs (k + 1), List.cons_append, List.length_cons, show k + 1 + rs.length = k + (rs.length + 1) by omega]
theorem com_ends (s : Ins) : ∀ rs : List (Option Ins × Option End), ((rs.map (endOr s)).filter fun e => e.oc = .com).map (·.en) = rs.flatMap fun r => comOf r.2
  | [] => rfl
  | (g, none) :: rs => by
    have ih := com_ends s rs
    rw [List.map_cons, List.flatMap_cons, List.filter_cons_of_neg (by simp [endOr]), ih]
    rfl
  | (g, some e) :: rs => by
    have ih := com_ends s rs
    have e1 : endOr s (g, some e) = e := rfl
    rw [List.map_cons, List.flatMap_cons, e1, comOf_some]
    by_cases h : e.oc = .com
    · rw [List.filter_cons_of_pos (by simpa using h), List.map_cons, ih, if_pos h]
      rfl
    · rw [List.filter_cons_of_neg (by simpa using h), ih, if_neg h]
      rfl
section
variable {P : Program} {w : World} {K : PySem.W.Frag} {mg : Str → Option Value} {base : Heap}
def PPAt (K : PySem.W.Frag) (N : Addr → Prop) (H : Hp) (v : V) (es : List End) (prt : List Part) (ki : List Nat) : Prop :=
  ∃ a le lp ev pv, v = .ref a ∧ H a = some (.tup [.ref le, .ref lp]) ∧ H le = some (.lst ev) ∧ DDs K H ev (es.map eEnd) ∧ H lp = some (.lst pv) ∧ DDs K H pv (prt.map (ePart ki)) ∧ ¬ N le ∧ ¬ N lp
def sp_poolParts (P : Program) (w : World) (K : PySem.W.Frag) (d : Nat) : Sp := fun vs H Q E => match vs with
  | [.ref p, nv, sv, cv] => ∃ N t m kd i n ps s c, Fore P w K N t m H p kd ∧ DD K H nv (eAt i (.pool n ps)) ∧ (subs t)[i]? = some (.pool n ps) ∧ depth (.pool n ps) ≤ d ∧ InsAt H sv s ∧ OIns H cv c ∧ OLe s c ∧ m + costL ps ≤ 1000000 ∧
    ∀ v H', Kp (some kd) H H' → Fore P w K N t (m + costL ps) H' p kd → PPAt K N H' v ((poolRes n s c 0 [] (denL ps)).map (endOr s)) (poolParts s c 0 (poolRes n s c 0 [] (denL ps))) (kidIdx i (.pool n ps)) → Q v H'
  | _ => False
section
variable {H : Hp} {Nx Bk Ct : L2.St → Hp → Prop} {Rt : VK} {n : Int} {s : Ins} {c : Option Ins}
theorem pool_begin {pv nv sv cv ev lv plv : V} {dn : Addr} {x9 x11 : Option V} {k o : Nat} {ps : List T} {comp : List Ins} {ys : List V} (hn : DD K H nv (eNode (.pool n ps) o)) (hs : InsAt H sv s) (hd : SqL K H dn ys) (hy : Paired (InsAt H) ys (isort comp))
    (r : ∀ bv, OIns H bv (beginOf n s k comp) → Nx [some pv, some nv, some sv, some cv, some ev, some lv, some (.int (k : Nat)), some plv, some (.ref dn), x9, some bv, x11] H) :
    (tIfS (tTest (tOp (rI0 fun i j => .bl (decide (i < j))) (tVar 6) (tOp (rIxD K) (tVar 1) (tC (.int 1))))) (tAsg (tVar 2) (gName 10)) (tIfS (tTest (tOp (rI0 fun i j => .bl (decide (i < j))) (tOp (rI0 fun i j => .int (i - j)) (tVar 6) (tOp (rIxD K) (tVar 1) (tC (.int 1)))) (tCB (rLenQ K) (tCons (tVar 8) tNil)))) (tAsg (tOp (rIxL K) (tVar 8) (tOp (rI0 fun i j => .int (i - j)) (tVar 6) (tOp (rIxD K) (tVar 1) (tC (.int 1))))) (gName 10)) tNext)) { nx := Nx, bk := Bk, ct := Ct, rt := Rt } [some pv, some nv, some sv, some cv, some ev, some lv, some (.int (k : Nat)), some plv, some (.ref dn), x9, some .non, x11] H := by
  refine rd_if ?_
  refine ⟨_, rfl, _, rfl, _, _, _, hn, rfl, rfl, fun nn hnn => ?_⟩
  cases hnn.to_int
  refine ⟨_, _, rfl, rfl, _, rfl, ?_⟩
  unfold beginOf at r
  by_cases h1 : (k : Int) < n
  · refine itT (decide_eq_true h1) ?_
    rw [if_pos h1] at r
    exact ⟨_, rfl, r sv hs⟩
  · refine itF (decide_eq_false h1) ?_
    rw [if_neg h1] at r
    refine rd_if ?_
    refine ⟨_, rfl, _, rfl, _, _, _, hn, rfl, rfl, fun n2 hn2 => ?_⟩
    cases hn2.to_int
    refine ⟨_, _, rfl, rfl, _, rfl, dn, ys, rfl, .inl hd, _, _, rfl, rfl, _, rfl, ?_⟩
    have hl := hy.length
    by_cases h2 : (k : Int) - n < (ys.length : Int)
    · refine itT (decide_eq_true h2) ?_
      have hlt : ((k : Int) - n).toNat < ys.length := by omega
      obtain ⟨i0, hi0, hii⟩ := paired_l hy (j := ((k : Int) - n).toNat) (a := ys[((k : Int) - n).toNat]) (by simp [hlt])
      rw [hi0] at r
      refine ⟨_, rfl, _, rfl, _, rfl, _, _, _, hn, rfl, rfl, fun n3 hn3 => ?_⟩
      cases hn3.to_int
      refine ⟨_, _, rfl, rfl, dn, ys, _, ys[((k : Int) - n).toNat], rfl, rfl, hd, ?_, r _ hii⟩
      have ea : L2.atI ys ((((k : Int) - n).toNat : Nat) : Int) = some ys[((k : Int) - n).toNat] := L2.atI_nat (by simp [hlt])
      rw [show ((((k : Int) - n).toNat : Nat) : Int) = (k : Int) - n by omega] at ea
      exact ea
    · refine itF (decide_eq_false h2) ?_
      rw [List.getElem?_eq_none (by omega)] at r
      exact r .non rfl
end
def beginOk (c : Option Ins) : Option Ins → Bool
  | some g => na g c
  | none => false
theorem poolOne_yes {n : Int} {s : Ins} {c : Option Ins} {k : Nat} {comp : List Ins} {b : Beh} {g : Ins} (h : beginOf n s k comp = some g) (q : na g c = true) : poolOne n s c k comp b = (some g, some (b.fin g c)) := by
  unfold poolOne
  rw [h]
  dsimp only
  rw [if_pos q]
theorem poolOne_no {n : Int} {s : Ins} {c : Option Ins} {k : Nat} {comp : List Ins} {b : Beh} (h : ∀ g, beginOf n s k comp = some g → na g c = false) : poolOne n s c k comp b = (none, c.map fun x => ⟨nexti x, .can, []⟩) := by
  unfold poolOne
  cases e : beginOf n s k comp with
  | none => rfl
  | some g =>
    dsimp only
    rw [if_neg (by rw [h g e]; exact Bool.false_ne_true)]
theorem pool_never {H : Hp} {σ : L2.St} {sv cv : V} {s nv0 : Ins} {c : Option Ins} {u : TS} {D : Ends} (s2 : σ[2]? = some (some sv)) (s3 : σ[3]? = some (some cv)) (hs : InsAt H sv s) (hc : OIns H cv c) (h1 : c = none → nv0 = s) (h2 : ∀ x, c = some x → nv0 = nexti x)
    (r : ∀ vv H', Kp none H H' → InsAt H' vv nv0 → u D (σ.set 11 (some vv)) H') : tSeq (tAsg (tIf (tB (tIsN (tVar 3))) (tVar 2) (tK (sp_next K) (tCons (tVar 3) tNil))) (gName 11)) u D σ H := by
  refine rd_sa ?_
  refine ⟨_, s3, _, rfl, ?_⟩
  rw [OIns.isN hc]
  refine itB (fun z => ⟨_, s2, ?_⟩) (fun z => ?_)
  · exact r _ _ (Kp.refl _ _) (by rw [h1 (of_decide_eq_true z)]; exact hs)
  · obtain ⟨x, hx⟩ := Option.ne_none_iff_exists'.mp (of_decide_eq_false z)
    refine ⟨_, s3, x, by rw [hx] at hc; exact hc, fun v H4 k4 hv => ?_⟩
    exact r _ _ k4 (by rw [h2 x hx]; exact hv.ins)
theorem m_pool_parts (T : Txt K mg) {k d : Nat} (hk : 1 ≤ k) (M : Met P w K mg base k "end" (He.ma K (CF K) "end") ["self", "place", "start", "cancel"] (sp_end P w K d)) : Met P w K mg base (k + 1) "_pool_parts" (He.ma K (CF K) "_pool_parts") ["self", "node", "start", "cancel"] (sp_poolParts P w K (d + 1)) :=
  met_F_pool_parts T (okF T.d_F_pool_parts sc_F_pool_parts (fun vs H Q E h => match vs, h with | [.ref _, _, _, _], _ => rfl) fun cdv A outer s0 H vs Q E hr h => match vs, h with
  | [.ref p, nv, sv, cv], h => by
    obtain ⟨N, t, m, kd, i, n, ps, s, c, F, hn, hu, hd, hs, hc, ho, hm, r⟩ := h
    have hwu := subs_wf t F.wf _ (List.mem_of_getElem? hu)
    have hlen6 : ps.length ≤ 6 := hwu.2.2.1
    have G : ∀ b ∈ denL ps, Good b := good_denL ps hwu.2.2.2
    refine ⟨_, (pss_cons (ps_set (i := 4) sc_F_pool_parts.nd rfl (by first | exact Or.inl rfl | exact Or.inr rfl) (pe_lst pa_nil)) (pss_cons (ps_set (i := 5) sc_F_pool_parts.nd rfl (by first | exact Or.inl rfl | exact Or.inr rfl) (pe_lst pa_nil)) (pss_cons (ps_for PassesOwn.never rfl (pi_enumT (by rfl) T.z_enumerate (pa_cons (pe_k (k_parts_of T) hr (pa_cons (pv 1) pa_nil) (by omega)) pa_nil)) (pg_tup (by rfl) (pgs_cons (pg_name (i := 6) sc_F_pool_parts.nd rfl (by first | exact Or.inl rfl | exact Or.inr rfl)) (pgs_cons (pg_name (i := 7) sc_F_pool_parts.nd rfl (by first | exact Or.inl rfl | exact Or.inr rfl)) pgs_nil))) (pss_cons (ps_set (i := 8) sc_F_pool_parts.nd rfl (by first | exact Or.inl rfl | exact Or.inr rfl) (pe_callB (cr_sortI) (by rfl) T.z_sorted (by decide +kernel) (pa_cons (pe_lc (own := [("end", 9)]) (g := (gName 9)) (tt := (tTest (tOp rEq (tOp (rIxD K) (tVar 9) (tC (.int 1))) (tC (.str "completed"))))) (te := (tOp (rIxD K) (tVar 9) (tC (.int 0)))) rfl sc_F_pool_parts.nd (pi_list (pv 4)) (blkOk_by (N := ["self", "node", "start", "cancel", "ends", "parts", "part", "place", "done", "end", "begin", "never"]) (sc := defScope s_F_pool_parts) (by decide +kernel)) (fun _ _ _ _ _ => (pg_name (i := 9) sc_F_pool_parts.nd rfl (by first | exact Or.inl rfl | exact Or.inr rfl))) (fun _ _ _ _ _ => (pts_one (pt_cmpR (op_eq) (pe_ix ix_dd (pv 9) pe_int (fun _ _ => rfl)) pe_str (nomark _)))) (fun _ _ _ _ _ => (pe_ix ix_dd (pv 9) pe_int (fun _ _ => rfl)))) pa_nil))) (pss_cons (ps_set (i := 10) sc_F_pool_parts.nd rfl (by first | exact Or.inl rfl | exact Or.inr rfl) pe_non) (pss_cons (ps_if (pt_cmpR (op_lt) (pv 6) (pe_ix ix_dd (pv 1) pe_int (fun _ _ => rfl)) (nomark _)) (pss_one (ps_set (i := 10) sc_F_pool_parts.nd rfl (by first | exact Or.inl rfl | exact Or.inr rfl) (pv 2))) (pss_one (ps_if (pt_cmpR (op_lt) (pe_op op_sub (pv 6) (pe_ix ix_dd (pv 1) pe_int (fun _ _ => rfl))) (pe_callB (call_lenQ) (by rfl) T.z_len (by decide +kernel) (pa_cons (pv 8) pa_nil)) (nomark _)) (pss_one (ps_set (i := 10) sc_F_pool_parts.nd rfl (by first | exact Or.inl rfl | exact Or.inr rfl) (pe_ix ix_list (pv 8) (pe_op op_sub (pv 6) (pe_ix ix_dd (pv 1) pe_int (fun _ _ => rfl))) (fun _ _ => rfl)))) pss_nil))) (pss_one (ps_if (PW.pt (pw_and (pt_cmp (pc_notN (pv 10)) rfl) (pw_and1 (pt_val (pe_k (k_not_after T) hr (pa_cons (pv 10) (pa_cons (pv 3) pa_nil)) (by omega)))))) (pss_cons (ps_expr (pe_bm PySem.F.plainAttrs_list PySem.F.slot_list_append PySem.F.type_list_append mt_append (pv 4) (pa_cons (pe_m M T.cl hr (pv 0) (pa_cons (pv 7) (pa_cons (pv 10) (pa_cons (pv 3) pa_nil))) (by omega)) pa_nil))) (pss_one (ps_expr (pe_bm PySem.F.plainAttrs_list PySem.F.slot_list_append PySem.F.type_list_append mt_append (pv 5) (pa_cons (pe_tup (pa_cons pe_int (pa_cons (pv 6) (pa_cons (pv 7) (pa_cons (pv 10) (pa_cons (pv 3) (pa_cons pe_non pa_nil))))))) pa_nil))))) (pss_cons (ps_set (i := 11) sc_F_pool_parts.nd rfl (by first | exact Or.inl rfl | exact Or.inr rfl) (pe_ifExp (pt_cmp (pc_isN (pv 3)) rfl) (pv 2) (pe_k (k_next_instant T) hr (pa_cons (pv 3) pa_nil) (by omega)))) (pss_cons (ps_expr (pe_bm PySem.F.plainAttrs_list PySem.F.slot_list_append PySem.F.type_list_append mt_append (pv 4) (pa_cons (pe_op op_catC (pe_tup (pa_cons (pv 11) pa_nil)) (pe_glob (v := .ref (He.ga K "CANCELLED")) rfl T.gX rfl)) pa_nil))) (pss_one (ps_expr (pe_bm PySem.F.plainAttrs_list PySem.F.slot_list_append PySem.F.type_list_append mt_append (pv 5) (pa_cons (pe_tup (pa_cons pe_int (pa_cons (pv 6) (pa_cons (pv 7) (pa_cons pe_non (pa_cons (pv 3) (pa_cons (pv 11) pa_nil))))))) pa_nil)))))))))))) (pss_one (ps_ret (pe_tup (pa_cons (pv 4) (pa_cons (pv 5) pa_nil)))))))), ?_⟩
    refine rd_sa ?_
    refine ⟨by show 0 ≤ sizeLine; decide, fun le hle => ?_⟩
    refine rd_sa ?_
    refine ⟨by show 0 ≤ sizeLine; decide, fun lp hlp => ?_⟩
    have k1 : Kp none H (upd H le (.lst [])) := Kp.new hle
    have k2 : Kp none (upd H le (.lst [])) (upd (upd H le (.lst [])) lp (.lst [])) := Kp.new hlp
    have hlp0 : H lp = none := k1.free0 hlp
    have hne : lp ≠ le := fun e => by rw [e, upd_same] at hlp; cases hlp
    have F1 := (F.addN hle []).addN hlp []
    have hnle : ¬ N le := not_tr F.tr (Kp.refl _ _) hle
    have hnlp : ¬ N lp := not_tr F.tr (Kp.refl _ _) hlp0
    refine rd_seq ?_
    refine ⟨_, rfl, _, _, hn.mk0 (k1.trans k2), fun bv H1 k3 hbv => ?_⟩
    obtain ⟨b, xs0, rfl, hb0, _⟩ := id hbv.sq
    refine ⟨b, _, rfl, hbv.idx, ?_⟩
    have k13 := (k1.trans k2).trans k3
    have F2 := F1.keep0 k3
    refine for_enumT (xs := iV (kidIdx i (Asf.T.pool n ps))) (fun j σ H' => ∃ rs ev pl x6 x7 x8 x9 x10 x11, σ = [some (.ref p), some nv, some sv, some cv, some (.ref le), some (.ref lp), x6, x7, x8, x9, x10, x11] ∧ Kp (some kd) H H' ∧ Fore P w K (addN (addN N le) lp) t (m + costL (ps.take j)) H' p kd ∧
      H' le = some (.lst ev) ∧ DDs K H' ev ((rs.map (endOr s)).map eEnd) ∧ H' lp = some (.lst pl) ∧ DDs K H' pl ((poolParts s c 0 rs).map (ePart (kidIdx i (Asf.T.pool n ps)))) ∧ rs.length = j ∧ DD K H' (.ref b) (eIdx (kidIdx i (Asf.T.pool n ps))) ∧
      poolRes n s c 0 [] (denL ps) = rs ++ poolRes n s c j (rs.flatMap fun r => comOf r.2) ((denL ps).drop j)) ?_ (fun j σ H' _ g => ?_) ?_ ?_
    · exact ⟨[], [], [], _, _, _, _, _, _, rfl, k13.weak, F2, k3 le _ (k2 le _ upd_same (by simp)) (by simp), .nil, k3 lp _ upd_same (by simp), .nil, rfl, hbv, rfl⟩
    · obtain ⟨_, _, _, _, _, _, _, _, _, _, _, _, _, _, _, _, _, g, _⟩ := g
      exact g.idx
    · rintro j x σ H' Tn hx ⟨rs, ev, pl, x6, x7, x8, x9, x10, x11, rfl, kk, FF, hev, hevd, hpl, hpld, hrl, hbb, heq⟩ hTn
      obtain ⟨nk, hkn, rfl⟩ := map_get hx
      obtain ⟨q, hq, hun, hgd⟩ := kid_of_idx hu hkn
      have hq : ps[j]? = some q := hq
      have hjl := (List.getElem?_eq_some_iff.mp hq).1
      have hdq : depth q ≤ d := by have := kid_depth (t := Asf.T.pool n ps) (p := q) (List.mem_of_getElem? hq); omega
      have hel := hevd.len
      rw [List.length_map, List.length_map, hrl] at hel
      have hgo := heq
      rw [drop_get (denL_get hq), poolRes] at hgo
      have kT : Kp none H' (upd H' Tn (.tup [.int (j : Nat), .int (nk : Int)])) := Kp.new hTn
      refine ⟨Tn, _, rfl, SqT.of upd_same, rfl, _, _, rfl, _, _, rfl, rfl, ?_⟩
      refine rd_sa ?_
      refine ⟨_, rfl, le, rfl, ⟨ev, SqL.of (kT le _ hev (by simp))⟩, fun D hD => ?_⟩
      have hevd' := hevd
      refine lcL (xs := ev) (fun z H2 => Gr K none (upd H' Tn (.tup [.int (j : Nat), .int (nk : Int)])) D ((((rs.map (endOr s)).take z).filter fun e => e.oc = .com).map fun e => eI e.en) H2) (Gr.start hD) (fun z H2 _ g => SqL.of (g.1 le _ (kT le _ hev (by simp)) (by simp))) ?_ ?_
      · intro z x H2 hx g
        obtain ⟨dd, hdd, hxd⟩ := hevd.of_get hx
        obtain ⟨e, he, rfl⟩ := map_get hdd
        have hx2 := hxd.mk0 (kT.trans g.1)
        refine ⟨rfl, ?_⟩
        refine ⟨_, rfl, _, _, _, hx2, rfl, rfl, fun y hy => ?_⟩
        cases hy.to_str
        refine ⟨rfl, _, rfl, ?_⟩
        rw [dCom, List.take_add_one, he, List.filter_append]
        by_cases qc : e.oc = .com
        · refine itT (decide_eq_true qc) ?_
          refine ⟨_, rfl, _, _, _, hx2, rfl, rfl, fun y hy => ?_⟩
          have e2 := g.add0 hD (Kp.refl _ _) hy (by
            rw [List.length_map]
            refine Nat.lt_of_le_of_lt (List.length_filter_le _ _) ?_
            rw [List.length_take]
            refine Nat.lt_of_le_of_lt (Nat.min_le_right _ _) ?_
            rw [List.length_map, hrl]
            show j < 16777216
            omega)
          simpa [qc] using e2
        · refine itF (decide_eq_false qc) ?_
          simpa [qc] using g
      intro H2 g
      rw [show (rs.map (endOr s)).take ev.length = rs.map (endOr s) by rw [hel, ← hrl, ← List.length_map (f := endOr s), List.take_length]] at g
      obtain ⟨k4, acc, g2, g3⟩ := g
      have g3 : DDs K H2 acc ((rs.flatMap fun r => comOf r.2).map eI) := by
        rw [← com_ends s rs, List.map_map]
        exact g3
      refine ⟨D, acc, _, rfl, SqL.of g2, DDs.insts g3, fun dn ys hdn hys => ?_⟩
      have k5 : Kp none H2 (upd H2 dn (.lst ys)) := Kp.new hdn
      have kA := (kT.trans k4).trans k5
      have hys := paired_imp (fun a b (h : InsAt H2 a b) => h.mk0 k5) hys
      have hdl : SqL K (upd H2 dn (.lst ys)) dn ys := SqL.of upd_same
      revert kA hys hdl
      generalize (upd H2 dn (.lst ys)) = H3
      intro kA hys hdl
      have tkH : TK H H3 := (F.tk kk).trans kA.tk0
      have hn3 := DD.mono tkH _ _ hn
      have hs3 := hs.mono tkH
      have hc3 := hc.mono tkH
      have k3' : Kp (some kd) H H3 := kk.trans kA.weak
      have FA := FF.keep0 kA
      have hevA := kA le _ hev (by simp)
      have hplA := kA lp _ hpl (by simp)
      have hevdA := hevd.mk0 kA
      have hpldA := hpld.mk0 kA
      have hbbA := hbb.mk0 kA
      have hcs := costL_take_succ ps hq
      have hle2 := costL_take_le ps (j + 1)
      have hlpl := hpldA.len
      have ppl : ∀ (rs : List (Option Ins × Option End)) (k : Nat), (poolParts s c k rs).length = rs.length := by
        intro rs
        induction rs with
        | nil => intro k; rfl
        | cons r rs ih => intro k; rw [poolParts, List.length_cons, List.length_cons, ih]
      rw [List.length_map, ppl, hrl] at hlpl
      refine rd_sa ?_
      show tSeq _ _ _ _ _
      refine rd_seq ?_
      refine pool_begin (comp := rs.flatMap fun r => comOf r.2) hn3 hs3 hdl hys (fun bgv hbg => ?_)
      refine rd_if ?_
      refine rd_andI (A := !decide (beginOf n s j (rs.flatMap fun r => comOf r.2) = none)) (B := beginOk c (beginOf n s j (rs.flatMap fun r => comOf r.2))) (fun R z => ⟨_, rfl, _, rfl, ?_⟩) (fun hA R z => ?_) ?_
      · rw [OIns.isN hbg]
        exact z
      · cases hb : beginOf n s j (rs.flatMap fun r => comOf r.2) with
        | none => rw [hb] at hA; cases hA
        | some g =>
          rw [hb] at z hbg
          exact ⟨_, rfl, _, rfl, g, c, hbg, hc3, _, rfl, z⟩
      generalize hB : beginOf n s j (rs.flatMap fun r => comOf r.2) = bg at hbg
      by_cases hyes : ∃ g, bg = some g ∧ na g c = true
      · obtain ⟨g, rfl, hna⟩ := hyes
        have e1 := poolOne_yes (b := den q) hB hna
        rw [e1] at hgo
        refine itT (by show (!decide (some g = none) && na g c) = true; rw [hna]; simp) ?_
        have hbg : InsAt H3 bgv g := hbg
        obtain ⟨dx4, vp4, hob4, hp4⟩ := FA.ob
        refine ⟨_, rfl, tyV_list hevA, _, rfl, p, dx4, _, rfl, hob4, rfl, _, rfl, _, rfl, _, rfl, ?_⟩
        refine ⟨addN (addN N le) lp, t, _, kd, nk, q, g, c, FA, rfl, hun, hdq, hbg, hc3, na_not hna, by omega, fun env H5 k6 F5 henv => ?_⟩
        have tk5 := FA.tk k6
        have hev5 := k6 le _ hevA (FA.ne_new_l hevA)
        have hpl5 := k6 lp _ hplA (FA.ne_new_l hplA)
        refine ⟨le, ev, _, rfl, rfl, hev5, by show ev.length < 16777216; omega, ?_⟩
        have F6 := F5.put (D := le) (.inr (.inl rfl)) (ev ++ [env])
        have tk6 : TK H5 (upd H5 le (.lst (ev ++ [env]))) := TK.put hev5 (fun xs z => by cases z)
        have kH6 : Kp (some kd) H (upd H5 le (.lst (ev ++ [env]))) := fun b o hb hn => by
          rw [upd_ne (ne_of_none hb hle)]
          exact (k3'.trans k6) b o hb hn
        have hpl6 : (upd H5 le (.lst (ev ++ [env]))) lp = some (.lst pl) := by rw [upd_ne hne]; exact hpl5
        have tk36 := tk5.trans tk6
        have hevd6 := (DDs.mono tk36 _ _ hevdA).app (.cons (DD.mono tk6 _ _ henv) .nil)
        have hpld6 := DDs.mono tk36 _ _ hpldA
        refine ⟨_, rfl, tyV_list hpl6, _, rfl, _, rfl, _, rfl, _, rfl, by show 6 ≤ sizeLine; decide, fun a ha => ?_⟩
        obtain ⟨h1, F7, k7, tk7, h5, hp5⟩ := app_part F6 hlp0 kH6 hpl6 hpld6 ha (.cons (.int 0) (.cons (.int (j : Nat)) (.cons (.int (nk : Int)) (.cons ((hbg.mono tk36).dd) (.cons ((hc3.mono tk36).dd) (.cons .non .nil))))))
        refine ⟨lp, _, _, rfl, rfl, h1, by show pl.length < 16777216; omega, ?_⟩
        have kA7 : Kp none (upd H5 le (.lst (ev ++ [env]))) (upd (upd H5 le (.lst (ev ++ [env]))) a (.tup [.int 0, .int (j : Nat), .int (nk : Int), bgv, cv, .non])) := Kp.new ha
        refine ⟨rs ++ [(some g, some ((den q).fin g c))], ev ++ [env], _, _, _, _, _, _, _, rfl, k7, F7.le (by omega), ?_, ?_, h5, ?_, by rw [List.length_append, hrl]; rfl, DD.mono (tk36.trans tk7) _ _ hbbA, ?_⟩
        · rw [upd_ne (Ne.symm hne)]
          exact kA7 le _ upd_same (by simp)
        · rw [List.map_append, List.map_append]
          exact DDs.mono tk7 _ _ hevd6
        · rw [poolParts_snoc, List.map_append, Nat.zero_add, hrl]
          have ee : [poolPart s c j (some g, some ((den q).fin g c))].map (ePart (kidIdx i (Asf.T.pool n ps))) = [.tuple [.int 0, .int (j : Nat), .int (nk : Int), eI g, eO c, .none]] := by
            show [ePart _ _] = _
            unfold poolPart ePart
            dsimp only
            rw [hgd]
            rfl
          rw [ee]
          exact hp5
        · rw [hgo, List.append_assoc, List.flatMap_append]
          show _ = rs ++ ((some g, some ((den q).fin g c)) :: poolRes n s c (j + 1) (List.flatMap (fun r => comOf r.2) rs ++ (comOf (some ((den q).fin g c)) ++ [])) (List.drop (j + 1) (denL ps)))
          rw [List.append_nil]
      · have e1 := poolOne_no (b := den q) (c := c) (n := n) (s := s) (k := j) (comp := rs.flatMap fun r => comOf r.2) (fun g hg => by
          cases hz : na g c with
          | false => rfl
          | true => exact absurd ⟨g, hB.symm.trans hg, hz⟩ hyes)
        rw [e1] at hgo
        have hA0 : (!decide (bg = none) && beginOk c bg) = false := by
          cases bg with
          | none => rfl
          | some g =>
            cases hz : na g c with
            | false => show (!decide (some g = none) && na g c) = false; rw [hz]; simp
            | true => exact absurd ⟨g, rfl, hz⟩ hyes
        refine itF hA0 ?_
        have never : ∃ nv0 : Ins, endOr s ((none : Option Ins), c.map fun x => (⟨nexti x, .can, []⟩ : End)) = ⟨nv0, .can, []⟩ ∧ (c = none → nv0 = s) ∧ ∀ x, c = some x → nv0 = nexti x := by
          cases c with
          | none => exact ⟨s, rfl, (fun _ => rfl), (fun x z => nomatch z)⟩
          | some x => exact ⟨nexti x, rfl, (fun z => nomatch z), (fun y z => by injection z with z; rw [z])⟩
        obtain ⟨nv0, hn0, hn1, hn2⟩ := never
        refine pool_never (nv0 := nv0) (by rfl) (by rfl) hs3 hc3 hn1 hn2 (fun vv H4 kx hvv => ?_)
        · skip
          have hev4 := kx le _ hevA (by simp)
          have hpl4 := kx lp _ hplA (by simp)
          refine ⟨_, rfl, tyV_list hev4, _, rfl, by show 1 ≤ sizeLine; decide, fun u hu' => ?_⟩
          have ku : Kp none H4 (upd H4 u (.tup [vv])) := Kp.new hu'
          refine ⟨_, _, (new_dd hu' (.cons hvv.dd .nil)).dt, T.cT.dt _, by simp, by simp, by show 1 + 2 ≤ sizeLine; decide, fun env H5 k6 henv => ?_⟩
          have k45 := ku.trans k6
          have k35 := kx.trans k45
          have hev5 := k45 le _ hev4 (by simp)
          have hpl5 := k45 lp _ hpl4 (by simp)
          refine ⟨le, ev, _, rfl, rfl, hev5, by show ev.length < 16777216; omega, ?_⟩
          have F6 := (FA.keep0 k35).put (D := le) (.inr (.inl rfl)) (ev ++ [env])
          have tk6 : TK H5 (upd H5 le (.lst (ev ++ [env]))) := TK.put hev5 (fun xs z => by cases z)
          have kH6 : Kp (some kd) H (upd H5 le (.lst (ev ++ [env]))) := fun b o hb hn => by
            rw [upd_ne (ne_of_none hb hle)]
            exact (k3'.trans k35.weak) b o hb hn
          have hpl6 : (upd H5 le (.lst (ev ++ [env]))) lp = some (.lst pl) := by rw [upd_ne hne]; exact hpl5
          have tk36 := k35.tk0.trans tk6
          have hevd6 := (DDs.mono tk36 _ _ hevdA).app (.cons (DD.mono tk6 _ _ henv) .nil)
          have hpld6 := DDs.mono tk36 _ _ hpldA
          have hvv6 := (hvv.mk0 k45).mono tk6
          refine ⟨_, rfl, tyV_list hpl6, _, rfl, _, rfl, _, rfl, _, rfl, by show 6 ≤ sizeLine; decide, fun a ha => ?_⟩
          obtain ⟨h1, F7, k7, tk7, h5, hp5⟩ := app_part F6 hlp0 kH6 hpl6 hpld6 ha (.cons (.int 0) (.cons (.int (j : Nat)) (.cons (.int (nk : Int)) (.cons .non (.cons ((hc3.mono tk36).dd) (.cons hvv6.dd .nil))))))
          refine ⟨lp, _, _, rfl, rfl, h1, by show pl.length < 16777216; omega, ?_⟩
          have kA7 : Kp none (upd H5 le (.lst (ev ++ [env]))) (upd (upd H5 le (.lst (ev ++ [env]))) a (.tup [.int 0, .int (j : Nat), .int (nk : Int), .non, cv, vv])) := Kp.new ha
          refine ⟨rs ++ [(none, c.map fun x => ⟨nexti x, .can, []⟩)], ev ++ [env], _, _, _, _, _, _, _, rfl, k7, F7.le (by omega), ?_, ?_, h5, ?_, by rw [List.length_append, hrl]; rfl, DD.mono (tk36.trans tk7) _ _ hbbA, ?_⟩
          · rw [upd_ne (Ne.symm hne)]
            exact kA7 le _ upd_same (by simp)
          · rw [List.map_append, List.map_append]
            have e9 : List.map eEnd (List.map (endOr s) [((none : Option Ins), c.map fun x => (⟨nexti x, .can, []⟩ : End))]) = [eEnd ⟨nv0, .can, []⟩] := by
              show [eEnd (endOr s _)] = _
              rw [hn0]
            rw [e9]
            exact DDs.mono tk7 _ _ hevd6
          · rw [poolParts_snoc, List.map_append, Nat.zero_add, hrl]
            have ee : [poolPart s c j ((none : Option Ins), c.map fun x => (⟨nexti x, .can, []⟩ : End))].map (ePart (kidIdx i (Asf.T.pool n ps))) = [.tuple [.int 0, .int (j : Nat), .int (nk : Int), .none, eO c, eI nv0]] := by
              show [ePart _ _] = _
              unfold poolPart ePart
              dsimp only
              rw [hgd, hn0]
              rfl
            rw [ee]
            exact hp5
          · rw [hgo, List.append_assoc, List.flatMap_append]
            show _ = rs ++ (((none : Option Ins), c.map fun x => (⟨nexti x, .can, []⟩ : End)) :: poolRes n s c (j + 1) (List.flatMap (fun r => comOf r.2) rs ++ (comOf (c.map fun x => (⟨nexti x, .can, []⟩ : End)) ++ [])) (List.drop (j + 1) (denL ps)))
            rw [List.append_nil]
    · rintro σ H' ⟨rs, ev, pl, x6, x7, x8, x9, x10, x11, rfl, kk, FF, hev, hevd, hpl, hpld, hrl, hbb, heq⟩
      have e1 : (denL ps).drop (iV (kidIdx i (Asf.T.pool n ps))).length = [] := by
        rw [List.length_map, kidIdx_length, denL_eq]
        exact List.drop_of_length_le (by rw [List.length_map]; exact Nat.le_refl _)
      rw [e1, poolRes, List.append_nil] at heq
      rw [heq] at r
      refine ⟨_, rfl, _, rfl, by show 2 ≤ sizeLine; decide, fun a ha => ?_⟩
      have ka : Kp none H' (upd H' a (.tup [.ref le, .ref lp])) := Kp.new ha
      refine r _ _ (kk.trans ka.weak) (((FF.sub fun _ z => .inr (.inr z)).le (Nat.add_le_add_left (costL_take_le ps _) m)).keep0 ka) ?_
      exact ⟨a, le, lp, ev, pl, rfl, upd_same, ka le _ hev (by simp), hevd.mk0 ka, ka lp _ hpl (by simp), hpld.mk0 ka, hnle, hnlp⟩)
end
end Asf
set_option Elab.async false
set_option linter.all false
set_option maxRecDepth 100000
set_option maxHeartbeats 4000000
namespace Asf
open PySem PySem.Spec PyProof.Rows L2
theorem pool_lim_ge {n : Int} {bs : List Beh} {s : Ins} {c : Option Ins} (G : ∀ b ∈ bs, Good b) (h : OLe s c) : OLe s (poolLim n bs s c) := by
  unfold poolLim
  refine ole_earliest h ?_
  cases e : firstOf ((poolRes n s c 0 [] bs).map (endOr s)) .fai with
  | none => trivial
  | some x =>
    obtain ⟨⟨y, hy, _, rfl⟩, _⟩ := firstOf_some e
    obtain ⟨r, hr, rfl⟩ := List.mem_map.mp hy
    have ok := poolRes_ok h bs 0 [] G (fun x hx => by cases hx) r hr
    cases hr2 : r.2 with
    | none =>
      unfold endOr
      rw [hr2]
      exact Le.refl _
    | some z =>
      unfold endOr
      rw [hr2]
      exact (ok.1 z hr2).ge
section
variable {P : Program} {w : World} {K : PySem.W.Frag} {mg : Str → Option Value} {base : Heap}
theorem PPAt.ends {N : Addr → Prop} {H : Hp} {v : V} {es : List End} {prt : List Part} {ki : List Nat} (h : PPAt K N H v es prt ki) (hl : es.length ≤ 1000) : ∃ a x y, v = .ref a ∧ H a = some (.tup [x, y]) ∧ EndsAt K H x es := by
  obtain ⟨a, le, lp, ev, pv, h1, h2, h3, h4, _⟩ := h
  exact ⟨a, _, _, h1, h2, le, ev, rfl, SqL.of h3, h4, hl⟩
theorem m_pool (T : Txt K mg) {k d : Nat} (hk : 2 ≤ k) (M : Met P w K mg base k "_pool_parts" (He.ma K (CF K) "_pool_parts") ["self", "node", "start", "cancel"] (sp_poolParts P w K d)) : Met P w K mg base (k + 1) "_pool" (He.ma K (CF K) "_pool") ["self", "node", "start", "cancel"] (sp_node P w K d isPool) :=
  met_F_pool T (okF T.d_F_pool sc_F_pool (fun vs H Q E h => match vs, h with | [.ref _, _, _, _], _ => rfl) fun cdv A outer s0 H vs Q E hr h => match vs, h with
  | [.ref p, nv, sv, cv], h => by
    obtain ⟨N, t, m, kd, i, u, s, c, F, hn, sel, hu, hd, hs, hc, ho, hm, r⟩ := h
    obtain ⟨n, ps, rfl⟩ : ∃ n ps, u = Asf.T.pool n ps := by cases u <;> first | exact ⟨_, _, rfl⟩ | exact sel.elim
    have hcq : cost (Asf.T.pool n ps) = 2 * costL ps + 1 := rfl
    have hwu := subs_wf t F.wf _ (List.mem_of_getElem? hu)
    have hlen6 : ps.length ≤ 6 := hwu.2.2.1
    have G : ∀ b ∈ denL ps, Good b := good_denL ps hwu.2.2.2
    have pl : ∀ (bs : List Beh) (c : Option Ins) (k : Nat) (comp : List Ins), (poolRes n s c k comp bs).length = bs.length := by
      intro bs c
      induction bs with
      | nil => intro k comp; rfl
      | cons b bs ih => intro k comp; rw [poolRes, List.length_cons, List.length_cons, ih]
    have el : ∀ c, ((poolRes n s c 0 [] (denL ps)).map (endOr s)).length ≤ 1000 := fun c => by
      rw [List.length_map, pl, denL_eq, List.length_map]
      omega
    rw [crs_pool] at r
    have er : poolCrs n (denL ps) s c = (together s c ((poolRes n s (poolLim n (denL ps) s c) 0 [] (denL ps)).map (endOr s)) ((poolRes n s (poolLim n (denL ps) s c) 0 [] (denL ps)).map (endOr s)) (allValues ((poolRes n s (poolLim n (denL ps) s c) 0 [] (denL ps)).map (endOr s))),
      poolParts s (poolLim n (denL ps) s c) 0 (poolRes n s (poolLim n (denL ps) s c) 0 [] (denL ps))) := rfl
    rw [er] at r
    refine ⟨_, (pss_cons (ps_set (i := 4) sc_F_pool.nd rfl (by first | exact Or.inl rfl | exact Or.inr rfl) (pe_k (k_earliest T) hr (pa_cons (pv 3) (pa_cons (pe_k (k_first T) hr (pa_cons (pe_ix ix_tup (pe_m M T.cl hr (pv 0) (pa_cons (pv 1) (pa_cons (pv 2) (pa_cons (pv 3) pa_nil))) (by omega)) pe_int (fun _ _ => rfl)) (pa_cons pe_str pa_nil)) (by omega)) pa_nil)) (by omega))) (pss_cons (ps_asg (pe_m M T.cl hr (pv 0) (pa_cons (pv 1) (pa_cons (pv 2) (pa_cons (pv 4) pa_nil))) (by omega)) (pg_tup (by rfl) (pgs_cons (pg_name (i := 5) sc_F_pool.nd rfl (by first | exact Or.inl rfl | exact Or.inr rfl)) (pgs_cons (pg_name (i := 6) sc_F_pool.nd rfl (by first | exact Or.inl rfl | exact Or.inr rfl)) pgs_nil)))) (pss_one (ps_ret (pe_tup (pa_cons (pe_k (k_together T) hr (pa_cons (pv 2) (pa_cons (pv 3) (pa_cons (pv 5) (pa_cons (pv 5) (pa_cons (pe_k (k_all_values T) hr (pa_cons (pv 5) pa_nil) (by omega)) pa_nil))))) (by omega)) (pa_cons (pv 6) pa_nil))))))), ?_⟩
    obtain ⟨dx, vp, hob, hp⟩ := F.ob
    refine rd_sa ?_
    refine ⟨_, rfl, _, rfl, p, dx, _, rfl, hob, rfl, _, rfl, _, rfl, _, rfl, ?_⟩
    refine ⟨N, t, m, kd, i, n, ps, s, c, F, hn, hu, hd, hs, hc, ho, by omega, fun v H1 k1 F1 hv => ?_⟩
    obtain ⟨a, x, y, rfl, ha, hx⟩ := hv.ends (el c)
    refine ⟨a, _, _, _, rfl, rfl, SqT.of ha, rfl, ?_⟩
    refine ⟨_, .fai, hx, rfl, fun fv H2 k2 hf => ?_⟩
    have tk1 := F.tk k1
    have hc2 := (hc.mono tk1).mk0 k2
    have hs2 := (hs.mono tk1).mk0 k2
    have hn2 := (DD.mono tk1 _ _ hn).mk0 k2
    have F2 := F1.keep0 k2
    refine ⟨c, _, hc2, hf, fun lv hlv => ?_⟩
    have hlv : OIns H2 lv (poolLim n (denL ps) s c) := hlv
    have hlim : OLe s (poolLim n (denL ps) s c) := pool_lim_ge G ho
    generalize poolLim n (denL ps) s c = lim at hlv hlim r
    obtain ⟨dx2, vp2, hob2, hp2⟩ := F2.ob
    refine rd_seq ?_
    refine ⟨_, rfl, p, dx2, _, rfl, hob2, rfl, _, rfl, _, rfl, _, rfl, ?_⟩
    refine ⟨N, t, _, kd, i, n, ps, s, lim, F2, hn2, hu, hd, hs2, hlv, hlim, by omega, fun v H3 k3 F3 hv => ?_⟩
    obtain ⟨a3, le, lp, ev, pv, rfl, h2, h3, h4, h5, h6, h7, h8⟩ := hv
    have tk3 := F2.tk k3
    have hc3 := hc2.mono tk3
    have hs3 := hs2.mono tk3
    have hends : EndsAt K H3 (.ref le) ((poolRes n s lim 0 [] (denL ps)).map (endOr s)) := ⟨le, ev, rfl, SqL.of h3, h4, el lim⟩
    have hN : resN ((poolRes n s lim 0 [] (denL ps)).map (endOr s)) ≤ 1000000 := by
      have h1 := pool_le ps (fun q hq s c => res_le q s c) n s lim 0 []
      have h2 := subs_size hu
      have h3 := F.sz
      have h4 : size (Asf.T.pool n ps) = sizeL ps + 1 := rfl
      omega
    refine ⟨a3, _, rfl, SqT.of h2, rfl, _, _, rfl, _, _, rfl, rfl, ?_⟩
    refine ⟨_, rfl, _, rfl, _, rfl, _, rfl, _, rfl, _, hends, hN, fun tv H4 k4 htv => ?_⟩
    refine ⟨s, c, _, _, _, hs3.mk0 k4, hc3.mk0 k4, hends.mk0 k4, hends.mk0 k4, htv, hN, fun ev2 H5 k5 hev => ⟨_, rfl, by show 2 ≤ sizeLine; decide, ?_⟩⟩
    have k45 := k4.trans k5
    exact retC r (((k1.trans k2.weak).trans k3).trans k45.weak) ((F3.keep0 k45).le (by rw [hcq]; omega)) hev (k45 lp _ h5 (by simp)) (h6.mk0 k45) h8)
/-! ### all together -/
theorem m_end0 (T : Txt K mg) : Met P w K mg base 5 "end" (He.ma K (CF K) "end") ["self", "place", "start", "cancel"] (sp_end P w K 0) :=
  met_F_end T (okF T.d_F_end sc_F_end (fun vs H Q E h => match vs, h with | [.ref _, .int _, _, _], _ => rfl) fun cdv A outer s0 H vs Q E hr h => match vs, h with
  | [.ref p, .int pl, sv, cv], h => by
    obtain ⟨N, t, m, kd, i, u, s, c, F, rfl, hu, hd, _⟩ := h
    have := depth_pos u
    omega)
theorem m_course_of (T : Txt K mg) (d : Nat) (M : Met P w K mg base (5 * d + 5) "end" (He.ma K (CF K) "end") ["self", "place", "start", "cancel"] (sp_end P w K d)) : Met P w K mg base (5 * d + 9) "course" (He.ma K (CF K) "course") ["self", "place", "start", "cancel"] (sp_course P w K (d + 1)) := by
  have Mt := (m_timeout T (k := 5 * d + 5) (by omega) M).lift (k' := 5 * d + 7) (by omega)
  have Ms := (m_sequence T (k := 5 * d + 5) (by omega) M).lift (k' := 5 * d + 7) (by omega)
  have Mo := (m_orelse T (k := 5 * d + 5) (by omega) M).lift (k' := 5 * d + 7) (by omega)
  have Mr := (m_retry T (k := 5 * d + 5) (by omega) M).lift (k' := 5 * d + 7) (by omega)
  have Mc := (m_scope T (k := 5 * d + 5) (by omega) M).lift (k' := 5 * d + 7) (by omega)
  have Mp := (m_pool T (k := 5 * d + 6) (by omega) (m_pool_parts T (k := 5 * d + 5) (by omega) M))
  exact m_course T (m_find T (k := 5 * d + 7) (by omega) Mt Ms Mo Mr Mp Mc)
theorem m_end_all (T : Txt K mg) : ∀ d : Nat, Met P w K mg base (5 * d + 5) "end" (He.ma K (CF K) "end") ["self", "place", "start", "cancel"] (sp_end P w K d)
  | 0 => m_end0 T
  | d + 1 => m_end T (m_course_of T d (m_end_all T d))
end
end Asf
set_option linter.all false
namespace Asf
/-! ### the parts of a course: in order, and what they cost -/
def PartOk (ts : List T) (p : Part) : Prop := (∃ q, ts[p.kid]? = some q) ∧ match p.beg with
  | some g => OLe g p.lim
  | none => ∃ x, p.nev = some x
def pc (ts : List T) (p : Part) : Nat := match ts[p.kid]? with
  | some q => tcost q
  | none => 0
def pcost (ts : List T) (prt : List Part) : Nat := (prt.map (pc ts)).sum
theorem pcost_nil (ts : List T) : pcost ts [] = 0 := rfl
theorem pcost_cons (ts : List T) (p : Part) (ps : List Part) : pcost ts (p :: ps) = pc ts p + pcost ts ps := by simp [pcost]
theorem pcost_append (ts : List T) (as bs : List Part) : pcost ts (as ++ bs) = pcost ts as + pcost ts bs := by simp [pcost]
theorem tcostL_append : ∀ as bs : List T, tcostL (as ++ bs) = tcostL as + tcostL bs
  | [], _ => by simp [tcostL]
  | a :: as, bs => by simp [tcostL, tcostL_append as bs, Nat.add_assoc]
theorem tcostL_drop {ps : List T} {i : Nat} {p : T} (h : ps[i]? = some p) : tcostL (ps.drop i) = tcost p + tcostL (ps.drop (i + 1)) := by
  have hi := (List.getElem?_eq_some_iff.mp h).1
  rw [List.drop_eq_getElem_cons hi, (List.getElem?_eq_some_iff.mp h).2]
  rfl
theorem tcostL_drop_le (ps : List T) (i : Nat) : tcostL (ps.drop i) ≤ tcostL ps := by
  have h := tcostL_append (ps.take i) (ps.drop i)
  rw [List.take_append_drop] at h
  omega
/-- parts whose kids are k, k + 1, .. -/
theorem run_parts {ts : List T} : ∀ (prt : List Part) (k : Nat), (∀ (j : Nat) p, prt[j]? = some p → p.kid = k + j) → k + prt.length ≤ ts.length → pcost ts prt ≤ tcostL (ts.drop k)
  | [], k, _, _ => by rw [pcost_nil]; exact Nat.zero_le _
  | p :: prt, k, h, hl => by
    have h0 : p.kid = k := h 0 p rfl
    rw [List.length_cons] at hl
    have ih := run_parts (ts := ts) prt (k + 1) (fun j q hq => by have := h (j + 1) q (by simpa using hq); omega) (by omega)
    have hk : ts[k]? = some ts[k] := by simp
    rw [pcost_cons, tcostL_drop hk]
    have : pc ts p = tcost ts[k] := by unfold pc; rw [h0, hk]
    omega
theorem scope_ok {ts : List T} {s : Ins} {lim : Option Ins} (ho : OLe s lim) : (∀ p ∈ scopeParts ts.length s lim, PartOk ts p) ∧ pcost ts (scopeParts ts.length s lim) ≤ tcostL ts := by
  refine ⟨fun p hp => ?_, ?_⟩
  · unfold scopeParts at hp
    obtain ⟨i, hi, rfl⟩ := List.mem_map.mp hp
    have hi := List.mem_range.mp hi
    exact ⟨⟨ts[i], by simp [hi]⟩, ho⟩
  · have h := run_parts (ts := ts) (scopeParts ts.length s lim) 0 (fun j p hp => ?_) (by unfold scopeParts; simp)
    · rw [List.drop_zero] at h
      exact h
    · unfold scopeParts at hp
      rw [List.getElem?_map] at hp
      obtain ⟨i, hi, rfl⟩ := Option.map_eq_some_iff.mp hp
      have : i = j := by
        have hj := (List.getElem?_eq_some_iff.mp hi)
        obtain ⟨hj1, hj2⟩ := hj
        rw [List.getElem_range] at hj2
        exact hj2.symm
      rw [this, Nat.zero_add]
theorem seq_kids (c : Option Ins) : ∀ (ts : List T) (k : Nat) (told : End), (∀ t ∈ ts, Good (den t)) → OLe told.en c → ((seqGo c k told (denL ts)).2.length ≤ ts.length) ∧ ∀ (j : Nat) p, (seqGo c k told (denL ts)).2[j]? = some p → p.kid = k + j ∧ ∃ g, p.beg = some g ∧ OLe g p.lim
  | [], k, told, _, ho => ⟨Nat.le_refl _, fun j p h => by simp [denL, seqGo] at h⟩
  | t :: ts, k, told, G, ho => by
    rw [denL, seqGo]
    have g0 := G t List.mem_cons_self
    split
    · rename_i hcom
      obtain ⟨h1, h2⟩ := seq_kids c ts (k + 1) ((den t).fin told.en c) (fun x hx => G x (List.mem_cons_of_mem _ hx)) (g0.com _ _ ho hcom)
      refine ⟨by simp only [List.length_cons]; omega, fun j p hp => ?_⟩
      cases j with
      | zero =>
        have e := Option.some.inj (show some _ = some p from hp)
        subst e
        exact ⟨rfl, _, rfl, ho⟩
      | succ j =>
        obtain ⟨q1, q2⟩ := h2 j p (by simpa using hp)
        exact ⟨by omega, q2⟩
    · refine ⟨by simp, fun j p hp => ?_⟩
      cases j with
      | zero =>
        have e := Option.some.inj (show some _ = some p from hp)
        subst e
        exact ⟨rfl, _, rfl, ho⟩
      | succ j => simp at hp
theorem pool_kids (n : Int) (s : Ins) (c : Option Ins) : ∀ (bs : List Beh) (k : Nat) (comp : List Ins), ((poolParts s c k (poolRes n s c k comp bs)).length = bs.length) ∧ ∀ (j : Nat) p, (poolParts s c k (poolRes n s c k comp bs))[j]? = some p → p.kid = k + j ∧ p.lim = c ∧ ((∃ g, p.beg = some g ∧ OLe g c) ∨ (p.beg = none ∧ ∃ x, p.nev = some x))
  | [], k, comp => ⟨rfl, fun j p h => by simp [poolRes, poolParts] at h⟩
  | b :: bs, k, comp => by
    rw [poolRes, poolParts]
    obtain ⟨h1, h2⟩ := pool_kids n s c bs (k + 1) (comp ++ comOf (poolOne n s c k comp b).2)
    refine ⟨by simp only [List.length_cons]; omega, fun j p hp => ?_⟩
    cases j with
    | zero =>
      have e := Option.some.inj (show some _ = some p from hp)
      subst e
      unfold poolOne
      cases hb : beginOf n s k comp with
      | none => exact ⟨rfl, rfl, .inr ⟨rfl, _, rfl⟩⟩
      | some g =>
        dsimp only
        cases hna : na g c with
        | true =>
          rw [if_pos rfl]
          exact ⟨rfl, rfl, .inl ⟨g, rfl, na_iff.mp hna⟩⟩
        | false =>
          rw [if_neg Bool.false_ne_true]
          exact ⟨rfl, rfl, .inr ⟨rfl, _, rfl⟩⟩
    | succ j =>
      obtain ⟨q1, q2, q3⟩ := h2 j p (by simpa using hp)
      exact ⟨by omega, q2, q3⟩
theorem retry_parts (t : T) (d : Int) (c : Option Ins) (G : Good (den t)) (hd : 0 ≤ d) : ∀ (left run : Nat) (s : Ins), OLe s c → (∀ p ∈ (retryGo (den t) d c left run s).2, PartOk [t] p) ∧ pcost [t] (retryGo (den t) d c left run s).2 ≤ (left + 1) * tcost t
  | 0, run, s, ho => by
    rw [retryGo]
    refine ⟨fun p hp => ?_, ?_⟩
    · rw [List.mem_singleton.mp hp]
      exact ⟨⟨t, rfl⟩, ho⟩
    · rw [pcost_cons, pcost_nil]
      show tcost t + 0 ≤ (0 + 1) * tcost t
      omega
  | left + 1, run, s, ho => by
    have one : ∀ e : End, (∀ p ∈ (e, [(⟨run, 0, 0, some s, c, none⟩ : Part)]).2, PartOk [t] p) ∧ pcost [t] (e, [(⟨run, 0, 0, some s, c, none⟩ : Part)]).2 ≤ (left + 1 + 1) * tcost t := fun e => by
      refine ⟨fun p hp => ?_, ?_⟩
      · rw [List.mem_singleton.mp hp]
        exact ⟨⟨t, rfl⟩, ho⟩
      · rw [pcost_cons, pcost_nil]
        have : 1 * tcost t ≤ (left + 1 + 1) * tcost t := Nat.mul_le_mul_right _ (by omega)
        show tcost t + 0 ≤ _
        omega
    rw [retryGo]
    split
    · split
      · split
        · rename_i h3
          obtain ⟨q1, q2⟩ := retry_parts t d c G hd left (run + 1) (later ((den t).fin s c).en d) (na_iff.mp h3)
          refine ⟨fun p hp => ?_, ?_⟩
          · rcases List.mem_cons.mp hp with rfl | hp
            · exact ⟨⟨t, rfl⟩, ho⟩
            · exact q1 p hp
          · rw [pcost_cons]
            have e : (left + 1 + 1) * tcost t = (left + 1) * tcost t + tcost t := by rw [Nat.add_mul (left + 1) 1, Nat.one_mul]
            rw [e]
            show tcost t + _ ≤ _
            omega
        · exact one _
      · exact one _
    · exact one _
theorem crs_job (d : Int) (g : Bool) (v cl : Int) (f : Option Int) (s : Ins) (c : Option Ins) : (den (.job d g v cl f)).crs s c = (jobEnd d g v cl f s c, []) := by rw [den]; rfl
theorem parts_ok {u : T} (w : WF u) {s : Ins} {c : Option Ins} (ho : OLe s c) : (∀ p ∈ ((den u).crs s c).2, PartOk (kidsT u) p) ∧ pcost (kidsT u) ((den u).crs s c).2 + cost u ≤ tcost u := by
  cases u with
  | job d g v cl f =>
    rw [crs_job]
    exact ⟨(fun p hp => nomatch hp), Nat.le_refl _⟩
  | scope k ps =>
    have G := good_denL ps w.2.2
    have h := scope_ok (ts := ps) (lim_ge G (k := k) ho)
    rw [crs_scope]
    have e : (scopeCrs k (denL ps) s c).2 = scopeParts ps.length s (limOf k c (e1 (denL ps) s c)) := by
      unfold scopeCrs
      rw [denL_eq, List.length_map]
      rfl
    rw [e]
    refine ⟨h.1, ?_⟩
    show pcost ps _ + (2 * costL ps + 1) ≤ 2 * costL ps + 1 + tcostL ps
    have := h.2
    omega
  | pool n ps =>
    rw [crs_pool]
    obtain ⟨h1, h2⟩ := pool_kids n s (poolLim n (denL ps) s c) (denL ps) 0 []
    have el : (denL ps).length = ps.length := by rw [denL_eq, List.length_map]
    refine ⟨fun p hp => ?_, ?_⟩
    · obtain ⟨j, hj, e⟩ := List.getElem_of_mem hp
      have hj' : (poolParts s (poolLim n (denL ps) s c) 0 (poolRes n s (poolLim n (denL ps) s c) 0 [] (denL ps)))[j]? = some p := by
        rw [List.getElem?_eq_some_iff]
        exact ⟨hj, e⟩
      obtain ⟨q1, q2, q3⟩ := h2 j p hj'
      have hjl : j < ps.length := by
        have hj2 : j < (poolParts s (poolLim n (denL ps) s c) 0 (poolRes n s (poolLim n (denL ps) s c) 0 [] (denL ps))).length := hj
        rw [h1, el] at hj2
        exact hj2
      refine ⟨⟨ps[j], ?_⟩, ?_⟩
      · show ps[p.kid]? = _
        rw [q1, Nat.zero_add]
        simp [hjl]
      · rcases q3 with ⟨g, e1, e2⟩ | ⟨e1, e2⟩
        · rw [e1]; dsimp only; rw [q2]; exact e2
        · rw [e1]; exact e2
    · have h := run_parts (ts := ps) (poolParts s (poolLim n (denL ps) s c) 0 (poolRes n s (poolLim n (denL ps) s c) 0 [] (denL ps))) 0 (fun j p hp => (h2 j p hp).1) (by rw [h1, el]; omega)
      rw [List.drop_zero] at h
      show pcost ps (poolParts s (poolLim n (denL ps) s c) 0 (poolRes n s (poolLim n (denL ps) s c) 0 [] (denL ps))) + (2 * costL ps + 1) ≤ 2 * costL ps + 1 + tcostL ps
      omega
  | seq ps =>
    rw [crs_seq]
    obtain ⟨h1, h2⟩ := seq_kids c ps 0 ⟨s, .com, []⟩ (fun t ht => good_den t (WFL_mem ps w.2.2 t ht)) ho
    refine ⟨fun p hp => ?_, ?_⟩
    · obtain ⟨j, hj, e⟩ := List.getElem_of_mem hp
      have hj' : (seqGo c 0 ⟨s, .com, []⟩ (denL ps)).2[j]? = some p := by
        rw [List.getElem?_eq_some_iff]
        exact ⟨hj, e⟩
      obtain ⟨q1, g, e1, e2⟩ := h2 j p hj'
      have hj2 : j < (seqGo c 0 ⟨s, .com, []⟩ (denL ps)).2.length := hj
      refine ⟨⟨ps[j]'(by omega), ?_⟩, ?_⟩
      · show ps[p.kid]? = _
        rw [q1, Nat.zero_add]
        simp
      · rw [e1]; exact e2
    · have h := run_parts (ts := ps) (seqGo c 0 ⟨s, .com, []⟩ (denL ps)).2 0 (fun j p hp => (h2 j p hp).1) (by omega)
      rw [List.drop_zero] at h
      show pcost ps (seqGo c 0 ⟨s, .com, []⟩ (denL ps)).2 + (costL ps + 1) ≤ costL ps + 1 + tcostL ps
      omega
  | timeout k q =>
    rw [crs_timeout]
    refine ⟨fun p hp => ?_, ?_⟩
    · have hp := List.mem_singleton.mp hp
      rw [hp]
      exact ⟨⟨q, rfl⟩, ole_earliest ho (le_later w.1.1)⟩
    · show pcost [q] [_] + (cost q + 1) ≤ cost q + 1 + tcost q
      rw [pcost_cons, pcost_nil]
      show tcost q + 0 + _ ≤ _
      omega
  | orelse q1 q2 =>
    rw [crs_orelse]
    unfold orelseCrs
    have hp1 : ∀ p ∈ [(⟨0, 0, 0, some s, c, none⟩ : Part)], PartOk [q1, q2] p := fun p hp => by
      rw [List.mem_singleton.mp hp]
      exact ⟨⟨q1, rfl⟩, ho⟩
    have c1 : pcost [q1, q2] [(⟨0, 0, 0, some s, c, none⟩ : Part)] + (cost q1 + cost q2 + 1) ≤ cost q1 + cost q2 + 1 + tcost q1 + tcost q2 := by
      rw [pcost_cons, pcost_nil]
      show tcost q1 + 0 + _ ≤ _
      omega
    split
    · split
      · rename_i h2
        refine ⟨fun p hp => ?_, ?_⟩
        · rcases List.mem_cons.mp hp with e | hp
          · exact hp1 p (by rw [e]; exact List.mem_cons_self)
          · rw [List.mem_singleton.mp hp]
            exact ⟨⟨q2, rfl⟩, na_iff.mp h2⟩
        · show pcost [q1, q2] [_, _] + (cost q1 + cost q2 + 1) ≤ cost q1 + cost q2 + 1 + tcost q1 + tcost q2
          rw [pcost_cons, pcost_cons, pcost_nil]
          show tcost q1 + (tcost q2 + 0) + _ ≤ _
          omega
      · exact ⟨hp1, c1⟩
    · exact ⟨hp1, c1⟩
  | retry n d q =>
    rw [crs_retry]
    obtain ⟨h1, h2⟩ := retry_parts q d c (good_den q w.2.2) w.2.1.1 n 0 s ho
    refine ⟨h1, ?_⟩
    show pcost [q] (retryGo (den q) d c n 0 s).2 + ((n + 1) * cost q + 1) ≤ (n + 1) * cost q + 1 + (n + 1) * tcost q
    omega
theorem den_tr (u : T) (pa : Path) (s : Ins) (c : Option Ins) : (den u).tr pa s c = ⟨pa, some s, ((den u).crs s c).1⟩ :: ((den u).crs s c).2.flatMap (rowOf (denL (kidsT u)) pa) := by
  cases u <;> rw [den] <;> rfl
theorem cost_pos0 (u : T) : 1 ≤ cost u := by cases u <;> simp [cost]
/-! ### bounds -/
theorem runsL_pos : ∀ {ts : List T}, ts ≠ [] → (∀ t ∈ ts, 1 ≤ runs t) → 1 ≤ runsL ts
  | [], h, _ => absurd rfl h
  | t :: ts, _, h => by
    have := h t List.mem_cons_self
    simp only [runsL]
    omega
theorem costL_le (D : Nat) : ∀ (ts : List T), (∀ t ∈ ts, depth t ≤ D ∧ cost t + 1 ≤ 2 ^ depth t * runs t) → costL ts + ts.length ≤ 2 ^ D * runsL ts
  | [], _ => Nat.zero_le _
  | t :: ts, h => by
    obtain ⟨h1, h2⟩ := h t List.mem_cons_self
    have ih := costL_le D ts (fun x hx => h x (List.mem_cons_of_mem _ hx))
    have h3 : 2 ^ depth t * runs t ≤ 2 ^ D * runs t := Nat.mul_le_mul_right _ (Nat.pow_le_pow_right (by decide) h1)
    simp only [costL, runsL, List.length_cons, Nat.mul_add]
    omega
mutual
theorem runs_pos : ∀ t : T, WF t → 1 ≤ runs t
  | .job .., _ => Nat.le_refl _
  | .scope k ps, w => by rw [runs]; exact runs_posL ps w.1 w.2.2
  | .pool n ps, w => by rw [runs]; exact runs_posL ps w.2.1 w.2.2.2
  | .seq ps, w => by rw [runs]; exact runs_posL ps w.1 w.2.2
  | .timeout k p, w => by rw [runs]; exact runs_pos p w.2
  | .orelse p q, w => by have := runs_pos p w.1; rw [runs]; omega
  | .retry n d p, w => by
    have := runs_pos p w.2.2
    rw [runs]
    exact Nat.mul_pos (by omega) (by omega)
theorem runs_posL : ∀ ts : List T, ts ≠ [] → WFL ts → 1 ≤ runsL ts
  | [], h, _ => absurd rfl h
  | t :: ts, _, w => by
    have := runs_pos t w.1
    simp only [runsL]
    omega
end
mutual
theorem cost_le : ∀ t : T, WF t → cost t + 1 ≤ 2 ^ depth t * runs t
  | .job .., _ => Nat.le_refl _
  | .scope k ps, w => by
    have h := cost_leL ps w.2.2
    have hl := List.length_pos_iff.mpr w.1
    simp only [cost, depth, runs, Nat.pow_succ, Nat.mul_assoc, Nat.mul_left_comm _ 2]
    omega
  | .pool n ps, w => by
    have h := cost_leL ps w.2.2.2
    have hl := List.length_pos_iff.mpr w.2.1
    simp only [cost, depth, runs, Nat.pow_succ, Nat.mul_assoc, Nat.mul_left_comm _ 2]
    omega
  | .seq ps, w => by
    have h := cost_leL ps w.2.2
    have hl := List.length_pos_iff.mpr w.1
    simp only [cost, depth, runs, Nat.pow_succ, Nat.mul_assoc, Nat.mul_left_comm _ 2]
    omega
  | .timeout k p, w => by
    have h := cost_le p w.2
    simp only [cost, depth, runs, Nat.pow_succ, Nat.mul_assoc, Nat.mul_left_comm _ 2]
    omega
  | .orelse p q, w => by
    have h1 := cost_le p w.1
    have h2 := cost_le q w.2
    have e1 : 2 ^ depth p * runs p ≤ 2 ^ (max (depth p) (depth q)) * runs p := Nat.mul_le_mul_right _ (Nat.pow_le_pow_right (by decide) (Nat.le_max_left _ _))
    have e2 : 2 ^ depth q * runs q ≤ 2 ^ (max (depth p) (depth q)) * runs q := Nat.mul_le_mul_right _ (Nat.pow_le_pow_right (by decide) (Nat.le_max_right _ _))
    simp only [cost, depth, runs, Nat.pow_succ, Nat.mul_assoc, Nat.mul_left_comm _ 2, Nat.mul_add]
    omega
  | .retry n d p, w => by
    have h := cost_le p w.2.2
    have hr := runs_pos p w.2.2
    have e1 : (n + 1) * (cost p + 1) ≤ (n + 1) * (2 ^ depth p * runs p) := Nat.mul_le_mul_left _ h
    have e2 : (n + 1) * (cost p + 1) = (n + 1) * cost p + (n + 1) := by rw [Nat.mul_add, Nat.mul_one]
    have e3 : 2 ^ (depth p + 1) * ((n + 1) * runs p) = 2 * ((n + 1) * (2 ^ depth p * runs p)) := by
      rw [Nat.pow_succ, Nat.mul_comm (2 ^ depth p) 2, Nat.mul_assoc, Nat.mul_left_comm (2 ^ depth p)]
    simp only [cost, depth, runs]
    rw [e3]
    omega
theorem cost_leL : ∀ ts : List T, WFL ts → costL ts + ts.length ≤ 2 ^ depthL ts * runsL ts
  | [], _ => Nat.zero_le _
  | t :: ts, w => by
    have h1 := cost_le t w.1
    have ih := cost_leL ts w.2
    have e1 : 2 ^ depth t * runs t ≤ 2 ^ (max (depth t) (depthL ts)) * runs t := Nat.mul_le_mul_right _ (Nat.pow_le_pow_right (by decide) (Nat.le_max_left _ _))
    have e2 : 2 ^ depthL ts * runsL ts ≤ 2 ^ (max (depth t) (depthL ts)) * runsL ts := Nat.mul_le_mul_right _ (Nat.pow_le_pow_right (by decide) (Nat.le_max_right _ _))
    simp only [costL, runsL, depthL, List.length_cons, Nat.mul_add]
    omega
end
theorem mul_step {a b X Y Z : Nat} (h1 : a ≤ X) (h2 : b ≤ Y * Z) (h3 : Z ≤ X) : a + b ≤ (Y + 1) * X := by
  have : Y * Z ≤ Y * X := Nat.mul_le_mul_left _ h3
  rw [Nat.add_mul, Nat.one_mul]
  omega
mutual
theorem tcost_le : ∀ t : T, WF t → tcost t ≤ depth t * (2 ^ depth t * runs t)
  | .job .., _ => by show 1 ≤ 1 * (2 ^ 1 * 1); omega
  | .scope k ps, w => by
    have h1 := cost_le (.scope k ps) w
    have h2 := tcost_leL ps w.2.2
    simp only [cost, tcost, depth, runs] at *
    exact mul_step (by omega) h2 (Nat.mul_le_mul_right _ (Nat.pow_le_pow_right (by decide) (by omega)))
  | .pool n ps, w => by
    have h1 := cost_le (.pool n ps) w
    have h2 := tcost_leL ps w.2.2.2
    simp only [cost, tcost, depth, runs] at *
    exact mul_step (by omega) h2 (Nat.mul_le_mul_right _ (Nat.pow_le_pow_right (by decide) (by omega)))
  | .seq ps, w => by
    have h1 := cost_le (.seq ps) w
    have h2 := tcost_leL ps w.2.2
    simp only [cost, tcost, depth, runs] at *
    exact mul_step (by omega) h2 (Nat.mul_le_mul_right _ (Nat.pow_le_pow_right (by decide) (by omega)))
  | .timeout k p, w => by
    have h1 := cost_le (.timeout k p) w
    have h2 := tcost_le p w.2
    simp only [cost, tcost, depth, runs] at *
    exact mul_step (by omega) h2 (Nat.mul_le_mul_right _ (Nat.pow_le_pow_right (by decide) (by omega)))
  | .orelse p q, w => by
    have h1 := cost_le (.orelse p q) w
    have h2 := tcost_le p w.1
    have h3 := tcost_le q w.2
    have e1 : depth p * (2 ^ depth p * runs p) ≤ max (depth p) (depth q) * (2 ^ (max (depth p) (depth q)) * runs p) := Nat.mul_le_mul (Nat.le_max_left _ _) (Nat.mul_le_mul_right _ (Nat.pow_le_pow_right (by decide) (Nat.le_max_left _ _)))
    have e2 : depth q * (2 ^ depth q * runs q) ≤ max (depth p) (depth q) * (2 ^ (max (depth p) (depth q)) * runs q) := Nat.mul_le_mul (Nat.le_max_right _ _) (Nat.mul_le_mul_right _ (Nat.pow_le_pow_right (by decide) (Nat.le_max_right _ _)))
    have e3 : tcost p + tcost q ≤ max (depth p) (depth q) * (2 ^ (max (depth p) (depth q)) * (runs p + runs q)) := by
      rw [Nat.mul_add, Nat.mul_add]
      omega
    simp only [cost, tcost, depth, runs] at *
    rw [Nat.add_assoc (cost p + cost q + 1)]
    exact mul_step (by omega) e3 (Nat.mul_le_mul_right _ (Nat.pow_le_pow_right (by decide) (by omega)))
  | .retry n d p, w => by
    have h1 := cost_le (.retry n d p) w
    have h2 := tcost_le p w.2.2
    have e1 : (n + 1) * tcost p ≤ depth p * (2 ^ depth p * ((n + 1) * runs p)) := by
      have := Nat.mul_le_mul_left (n + 1) h2
      rw [Nat.mul_left_comm (2 ^ depth p), Nat.mul_left_comm (depth p)]
      exact this
    simp only [cost, tcost, depth, runs] at *
    exact mul_step (by omega) e1 (Nat.mul_le_mul_right _ (Nat.pow_le_pow_right (by decide) (by omega)))
theorem tcost_leL : ∀ ts : List T, WFL ts → tcostL ts ≤ depthL ts * (2 ^ depthL ts * runsL ts)
  | [], _ => Nat.zero_le _
  | t :: ts, w => by
    have h1 := tcost_le t w.1
    have h2 := tcost_leL ts w.2
    have e1 : depth t * (2 ^ depth t * runs t) ≤ max (depth t) (depthL ts) * (2 ^ (max (depth t) (depthL ts)) * runs t) := Nat.mul_le_mul (Nat.le_max_left _ _) (Nat.mul_le_mul_right _ (Nat.pow_le_pow_right (by decide) (Nat.le_max_left _ _)))
    have e2 : depthL ts * (2 ^ depthL ts * runsL ts) ≤ max (depth t) (depthL ts) * (2 ^ (max (depth t) (depthL ts)) * runsL ts) := Nat.mul_le_mul (Nat.le_max_right _ _) (Nat.mul_le_mul_right _ (Nat.pow_le_pow_right (by decide) (Nat.le_max_right _ _)))
    simp only [tcostL, runsL, depthL]
    rw [Nat.mul_add, Nat.mul_add]
    omega
end
theorem tcost_pos (t : T) : 1 ≤ tcost t := by cases t <;> simp [tcost] <;> omega
theorem denL_at {ps : List T} {j : Nat} {q : T} (h : ps[j]? = some q) : (denL ps)[j]? = some (den q) := by
  rw [denL_eq, List.getElem?_map, h]
  rfl
theorem rowOf_none {kids : List Beh} {pa : Path} {p : Part} (h : p.beg = none) : rowOf kids pa p = [⟨pa ++ [(p.scope : Int), (p.part : Int)], none, ⟨p.nev.getD (0, 0), .can, []⟩⟩] := by
  unfold rowOf
  rw [h]
theorem rowOf_some {ts : List T} {pa : Path} {p : Part} {g : Ins} {q : T} (h : p.beg = some g) (hq : ts[p.kid]? = some q) : rowOf (denL ts) pa p = (den q).tr (pa ++ [(p.scope : Int), (p.part : Int)]) g p.lim := by
  unfold rowOf
  rw [h, denL_at hq]
theorem flat_len {ts : List T} {pa : Path} : ∀ (prt : List Part), (∀ p ∈ prt, (rowOf (denL ts) pa p).length ≤ pc ts p) → (prt.flatMap (rowOf (denL ts) pa)).length ≤ pcost ts prt
  | [], _ => Nat.zero_le _
  | p :: prt, h => by
    rw [List.flatMap_cons, List.length_append, pcost_cons]
    have := h p List.mem_cons_self
    have := flat_len prt (fun x hx => h x (List.mem_cons_of_mem _ hx))
    omega
theorem tr_len : ∀ (d : Nat) (u : T), depth u ≤ d → WF u → ∀ (pa : Path) (s : Ins) (c : Option Ins), OLe s c → ((den u).tr pa s c).length ≤ tcost u
  | 0, u, h, _, _, _, _, _ => by have := depth_pos u; omega
  | d + 1, u, h, w, pa, s, c, ho => by
    obtain ⟨h1, h2⟩ := parts_ok w ho
    have hf := flat_len (ts := kidsT u) (pa := pa) ((den u).crs s c).2 (fun p hp => by
      obtain ⟨⟨q, hq⟩, hb⟩ := h1 p hp
      have hpc : pc (kidsT u) p = tcost q := by unfold pc; rw [hq]
      have hqm := List.mem_of_getElem? hq
      rw [hpc]
      cases e : p.beg with
      | none =>
        rw [rowOf_none e]
        exact tcost_pos q
      | some g =>
        rw [e] at hb
        rw [rowOf_some e hq]
        exact tr_len d q (by have := kid_depth hqm; omega) (kid_wf w hqm) _ _ _ hb)
    rw [den_tr, List.length_cons]
    have := cost_pos0 u
    omega
end Asf
set_option Elab.async false
set_option linter.all false
set_option maxRecDepth 100000
set_option maxHeartbeats 4000000
namespace Asf
open PySem PySem.Spec PyProof.Rows L2
theorem rd_st {te : TE} {g : TG} {u : TS} {D : Ends} {σ : L2.St} {H : Hp} (h : te σ H fun x H1 => g x σ H1 (u D)) : tSeq (tAsg te g) u D σ H := h
section
variable {P : Program} {w : World} {K : PySem.W.Frag} {mg : Str → Option Value} {base : Heap}
def RowOf (d : PyData) (e : Entry) : Prop := ∃ n : Int, d = .tuple [.int n, eEntry e]
def RowsAt (K : PySem.W.Frag) (H : Hp) (v : V) (es : List Entry) : Prop := ∃ D rv ds, v = .ref D ∧ H D = some (.lst rv) ∧ DDs K H rv ds ∧ Paired RowOf ds es
def sp_tasks (P : Program) (w : World) (K : PySem.W.Frag) (d : Nat) : Sp := fun vs H Q E => match vs with
  | [.ref p, .int pl, pv, sv, cv] => ∃ N t m kd i u s c pa, Fore P w K N t m H p kd ∧ pl = (i : Nat) ∧ (subs t)[i]? = some u ∧ depth u ≤ d ∧ DD K H pv (ePath pa) ∧ pa.length + 2 * d ≤ 1000 ∧ InsAt H sv s ∧ OIns H cv c ∧ OLe s c ∧ m + tcost u ≤ 1000000 ∧
    ∀ v H', Kp (some kd) H H' → Fore P w K N t (m + tcost u) H' p kd → RowsAt K H' v ((den u).tr pa s c) → Q v H'
  | _ => False
theorem m_tasks0 (T : Txt K mg) : Met P w K mg base 5 "tasks" (He.ma K (CF K) "tasks") ["self", "place", "path", "start", "cancel"] (sp_tasks P w K 0) :=
  met_F_tasks T (okF T.d_F_tasks sc_F_tasks (fun vs H Q E h => match vs, h with | [.ref _, .int _, _, _, _], _ => rfl) fun cdv A outer s0 H vs Q E hr h => match vs, h with
  | [.ref p, .int pl, pv, sv, cv], h => by
    obtain ⟨N, t, m, kd, i, u, s, c, pa, F, rfl, hu, hd, _⟩ := h
    have := depth_pos u
    omega)
theorem pcost_take_succ {ts : List T} {prt : List Part} {j : Nat} {pt : Part} (h : prt[j]? = some pt) : pcost ts (prt.take (j + 1)) = pcost ts (prt.take j) + pc ts pt := by
  rw [List.take_add_one, h, pcost_append]
  show _ + pcost ts [pt] = _
  rw [pcost_cons, pcost_nil]
  rfl
theorem pcost_take_le (ts : List T) (prt : List Part) (j : Nat) : pcost ts (prt.take j) ≤ pcost ts prt := by
  have h := pcost_append ts (prt.take j) (prt.drop j)
  rw [List.take_append_drop] at h
  omega
theorem m_tasks1 (T : Txt K mg) {k d : Nat} (hk : 1 ≤ k) (M : Met P w K mg base k "course" (He.ma K (CF K) "course") ["self", "place", "start", "cancel"] (sp_course P w K (d + 1))) (Mt : Met P w K mg base k "tasks" (He.ma K (CF K) "tasks") ["self", "place", "path", "start", "cancel"] (sp_tasks P w K d)) :
    Met P w K mg base (k + 1) "tasks" (He.ma K (CF K) "tasks") ["self", "place", "path", "start", "cancel"] (sp_tasks P w K (d + 1)) :=
  met_F_tasks T (okF T.d_F_tasks sc_F_tasks (fun vs H Q E h => match vs, h with | [.ref _, .int _, _, _, _], _ => rfl) fun cdv A outer s0 H vs Q E hr h => match vs, h with
  | [.ref p, .int pl, pav, sv, cv], h => by
    obtain ⟨N, t, m, kd, i, u, s, c, pa, F, rfl, hu, hd, hpa, hpl, hs, hc, ho, hm, r⟩ := h
    have hwu := subs_wf t F.wf _ (List.mem_of_getElem? hu)
    obtain ⟨pok, pcs⟩ := parts_ok hwu ho
    have htl := tr_len (d + 1) u hd hwu pa s c ho
    have htr := den_tr u pa s c
    refine ⟨_, (pss_cons (ps_asg (pe_m M T.cl hr (pv 0) (pa_cons (pv 1) (pa_cons (pv 3) (pa_cons (pv 4) pa_nil))) (by omega)) (pg_tup (by rfl) (pgs_cons (pg_name (i := 5) sc_F_tasks.nd rfl (by first | exact Or.inl rfl | exact Or.inr rfl)) (pgs_cons (pg_name (i := 6) sc_F_tasks.nd rfl (by first | exact Or.inl rfl | exact Or.inr rfl)) pgs_nil)))) (pss_cons (ps_set (i := 7) sc_F_tasks.nd rfl (by first | exact Or.inl rfl | exact Or.inr rfl) (pe_lst (pa_cons (pe_tup (pa_cons (pv 1) (pa_cons (pe_op op_catD (pe_tup (pa_cons (pv 2) (pa_cons (pv 3) pa_nil))) (pv 5)) pa_nil))) pa_nil))) (pss_cons (ps_for PassesOwn.never rfl (pi_list (pv 6)) (pg_tup (by rfl) (pgs_cons (pg_name (i := 8) sc_F_tasks.nd rfl (by first | exact Or.inl rfl | exact Or.inr rfl)) (pgs_cons (pg_name (i := 9) sc_F_tasks.nd rfl (by first | exact Or.inl rfl | exact Or.inr rfl)) (pgs_cons (pg_name (i := 10) sc_F_tasks.nd rfl (by first | exact Or.inl rfl | exact Or.inr rfl)) (pgs_cons (pg_name (i := 11) sc_F_tasks.nd rfl (by first | exact Or.inl rfl | exact Or.inr rfl)) (pgs_cons (pg_name (i := 12) sc_F_tasks.nd rfl (by first | exact Or.inl rfl | exact Or.inr rfl)) (pgs_cons (pg_name (i := 13) sc_F_tasks.nd rfl (by first | exact Or.inl rfl | exact Or.inr rfl)) pgs_nil))))))) (pss_cons (ps_set (i := 14) sc_F_tasks.nd rfl (by first | exact Or.inl rfl | exact Or.inr rfl) (pe_k (k_child_path T) hr (pa_cons (pv 2) (pa_cons (pv 8) (pa_cons (pv 9) pa_nil))) (by omega))) (pss_one (ps_if (pt_cmp (pc_isN (pv 11)) rfl) (pss_one (ps_expr (pe_bm PySem.F.plainAttrs_list PySem.F.slot_list_append PySem.F.type_list_append mt_append (pv 7) (pa_cons (pe_tup (pa_cons (pv 10) (pa_cons (pe_op op_catC (pe_tup (pa_cons (pv 14) (pa_cons pe_non (pa_cons (pv 13) pa_nil)))) (pe_glob (v := .ref (He.ga K "CANCELLED")) rfl T.gX rfl)) pa_nil))) pa_nil)))) (pss_one (ps_expr (pe_bm PySem.F.plainAttrs_list PySem.F.slot_list_extend PySem.F.type_list_extend mt_extend (pv 7) (pa_cons (pe_m Mt T.cl hr (pv 0) (pa_cons (pv 10) (pa_cons (pv 14) (pa_cons (pv 11) (pa_cons (pv 12) pa_nil)))) (by omega)) pa_nil)))))))) (pss_one (ps_ret (pv 7)))))), ?_⟩
    obtain ⟨dx, vp, hob, hp⟩ := F.ob
    refine rd_st ?_
    refine ⟨_, rfl, p, dx, _, rfl, hob, rfl, _, rfl, _, rfl, _, rfl, ?_⟩
    refine ⟨N, t, m, kd, i, u, s, c, F, rfl, hu, hd, hs, hc, ho, by omega, fun v H1 k1 F1 hv => ?_⟩
    have tk1 := F.tk k1
    generalize hcr : (den u).crs s c = crs at hv pok pcs htr
    obtain ⟨a, ve, l, pv, rfl, h2, h3, h4, h5, h6⟩ := hv
    refine ⟨a, _, rfl, SqT.of h2, rfl, _, _, rfl, _, _, rfl, rfl, ?_⟩
    have hpa1 := DD.mono tk1 _ _ hpa
    have hs1 := hs.mono tk1
    refine rd_sa ?_
    refine ⟨_, rfl, _, rfl, _, rfl, by show 2 ≤ sizeLine; decide, fun b hb => ?_⟩
    have k2 : Kp none H1 (upd H1 b (.tup [pav, sv])) := Kp.new hb
    refine ⟨_, rfl, _, _, new_dd hb (.cons hpa1 (.cons hs1.dd .nil)), h3.mk0 k2, by show 2 + 3 ≤ sizeLine; decide, fun ev H3 k3 hev => ⟨by show 2 ≤ sizeLine; decide, fun b2 hb2 => ?_⟩⟩
    have k23 := k2.trans k3
    have k4 : Kp none H3 (upd H3 b2 (.tup [.int (i : Nat), ev])) := Kp.new hb2
    have hrow := new_dd (K := K) hb2 (.cons (.int (i : Nat)) (.cons hev .nil))
    refine ⟨by show 1 ≤ sizeLine; decide, fun D hD => ?_⟩
    have k24 := k23.trans k4
    have F4 := F1.keep0 k24
    have F5 := F4.addN hD [.ref b2]
    have k5 : Kp none (upd H3 b2 (.tup [.int (i : Nat), ev])) (upd (upd H3 b2 (.tup [.int (i : Nat), ev])) D (.lst [.ref b2])) := Kp.new hD
    have k25 := k24.trans k5
    have h4' := k25 l _ h4 (by simp)
    have hDl : D ≠ l := fun e => by
      have := k24 l _ h4 (by simp)
      rw [← e, hD] at this
      cases this
    have hD0 : H D = none := (k1.trans k24.weak).free (F4.kdx.choose_spec) hD
    refine rd_seq ?_
    refine ⟨_, rfl, l, rfl, ⟨pv, SqL.of h4'⟩, ?_⟩
    refine for_list (xs := pv) (fun j σ H' => ∃ rv ds x8 x9 x10 x11 x12 x13 x14, σ = [some (.ref p), some (.int (i : Nat)), some pav, some sv, some cv, some ve, some (.ref l), some (.ref D), x8, x9, x10, x11, x12, x13, x14] ∧ Kp (some kd) H H' ∧ Fore P w K (addN N D) t (m + cost u + pcost (kidsT u) (crs.2.take j)) H' p kd ∧
      H' D = some (.lst rv) ∧ DDs K H' rv ds ∧ Paired RowOf ds ((⟨pa, some s, crs.1⟩ : Entry) :: (crs.2.take j).flatMap (rowOf (denL (kidsT u)) pa)) ∧ H' l = some (.lst pv) ∧ DDs K H' pv (crs.2.map (ePart (kidIdx i u)))) ?_ (fun j σ H' _ g => ?_) ?_ ?_
    · refine ⟨_, _, _, _, _, _, _, _, _, rfl, k1.trans k25.weak, F5.le (by omega), upd_same, .cons (hrow.mk0 k5) .nil, .cons ⟨(i : Nat), rfl⟩ .nil, h4', h5.mk0 k25⟩
    · obtain ⟨_, _, _, _, _, _, _, _, _, _, _, _, _, _, _, g, _⟩ := g
      exact SqL.of g
    · rintro j x σ H' hx ⟨rv, ds, x8, x9, x10, x11, x12, x13, x14, rfl, kk, FF, hDv, hDd, hrw, hlv, hld⟩
      obtain ⟨dd, hdd, hxd⟩ := hld.of_get hx
      obtain ⟨pt, hpt, rfl⟩ := map_get hdd
      have hptm := List.mem_of_getElem? hpt
      obtain ⟨⟨q, hq⟩, hbeg⟩ := pok pt hptm
      obtain ⟨n, hn1, hn2, _⟩ := kid_at (subs_spans t) hu hq
      have hgd : (kidIdx i u).getD pt.kid 0 = n := by rw [List.getD_eq_getElem?_getD, hn1]; rfl
      have hqm := List.mem_of_getElem? hq
      have hpc : pc (kidsT u) pt = tcost q := by unfold pc; rw [hq]
      have hps := pcost_take_succ (ts := kidsT u) hpt
      have hpl2 := pcost_take_le (kidsT u) crs.2 (j + 1)
      have tkk := F.tk kk
      have hpaH := DD.mono tkk _ _ hpa
      have hrl := hrw.length
      have hDl2 := hDd.len
      have efl : (crs.2.take (j + 1)).flatMap (rowOf (denL (kidsT u)) pa) = (crs.2.take j).flatMap (rowOf (denL (kidsT u)) pa) ++ rowOf (denL (kidsT u)) pa pt := take_succ_flat _ _ hpt
      have hwhole : (((⟨pa, some s, crs.1⟩ : Entry) :: (crs.2.take (j + 1)).flatMap (rowOf (denL (kidsT u)) pa))).length ≤ tcost u := by
        refine Nat.le_trans ?_ htl
        rw [htr, List.length_cons, List.length_cons]
        have e2 : crs.2.flatMap (rowOf (denL (kidsT u)) pa) = (crs.2.take (j + 1)).flatMap (rowOf (denL (kidsT u)) pa) ++ (crs.2.drop (j + 1)).flatMap (rowOf (denL (kidsT u)) pa) := by
          rw [← List.flatMap_append, List.take_append_drop]
        rw [e2, List.length_append]
        omega
      rw [efl, List.length_cons, List.length_append] at hwhole
      rw [List.length_cons] at hrl
      refine g_dd hxd rfl fun zs hz => ?_
      obtain ⟨z1, _, rfl, hz1, hz⟩ := hz.toC
      obtain ⟨z2, _, rfl, hz2, hz⟩ := hz.toC
      obtain ⟨z3, _, rfl, hz3, hz⟩ := hz.toC
      obtain ⟨z4, _, rfl, hz4, hz⟩ := hz.toC
      obtain ⟨z5, _, rfl, hz5, hz⟩ := hz.toC
      obtain ⟨z6, rfl, hz6⟩ := hz.to1
      cases hz1.to_int
      cases hz2.to_int
      cases hz3.to_int
      rw [hgd]
      refine ⟨_, _, rfl, _, _, rfl, _, _, rfl, _, _, rfl, _, _, rfl, _, _, rfl, rfl, ?_⟩
      refine rd_sa ?_
      refine ⟨_, rfl, _, rfl, _, rfl, pa, hpaH, by omega, fun hv H2 k6 hhv => ?_⟩
      have F6 := FF.keep0 k6
      have hD6 := k6 D _ hDv (by simp)
      have hl6 := k6 l _ hlv (by simp)
      have hDd6 := hDd.mk0 k6
      have hld6 := hld.mk0 k6
      refine rd_if ?_
      refine ⟨_, rfl, _, rfl, ?_⟩
      rw [OIns.isN hz4.oins]
      cases hb : pt.beg with
      | none =>
        rw [hb] at hbeg
        obtain ⟨nx, hnx⟩ := hbeg
        refine itT rfl ?_
        have hz6' : InsAt H2 z6 nx := by
          have := hz6.mk0 k6
          rw [hnx] at this
          exact this.ins
        refine ⟨_, rfl, tyV_list hD6, _, rfl, _, rfl, _, rfl, by show 3 ≤ sizeLine; decide, fun b3 hb3 => ?_⟩
        have k7 : Kp none H2 (upd H2 b3 (.tup [hv, .non, z6])) := Kp.new hb3
        refine ⟨_, _, (new_dd hb3 (.cons hhv (.cons .non (.cons hz6'.dd .nil)))).dt, T.cT.dt _, by simp, by simp, by show 3 + 2 ≤ sizeLine; decide, fun ev3 H4 k8 hev3 => ⟨by show 2 ≤ sizeLine; decide, fun b4 hb4 => ?_⟩⟩
        have k9 : Kp none H4 (upd H4 b4 (.tup [.int (n : Nat), ev3])) := Kp.new hb4
        have hnew := new_dd (K := K) hb4 (.cons (.int (n : Nat)) (.cons hev3 .nil))
        have k79 := (k7.trans k8).trans k9
        have hD9 := k79 D _ hD6 (by simp)
        refine ⟨D, rv, _, rfl, rfl, hD9, ?_, ?_⟩
        · show rv.length < 16777216
          omega
        have F9 := (F6.keep0 k79).put (D := D) (.inl rfl) (rv ++ [.ref b4])
        have tk9 : TK _ (upd (upd H4 b4 (.tup [.int (n : Nat), ev3])) D (.lst (rv ++ [.ref b4]))) := TK.put hD9 (fun xs z => by cases z)
        refine ⟨rv ++ [.ref b4], ds ++ [_], _, _, _, _, _, _, _, rfl, ?_, F9.le (by omega), upd_same, (DDs.mono tk9 _ _ (hDd6.mk0 k79)).app (.cons (DD.mono tk9 _ _ hnew) .nil), ?_, ?_, DDs.mono tk9 _ _ (hld6.mk0 k79)⟩
        · intro c0 o0 hc0 hn0
          rw [upd_ne (ne_of_none hc0 hD0)]
          exact (kk.trans (k6.trans k79).weak) c0 o0 hc0 hn0
        · rw [efl, rowOf_none hb, hnx]
          exact paired_app hrw (.cons ⟨(n : Nat), rfl⟩ .nil)
        · rw [upd_ne (Ne.symm hDl)]
          exact k79 l _ hl6 (by simp)
      | some g =>
        rw [hb] at hbeg hz4
        refine itF rfl ?_
        have hz4' : InsAt H2 z4 g := (hz4.mk0 k6).ins
        have hz5' : OIns H2 z5 pt.lim := (hz5.mk0 k6).oins
        obtain ⟨dx6, vp6, hob6, hp6⟩ := F6.ob
        have hdq : depth q ≤ d := by have := kid_depth hqm; omega
        have hlp : (pa ++ [(pt.scope : Int), (pt.part : Int)]).length + 2 * d ≤ 1000 := by
          rw [List.length_append]
          show pa.length + 2 + 2 * d ≤ 1000
          omega
        refine ⟨_, rfl, tyV_list hD6, _, rfl, p, dx6, _, rfl, hob6, rfl, _, rfl, _, rfl, _, rfl, _, rfl, ?_⟩
        refine ⟨addN N D, t, _, kd, n, q, g, pt.lim, pa ++ [(pt.scope : Int), (pt.part : Int)], F6, rfl, hn2, hdq, hhv, hlp, hz4', hz5', hbeg, by omega, fun rv2 H4 k8 F8 hrows => ?_⟩
        obtain ⟨D2, rw2, ds2, rfl, hD2, hd2, hpr2⟩ := hrows
        have tk8 := F6.tk k8
        have hD8 := k8 D _ hD6 (F6.ne_new_l hD6)
        have hl8 := k8 l _ hl6 (F6.ne_new_l hl6)
        have hDd8 := DDs.mono tk8 _ _ hDd6
        have hr2 := hpr2.length
        have hd2l := hd2.len
        rw [rowOf_some hb hq] at hwhole
        refine ⟨D, D2, rv, rw2, rfl, rfl, hD8, hD2, ?_, ?_⟩
        · show rv.length + rw2.length ≤ 16777216
          omega
        have F9 := F8.put (D := D) (.inl rfl) (rv ++ rw2)
        have tk9 : TK H4 (upd H4 D (.lst (rv ++ rw2))) := TK.put hD8 (fun xs z => by cases z)
        refine ⟨rv ++ rw2, ds ++ ds2, _, _, _, _, _, _, _, rfl, ?_, F9.le (by omega), upd_same, (DDs.mono tk9 _ _ hDd8).app (DDs.mono tk9 _ _ hd2), ?_, ?_, DDs.mono tk9 _ _ (DDs.mono tk8 _ _ hld6)⟩
        · intro c0 o0 hc0 hn0
          rw [upd_ne (ne_of_none hc0 hD0)]
          exact ((kk.trans k6.weak).trans k8) c0 o0 hc0 hn0
        · rw [efl, rowOf_some hb hq]
          exact paired_app hrw hpr2
        · rw [upd_ne (Ne.symm hDl)]
          exact hl8
    · rintro σ H' ⟨rv, ds, x8, x9, x10, x11, x12, x13, x14, rfl, kk, FF, hDv, hDd, hrw, hlv, hld⟩
      have el : crs.2.take pv.length = crs.2 := by rw [h5.len, List.length_map, List.take_length]
      rw [el] at FF hrw
      refine ⟨_, rfl, r _ _ kk ((FF.sub fun _ z => .inr z).le (by omega)) ⟨D, rv, ds, rfl, hDv, hDd, ?_⟩⟩
      rw [htr]
      exact hrw)
theorem m_tasks_all (T : Txt K mg) : ∀ d : Nat, Met P w K mg base (5 * d + 5) "tasks" (He.ma K (CF K) "tasks") ["self", "place", "path", "start", "cancel"] (sp_tasks P w K d)
  | 0 => m_tasks0 T
  | d + 1 => m_tasks1 T (k := 5 * d + 9) (by omega) (m_course_of T d (m_end_all T d)) ((m_tasks_all T d).lift (by omega))
end
end Asf
set_option Elab.async false
set_option linter.all false
set_option maxRecDepth 100000
set_option maxHeartbeats 4000000
namespace Asf
open PySem PySem.Spec PyProof.Rows L2
theorem rd_sd {te : TE} {u : TS} {D : Ends} {σ : L2.St} {H : Hp} (h : te σ H fun _ H1 => u D σ H1) : tSeq (tDrop te) u D σ H := h
section
variable {P : Program} {w : World} {K : PySem.W.Frag} {mg : Str → Option Value} {base : Heap}
def sp_init (P : Program) (w : World) (K : PySem.W.Frag) : Sp := fun vs H Q E => match vs with
  | [.ref p, vp] => ∃ dx, H p = some (.ins (CF K) dx []) ∧ ∀ kd H', (∀ a o, H a = some o → a ≠ p → H' a = some o) → H kd = none → H' p = some (.ins (CF K) dx [("_plan", vp), ("_known", .ref kd)]) → H' kd = some (nkO P w kd []) → (kd == sysModules) = false → Q .non H'
  | _ => False
theorem f_init (T : Txt K mg) : FnOk P w K mg base CX0 1 (He.ma K (CF K) "__init__") (fdAt K (He.ma K (CF K) "__init__")) ["self", "plan"] (sp_init P w K) :=
  okF T.d_F_init sc_F_init (fun vs H Q E h => match vs, h with | [.ref _, _], _ => rfl) fun cdv A outer s H vs Q E hr h => match vs, h with
  | [.ref p, vp], h => by
    obtain ⟨dx, hp, r⟩ := h
    refine ⟨_, (pss_cons (ps_fld (pv 0) (pv 1) rfl) (pss_one (ps_fld (pv 0) pe_nknew rfl))), ?_⟩
    refine ⟨_, rfl, _, rfl, p, _, dx, _, rfl, hp, T.cl, T.nP, by show 0 < 1000; decide, ?_⟩
    intro kd hkd hsm
    have hne : kd ≠ p := fun e => by rw [e, upd_same] at hkd; cases hkd
    have hkd0 : H kd = none := by rw [upd_ne hne] at hkd; exact hkd
    refine ⟨_, rfl, p, _, dx, _, rfl, (upd_ne (Ne.symm hne)).trans upd_same, T.cl, T.nK, by show 1 < 1000; decide, ?_⟩
    refine r kd _ (fun a o ha hn => ?_) hkd0 upd_same ?_ hsm
    · rw [upd_ne hn, upd_ne (ne_of_none ha hkd0), upd_ne hn]
      exact ha
    · rw [upd_ne hne, upd_same]
      rfl
theorem fore_new {t : T} {H H' : Hp} {vp : V} {x dx kd : Addr} (hw : WF t) (hs : size t ≤ 1000) (hp : DD K H vp (ePlan (subs t))) (hx : H x = none) (hdx : H dx = none) (hne : dx ≠ x)
    (k : ∀ a o, (upd (upd H dx (.own x)) x (.ins (CF K) dx [])) a = some o → a ≠ x → H' a = some o) (h1 : H' x = some (.ins (CF K) dx [("_plan", vp), ("_known", .ref kd)])) (h2 : H' kd = some (nkO P w kd [])) (ns : (kd == sysModules) = false) :
    Kp none H H' ∧ Fore P w K (fun _ => False) t 0 H' x kd := by
  have kk : Kp none H H' := fun a o ha _ => k a o (by rw [upd_ne (ne_of_none ha hx), upd_ne (ne_of_none ha hdx)]; exact ha) (ne_of_none ha hx)
  refine ⟨kk, hw, hs, ⟨dx, vp, h1, hp.mk0 kk⟩, ⟨[], ⟨h2, ns, fun x hx => by cases hx⟩, Nat.le_refl _, fun x hx => by cases hx⟩, fun D hD => hD.elim⟩
/-- what predict gives -/
abbrev ePred (e : End) (es : List Entry) : PyData := .tuple [eI e.en, .str (ocS e.oc), eRes e.res, .tuple (es.map eEntry)]
def PlanOk (t : T) : Prop := WF t ∧ size t ≤ 1000 ∧ depth t ≤ 10 ∧ cost t + tcost t ≤ 1000000
theorem plan_len {H : Hp} {v : V} {t : T} (h : DD K H v (ePlan (subs t))) : ∃ a xs, v = .ref a ∧ SqT K H a xs ∧ xs.length = size t := by
  obtain ⟨a, xs, e, hq, hd⟩ := h.sq
  exact ⟨a, xs, e, hq, by rw [hd.len, List.length_mapIdx, subs_len]⟩
theorem kp_back {H H' H2 : Hp} {p kd : Addr} (k1 : Kp none H H') (hp : H kd = none) (k2 : Kp (some kd) H' H2) : Kp none H H2 := fun a o ha _ => k2 a o (k1 a o ha (by simp)) (fun e => by injection e with e; rw [← e, hp] at ha; cases ha)
def sp_endOf (K : PySem.W.Frag) : Sp := fun vs H Q E => match vs with
  | [plv, sv, cv] => ∃ t s c, DD K H plv (ePlan (subs t)) ∧ PlanOk t ∧ InsAt H sv s ∧ OIns H cv c ∧ OLe s c ∧ Ret K H (eEnd ((den t).fin s c)) Q
  | _ => False
theorem k_end_of (T : Txt K mg) : Cal P w K mg base 56 "end_of" (He.ga K "end_of") ["plan", "start", "cancel"] (sp_endOf K) :=
  cal_end_of T (okF T.d_end_of sc_end_of (fun vs H Q E h => match vs, h with | [_, _, _], _ => rfl) fun cdv A outer s0 H vs Q E hr h => match vs, h with
  | [plv, sv, cv], h => by
    obtain ⟨t, s, c, hp, ⟨hw, hsz, hdp, hco⟩, hs, hc, ho, r⟩ := h
    refine ⟨_, (pss_cons (ps_expr (pe_k (k_check_cancel T) hr (pa_cons (pv 1) (pa_cons (pv 2) pa_nil)))) (pss_one (ps_ret (pe_m (m_end_all T 10) T.cl hr (pe_make T.mkF (f_init T) (hr.mono (by decide)) (by rfl) T.gC (b_F_init T) .nil pass0 (pa_cons (pv 0) pa_nil)) (pa_cons (pe_op op_sub (pe_callB (call_lenQ) (by rfl) T.z_len (by decide +kernel) (pa_cons (pv 0) pa_nil)) pe_int) (pa_cons (pv 1) (pa_cons (pv 2) pa_nil))) (by decide))))), ?_⟩
    refine rd_sd ?_
    refine ⟨_, rfl, _, rfl, s, c, hs, hc, ho, ?_⟩
    refine ⟨_, rfl, fun x dx hx hdx hne => ⟨dx, upd_same, fun kd H1 k1 hkd h1 h2 ns => ⟨rfl, ?_⟩⟩⟩
    obtain ⟨kk, F⟩ := fore_new (P := P) (w := w) hw hsz hp hx hdx hne k1 h1 h2 ns
    have hkd0 : H kd = none := by
      have hkx : kd ≠ x := fun e => by rw [e, upd_same] at hkd; cases hkd
      have hkdx : kd ≠ dx := fun e => by rw [upd_ne hkx, e, upd_same] at hkd; cases hkd
      rw [upd_ne hkx, upd_ne hkdx] at hkd
      exact hkd
    obtain ⟨a, xs, rfl, hq, hl⟩ := plan_len hp
    have hpos := size_pos t
    refine ⟨x, dx, _, rfl, h1, rfl, _, rfl, a, xs, rfl, .inr (sqT_keep hq kk), _, _, rfl, rfl, _, rfl, _, rfl, ?_⟩
    have el : ((xs.length : Nat) : Int) - 1 = ((size t - 1 : Nat) : Int) := by rw [hl]; omega
    have := tcost_pos t
    refine ⟨_, t, 0, kd, size t - 1, t, s, c, F, el, subs_last t, hdp, hs.mk0 kk, hc.mk0 kk, ho, by omega, fun v H2 k2 F2 hv => ?_⟩
    exact r _ _ (kp_back (p := x) kk hkd0 k2) hv)
def sp_predict (K : PySem.W.Frag) : Sp := fun vs H Q E => match vs with
  | [plv, pav, sv, cv] => ∃ t pa s c, DD K H plv (ePlan (subs t)) ∧ PlanOk t ∧ DD K H pav (ePath pa) ∧ pa.length ≤ 900 ∧ InsAt H sv s ∧ OIns H cv c ∧ OLe s c ∧ Ret K H (ePred ((den t).fin s c) ((den t).tr pa s c)) Q
  | _ => False
theorem k_predict (T : Txt K mg) : Cal P w K mg base 56 "predict" (He.ga K "predict") ["plan", "path", "start", "cancel"] (sp_predict K) :=
  cal_predict T (okF T.d_predict sc_predict (fun vs H Q E h => match vs, h with | [_, _, _, _], _ => rfl) fun cdv A outer s0 H vs Q E hr h => match vs, h with
  | [plv, pav, sv, cv], h => by
    obtain ⟨t, pa, s, c, hp, ⟨hw, hsz, hdp, hco⟩, hpa, hpl, hs, hc, ho, r⟩ := h
    refine ⟨_, (pss_cons (ps_expr (pe_k (k_check_cancel T) hr (pa_cons (pv 2) (pa_cons (pv 3) pa_nil)))) (pss_cons (ps_set (i := 4) sc_predict.nd rfl (by first | exact Or.inl rfl | exact Or.inr rfl) (pe_make T.mkF (f_init T) (hr.mono (by decide)) (by rfl) T.gC (b_F_init T) .nil pass0 (pa_cons (pv 0) pa_nil))) (pss_cons (ps_set (i := 5) sc_predict.nd rfl (by first | exact Or.inl rfl | exact Or.inr rfl) (pe_op op_sub (pe_callB (call_lenQ) (by rfl) T.z_len (by decide +kernel) (pa_cons (pv 0) pa_nil)) pe_int)) (pss_cons (ps_asg (pe_m (m_end_all T 10) T.cl hr (pv 4) (pa_cons (pv 5) (pa_cons (pv 2) (pa_cons (pv 3) pa_nil))) (by decide)) (pg_tup (by rfl) (pgs_cons (pg_name (i := 6) sc_predict.nd rfl (by first | exact Or.inl rfl | exact Or.inr rfl)) (pgs_cons (pg_name (i := 7) sc_predict.nd rfl (by first | exact Or.inl rfl | exact Or.inr rfl)) (pgs_cons (pg_name (i := 8) sc_predict.nd rfl (by first | exact Or.inl rfl | exact Or.inr rfl)) pgs_nil))))) (pss_cons (ps_set (i := 9) sc_predict.nd rfl (by first | exact Or.inl rfl | exact Or.inr rfl) (pe_callTy call_tuple_of (by rfl) T.z_tuple (by decide +kernel) (pa_cons (pe_lc (own := [("_", 10), ("entry", 11)]) (g := (gTup K 2 (gCons (gName 10) (gCons (gName 11) gNil)))) (tt := tYes) (te := (tVar 11)) rfl sc_predict.nd (pi_list (pe_m (m_tasks_all T 10) T.cl hr (pv 4) (pa_cons (pv 5) (pa_cons (pv 1) (pa_cons (pv 2) (pa_cons (pv 3) pa_nil)))) (by decide))) (blkOk_by (N := ["plan", "path", "start", "cancel", "foretelling", "last", "end", "outcome", "result", "trace", "_", "entry"]) (sc := defScope s_predict) (by decide +kernel)) (fun _ _ _ _ _ => (pg_tup (by rfl) (pgs_cons (pg_name (i := 10) sc_predict.nd rfl (by first | exact Or.inl rfl | exact Or.inr rfl)) (pgs_cons (pg_name (i := 11) sc_predict.nd rfl (by first | exact Or.inl rfl | exact Or.inr rfl)) pgs_nil)))) (fun _ _ _ _ _ => pts_nil) (fun _ _ _ _ _ => (pv 11))) pa_nil))) (pss_one (ps_ret (pe_tup (pa_cons (pv 6) (pa_cons (pv 7) (pa_cons (pv 8) (pa_cons (pv 9) pa_nil)))))))))))), ?_⟩
    refine rd_sd ?_
    refine ⟨_, rfl, _, rfl, s, c, hs, hc, ho, ?_⟩
    refine rd_sa ?_
    refine ⟨_, rfl, fun x dx hx hdx hne => ⟨dx, upd_same, fun kd H1 k1 hkd h1 h2 ns => ⟨rfl, ?_⟩⟩⟩
    obtain ⟨kk, F⟩ := fore_new (P := P) (w := w) hw hsz hp hx hdx hne k1 h1 h2 ns
    have hkd0 : H kd = none := by
      have hkx : kd ≠ x := fun e => by rw [e, upd_same] at hkd; cases hkd
      have hkdx : kd ≠ dx := fun e => by rw [upd_ne hkx, e, upd_same] at hkd; cases hkd
      rw [upd_ne hkx, upd_ne hkdx] at hkd
      exact hkd
    obtain ⟨a, xs, rfl, hq, hl⟩ := plan_len hp
    have hpos := size_pos t
    have htc := tcost_pos t
    refine rd_sa ?_
    refine ⟨_, rfl, a, xs, rfl, .inr (sqT_keep hq kk), _, _, rfl, rfl, ?_⟩
    have el : ((xs.length : Nat) : Int) - 1 = ((size t - 1 : Nat) : Int) := by rw [hl]; omega
    refine rd_st ?_
    refine ⟨_, rfl, x, dx, _, rfl, h1, rfl, _, rfl, _, rfl, _, rfl, ?_⟩
    refine ⟨_, t, 0, kd, size t - 1, t, s, c, F, el, subs_last t, hdp, hs.mk0 kk, hc.mk0 kk, ho, by omega, fun v H2 k2 F2 hv => ?_⟩
    have tk2 := F.tk k2
    have k12 := kp_back (p := x) kk hkd0 k2
    refine g_dd hv rfl fun zs hz => ?_
    obtain ⟨z1, _, rfl, hz1, hz⟩ := hz.toC
    obtain ⟨z2, _, rfl, hz2, hz⟩ := hz.toC
    obtain ⟨z3, rfl, hz3⟩ := hz.to1
    refine ⟨_, _, rfl, _, _, rfl, _, _, rfl, rfl, ?_⟩
    obtain ⟨dx2, vp2, hob2, hp2⟩ := F2.ob
    refine rd_sa ?_
    refine ⟨_, rfl, x, dx2, _, rfl, hob2, rfl, _, rfl, _, rfl, _, rfl, _, rfl, ?_⟩
    refine ⟨_, t, _, kd, size t - 1, t, s, c, pa, F2, el, subs_last t, hdp, hpa.mk0 k12, by omega, hs.mk0 k12, hc.mk0 k12, ho, by omega, fun v3 H3 k3 F3 hrows => ?_⟩
    have tk3 := F2.tk k3
    have k13 : Kp none H H3 := kp_back (p := x) kk hkd0 (k2.trans k3)
    obtain ⟨D0, rv, ds, rfl, hD0, hds, hrw⟩ := hrows
    refine ⟨D0, rfl, ⟨rv, SqL.of hD0⟩, fun D hD => ?_⟩
    have htl := tr_len (depth t) t (Nat.le_refl _) hw pa s c ho
    have hlen : rv.length ≤ 1000000 := by
      rw [hds.len, hrw.length]
      omega
    refine lcL (xs := rv) (fun j H4 => Gr K none H3 D ((((den t).tr pa s c).take j).map eEntry) H4) (Gr.start hD) (fun j H4 _ g => SqL.of (g.1 D0 _ hD0 (by simp))) ?_ ?_
    · intro j y H4 hy g
      obtain ⟨d, hd, hyd⟩ := hds.of_get hy
      obtain ⟨e, he, n, rfl⟩ := paired_l hrw hd
      obtain ⟨a2, ys, rfl, hq2, hys⟩ := hyd.sq
      obtain ⟨y1, _, rfl, hy1, hys⟩ := hys.toC
      obtain ⟨y2, rfl, hy2⟩ := hys.to1
      refine ⟨a2, _, rfl, sqT_keep hq2 g.1, rfl, _, _, rfl, _, _, rfl, rfl, rfl, ?_⟩
      refine ⟨_, rfl, ?_⟩
      rw [take_succ_map eEntry _ he]
      refine g.add0 hD (Kp.refl _ _) (hy2.mk0 g.1) ?_
      have hj := (List.getElem?_eq_some_iff.mp hy).1
      rw [List.length_map, List.length_take]
      show _ < 16777216
      omega
    · intro H4 g
      have et : ((den t).tr pa s c).take rv.length = (den t).tr pa s c := by
        rw [hds.len, hrw.length, List.take_length]
      rw [et] at g
      obtain ⟨k4, acc, g2, g3⟩ := g
      refine ⟨D, acc, rfl, .inl ⟨SqL.of g2, fun l hl => ?_⟩⟩
      have k5 : Kp none H4 (upd H4 l (.tup acc)) := Kp.new hl
      have k45 := k4.trans k5
      refine ⟨_, rfl, _, rfl, _, rfl, _, rfl, by show 4 ≤ sizeLine; decide, fun u hu => ?_⟩
      have tk35 := tk3.trans k45.tk0
      exact (r.mono (k13.trans k45)).new hu (.cons (DD.mono tk35 _ _ hz1) (.cons (DD.mono tk35 _ _ hz2) (.cons (DD.mono tk35 _ _ hz3) (.cons (new_dd hl g3) .nil)))))
end
end Asf
set_option Elab.async false
set_option linter.all false
set_option maxRecDepth 100000
set_option maxHeartbeats 4000000
namespace Asf
open PySem PySem.Spec PyProof.Rows L2
section
variable {P : Program} {w : World} {K : PySem.W.Frag} {mg : Str → Option Value} {base : Heap}
/-! ### the law's draws: any number in range -/
def sp_cell (K : PySem.W.Frag) : Sp := fun vs H Q E => match vs with
  | [.ref a, .int k] => (∃ xs : List Int, SqL K H a (xs.map V.int)) ∧ 0 ≤ k ∧ ∀ i : Int, Q (.int i) H
  | _ => False
theorem k_L_cell (T : Txt K mg) : Cal P w K mg base 1 "_law_cell" (He.ga K "_law_cell") ["_law_script", "_law_k"] (sp_cell K) :=
  cal_L_cell T (okF T.d_L_cell sc_L_cell (fun vs H Q E h => match vs, h with | [.ref _, .int _], _ => rfl) fun cdv A outer s H vs Q E hr h => match vs, h with
  | [.ref a, .int k], h => by
    obtain ⟨⟨xs, hx⟩, hk, r⟩ := h
    refine ⟨_, (pss_cons (ps_if (pt_cmpR (op_lt) (pv 1) (pe_callB (call_lenQ) (by rfl) T.z_len (by decide +kernel) (pa_cons (pv 0) pa_nil)) (nomark _)) (pss_one (ps_ret (pe_ix ix_list (pv 0) (pv 1) (fun _ _ => rfl)))) pss_nil) (pss_one (ps_ret pe_int))), ?_⟩
    refine rd_seq ?_
    refine rd_if ?_
    refine ⟨_, rfl, _, rfl, a, _, rfl, .inl hx, _, _, rfl, rfl, _, rfl, ?_⟩
    refine itB (fun z => ?_) (fun z => ?_)
    · have hl := of_decide_eq_true z
      rw [List.length_map] at hl
      have hkn : k.toNat < xs.length := by omega
      refine ⟨_, rfl, _, rfl, a, _, _, _, rfl, rfl, hx, ?_, r xs[k.toNat]⟩
      have e := L2.atI_nat (xs := xs.map V.int) (j := k.toNat) (v := .int xs[k.toNat]) (by simp [hkn])
      rw [show ((k.toNat : Nat) : Int) = k by omega] at e
      exact e
    · exact r 0)
def sp_digits (K : PySem.W.Frag) : Sp := fun vs H Q E => match vs with
  | [.ref a, .int lo, .int hi] => (∃ xs : List Int, SqL K H a (xs.map V.int)) ∧ lo = 0 ∧ hi = 63 ∧ ∀ D (is : List Int) H', Kp none H H' → H' D = some (.lst (is.map V.int)) → is ≠ [] → H D = none → Q (.ref D) H'
  | _ => False
theorem gr_int {H H' : Hp} {D : Addr} {ds : List PyData} (n : ∃ is : List Int, ds = is.map .int) (g : Gr K none H D ds H') : ∃ is : List Int, H' D = some (.lst (is.map V.int)) := by
  obtain ⟨is, rfl⟩ := n
  obtain ⟨_, acc, g2, g3⟩ := g
  rw [DDs.ints g3] at g2
  exact ⟨is, g2⟩
/-- ints that grow at D, at least lo, at most n -/
def GI (K : PySem.W.Frag) (H : Hp) (D : Addr) (lo n : Nat) (H' : Hp) : Prop := ∃ is : List Int, Gr K none H D (is.map .int) H' ∧ lo ≤ is.length ∧ is.length ≤ n
theorem GI.add {H H' : Hp} {D : Addr} {lo n : Nat} (g : GI K H D lo n H') (hD : H D = none) (hn : n < 1000000) (i : Int) : ∃ acc, H' D = some (.lst acc) ∧ acc.length < sizeLine ∧ GI K H D 1 (n + 1) (upd H' D (.lst (acc ++ [.int i]))) := by
  obtain ⟨is, g, _, hl⟩ := g
  obtain ⟨acc, a1, a2, a3⟩ := g.add0 hD (Kp.refl _ _) (.int i) (by rw [List.length_map]; show _ < 16777216; omega)
  refine ⟨acc, a1, a2, is ++ [i], ?_, by rw [List.length_append]; show 1 ≤ is.length + 1; omega, by rw [List.length_append]; show is.length + 1 ≤ n + 1; omega⟩
  rw [List.map_append]
  exact a3
theorem GI.le {H H' : Hp} {D : Addr} {lo lo' n m : Nat} (g : GI K H D lo n H') (h0 : lo' ≤ lo) (h : n ≤ m) : GI K H D lo' m H' := by
  obtain ⟨is, g, h1, hl⟩ := g
  exact ⟨is, g, Nat.le_trans h0 h1, Nat.le_trans hl h⟩
def low (i j : Nat) : Nat := if i = 0 ∧ j = 0 then 0 else 1
theorem low_le (i j : Nat) : low i j ≤ 1 := by unfold low; split <;> omega
theorem low_s (i j : Nat) : low (i + 1) j = 1 := by unfold low; rw [if_neg (by omega)]
theorem low_j (i : Nat) {j : Nat} (h : j ≠ 0) : low i j = 1 := by unfold low; rw [if_neg (by omega)]
theorem digits_abs {u : TS} {D : Ends} {v0 v1 v2 v3 v4 : V} {c0 : Int} {x6 x7 : Option V} {H : Hp} (main : ∀ z : Int, u D [some v0, some v1, some v2, some v3, some v4, some (.int z), x6, x7] H) :
    tSeq (tIfS (tTest (tOp (rI0 fun i j => .bl (decide (i < j))) (tVar 5) (tC (.int 0)))) (tAsg (tOp (rI0 fun i j => .int (i - j)) (tC (.int 1)) (tOp (rI CMul fun i j => .int (i * j)) (tC (.int 2)) (tVar 5))) (gName 5)) tNext) u D [some v0, some v1, some v2, some v3, some v4, some (.int c0), x6, x7] H := by
  refine rd_seq ?_
  refine rd_if ?_
  refine ⟨_, rfl, _, _, rfl, rfl, _, rfl, ?_⟩
  refine itB (fun _ => ?_) (fun _ => ?_)
  · exact ⟨_, rfl, _, _, rfl, rfl, .inl ⟨by decide, by decide⟩, _, _, rfl, rfl, main _⟩
  · exact main c0
theorem k_L_digits (T : Txt K mg) : Cal P w K mg base 2 "_law_digits" (He.ga K "_law_digits") ["_law_script", "_law_first", "_law_last"] (sp_digits K) :=
  cal_L_digits T (okF T.d_L_digits sc_L_digits (fun vs H Q E h => match vs, h with | [.ref _, .int _, .int _], _ => rfl) fun cdv A outer s H vs Q E hr h => match vs, h with
  | [.ref a, .int lo, .int hi], h => by
    obtain ⟨⟨xs, hx⟩, rfl, rfl, r⟩ := h
    refine ⟨_, (pss_cons (ps_set (i := 3) sc_L_digits.nd rfl (by first | exact Or.inl rfl | exact Or.inr rfl) (pe_lst pa_nil)) (pss_cons (ps_for PassesOwn.never rfl (pi_range2 rfl T.z_range (pa_cons (pv 1) (pa_cons (pv 2) pa_nil))) (pg_name (i := 4) sc_L_digits.nd rfl (by first | exact Or.inl rfl | exact Or.inr rfl)) (pss_cons (ps_set (i := 5) sc_L_digits.nd rfl (by first | exact Or.inl rfl | exact Or.inr rfl) (pe_k (k_L_cell T) hr (pa_cons (pv 0) (pa_cons (pv 4) pa_nil)))) (pss_cons (ps_if (pt_cmpR (op_lt) (pv 5) pe_int (nomark _)) (pss_one (ps_set (i := 5) sc_L_digits.nd rfl (by first | exact Or.inl rfl | exact Or.inr rfl) (pe_op op_sub pe_int (pe_op op_mul pe_int (pv 5))))) pss_nil) (pss_one (ps_if (pt_cmpR (op_ge) (pv 5) pe_int (nomark _)) (pss_one (ps_for PassesOwn.never rfl (pi_range1 rfl T.z_range (pa_cons pe_int pa_nil)) (pg_name (i := 6) sc_L_digits.nd rfl (by first | exact Or.inl rfl | exact Or.inr rfl)) (pss_one (ps_if (pt_cmpR (op_gt) (pv 5) pe_int (nomark _)) (pss_cons (ps_expr (pe_bm PySem.F.plainAttrs_list PySem.F.slot_list_append PySem.F.type_list_append mt_append (pv 3) (pa_cons (pe_op op_mod (pe_callTy call_int1 (by rfl) T.z_int (by decide +kernel) (pa_cons (pv 5) pa_nil)) pe_int) pa_nil))) (pss_one (ps_set (i := 5) sc_L_digits.nd rfl (by first | exact Or.inl rfl | exact Or.inr rfl) (pe_op op_fdiv (pv 5) pe_int)))) pss_nil)))) (pss_cons (ps_set (i := 7) sc_L_digits.nd rfl (by first | exact Or.inl rfl | exact Or.inr rfl) (pe_op op_mod (pe_callTy call_int1 (by rfl) T.z_int (by decide +kernel) (pa_cons (pe_op op_add (pe_op op_add (pe_op op_mul (pv 5) pe_int) (pe_op op_mul (pv 4) pe_int)) pe_int) pa_nil)) pe_int)) (pss_one (ps_for PassesOwn.never rfl (pi_range1 rfl T.z_range (pa_cons pe_int pa_nil)) (pg_name (i := 6) sc_L_digits.nd rfl (by first | exact Or.inl rfl | exact Or.inr rfl)) (pss_cons (ps_set (i := 7) sc_L_digits.nd rfl (by first | exact Or.inl rfl | exact Or.inr rfl) (pe_op op_mod (pe_callTy call_int1 (by rfl) T.z_int (by decide +kernel) (pa_cons (pe_op op_add (pe_op op_add (pe_op op_mul (pv 7) pe_int) (pe_op op_mul pe_int (pv 6))) pe_int) pa_nil)) pe_int)) (pss_one (ps_expr (pe_bm PySem.F.plainAttrs_list PySem.F.slot_list_append PySem.F.type_list_append mt_append (pv 3) (pa_cons (pe_op op_mod (pe_callTy call_int1 (by rfl) T.z_int (by decide +kernel) (pa_cons (pe_op op_fdiv (pv 7) pe_int) pa_nil)) pe_int) pa_nil))))))))))))) (pss_one (ps_ret (pv 3))))), ?_⟩
    refine rd_sa ?_
    refine ⟨by show 0 ≤ sizeLine; decide, fun D hD => ?_⟩
    refine rd_seq ?_
    refine ⟨_, rfl, _, rfl, _, _, rfl, by decide, ?_⟩
    refine for_range (lo := 0) (n := 63) (fun i σ H' => (∃ x4 x5 x6 x7, σ = [some (.ref a), some (.int 0), some (.int 63), some (.ref D), x4, x5, x6, x7]) ∧ GI K H D (low i 0) (100 * i) H') ⟨⟨_, _, _, _, rfl⟩, [], Gr.start hD, by simp [low], by simp⟩ ?_ ?_
    · rintro i σ H' hi ⟨⟨x4, x5, x6, x7, rfl⟩, g⟩
      have hx' : SqL K H' a (xs.map V.int) := by
        obtain ⟨is, g0, _, _⟩ := g
        exact sqL_keep hx g0.1
      refine rd_sa ?_
      refine ⟨_, rfl, _, rfl, ⟨xs, hx'⟩, by omega, fun c0 => ?_⟩
      refine digits_abs (fun c1 => ?_)
      refine rd_if ?_
      refine ⟨_, rfl, _, _, rfl, rfl, _, rfl, ?_⟩
      refine itB (fun hbig => ?_) (fun _ => ?_)
      · refine ⟨_, rfl, by decide, by decide, ?_⟩
        refine for_range (lo := 0) (n := 60) (fun j σ H2 => (∃ c2 x6 x7, σ = [some (.ref a), some (.int 0), some (.int 63), some (.ref D), some (.int (0 + (i : Int))), some (.int c2), x6, x7] ∧ (j = 0 → 0 < c2)) ∧ GI K H D (low i j) (100 * i + j) H2) ⟨⟨_, _, _, rfl, fun _ => by have : 1000000000000000000 ≤ c1 := of_decide_eq_true hbig; omega⟩, g⟩ ?_ ?_
        · rintro j σ H2 hj ⟨⟨c2, y6, y7, rfl, hc2⟩, g2⟩
          refine rd_if ?_
          refine ⟨_, rfl, _, _, rfl, rfl, _, rfl, ?_⟩
          refine itB (fun _ => ?_) (fun hno => ?_)
          · refine rd_sd ?_
            obtain ⟨acc, a1, a2, a3⟩ := g2.add hD (by omega) (c2 % 1000)
            refine ⟨_, rfl, tyV_list a1, _, rfl, .inl ⟨_, rfl, _, _, rfl, rfl, by show (0 : Int) < 1000; decide, D, acc, _, rfl, rfl, a1, a2, ?_⟩⟩
            refine ⟨_, rfl, _, _, rfl, rfl, ⟨by decide, by decide⟩, ⟨_, _, _, rfl, fun z => by omega⟩, a3.le (low_le _ _) (by omega)⟩
          · have hno := of_decide_eq_false hno
            have hj0 : j ≠ 0 := fun z => hno (hc2 z)
            rw [low_j i hj0] at g2
            exact ⟨⟨_, _, _, rfl, fun z => by omega⟩, g2.le (low_le _ _) (by omega)⟩
        · rintro σ H2 ⟨⟨c2, y6, y7, rfl, _⟩, g2⟩
          rw [low_j i (by decide)] at g2
          exact ⟨⟨_, _, _, _, rfl⟩, g2.le (low_le _ _) (by omega)⟩
      · refine rd_sa ?_
        refine ⟨_, rfl, _, _, rfl, rfl, .inr ⟨by decide, by decide⟩, _, rfl, _, _, rfl, rfl, .inr ⟨by decide, by decide⟩, _, _, rfl, rfl, _, _, rfl, rfl, .inl ⟨_, rfl, _, _, rfl, rfl, by show (0 : Int) < 2147483399; decide, ?_⟩⟩
        refine ⟨_, rfl, by decide, by decide, ?_⟩
        refine for_range (lo := 0) (n := 12) (fun j σ H2 => (∃ x4 x5 x6 sd, σ = [some (.ref a), some (.int 0), some (.int 63), some (.ref D), x4, x5, x6, some (.int sd)]) ∧ GI K H D (low i j) (100 * i + j) H2) ⟨⟨_, _, _, _, rfl⟩, g⟩ ?_ ?_
        · rintro j σ H2 hj ⟨⟨y4, y5, y6, sd, rfl⟩, g2⟩
          refine rd_sa ?_
          refine ⟨_, rfl, _, _, rfl, rfl, .inr ⟨by decide, by decide⟩, _, rfl, _, _, rfl, rfl, .inl ⟨by decide, by decide⟩, _, _, rfl, rfl, _, _, rfl, rfl, .inl ⟨_, rfl, _, _, rfl, rfl, by show (0 : Int) < 2147483563; decide, ?_⟩⟩
          have add := fun z => g2.add hD (by omega) z
          obtain ⟨acc, a1, _, _⟩ := add 0
          refine ⟨_, rfl, tyV_list a1, _, rfl, _, _, rfl, rfl, ⟨by decide, by decide⟩, .inl ⟨_, rfl, _, _, rfl, rfl, by show (0 : Int) < 1000; decide, ?_⟩⟩
          obtain ⟨acc2, b1, b2, b3⟩ := add ((sd * 40014 + 5 * (0 + (j : Int)) + 3) % 2147483563 / 1009 % 1000)
          exact ⟨D, acc2, _, rfl, rfl, b1, b2, ⟨_, _, _, _, rfl⟩, b3.le (low_le _ _) (by omega)⟩
        · rintro σ H2 ⟨⟨y4, y5, y6, sd, rfl⟩, g2⟩
          rw [low_j i (by decide)] at g2
          exact ⟨⟨_, _, _, _, rfl⟩, g2.le (low_le _ _) (by omega)⟩
    · rintro σ H' ⟨⟨x4, x5, x6, x7, rfl⟩, is, g, hlo, _⟩
      obtain ⟨k, acc, g2, g3⟩ := g
      rw [DDs.ints g3] at g2
      refine ⟨_, rfl, r D is H' k g2 (fun z => ?_) hD⟩
      rw [z] at hlo
      cases hlo)
/-- the box: its digits, how many are drawn -/
def BoxAt (H : Hp) (B : Addr) : Prop := ∃ dg, ∃ (at' : Nat) (is : List Int), H B = some (.lst [.ref dg, .int at']) ∧ H dg = some (.lst (is.map V.int)) ∧ is ≠ []
def sp_draw (K : PySem.W.Frag) : Sp := fun vs H Q E => match vs with
  | [.ref B, .int many] => 0 < many ∧ BoxAt H B ∧ ∀ (r : Int) H', 0 ≤ r → r < many → Kp (some B) H H' → BoxAt H' B → Q (.int r) H'
  | _ => False
theorem k_L_draw (T : Txt K mg) : Cal P w K mg base 1 "_law_draw" (He.ga K "_law_draw") ["_law_box", "_law_many"] (sp_draw K) :=
  cal_L_draw T (okF T.d_L_draw sc_L_draw (fun vs H Q E h => match vs, h with | [.ref _, .int _], _ => rfl) fun cdv A outer s H vs Q E hr h => match vs, h with
  | [.ref B, .int many], h => by
    obtain ⟨hm, ⟨dg, n, is, hB, hdg, hnil⟩, r⟩ := h
    have hne : dg ≠ B := fun e => by
      rw [e, hB] at hdg
      injection hdg with hdg
      injection hdg with hdg
      cases is with
      | nil => cases hdg
      | cons i is => injection hdg with h1 _; cases h1
    refine ⟨_, (pss_cons (ps_set (i := 2) sc_L_draw.nd rfl (by first | exact Or.inl rfl | exact Or.inr rfl) (pe_ix ix_list (pv 0) pe_int (fun _ _ => rfl))) (pss_cons (ps_asg (pe_op op_add (pv 2) pe_int) (pg_sub (pv 0) pe_int set_list)) (pss_cons (ps_if (pt_cmpR (op_lt) (pv 2) (pe_callB (call_lenQ) (by rfl) T.z_len (by decide +kernel) (pa_cons (pe_ix ix_list (pv 0) pe_int (fun _ _ => rfl)) pa_nil)) (nomark _)) (pss_one (ps_ret (pe_op op_mod (pe_callTy call_int1 (by rfl) T.z_int (by decide +kernel) (pa_cons (pe_ix ix_list (pe_ix ix_list (pv 0) pe_int (fun _ _ => rfl)) (pv 2) (fun _ _ => rfl)) pa_nil)) (pv 1)))) pss_nil) (pss_one (ps_ret (pe_op op_mod (pe_callTy call_int1 (by rfl) T.z_int (by decide +kernel) (pa_cons (pe_op op_add (pe_op op_mul (pv 2) pe_int) pe_int) pa_nil)) (pv 1))))))), ?_⟩
    refine rd_sa ?_
    refine ⟨_, rfl, B, _, _, _, rfl, rfl, SqL.of hB, rfl, ?_⟩
    refine rd_seq ?_
    refine ⟨_, rfl, _, _, rfl, rfl, _, rfl, B, _, _, 1, rfl, rfl, hB, rfl, ?_⟩
    have hB2 : (upd H B (.lst [.ref dg, .int ((n : Int) + 1)])) B = some (.lst [.ref dg, .int ((n : Int) + 1)]) := upd_same
    have kp : Kp (some B) H (upd H B (.lst [.ref dg, .int ((n : Int) + 1)])) := Kp.put
    have hdg2 : (upd H B (.lst [.ref dg, .int ((n : Int) + 1)])) dg = some (.lst (is.map V.int)) := by rw [upd_ne hne]; exact hdg
    have box : BoxAt (upd H B (.lst [.ref dg, .int ((n : Int) + 1)])) B := ⟨dg, n + 1, is, hB2, hdg2, hnil⟩
    have done : ∀ x : Int, Q (.int (x % many)) (upd H B (.lst [.ref dg, .int ((n : Int) + 1)])) := fun x => r _ _ (Int.emod_nonneg _ (by omega)) (Int.emod_lt_of_pos _ hm) kp box
    dsimp only
    refine rd_seq ?_
    refine rd_if ?_
    refine ⟨_, rfl, _, rfl, B, _, _, _, rfl, rfl, SqL.of hB2, rfl, dg, _, rfl, .inl (SqL.of hdg2), _, _, rfl, rfl, _, rfl, ?_⟩
    refine itB (fun z => ?_) (fun z => ?_)
    · have hl := of_decide_eq_true z
      rw [List.length_map] at hl
      have hn : n < is.length := by omega
      refine ⟨_, rfl, B, _, _, _, rfl, rfl, SqL.of hB2, rfl, _, rfl, dg, _, _, .int is[n], rfl, rfl, SqL.of hdg2, L2.atI_nat (by simp [hn]), .inl ⟨_, rfl, _, rfl, _, _, rfl, rfl, hm, done _⟩⟩
    · refine ⟨_, rfl, _, _, rfl, rfl, .inr ⟨by decide, by decide⟩, _, _, rfl, rfl, .inl ⟨_, rfl, _, rfl, _, _, rfl, rfl, hm, done _⟩⟩)
end
end Asf
set_option Elab.async false
set_option linter.all false
set_option maxRecDepth 100000
set_option maxHeartbeats 4000000
namespace Asf
open PySem PySem.Spec PyProof.Rows L2
theorem pickI (is : List Int) (Pr : Int → Prop) (hP : ∀ i ∈ is, Pr i) {r : Int} (h0 : 0 ≤ r) (h1 : r < is.length) : ∃ i, Pr i ∧ L2.atI (is.map V.int) r = some (.int i) := by
  have hn : r.toNat < is.length := by omega
  have e := L2.atI_nat (xs := is.map V.int) (j := r.toNat) (v := .int is[r.toNat]) (by simp [hn])
  rw [show ((r.toNat : Nat) : Int) = r by omega] at e
  exact ⟨_, hP _ (List.getElem_mem hn), e⟩
theorem pickV (xs : List V) (Pr : V → Prop) (hP : ∀ i ∈ xs, Pr i) {r : Int} (h0 : 0 ≤ r) (h1 : r < xs.length) : ∃ v, Pr v ∧ L2.atI xs r = some v := by
  have hn : r.toNat < xs.length := by omega
  have e := L2.atI_nat (xs := xs) (j := r.toNat) (v := xs[r.toNat]) (by simp [hn])
  rw [show ((r.toNat : Nat) : Int) = r by omega] at e
  exact ⟨_, hP _ (List.getElem_mem hn), e⟩
section
variable {P : Program} {w : World} {K : PySem.W.Frag} {mg : Str → Option Value} {base : Heap}
theorem BoxAt.tk {H H' : Hp} {B : Addr} (b : BoxAt H B) (k : Kp (some B) H H') : TK H H' := by
  obtain ⟨dg, n, is, h, _⟩ := b
  exact k.tk h (fun xs z => by cases z)
theorem BoxAt.keep0 {H H' : Hp} {B : Addr} (b : BoxAt H B) (k : Kp none H H') : BoxAt H' B := by
  obtain ⟨dg, n, is, h, h2, h3⟩ := b
  exact ⟨dg, n, is, k _ _ h (by simp), k _ _ h2 (by simp), h3⟩
theorem BoxAt.ne {H : Hp} {B p : Addr} (b : BoxAt H B) (hp : H p = none) : some B ≠ some p := fun e => by
  obtain ⟨dg, n, is, h, h2⟩ := b
  injection e with e
  rw [e, hp] at h
  cases h
theorem BoxAt.neI {H : Hp} {B p : Addr} {is : List Int} (b : BoxAt H B) (hp : H p = some (.lst (is.map V.int))) : some B ≠ some p := fun e => by
  obtain ⟨dg, n, js, h, h2⟩ := b
  injection e with e
  rw [e, hp] at h
  injection h with h
  injection h with h
  cases is with
  | nil => cases h
  | cons i is => injection h with h1 _; cases h1
/-- a list new at p, then one more draw -/
theorem list_draw {H H' : Hp} {B p : Addr} {xs : List V} (b : BoxAt H B) (hp : H p = none) (k : Kp (some B) (upd H p (.lst xs)) H') : H' p = some (.lst xs) ∧ Kp (some B) H H' :=
  ⟨k p _ upd_same (b.ne hp), (Kp.new hp).trans k⟩
def sp_job (K : PySem.W.Frag) : Sp := fun vs H Q E => match vs with
  | [.ref B] => BoxAt H B ∧ ∀ v H' d g z cl f, WF (.job d g z cl f) → Kp (some B) H H' → BoxAt H' B → DD K H' v (eNode (.job d g z cl f) 0) → Q v H'
  | _ => False
theorem k_L_job (T : Txt K mg) : Cal P w K mg base 2 "_law_job" (He.ga K "_law_job") ["_law_box"] (sp_job K) :=
  cal_L_job T (okF T.d_L_job sc_L_job (fun vs H Q E h => match vs, h with | [.ref _], _ => rfl) fun cdv A outer s H vs Q E hr h => match vs, h with
  | [.ref B], h => by
    obtain ⟨b0, r⟩ := h
    refine ⟨_, (pss_cons (ps_set (i := 1) sc_L_job.nd rfl (by first | exact Or.inl rfl | exact Or.inr rfl) (pe_ix ix_list (pe_lst (pa_cons pe_int (pa_cons (pe_k (k_L_draw T) hr (pa_cons (pv 0) (pa_cons pe_int pa_nil))) (pa_cons (pe_k (k_L_draw T) hr (pa_cons (pv 0) (pa_cons pe_int pa_nil))) (pa_cons (pe_op op_add (pe_k (k_L_draw T) hr (pa_cons (pv 0) (pa_cons pe_int pa_nil))) (pe_k (k_L_draw T) hr (pa_cons (pv 0) (pa_cons pe_int pa_nil)))) pa_nil))))) (pe_k (k_L_draw T) hr (pa_cons (pv 0) (pa_cons pe_int pa_nil))) (fun _ _ => rfl))) (pss_cons (ps_set (i := 2) sc_L_job.nd rfl (by first | exact Or.inl rfl | exact Or.inr rfl) (pe_ix ix_list (pe_lst (pa_cons pe_str (pa_cons pe_str (pa_cons pe_str pa_nil)))) (pe_k (k_L_draw T) hr (pa_cons (pv 0) (pa_cons pe_int pa_nil))) (fun _ _ => rfl))) (pss_cons (ps_set (i := 3) sc_L_job.nd rfl (by first | exact Or.inl rfl | exact Or.inr rfl) (pe_ix ix_list (pe_lst (pa_cons pe_int (pa_cons pe_int (pa_cons (pe_k (k_L_draw T) hr (pa_cons (pv 0) (pa_cons pe_int pa_nil))) (pa_cons (pe_k (k_L_draw T) hr (pa_cons (pv 0) (pa_cons pe_int pa_nil))) pa_nil))))) (pe_k (k_L_draw T) hr (pa_cons (pv 0) (pa_cons pe_int pa_nil))) (fun _ _ => rfl))) (pss_cons (ps_set (i := 4) sc_L_job.nd rfl (by first | exact Or.inl rfl | exact Or.inr rfl) pe_non) (pss_cons (ps_if (pt_cmpR (op_eq) (pe_k (k_L_draw T) hr (pa_cons (pv 0) (pa_cons pe_int pa_nil))) pe_int (nomark _)) (pss_one (ps_set (i := 4) sc_L_job.nd rfl (by first | exact Or.inl rfl | exact Or.inr rfl) (pe_k (k_L_draw T) hr (pa_cons (pv 0) (pa_cons pe_int pa_nil))))) pss_nil) (pss_one (ps_ret (pe_tup (pa_cons pe_str (pa_cons (pv 1) (pa_cons (pv 2) (pa_cons (pe_k (k_L_draw T) hr (pa_cons (pv 0) (pa_cons pe_int pa_nil))) (pa_cons (pv 3) (pa_cons (pv 4) pa_nil)))))))))))))), ?_⟩
    refine rd_sa ?_
    refine ⟨_, rfl, by decide, b0, fun r1 H1 p1 q1 k1 b1 => ⟨_, rfl, by decide, b1, fun r2 H2 p2 q2 k2 b2 => ⟨_, rfl, by decide, b2, fun r3 H3 p3 q3 k3 b3 => ⟨_, rfl, by decide, b3, fun r4 H4 p4 q4 k4 b4 => ⟨_, _, rfl, rfl, by show 4 ≤ sizeLine; decide, fun l hl => ?_⟩⟩⟩⟩⟩
    have k04 := ((k1.trans k2).trans k3).trans k4
    refine ⟨_, rfl, by decide, b4.keep0 (Kp.new hl), fun r5 H5 p5 q5 k5 b5 => ?_⟩
    obtain ⟨hl5, k45⟩ := list_draw b4 hl k5
    obtain ⟨du, hdu, edu⟩ := pickI [0, r1, r2, r3 + r4] (fun i => 0 ≤ i ∧ i ≤ 1001) (by simp; omega) p5 (by show r5 < 4; exact q5)
    refine ⟨l, _, _, _, rfl, rfl, SqL.of hl5, edu, ?_⟩
    have k05 := k04.trans k45
    refine rd_sa ?_
    refine ⟨by show 3 ≤ sizeLine; decide, fun l2 hl2 => ?_⟩
    refine ⟨_, rfl, by decide, b5.keep0 (Kp.new hl2), fun r6 H6 p6 q6 k6 b6 => ?_⟩
    obtain ⟨hl6, k56⟩ := list_draw b5 hl2 k6
    obtain ⟨wv, ⟨g, rfl⟩, ewv⟩ := pickV [.str "gives", .str "gives", .str "throws"] (fun v => ∃ g : Bool, v = .str (if g = true then "gives" else "throws")) (by
      intro v hv
      simp only [List.mem_cons, List.not_mem_nil, or_false] at hv
      rcases hv with rfl | rfl | rfl
      · exact ⟨true, rfl⟩
      · exact ⟨true, rfl⟩
      · exact ⟨false, rfl⟩) p6 (by show r6 < 3; exact q6)
    refine ⟨l2, _, _, _, rfl, rfl, SqL.of hl6, ewv, ?_⟩
    refine rd_sa ?_
    refine ⟨_, rfl, by decide, b6, fun r7 H7 p7 q7 k7 b7 => ⟨_, rfl, by decide, b7, fun r8 H8 p8 q8 k8 b8 => ⟨by show 4 ≤ sizeLine; decide, fun l3 hl3 => ?_⟩⟩⟩
    refine ⟨_, rfl, by decide, b8.keep0 (Kp.new hl3), fun r9 H9 p9 q9 k9 b9 => ?_⟩
    obtain ⟨hl9, k89⟩ := list_draw b8 hl3 k9
    obtain ⟨cl, hcl, ecl⟩ := pickI [0, 0, r7, r8] (fun i => 0 ≤ i ∧ i ≤ 100) (by simp; omega) p9 (by show r9 < 4; exact q9)
    refine ⟨l3, _, _, _, rfl, rfl, SqL.of hl9, ecl, ?_⟩
    refine rd_sa ?_
    have k09 := ((k05.trans k56).trans (k7.trans k8)).trans k89
    have fin : ∀ (fv : V) (f : Option Int) (σ : L2.St) (Hx : Hp), Kp (some B) H Hx → BoxAt Hx B → fv = (match f with | none => V.non | some i => .int i) → (∀ x, f = some x → 0 ≤ x ∧ x ≤ 1000) → σ[0]? = some (some (.ref B)) → σ[1]? = some (some (.int du)) → σ[2]? = some (some (.str (if g = true then "gives" else "throws"))) → σ[3]? = some (some (.int cl)) → σ[4]? = some (some fv) →
        (tRet (tTup (tCons (tC (.str "job")) (tCons (tVar 1) (tCons (tVar 2) (tCons (tK (sp_draw K) (tCons (tVar 0) (tCons (tC (.int 1000)) tNil))) (tCons (tVar 3) (tCons (tVar 4) tNil)))))))) { nx := fun _ H' => Q .non H', rt := Q } σ Hx := by
      intro fv f σ Hx kx bx efv hf s0 s1 s2 s3 s4
      refine ⟨_, s1, _, s2, _, s0, by decide, bx, fun ra Ha pa qa ka ba => ⟨_, s3, _, s4, by show 6 ≤ sizeLine; decide, fun u hu => ?_⟩⟩
      refine r _ _ du g ra cl f ⟨hdu, ⟨pa, by omega⟩, hcl, hf⟩ ((kx.trans ka).trans (Kp.new hu)) (ba.keep0 (Kp.new hu)) (new_dd hu (.cons (.str _) (.cons (.int _) (.cons (.str _) (.cons (.int _) (.cons (.int _) (.cons ?_ .nil)))))))
      rw [efv]
      cases f with
      | none => exact .non
      | some i => exact .int i
    refine rd_seq ?_
    refine rd_if ?_
    refine ⟨_, rfl, by decide, b9, fun ra Ha pa qa ka ba => ⟨rfl, _, rfl, ?_⟩⟩
    refine itB (fun _ => ?_) (fun _ => ?_)
    · refine ⟨_, rfl, by decide, ba, fun rb Hb pb qb kb bb => ?_⟩
      exact fin _ (some rb) _ Hb ((k09.trans ka).trans kb) bb rfl (fun x hx => by injection hx with hx; omega) rfl rfl rfl rfl rfl
    · exact fin _ none _ Ha (k09.trans ka) ba rfl (fun x hx => by cases hx) rfl rfl rfl rfl rfl)
end
end Asf
set_option Elab.async false
set_option linter.all false
set_option maxRecDepth 100000
set_option maxHeartbeats 4000000
namespace Asf
open PySem PySem.Spec PyProof.Rows L2
inductive Op where
  | all | race | any | pool | timeout | sequence | orelse | retry
  deriving DecidableEq
def opS : Op → Str
  | .all => "all"
  | .race => "race"
  | .any => "any"
  | .pool => "pool"
  | .timeout => "timeout"
  | .sequence => "sequence"
  | .orelse => "orelse"
  | .retry => "retry"
/-- what it may stand over -/
def Fit (op : Op) (bs : List T) : Prop := match op with
  | .timeout => ∃ b, bs = [b]
  | .retry => ∃ b, bs = [b]
  | .orelse => ∃ a b, bs = [a, b]
  | _ => bs ≠ [] ∧ bs.length ≤ 6
def Made (op : Op) (bs : List T) (t : T) : Prop := kidsT t = bs ∧ (WFL bs → WF t) ∧ kindS t = opS op ∧ match op with
  | .retry => ∃ n d q, t = .retry n d q ∧ n ≤ 2
  | _ => runs t = runsL bs
section
variable {P : Program} {w : World} {K : PySem.W.Frag} {mg : Str → Option Value} {base : Heap}
theorem DDs.of_idx {H : Hp} : ∀ is : List Nat, DDs K H (iV is) (is.map eN)
  | [] => .nil
  | i :: is => .cons (.int _) (DDs.of_idx is)
theorem iV_int (is : List Nat) : iV is = (is.map fun n : Nat => (n : Int)).map V.int := by
  rw [List.map_map]
  rfl
theorem BoxAt.neV {H : Hp} {B p : Addr} {is : List Nat} (b : BoxAt H B) (hp : H p = some (.lst (iV is))) : some B ≠ some p := by
  rw [iV_int] at hp
  exact b.neI hp
def sp_whole (K : PySem.W.Frag) : Sp := fun vs H Q E => match vs with
  | [.ref B, .str kind, .ref tl] => ∃ op bs o, BoxAt H B ∧ kind = opS op ∧ H tl = some (.lst (iV (idxL bs o))) ∧ Fit op bs ∧ ∀ v H' t, Made op bs t → Kp (some B) H H' → BoxAt H' B → DD K H' v (eNode t o) → Q v H'
  | _ => False
theorem k_L_whole (T : Txt K mg) : Cal P w K mg base 2 "_law_whole" (He.ga K "_law_whole") ["_law_box", "_law_kind", "_law_tops"] (sp_whole K) :=
  cal_L_whole T (okF T.d_L_whole sc_L_whole (fun vs H Q E h => match vs, h with | [.ref _, .str _, .ref _], _ => rfl) fun cdv A outer s H vs Q E hr h => match vs, h with
  | [.ref B, .str kind, .ref tl], h => by
    obtain ⟨op, bs, o, b0, rfl, htl, fit, r⟩ := h
    refine ⟨_, (pss_cons (ps_if (pt_cmpR (op_eq) (pv 1) pe_str (nomark _)) (pss_one (ps_ret (pe_tup (pa_cons pe_str (pa_cons (pe_ix ix_list (pe_lst (pa_cons (pe_k (k_L_draw T) hr (pa_cons (pv 0) (pa_cons pe_int pa_nil))) (pa_cons (pe_k (k_L_draw T) hr (pa_cons (pv 0) (pa_cons pe_int pa_nil))) (pa_cons (pe_op op_add (pe_k (k_L_draw T) hr (pa_cons (pv 0) (pa_cons pe_int pa_nil))) (pe_k (k_L_draw T) hr (pa_cons (pv 0) (pa_cons pe_int pa_nil)))) pa_nil)))) (pe_k (k_L_draw T) hr (pa_cons (pv 0) (pa_cons pe_int pa_nil))) (fun _ _ => rfl)) (pa_cons (pe_ix ix_list (pv 2) (pe_un un_neg pe_int) (fun _ _ => rfl)) pa_nil)))))) pss_nil) (pss_cons (ps_if (pt_cmpR (op_eq) (pv 1) pe_str (nomark _)) (pss_one (ps_ret (pe_tup (pa_cons pe_str (pa_cons (pe_k (k_L_draw T) hr (pa_cons (pv 0) (pa_cons pe_int pa_nil))) (pa_cons (pe_ix ix_list (pe_lst (pa_cons pe_int (pa_cons (pe_k (k_L_draw T) hr (pa_cons (pv 0) (pa_cons pe_int pa_nil))) (pa_cons (pe_k (k_L_draw T) hr (pa_cons (pv 0) (pa_cons pe_int pa_nil))) pa_nil)))) (pe_k (k_L_draw T) hr (pa_cons (pv 0) (pa_cons pe_int pa_nil))) (fun _ _ => rfl)) (pa_cons (pe_ix ix_list (pv 2) (pe_un un_neg pe_int) (fun _ _ => rfl)) pa_nil))))))) pss_nil) (pss_cons (ps_if (pt_cmpR (op_eq) (pv 1) pe_str (nomark _)) (pss_one (ps_ret (pe_tup (pa_cons pe_str (pa_cons (pe_ix ix_list (pv 2) (pe_un un_neg pe_int) (fun _ _ => rfl)) (pa_cons (pe_ix ix_list (pv 2) (pe_un un_neg pe_int) (fun _ _ => rfl)) pa_nil)))))) pss_nil) (pss_cons (ps_if (pt_cmpR (op_eq) (pv 1) pe_str (nomark _)) (pss_one (ps_ret (pe_tup (pa_cons pe_str (pa_cons (pe_op op_add pe_int (pe_k (k_L_draw T) hr (pa_cons (pv 0) (pa_cons pe_int pa_nil)))) (pa_cons (pe_callTy call_tuple_of (by rfl) T.z_tuple (by decide +kernel) (pa_cons (pv 2) pa_nil)) pa_nil)))))) pss_nil) (pss_one (ps_ret (pe_tup (pa_cons (pv 1) (pa_cons (pe_callTy call_tuple_of (by rfl) T.z_tuple (by decide +kernel) (pa_cons (pv 2) pa_nil)) pa_nil))))))))), ?_⟩
    have hl0 : ∀ {H' : Hp}, Kp (some B) H H' → H' tl = some (.lst (iV (idxL bs o))) := fun k => k tl _ htl (b0.neV htl)
    refine rd_seq ?_
    refine rd_if ?_
    refine ⟨_, rfl, rfl, _, rfl, ?_⟩
    cases op with
    | timeout =>
      obtain ⟨b, rfl⟩ := fit
      refine itT (by decide) ?_
      refine ⟨_, rfl, by decide, b0, fun r1 H1 p1 q1 k1 b1 => ⟨_, rfl, by decide, b1, fun r2 H2 p2 q2 k2 b2 => ⟨_, rfl, by decide, b2, fun r3 H3 p3 q3 k3 b3 => ⟨_, rfl, by decide, b3, fun r4 H4 p4 q4 k4 b4 => ⟨_, _, rfl, rfl, by show 3 ≤ sizeLine; decide, fun l hl => ?_⟩⟩⟩⟩⟩
      refine ⟨_, rfl, by decide, b4.keep0 (Kp.new hl), fun r5 H5 p5 q5 k5 b5 => ?_⟩
      obtain ⟨hl5, k45⟩ := list_draw b4 hl k5
      obtain ⟨du, hdu, edu⟩ := pickI [r1, r2, r3 + r4] (fun i => 0 ≤ i ∧ i ≤ 1001) (by simp; omega) p5 (by show r5 < 3; exact q5)
      have k05 := (((k1.trans k2).trans k3).trans k4).trans k45
      refine ⟨l, _, _, _, rfl, rfl, SqL.of hl5, edu, ?_⟩
      refine ⟨_, rfl, _, rfl, tl, _, _, _, rfl, rfl, SqL.of (hl0 k05), rfl, by show 3 ≤ sizeLine; decide, fun u hu => ?_⟩
      exact r _ _ (.timeout du b) ⟨rfl, fun hw => ⟨hdu, hw.1⟩, rfl, by simp [runs, runsL]⟩ (k05.trans (Kp.new hu)) (b5.keep0 (Kp.new hu)) (new_dd hu (.cons (.str _) (.cons (.int _) (.cons (.int _) .nil))))
    | retry =>
      obtain ⟨b, rfl⟩ := fit
      refine elF (by decide) ?_
      refine rd_seq ?_
      refine rd_if ?_
      refine ⟨_, rfl, rfl, _, rfl, ?_⟩
      refine itT (by decide) ?_
      refine ⟨_, rfl, by decide, b0, fun r0 H0 p0 q0 k0 b0' => ?_⟩
      refine ⟨_, rfl, by decide, b0', fun r1 H1 p1 q1 k1 b1 => ⟨_, rfl, by decide, b1, fun r2 H2 p2 q2 k2 b2 => ⟨by show 3 ≤ sizeLine; decide, fun l hl => ?_⟩⟩⟩
      refine ⟨_, rfl, by decide, b2.keep0 (Kp.new hl), fun r5 H5 p5 q5 k5 b5 => ?_⟩
      obtain ⟨hl5, k45⟩ := list_draw b2 hl k5
      obtain ⟨du, hdu, edu⟩ := pickI [0, r1, r2] (fun i => 0 ≤ i ∧ i ≤ 100) (by simp; omega) p5 (by show r5 < 3; exact q5)
      have k05 := ((k0.trans k1).trans k2).trans k45
      refine ⟨l, _, _, _, rfl, rfl, SqL.of hl5, edu, ?_⟩
      refine ⟨_, rfl, _, rfl, tl, _, _, _, rfl, rfl, SqL.of (hl0 k05), rfl, by show 4 ≤ sizeLine; decide, fun u hu => ?_⟩
      obtain ⟨n, rfl⟩ : ∃ n : Nat, r0 = n := ⟨r0.toNat, by omega⟩
      exact r _ _ (.retry n du b) ⟨rfl, fun hw => ⟨by omega, hdu, hw.1⟩, rfl, n, du, b, rfl, by omega⟩ (k05.trans (Kp.new hu)) (b5.keep0 (Kp.new hu)) (new_dd hu (.cons (.str _) (.cons (.int _) (.cons (.int _) (.cons (.int _) .nil)))))
    | orelse =>
      obtain ⟨a, b, rfl⟩ := fit
      refine elF (by decide) ?_
      refine rd_seq ?_
      refine rd_if ?_
      refine ⟨_, rfl, rfl, _, rfl, ?_⟩
      refine elF (by decide) ?_
      refine rd_seq ?_
      refine rd_if ?_
      refine ⟨_, rfl, rfl, _, rfl, ?_⟩
      refine itT (by decide) ?_
      refine ⟨_, rfl, _, rfl, tl, _, _, _, rfl, rfl, SqL.of htl, rfl, _, rfl, _, rfl, tl, _, _, _, rfl, rfl, SqL.of htl, rfl, by show 3 ≤ sizeLine; decide, fun u hu => ?_⟩
      exact r _ _ (.orelse a b) ⟨rfl, fun hw => ⟨hw.1, hw.2.1⟩, rfl, by simp [runs, runsL]⟩ (Kp.new hu) (b0.keep0 (Kp.new hu)) (new_dd hu (.cons (.str _) (.cons (.int _) (.cons (.int _) .nil))))
    | pool =>
      refine elF (by decide) ?_
      refine rd_seq ?_
      refine rd_if ?_
      refine ⟨_, rfl, rfl, _, rfl, ?_⟩
      refine elF (by decide) ?_
      refine rd_seq ?_
      refine rd_if ?_
      refine ⟨_, rfl, rfl, _, rfl, ?_⟩
      refine elF (by decide) ?_
      refine rd_seq ?_
      refine rd_if ?_
      refine ⟨_, rfl, rfl, _, rfl, ?_⟩
      refine itT (by decide) ?_
      refine ⟨_, rfl, by decide, b0, fun r1 H1 p1 q1 k1 b1 => ⟨_, _, rfl, rfl, _, rfl, ?_⟩⟩
      refine ⟨tl, _, rfl, .inl ⟨SqL.of (hl0 k1), fun l hl => ⟨by show 3 ≤ sizeLine; decide, fun u hu => ?_⟩⟩⟩
      exact r _ _ (.pool (1 + r1) bs) ⟨rfl, fun hw => ⟨⟨by omega, by omega⟩, fit.1, fit.2, hw⟩, rfl, by simp [runs]⟩ ((k1.trans (Kp.new hl)).trans (Kp.new hu)) ((b1.keep0 (Kp.new hl)).keep0 (Kp.new hu)) (new_dd hu (.cons (.str _) (.cons (.int _) (.cons (new_dd hl (DDs.of_idx _)) .nil))))
    | all =>
      refine elF (by decide) ?_
      refine rd_seq ?_
      refine rd_if ?_
      refine ⟨_, rfl, rfl, _, rfl, ?_⟩
      refine elF (by decide) ?_
      refine rd_seq ?_
      refine rd_if ?_
      refine ⟨_, rfl, rfl, _, rfl, ?_⟩
      refine elF (by decide) ?_
      refine rd_seq ?_
      refine rd_if ?_
      refine ⟨_, rfl, rfl, _, rfl, ?_⟩
      refine elF (by decide) ?_
      refine ⟨_, rfl, _, rfl, tl, _, rfl, .inl ⟨SqL.of htl, fun l hl => ⟨by show 2 ≤ sizeLine; decide, fun u hu => ?_⟩⟩⟩
      exact r _ _ (.scope .all bs) ⟨rfl, fun hw => ⟨fit.1, fit.2, hw⟩, rfl, by simp [runs]⟩ ((Kp.new hl).trans (Kp.new hu)) ((b0.keep0 (Kp.new hl)).keep0 (Kp.new hu)) (new_dd hu (.cons (.str _) (.cons (new_dd hl (DDs.of_idx _)) .nil)))
    | race =>
      refine elF (by decide) ?_
      refine rd_seq ?_
      refine rd_if ?_
      refine ⟨_, rfl, rfl, _, rfl, ?_⟩
      refine elF (by decide) ?_
      refine rd_seq ?_
      refine rd_if ?_
      refine ⟨_, rfl, rfl, _, rfl, ?_⟩
      refine elF (by decide) ?_
      refine rd_seq ?_
      refine rd_if ?_
      refine ⟨_, rfl, rfl, _, rfl, ?_⟩
      refine elF (by decide) ?_
      refine ⟨_, rfl, _, rfl, tl, _, rfl, .inl ⟨SqL.of htl, fun l hl => ⟨by show 2 ≤ sizeLine; decide, fun u hu => ?_⟩⟩⟩
      exact r _ _ (.scope .race bs) ⟨rfl, fun hw => ⟨fit.1, fit.2, hw⟩, rfl, by simp [runs]⟩ ((Kp.new hl).trans (Kp.new hu)) ((b0.keep0 (Kp.new hl)).keep0 (Kp.new hu)) (new_dd hu (.cons (.str _) (.cons (new_dd hl (DDs.of_idx _)) .nil)))
    | any =>
      refine elF (by decide) ?_
      refine rd_seq ?_
      refine rd_if ?_
      refine ⟨_, rfl, rfl, _, rfl, ?_⟩
      refine elF (by decide) ?_
      refine rd_seq ?_
      refine rd_if ?_
      refine ⟨_, rfl, rfl, _, rfl, ?_⟩
      refine elF (by decide) ?_
      refine rd_seq ?_
      refine rd_if ?_
      refine ⟨_, rfl, rfl, _, rfl, ?_⟩
      refine elF (by decide) ?_
      refine ⟨_, rfl, _, rfl, tl, _, rfl, .inl ⟨SqL.of htl, fun l hl => ⟨by show 2 ≤ sizeLine; decide, fun u hu => ?_⟩⟩⟩
      exact r _ _ (.scope .any bs) ⟨rfl, fun hw => ⟨fit.1, fit.2, hw⟩, rfl, by simp [runs]⟩ ((Kp.new hl).trans (Kp.new hu)) ((b0.keep0 (Kp.new hl)).keep0 (Kp.new hu)) (new_dd hu (.cons (.str _) (.cons (new_dd hl (DDs.of_idx _)) .nil)))
    | sequence =>
      refine elF (by decide) ?_
      refine rd_seq ?_
      refine rd_if ?_
      refine ⟨_, rfl, rfl, _, rfl, ?_⟩
      refine elF (by decide) ?_
      refine rd_seq ?_
      refine rd_if ?_
      refine ⟨_, rfl, rfl, _, rfl, ?_⟩
      refine elF (by decide) ?_
      refine rd_seq ?_
      refine rd_if ?_
      refine ⟨_, rfl, rfl, _, rfl, ?_⟩
      refine elF (by decide) ?_
      refine ⟨_, rfl, _, rfl, tl, _, rfl, .inl ⟨SqL.of htl, fun l hl => ⟨by show 2 ≤ sizeLine; decide, fun u hu => ?_⟩⟩⟩
      exact r _ _ (.seq bs) ⟨rfl, fun hw => ⟨fit.1, fit.2, hw⟩, rfl, by simp [runs]⟩ ((Kp.new hl).trans (Kp.new hu)) ((b0.keep0 (Kp.new hl)).keep0 (Kp.new hu)) (new_dd hu (.cons (.str _) (.cons (new_dd hl (DDs.of_idx _)) .nil))))
end
end Asf
set_option Elab.async false
set_option linter.all false
set_option maxRecDepth 100000
set_option maxHeartbeats 4000000
namespace Asf
open PySem PySem.Spec PyProof.Rows L2
theorem cut_last {xs : List V} {m : Nat} (h1 : 1 ≤ m) (h2 : m ≤ xs.length) : L2.cutV xs (some (-(m : Int))) none = xs.drop (xs.length - m) := by
  unfold L2.cutV
  have e1 : HT.sIx xs.length 0 (some (-(m : Int))) = xs.length - m := by
    unfold HT.sIx
    dsimp only
    split <;> omega
  have e2 : HT.sIx xs.length xs.length none = xs.length := by
    unfold HT.sIx
    rfl
  rw [e1, e2]
  exact List.take_of_length_le (by rw [List.length_drop]; exact Nat.le_refl _)
theorem cut_init {xs : List V} {m : Nat} (h1 : 1 ≤ m) (h2 : m ≤ xs.length) : L2.cutV xs none (some (-(m : Int))) = xs.take (xs.length - m) := by
  unfold L2.cutV
  have e1 : HT.sIx xs.length xs.length (some (-(m : Int))) = xs.length - m := by
    unfold HT.sIx
    dsimp only
    split <;> omega
  have e2 : HT.sIx xs.length 0 none = 0 := by
    unfold HT.sIx
    rfl
  rw [e1, e2]
  rfl
theorem split_last {α : Type} {xs : List α} {m : Nat} (h : m ≤ xs.length) : ∃ as bs, xs = as ++ bs ∧ bs.length = m ∧ as.length = xs.length - m := ⟨xs.take (xs.length - m), xs.drop (xs.length - m), (List.take_append_drop _ _).symm, by rw [List.length_drop]; omega, by rw [List.length_take]; omega⟩
theorem take_as {α : Type} {as bs : List α} {n : Nat} (h : n = (as ++ bs).length - bs.length) : (as ++ bs).take n = as := by
  rw [h, List.length_append, Nat.add_sub_cancel]
  simp
theorem drop_as {α : Type} {as bs : List α} {n : Nat} (h : n = (as ++ bs).length - bs.length) : (as ++ bs).drop n = bs := by
  rw [h, List.length_append, Nat.add_sub_cancel]
  simp
theorem iV_app (as bs : List Nat) : iV (as ++ bs) = iV as ++ iV bs := List.map_append
/-- a list of numbers at δ that belongs to the trees -/
theorem cutI_last {as bs : List T} {f : T → Nat} {m : Nat} (h : bs.length = m) (h1 : 1 ≤ m) : L2.cutV (iV ((as ++ bs).map f)) (some (-(m : Int))) none = iV (bs.map f) := by
  rw [cut_last h1 (by simp; omega), List.map_append, iV_app]
  exact drop_as (by simp [h])
theorem cutI_init {as bs : List T} {f : T → Nat} {m : Nat} (h : bs.length = m) (h1 : 1 ≤ m) : L2.cutV (iV ((as ++ bs).map f)) none (some (-(m : Int))) = iV (as.map f) := by
  rw [cut_init h1 (by simp; omega), List.map_append, iV_app]
  exact take_as (by simp [h])
theorem cutT_last {as bs : List T} {m o : Nat} (h : bs.length = m) (h1 : 1 ≤ m) : L2.cutV (iV (idxL (as ++ bs) o)) (some (-(m : Int))) none = iV (idxL bs (o + sizeL as)) := by
  rw [cut_last h1 (by simp [idxL_length]; omega), idxL_append, iV_app]
  exact drop_as (by simp [h, idxL_length])
theorem cutT_init {as bs : List T} {m o : Nat} (h : bs.length = m) (h1 : 1 ≤ m) : L2.cutV (iV (idxL (as ++ bs) o)) none (some (-(m : Int))) = iV (idxL as o) := by
  rw [cut_init h1 (by simp [idxL_length]; omega), idxL_append, iV_app]
  exact take_as (by simp [h, idxL_length])
theorem ePlanL_snoc (ts : List T) (t : T) : ePlanL (ts ++ [t]) = ePlanL ts ++ [eAt ts.length t] := by
  show (ts ++ [t]).mapIdx eAt = _
  rw [List.mapIdx_append]
  simp
theorem subsL_made {as bs : List T} {t : T} (h : kidsT t = bs) : subsL (as ++ [t]) = subsL (as ++ bs) ++ [t] := by
  rw [subsL_append, subsL_append, List.append_assoc]
  congr 1
  show subs t ++ [] = _
  rw [subs_eq, h, List.append_nil]
theorem eAt_made {as bs : List T} {t : T} (h : kidsT t = bs) : eAt (subsL (as ++ bs)).length t = eNode t (sizeL as) := by
  have e : lo (subsL (as ++ bs)).length t = sizeL as := by
    unfold lo
    rw [subsL_len, sizeL_append, size_eq t, h]
    omega
  show eNode t (lo _ t) = _
  rw [e]
theorem idxL_made {as bs : List T} {t : T} (h : kidsT t = bs) : idxL (as ++ [t]) 0 = idxL as 0 ++ [sizeL (as ++ bs)] := by
  rw [idxL_append]
  congr 1
  show [0 + sizeL as + size t - 1] = _
  rw [size_eq t, h, sizeL_append, Nat.zero_add]
  rfl
theorem runsL_append : ∀ as bs : List T, runsL (as ++ bs) = runsL as + runsL bs
  | [], _ => by simp [runsL]
  | a :: as, bs => by simp [runsL, runsL_append as bs, Nat.add_assoc]
theorem runsL_sum : ∀ ts : List T, ((ts.map runs).map fun n : Nat => (n : Int)).sum = (runsL ts : Int)
  | [] => rfl
  | t :: ts => by
    have ih := runsL_sum ts
    rw [List.map_cons, List.map_cons, List.sum_cons, ih]
    show (runs t : Int) + _ = ((runs t + runsL ts : Nat) : Int)
    omega
theorem depthL_max : ∀ (bs : List T) (m : Int), m ∈ ((bs.map depth).map fun n : Nat => (n : Int)) → (∀ y ∈ ((bs.map depth).map fun n : Nat => (n : Int)), y ≤ m) → m = (depthL bs : Int) := by
  intro bs m h1 h2
  have up : ∀ bs : List T, ∀ b ∈ bs, depth b ≤ depthL bs := depthL_le
  have lo : ∀ bs : List T, bs ≠ [] → ∃ b ∈ bs, depthL bs = depth b := by
    intro bs
    induction bs with
    | nil => intro h; exact absurd rfl h
    | cons b bs ih =>
      intro _
      by_cases hb : bs = []
      · subst hb
        exact ⟨b, List.mem_cons_self, by simp [depthL]⟩
      · obtain ⟨c, hc, e⟩ := ih hb
        simp only [depthL]
        by_cases hm : depth b ≤ depthL bs
        · exact ⟨c, List.mem_cons_of_mem _ hc, by omega⟩
        · exact ⟨b, List.mem_cons_self, by omega⟩
  rw [List.map_map] at h1 h2
  obtain ⟨b, hb, e⟩ := List.mem_map.mp h1
  have e : (depth b : Int) = m := e
  obtain ⟨c, hc, e2⟩ := lo bs (fun z => by rw [z] at hb; cases hb)
  have h3 := h2 (depth c : Int) (List.mem_map.mpr ⟨c, hc, rfl⟩)
  have h4 := up bs b hb
  omega
theorem WFL_append : ∀ as bs : List T, WFL (as ++ bs) ↔ WFL as ∧ WFL bs
  | [], _ => by simp [WFL]
  | a :: as, bs => by simp [WFL, WFL_append as bs, and_assoc]
def rMn2 : List V → Hp → VK → Prop := fun xs H Q => ∃ i j, xs = [.int i, .int j] ∧ Q (.int (if j < i then j else i)) H
theorem call_mn2 {X : Cx} (hc : X.calm = true) : CallR X (.builtin "min") rMn2 := call_min2 hc
theorem rd_sc {v : V} {i : Nat} {u : TS} {D : Ends} {σ : L2.St} {H : Hp} (h : u D (σ.set i (some v)) H) : tSeq (tAsg (tC v) (gName i)) u D σ H := h
end Asf
set_option Elab.async false
set_option linter.all false
set_option maxRecDepth 100000
set_option maxHeartbeats 4000000
namespace Asf
open PySem PySem.Spec PyProof.Rows L2
section
variable {P : Program} {w : World} {K : PySem.W.Frag} {mg : Str → Option Value} {base : Heap}
/-- the plan as far as it is drawn: a forest -/
structure PSt (K : PySem.W.Frag) (H : Hp) (B n0 τ δ ρ : Addr) (ts : List T) : Prop where
  nv : ∃ nv, H n0 = some (.lst nv) ∧ DDs K H nv (ePlanL (subsL ts))
  ht : H τ = some (.lst (iV (idxL ts 0)))
  hd : H δ = some (.lst (iV (ts.map depth)))
  hr : H ρ = some (.lst (iV (ts.map runs)))
  n1 : n0 ≠ τ ∧ n0 ≠ δ ∧ n0 ≠ ρ
  n2 : τ ≠ δ ∧ τ ≠ ρ ∧ δ ≠ ρ
  nB : B ≠ n0 ∧ B ≠ τ ∧ B ≠ δ ∧ B ≠ ρ
  bx : BoxAt H B
  wf : WFL ts
  dp : ∀ t ∈ ts, depth t ≤ 6
theorem PSt.keepB {H H' : Hp} {B n0 τ δ ρ : Addr} {ts : List T} (s : PSt K H B n0 τ δ ρ ts) (k : Kp (some B) H H') (b : BoxAt H' B) : PSt K H' B n0 τ δ ρ ts := by
  obtain ⟨⟨nv, h1, h2⟩, h3, h4, h5, n1, n2, nB, bx, wf, dp⟩ := s
  have ne : ∀ {a : Addr}, B ≠ a → some B ≠ some a := fun h e => h (Option.some.inj e)
  exact ⟨⟨nv, k _ _ h1 (ne nB.1), DDs.mono (bx.tk k) _ _ h2⟩, k _ _ h3 (ne nB.2.1), k _ _ h4 (ne nB.2.2.1), k _ _ h5 (ne nB.2.2.2), n1, n2, nB, b, wf, dp⟩
theorem PSt.keep0 {H H' : Hp} {B n0 τ δ ρ : Addr} {ts : List T} (s : PSt K H B n0 τ δ ρ ts) (k : Kp none H H') : PSt K H' B n0 τ δ ρ ts := s.keepB k.weak (s.bx.keep0 k)
def spans (ts : List T) (i : Nat) : Prop := sizeL ts ≤ 3 * i ∧ ts.length ≤ i ∧ runsL ts ≤ 50 + i
theorem sb_ne {B a : Addr} (h : B ≠ a) : some B ≠ some a := fun e => h (Option.some.inj e)
def PI0 (K : PySem.W.Frag) (H0 : Hp) (B n0 : Addr) (jv : V) (Pr : List T → Prop) (σ : L2.St) (H : Hp) : Prop :=
  ∃ τ δ ρ ts x6 x7 x8 x9 x10, σ = [some (.ref B), some jv, some (.ref n0), some (.ref τ), some (.ref δ), some (.ref ρ), x6, x7, x8, x9, x10] ∧ PSt K H B n0 τ δ ρ ts ∧ Kp (some B) H0 H ∧ (H0 n0 = none ∧ H0 τ = none ∧ H0 δ = none ∧ H0 ρ = none) ∧ Pr ts
/-- how many parts -/
def Many (op : Op) (m len : Nat) : Prop := 1 ≤ m ∧ m ≤ 6 ∧ match op with
  | .timeout => m = 1
  | .retry => m = 1
  | .orelse => m = 2
  | _ => m ≤ len
theorem Many.fit {op : Op} {m len : Nat} {bs : List T} (h : Many op m len) (e : bs.length = m) : Fit op bs := by
  obtain ⟨h1, h2, h3⟩ := h
  have one : m = 1 → ∃ b, bs = [b] := fun q => List.length_eq_one_iff.mp (by omega)
  have gen : bs ≠ [] ∧ bs.length ≤ 6 := ⟨fun z => by rw [z] at e; simp at e; omega, by omega⟩
  cases op with
  | timeout => exact one h3
  | retry => exact one h3
  | orelse =>
    match bs, e with
    | [a, b], _ => exact ⟨a, b, rfl⟩
    | [], e => simp at e; omega
    | [a], e => simp at e; omega
    | a :: b :: c :: r, e => simp at e; omega
  | all => exact gen
  | race => exact gen
  | any => exact gen
  | pool => exact gen
  | sequence => exact gen
theorem ePlanL_tup (ts : List T) (d : PyData) (h : d ∈ ePlanL ts) : ∃ ds, d = .tuple ds := by
  obtain ⟨j, hj, e⟩ := List.getElem_of_mem h
  rw [List.getElem_mapIdx] at e
  exact ⟨_, e.symm⟩
theorem PSt.push {H : Hp} {B n0 τ δ ρ : Addr} {ts : List T} {nv : List V} {v : V} {jd jz jc : Int} {jg : Bool} {jf : Option Int} {z : Int} (S : PSt K H B n0 τ δ ρ ts) (hnv : H n0 = some (.lst nv)) (hnd : DDs K H nv (ePlanL (subsL ts))) (hv : DD K H v (eNode (.job jd jg jz jc jf) 0)) (hw : WF (.job jd jg jz jc jf)) (hz : z = (sizeL ts : Nat)) :
    PSt K (upd (upd (upd (upd H n0 (.lst (nv ++ [v]))) τ (.lst (iV (idxL ts 0) ++ [.int z]))) δ (.lst (iV (ts.map depth) ++ [.int 1]))) ρ (.lst (iV (ts.map runs) ++ [.int 1]))) B n0 τ δ ρ (ts ++ [.job jd jg jz jc jf]) := by
  subst hz
  obtain ⟨_, h3, h4, h5, ⟨n1, n2, n3⟩, ⟨n4, n5, n6⟩, ⟨b1, b2, b3, b4⟩, bx, wf, dp⟩ := S
  have t1 : TK H (upd H n0 (.lst (nv ++ [v]))) := TK.put hnv (fun xs z => by cases z)
  have t2 : TK (upd H n0 (.lst (nv ++ [v]))) (upd (upd H n0 (.lst (nv ++ [v]))) τ (.lst (iV (idxL ts 0) ++ [.int (sizeL ts : Nat)]))) := TK.put (by rw [upd_ne (Ne.symm n1)]; exact h3) (fun xs z => by cases z)
  have t3 : TK (upd (upd H n0 (.lst (nv ++ [v]))) τ (.lst (iV (idxL ts 0) ++ [.int (sizeL ts : Nat)]))) (upd (upd (upd H n0 (.lst (nv ++ [v]))) τ (.lst (iV (idxL ts 0) ++ [.int (sizeL ts : Nat)]))) δ (.lst (iV (ts.map depth) ++ [.int 1]))) := TK.put (by rw [upd_ne (Ne.symm n4), upd_ne (Ne.symm n2)]; exact h4) (fun xs z => by cases z)
  have t4 : TK (upd (upd (upd H n0 (.lst (nv ++ [v]))) τ (.lst (iV (idxL ts 0) ++ [.int (sizeL ts : Nat)]))) δ (.lst (iV (ts.map depth) ++ [.int 1]))) (upd (upd (upd (upd H n0 (.lst (nv ++ [v]))) τ (.lst (iV (idxL ts 0) ++ [.int (sizeL ts : Nat)]))) δ (.lst (iV (ts.map depth) ++ [.int 1]))) ρ (.lst (iV (ts.map runs) ++ [.int 1]))) :=
    TK.put (by rw [upd_ne (Ne.symm n6), upd_ne (Ne.symm n5), upd_ne (Ne.symm n3)]; exact h5) (fun xs z => by cases z)
  have tk := ((t1.trans t2).trans t3).trans t4
  have es : subsL (ts ++ [.job jd jg jz jc jf]) = subsL ts ++ [.job jd jg jz jc jf] := by
    have := subsL_made (as := ts) (bs := []) (t := .job jd jg jz jc jf) rfl
    rw [List.append_nil] at this
    exact this
  have ei : idxL (ts ++ [.job jd jg jz jc jf]) 0 = idxL ts 0 ++ [sizeL ts] := by
    have := idxL_made (as := ts) (bs := []) (t := .job jd jg jz jc jf) rfl
    rw [List.append_nil] at this
    exact this
  refine ⟨⟨nv ++ [v], ?_, ?_⟩, ?_, ?_, ?_, ⟨n1, n2, n3⟩, ⟨n4, n5, n6⟩, ⟨b1, b2, b3, b4⟩, ?_, ?_, ?_⟩
  · rw [upd_ne n3, upd_ne n2, upd_ne n1, upd_same]
  · rw [es, ePlanL_snoc]
    exact (DDs.mono tk _ _ hnd).app (.cons (DD.mono tk _ _ hv) .nil)
  · rw [upd_ne n5, upd_ne n4, upd_same, ei, iV_app]
    rfl
  · rw [upd_ne n6, upd_same, List.map_append, iV_app]
    rfl
  · rw [upd_same, List.map_append, iV_app]
    rfl
  · obtain ⟨dg, n, is, q1, q2, q3⟩ := bx
    have e1 : dg ≠ n0 := fun e => by
      rw [e, hnv] at q2
      injection q2 with q2
      injection q2 with q2
      subst q2
      cases is with
      | nil => exact q3 rfl
      | cons i is =>
        cases hs : ePlanL (subsL ts) with
        | nil => rw [hs] at hnd; cases hnd
        | cons d ds =>
          rw [hs] at hnd
          cases hnd with
          | cons q5 q6 =>
            have hd := ePlanL_tup (subsL ts) d (by rw [hs]; exact List.mem_cons_self)
            obtain ⟨zs, rfl⟩ := hd
            cases q5
    refine ⟨dg, n, ?_⟩
    have qB : (upd (upd (upd (upd H n0 (.lst (nv ++ [v]))) τ (.lst (iV (idxL ts 0) ++ [.int (sizeL ts : Nat)]))) δ (.lst (iV (ts.map depth) ++ [.int 1]))) ρ (.lst (iV (ts.map runs) ++ [.int 1]))) B = some (.lst [.ref dg, .int n]) := by
      rw [upd_ne b4, upd_ne b3, upd_ne b2, upd_ne b1]
      exact q1
    have snoc : ∀ (l : List Nat) (z : Nat), iV l ++ [.int (z : Nat)] = ((l ++ [z]).map fun n : Nat => (n : Int)).map V.int := fun l z => by
      rw [← iV_int, iV_app]
      rfl
    have ne : ∀ (l : List Nat) (z : Nat), ((l ++ [z]).map fun n : Nat => (n : Int)) ≠ [] := fun l z h => by simp at h
    by_cases e4 : dg = ρ
    · exact ⟨_, qB, by rw [e4, upd_same]; exact congrArg (fun l => some (HO.lst l)) (snoc (ts.map runs) 1), ne _ _⟩
    by_cases e3 : dg = δ
    · exact ⟨_, qB, by rw [upd_ne e4, e3, upd_same]; exact congrArg (fun l => some (HO.lst l)) (snoc (ts.map depth) 1), ne _ _⟩
    by_cases e2 : dg = τ
    · exact ⟨_, qB, by rw [upd_ne e4, upd_ne e3, e2, upd_same]; exact congrArg (fun l => some (HO.lst l)) (snoc (idxL ts 0) (sizeL ts)), ne _ _⟩
    exact ⟨is, qB, by rw [upd_ne e4, upd_ne e3, upd_ne e2, upd_ne e1]; exact q2, q3⟩
  · rw [WFL_append]
    exact ⟨wf, hw, trivial⟩
  · intro t ht
    rcases List.mem_append.mp ht with ht | ht
    · exact dp t ht
    · rw [List.mem_singleton.mp ht]
      show 1 ≤ 6
      decide
theorem BoxAt.putN {H : Hp} {B n0 : Addr} {ts : List T} {nv : List V} {v : V} (bx : BoxAt H B) (b1 : B ≠ n0) (hnv : H n0 = some (.lst nv)) (hnd : DDs K H nv (ePlanL ts)) : BoxAt (upd H n0 (.lst (nv ++ [v]))) B := by
  obtain ⟨dg, n, is, q1, q2, q3⟩ := bx
  have e1 : dg ≠ n0 := fun e => by
    rw [e, hnv] at q2
    injection q2 with q2
    injection q2 with q2
    subst q2
    cases is with
    | nil => exact q3 rfl
    | cons i is =>
      cases hs : ePlanL ts with
      | nil => rw [hs] at hnd; cases hnd
      | cons d ds =>
        rw [hs] at hnd
        cases hnd with
        | cons q5 q6 =>
          have hd := ePlanL_tup ts d (by rw [hs]; exact List.mem_cons_self)
          obtain ⟨zs, rfl⟩ := hd
          cases q5
  exact ⟨dg, n, is, by rw [upd_ne b1]; exact q1, by rw [upd_ne e1]; exact q2, q3⟩
theorem PSt.made {H Hc : Hp} {B n0 τ δ ρ τ' δ' ρ' : Addr} {as bs : List T} {t : T} {nv : List V} {v : V} (S : PSt K H B n0 τ δ ρ (as ++ bs)) (hnv : H n0 = some (.lst nv)) (hnd : DDs K H nv (ePlanL (subsL (as ++ bs)))) (hv : DD K H v (eNode t (sizeL as))) (hk : kidsT t = bs) (hw : WF t) (hd : depth t ≤ 6)
    (k : Kp none (upd H n0 (.lst (nv ++ [v]))) Hc) (h1 : Hc τ' = some (.lst (iV (idxL as 0) ++ [.int (sizeL (as ++ bs) : Nat)]))) (h2 : Hc δ' = some (.lst (iV (as.map depth) ++ [.int (depth t : Nat)]))) (h3 : Hc ρ' = some (.lst (iV (as.map runs) ++ [.int (runs t : Nat)])))
    (f1 : (upd H n0 (.lst (nv ++ [v]))) τ' = none) (f2 : (upd H n0 (.lst (nv ++ [v]))) δ' = none) (f3 : (upd H n0 (.lst (nv ++ [v]))) ρ' = none) (d : τ' ≠ δ' ∧ τ' ≠ ρ' ∧ δ' ≠ ρ') : PSt K Hc B n0 τ' δ' ρ' (as ++ [t]) := by
  have bx6 : BoxAt (upd H n0 (.lst (nv ++ [v]))) B := S.bx.putN S.nB.1 hnv hnd
  have tp : TK H (upd H n0 (.lst (nv ++ [v]))) := TK.put hnv (fun xs z => by cases z)
  have nn : ∀ {a : Addr}, (upd H n0 (.lst (nv ++ [v]))) a = none → n0 ≠ a := fun h e => by rw [← e, upd_same] at h; cases h
  have bn : ∀ {a : Addr}, (upd H n0 (.lst (nv ++ [v]))) a = none → B ≠ a := fun h e => bx6.ne h (by rw [e])
  refine ⟨⟨nv ++ [v], k _ _ upd_same (by simp), ?_⟩, ?_, ?_, ?_, ⟨nn f1, nn f2, nn f3⟩, d, ⟨S.nB.1, bn f1, bn f2, bn f3⟩, bx6.keep0 k, ?_, ?_⟩
  · rw [subsL_made hk, ePlanL_snoc, eAt_made hk]
    exact (DDs.mono k.tk0 _ _ (DDs.mono tp _ _ hnd)).app (.cons (DD.mono k.tk0 _ _ (DD.mono tp _ _ hv)) .nil)
  · rw [h1, idxL_made hk, iV_app]
    rfl
  · rw [h2, List.map_append, iV_app]
    rfl
  · rw [h3, List.map_append, iV_app]
    rfl
  · rw [WFL_append]
    exact ⟨((WFL_append as bs).mp S.wf).1, hw, trivial⟩
  · intro x hx
    rcases List.mem_append.mp hx with hx | hx
    · exact S.dp x (List.mem_append_left _ hx)
    · rw [List.mem_singleton.mp hx]
      exact hd
/-- nodes and tops alone -/
structure P2 (K : PySem.W.Frag) (H : Hp) (B n0 τ : Addr) (ts : List T) : Prop where
  nv : ∃ nv, H n0 = some (.lst nv) ∧ DDs K H nv (ePlanL (subsL ts))
  ht : H τ = some (.lst (iV (idxL ts 0)))
  n1 : n0 ≠ τ
  nB : B ≠ n0 ∧ B ≠ τ
  bx : BoxAt H B
  wf : WFL ts
theorem PSt.p2 {H : Hp} {B n0 τ δ ρ : Addr} {ts : List T} (s : PSt K H B n0 τ δ ρ ts) : P2 K H B n0 τ ts := ⟨s.nv, s.ht, s.n1.1, ⟨s.nB.1, s.nB.2.1⟩, s.bx, s.wf⟩
theorem P2.keepB {H H' : Hp} {B n0 τ : Addr} {ts : List T} (s : P2 K H B n0 τ ts) (k : Kp (some B) H H') (b : BoxAt H' B) : P2 K H' B n0 τ ts := by
  obtain ⟨⟨nv, h1, h2⟩, h3, n1, nB, bx, wf⟩ := s
  exact ⟨⟨nv, k _ _ h1 (sb_ne nB.1), DDs.mono (bx.tk k) _ _ h2⟩, k _ _ h3 (sb_ne nB.2), n1, nB, b, wf⟩
theorem P2.keep0 {H H' : Hp} {B n0 τ : Addr} {ts : List T} (s : P2 K H B n0 τ ts) (k : Kp none H H') : P2 K H' B n0 τ ts := s.keepB k.weak (s.bx.keep0 k)
theorem P2.made {H Hc : Hp} {B n0 τ τ' : Addr} {as bs : List T} {t : T} {nv : List V} {v : V} (S : P2 K H B n0 τ (as ++ bs)) (hnv : H n0 = some (.lst nv)) (hnd : DDs K H nv (ePlanL (subsL (as ++ bs)))) (hv : DD K H v (eNode t (sizeL as))) (hk : kidsT t = bs) (hw : WF t)
    (k : Kp none (upd H n0 (.lst (nv ++ [v]))) Hc) (h1 : Hc τ' = some (.lst (iV (idxL as 0) ++ [.int (sizeL (as ++ bs) : Nat)]))) (f1 : (upd H n0 (.lst (nv ++ [v]))) τ' = none) : P2 K Hc B n0 τ' (as ++ [t]) := by
  have bx6 : BoxAt (upd H n0 (.lst (nv ++ [v]))) B := S.bx.putN S.nB.1 hnv hnd
  have tp : TK H (upd H n0 (.lst (nv ++ [v]))) := TK.put hnv (fun xs z => by cases z)
  have nn : ∀ {a : Addr}, (upd H n0 (.lst (nv ++ [v]))) a = none → n0 ≠ a := fun h e => by rw [← e, upd_same] at h; cases h
  have bn : ∀ {a : Addr}, (upd H n0 (.lst (nv ++ [v]))) a = none → B ≠ a := fun h e => bx6.ne h (by rw [e])
  refine ⟨⟨nv ++ [v], k _ _ upd_same (by simp), ?_⟩, ?_, nn f1, ⟨S.nB.1, bn f1⟩, bx6.keep0 k, ?_⟩
  · rw [subsL_made hk, ePlanL_snoc, eAt_made hk]
    exact (DDs.mono k.tk0 _ _ (DDs.mono tp _ _ hnd)).app (.cons (DD.mono k.tk0 _ _ (DD.mono tp _ _ hv)) .nil)
  · rw [h1, idxL_made hk, iV_app]
    rfl
  · rw [WFL_append]
    exact ⟨((WFL_append as bs).mp S.wf).1, hw, trivial⟩
section
variable {H : Hp} {Nx Bk Ct : L2.St → Hp → Prop} {Rt : VK}
theorem plan_many {B n0 τ δ ρ : Addr} {ts : List T} {jv : V} {x6 x7 x10 : Option V} {op : Op} (S : PSt K H B n0 τ δ ρ ts) (hne : ts ≠ [])
    (r : ∀ (m : Nat) H', Many op m ts.length → Kp (some B) H H' → BoxAt H' B → Nx [some (.ref B), some jv, some (.ref n0), some (.ref τ), some (.ref δ), some (.ref ρ), x6, x7, some (.str (opS op)), some (.int (m : Nat)), x10] H') :
    (tIfS (tTest (tOp rEq (tVar 8) (tC (.str "orelse")))) (tAsg (tC (.int 2)) (gName 9)) (tIfS (tTest (tOp (rIn K true) (tVar 8) (tTup (tCons (tC (.str "timeout")) (tCons (tC (.str "retry")) tNil))))) (tAsg (tOp (rI0 fun i j => .int (i + j)) (tC (.int 1)) (tK (sp_draw K) (tCons (tVar 0) (tCons (tCB rMn2 (tCons (tC (.int 6)) (tCons (tCB (rLenQ K) (tCons (tVar 3) tNil)) tNil))) tNil)))) (gName 9)) tNext)) { nx := Nx, bk := Bk, ct := Ct, rt := Rt } [some (.ref B), some jv, some (.ref n0), some (.ref τ), some (.ref δ), some (.ref ρ), x6, x7, some (.str (opS op)), some (.int 1), x10] H := by
  refine rd_if ?_
  refine ⟨_, rfl, rfl, _, rfl, ?_⟩
  have hpos : 1 ≤ ts.length := by
    have := List.length_pos_iff.mpr hne
    omega
  by_cases ho : op = .orelse
  · subst ho
    refine itT (by decide) ?_
    exact r 2 H ⟨by decide, by decide, rfl⟩ (Kp.refl _ _) S.bx
  · refine itF (by cases op <;> first | decide | exact absurd rfl ho) ?_
    refine rd_if ?_
    refine ⟨_, rfl, by show 2 ≤ sizeLine; decide, fun p hp => ?_⟩
    have k1 : Kp none H (upd H p (.tup [.str "timeout", .str "retry"])) := Kp.new hp
    refine ⟨p, _, rfl, .inr (SqT.of upd_same), rfl, rfl, _, rfl, ?_⟩
    by_cases h1 : op = .timeout ∨ op = .retry
    · refine itF (by rcases h1 with rfl | rfl <;> decide) ?_
      refine r 1 _ ⟨by decide, by decide, ?_⟩ k1.weak (S.bx.keep0 k1)
      rcases h1 with rfl | rfl <;> rfl
    · have hn : ∀ op : Op, op ≠ .timeout → op ≠ .retry → (if true = true then !inV (.str (opS op)) [.str "timeout", .str "retry"] else inV (.str (opS op)) [.str "timeout", .str "retry"]) = true := by
        intro op a b
        cases op <;> first | decide | exact absurd rfl a | exact absurd rfl b
      refine itT (hn op (fun z => h1 (.inl z)) (fun z => h1 (.inr z))) ?_
      refine ⟨_, rfl, _, rfl, τ, _, rfl, .inl (SqL.of (k1 _ _ S.ht (by simp))), 6, _, rfl, ?_⟩
      have el : (iV (idxL ts 0)).length = ts.length := by rw [List.length_map, idxL_length]
      rw [el]
      refine ⟨?_, S.bx.keep0 k1, fun r0 H2 p0 q0 k2 b2 => ⟨_, _, rfl, rfl, ?_⟩⟩
      · split <;> omega
      obtain ⟨m0, rfl⟩ : ∃ m0 : Nat, r0 = m0 := ⟨r0.toNat, by omega⟩
      have hm : (m0 : Int) < 6 ∧ (m0 : Int) < (ts.length : Int) := by
        split at q0 <;> omega
      have q := r (m0 + 1) H2 ⟨by omega, by omega, by cases op <;> first | exact absurd rfl ho | exact absurd (.inl rfl) h1 | exact absurd (.inr rfl) h1 | (show m0 + 1 ≤ ts.length; omega)⟩ (k1.weak.trans k2) b2
      rw [show ((m0 + 1 : Nat) : Int) = (1 : Int) + (m0 : Int) by omega] at q
      exact q
theorem plan_times {H : Hp} {B n0 τ δ ρ : Addr} {jv : V} {m : Int} {x6 x7 : Option V} {op : Op} {bs : List Asf.T} {t : Asf.T} {nv : List V} {v : V} {o : Nat} (hmade : Made op bs t) (hnv : H n0 = some (.lst (nv ++ [v]))) (hv : DD K H v (eNode t o))
    (r : ∀ tm : Nat, 1 ≤ tm → tm ≤ 3 → runs t = tm * runsL bs → Nx [some (.ref B), some jv, some (.ref n0), some (.ref τ), some (.ref δ), some (.ref ρ), x6, x7, some (.str (opS op)), some (.int m), some (.int (tm : Nat))] H) :
    (tIfS (tTest (tOp rEq (tVar 8) (tC (.str "retry")))) (tAsg (tOp (rI0 fun i j => .int (i + j)) (tC (.int 1)) (tOp (rIxD K) (tOp (rIxL K) (tVar 2) (tUn (rU fun i => .int (-i)) (tC (.int 1)))) (tC (.int 1)))) (gName 10)) tNext) { nx := Nx, bk := Bk, ct := Ct, rt := Rt } [some (.ref B), some jv, some (.ref n0), some (.ref τ), some (.ref δ), some (.ref ρ), x6, x7, some (.str (opS op)), some (.int m), some (.int 1)] H := by
  refine rd_if ?_
  refine ⟨_, rfl, rfl, _, rfl, ?_⟩
  obtain ⟨m1, m2, m3, m4⟩ := hmade
  by_cases ho : op = .retry
  · subst ho
    obtain ⟨n, dd, q, rfl, hn⟩ := m4
    refine itT (by decide) ?_
    refine ⟨_, rfl, _, rfl, n0, _, _, v, rfl, rfl, SqL.of hnv, L2.atI_last nv v, _, _, _, hv, rfl, rfl, fun z hz => ?_⟩
    cases hz.to_int
    refine ⟨_, _, rfl, rfl, ?_⟩
    have q := r (n + 1) (by omega) (by omega) (by rw [← m1]; simp [runs, runsL, kidsT])
    rw [show ((n + 1 : Nat) : Int) = 1 + (n : Int) by omega] at q
    exact q
  · refine itF (by cases op <;> first | decide | exact absurd rfl ho) ?_
    refine r 1 (by omega) (by omega) ?_
    rw [Nat.one_mul]
    cases op <;> first | exact absurd rfl ho | exact m4
end
end
end Asf
set_option Elab.async false
set_option linter.all false
set_option maxRecDepth 100000
set_option maxHeartbeats 4000000
namespace Asf
open PySem PySem.Spec PyProof.Rows L2
section
variable {P : Program} {w : World} {K : PySem.W.Frag} {mg : Str → Option Value} {base : Heap}
def sp_plan (K : PySem.W.Frag) : Sp := fun vs H Q E => match vs with
  | [.ref B, .int jobs] => jobs = 6 ∧ BoxAt H B ∧ ∀ v H' t, WF t → depth t ≤ 7 → runs t ≤ 56 → size t ≤ 19 → Kp (some B) H H' → BoxAt H' B → DD K H' v (ePlan (subs t)) → Q v H'
  | _ => False
theorem k_L_plan (T : Txt K mg) : Cal P w K mg base 3 "_law_plan" (He.ga K "_law_plan") ["_law_box", "_law_jobs"] (sp_plan K) :=
  cal_L_plan T (okF T.d_L_plan sc_L_plan (fun vs H Q E h => match vs, h with | [.ref _, .int _], _ => rfl) fun cdv A outer s H vs Q E hr h => match vs, h with
  | [.ref B, .int jobs], h => by
    obtain ⟨rfl, b0, r⟩ := h
    refine ⟨_, (pss_cons (ps_set (i := 2) sc_L_plan.nd rfl (by first | exact Or.inl rfl | exact Or.inr rfl) (pe_lst pa_nil)) (pss_cons (ps_set (i := 3) sc_L_plan.nd rfl (by first | exact Or.inl rfl | exact Or.inr rfl) (pe_lst pa_nil)) (pss_cons (ps_set (i := 4) sc_L_plan.nd rfl (by first | exact Or.inl rfl | exact Or.inr rfl) (pe_lst pa_nil)) (pss_cons (ps_set (i := 5) sc_L_plan.nd rfl (by first | exact Or.inl rfl | exact Or.inr rfl) (pe_lst pa_nil)) (pss_cons (ps_for PassesOwn.never rfl (pi_range1 rfl T.z_range (pa_cons (pe_op op_add pe_int (pe_k (k_L_draw T) hr (pa_cons (pv 0) (pa_cons (pv 1) pa_nil)))) pa_nil)) (pg_name (i := 6) sc_L_plan.nd rfl (by first | exact Or.inl rfl | exact Or.inr rfl)) (pss_cons (ps_expr (pe_bm PySem.F.plainAttrs_list PySem.F.slot_list_append PySem.F.type_list_append mt_append (pv 2) (pa_cons (pe_k (k_L_job T) hr (pa_cons (pv 0) pa_nil)) pa_nil))) (pss_cons (ps_expr (pe_bm PySem.F.plainAttrs_list PySem.F.slot_list_append PySem.F.type_list_append mt_append (pv 3) (pa_cons (pe_op op_sub (pe_callB (call_lenQ) (by rfl) T.z_len (by decide +kernel) (pa_cons (pv 2) pa_nil)) pe_int) pa_nil))) (pss_cons (ps_expr (pe_bm PySem.F.plainAttrs_list PySem.F.slot_list_append PySem.F.type_list_append mt_append (pv 4) (pa_cons pe_int pa_nil))) (pss_cons (ps_expr (pe_bm PySem.F.plainAttrs_list PySem.F.slot_list_append PySem.F.type_list_append mt_append (pv 5) (pa_cons pe_int pa_nil))) (pss_one (ps_for PassesOwn.never rfl (pi_range1 rfl T.z_range (pa_cons (pe_k (k_L_draw T) hr (pa_cons (pv 0) (pa_cons pe_int pa_nil))) pa_nil)) (pg_name (i := 7) sc_L_plan.nd rfl (by first | exact Or.inl rfl | exact Or.inr rfl)) (pss_cons (ps_set (i := 8) sc_L_plan.nd rfl (by first | exact Or.inl rfl | exact Or.inr rfl) (pe_ix ix_list (pe_lst (pa_cons pe_str (pa_cons pe_str (pa_cons pe_str (pa_cons pe_str (pa_cons pe_str (pa_cons pe_str (pa_cons pe_str (pa_cons pe_str pa_nil))))))))) (pe_k (k_L_draw T) hr (pa_cons (pv 0) (pa_cons pe_int pa_nil))) (fun _ _ => rfl))) (pss_cons (ps_set (i := 9) sc_L_plan.nd rfl (by first | exact Or.inl rfl | exact Or.inr rfl) pe_int) (pss_cons (ps_if (pt_cmpR (op_eq) (pv 8) pe_str (nomark _)) (pss_one (ps_set (i := 9) sc_L_plan.nd rfl (by first | exact Or.inl rfl | exact Or.inr rfl) pe_int)) (pss_one (ps_if (pt_cmpR (op_notIn_seq) (pv 8) (pe_tup (pa_cons pe_str (pa_cons pe_str pa_nil))) rfl) (pss_one (ps_set (i := 9) sc_L_plan.nd rfl (by first | exact Or.inl rfl | exact Or.inr rfl) (pe_op op_add pe_int (pe_k (k_L_draw T) hr (pa_cons (pv 0) (pa_cons (pe_callB (call_mn2 rfl) (by rfl) T.z_min (by decide +kernel) (pa_cons pe_int (pa_cons (pe_callB (call_lenQ) (by rfl) T.z_len (by decide +kernel) (pa_cons (pv 3) pa_nil)) pa_nil))) pa_nil)))))) pss_nil))) (pss_one (ps_if (PW.pt (pw_and (pt_cmpR (op_le) (pv 9) (pe_callB (call_lenQ) (by rfl) T.z_len (by decide +kernel) (pa_cons (pv 3) pa_nil)) (nomark _)) (pw_and (pt_cmpR (op_lt) (pe_callB (cr_max rfl) (by rfl) T.z_max (by decide +kernel) (pa_cons (pe_slice sl_list (pv 4) (po_some (pe_un un_neg (pv 9))) po_none) pa_nil)) pe_int (nomark _)) (pw_and1 (pt_cmpR (op_le) (pe_op op_add (pe_callB (cr_sum rfl) (by rfl) T.z_sum (by decide +kernel) (pa_cons (pv 5) pa_nil)) (pe_op op_mul pe_int (pe_callB (cr_sum rfl) (by rfl) T.z_sum (by decide +kernel) (pa_cons (pe_slice sl_list (pv 5) (po_some (pe_un un_neg (pv 9))) po_none) pa_nil)))) pe_int (nomark _)))))) (pss_cons (ps_expr (pe_bm PySem.F.plainAttrs_list PySem.F.slot_list_append PySem.F.type_list_append mt_append (pv 2) (pa_cons (pe_k (k_L_whole T) hr (pa_cons (pv 0) (pa_cons (pv 8) (pa_cons (pe_slice sl_list (pv 3) (po_some (pe_un un_neg (pv 9))) po_none) pa_nil)))) pa_nil))) (pss_cons (ps_set (i := 10) sc_L_plan.nd rfl (by first | exact Or.inl rfl | exact Or.inr rfl) pe_int) (pss_cons (ps_if (pt_cmpR (op_eq) (pv 8) pe_str (nomark _)) (pss_one (ps_set (i := 10) sc_L_plan.nd rfl (by first | exact Or.inl rfl | exact Or.inr rfl) (pe_op op_add pe_int (pe_ix ix_dd (pe_ix ix_list (pv 2) (pe_un un_neg pe_int) (fun _ _ => rfl)) pe_int (fun _ _ => rfl))))) pss_nil) (pss_cons (ps_set (i := 3) sc_L_plan.nd rfl (by first | exact Or.inl rfl | exact Or.inr rfl) (pe_op op_cat (pe_slice sl_list (pv 3) po_none (po_some (pe_un un_neg (pv 9)))) (pe_lst (pa_cons (pe_op op_sub (pe_callB (call_lenQ) (by rfl) T.z_len (by decide +kernel) (pa_cons (pv 2) pa_nil)) pe_int) pa_nil)))) (pss_cons (ps_set (i := 4) sc_L_plan.nd rfl (by first | exact Or.inl rfl | exact Or.inr rfl) (pe_op op_cat (pe_slice sl_list (pv 4) po_none (po_some (pe_un un_neg (pv 9)))) (pe_lst (pa_cons (pe_op op_add pe_int (pe_callB (cr_max rfl) (by rfl) T.z_max (by decide +kernel) (pa_cons (pe_slice sl_list (pv 4) (po_some (pe_un un_neg (pv 9))) po_none) pa_nil))) pa_nil)))) (pss_one (ps_set (i := 5) sc_L_plan.nd rfl (by first | exact Or.inl rfl | exact Or.inr rfl) (pe_op op_cat (pe_slice sl_list (pv 5) po_none (po_some (pe_un un_neg (pv 9)))) (pe_lst (pa_cons (pe_op op_mul (pv 10) (pe_callB (cr_sum rfl) (by rfl) T.z_sum (by decide +kernel) (pa_cons (pe_slice sl_list (pv 5) (po_some (pe_un un_neg (pv 9))) po_none) pa_nil))) pa_nil)))))))))) pss_nil)))))))))))) (pss_cons (ps_for PassesOwn.never rfl (pi_range1 rfl T.z_range (pa_cons pe_int pa_nil)) (pg_name (i := 6) sc_L_plan.nd rfl (by first | exact Or.inl rfl | exact Or.inr rfl)) (pss_one (ps_if (pt_cmpR (op_gt) (pe_callB (call_lenQ) (by rfl) T.z_len (by decide +kernel) (pa_cons (pv 3) pa_nil)) pe_int (nomark _)) (pss_cons (ps_set (i := 9) sc_L_plan.nd rfl (by first | exact Or.inl rfl | exact Or.inr rfl) (pe_callB (call_mn2 rfl) (by rfl) T.z_min (by decide +kernel) (pa_cons pe_int (pa_cons (pe_callB (call_lenQ) (by rfl) T.z_len (by decide +kernel) (pa_cons (pv 3) pa_nil)) pa_nil)))) (pss_cons (ps_expr (pe_bm PySem.F.plainAttrs_list PySem.F.slot_list_append PySem.F.type_list_append mt_append (pv 2) (pa_cons (pe_k (k_L_whole T) hr (pa_cons (pv 0) (pa_cons (pe_ix ix_list (pe_lst (pa_cons pe_str (pa_cons pe_str (pa_cons pe_str (pa_cons pe_str (pa_cons pe_str pa_nil)))))) (pe_k (k_L_draw T) hr (pa_cons (pv 0) (pa_cons pe_int pa_nil))) (fun _ _ => rfl)) (pa_cons (pe_slice sl_list (pv 3) (po_some (pe_un un_neg (pv 9))) po_none) pa_nil)))) pa_nil))) (pss_one (ps_set (i := 3) sc_L_plan.nd rfl (by first | exact Or.inl rfl | exact Or.inr rfl) (pe_op op_cat (pe_slice sl_list (pv 3) po_none (po_some (pe_un un_neg (pv 9)))) (pe_lst (pa_cons (pe_op op_sub (pe_callB (call_lenQ) (by rfl) T.z_len (by decide +kernel) (pa_cons (pv 2) pa_nil)) pe_int) pa_nil))))))) pss_nil))) (pss_one (ps_ret (pe_callTy call_tuple_of (by rfl) T.z_tuple (by decide +kernel) (pa_cons (pv 2) pa_nil)))))))))), ?_⟩
    refine rd_sa ?_
    refine ⟨by show 0 ≤ sizeLine; decide, fun n0 hn0 => ?_⟩
    refine rd_sa ?_
    refine ⟨by show 0 ≤ sizeLine; decide, fun τ hτ => ?_⟩
    refine rd_sa ?_
    refine ⟨by show 0 ≤ sizeLine; decide, fun δ hδ => ?_⟩
    refine rd_sa ?_
    refine ⟨by show 0 ≤ sizeLine; decide, fun ρ hρ => ?_⟩
    have k1 : Kp none H (upd H n0 (.lst [])) := Kp.new hn0
    have k2 : Kp none (upd H n0 (.lst [])) (upd (upd H n0 (.lst [])) τ (.lst [])) := Kp.new hτ
    have k3 : Kp none (upd (upd H n0 (.lst [])) τ (.lst [])) (upd (upd (upd H n0 (.lst [])) τ (.lst [])) δ (.lst [])) := Kp.new hδ
    have k4 : Kp none (upd (upd (upd H n0 (.lst [])) τ (.lst [])) δ (.lst [])) (upd (upd (upd (upd H n0 (.lst [])) τ (.lst [])) δ (.lst [])) ρ (.lst [])) := Kp.new hρ
    have f2 := k1.free0 hτ
    have f3 := (k1.trans k2).free0 hδ
    have f4 := ((k1.trans k2).trans k3).free0 hρ
    have d1 : n0 ≠ τ := fun e => by rw [← e, upd_same] at hτ; cases hτ
    have d2 : n0 ≠ δ := fun e => by rw [← e, k2 _ _ upd_same (by simp)] at hδ; cases hδ
    have d3 : τ ≠ δ := fun e => by rw [← e, upd_same] at hδ; cases hδ
    have d4 : n0 ≠ ρ := fun e => by rw [← e, (k2.trans k3) _ _ upd_same (by simp)] at hρ; cases hρ
    have d5 : τ ≠ ρ := fun e => by rw [← e, k3 _ _ upd_same (by simp)] at hρ; cases hρ
    have d6 : δ ≠ ρ := fun e => by rw [← e, upd_same] at hρ; cases hρ
    have dB : ∀ {x : Addr}, H x = none → B ≠ x := fun hx e => b0.ne hx (by rw [e])
    have k14 := ((k1.trans k2).trans k3).trans k4
    have S0 : PSt K (upd (upd (upd (upd H n0 (.lst [])) τ (.lst [])) δ (.lst [])) ρ (.lst [])) B n0 τ δ ρ [] := by
      refine ⟨⟨[], ((k2.trans k3).trans k4) _ _ upd_same (by simp), .nil⟩, (k3.trans k4) _ _ upd_same (by simp), k4 _ _ upd_same (by simp), upd_same, ⟨d1, d2, d4⟩, ⟨d3, d5, d6⟩, ⟨dB hn0, dB f2, dB f3, dB f4⟩, b0.keep0 k14, trivial, fun t h => by cases h⟩
    refine rd_seq ?_
    refine ⟨_, rfl, _, rfl, by decide, S0.bx, fun r0 H1 p0 q0 k5 b1 => ⟨_, _, rfl, rfl, (1 + r0), rfl, by omega, by omega, ?_⟩⟩
    have S1 := S0.keepB k5 b1
    refine for_range (lo := 0) (n := (1 + r0).toNat) (fun i σ H' => i ≤ 6 ∧ PI0 K H B n0 (.int 6) (fun ts => spans ts i ∧ (1 ≤ i → ts ≠ [])) σ H') ⟨by omega, τ, δ, ρ, [], _, _, _, _, _, rfl, S1, k14.weak.trans k5, ⟨hn0, f2, f3, f4⟩, ⟨by simp [sizeL], by simp, by simp [runsL]⟩, by omega⟩ ?_ ?_
    · rintro i σ H' hi ⟨hi6, τ, δ, ρ, ts, x6, x7, x8, x9, x10, rfl, S, kk, fr, ⟨sp1, sp2, sp3⟩, _⟩
      obtain ⟨nv, hnv, hnd⟩ := S.nv
      have hnl := hnd.len
      rw [List.length_mapIdx, subsL_len] at hnl
      refine rd_sd ?_
      refine ⟨_, rfl, tyV_list hnv, _, rfl, S.bx, fun v H2 jd jg jz jc jf hw k6 b6 hv => ?_⟩
      have S2 := S.keepB k6 b6
      have tk6 := S.bx.tk k6
      have hnv2 : H2 n0 = some (.lst nv) := k6 _ _ hnv (sb_ne S.nB.1)
      refine ⟨n0, nv, v, rfl, rfl, hnv2, by show nv.length < 16777216; omega, ?_⟩
      have e3 : ∀ {a : Addr} {o : HO}, n0 ≠ a → H2 a = some o → (upd H2 n0 (.lst (nv ++ [v]))) a = some o := fun h1 h2 => by rw [upd_ne (Ne.symm h1)]; exact h2
      have hτ3 := e3 S2.n1.1 S2.ht
      have hδ3 := e3 S2.n1.2.1 S2.hd
      have hρ3 := e3 S2.n1.2.2 S2.hr
      refine rd_sd ?_
      refine ⟨_, rfl, tyV_list hτ3, _, rfl, n0, _, rfl, .inl (SqL.of upd_same), _, _, rfl, rfl, τ, _, _, rfl, rfl, hτ3, ?_, ?_⟩
      · rw [List.length_map, idxL_length]
        show _ < 16777216
        omega
      have hδ4 : ∀ xs, (upd (upd H2 n0 (.lst (nv ++ [v]))) τ xs) δ = some (.lst (iV (ts.map depth))) := fun xs => by rw [upd_ne (Ne.symm S2.n2.1)]; exact hδ3
      refine rd_sd ?_
      refine ⟨_, rfl, tyV_list (hδ4 _), δ, _, _, rfl, rfl, hδ4 _, ?_, ?_⟩
      · rw [List.length_map, List.length_map]
        show _ < 16777216
        omega
      have hρ5 : ∀ xs ys, (upd (upd (upd H2 n0 (.lst (nv ++ [v]))) τ xs) δ ys) ρ = some (.lst (iV (ts.map runs))) := fun xs ys => by rw [upd_ne (Ne.symm S2.n2.2.2), upd_ne (Ne.symm S2.n2.2.1)]; exact hρ3
      refine rd_sd ?_
      refine ⟨_, rfl, tyV_list (hρ5 _ _), ρ, _, _, rfl, rfl, hρ5 _ _, ?_, ?_⟩
      · rw [List.length_map, List.length_map]
        show _ < 16777216
        omega
      have S6 := S2.push (z := ((nv ++ [v]).length : Nat) - 1) hnv2 (DDs.mono tk6 _ _ hnd) hv hw (by rw [List.length_append]; show ((nv.length + 1 : Nat) : Int) - 1 = _; omega)
      have kP : Kp (some B) H (upd (upd (upd (upd H2 n0 (.lst (nv ++ [v]))) τ (.lst (iV (idxL ts 0) ++ [.int (((nv ++ [v]).length : Nat) - 1)]))) δ (.lst (iV (ts.map depth) ++ [.int 1]))) ρ (.lst (iV (ts.map runs) ++ [.int 1]))) := fun a o ha hn => by
        rw [upd_ne (ne_of_none ha fr.2.2.2), upd_ne (ne_of_none ha fr.2.2.1), upd_ne (ne_of_none ha fr.2.1), upd_ne (ne_of_none ha fr.1)]
        exact (kk.trans k6) a o ha hn
      refine ⟨_, rfl, by decide, S6.bx, fun rs H7 p7 q7 k7 b7 => ⟨rs, rfl, by omega, by omega, ?_⟩⟩
      refine for_range (lo := 0) (n := rs.toNat) (fun j σ H' => PI0 K H B n0 (.int 6) (fun ts => (sizeL ts ≤ 3 * i + 1 + j ∧ ts.length ≤ i + 1 ∧ runsL ts ≤ 50 + (i + 1)) ∧ ts ≠ []) σ H') ⟨τ, δ, ρ, _, _, _, _, _, _, rfl, S6.keepB k7 b7, kP.trans k7, fr, ⟨?_, ?_, ?_⟩, by simp⟩ ?_ ?_
      · rw [sizeL_append]
        show sizeL ts + (1 + 0) ≤ _
        omega
      · rw [List.length_append]
        show ts.length + 1 ≤ _
        omega
      · rw [runsL_append]
        show runsL ts + (1 + 0) ≤ _
        omega
      · rintro j σ H' hj ⟨τ, δ, ρ, ts, x6, x7, x8, x9, x10, rfl, S, kk, fr, ⟨sp1, sp2, sp3⟩, hne⟩
        refine rd_sa ?_
        refine ⟨by show 8 ≤ sizeLine; decide, fun lk hlk => ?_⟩
        refine ⟨_, rfl, by decide, S.bx.keep0 (Kp.new hlk), fun rk H8 p8 q8 k8 b8 => ?_⟩
        obtain ⟨hl8, k08⟩ := list_draw S.bx hlk k8
        obtain ⟨kv, ⟨op, rfl⟩, ekv⟩ := pickV [.str "all", .str "race", .str "any", .str "pool", .str "timeout", .str "sequence", .str "orelse", .str "retry"] (fun v => ∃ op, v = .str (opS op)) (by
          intro v hv
          simp only [List.mem_cons, List.not_mem_nil, or_false] at hv
          rcases hv with rfl | rfl | rfl | rfl | rfl | rfl | rfl | rfl
          · exact ⟨.all, rfl⟩
          · exact ⟨.race, rfl⟩
          · exact ⟨.any, rfl⟩
          · exact ⟨.pool, rfl⟩
          · exact ⟨.timeout, rfl⟩
          · exact ⟨.sequence, rfl⟩
          · exact ⟨.orelse, rfl⟩
          · exact ⟨.retry, rfl⟩) p8 (by show rk < 8; exact q8)
        refine ⟨lk, _, _, _, rfl, rfl, SqL.of hl8, ekv, ?_⟩
        have S8 := S.keepB k08 b8
        refine rd_sc ?_
        refine rd_seq ?_
        refine plan_many S8 hne (fun m H9 hmany k9 b9 => ?_)
        have S9 := S8.keepB k9 b9
        have kk9 := (kk.trans k08).trans k9
        have nope : ∀ (H' : Hp) (y6 y7 y8 y9 y10 : Option V), Kp none H9 H' → PI0 K H B n0 (.int 6) (fun ts => (sizeL ts ≤ 3 * i + 1 + (j + 1) ∧ ts.length ≤ i + 1 ∧ runsL ts ≤ 50 + (i + 1)) ∧ ts ≠ []) [some (.ref B), some (.int 6), some (.ref n0), some (.ref τ), some (.ref δ), some (.ref ρ), y6, y7, y8, y9, y10] H' :=
          fun H' _ _ _ _ _ k => ⟨τ, δ, ρ, ts, _, _, _, _, _, rfl, S9.keep0 k, kk9.trans k.weak, fr, ⟨by omega, by omega, by omega⟩, hne⟩
        refine rd_if ?_
        have el : (iV (idxL ts 0)).length = ts.length := by rw [List.length_map, idxL_length]
        refine ⟨_, rfl, _, rfl, τ, _, rfl, .inl (SqL.of S9.ht), _, _, rfl, rfl, _, rfl, ?_⟩
        refine itB (fun hle => ?_) (fun _ => itF rfl (nope H9 _ _ _ _ _ (Kp.refl _ _)))
        have hle : m ≤ ts.length := by
          have := of_decide_eq_true hle
          rw [el] at this
          omega
        obtain ⟨as, bs, rfl, hbl, hal⟩ := split_last hle
        have hm1 := hmany.1
        refine ⟨_, rfl, _, rfl, _, rfl, _, rfl, δ, _, rfl, SqL.of S9.hd, fun p1 hp1 => ?_⟩
        have k10 : Kp none H9 (upd H9 p1 (.lst (L2.cutV (iV ((as ++ bs).map depth)) (some (-(m : Int))) none))) := Kp.new hp1
        refine ⟨p1, (bs.map depth).map fun n : Nat => (n : Int), rfl, SqL.of (by rw [upd_same, cutI_last hbl hm1, iV_int]), by simp; omega, fun mx hmx1 hmx2 => ?_⟩
        obtain rfl := depthL_max bs mx hmx1 hmx2
        refine ⟨_, _, rfl, rfl, _, rfl, ?_⟩
        refine itB (fun hd6 => ?_) (fun _ => itF rfl (nope _ _ _ _ _ _ k10))
        have hd6 : depthL bs < 6 := by
          have := of_decide_eq_true hd6
          omega
        have S10 := S9.keep0 k10
        refine ⟨_, rfl, ρ, ((as ++ bs).map runs).map fun n : Nat => (n : Int), rfl, SqL.of (by rw [← iV_int]; exact S10.hr), ?_⟩
        refine ⟨_, rfl, _, rfl, _, rfl, _, rfl, ρ, _, rfl, SqL.of S10.hr, fun p2 hp2 => ?_⟩
        refine ⟨p2, (bs.map runs).map fun n : Nat => (n : Int), rfl, SqL.of (by rw [upd_same, cutI_last hbl hm1, iV_int]), _, _, rfl, rfl, .inl ⟨by decide, by decide⟩, _, _, rfl, rfl, _, _, rfl, rfl, _, rfl, ?_⟩
        have k11 : Kp none (upd H9 p1 (.lst (L2.cutV (iV ((as ++ bs).map depth)) (some (-(m : Int))) none))) (upd (upd H9 p1 (.lst (L2.cutV (iV ((as ++ bs).map depth)) (some (-(m : Int))) none))) p2 (.lst (L2.cutV (iV ((as ++ bs).map runs)) (some (-(m : Int))) none))) := Kp.new hp2
        rw [runsL_sum, runsL_sum]
        refine itB (fun h50 => ?_) (fun _ => nope _ _ _ _ _ _ (k10.trans k11))
        have h50 : runsL (as ++ bs) + 2 * runsL bs ≤ 50 := by
          have := of_decide_eq_true h50
          omega
        have S11 := S10.keep0 k11
        have kk11 := kk9.trans (k10.trans k11).weak
        revert S11 kk11
        generalize (upd (upd H9 p1 (.lst (L2.cutV (iV ((as ++ bs).map depth)) (some (-(m : Int))) none))) p2 (.lst (L2.cutV (iV ((as ++ bs).map runs)) (some (-(m : Int))) none))) = H11
        intro S11 kk11
        obtain ⟨nv, hnv, hnd⟩ := S11.nv
        have hnl := hnd.len
        rw [List.length_mapIdx, subsL_len] at hnl
        refine rd_sd ?_
        refine ⟨_, rfl, tyV_list hnv, _, rfl, _, rfl, _, rfl, _, rfl, _, rfl, _, rfl, τ, _, rfl, SqL.of S11.ht, fun p3 hp3 => ?_⟩
        have k12 : Kp none H11 (upd H11 p3 (.lst (L2.cutV (iV (idxL (as ++ bs) 0)) (some (-(m : Int))) none))) := Kp.new hp3
        refine ⟨op, bs, sizeL as, S11.bx.keep0 k12, rfl, by rw [upd_same, cutT_last hbl hm1, Nat.zero_add], hmany.fit hbl, fun v H12 t hmade k13 b13 hv => ?_⟩
        have S12 := (S11.keep0 k12).keepB k13 b13
        have tk12 := k12.tk0.trans ((S11.keep0 k12).bx.tk k13)
        have hnv12 : H12 n0 = some (.lst nv) := k13 _ _ (k12 _ _ hnv (by simp)) (sb_ne S11.nB.1)
        have hnd12 := DDs.mono tk12 _ _ hnd
        have kk12 := (kk11.trans k12.weak).trans k13
        refine ⟨n0, nv, v, rfl, rfl, hnv12, by show nv.length < 16777216; omega, ?_⟩
        have tp13 : TK H12 (upd H12 n0 (.lst (nv ++ [v]))) := TK.put hnv12 (fun xs z => by cases z)
        refine rd_sc ?_
        refine rd_seq ?_
        refine plan_times hmade upd_same (DD.mono tp13 _ _ hv) (fun tm ht1 ht3 hrun => ?_)
        have ne13 : ∀ {a : Addr} {o : HO}, n0 ≠ a → H12 a = some o → (upd H12 n0 (.lst (nv ++ [v]))) a = some o := fun h1 h2 => by rw [upd_ne (Ne.symm h1)]; exact h2
        have hτ := ne13 S12.n1.1 S12.ht
        have hδ := ne13 S12.n1.2.1 S12.hd
        have hρ := ne13 S12.n1.2.2 S12.hr
        have hn0 : (upd H12 n0 (.lst (nv ++ [v]))) n0 = some (.lst (nv ++ [v])) := upd_same
        have hz : (((nv ++ [v]).length : Nat) : Int) - 1 = ((sizeL (as ++ bs) : Nat) : Int) := by rw [List.length_append]; show ((nv.length + 1 : Nat) : Int) - 1 = _; omega
        -- the tops
        refine rd_sa ?_
        refine ⟨_, rfl, _, rfl, _, rfl, _, rfl, τ, _, rfl, SqL.of hτ, fun q1 hq1 => ?_⟩
        have u1 : Kp none (upd H12 n0 (.lst (nv ++ [v]))) (upd (upd H12 n0 (.lst (nv ++ [v]))) q1 (.lst (L2.cutV (iV (idxL (as ++ bs) 0)) none (some (-(m : Int)))))) := Kp.new hq1
        refine ⟨_, rfl, n0, _, rfl, .inl (SqL.of (u1 _ _ hn0 (by simp))), _, _, rfl, rfl, by show 1 ≤ sizeLine; decide, fun q2 hq2 => ?_⟩
        have g1 := Kp.new (B := none) (o := .lst [.int ((((nv ++ [v]).length : Nat) : Int) - 1)]) hq2 q1 _ upd_same (by simp)
        refine ⟨q1, q2, _, _, rfl, rfl, g1, upd_same, ?_, fun q3 hq3 => ?_⟩
        · rw [cutT_init hbl hm1, List.length_map, idxL_length]
          show as.length + 1 ≤ 16777216
          rw [List.length_append] at sp2
          omega
        have a1 : (upd (upd (upd (upd H12 n0 (.lst (nv ++ [v]))) q1 (.lst (L2.cutV (iV (idxL (as ++ bs) 0)) none (some (-(m : Int)))))) q2 (.lst [.int ((((nv ++ [v]).length : Nat) : Int) - 1)])) q3 (.lst (L2.cutV (iV (idxL (as ++ bs) 0)) none (some (-(m : Int))) ++ [.int ((((nv ++ [v]).length : Nat) : Int) - 1)]))) q3 = some (.lst (iV (idxL as 0) ++ [.int (sizeL (as ++ bs) : Nat)])) := by
          rw [upd_same, cutT_init hbl hm1, hz]
        have a2 : Kp none (upd H12 n0 (.lst (nv ++ [v]))) (upd (upd (upd (upd H12 n0 (.lst (nv ++ [v]))) q1 (.lst (L2.cutV (iV (idxL (as ++ bs) 0)) none (some (-(m : Int)))))) q2 (.lst [.int ((((nv ++ [v]).length : Nat) : Int) - 1)])) q3 (.lst (L2.cutV (iV (idxL (as ++ bs) 0)) none (some (-(m : Int))) ++ [.int ((((nv ++ [v]).length : Nat) : Int) - 1)]))) := (u1.trans (Kp.new hq2)).trans (Kp.new hq3)
        have a3 : (upd H12 n0 (.lst (nv ++ [v]))) q3 = none := (u1.trans (Kp.new hq2)).free0 hq3
        revert a1 a2
        generalize (upd (upd (upd (upd H12 n0 (.lst (nv ++ [v]))) q1 (.lst (L2.cutV (iV (idxL (as ++ bs) 0)) none (some (-(m : Int)))))) q2 (.lst [.int ((((nv ++ [v]).length : Nat) : Int) - 1)])) q3 (.lst (L2.cutV (iV (idxL (as ++ bs) 0)) none (some (-(m : Int))) ++ [.int ((((nv ++ [v]).length : Nat) : Int) - 1)]))) = Ha
        intro a1 a2
        -- the depths
        have hδa := a2 _ _ hδ (by simp)
        refine rd_sa ?_
        refine ⟨_, rfl, _, rfl, _, rfl, _, rfl, δ, _, rfl, SqL.of hδa, fun r1 hr1 => ?_⟩
        refine ⟨_, rfl, _, rfl, _, rfl, _, rfl, δ, _, rfl, SqL.of (Kp.new (B := none) hr1 _ _ hδa (by simp)), fun r2 hr2 => ?_⟩
        refine ⟨r2, (bs.map depth).map fun n : Nat => (n : Int), rfl, SqL.of (by rw [upd_same, cutI_last hbl hm1, iV_int]), by simp; omega, fun mx hmx1 hmx2 => ?_⟩
        obtain rfl := depthL_max bs mx hmx1 hmx2
        refine ⟨_, _, rfl, rfl, by show 1 ≤ sizeLine; decide, fun r3 hr3 => ?_⟩
        have v1 : Kp none Ha (upd Ha r1 (.lst (L2.cutV (iV ((as ++ bs).map depth)) none (some (-(m : Int)))))) := Kp.new hr1
        have v2 : Kp none (upd Ha r1 (.lst (L2.cutV (iV ((as ++ bs).map depth)) none (some (-(m : Int)))))) (upd (upd Ha r1 (.lst (L2.cutV (iV ((as ++ bs).map depth)) none (some (-(m : Int)))))) r2 (.lst (L2.cutV (iV ((as ++ bs).map depth)) (some (-(m : Int))) none))) := Kp.new hr2
        have v3 : Kp none (upd (upd Ha r1 (.lst (L2.cutV (iV ((as ++ bs).map depth)) none (some (-(m : Int)))))) r2 (.lst (L2.cutV (iV ((as ++ bs).map depth)) (some (-(m : Int))) none))) (upd (upd (upd Ha r1 (.lst (L2.cutV (iV ((as ++ bs).map depth)) none (some (-(m : Int)))))) r2 (.lst (L2.cutV (iV ((as ++ bs).map depth)) (some (-(m : Int))) none))) r3 (.lst [.int (1 + (depthL bs : Nat))])) := Kp.new hr3
        refine ⟨r1, r3, _, _, rfl, rfl, (v2.trans v3) _ _ upd_same (by simp), upd_same, ?_, fun r4 hr4 => ?_⟩
        · rw [cutI_init hbl hm1, List.length_map, List.length_map]
          show as.length + 1 ≤ 16777216
          rw [List.length_append] at sp2
          omega
        have hdt : ((1 : Int) + (depthL bs : Nat)) = ((depth t : Nat) : Int) := by rw [depth_eq t, hmade.1]; omega
        have c1 : (upd (upd (upd (upd Ha r1 (.lst (L2.cutV (iV ((as ++ bs).map depth)) none (some (-(m : Int)))))) r2 (.lst (L2.cutV (iV ((as ++ bs).map depth)) (some (-(m : Int))) none))) r3 (.lst [.int (1 + (depthL bs : Nat))])) r4 (.lst (L2.cutV (iV ((as ++ bs).map depth)) none (some (-(m : Int))) ++ [.int (1 + (depthL bs : Nat))]))) r4 = some (.lst (iV (as.map depth) ++ [.int (depth t : Nat)])) := by
          rw [upd_same, cutI_init hbl hm1, hdt]
        have v13 := (v1.trans v2).trans v3
        have c2 : Kp none Ha (upd (upd (upd (upd Ha r1 (.lst (L2.cutV (iV ((as ++ bs).map depth)) none (some (-(m : Int)))))) r2 (.lst (L2.cutV (iV ((as ++ bs).map depth)) (some (-(m : Int))) none))) r3 (.lst [.int (1 + (depthL bs : Nat))])) r4 (.lst (L2.cutV (iV ((as ++ bs).map depth)) none (some (-(m : Int))) ++ [.int (1 + (depthL bs : Nat))]))) := v13.trans (Kp.new hr4)
        have c3 : Ha r4 = none := v13.free0 hr4
        revert c1 c2
        generalize (upd (upd (upd (upd Ha r1 (.lst (L2.cutV (iV ((as ++ bs).map depth)) none (some (-(m : Int)))))) r2 (.lst (L2.cutV (iV ((as ++ bs).map depth)) (some (-(m : Int))) none))) r3 (.lst [.int (1 + (depthL bs : Nat))])) r4 (.lst (L2.cutV (iV ((as ++ bs).map depth)) none (some (-(m : Int))) ++ [.int (1 + (depthL bs : Nat))]))) = Hb
        intro c1 c2
        -- the runs
        have hρb := c2 _ _ (a2 _ _ hρ (by simp)) (by simp)
        refine ⟨_, rfl, _, rfl, _, rfl, _, rfl, ρ, _, rfl, SqL.of hρb, fun w1 hw1 => ?_⟩
        refine ⟨_, rfl, _, rfl, _, rfl, _, rfl, _, rfl, ρ, _, rfl, SqL.of (Kp.new (B := none) hw1 _ _ hρb (by simp)), fun w2 hw2 => ?_⟩
        refine ⟨w2, (bs.map runs).map fun n : Nat => (n : Int), rfl, SqL.of (by rw [upd_same, cutI_last hbl hm1, iV_int]), ?_⟩
        refine ⟨_, _, rfl, rfl, .inl ⟨by omega, by omega⟩, by show 1 ≤ sizeLine; decide, fun w3 hw3 => ?_⟩
        have y1 : Kp none Hb (upd Hb w1 (.lst (L2.cutV (iV ((as ++ bs).map runs)) none (some (-(m : Int)))))) := Kp.new hw1
        have y2 : Kp none (upd Hb w1 (.lst (L2.cutV (iV ((as ++ bs).map runs)) none (some (-(m : Int)))))) (upd (upd Hb w1 (.lst (L2.cutV (iV ((as ++ bs).map runs)) none (some (-(m : Int)))))) w2 (.lst (L2.cutV (iV ((as ++ bs).map runs)) (some (-(m : Int))) none))) := Kp.new hw2
        have y3 : Kp none (upd (upd Hb w1 (.lst (L2.cutV (iV ((as ++ bs).map runs)) none (some (-(m : Int)))))) w2 (.lst (L2.cutV (iV ((as ++ bs).map runs)) (some (-(m : Int))) none))) (upd (upd (upd Hb w1 (.lst (L2.cutV (iV ((as ++ bs).map runs)) none (some (-(m : Int)))))) w2 (.lst (L2.cutV (iV ((as ++ bs).map runs)) (some (-(m : Int))) none))) w3 (.lst [.int ((tm : Nat) * ((bs.map runs).map fun n : Nat => (n : Int)).sum)])) := Kp.new hw3
        refine ⟨w1, w3, _, _, rfl, rfl, (y2.trans y3) _ _ upd_same (by simp), upd_same, ?_, fun w4 hw4 => ?_⟩
        · rw [cutI_init hbl hm1, List.length_map, List.length_map]
          show as.length + 1 ≤ 16777216
          rw [List.length_append] at sp2
          omega
        have hrt : ((tm : Nat) : Int) * ((bs.map runs).map fun n : Nat => (n : Int)).sum = ((runs t : Nat) : Int) := by rw [runsL_sum, hrun, Int.natCast_mul]
        have y13 := (y1.trans y2).trans y3
        have z1 : (upd (upd (upd (upd Hb w1 (.lst (L2.cutV (iV ((as ++ bs).map runs)) none (some (-(m : Int)))))) w2 (.lst (L2.cutV (iV ((as ++ bs).map runs)) (some (-(m : Int))) none))) w3 (.lst [.int ((tm : Nat) * ((bs.map runs).map fun n : Nat => (n : Int)).sum)])) w4 (.lst (L2.cutV (iV ((as ++ bs).map runs)) none (some (-(m : Int))) ++ [.int ((tm : Nat) * ((bs.map runs).map fun n : Nat => (n : Int)).sum)]))) w4 = some (.lst (iV (as.map runs) ++ [.int (runs t : Nat)])) := by
          rw [upd_same, cutI_init hbl hm1, hrt]
        have z2 : Kp none Hb (upd (upd (upd (upd Hb w1 (.lst (L2.cutV (iV ((as ++ bs).map runs)) none (some (-(m : Int)))))) w2 (.lst (L2.cutV (iV ((as ++ bs).map runs)) (some (-(m : Int))) none))) w3 (.lst [.int ((tm : Nat) * ((bs.map runs).map fun n : Nat => (n : Int)).sum)])) w4 (.lst (L2.cutV (iV ((as ++ bs).map runs)) none (some (-(m : Int))) ++ [.int ((tm : Nat) * ((bs.map runs).map fun n : Nat => (n : Int)).sum)]))) := y13.trans (Kp.new hw4)
        have z3 : Hb w4 = none := y13.free0 hw4
        have aB := S12.bx
        obtain ⟨dg0, nd0, js0, qB0, _, _⟩ := S12.bx.putN S12.nB.1 hnv12 hnd12
        have kk13 : Kp (some B) H (upd H12 n0 (.lst (nv ++ [v]))) := fun a o ha hn => by
          rw [upd_ne (ne_of_none ha fr.1)]
          exact kk12 a o ha hn
        have frn : ∀ {a : Addr}, (upd H12 n0 (.lst (nv ++ [v]))) a = none → H a = none := fun h => kk13.free qB0 h
        have f4 := a2.free0 c3
        have f5 := (a2.trans c2).free0 z3
        have ne1 : q3 ≠ r4 := fun e => by rw [← e, a1] at c3; cases c3
        have ne2 : q3 ≠ w4 := fun e => by rw [← e, c2 _ _ a1 (by simp)] at z3; cases z3
        have ne3 : r4 ≠ w4 := fun e => by rw [← e, c1] at z3; cases z3
        have hwt : WF t := hmade.2.1 ((WFL_append as bs).mp S12.wf).2
        have hdt6 : depth t ≤ 6 := by rw [depth_eq t, hmade.1]; omega
        have SF := PSt.made S12 hnv12 hnd12 hv hmade.1 hwt hdt6 ((a2.trans c2).trans z2) ((c2.trans z2) _ _ a1 (by simp)) (z2 _ _ c1 (by simp)) z1 a3 f4 f5 ⟨ne1, ne2, ne3⟩
        refine ⟨q3, r4, w4, as ++ [t], _, _, _, _, _, rfl, SF, kk13.trans ((a2.trans c2).trans z2).weak, ⟨fr.1, frn a3, frn f4, frn f5⟩, ⟨?_, ?_, ?_⟩, by simp⟩
        · rw [sizeL_append] at sp1 ⊢
          have e := size_eq t
          rw [hmade.1] at e
          show sizeL as + (size t + 0) ≤ _
          omega
        · rw [List.length_append] at sp2 ⊢
          show as.length + 1 ≤ _
          omega
        · rw [runsL_append] at sp3 h50 ⊢
          have e : tm * runsL bs ≤ 3 * runsL bs := Nat.mul_le_mul_right _ ht3
          show runsL as + (runs t + 0) ≤ _
          omega
      · rintro σ H' ⟨τ, δ, ρ, ts, x6, x7, x8, x9, x10, rfl, S, kk, fr, ⟨sp1, sp2, sp3⟩, hne⟩
        exact ⟨by omega, τ, δ, ρ, ts, _, _, _, _, _, rfl, S, kk, fr, ⟨by omega, by omega, by omega⟩, fun _ => hne⟩
    · rintro σ H' ⟨hi6, τ, δ, ρ, ts, x6, x7, x8, x9, x10, rfl, S, kk, fr, ⟨sp1, sp2, sp3⟩, hne⟩
      have hne0 : ts ≠ [] := hne (by omega)
      have hdep : ∀ ts : List Asf.T, (∀ t ∈ ts, depth t ≤ 6) → depthL ts ≤ 6 := by
        intro ts
        induction ts with
        | nil => intro _; exact Nat.zero_le _
        | cons t ts ih =>
          intro h
          have h1 := h t List.mem_cons_self
          have h2 := ih (fun x hx => h x (List.mem_cons_of_mem _ hx))
          simp only [depthL]
          omega
      refine rd_seq ?_
      refine ⟨3, rfl, by decide, by decide, ?_⟩
      refine for_range (lo := 0) (n := 3) (fun j σ H' => ∃ τ ts y4 y5 y6 y7 y8 y9 y10, σ = [some (.ref B), some (.int 6), some (.ref n0), some (.ref τ), y4, y5, y6, y7, y8, y9, y10] ∧ P2 K H' B n0 τ ts ∧ Kp (some B) H H' ∧ ts ≠ [] ∧ ts.length ≤ 6 ∧ runsL ts ≤ 56 ∧
        ((j = 0 ∧ depthL ts ≤ 6 ∧ sizeL ts ≤ 18) ∨ (ts.length = 1 ∧ depthL ts ≤ 7 ∧ sizeL ts ≤ 19))) ⟨τ, ts, _, _, _, _, _, _, _, rfl, S.p2, kk, hne0, by omega, by omega, .inl ⟨rfl, hdep ts S.dp, by omega⟩⟩ ?_ ?_
      · rintro j σ H' hj ⟨τ, ts, y4, y5, y6, y7, y8, y9, y10, rfl, S, kk, hne, hl6, hr56, hcase⟩
        have el : (iV (idxL ts 0)).length = ts.length := by rw [List.length_map, idxL_length]
        refine rd_if ?_
        refine ⟨_, rfl, τ, _, rfl, .inl (SqL.of S.ht), _, _, rfl, rfl, _, rfl, ?_⟩
        refine itB (fun hgt => ?_) (fun hgt => ?_)
        · have hgt : 1 < ts.length := by
            have := of_decide_eq_true hgt
            rw [el] at this
            omega
          obtain ⟨hj0, hd6, hs18⟩ : j = 0 ∧ depthL ts ≤ 6 ∧ sizeL ts ≤ 18 := by
            rcases hcase with h | h
            · exact h
            · omega
          refine rd_sa ?_
          refine ⟨_, rfl, τ, _, rfl, .inl (SqL.of S.ht), 6, _, rfl, ?_⟩
          have em : (if (((iV (idxL ts 0)).length : Nat) : Int) < 6 then (((iV (idxL ts 0)).length : Nat) : Int) else 6) = ((ts.length : Nat) : Int) := by
            rw [el]
            split <;> omega
          rw [em]
          obtain ⟨nv, hnv, hnd⟩ := S.nv
          have hnl := hnd.len
          rw [List.length_mapIdx, subsL_len] at hnl
          refine rd_sd ?_
          refine ⟨_, rfl, tyV_list hnv, _, rfl, by show 5 ≤ sizeLine; decide, fun lk hlk => ?_⟩
          refine ⟨_, rfl, by decide, S.bx.keep0 (Kp.new hlk), fun rk H8 p8 q8 k8 b8 => ?_⟩
          obtain ⟨hl8, k08⟩ := list_draw S.bx hlk k8
          obtain ⟨kv, ⟨op, ⟨hfit, hrun⟩, rfl⟩, ekv⟩ := pickV [.str "all", .str "race", .str "any", .str "pool", .str "sequence"] (fun v => ∃ op, ((∀ bs : List Asf.T, bs ≠ [] → bs.length ≤ 6 → Fit op bs) ∧ ∀ bs t, Made op bs t → runs t = runsL bs) ∧ v = .str (opS op)) (by
            intro v hv
            simp only [List.mem_cons, List.not_mem_nil, or_false] at hv
            rcases hv with rfl | rfl | rfl | rfl | rfl
            · exact ⟨.all, ⟨fun _ a b => ⟨a, b⟩, fun _ _ h => h.2.2.2⟩, rfl⟩
            · exact ⟨.race, ⟨fun _ a b => ⟨a, b⟩, fun _ _ h => h.2.2.2⟩, rfl⟩
            · exact ⟨.any, ⟨fun _ a b => ⟨a, b⟩, fun _ _ h => h.2.2.2⟩, rfl⟩
            · exact ⟨.pool, ⟨fun _ a b => ⟨a, b⟩, fun _ _ h => h.2.2.2⟩, rfl⟩
            · exact ⟨.sequence, ⟨fun _ a b => ⟨a, b⟩, fun _ _ h => h.2.2.2⟩, rfl⟩) p8 (by show rk < 5; exact q8)
          refine ⟨lk, _, _, _, rfl, rfl, SqL.of hl8, ekv, ?_⟩
          have S8 := S.keepB k08 b8
          have tk8 := S.bx.tk k08
          refine ⟨_, rfl, _, rfl, _, rfl, _, rfl, τ, _, rfl, SqL.of S8.ht, fun p3 hp3 => ?_⟩
          have k12 : Kp none H8 (upd H8 p3 (.lst (L2.cutV (iV (idxL ts 0)) (some (-((ts.length : Nat) : Int))) none))) := Kp.new hp3
          have S8' : P2 K H8 B n0 τ ([] ++ ts) := S8
          refine ⟨op, ts, 0, S8.bx.keep0 k12, rfl, by rw [upd_same]; exact congrArg (fun l => some (HO.lst l)) (cutT_last (as := []) (bs := ts) (o := 0) rfl (by omega)), hfit ts hne hl6, fun v H12 t hmade k13 b13 hv => ?_⟩
          have S12 := (S8'.keep0 k12).keepB k13 b13
          have tk12 := (tk8.trans k12.tk0).trans ((S8.keep0 k12).bx.tk k13)
          have hnv12 : H12 n0 = some (.lst nv) := k13 _ _ (k12 _ _ (k08 _ _ hnv (sb_ne S.nB.1)) (by simp)) (sb_ne S.nB.1)
          have hnd12 := DDs.mono tk12 _ _ hnd
          have kk12 := ((kk.trans k08).trans k12.weak).trans k13
          refine ⟨n0, nv, v, rfl, rfl, hnv12, by show nv.length < 16777216; omega, ?_⟩
          have hτ : (upd H12 n0 (.lst (nv ++ [v]))) τ = some (.lst (iV (idxL ts 0))) := by rw [upd_ne (Ne.symm S12.n1)]; exact S12.ht
          have hz : (((nv ++ [v]).length : Nat) : Int) - 1 = ((sizeL ([] ++ ts) : Nat) : Int) := by rw [List.length_append]; show ((nv.length + 1 : Nat) : Int) - 1 = ((sizeL ts : Nat) : Int); omega
          refine ⟨_, rfl, _, rfl, _, rfl, _, rfl, τ, _, rfl, SqL.of hτ, fun q1 hq1 => ?_⟩
          have u1 : Kp none (upd H12 n0 (.lst (nv ++ [v]))) (upd (upd H12 n0 (.lst (nv ++ [v]))) q1 (.lst (L2.cutV (iV (idxL ts 0)) none (some (-((ts.length : Nat) : Int)))))) := Kp.new hq1
          refine ⟨_, rfl, n0, _, rfl, .inl (SqL.of (u1 _ _ upd_same (by simp))), _, _, rfl, rfl, by show 1 ≤ sizeLine; decide, fun q2 hq2 => ?_⟩
          have g1 := Kp.new (B := none) (o := .lst [.int ((((nv ++ [v]).length : Nat) : Int) - 1)]) hq2 q1 _ upd_same (by simp)
          have ci : L2.cutV (iV (idxL ts 0)) none (some (-((ts.length : Nat) : Int))) = iV (idxL [] 0) := cutT_init (as := []) (bs := ts) (o := 0) rfl (by omega)
          refine ⟨q1, q2, _, _, rfl, rfl, g1, upd_same, by rw [ci]; show 0 + 1 ≤ 16777216; decide, fun q3 hq3 => ?_⟩
          have hwt : WF t := hmade.2.1 S.wf
          have a3 : (upd H12 n0 (.lst (nv ++ [v]))) q3 = none := (u1.trans (Kp.new hq2)).free0 hq3
          have u3 := Kp.new (B := none) (o := HO.lst (L2.cutV (iV (idxL ts 0)) none (some (-((ts.length : Nat) : Int))) ++ [.int ((((nv ++ [v]).length : Nat) : Int) - 1)])) hq3
          have SF := P2.made (as := []) (bs := ts) (τ' := q3) S12 hnv12 hnd12 hv hmade.1 hwt ((u1.trans (Kp.new hq2)).trans u3) (by rw [upd_same, ci, hz]) a3
          have kk13 : Kp (some B) H (upd H12 n0 (.lst (nv ++ [v]))) := fun a o ha hn => by
            rw [upd_ne (ne_of_none ha fr.1)]
            exact kk12 a o ha hn
          refine ⟨q3, [t], _, _, _, _, _, _, _, rfl, SF, kk13.trans ((u1.trans (Kp.new hq2)).trans u3).weak, by simp, by simp, ?_, .inr ⟨rfl, ?_, ?_⟩⟩
          · have := hrun ts t hmade
            show runs t + 0 ≤ 56
            omega
          · show max (depth t) 0 ≤ 7
            rw [depth_eq t, hmade.1]
            omega
          · show size t + 0 ≤ 19
            rw [size_eq t, hmade.1]
            omega
        · have hgt : ¬ 1 < ts.length := by
            have := of_decide_eq_false hgt
            rw [el] at this
            omega
          have hl1 : ts.length = 1 := by
            have := List.length_pos_iff.mpr hne
            omega
          refine ⟨τ, ts, _, _, _, _, _, _, _, rfl, S, kk, hne, hl6, hr56, .inr ⟨hl1, ?_, ?_⟩⟩
          · rcases hcase with h | h <;> omega
          · rcases hcase with h | h <;> omega
      · rintro σ H' ⟨τ, ts, y4, y5, y6, y7, y8, y9, y10, rfl, S, kk, hne, hl6, hr56, hcase⟩
        obtain ⟨hl1, hd7, hs19⟩ : ts.length = 1 ∧ depthL ts ≤ 7 ∧ sizeL ts ≤ 19 := by
          rcases hcase with h | h
          · omega
          · exact h
        obtain ⟨t, rfl⟩ := List.length_eq_one_iff.mp hl1
        obtain ⟨nv, hnv, hnd⟩ := S.nv
        refine ⟨_, rfl, n0, nv, rfl, .inl ⟨SqL.of hnv, fun l hl => ?_⟩⟩
        have hd7 : max (depth t) 0 ≤ 7 := hd7
        have hr : runs t + 0 ≤ 56 := hr56
        have hs : size t + 0 ≤ 19 := hs19
        have es : subsL [t] = subs t := List.append_nil _
        rw [es] at hnd
        exact r _ _ t S.wf.1 (by omega) (by omega) (by omega) (kk.trans (Kp.new hl)) (S.bx.keep0 (Kp.new hl)) (new_dd hl hnd))
end
end Asf
set_option Elab.async false
set_option linter.all false
set_option maxRecDepth 100000
set_option maxHeartbeats 4000000
namespace Asf
open PySem PySem.Spec PyProof.Rows L2
section
variable {P : Program} {w : World} {K : PySem.W.Frag} {mg : Str → Option Value} {base : Heap}
theorem k_L_parts (T : Txt K mg) : Cal P w K mg base 1 "_law_parts" (He.ga K "_law_parts") ["_law_node"] (sp_parts K) :=
  cal_L_parts T (okF T.d_L_parts sc_L_parts (fun vs H Q E h => match vs, h with | [_], _ => rfl) fun cdv A outer s H vs Q E hr h => match vs, h with
  | [v], h => by
    obtain ⟨t, o, h, r⟩ := h
    refine ⟨_, (pss_cons (ps_if (pt_cmpR (op_eq) (pe_ix ix_dd (pv 0) pe_int (fun _ _ => rfl)) pe_str (nomark _)) (pss_one (ps_ret (pe_tup pa_nil))) pss_nil) (pss_cons (ps_if (pt_cmpR (op_eq) (pe_ix ix_dd (pv 0) pe_int (fun _ _ => rfl)) pe_str (nomark _)) (pss_one (ps_ret (pe_tup (pa_cons (pe_ix ix_dd (pv 0) pe_int (fun _ _ => rfl)) pa_nil)))) pss_nil) (pss_cons (ps_if (pt_cmpR (op_eq) (pe_ix ix_dd (pv 0) pe_int (fun _ _ => rfl)) pe_str (nomark _)) (pss_one (ps_ret (pe_tup (pa_cons (pe_ix ix_dd (pv 0) pe_int (fun _ _ => rfl)) (pa_cons (pe_ix ix_dd (pv 0) pe_int (fun _ _ => rfl)) pa_nil))))) pss_nil) (pss_cons (ps_if (pt_cmpR (op_eq) (pe_ix ix_dd (pv 0) pe_int (fun _ _ => rfl)) pe_str (nomark _)) (pss_one (ps_ret (pe_tup (pa_cons (pe_ix ix_dd (pv 0) pe_int (fun _ _ => rfl)) pa_nil)))) pss_nil) (pss_one (ps_ret (pe_ix ix_dd (pv 0) (pe_un un_neg pe_int) (fun _ _ => rfl)))))))), ?_⟩
    refine rd_seq ?_
    refine rd_if ?_
    cases t with
    | job d g v cl f =>
      refine rd_kind "job" (by rfl) h rfl ?_
      refine itT (by decide) ?_
      exact ⟨by show 0 ≤ sizeLine; decide, fun p hp => r.new hp .nil⟩
    | timeout k p =>
      refine rd_kind "timeout" (by rfl) h rfl ?_
      refine elF (by decide) ?_
      refine rd_seq ?_; refine rd_if ?_; refine rd_kind "timeout" (by rfl) h rfl ?_
      refine itT (by decide) ?_
      exact ⟨_, rfl, _, _, _, h, rfl, rfl, fun x hx => ⟨by show 1 ≤ sizeLine; decide, fun p hp => r.new hp (.cons hx .nil)⟩⟩
    | orelse p q =>
      refine rd_kind "orelse" (by rfl) h rfl ?_
      refine elF (by decide) ?_
      refine rd_seq ?_; refine rd_if ?_; refine rd_kind "orelse" (by rfl) h rfl ?_
      refine elF (by decide) ?_
      refine rd_seq ?_; refine rd_if ?_; refine rd_kind "orelse" (by rfl) h rfl ?_
      refine itT (by decide) ?_
      exact ⟨_, rfl, _, _, _, h, rfl, rfl, fun x hx => ⟨_, rfl, _, _, _, h, rfl, rfl, fun y hy => ⟨by show 2 ≤ sizeLine; decide, fun p hp => r.new hp (.cons hx (.cons hy .nil))⟩⟩⟩
    | retry n d p =>
      refine rd_kind "retry" (by rfl) h rfl ?_
      refine elF (by decide) ?_
      refine rd_seq ?_; refine rd_if ?_; refine rd_kind "retry" (by rfl) h rfl ?_
      refine elF (by decide) ?_
      refine rd_seq ?_; refine rd_if ?_; refine rd_kind "retry" (by rfl) h rfl ?_
      refine elF (by decide) ?_
      refine rd_seq ?_; refine rd_if ?_; refine rd_kind "retry" (by rfl) h rfl ?_
      refine itT (by decide) ?_
      exact ⟨_, rfl, _, _, _, h, rfl, rfl, fun x hx => ⟨by show 1 ≤ sizeLine; decide, fun p hp => r.new hp (.cons hx .nil)⟩⟩
    | pool n ps =>
      refine rd_kind "pool" (by rfl) h rfl ?_
      refine elF (by decide) ?_
      refine rd_seq ?_; refine rd_if ?_; refine rd_kind "pool" (by rfl) h rfl ?_
      refine elF (by decide) ?_
      refine rd_seq ?_; refine rd_if ?_; refine rd_kind "pool" (by rfl) h rfl ?_
      refine elF (by decide) ?_
      refine rd_seq ?_; refine rd_if ?_; refine rd_kind "pool" (by rfl) h rfl ?_
      refine elF (by decide) ?_
      exact ⟨_, rfl, _, rfl, _, _, _, h, rfl, rfl, fun x hx => r.here hx⟩
    | seq ps =>
      refine rd_kind "sequence" (by rfl) h rfl ?_
      refine elF (by decide) ?_
      refine rd_seq ?_; refine rd_if ?_; refine rd_kind "sequence" (by rfl) h rfl ?_
      refine elF (by decide) ?_
      refine rd_seq ?_; refine rd_if ?_; refine rd_kind "sequence" (by rfl) h rfl ?_
      refine elF (by decide) ?_
      refine rd_seq ?_; refine rd_if ?_; refine rd_kind "sequence" (by rfl) h rfl ?_
      refine elF (by decide) ?_
      exact ⟨_, rfl, _, rfl, _, _, _, h, rfl, rfl, fun x hx => r.here hx⟩
    | scope k ps =>
      refine rd_kind (kdS k) (by rfl) h rfl ?_
      refine elF (by cases k <;> decide) ?_
      refine rd_seq ?_; refine rd_if ?_; refine rd_kind (kdS k) (by rfl) h rfl ?_
      refine elF (by cases k <;> decide) ?_
      refine rd_seq ?_; refine rd_if ?_; refine rd_kind (kdS k) (by rfl) h rfl ?_
      refine elF (by cases k <;> decide) ?_
      refine rd_seq ?_; refine rd_if ?_; refine rd_kind (kdS k) (by rfl) h rfl ?_
      refine elF (by cases k <;> decide) ?_
      exact ⟨_, rfl, _, rfl, _, _, _, h, rfl, rfl, fun x hx => r.here hx⟩)
abbrev eRow (x : Int × Int × Int) : PyData := .tuple [.int x.1, .int x.2.1, .int x.2.2]
def sp_sizes (K : PySem.W.Frag) : Sp := fun vs H Q E => match vs with
  | [v] => ∃ t, DD K H v (ePlan (subs t)) ∧ WF t ∧ size t ≤ 1000 ∧ ∀ D rv (rs : List (Int × Int × Int)) H', Kp none H H' → H' D = some (.lst rv) → DDs K H' rv (rs.map eRow) → rs.length = size t → Q (.ref D) H'
  | _ => False
section
variable {H : Hp} {Nx Bk Ct : L2.St → Hp → Prop} {Rt : VK}
theorem sizes_clean {pv rv nv : V} {t : Asf.T} {o : Nat} {a b c : Int} {x6 : Option V} (hn : DD K H nv (eNode t o)) (r : ∀ z : Int, Nx [some pv, some rv, some nv, some (.int a), some (.int b), some (.int z), x6] H) :
    (tIfS (tTest (tOp rEq (tOp (rIxD K) (tVar 2) (tC (.int 0))) (tC (.str "job")))) (tAsg (tOp (rIxD K) (tVar 2) (tC (.int 4))) (gName 5)) tNext) { nx := Nx, bk := Bk, ct := Ct, rt := Rt } [some pv, some rv, some nv, some (.int a), some (.int b), some (.int c), x6] H := by
  refine rd_if ?_
  refine rd_kind (kindS t) (by rfl) hn rfl ?_
  cases t with
  | job d g v cl f =>
    refine itT (by rfl) ?_
    refine ⟨_, rfl, _, _, _, hn, rfl, rfl, fun x hx => ?_⟩
    cases hx.to_int
    exact r _
  | scope k ps => exact itF (by cases k <;> rfl) (r c)
  | pool n ps => exact itF (by rfl) (r c)
  | seq ps => exact itF (by rfl) (r c)
  | timeout k p => exact itF (by rfl) (r c)
  | orelse p q => exact itF (by rfl) (r c)
  | retry n d p => exact itF (by rfl) (r c)
theorem sizes_retry {pv rv nv : V} {t : Asf.T} {o : Nat} {a b c : Int} {x6 : Option V} (hw : WF t) (hn : DD K H nv (eNode t o)) (r : ∀ z : Int, Nx [some pv, some rv, some nv, some (.int a), some (.int z), some (.int c), x6] H) :
    (tIfS (tTest (tOp rEq (tOp (rIxD K) (tVar 2) (tC (.int 0))) (tC (.str "retry")))) (tAsg (tOp (rI CMul fun i j => .int (i * j)) (tVar 4) (tOp (rI0 fun i j => .int (i + j)) (tOp (rIxD K) (tVar 2) (tC (.int 1))) (tC (.int 1)))) (gName 4)) tNext) { nx := Nx, bk := Bk, ct := Ct, rt := Rt } [some pv, some rv, some nv, some (.int a), some (.int b), some (.int c), x6] H := by
  refine rd_if ?_
  refine rd_kind (kindS t) (by rfl) hn rfl ?_
  cases t with
  | retry n d p =>
    refine itT (by rfl) ?_
    have h5 : n ≤ 5 := hw.1
    refine ⟨_, rfl, _, rfl, _, _, _, hn, rfl, rfl, fun x hx => ?_⟩
    cases hx.to_int
    exact ⟨_, _, rfl, rfl, _, _, rfl, rfl, .inr ⟨by omega, by omega⟩, r _⟩
  | scope k ps => exact itF (by cases k <;> rfl) (r b)
  | pool n ps => exact itF (by rfl) (r b)
  | seq ps => exact itF (by rfl) (r b)
  | timeout k p => exact itF (by rfl) (r b)
  | orelse p q => exact itF (by rfl) (r b)
  | job d g v cl f => exact itF (by rfl) (r b)
end
theorem k_L_sizes (T : Txt K mg) : Cal P w K mg base 2 "_law_sizes" (He.ga K "_law_sizes") ["_law_plan_here"] (sp_sizes K) :=
  cal_L_sizes T (okF T.d_L_sizes sc_L_sizes (fun vs H Q E h => match vs, h with | [_], _ => rfl) fun cdv A outer s H vs Q E hr h => match vs, h with
  | [v], h => by
    obtain ⟨t, hp, hw, hsz, r⟩ := h
    refine ⟨_, (pss_cons (ps_set (i := 1) sc_L_sizes.nd rfl (by first | exact Or.inl rfl | exact Or.inr rfl) (pe_lst pa_nil)) (pss_cons (ps_for PassesOwn.never rfl (pi_tup (pv 0)) (pg_name (i := 2) sc_L_sizes.nd rfl (by first | exact Or.inl rfl | exact Or.inr rfl)) (pss_cons (ps_set (i := 3) sc_L_sizes.nd rfl (by first | exact Or.inl rfl | exact Or.inr rfl) pe_int) (pss_cons (ps_set (i := 4) sc_L_sizes.nd rfl (by first | exact Or.inl rfl | exact Or.inr rfl) (pe_callTy call_int1 (by rfl) T.z_int (by decide +kernel) (pa_cons (pe_cmpR (op_eq) (pe_ix ix_dd (pv 2) pe_int (fun _ _ => rfl)) pe_str (nomark _)) pa_nil))) (pss_cons (ps_set (i := 5) sc_L_sizes.nd rfl (by first | exact Or.inl rfl | exact Or.inr rfl) pe_int) (pss_cons (ps_if (pt_cmpR (op_eq) (pe_ix ix_dd (pv 2) pe_int (fun _ _ => rfl)) pe_str (nomark _)) (pss_one (ps_set (i := 5) sc_L_sizes.nd rfl (by first | exact Or.inl rfl | exact Or.inr rfl) (pe_ix ix_dd (pv 2) pe_int (fun _ _ => rfl)))) pss_nil) (pss_cons (ps_for PassesOwn.never rfl (pi_tup (pe_k (k_L_parts T) hr (pa_cons (pv 2) pa_nil))) (pg_name (i := 6) sc_L_sizes.nd rfl (by first | exact Or.inl rfl | exact Or.inr rfl)) (pss_cons (ps_set (i := 3) sc_L_sizes.nd rfl (by first | exact Or.inl rfl | exact Or.inr rfl) (pe_callB (call_max2 rfl) (by rfl) T.z_max (by decide +kernel) (pa_cons (pv 3) (pa_cons (pe_op op_add (pe_ix ix_dd (pe_ix ix_list (pv 1) (pv 6) (fun _ _ => rfl)) pe_int (fun _ _ => rfl)) pe_int) pa_nil)))) (pss_cons (ps_set (i := 4) sc_L_sizes.nd rfl (by first | exact Or.inl rfl | exact Or.inr rfl) (pe_op op_add (pv 4) (pe_ix ix_dd (pe_ix ix_list (pv 1) (pv 6) (fun _ _ => rfl)) pe_int (fun _ _ => rfl)))) (pss_one (ps_set (i := 5) sc_L_sizes.nd rfl (by first | exact Or.inl rfl | exact Or.inr rfl) (pe_callB (call_max2 rfl) (by rfl) T.z_max (by decide +kernel) (pa_cons (pv 5) (pa_cons (pe_ix ix_dd (pe_ix ix_list (pv 1) (pv 6) (fun _ _ => rfl)) pe_int (fun _ _ => rfl)) pa_nil)))))))) (pss_cons (ps_if (pt_cmpR (op_eq) (pe_ix ix_dd (pv 2) pe_int (fun _ _ => rfl)) pe_str (nomark _)) (pss_one (ps_set (i := 4) sc_L_sizes.nd rfl (by first | exact Or.inl rfl | exact Or.inr rfl) (pe_op op_mul (pv 4) (pe_op op_add (pe_ix ix_dd (pv 2) pe_int (fun _ _ => rfl)) pe_int)))) pss_nil) (pss_one (ps_expr (pe_bm PySem.F.plainAttrs_list PySem.F.slot_list_append PySem.F.type_list_append mt_append (pv 1) (pa_cons (pe_tup (pa_cons (pv 3) (pa_cons (pv 4) (pa_cons (pv 5) pa_nil)))) pa_nil))))))))))) (pss_one (ps_ret (pv 1))))), ?_⟩
    obtain ⟨pa, xs, rfl, hq, hd⟩ := hp.sq
    have hxl := hd.len
    rw [List.length_mapIdx, subs_len] at hxl
    refine rd_sa ?_
    refine ⟨by show 0 ≤ sizeLine; decide, fun D hD => ?_⟩
    have k1 : Kp none H (upd H D (.lst [])) := Kp.new hD
    refine rd_seq ?_
    refine ⟨_, rfl, pa, rfl, ⟨xs, sqT_keep hq k1⟩, ?_⟩
    refine for_tup (xs := xs) (fun i σ H' => ∃ (rs : List (Int × Int × Int)) (x2 x3 x4 x5 x6 : Option V), σ = [some (.ref pa), some (.ref D), x2, x3, x4, x5, x6] ∧ Gr K none H D (rs.map eRow) H' ∧ rs.length = i) ⟨[], _, _, _, _, _, rfl, Gr.start hD, rfl⟩ (fun i σ H' _ g => ?_) ?_ ?_
    · obtain ⟨_, _, _, _, _, _, _, g, _⟩ := g
      exact sqT_keep hq g.1
    · rintro i x σ H' hx ⟨rs, x2, x3, x4, x5, x6, rfl, g, hrl⟩
      obtain ⟨d, hd1, hxd⟩ := hd.of_get hx
      obtain ⟨u, hu, rfl⟩ : ∃ u, (subs t)[i]? = some u ∧ d = eAt i u := by
        rw [List.getElem?_mapIdx] at hd1
        obtain ⟨u, h1, h2⟩ := Option.map_eq_some_iff.mp hd1
        exact ⟨u, h1, h2.symm⟩
      have hwu := subs_wf t hw _ (List.mem_of_getElem? hu)
      have hx' := hxd.mk0 g.1
      refine rd_sc ?_
      obtain ⟨hds, hde⟩ := eNodeL_head u (lo i u)
      refine rd_sa ?_
      refine ⟨_, rfl, _, _, .str (kindS u), hx', rfl, ?_, fun z hz => ?_⟩
      · rw [hde]
        exact L2.atI_nat (j := 0) rfl
      cases hz.to_str
      refine ⟨rfl, .inr ⟨_, rfl, ?_⟩⟩
      refine rd_sc ?_
      refine rd_seq ?_
      refine sizes_clean (o := lo i u) hx' (fun cz => ?_)
      refine rd_seq ?_
      refine ⟨_, rfl, u, lo i u, hx', fun bv H2 k2 hbv => ?_⟩
      obtain ⟨b, xs0, rfl, hb0, _⟩ := id hbv.sq
      have g2 := g.stay k2 k2.tk0 (by simp)
      refine ⟨b, rfl, ⟨_, hbv.idx⟩, ?_⟩
      refine for_tup (xs := iV (kidIdx i u)) (fun j σ H3 => H3 = H2 ∧ ∃ (a b c : Int) (x6 : Option V), σ = [some (.ref pa), some (.ref D), some x, some (.int a), some (.int b), some (.int c), x6]) ⟨rfl, _, _, _, _, rfl⟩ (fun j σ H3 _ q => by rw [q.1]; exact hbv.idx) ?_ ?_
      · rintro j y σ H3 hy ⟨rfl, a, b2, c, x6, rfl⟩
        obtain ⟨n, hkn, rfl⟩ := map_get hy
        obtain ⟨q, hq, hun, _⟩ := kid_of_idx hu hkn
        have hni : n < rs.length := by
          obtain ⟨j', h1, h2, h3⟩ := kid_at (subs_spans t) hu hq
          rw [hkn] at h1
          obtain rfl := Option.some.inj h1
          omega
        obtain ⟨k3, acc, hacc, hdd⟩ := g2
        obtain ⟨ro, hro, hrd⟩ := DDs.get hdd (j := n) (d := eRow rs[n]) (by simp [hni])
        refine rd_sa ?_
        refine ⟨_, rfl, _, rfl, _, rfl, D, _, _, ro, rfl, rfl, SqL.of hacc, L2.atI_nat hro, _, _, _, hrd, rfl, rfl, fun y1 hy1 => ?_⟩
        cases hy1.to_int
        refine ⟨_, _, rfl, rfl, _, _, rfl, ?_⟩
        refine rd_sa ?_
        refine ⟨_, rfl, _, rfl, _, rfl, D, _, _, ro, rfl, rfl, SqL.of hacc, L2.atI_nat hro, _, _, _, hrd, rfl, rfl, fun y2 hy2 => ?_⟩
        cases hy2.to_int
        refine ⟨_, _, rfl, rfl, ?_⟩
        refine ⟨_, rfl, _, rfl, _, rfl, D, _, _, ro, rfl, rfl, SqL.of hacc, L2.atI_nat hro, _, _, _, hrd, rfl, rfl, fun y3 hy3 => ?_⟩
        cases hy3.to_int
        exact ⟨_, _, rfl, rfl, _, _, _, _, rfl⟩
      · rintro σ H3 ⟨rfl, a, b2, c, x6, rfl⟩
        refine rd_seq ?_
        refine sizes_retry (o := lo i u) hwu (hx'.mk0 k2) (fun rz => ?_)
        obtain ⟨k3, acc, hacc, hdd⟩ := id g2
        refine ⟨_, rfl, tyV_list hacc, _, rfl, _, rfl, _, rfl, by show 3 ≤ sizeLine; decide, fun ap hap => ?_⟩
        obtain ⟨acc2, a1, a2, a3⟩ := g2.add0 hD (Kp.new (o := .tup [.int a, .int rz, .int c]) hap) (new_dd hap (.cons (.int _) (.cons (.int _) (.cons (.int _) .nil)))) (d := eRow (a, rz, c)) (by
          have := (List.getElem?_eq_some_iff.mp hu).1
          rw [subs_len] at this
          rw [List.length_map, hrl]
          show i < 16777216
          omega)
        refine ⟨D, acc2, _, rfl, rfl, a1, a2, rs ++ [(a, rz, c)], _, _, _, _, _, rfl, ?_, by rw [List.length_append, hrl]; rfl⟩
        rw [List.map_append]
        exact a3
    · rintro σ H' ⟨rs, x2, x3, x4, x5, x6, rfl, g, hrl⟩
      obtain ⟨k, acc, g2, g3⟩ := g
      exact ⟨_, rfl, r D acc rs H' k g2 g3 (by rw [hrl, hxl])⟩)
end
end Asf
set_option Elab.async false
set_option linter.all false
set_option maxRecDepth 100000
set_option maxHeartbeats 4000000
namespace Asf
open PySem PySem.Spec PyProof.Rows L2
section
variable {P : Program} {w : World} {K : PySem.W.Frag} {mg : Str → Option Value} {base : Heap}
theorem BoxAt.ne_lst {H : Hp} {B p : Addr} {o : HO} (b : BoxAt (upd H p o) B) (hp : H p = none) {i : Int} (h : (upd H p o) p = some (.lst [.int i])) : some B ≠ some p := fun e => by
  obtain ⟨dg, n, is, h1, _⟩ := b
  injection e with e
  rw [e, h] at h1
  injection h1 with h1
  injection h1 with h1
  injection h1 with h1 _
  cases h1
theorem last_of {α : Type} {xs : List α} (h : 1 ≤ xs.length) : ∃ v, xs[xs.length - 1]? = some v ∧ L2.atI xs (-1) = some v := by
  have hne : xs ≠ [] := fun z => by rw [z] at h; cases h
  obtain ⟨ys, y, rfl⟩ := (List.eq_nil_or_concat xs).resolve_left hne
  rw [List.concat_eq_append]
  exact ⟨y, by simp, L2.atI_last ys y⟩
/-- a drawn tree's bounds -/
def Small (t : Asf.T) : Prop := WF t ∧ depth t ≤ 7 ∧ runs t ≤ 56 ∧ size t ≤ 19
section
variable {H : Hp} {Nx Bk Ct : L2.St → Hp → Prop} {Rt : VK}
theorem drawn_cut {B τ : Addr} {kl jv pv kv : V} {t0 : Asf.T} {x6 : Option V} (hp : DD K H pv (ePlan (subs t0))) (hs : Small t0) (b : BoxAt H B) (hτ : H τ = some (.lst [.int (size t0 - 1 : Nat)]))
    (r : ∀ pv' τ' H' t1, DD K H' pv' (ePlan (subs t1)) → Small t1 → BoxAt H' B → Kp (some B) H H' → H' τ' = some (.lst [.int (size t1 - 1 : Nat)]) → Nx [some (.ref B), some kl, some jv, some pv', some (.ref τ'), some kv, x6] H') :
    (tIfS (tOr (tTest (tOp (rI0 fun i j => .bl (decide (j < i))) (tOp (rIxD K) (tOp (rIxL K) (tK (sp_sizes K) (tCons (tVar 3) tNil)) (tUn (rU fun i => .int (-i)) (tC (.int 1)))) (tC (.int 0))) (tC (.int 7)))) (tOr (tTest (tOp (rI0 fun i j => .bl (decide (j < i))) (tOp (rI CMul fun i j => .int (i * j)) (tC (.int 3)) (tOp (rIxD K) (tOp (rIxL K) (tK (sp_sizes K) (tCons (tVar 3) tNil)) (tUn (rU fun i => .int (-i)) (tC (.int 1)))) (tC (.int 1)))) (tC (.int 45)))) (tTest (tOp (rI0 fun i j => .bl (decide (j < i))) (tCB (rLenQ K) (tCons (tVar 3) tNil)) (tC (.int 30)))))) (tSeq (tAsg (tTup (tCons (tK (sp_job K) (tCons (tVar 0) tNil)) tNil)) (gName 3)) (tAsg (tLst (tCons (tC (.int 0)) tNil)) (gName 4))) tNext) { nx := Nx, bk := Bk, ct := Ct, rt := Rt } [some (.ref B), some kl, some jv, some pv, some (.ref τ), some kv, x6] H := by
  have hpos := size_pos t0
  have hsz : size t0 ≤ 1000 := by have := hs.2.2.2; omega
  have cut : ∀ H', Kp none H H' → (tSeq (tAsg (tTup (tCons (tK (sp_job K) (tCons (tVar 0) tNil)) tNil)) (gName 3)) (tAsg (tLst (tCons (tC (.int 0)) tNil)) (gName 4))) { nx := Nx, bk := Bk, ct := Ct, rt := Rt } [some (.ref B), some kl, some jv, some pv, some (.ref τ), some kv, x6] H' := by
    intro H' k
    refine ⟨_, rfl, b.keep0 k, fun v H2 d g z cl f hw k2 b2 hv => ⟨by show 1 ≤ sizeLine; decide, fun a ha => ⟨by show 1 ≤ sizeLine; decide, fun l hl => ?_⟩⟩⟩
    have k3 : Kp none H2 (upd H2 a (.tup [v])) := Kp.new ha
    have k4 : Kp none (upd H2 a (.tup [v])) (upd (upd H2 a (.tup [v])) l (.lst [.int 0])) := Kp.new hl
    refine r _ _ _ (.job d g z cl f) ((new_dd ha (.cons hv .nil)).mk0 k4) ⟨hw, by show 1 ≤ 7; decide, by show 1 ≤ 56; decide, by show 1 ≤ 19; decide⟩ ((b2.keep0 k3).keep0 k4) ((k.weak.trans k2).trans (k3.trans k4).weak) upd_same
  have stay : ∀ H', Kp none H H' → Nx [some (.ref B), some kl, some jv, some pv, some (.ref τ), some kv, x6] H' := fun H' k => r pv τ H' t0 (hp.mk0 k) hs (b.keep0 k) k.weak (k _ _ hτ (by simp))
  refine rd_if ?_
  refine ⟨_, rfl, t0, hp, hs.1, hsz, fun D rv rs H1 k1 hD hd hrl => ?_⟩
  have hrl2 := hd.len
  rw [List.length_map] at hrl2
  obtain ⟨x, hx1, hx2⟩ := last_of (xs := rv) (by omega)
  obtain ⟨e, he, hxe⟩ := hd.of_get hx1
  obtain ⟨rr, _, rfl⟩ := map_get he
  refine ⟨_, rfl, D, _, _, x, rfl, rfl, SqL.of hD, hx2, _, _, _, hxe, rfl, rfl, fun y1 hy1 => ?_⟩
  cases hy1.to_int
  refine ⟨_, _, rfl, rfl, _, rfl, ?_⟩
  refine itB (fun _ => cut H1 k1) (fun _ => ?_)
  refine ⟨_, rfl, t0, hp.mk0 k1, hs.1, hsz, fun D2 rv2 rs2 H2 k2 hD2 hd2 hrl2 => ?_⟩
  have hrl3 := hd2.len
  rw [List.length_map] at hrl3
  obtain ⟨x2, hx21, hx22⟩ := last_of (xs := rv2) (by omega)
  obtain ⟨e2, he2, hxe2⟩ := hd2.of_get hx21
  obtain ⟨rr2, _, rfl⟩ := map_get he2
  refine ⟨_, rfl, D2, _, _, x2, rfl, rfl, SqL.of hD2, hx22, _, _, _, hxe2, rfl, rfl, fun y2 hy2 => ?_⟩
  cases hy2.to_int
  refine ⟨_, _, rfl, rfl, .inl ⟨by decide, by decide⟩, _, _, rfl, rfl, _, rfl, ?_⟩
  have k12 := k1.trans k2
  refine itB (fun _ => cut H2 k12) (fun _ => ?_)
  obtain ⟨pa, ps, rfl, hq, hl⟩ := plan_len (hp.mk0 k12)
  refine ⟨_, rfl, pa, ps, rfl, .inr hq, _, _, rfl, rfl, _, rfl, ?_⟩
  exact itB (fun _ => cut H2 k12) (fun _ => stay H2 k12)
end
end
end Asf
set_option Elab.async false
set_option linter.all false
set_option maxRecDepth 100000
set_option maxHeartbeats 4000000
namespace Asf
open PySem PySem.Spec PyProof.Rows L2
section
variable {P : Program} {w : World} {K : PySem.W.Frag} {mg : Str → Option Value} {base : Heap}
theorem kind_pool {t : Asf.T} (h : kindS t = "pool") : ∃ n ps, t = .pool n ps := by
  cases t with
  | pool n ps => exact ⟨n, ps, rfl⟩
  | scope k ps =>
    have h : kdS k = "pool" := h
    cases k <;> exact absurd h (by decide)
  | job d g v cl f => exact absurd h (by show ¬ ("job" : Str) = "pool"; decide)
  | seq ps => exact absurd h (by show ¬ ("sequence" : Str) = "pool"; decide)
  | timeout k p => exact absurd h (by show ¬ ("timeout" : Str) = "pool"; decide)
  | orelse p q => exact absurd h (by show ¬ ("orelse" : Str) = "pool"; decide)
  | retry n d p => exact absurd h (by show ¬ ("retry" : Str) = "pool"; decide)
theorem inV_pool (s : Str) (h : inV (.str s) [.str "pool"] = true) : s = "pool" := by
  have e : inV (.str s) [.str "pool"] = (eqV (.str "pool") (.str s) || false) := rfl
  rw [e, Bool.or_false] at h
  have : ("pool" : Str) = s := by simpa [eqV] using h
  exact this.symm
def sp_drawn (K : PySem.W.Frag) : Sp := fun vs H Q E => match vs with
  | [.ref B, .ref kl, .int jobs] => jobs = 6 ∧ BoxAt H B ∧ H kl = some (.lst [.str "pool"]) ∧ ∀ v H' n ps, WF (.pool n ps) → depth (.pool n ps) ≤ 8 → runs (.pool n ps) ≤ 58 → size (.pool n ps) ≤ 22 → Kp (some B) H H' → BoxAt H' B → DD K H' v (ePlan (subs (.pool n ps))) → Q v H'
  | _ => False
theorem k_L_drawn (T : Txt K mg) : Cal P w K mg base 4 "_law_drawn" (He.ga K "_law_drawn") ["_law_box", "_law_kinds", "_law_jobs"] (sp_drawn K) :=
  cal_L_drawn T (okF T.d_L_drawn sc_L_drawn (fun vs H Q E h => match vs, h with | [.ref _, .ref _, .int _], _ => rfl) fun cdv A outer s H vs Q E hr h => match vs, h with
  | [.ref B, .ref kl, .int jobs], h => by
    obtain ⟨rfl, b0, hkl, r⟩ := h
    have nkl : some B ≠ some kl := fun e => by
      obtain ⟨dg, n, is, h1, _⟩ := b0
      injection e with e
      rw [e, hkl] at h1
      injection h1 with h1
      injection h1 with h1
      cases h1
    refine ⟨_, (pss_cons (ps_set (i := 3) sc_L_drawn.nd rfl (by first | exact Or.inl rfl | exact Or.inr rfl) (pe_k (k_L_plan T) hr (pa_cons (pv 0) (pa_cons (pv 2) pa_nil)))) (pss_cons (ps_set (i := 4) sc_L_drawn.nd rfl (by first | exact Or.inl rfl | exact Or.inr rfl) (pe_lst (pa_cons (pe_op op_sub (pe_callB (call_lenQ) (by rfl) T.z_len (by decide +kernel) (pa_cons (pv 3) pa_nil)) pe_int) pa_nil))) (pss_cons (ps_set (i := 5) sc_L_drawn.nd rfl (by first | exact Or.inl rfl | exact Or.inr rfl) (pe_ix ix_list (pv 1) (pe_k (k_L_draw T) hr (pa_cons (pv 0) (pa_cons (pe_callB (call_lenQ) (by rfl) T.z_len (by decide +kernel) (pa_cons (pv 1) pa_nil)) pa_nil))) (fun _ _ => rfl))) (pss_cons (ps_if (pt_cmpR (op_in_seq) (pe_ix ix_dd (pe_ix ix_dd (pv 3) (pe_un un_neg pe_int) (fun _ _ => rfl)) pe_int (fun _ _ => rfl)) (pv 1) rfl) (pss_one (ps_ret (pv 3))) pss_nil) (pss_cons (ps_if (PW.pt (pw_or (pt_cmpR (op_gt) (pe_ix ix_dd (pe_ix ix_list (pe_k (k_L_sizes T) hr (pa_cons (pv 3) pa_nil)) (pe_un un_neg pe_int) (fun _ _ => rfl)) pe_int (fun _ _ => rfl)) pe_int (nomark _)) (pw_or (pt_cmpR (op_gt) (pe_op op_mul pe_int (pe_ix ix_dd (pe_ix ix_list (pe_k (k_L_sizes T) hr (pa_cons (pv 3) pa_nil)) (pe_un un_neg pe_int) (fun _ _ => rfl)) pe_int (fun _ _ => rfl))) pe_int (nomark _)) (pw_or1 (pt_cmpR (op_gt) (pe_callB (call_lenQ) (by rfl) T.z_len (by decide +kernel) (pa_cons (pv 3) pa_nil)) pe_int (nomark _)))))) (pss_cons (ps_set (i := 3) sc_L_drawn.nd rfl (by first | exact Or.inl rfl | exact Or.inr rfl) (pe_tup (pa_cons (pe_k (k_L_job T) hr (pa_cons (pv 0) pa_nil)) pa_nil))) (pss_one (ps_set (i := 4) sc_L_drawn.nd rfl (by first | exact Or.inl rfl | exact Or.inr rfl) (pe_lst (pa_cons pe_int pa_nil))))) pss_nil) (pss_cons (ps_set (i := 6) sc_L_drawn.nd rfl (by first | exact Or.inl rfl | exact Or.inr rfl) (pe_k (k_L_job T) hr (pa_cons (pv 0) pa_nil))) (pss_cons (ps_if (pt_cmpR (op_in_seq) (pv 5) (pe_tup (pa_cons pe_str (pa_cons pe_str (pa_cons pe_str (pa_cons pe_str (pa_cons pe_str (pa_cons pe_str pa_nil))))))) rfl) (pss_cons (ps_set (i := 3) sc_L_drawn.nd rfl (by first | exact Or.inl rfl | exact Or.inr rfl) (pe_op op_catD (pv 3) (pe_tup (pa_cons (pv 6) (pa_cons (pe_k (k_L_job T) hr (pa_cons (pv 0) pa_nil)) pa_nil))))) (pss_one (ps_set (i := 4) sc_L_drawn.nd rfl (by first | exact Or.inl rfl | exact Or.inr rfl) (pe_op op_cat (pv 4) (pe_lst (pa_cons (pe_op op_sub (pe_callB (call_lenQ) (by rfl) T.z_len (by decide +kernel) (pa_cons (pv 3) pa_nil)) pe_int) (pa_cons (pe_op op_sub (pe_callB (call_lenQ) (by rfl) T.z_len (by decide +kernel) (pa_cons (pv 3) pa_nil)) pe_int) pa_nil))))))) pss_nil) (pss_cons (ps_if (pt_cmpR (op_eq) (pv 5) pe_str (nomark _)) (pss_cons (ps_set (i := 3) sc_L_drawn.nd rfl (by first | exact Or.inl rfl | exact Or.inr rfl) (pe_slice sl_dd (pv 3) po_none (po_some (pe_un un_neg pe_int)))) (pss_one (ps_set (i := 4) sc_L_drawn.nd rfl (by first | exact Or.inl rfl | exact Or.inr rfl) (pe_slice sl_list (pv 4) po_none (po_some pe_int))))) pss_nil) (pss_cons (ps_if (pt_cmpR (op_in_seq) (pv 5) (pe_tup (pa_cons pe_str (pa_cons pe_str pa_nil))) rfl) (pss_one (ps_set (i := 4) sc_L_drawn.nd rfl (by first | exact Or.inl rfl | exact Or.inr rfl) (pe_slice sl_list (pv 4) po_none (po_some pe_int)))) pss_nil) (pss_one (ps_ret (pe_op op_catD (pv 3) (pe_tup (pa_cons (pe_k (k_L_whole T) hr (pa_cons (pv 0) (pa_cons (pv 5) (pa_cons (pv 4) pa_nil)))) pa_nil)))))))))))))), ?_⟩
    refine rd_sa ?_
    refine ⟨_, rfl, _, rfl, rfl, b0, fun pv H1 t hw hd hr' hs k1 b1 hp => ?_⟩
    obtain ⟨pa, xs, rfl, hq, hl⟩ := plan_len hp
    have hpos := size_pos t
    refine rd_sa ?_
    refine ⟨_, rfl, pa, xs, rfl, .inr hq, _, _, rfl, rfl, by show 1 ≤ sizeLine; decide, fun τ hτ => ?_⟩
    have k2 : Kp none H1 (upd H1 τ (.lst [.int ((xs.length : Nat) - 1)])) := Kp.new hτ
    have hτ2 : (upd H1 τ (.lst [.int ((xs.length : Nat) - 1)])) τ = some (.lst [.int (size t - 1 : Nat)]) := by
      rw [upd_same, hl, show ((size t : Nat) : Int) - 1 = ((size t - 1 : Nat) : Int) by omega]
    have hkl2 := k2 _ _ (k1 _ _ hkl nkl) (by simp)
    refine rd_sa ?_
    refine ⟨_, rfl, _, rfl, _, rfl, kl, _, rfl, .inl (SqL.of hkl2), by decide, b1.keep0 k2, fun r0 H3 p3 q3 k3 b3 => ?_⟩
    have hkl3 := k3 _ _ hkl2 nkl
    have tk3 := (b1.keep0 k2).tk k3
    obtain rfl : r0 = 0 := by have : r0 < 1 := q3; omega
    refine ⟨kl, _, _, _, rfl, rfl, SqL.of hkl3, rfl, ?_⟩
    have hp3 := DD.mono tk3 _ _ (hp.mk0 k2)
    have hτ3 := k3 _ _ hτ2 ((b1.keep0 k2).ne_lst hτ hτ2)
    have kk3 := (k1.trans k2.weak).trans k3
    obtain ⟨e, he1, he2⟩ := last_of (xs := ePlanL (subs t)) (by rw [List.length_mapIdx, subs_len]; omega)
    have he3 : e = eAt (size t - 1) t := by
      rw [List.length_mapIdx, subs_len, eAt_get (subs_last t)] at he1
      exact (Option.some.inj he1).symm
    subst he3
    obtain ⟨hds, hde⟩ := eNodeL_head t (lo (size t - 1) t)
    refine rd_seq ?_
    refine rd_if ?_
    refine ⟨_, rfl, _, rfl, _, _, _, hp3, rfl, he2, fun y hy => ⟨_, _, .str (kindS t), hy, rfl, ?_, fun z hz => ?_⟩⟩
    · rw [hde]
      exact L2.atI_nat (j := 0) rfl
    cases hz.to_str
    refine ⟨_, rfl, kl, _, rfl, .inl (SqL.of hkl3), rfl, rfl, _, rfl, ?_⟩
    refine itB (fun hin => ?_) (fun hin => ?_)
    · obtain ⟨n, ps, rfl⟩ := kind_pool (inV_pool _ hin)
      exact ⟨_, rfl, r _ _ n ps hw (by omega) (by omega) (by omega) kk3 b3 hp3⟩
    refine rd_next ?_
    dsimp only
    refine rd_seq ?_
    refine drawn_cut hp3 ⟨hw, hd, hr', hs⟩ b3 hτ3 (fun pv2 τ2 H4 t1 hp4 hs4 b4 k4 hτ4 => ?_)
    obtain ⟨hw4, hd4, hr4, hsz4⟩ := hs4
    have hpos4 := size_pos t1
    have kk4 := kk3.trans k4
    refine rd_sa ?_
    refine ⟨_, rfl, b4, fun mv H5 d5 g5 z5 c5 f5 hw5 k5 b5 hv5 => ?_⟩
    have tk5 := b4.tk k5
    have hp5 := DD.mono tk5 _ _ hp4
    have hτ5 := k5 _ _ hτ4 (b4.neI (is := [((size t1 - 1 : Nat) : Int)]) hτ4)
    have kk5 := kk4.trans k5
    refine rd_seq ?_
    refine rd_if ?_
    refine ⟨_, rfl, by show 6 ≤ sizeLine; decide, fun p6 hp6 => ⟨p6, _, rfl, .inr (SqT.of upd_same), rfl, rfl, _, rfl, ?_⟩⟩
    have k6 : Kp none H5 (upd H5 p6 (.tup [.str "all", .str "race", .str "any", .str "pool", .str "sequence", .str "orelse"])) := Kp.new hp6
    refine itT (by decide) ?_
    refine rd_sa ?_
    refine ⟨_, rfl, _, rfl, _, rfl, b5.keep0 k6, fun v7 H7 d7 g7 z7 c7 f7 hw7 k7 b7 hv7 => ⟨by show 2 ≤ sizeLine; decide, fun a7 ha7 => ?_⟩⟩
    have tk7 := (b5.keep0 k6).tk k7
    have k8 : Kp none H7 (upd H7 a7 (.tup [mv, v7])) := Kp.new ha7
    have hm7 := DD.mono tk7 _ _ (hv5.mk0 k6)
    have hp7 := DD.mono tk7 _ _ (hp5.mk0 k6)
    have hpl : (ePlanL (subs t1)).length = size t1 := by rw [List.length_mapIdx, subs_len]
    refine ⟨_, _, hp7.mk0 k8, new_dd ha7 (.cons hm7 (.cons hv7 .nil)), by rw [hpl]; show size t1 + 2 ≤ 16777216; omega, fun pv8 H8 k9 hp8 => ?_⟩
    have k79 := k8.trans k9
    have hτ8 := k79 _ _ (k7 _ _ (k6 _ _ hτ5 (by simp)) ((b5.keep0 k6).neI (is := [((size t1 - 1 : Nat) : Int)]) (k6 _ _ hτ5 (by simp)))) (by simp)
    have kk8 := ((kk5.trans k6.weak).trans k7).trans k79.weak
    have b8 := b7.keep0 k79
    have es : subsL [t1, .job d5 g5 z5 c5 f5, .job d7 g7 z7 c7 f7] = subs t1 ++ [.job d5 g5 z5 c5 f5] ++ [.job d7 g7 z7 c7 f7] := by
      show subs t1 ++ ([_] ++ ([_] ++ [])) = _
      rw [List.append_nil, List.append_assoc]
    have ep : ePlanL (subsL [t1, .job d5 g5 z5 c5 f5, .job d7 g7 z7 c7 f7]) = ePlanL (subs t1) ++ [eNode (.job d5 g5 z5 c5 f5) 0, eNode (.job d7 g7 z7 c7 f7) 0] := by
      rw [es, ePlanL_snoc, ePlanL_snoc, List.append_assoc]
      rfl
    rw [← ep] at hp8
    obtain ⟨pa8, xs8, rfl, hq8, hd8⟩ := hp8.sq
    have hl8 := hd8.len
    rw [ep, List.length_append, hpl] at hl8
    have hl8 : xs8.length = size t1 + 2 := hl8
    refine ⟨_, rfl, _, rfl, pa8, xs8, rfl, .inr hq8, _, _, rfl, rfl, _, rfl, pa8, xs8, rfl, .inr hq8, _, _, rfl, rfl, by show 2 ≤ sizeLine; decide, fun q1 hq1 => ?_⟩
    have u1 : Kp none H8 (upd H8 q1 (.lst [.int ((xs8.length : Nat) - 2), .int ((xs8.length : Nat) - 1)])) := Kp.new hq1
    refine ⟨τ2, q1, _, _, rfl, rfl, u1 _ _ hτ8 (by simp), upd_same, by show 1 + 2 ≤ 16777216; decide, fun q2 hq2 => ?_⟩
    have u2 : Kp none (upd H8 q1 (.lst [.int ((xs8.length : Nat) - 2), .int ((xs8.length : Nat) - 1)])) (upd (upd H8 q1 (.lst [.int ((xs8.length : Nat) - 2), .int ((xs8.length : Nat) - 1)])) q2 (.lst ([.int (size t1 - 1 : Nat)] ++ [.int ((xs8.length : Nat) - 2), .int ((xs8.length : Nat) - 1)]))) := Kp.new hq2
    have hq2' : (upd (upd H8 q1 (.lst [.int ((xs8.length : Nat) - 2), .int ((xs8.length : Nat) - 1)])) q2 (.lst ([.int (size t1 - 1 : Nat)] ++ [.int ((xs8.length : Nat) - 2), .int ((xs8.length : Nat) - 1)]))) q2 = some (.lst (iV (idxL [t1, .job d5 g5 z5 c5 f5, .job d7 g7 z7 c7 f7] 0))) := by
      rw [upd_same]
      congr 2
      show [V.int _, .int _, .int _] = [V.int ((0 + size t1 - 1 : Nat) : Int), .int ((0 + size t1 + 1 - 1 : Nat) : Int), .int ((0 + size t1 + 1 + 1 - 1 : Nat) : Int)]
      rw [hl8, show ((size t1 + 2 : Nat) : Int) - 2 = ((0 + size t1 + 1 - 1 : Nat) : Int) by omega, show ((size t1 + 2 : Nat) : Int) - 1 = ((0 + size t1 + 1 + 1 - 1 : Nat) : Int) by omega, show (0 + size t1 - 1 : Nat) = size t1 - 1 by omega]
    have u12 := u1.trans u2
    revert u12 hq2'
    generalize (upd (upd H8 q1 (.lst [.int ((xs8.length : Nat) - 2), .int ((xs8.length : Nat) - 1)])) q2 (.lst ([.int (size t1 - 1 : Nat)] ++ [.int ((xs8.length : Nat) - 2), .int ((xs8.length : Nat) - 1)]))) = H9
    intro hq2' u12
    dsimp only [gName]
    refine rd_seq ?_
    refine rd_if ?_
    refine ⟨_, rfl, rfl, _, rfl, ?_⟩
    refine elF (by decide) ?_
    refine rd_seq ?_
    refine rd_if ?_
    refine ⟨_, rfl, by show 2 ≤ sizeLine; decide, fun p10 hp10 => ⟨p10, _, rfl, .inr (SqT.of upd_same), rfl, rfl, _, rfl, ?_⟩⟩
    have k10 : Kp none H9 (upd H9 p10 (.tup [.str "timeout", .str "retry"])) := Kp.new hp10
    refine elF (by decide) ?_
    have b10 := (b8.keep0 u12).keep0 k10
    have hp10' := (hp8.mk0 u12).mk0 k10
    refine ⟨_, rfl, _, rfl, _, rfl, _, rfl, .pool, [t1, .job d5 g5 z5 c5 f5, .job d7 g7 z7 c7 f7], 0, b10, rfl, k10 _ _ hq2' (by simp), ⟨by simp, by simp⟩, fun v11 H11 tp hmade k11 b11 hv11 => ⟨by show 1 ≤ sizeLine; decide, fun a11 ha11 => ?_⟩⟩
    have tk11 := b10.tk k11
    have k12 : Kp none H11 (upd H11 a11 (.tup [v11])) := Kp.new ha11
    obtain ⟨n, ps, rfl⟩ := kind_pool hmade.2.2.1
    have eps : ps = [t1, .job d5 g5 z5 c5 f5, .job d7 g7 z7 c7 f7] := hmade.1
    have hpl2 : (ePlanL (subsL [t1, .job d5 g5 z5 c5 f5, .job d7 g7 z7 c7 f7])).length = size t1 + 2 := by rw [ep, List.length_append, hpl]; rfl
    refine ⟨_, _, (DD.mono tk11 _ _ hp10').mk0 k12, new_dd ha11 (.cons hv11 .nil), by rw [hpl2]; show size t1 + 2 + 1 ≤ 16777216; omega, fun pv13 H13 k13 hp13 => ?_⟩
    have efin : ePlanL (subs (.pool n ps)) = ePlanL (subsL [t1, .job d5 g5 z5 c5 f5, .job d7 g7 z7 c7 f7]) ++ [eNode (.pool n ps) 0] := by
      have e0 : subs (.pool n ps) = subsL ([] ++ [t1, .job d5 g5 z5 c5 f5, .job d7 g7 z7 c7 f7]) ++ [.pool n ps] := by
        rw [eps]
        rfl
      rw [e0, ePlanL_snoc, eAt_made (as := []) (t := .pool n ps) eps]
      rfl
    rw [← efin] at hp13
    have hwp : WF (.pool n ps) := hmade.2.1 ⟨hw4, hw5, hw7, trivial⟩
    have hrp := hmade.2.2.2
    have e1 : runsL [t1, .job d5 g5 z5 c5 f5, .job d7 g7 z7 c7 f7] = runs t1 + (1 + (1 + 0)) := rfl
    have hrp : runs (Asf.T.pool n ps) = runs t1 + (1 + (1 + 0)) := hrp
    refine r _ _ n ps hwp ?_ (by omega) ?_ (((kk8.trans u12.weak).trans k10.weak).trans (k11.trans (k12.trans k13).weak)) ((b11.keep0 k12).keep0 k13) hp13
    · rw [eps]
      show max (depth t1) (max 1 (max 1 0)) + 1 ≤ 8
      omega
    · rw [eps]
      show size t1 + (1 + (1 + 0)) + 1 ≤ 22
      omega)
end
end Asf
set_option Elab.async false
set_option linter.all false
set_option maxRecDepth 100000
set_option maxHeartbeats 4000000
namespace Asf
open PySem PySem.Spec PyProof.Rows L2
section
variable {P : Program} {w : World} {K : PySem.W.Frag} {mg : Str → Option Value} {base : Heap}
theorem flat_lay : ∀ ds : List PyData, (∀ d ∈ ds, d.canLay0 = true ∧ d.depth = 0) → PyData.canLayAll0 ds = true ∧ PyData.depthAll ds = 0
  | [], _ => ⟨rfl, rfl⟩
  | d :: ds, h => by
    obtain ⟨h1, h2⟩ := h d List.mem_cons_self
    obtain ⟨h3, h4⟩ := flat_lay ds (fun x hx => h x (List.mem_cons_of_mem _ hx))
    constructor
    · simp [PyData.canLayAll0, h1, h3]
    · simp [PyData.depthAll, h2, h4]
theorem shaped_flat {ds : List PyData} (h : ∀ d ∈ ds, d.canLay0 = true ∧ d.depth = 0) : SeqAt.shaped (.tuple ds) = true := by
  obtain ⟨h1, h2⟩ := flat_lay ds h
  unfold SeqAt.shaped
  simp [PyData.canLay0, PyData.depth, h1, h2]
theorem shaped_idx (l : List Nat) : SeqAt.shaped (eIdx l) = true := shaped_flat fun d hd => by
  obtain ⟨n, _, rfl⟩ := List.mem_map.mp hd
  exact ⟨rfl, by simp [PyData.depth]⟩
theorem shaped_res (l : List Er) : SeqAt.shaped (eRes l) = true := shaped_flat fun d hd => by
  obtain ⟨n, _, rfl⟩ := List.mem_map.mp hd
  cases n with
  | num i => exact ⟨rfl, by simp [eEr, PyData.depth]⟩
  | dl => exact ⟨by simp only [eEr, PyData.canLay0]; decide +kernel, by simp [eEr, PyData.depth]⟩
theorem eqv_res (l : List Er) : PyData.eqv (eRes l) (.tuple []) = decide (l = []) := by
  cases l with
  | nil => rfl
  | cons a l => rfl
theorem eqv_idx (l : List Nat) : PyData.eqv (eIdx l) (.tuple []) = decide (l = []) := by
  cases l with
  | nil => rfl
  | cons a l => rfl
def sp_firstOf (K : PySem.W.Frag) : Sp := fun vs H Q E => match vs with
  | [plv, .int at'] => ∃ t i u, DD K H plv (ePlan (subs t)) ∧ (subs t)[i]? = some u ∧ at' = (i : Nat) ∧ depth u ≤ 40 ∧ ∀ H', Kp none H H' → Q (.int (lo i u : Nat)) H'
  | _ => False
theorem k_L_first_of (T : Txt K mg) : Cal P w K mg base 2 "_law_first_of" (He.ga K "_law_first_of") ["_law_plan_here", "_law_at"] (sp_firstOf K) :=
  cal_L_first_of T (okF T.d_L_first_of sc_L_first_of (fun vs H Q E h => match vs, h with | [_, .int _], _ => rfl) fun cdv A outer s H vs Q E hr h => match vs, h with
  | [plv, .int at'], h => by
    obtain ⟨t, i, u, hp, hu, rfl, hd, r⟩ := h
    refine ⟨_, (pss_cons (ps_for PassesOwn.never rfl (pi_range1 rfl T.z_range (pa_cons pe_int pa_nil)) (pg_name (i := 2) sc_L_first_of.nd rfl (by first | exact Or.inl rfl | exact Or.inr rfl)) (pss_one (ps_if (pt_cmpR (op_neD hr.units) (pe_k (k_L_parts T) hr (pa_cons (pe_ix ix_dd (pv 0) (pv 1) (fun _ _ => rfl)) pa_nil)) (pe_tup pa_nil) (nomark _)) (pss_one (ps_set (i := 1) sc_L_first_of.nd rfl (by first | exact Or.inl rfl | exact Or.inr rfl) (pe_ix ix_dd (pe_k (k_L_parts T) hr (pa_cons (pe_ix ix_dd (pv 0) (pv 1) (fun _ _ => rfl)) pa_nil)) pe_int (fun _ _ => rfl)))) pss_nil))) (pss_one (ps_ret (pv 1)))), ?_⟩
    refine rd_seq ?_
    refine ⟨40, rfl, by decide, by decide, ?_⟩
    refine for_range (lo := 0) (n := 40) (fun k σ H' => Kp none H H' ∧ ∃ (j : Nat) (q : Asf.T) (x2 : Option V), σ = [some plv, some (.int (j : Nat)), x2] ∧ (subs t)[j]? = some q ∧ lo j q = lo i u ∧ (depth q + k ≤ 40 ∨ kidsT q = [])) ⟨Kp.refl _ _, i, u, _, rfl, hu, rfl, .inl hd⟩ ?_ ?_
    · rintro k σ H' hk ⟨kk, j, q, x2, rfl, hq, hlo, hdq⟩
      have hp' := hp.mk0 kk
      refine rd_if ?_
      refine ⟨_, rfl, _, rfl, _, _, _, hp', rfl, L2.atI_nat (eAt_get hq), fun nv hn => ⟨q, lo j q, hn, fun bv H1 k1 hb => ⟨by show 0 ≤ sizeLine; decide, fun p hpn => ?_⟩⟩⟩
      have k2 : Kp none H1 (upd H1 p (.tup [])) := Kp.new hpn
      refine ⟨_, .tuple [], (hb.mk0 k2).dp, (new_dd (K := K) hpn .nil).dp, shaped_idx _, rfl, _, rfl, ?_⟩
      rw [eqv_idx]
      have kA := (kk.trans k1).trans k2
      by_cases he : idxL (kidsT q) (lo j q) = []
      · have hkn : kidsT q = [] := by
          have := idxL_length (kidsT q) (lo j q)
          rw [he] at this
          exact List.eq_nil_of_length_eq_zero this.symm
        refine itF (by rw [decide_eq_true he]; rfl) ?_
        exact ⟨kA, j, q, _, rfl, hq, hlo, .inr hkn⟩
      · refine itT (by rw [decide_eq_false he]; rfl) ?_
        cases hk0 : kidsT q with
        | nil => rw [hk0] at he; exact absurd rfl he
        | cons q0 qs =>
          obtain ⟨n, hn1, hn2, hn3⟩ := kid_at (subs_spans t) hq (k := 0) (p := q0) (by rw [hk0]; rfl)
          have hn0 : n = lo j q + size q0 - 1 := by
            unfold kidIdx at hn1
            rw [hk0] at hn1
            exact (Option.some.inj hn1).symm
          have hsp := size_pos q0
          have hdk : depth q0 + 1 ≤ depth q := kid_depth (by rw [hk0]; exact List.mem_cons_self)
          refine ⟨_, rfl, _, rfl, _, _, _, (hp'.mk0 k1).mk0 k2, rfl, L2.atI_nat (eAt_get hq), fun nv2 hn2' => ⟨q, lo j q, hn2', fun bv2 H3 k3 hb2 => ?_⟩⟩
          refine ⟨_, _, .int (n : Nat), hb2, rfl, ?_, fun z hz => ?_⟩
          · show L2.atI ((idxL (kidsT q) (lo j q)).map eN) ((0 : Nat) : Int) = _
            refine L2.atI_nat ?_
            have hn1' : (idxL (kidsT q) (lo j q))[0]? = some n := hn1
            rw [List.getElem?_map, hn1']
            rfl
          · cases hz.to_int
            refine ⟨kA.trans k3, n, q0, _, rfl, hn2, ?_, .inl ?_⟩
            · rw [← hlo, hn0]
              unfold lo
              omega
            · rcases hdq with h | h
              · omega
              · rw [hk0] at h; cases h
    · rintro σ H' ⟨kk, j, q, x2, rfl, hq, hlo, hdq⟩
      have hkn : kidsT q = [] := by
        rcases hdq with h | h
        · have := depth_pos q; omega
        · exact h
      have hs1 : size q = 1 := by rw [size_eq, hkn]; rfl
      have hj : j = lo i u := by rw [← hlo]; unfold lo; omega
      refine ⟨_, rfl, ?_⟩
      rw [hj]
      exact r H' kk)
theorem dd_int {H : Hp} {x y : Int} (h : x = y) : DD K H (.int x) (.int y) := by rw [h]; exact .int y
def sp_moved (K : PySem.W.Frag) : Sp := fun vs H Q E => match vs with
  | [nv, .int less] => ∃ t o, ∃ l : Nat, DD K H nv (eNode t o) ∧ less = (l : Nat) ∧ l ≤ o ∧ WF t ∧ Ret K H (eNode t (o - l)) Q
  | _ => False
theorem idxL_shift : ∀ (ts : List Asf.T) (o l : Nat), l ≤ o → (idxL ts o).map (fun n : Nat => ((n : Nat) : Int) - (l : Nat)) = (idxL ts (o - l)).map fun n : Nat => (n : Int)
  | [], _, _, _ => rfl
  | t :: ts, o, l, h => by
    have hp := size_pos t
    have ih := idxL_shift ts (o + size t) l (by omega)
    rw [show o + size t - l = o - l + size t by omega] at ih
    simp only [idxL, List.map_cons]
    rw [ih]
    congr 1
    omega
theorem k_L_moved (T : Txt K mg) : Cal P w K mg base 1 "_law_moved" (He.ga K "_law_moved") ["_law_node", "_law_less"] (sp_moved K) :=
  cal_L_moved T (okF T.d_L_moved sc_L_moved (fun vs H Q E h => match vs, h with | [_, .int _], _ => rfl) fun cdv A outer s H vs Q E hr h => match vs, h with
  | [nv, .int less], h => by
    obtain ⟨t, o, l, hn, rfl, hlo, hw, r⟩ := h
    refine ⟨_, (pss_cons (ps_if (pt_cmpR (op_eq) (pe_ix ix_dd (pv 0) pe_int (fun _ _ => rfl)) pe_str (nomark _)) (pss_one (ps_ret (pv 0))) pss_nil) (pss_cons (ps_if (pt_cmpR (op_eq) (pe_ix ix_dd (pv 0) pe_int (fun _ _ => rfl)) pe_str (nomark _)) (pss_one (ps_ret (pe_tup (pa_cons pe_str (pa_cons (pe_ix ix_dd (pv 0) pe_int (fun _ _ => rfl)) (pa_cons (pe_op op_sub (pe_ix ix_dd (pv 0) pe_int (fun _ _ => rfl)) (pv 1)) pa_nil)))))) pss_nil) (pss_cons (ps_if (pt_cmpR (op_eq) (pe_ix ix_dd (pv 0) pe_int (fun _ _ => rfl)) pe_str (nomark _)) (pss_one (ps_ret (pe_tup (pa_cons pe_str (pa_cons (pe_op op_sub (pe_ix ix_dd (pv 0) pe_int (fun _ _ => rfl)) (pv 1)) (pa_cons (pe_op op_sub (pe_ix ix_dd (pv 0) pe_int (fun _ _ => rfl)) (pv 1)) pa_nil)))))) pss_nil) (pss_cons (ps_if (pt_cmpR (op_eq) (pe_ix ix_dd (pv 0) pe_int (fun _ _ => rfl)) pe_str (nomark _)) (pss_one (ps_ret (pe_tup (pa_cons pe_str (pa_cons (pe_ix ix_dd (pv 0) pe_int (fun _ _ => rfl)) (pa_cons (pe_ix ix_dd (pv 0) pe_int (fun _ _ => rfl)) (pa_cons (pe_op op_sub (pe_ix ix_dd (pv 0) pe_int (fun _ _ => rfl)) (pv 1)) pa_nil))))))) pss_nil) (pss_one (ps_ret (pe_op op_catD (pe_slice sl_dd (pv 0) po_none (po_some (pe_un un_neg pe_int))) (pe_tup (pa_cons (pe_callTy call_tuple_of (by rfl) T.z_tuple (by decide +kernel) (pa_cons (pe_lc (own := [("_law_part", 2)]) (g := (gName 2)) (tt := tYes) (te := (tOp (rI0 fun i j => .int (i - j)) (tVar 2) (tVar 1))) rfl sc_L_moved.nd (pi_tup (pe_ix ix_dd (pv 0) (pe_un un_neg pe_int) (fun _ _ => rfl))) (blkOk_by (N := ["_law_node", "_law_less", "_law_part"]) (sc := defScope s_L_moved) (by decide +kernel)) (fun _ _ _ _ _ => (pg_name (i := 2) sc_L_moved.nd rfl (by first | exact Or.inl rfl | exact Or.inr rfl))) (fun _ _ _ _ _ => pts_nil) (fun _ _ _ _ _ => (pe_op op_sub (pv 2) (pv 1)))) pa_nil)) pa_nil))))))))), ?_⟩
    refine rd_seq ?_
    refine rd_if ?_
    have tail : ∀ (ps : List Asf.T) (hd : List PyData), ps.length ≤ 6 → eNodeL t o = hd ++ [eIdx (idxL ps o)] → eNodeL t (o - l) = hd ++ [eIdx (idxL ps (o - l))] → hd ≠ [] → hd.length ≤ 2 → (tRet (tOp (rCatD K) (tSl (rSlD K) (tVar 0) tNoPart (tPart (tUn (rU fun i => .int (-i)) (tC (.int 1))))) (tTup (tCons (tCB (fun xs H Q => ∃ p ys, xs = [.ref p] ∧ ((SqL K H p ys ∧ ∀ l, H l = none → Q (.ref l) (upd H l (.tup ys))) ∨ (SqT K H p ys ∧ Q (.ref p) H))) (tCons (tLc (iTup K (tOp (rIxD K) (tVar 0) (tUn (rU fun i => .int (-i)) (tC (.int 1))))) (gName 2) tYes (tOp (rI0 fun i j => .int (i - j)) (tVar 2) (tVar 1)) [2]) tNil)) tNil)))) { nx := fun _ H' => Q .non H', rt := Q } [some nv, some (.int (l : Nat)), none] H := by
      intro ps hd hl6 e1 e2 hne hl2
      rw [show eNode t o = .tuple (hd ++ [eIdx (idxL ps o)]) from congrArg _ e1] at hn
      rw [show eNode t (o - l) = .tuple (hd ++ [eIdx (idxL ps (o - l))]) from congrArg _ e2] at r
      have ec : cutD (hd ++ [eIdx (idxL ps o)]) none (some (-1)) = hd := by
        unfold cutD
        have h1 : HT.sIx (hd ++ [eIdx (idxL ps o)]).length 0 none = 0 := rfl
        have h2 : HT.sIx (hd ++ [eIdx (idxL ps o)]).length (hd ++ [eIdx (idxL ps o)]).length (some (-1)) = hd.length := by
          unfold HT.sIx
          simp
          omega
        rw [h1, h2]
        simp
      refine ⟨_, rfl, 1, rfl, _, rfl, _, hn, ?_⟩
      rw [ec]
      intro v1 H1 k1 hv1
      refine ⟨_, rfl, _, rfl, _, _, eIdx (idxL ps o), hn.mk0 k1, rfl, L2.atI_last _ _, fun v2 hv2 => ?_⟩
      obtain ⟨b, xs0, rfl, hb0, _⟩ := id hv2.sq
      refine ⟨b, rfl, ⟨_, hv2.idx⟩, fun D hD => ?_⟩
      refine lcT (xs := iV (idxL ps o)) (fun j H2 => Gr K none H1 D ((((idxL ps o).take j).map fun n : Nat => ((n : Nat) : Int) - (l : Nat)).map .int) H2) (Gr.start hD) (fun j H2 _ g => sqT_keep hv2.idx g.1) ?_ ?_
      · intro j x H2 hx g
        obtain ⟨n, hkn, rfl⟩ := map_get hx
        refine ⟨rfl, ?_⟩
        refine ⟨_, rfl, _, rfl, _, _, rfl, rfl, ?_⟩
        have e3 := g.add0 hD (Kp.refl _ _) (.int (((n : Nat) : Int) - (l : Nat))) (by
          rw [List.length_map, List.length_map, List.length_take, idxL_length]
          show _ < 16777216
          omega)
        rw [List.take_add_one, hkn]
        simpa using e3
      · intro H2 g
        rw [show (iV (idxL ps o)).length = (idxL ps o).length by rw [List.length_map], List.take_length, idxL_shift ps o l hlo] at g
        obtain ⟨k2, acc, g2, g3⟩ := g
        refine ⟨D, acc, rfl, .inl ⟨SqL.of g2, fun u hu => ⟨by show 1 ≤ sizeLine; decide, fun a ha => ?_⟩⟩⟩
        have k3 : Kp none H2 (upd H2 u (.tup acc)) := Kp.new hu
        have k4 : Kp none (upd H2 u (.tup acc)) (upd (upd H2 u (.tup acc)) a (.tup [.ref u])) := Kp.new ha
        have hnew := new_dd (K := K) ha (.cons (new_dd hu g3) .nil)
        refine ⟨hd, _, hv1.mk0 ((k2.trans k3).trans k4), hnew, by show hd.length + 1 ≤ 16777216; omega, ?_⟩
        have e4 : ((idxL ps (o - l)).map fun n : Nat => (n : Int)).map PyData.int = (idxL ps (o - l)).map eN := by rw [List.map_map]; rfl
        rw [e4]
        exact r.mono (k1.trans ((k2.trans k3).trans k4))
    cases t with
    | job d g v cl f =>
      refine rd_kind "job" (by rfl) hn rfl ?_
      refine itT (by decide) ?_
      exact ⟨_, rfl, r.here hn⟩
    | timeout k p =>
      have hp := size_pos p
      refine rd_kind "timeout" (by rfl) hn rfl ?_
      refine elF (by decide) ?_
      refine rd_seq ?_; refine rd_if ?_; refine rd_kind "timeout" (by rfl) hn rfl ?_
      refine itT (by decide) ?_
      refine ⟨_, rfl, _, _, _, hn, rfl, rfl, fun x hx => ⟨_, rfl, _, _, _, hn, rfl, rfl, fun y hy => ?_⟩⟩
      cases hy.to_int
      refine ⟨_, rfl, _, _, rfl, rfl, by show 3 ≤ sizeLine; decide, fun a ha => r.new ha (.cons (.str _) (.cons hx (.cons ?_ .nil)))⟩
      exact dd_int (by omega)
    | orelse p q =>
      have hp := size_pos p
      have hq := size_pos q
      refine rd_kind "orelse" (by rfl) hn rfl ?_
      refine elF (by decide) ?_
      refine rd_seq ?_; refine rd_if ?_; refine rd_kind "orelse" (by rfl) hn rfl ?_
      refine elF (by decide) ?_
      refine rd_seq ?_; refine rd_if ?_; refine rd_kind "orelse" (by rfl) hn rfl ?_
      refine itT (by decide) ?_
      refine ⟨_, rfl, _, _, _, hn, rfl, rfl, fun x hx => ?_⟩
      cases hx.to_int
      refine ⟨_, rfl, _, _, rfl, rfl, _, rfl, _, _, _, hn, rfl, rfl, fun y hy => ?_⟩
      cases hy.to_int
      refine ⟨_, rfl, _, _, rfl, rfl, by show 3 ≤ sizeLine; decide, fun a ha => r.new ha (.cons (.str _) (.cons ?_ (.cons ?_ .nil)))⟩
      · exact dd_int (by omega)
      · exact dd_int (by omega)
    | retry n d p =>
      have hp := size_pos p
      refine rd_kind "retry" (by rfl) hn rfl ?_
      refine elF (by decide) ?_
      refine rd_seq ?_; refine rd_if ?_; refine rd_kind "retry" (by rfl) hn rfl ?_
      refine elF (by decide) ?_
      refine rd_seq ?_; refine rd_if ?_; refine rd_kind "retry" (by rfl) hn rfl ?_
      refine elF (by decide) ?_
      refine rd_seq ?_; refine rd_if ?_; refine rd_kind "retry" (by rfl) hn rfl ?_
      refine itT (by decide) ?_
      refine ⟨_, rfl, _, _, _, hn, rfl, rfl, fun x hx => ⟨_, rfl, _, _, _, hn, rfl, rfl, fun x2 hx2 => ⟨_, rfl, _, _, _, hn, rfl, rfl, fun y hy => ?_⟩⟩⟩
      cases hy.to_int
      refine ⟨_, rfl, _, _, rfl, rfl, by show 4 ≤ sizeLine; decide, fun a ha => r.new ha (.cons (.str _) (.cons hx (.cons hx2 (.cons ?_ .nil))))⟩
      exact dd_int (by omega)
    | pool n ps =>
      refine rd_kind "pool" (by rfl) hn rfl ?_
      refine elF (by decide) ?_
      refine rd_seq ?_; refine rd_if ?_; refine rd_kind "pool" (by rfl) hn rfl ?_
      refine elF (by decide) ?_
      refine rd_seq ?_; refine rd_if ?_; refine rd_kind "pool" (by rfl) hn rfl ?_
      refine elF (by decide) ?_
      refine rd_seq ?_; refine rd_if ?_; refine rd_kind "pool" (by rfl) hn rfl ?_
      refine elF (by decide) ?_
      exact tail ps [.str "pool", .int n] hw.2.2.1 rfl rfl (by simp) (by simp)
    | seq ps =>
      refine rd_kind "sequence" (by rfl) hn rfl ?_
      refine elF (by decide) ?_
      refine rd_seq ?_; refine rd_if ?_; refine rd_kind "sequence" (by rfl) hn rfl ?_
      refine elF (by decide) ?_
      refine rd_seq ?_; refine rd_if ?_; refine rd_kind "sequence" (by rfl) hn rfl ?_
      refine elF (by decide) ?_
      refine rd_seq ?_; refine rd_if ?_; refine rd_kind "sequence" (by rfl) hn rfl ?_
      refine elF (by decide) ?_
      exact tail ps [.str "sequence"] hw.2.1 rfl rfl (by simp) (by simp)
    | scope k ps =>
      refine rd_kind (kdS k) (by rfl) hn rfl ?_
      refine elF (by cases k <;> decide) ?_
      refine rd_seq ?_; refine rd_if ?_; refine rd_kind (kdS k) (by rfl) hn rfl ?_
      refine elF (by cases k <;> decide) ?_
      refine rd_seq ?_; refine rd_if ?_; refine rd_kind (kdS k) (by rfl) hn rfl ?_
      refine elF (by cases k <;> decide) ?_
      refine rd_seq ?_; refine rd_if ?_; refine rd_kind (kdS k) (by rfl) hn rfl ?_
      refine elF (by cases k <;> decide) ?_
      exact tail ps [.str (kdS k)] hw.2.1 rfl rfl (by simp) (by simp))
end
end Asf
set_option Elab.async false
set_option linter.all false
set_option maxRecDepth 100000
set_option maxHeartbeats 4000000
namespace Asf
open PySem PySem.Spec PyProof.Rows L2
section
variable {P : Program} {w : World} {K : PySem.W.Frag} {mg : Str → Option Value} {base : Heap}
def sp_sub (K : PySem.W.Frag) : Sp := fun vs H Q E => match vs with
  | [plv, .int at'] => ∃ t i u, DD K H plv (ePlan (subs t)) ∧ (subs t)[i]? = some u ∧ at' = (i : Nat) ∧ WF t ∧ size t ≤ 1000 ∧ depth u ≤ 40 ∧ Ret K H (ePlan (subs u)) Q
  | _ => False
theorem k_L_sub (T : Txt K mg) : Cal P w K mg base 3 "_law_sub" (He.ga K "_law_sub") ["_law_plan_here", "_law_at"] (sp_sub K) :=
  cal_L_sub T (okF T.d_L_sub sc_L_sub (fun vs H Q E h => match vs, h with | [_, .int _], _ => rfl) fun cdv A outer s H vs Q E hr h => match vs, h with
  | [plv, .int at'], h => by
    obtain ⟨t, i, u, hp, hu, rfl, hw, hsz, hd, r⟩ := h
    refine ⟨_, (pss_cons (ps_set (i := 2) sc_L_sub.nd rfl (by first | exact Or.inl rfl | exact Or.inr rfl) (pe_k (k_L_first_of T) hr (pa_cons (pv 0) (pa_cons (pv 1) pa_nil)))) (pss_one (ps_ret (pe_callTy call_tuple_of (by rfl) T.z_tuple (by decide +kernel) (pa_cons (pe_lc (own := [("_law_node", 3)]) (g := (gName 3)) (tt := tYes) (te := (tK (sp_moved K) (tCons (tVar 3) (tCons (tVar 2) tNil)))) rfl sc_L_sub.nd (pi_tup (pe_slice sl_dd (pv 0) (po_some (pv 2)) (po_some (pe_op op_add (pv 1) pe_int)))) (blkOk_by (N := ["_law_plan_here", "_law_at", "_law_first", "_law_node"]) (sc := defScope s_L_sub) (by decide +kernel)) (fun _ _ _ _ _ => (pg_name (i := 3) sc_L_sub.nd rfl (by first | exact Or.inl rfl | exact Or.inr rfl))) (fun _ _ _ _ _ => pts_nil) (fun _ _ _ _ _ => (pe_k (k_L_moved T) hr (pa_cons (pv 3) (pa_cons (pv 2) pa_nil))))) pa_nil))))), ?_⟩
    obtain ⟨q1, q2⟩ := subs_spans t i u hu
    have hil := (List.getElem?_eq_some_iff.mp hu).1
    rw [subs_len] at hil
    refine rd_sa ?_
    refine ⟨_, rfl, _, rfl, t, i, u, hp, hu, rfl, hd, fun H1 k1 => ?_⟩
    have hlo : lo i u = i + 1 - size u := rfl
    have hpl : (ePlanL (subs t)).length = size t := by rw [List.length_mapIdx, subs_len]
    have ec : cutD (ePlanL (subs t)) (some ((lo i u : Nat) : Int)) (some ((i : Nat) + 1)) = ((ePlanL (subs t)).drop (lo i u)).take (size u) := by
      unfold cutD
      rw [show ((i : Nat) : Int) + 1 = ((i + 1 : Nat) : Int) by omega, HT.sIx_nat, HT.sIx_nat, hpl, show min (lo i u) (size t) = lo i u by omega, show min (i + 1) (size t) = i + 1 by omega, show i + 1 - lo i u = size u by omega]
    refine ⟨_, rfl, _, rfl, _, rfl, _, rfl, _, _, rfl, rfl, _, rfl, _, hp.mk0 k1, ?_⟩
    rw [ec]
    intro sv H2 k2 hsv
    obtain ⟨sa, xs, rfl, hq, hd2⟩ := hsv.sq
    have hxl : xs.length = size u := by
      rw [hd2.len, List.length_take, List.length_drop, hpl]
      omega
    refine ⟨sa, rfl, ⟨xs, hq⟩, fun D hD => ?_⟩
    refine lcT (xs := xs) (fun j H3 => Gr K none H2 D ((ePlanL (subs u)).take j) H3) (Gr.start hD) (fun j H3 _ g => sqT_keep hq g.1) ?_ ?_
    · intro j x H3 hx g
      have hjl := (List.getElem?_eq_some_iff.mp hx).1
      obtain ⟨d, hdd, hxd⟩ := hd2.of_get hx
      have hsub : ∃ u', (subs u)[j]? = some u' := ⟨(subs u)[j]'(by rw [subs_len]; omega), by simp⟩
      obtain ⟨u', hu'⟩ := hsub
      have hu2 : (subs t)[lo i u + j]? = some u' := by
        have e := hu'
        rw [← q2, List.getElem?_take_of_lt (by omega), List.getElem?_drop] at e
        exact e
      have hdv : d = eAt (lo i u + j) u' := by
        rw [List.getElem?_take_of_lt (by omega), List.getElem?_drop, eAt_get hu2] at hdd
        exact (Option.some.inj hdd).symm
      subst hdv
      have hs' := (subs_spans u j u' hu').1
      have e5 : lo (lo i u + j) u' - lo i u = lo j u' := by
        show lo i u + j + 1 - size u' - lo i u = j + 1 - size u'
        omega
      have h6 : lo i u ≤ lo (lo i u + j) u' := by
        show lo i u ≤ lo i u + j + 1 - size u'
        omega
      refine ⟨rfl, ?_⟩
      refine ⟨_, rfl, _, rfl, u', lo (lo i u + j) u', lo i u, hxd.mk0 g.1, rfl, h6, subs_wf t hw _ (List.mem_of_getElem? hu2), fun v H4 k4 hv => ?_⟩
      rw [e5] at hv
      have e6 : (ePlanL (subs u)).take (j + 1) = (ePlanL (subs u)).take j ++ [eAt j u'] := by
        rw [List.take_add_one, eAt_get hu']
        rfl
      rw [e6]
      refine g.add0 hD k4 hv ?_
      rw [List.length_take]
      show _ < 16777216
      omega
    · intro H3 g
      rw [show (ePlanL (subs u)).take xs.length = ePlanL (subs u) by rw [hxl, ← subs_len, ← List.length_mapIdx (f := eAt), List.take_length]] at g
      obtain ⟨k3, acc, g2, g3⟩ := g
      exact ⟨D, acc, rfl, .inl ⟨SqL.of g2, fun l hl => (r.mono ((k1.trans k2).trans k3)).new hl g3⟩⟩)
theorem k_L_earlier (T : Txt K mg) : Cal P w K mg base 1 "_law_earlier" (He.ga K "_law_earlier") ["_law_one", "_law_two"] (sp_earliest K) :=
  cal_L_earlier T (okF T.d_L_earlier sc_L_earlier (fun vs H Q E h => match vs, h with | [_, _], _ => rfl) fun cdv A outer s H vs Q E hr h => match vs, h with
  | [x, y], h => by
    obtain ⟨a, b, ha, hb, r⟩ := h
    refine ⟨_, (pss_cons (ps_if (pt_cmp (pc_isN (pv 0)) rfl) (pss_one (ps_ret (pv 1))) pss_nil) (pss_cons (ps_if (PW.pt (pw_or (pt_cmp (pc_isN (pv 1)) rfl) (pw_or1 (pt_cmpR (op_leI (hu_of hr)) (pv 0) (pv 1) (nomark _))))) (pss_one (ps_ret (pv 0))) pss_nil) (pss_one (ps_ret (pv 1))))), ?_⟩
    refine rd_seq ?_
    refine rd_if ?_
    refine ⟨x, rfl, _, rfl, ?_⟩
    cases a with
    | none =>
      cases ha
      exact ⟨y, rfl, r y hb⟩
    | some i =>
      refine elF (InsAt.ne_non ha) ?_
      refine rd_seq ?_
      refine rd_if ?_
      refine ⟨y, rfl, _, rfl, ?_⟩
      cases b with
      | none =>
        cases hb
        exact itT rfl ⟨x, rfl, r x ha⟩
      | some j =>
        have e : earliest (some i) (some j) = some (if ilt j i = true then j else i) := rfl
        rw [e] at r
        refine itF (InsAt.ne_non hb) ?_
        refine ⟨x, rfl, y, rfl, i, j, ha, hb, _, rfl, ?_⟩
        cases hl : ilt j i with
        | true =>
          rw [hl, if_pos rfl] at r
          exact elF rfl ⟨y, rfl, r y hb⟩
        | false =>
          rw [hl, if_neg Bool.false_ne_true] at r
          exact itT rfl ⟨x, rfl, r x ha⟩)
def sp_late (K : PySem.W.Frag) : Sp := fun vs H Q E => match vs with
  | [x, y] => ∃ a b, InsAt H x a ∧ OIns H y b ∧ Q (.bl (!na a b)) H
  | _ => False
theorem k_L_late (T : Txt K mg) : Cal P w K mg base 1 "_law_late" (He.ga K "_law_late") ["_law_instant", "_law_cancel_here"] (sp_late K) :=
  cal_L_late T (okF T.d_L_late sc_L_late (fun vs H Q E h => match vs, h with | [_, _], _ => rfl) fun cdv A outer s H vs Q E hr h => match vs, h with
  | [x, y], h => by
    obtain ⟨a, b, ha, hb, r⟩ := h
    refine ⟨_, (pss_one (ps_ret (pe_and (pe_cmp (pc_notN (pv 1)) rfl) (pe_one (pe_cmpR (op_gtI (hu_of hr)) (pv 0) (pv 1) (nomark _)))))), ?_⟩
    refine ⟨y, rfl, _, rfl, ?_⟩
    rw [OIns.isN hb]
    cases b with
    | none => exact r
    | some j =>
      refine itT rfl ?_
      refine ⟨x, rfl, y, rfl, a, j, ha, hb, ?_⟩
      have e : (!na a (some j)) = ilt j a := by show (!!ilt j a) = _; rw [Bool.not_not]
      rw [e] at r
      exact r)
end
end Asf
set_option Elab.async false
set_option linter.all false
set_option maxRecDepth 100000
set_option maxHeartbeats 4000000
namespace Asf
open PySem PySem.Spec PyProof.Rows L2
def eOP : Option Pred → PyData
  | none => .none
  | some p => ePred p.1 p.2
theorem comL_snoc (ps : List (Option Pred)) {i : Nat} {p : Option Pred} (h : ps[i]? = some p) : comL (ps.take (i + 1)) = comL (ps.take i) ++ comOf (p.map (·.1)) := take_succ_flat _ ps h
section
variable {P : Program} {w : World} {K : PySem.W.Frag} {mg : Str → Option Value} {base : Heap}
def sp_begin (K : PySem.W.Frag) : Sp := fun vs H Q E => match vs with
  | [.ref a, .int n, .int k', sv] => ∃ xs ps s, ∃ k : Nat, H a = some (.lst xs) ∧ DDs K H xs (ps.map eOP) ∧ ps.length ≤ 1000 ∧ k' = (k : Nat) ∧ InsAt H sv s ∧ ∀ v H', Kp none H H' → OIns H' v (beginOf n s k (comL ps)) → Q v H'
  | _ => False
theorem k_L_begin (T : Txt K mg) : Cal P w K mg base 1 "_law_begin" (He.ga K "_law_begin") ["_law_parts_here", "_law_size", "_law_k", "_law_start_here"] (sp_begin K) :=
  cal_L_begin T (okF T.d_L_begin sc_L_begin (fun vs H Q E h => match vs, h with | [.ref _, .int _, .int _, _], _ => rfl) fun cdv A outer s0 H vs Q E hr h => match vs, h with
  | [.ref a, .int n, .int k', sv], h => by
    obtain ⟨xs, ps, s, k, ha, hxs, hlen, rfl, hs, r⟩ := h
    refine ⟨_, (pss_cons (ps_if (pt_cmpR (op_lt) (pv 2) (pv 1) (nomark _)) (pss_one (ps_ret (pv 3))) pss_nil) (pss_cons (ps_set (i := 4) sc_L_begin.nd rfl (by first | exact Or.inl rfl | exact Or.inr rfl) (pe_callB (cr_sortI) (by rfl) T.z_sorted (by decide +kernel) (pa_cons (pe_lc (own := [("_law_part", 5)]) (g := (gName 5)) (tt := (tAnd (tB (tNotN (tVar 5))) (tTest (tOp rEq (tOp (rIxD K) (tVar 5) (tC (.int 1))) (tC (.str "completed")))))) (te := (tOp (rIxD K) (tVar 5) (tC (.int 0)))) rfl sc_L_begin.nd (pi_list (pv 0)) (blkOk_by (N := ["_law_parts_here", "_law_size", "_law_k", "_law_start_here", "_law_ends", "_law_part"]) (sc := defScope s_L_begin) (by decide +kernel)) (fun _ _ _ _ _ => (pg_name (i := 5) sc_L_begin.nd rfl (by first | exact Or.inl rfl | exact Or.inr rfl))) (fun _ _ _ _ _ => (pts_one (PW.pt (pw_and (pt_cmp (pc_notN (pv 5)) rfl) (pw_and1 (pt_cmpR (op_eq) (pe_ix ix_dd (pv 5) pe_int (fun _ _ => rfl)) pe_str (nomark _))))))) (fun _ _ _ _ _ => (pe_ix ix_dd (pv 5) pe_int (fun _ _ => rfl)))) pa_nil))) (pss_cons (ps_if (pt_cmpR (op_lt) (pe_op op_sub (pv 2) (pv 1)) (pe_callB (call_lenQ) (by rfl) T.z_len (by decide +kernel) (pa_cons (pv 4) pa_nil)) (nomark _)) (pss_one (ps_ret (pe_ix ix_list (pv 4) (pe_op op_sub (pv 2) (pv 1)) (fun _ _ => rfl)))) pss_nil) (pss_one (ps_ret pe_non))))), ?_⟩
    unfold beginOf at r
    refine rd_seq ?_
    refine rd_if ?_
    refine ⟨_, rfl, _, rfl, _, _, rfl, rfl, _, rfl, ?_⟩
    by_cases h1 : (k : Int) < n
    · refine itT (decide_eq_true h1) ?_
      rw [if_pos h1] at r
      exact ⟨_, rfl, r sv H (Kp.refl _ _) hs⟩
    refine elF (decide_eq_false h1) ?_
    rw [if_neg h1] at r
    refine rd_sa ?_
    refine ⟨_, rfl, a, rfl, ⟨xs, SqL.of ha⟩, fun D hD => ?_⟩
    refine lcL (xs := xs) (fun i H1 => Gr K none H D ((comL (ps.take i)).map eI) H1) (Gr.start hD) (fun i H1 _ g => SqL.of (g.1 _ _ ha (by simp))) ?_ ?_
    · intro i x H1 hx g
      obtain ⟨d, hd, hxd⟩ := hxs.of_get hx
      obtain ⟨p, hp, rfl⟩ := map_get hd
      have hx1 := hxd.mk0 g.1
      have hi := (List.getElem?_eq_some_iff.mp hp).1
      refine ⟨rfl, ?_⟩
      rw [comL_snoc ps hp]
      refine ⟨_, rfl, _, rfl, ?_⟩
      cases p with
      | none =>
        cases hx1.to_non
        refine itF rfl ?_
        refine itF rfl ?_
        simpa [comOf] using g
      | some q =>
        refine itT (by rw [DD.ne_non hx1]; rfl) ?_
        refine ⟨_, rfl, _, _, _, hx1, rfl, rfl, fun z hz => ?_⟩
        cases hz.to_str
        refine ⟨rfl, _, rfl, ?_⟩
        rw [dCom]
        have ec : comOf ((some q).map (·.1)) = if q.1.oc = .com then [q.1.en] else [] := rfl
        rw [ec]
        by_cases qc : q.1.oc = .com
        · refine itT (decide_eq_true qc) ?_
          refine ⟨_, rfl, _, _, _, hx1, rfl, rfl, fun y hy => ?_⟩
          have hcl : (comL (ps.take i)).length ≤ 1000 := by
            have : ∀ l : List (Option Pred), (comL l).length ≤ l.length := by
              intro l
              induction l with
              | nil => exact Nat.zero_le _
              | cons p l ih =>
                have e : comL (p :: l) = comOf (p.map (·.1)) ++ comL l := rfl
                rw [e, List.length_append, List.length_cons]
                have : (comOf (p.map (·.1))).length ≤ 1 := by
                  cases p with
                  | none => exact Nat.zero_le _
                  | some p =>
                    show (if p.1.oc = .com then [p.1.en] else []).length ≤ 1
                    split <;> simp
                omega
            have h2 := this (ps.take i)
            rw [List.length_take] at h2
            omega
          have e2 := g.add0 hD (Kp.refl _ _) hy (by rw [List.length_map]; show _ < 16777216; omega)
          rw [if_pos qc, List.map_append]
          exact e2
        · refine itF (decide_eq_false qc) ?_
          rw [if_neg qc, List.append_nil]
          exact g
    · intro H1 g
      rw [show ps.take xs.length = ps by rw [hxs.len, List.length_map, List.take_length]] at g
      obtain ⟨k1, acc, g2, g3⟩ := g
      refine ⟨D, acc, _, rfl, SqL.of g2, DDs.insts g3, fun dn ys hdn hys => ?_⟩
      have k2 : Kp none H1 (upd H1 dn (.lst ys)) := Kp.new hdn
      have hys := paired_imp (fun a b (h : InsAt H1 a b) => h.mk0 k2) hys
      have hl := hys.length
      refine rd_seq ?_
      refine rd_if ?_
      refine ⟨_, rfl, _, rfl, _, _, rfl, rfl, _, rfl, dn, ys, rfl, .inl (SqL.of upd_same), _, _, rfl, rfl, _, rfl, ?_⟩
      by_cases h2 : (k : Int) - n < (ys.length : Int)
      · refine itT (decide_eq_true h2) ?_
        have hlt : ((k : Int) - n).toNat < ys.length := by omega
        obtain ⟨i0, hi0, hii⟩ := paired_l hys (j := ((k : Int) - n).toNat) (a := ys[((k : Int) - n).toNat]) (by simp [hlt])
        rw [hi0] at r
        have ea : L2.atI ys ((((k : Int) - n).toNat : Nat) : Int) = some ys[((k : Int) - n).toNat] := L2.atI_nat (by simp [hlt])
        rw [show ((((k : Int) - n).toNat : Nat) : Int) = (k : Int) - n by omega] at ea
        exact ⟨_, rfl, _, rfl, _, rfl, _, _, rfl, rfl, dn, ys, _, _, rfl, rfl, SqL.of upd_same, ea, r _ _ (k1.trans k2) hii⟩
      · refine elF (decide_eq_false h2) ?_
        rw [List.getElem?_eq_none (by omega)] at r
        exact r .non _ (k1.trans k2) rfl)
def sp_pass (K : PySem.W.Frag) : Sp := fun vs H Q E => match vs with
  | [.ref sl, .int n, pav, sv, cv] => ∃ xs, ∃ us : List T, ∃ pa s c, H sl = some (.lst xs) ∧ DDs K H xs (us.map fun u => ePlan (subs u)) ∧ (∀ u ∈ us, PlanOk u) ∧ us.length ≤ 6 ∧ DD K H pav (ePath pa) ∧ pa.length ≤ 800 ∧ InsAt H sv s ∧ OIns H cv c ∧ OLe s c ∧
    ∀ D acc H', Kp none H H' → H' D = some (.lst acc) → DDs K H' acc ((lawPass n pa s c (us.map den)).map eOP) → Q (.ref D) H'
  | _ => False
theorem lawPass_snoc (n : Int) (pa : Path) (s : Ins) (c : Option Ins) (bs : List Beh) {k : Nat} {b : Beh} (h : bs[k]? = some b) : lawPass n pa s c (bs.take (k + 1)) = lawPass n pa s c (bs.take k) ++ [lawOne n pa s c (lawPass n pa s c (bs.take k)).length (comL (lawPass n pa s c (bs.take k))) b] := by
  unfold lawPass
  rw [List.take_add_one, h, List.foldl_append]
  rfl
theorem lawPass_len (n : Int) (pa : Path) (s : Ins) (c : Option Ins) : ∀ bs : List Beh, (lawPass n pa s c bs).length = bs.length := by
  have : ∀ (bs : List Beh) (acc : List (Option Pred)), (bs.foldl (lawAcc n pa s c) acc).length = acc.length + bs.length := by
    intro bs
    induction bs with
    | nil => intro acc; rfl
    | cons b bs ih =>
      intro acc
      rw [List.foldl_cons, ih, List.length_cons]
      unfold lawAcc
      rw [List.length_append]
      show acc.length + 1 + bs.length = _
      omega
  intro bs
  unfold lawPass
  rw [this]
  simp
theorem lawOne_yes {n : Int} {pa : Path} {s : Ins} {c : Option Ins} {k : Nat} {comp : List Ins} {b : Beh} {g : Ins} (h : beginOf n s k comp = some g) (q : na g c = true) : lawOne n pa s c k comp b = some (b.fin g c, b.tr (kidPath pa k) g c) := by
  unfold lawOne
  rw [h]
  dsimp only
  rw [if_pos q]
theorem lawOne_no {n : Int} {pa : Path} {s : Ins} {c : Option Ins} {k : Nat} {comp : List Ins} {b : Beh} (h : ∀ g, beginOf n s k comp = some g → na g c = false) : lawOne n pa s c k comp b = neverP pa k c := by
  unfold lawOne
  cases e : beginOf n s k comp with
  | none => rfl
  | some g =>
    dsimp only
    rw [if_neg (by rw [h g e]; exact Bool.false_ne_true)]
theorem k_L_pass (T : Txt K mg) : Cal P w K mg base 57 "_law_pass" (He.ga K "_law_pass") ["_law_subs", "_law_size", "_law_path", "_law_start_here", "_law_settled"] (sp_pass K) :=
  cal_L_pass T (okF T.d_L_pass sc_L_pass (fun vs H Q E h => match vs, h with | [.ref _, .int _, _, _, _], _ => rfl) fun cdv A outer s0 H vs Q E hr h => match vs, h with
  | [.ref sl, .int n, pav, sv, cv], h => by
    obtain ⟨xs, us, pa, s, c, hsl, hxs, hok, hl6, hpa, hpl, hs, hc, ho, r⟩ := h
    refine ⟨_, (pss_cons (ps_set (i := 5) sc_L_pass.nd rfl (by first | exact Or.inl rfl | exact Or.inr rfl) (pe_lst pa_nil)) (pss_cons (ps_for PassesOwn.never rfl (pi_range1 rfl T.z_range (pa_cons (pe_callB (call_lenQ) (by rfl) T.z_len (by decide +kernel) (pa_cons (pv 0) pa_nil)) pa_nil)) (pg_name (i := 6) sc_L_pass.nd rfl (by first | exact Or.inl rfl | exact Or.inr rfl)) (pss_cons (ps_set (i := 7) sc_L_pass.nd rfl (by first | exact Or.inl rfl | exact Or.inr rfl) (pe_k (k_L_begin T) hr (pa_cons (pv 5) (pa_cons (pv 1) (pa_cons (pv 6) (pa_cons (pv 3) pa_nil)))))) (pss_one (ps_if (PW.pt (pw_and (pt_cmp (pc_notN (pv 7)) rfl) (pw_and1 (pt_not (pt_val (pe_k (k_L_late T) hr (pa_cons (pv 7) (pa_cons (pv 4) pa_nil)))))))) (pss_one (ps_expr (pe_bm PySem.F.plainAttrs_list PySem.F.slot_list_append PySem.F.type_list_append mt_append (pv 5) (pa_cons (pe_k (k_predict T) hr (pa_cons (pe_ix ix_list (pv 0) (pv 6) (fun _ _ => rfl)) (pa_cons (pe_op op_catD (pv 2) (pe_tup (pa_cons pe_int (pa_cons (pv 6) pa_nil)))) (pa_cons (pv 7) (pa_cons (pv 4) pa_nil))))) pa_nil)))) (pss_one (ps_if (pt_cmp (pc_isN (pv 4)) rfl) (pss_one (ps_expr (pe_bm PySem.F.plainAttrs_list PySem.F.slot_list_append PySem.F.type_list_append mt_append (pv 5) (pa_cons pe_non pa_nil)))) (pss_cons (ps_set (i := 8) sc_L_pass.nd rfl (by first | exact Or.inl rfl | exact Or.inr rfl) (pe_tup (pa_cons (pe_ix ix_dd (pv 4) pe_int (fun _ _ => rfl)) (pa_cons (pe_op op_add (pe_ix ix_dd (pv 4) pe_int (fun _ _ => rfl)) pe_int) pa_nil)))) (pss_one (ps_expr (pe_bm PySem.F.plainAttrs_list PySem.F.slot_list_append PySem.F.type_list_append mt_append (pv 5) (pa_cons (pe_tup (pa_cons (pv 8) (pa_cons pe_str (pa_cons (pe_tup pa_nil) (pa_cons (pe_tup (pa_cons (pe_tup (pa_cons (pe_op op_catD (pv 2) (pe_tup (pa_cons pe_int (pa_cons (pv 6) pa_nil)))) (pa_cons pe_non (pa_cons (pv 8) (pa_cons pe_str (pa_cons (pe_tup pa_nil) pa_nil)))))) pa_nil)) pa_nil))))) pa_nil))))))))))) (pss_one (ps_ret (pv 5))))), ?_⟩
    have hxl := hxs.len
    rw [List.length_map] at hxl
    refine rd_sa ?_
    refine ⟨by show 0 ≤ sizeLine; decide, fun D hD => ?_⟩
    have k0 : Kp none H (upd H D (.lst [])) := Kp.new hD
    refine rd_seq ?_
    refine ⟨_, rfl, sl, xs, rfl, .inl (SqL.of (k0 _ _ hsl (by simp))), xs.length, rfl, by omega, by omega, ?_⟩
    have en : ((xs.length : Nat) : Int).toNat = xs.length := by omega
    rw [en]
    refine for_range (lo := 0) (n := xs.length) (fun k σ H' => ∃ x6 x7 x8, σ = [some (.ref sl), some (.int n), some pav, some sv, some cv, some (.ref D), x6, x7, x8] ∧ Gr K none H D ((lawPass n pa s c ((us.map den).take k)).map eOP) H') ⟨_, _, _, rfl, Gr.start hD⟩ ?_ ?_
    · rintro k σ H' hk ⟨x6, x7, x8, rfl, g⟩
      have hku : k < us.length := by omega
      have hb : (us.map den)[k]? = some (den us[k]) := by simp [hku]
      have hsn := lawPass_snoc n pa s c (us.map den) hb
      have hpl2 : (lawPass n pa s c ((us.map den).take k)).length = k := by
        rw [lawPass_len, List.length_take, List.length_map]
        omega
      rw [hpl2] at hsn
      obtain ⟨kk, acc, hacc, haccd⟩ := id g
      have hal := haccd.len
      rw [List.length_map, hpl2] at hal
      refine rd_sa ?_
      refine ⟨_, rfl, _, rfl, _, rfl, _, rfl, acc, _, s, k, hacc, haccd, by omega, by omega, hs.mk0 kk, fun bv H1 k1 hbv => ?_⟩
      have kk1 := kk.trans k1
      have g1 := g.stay k1 k1.tk0 (by simp)
      generalize hB : beginOf n s k (comL (lawPass n pa s c ((us.map den).take k))) = bg at hbv
      have hc1 := hc.mk0 kk1
      refine rd_if ?_
      refine rd_andI (A := !decide (bg = none)) (B := beginOk c bg) (fun R z => ⟨_, rfl, _, rfl, ?_⟩) (fun hA R z => ?_) ?_
      · rw [OIns.isN hbv]
        exact z
      · cases bg with
        | none => cases hA
        | some g0 =>
          refine ⟨_, rfl, _, rfl, g0, c, hbv, hc1, _, rfl, ?_⟩
          show R (!(!na g0 c)) H1
          rw [Bool.not_not]
          exact z
      have kpath : ∀ (Hx : Hp) (a : Addr), Kp none H Hx → Hx a = none → DD K (upd Hx a (.tup [.int 0, .int (0 + (k : Nat))])) pav (ePath pa) ∧ DD K (upd Hx a (.tup [.int 0, .int (0 + (k : Nat))])) (.ref a) (.tuple [.int 0, .int (k : Nat)]) ∧ Kp none Hx (upd Hx a (.tup [.int 0, .int (0 + (k : Nat))])) := fun Hx a kx ha =>
        ⟨hpa.mk0 (kx.trans (Kp.new ha)), new_dd ha (.cons (.int _) (.cons (dd_int (by omega)) .nil)), Kp.new ha⟩
      have hpl9 : (pa.map PyData.int).length + 2 ≤ sizeLine := by
        rw [List.length_map]
        show pa.length + 2 ≤ 16777216
        omega
      have ekp : (PyData.tuple (pa.map .int ++ [.int 0, .int (k : Nat)])) = ePath (kidPath pa k) := by
        unfold kidPath
        show _ = PyData.tuple (List.map _ (_ ++ _))
        rw [List.map_append]
        rfl
      by_cases hyes : ∃ g, bg = some g ∧ na g c = true
      · obtain ⟨g0, rfl, hna⟩ := hyes
        refine itT (by show (!decide (some g0 = none) && na g0 c) = true; rw [hna]; simp) ?_
        rw [lawOne_yes hB hna] at hsn
        obtain ⟨hxk1, hxk2⟩ := List.getElem?_eq_some_iff.mp (show xs[k]? = some (xs[k]'(by omega)) by simp)
        obtain ⟨d, hd, hxd⟩ := hxs.of_get (show xs[k]? = some (xs[k]'(by omega)) by simp)
        obtain ⟨u, hu, rfl⟩ := map_get hd
        have hu' : u = us[k] := by simpa [hku] using hu.symm
        subst hu'
        refine ⟨_, rfl, tyV_list (k1 _ _ hacc (by simp)), _, rfl, _, rfl, sl, _, _, xs[k]'(by omega), rfl, rfl, SqL.of (kk1 _ _ hsl (by simp)), ?_, ?_⟩
        · have e := L2.atI_nat (xs := xs) (j := k) (v := xs[k]'(by omega)) (by simp)
          rw [show ((k : Nat) : Int) = 0 + (k : Nat) by omega] at e
          exact e
        refine ⟨_, rfl, _, rfl, by show 2 ≤ sizeLine; decide, fun a ha => ?_⟩
        obtain ⟨e1, e2, k2⟩ := kpath H1 a kk1 ha
        refine ⟨_, _, e1, e2, hpl9, fun pv2 H2 k3 hpv => ⟨_, rfl, _, rfl, ?_⟩⟩
        rw [ekp] at hpv
        have k13 := k2.trans k3
        have kk3 := kk1.trans k13
        refine ⟨us[k], kidPath pa k, g0, c, hxd.mk0 kk3, hok _ (List.getElem_mem hku), hpv, ?_, InsAt.mk0 k13 hbv, hc.mk0 kk3, na_not hna, fun v H3 k4 hv => ?_⟩
        · unfold kidPath
          rw [List.length_append]
          show pa.length + 2 ≤ 900
          omega
        obtain ⟨acc2, a1, a2, a3⟩ := g1.add0 hD (k13.trans k4) hv (by rw [List.length_map, hpl2]; show k < 16777216; omega)
        refine ⟨D, acc2, _, rfl, rfl, a1, a2, _, _, _, rfl, ?_⟩
        rw [hsn, List.map_append]
        exact a3
      · have hno := lawOne_no (pa := pa) (b := den us[k]) (c := c) (n := n) (s := s) (k := k) (comp := comL (lawPass n pa s c ((us.map den).take k))) (fun g hg => by
          cases hz : na g c with
          | false => rfl
          | true => exact absurd ⟨g, hB.symm.trans hg, hz⟩ hyes)
        rw [hno] at hsn
        have hA0 : (!decide (bg = none) && beginOk c bg) = false := by
          cases bg with
          | none => rfl
          | some g =>
            cases hz : na g c with
            | false => show (!decide (some g = none) && na g c) = false; rw [hz]; simp
            | true => exact absurd ⟨g, rfl, hz⟩ hyes
        refine itF hA0 ?_
        refine rd_if ?_
        refine ⟨_, rfl, _, rfl, ?_⟩
        rw [OIns.isN hc1]
        have hacc1 := k1 _ _ hacc (by simp)
        cases c with
        | none =>
          refine itT rfl ?_
          refine ⟨_, rfl, tyV_list hacc1, ?_⟩
          obtain ⟨acc2, a1, a2, a3⟩ := g1.add0 hD (Kp.refl _ _) .non (by rw [List.length_map, hpl2]; show k < 16777216; omega)
          refine ⟨D, acc2, _, rfl, rfl, a1, a2, _, _, _, rfl, ?_⟩
          rw [hsn, List.map_append]
          exact a3
        | some x =>
          refine itF rfl ?_
          have hcx : InsAt H1 cv x := hc1
          refine rd_sa ?_
          refine ⟨_, rfl, _, _, _, hcx.dd, rfl, rfl, fun y1 hy1 => ⟨_, rfl, _, _, _, hcx.dd, rfl, rfl, fun y2 hy2 => ?_⟩⟩
          cases hy1.to_int
          cases hy2.to_int
          refine ⟨_, _, rfl, rfl, by show 2 ≤ sizeLine; decide, fun en0 hen => ?_⟩
          have k2 : Kp none H1 (upd H1 en0 (.tup [.int x.1, .int (x.2 + 1)])) := Kp.new hen
          have hend : DD K (upd H1 en0 (.tup [.int x.1, .int (x.2 + 1)])) (.ref en0) (eI (nexti x)) := new_dd hen (.cons (.int _) (.cons (.int _) .nil))
          have hacc2 := k2 _ _ hacc1 (by simp)
          refine ⟨_, rfl, tyV_list hacc2, _, rfl, by show 0 ≤ sizeLine; decide, fun t1 ht1 => ?_⟩
          have k3 : Kp none (upd H1 en0 (.tup [.int x.1, .int (x.2 + 1)])) (upd (upd H1 en0 (.tup [.int x.1, .int (x.2 + 1)])) t1 (.tup [])) := Kp.new ht1
          have kk3 := (kk1.trans k2).trans k3
          refine ⟨_, rfl, _, rfl, by show 2 ≤ sizeLine; decide, fun a ha => ?_⟩
          obtain ⟨e1, e2, k4⟩ := kpath _ a kk3 ha
          refine ⟨_, _, e1, e2, hpl9, fun pv2 H2 k5 hpv => ?_⟩
          rw [ekp] at hpv
          have k45 := k4.trans k5
          refine ⟨_, rfl, by show 0 ≤ sizeLine; decide, fun t2 ht2 => ⟨by show 5 ≤ sizeLine; decide, fun t3 ht3 => ⟨by show 1 ≤ sizeLine; decide, fun t4 ht4 => ⟨by show 4 ≤ sizeLine; decide, fun t5 ht5 => ?_⟩⟩⟩⟩
          have k6 : Kp none H2 (upd H2 t2 (.tup [])) := Kp.new ht2
          have he2 := new_dd (K := K) ht2 .nil
          have k35 := k3.trans k45
          have k36 := k35.trans k6
          have d3 := new_dd (K := K) ht3 (.cons (hpv.mk0 k6) (.cons .non (.cons (hend.mk0 k36) (.cons (.str "cancelled") (.cons he2 .nil)))))
          have k7 := Kp.new (B := none) (o := HO.tup [pv2, .non, .ref en0, .str "cancelled", .ref t2]) ht3
          have d4 := new_dd (K := K) ht4 (.cons d3 .nil)
          have k8 := Kp.new (B := none) (o := HO.tup [.ref t3]) ht4
          have k68 := (k6.trans k7).trans k8
          have d5 := new_dd (K := K) ht5 (.cons (hend.mk0 (k35.trans k68)) (.cons (.str "cancelled") (.cons ((new_dd (K := K) ht1 .nil).mk0 (k45.trans k68)) (.cons d4 .nil))))
          have k9 := Kp.new (B := none) (o := HO.tup [.ref en0, .str "cancelled", .ref t1, .ref t4]) ht5
          obtain ⟨acc2, a1, a2, a3⟩ := g1.add0 hD ((k2.trans k35).trans (k68.trans k9)) d5 (by rw [List.length_map, hpl2]; show k < 16777216; omega)
          refine ⟨D, acc2, _, rfl, rfl, a1, a2, _, _, _, rfl, ?_⟩
          rw [hsn, List.map_append]
          exact a3
    · rintro σ H' ⟨x6, x7, x8, rfl, g⟩
      have e : (us.map den).take xs.length = us.map den := by rw [hxl, ← List.length_map (f := den), List.take_length]
      rw [e] at g
      obtain ⟨kk, acc, g2, g3⟩ := g
      exact ⟨_, rfl, r D acc H' kk g2 g3⟩)
end
end Asf
set_option Elab.async false
set_option linter.all false
set_option maxRecDepth 100000
set_option maxHeartbeats 4000000
namespace Asf
open PySem PySem.Spec PyProof.Rows L2
theorem lawPass_mem (n : Int) (pa : Path) (s : Ins) (c : Option Ins) (bs : List Beh) : ∀ p ∈ lawPass n pa s c bs, p = none ∨ (∃ b ∈ bs, ∃ path g, OLe g c ∧ p = some (b.fin g c, b.tr path g c)) ∨ ∃ x en, p = some (⟨x, .can, []⟩, [en]) := by
  have gen : ∀ (bs' : List Beh) (acc : List (Option Pred)), (∀ b ∈ bs', b ∈ bs) → (∀ p ∈ acc, p = none ∨ (∃ b ∈ bs, ∃ path g, OLe g c ∧ p = some (b.fin g c, b.tr path g c)) ∨ ∃ x en, p = some (⟨x, .can, []⟩, [en])) →
      ∀ p ∈ bs'.foldl (lawAcc n pa s c) acc, p = none ∨ (∃ b ∈ bs, ∃ path g, OLe g c ∧ p = some (b.fin g c, b.tr path g c)) ∨ ∃ x en, p = some (⟨x, .can, []⟩, [en]) := by
    intro bs'
    induction bs' with
    | nil => intro acc _ h; exact h
    | cons b bs' ih =>
      intro acc hb h
      refine ih _ (fun x hx => hb x (List.mem_cons_of_mem _ hx)) fun p hp => ?_
      unfold lawAcc at hp
      rcases List.mem_append.mp hp with hp | hp
      · exact h p hp
      · rw [List.mem_singleton.mp hp]
        have nev : ∀ k, neverP pa k c = none ∨ (∃ b ∈ bs, ∃ path g, OLe g c ∧ neverP pa k c = some (b.fin g c, b.tr path g c)) ∨ ∃ x en, neverP pa k c = some (⟨x, .can, []⟩, [en]) := fun k => by
          unfold neverP
          cases c with
          | none => exact .inl rfl
          | some x => exact .inr (.inr ⟨_, _, rfl⟩)
        unfold lawOne
        split
        · rename_i g hg
          split
          · rename_i hna
            exact .inr (.inl ⟨b, hb b List.mem_cons_self, _, g, na_iff.mp hna, rfl⟩)
          · exact nev _
        · exact nev _
  exact gen bs [] (fun b h => h) (fun p h => by cases h)
section
variable {P : Program} {w : World} {K : PySem.W.Frag} {mg : Str → Option Value} {base : Heap}
section
variable {H : Hp} {Nx Bk Ct : L2.St → Hp → Prop} {Rt : VK}
theorem due_val {v0 v1 v2 v3 v4 v5 pv v9 vv v11 v13 : V} {x6 x7 x14 : Option V} {wh : Bool} {e : End} {es : List Entry} {vals : List Er} (hp : DD K H pv (ePred e es)) (hv : DD K H vv (eRes vals)) (hl : vals.length + e.res.length ≤ 1000000)
    (r : ∀ v' H', Kp none H H' → DD K H' v' (eRes (if e.oc = .com then vals ++ e.res else vals)) → Nx [some v0, some v1, some v2, some v3, some v4, some v5, x6, x7, some pv, some v9, some v', some v11, some (.bl (if e.oc = .com then wh else false)), some v13, x14] H') :
    (tIfS (tTest (tOp rEq (tOp (rIxD K) (tVar 8) (tC (.int 1))) (tC (.str "completed")))) (tAsg (tOp (rCatD K) (tVar 10) (tOp (rIxD K) (tVar 8) (tC (.int 2)))) (gName 10)) (tAsg (tC (.bl false)) (gName 12))) { nx := Nx, bk := Bk, ct := Ct, rt := Rt } [some v0, some v1, some v2, some v3, some v4, some v5, x6, x7, some pv, some v9, some vv, some v11, some (.bl wh), some v13, x14] H := by
  refine rd_if ?_
  refine ⟨_, rfl, _, _, _, hp, rfl, rfl, fun z hz => ?_⟩
  cases hz.to_str
  refine ⟨rfl, _, rfl, ?_⟩
  rw [dCom]
  by_cases h : e.oc = .com
  · refine itT (decide_eq_true h) ?_
    rw [if_pos h, if_pos h] at r
    refine ⟨_, rfl, _, rfl, _, _, _, hp, rfl, rfl, fun y hy => ⟨_, _, hv, hy, ?_, fun v' H' k hv' => ?_⟩⟩
    · rw [List.length_map, List.length_map]
      show _ ≤ 16777216
      omega
    · rw [← List.map_append] at hv'
      exact r v' H' k hv'
  · refine itF (decide_eq_false h) ?_
    rw [if_neg h, if_neg h] at r
    exact r vv H (Kp.refl _ _) hv
theorem due_err {v0 v1 v2 v3 v4 v5 pv v9 v10 ev v12 v13 : V} {x6 x7 x14 : Option V} {e : End} {es : List Entry} {errs : List Er} (hp : DD K H pv (ePred e es)) (hv : DD K H ev (eRes errs)) (hl : errs.length + e.res.length ≤ 1000000)
    (r : ∀ v' H', Kp none H H' → DD K H' v' (eRes (if e.oc = .fai then errs ++ e.res else errs)) → Nx [some v0, some v1, some v2, some v3, some v4, some v5, x6, x7, some pv, some v9, some v10, some v', some v12, some v13, x14] H') :
    (tIfS (tTest (tOp rEq (tOp (rIxD K) (tVar 8) (tC (.int 1))) (tC (.str "failed")))) (tAsg (tOp (rCatD K) (tVar 11) (tOp (rIxD K) (tVar 8) (tC (.int 2)))) (gName 11)) tNext) { nx := Nx, bk := Bk, ct := Ct, rt := Rt } [some v0, some v1, some v2, some v3, some v4, some v5, x6, x7, some pv, some v9, some v10, some ev, some v12, some v13, x14] H := by
  refine rd_if ?_
  refine ⟨_, rfl, _, _, _, hp, rfl, rfl, fun z hz => ?_⟩
  cases hz.to_str
  refine ⟨rfl, _, rfl, ?_⟩
  rw [dFai]
  by_cases h : e.oc = .fai
  · refine itT (decide_eq_true h) ?_
    rw [if_pos h] at r
    refine ⟨_, rfl, _, rfl, _, _, _, hp, rfl, rfl, fun y hy => ⟨_, _, hv, hy, ?_, fun v' H' k hv' => ?_⟩⟩
    · rw [List.length_map, List.length_map]
      show _ ≤ 16777216
      omega
    · rw [← List.map_append] at hv'
      exact r v' H' k hv'
  · refine itF (decide_eq_false h) ?_
    rw [if_neg h] at r
    exact r ev H (Kp.refl _ _) hv
theorem due_told {v0 v1 v2 cv v4 v5 env v10 ev v13 tv0 : V} {x6 x7 x8 : Option V} {st : LawSt} {c : Option Ins} (hc : OIns H cv c) (hen : InsAt H env st.ended) (he : DD K H ev (eRes st.errors)) (ht : DD K H tv0 (.tuple (toldL (.com, st.values))))
    (r : ∀ tv H', Kp none H H' → DD K H' tv (.tuple (toldL (lawTold c st))) → Nx [some v0, some v1, some v2, some cv, some v4, some v5, x6, x7, x8, some env, some v10, some ev, some (.bl st.whole), some v13, some tv] H') :
    (tIfS (tTest (tOp (rNeD K) (tVar 11) (tTup tNil))) (tAsg (tTup (tCons (tC (.str "failed")) (tCons (tVar 11) tNil))) (gName 14)) (tIfS (tOr (tB (tK (sp_late K) (tCons (tVar 9) (tCons (tVar 3) tNil)))) (tNot (tB (tVar 12)))) (tAsg (tTup (tCons (tC (.str "cancelled")) (tCons (tTup tNil) tNil))) (gName 14)) tNext)) { nx := Nx, bk := Bk, ct := Ct, rt := Rt } [some v0, some v1, some v2, some cv, some v4, some v5, x6, x7, x8, some env, some v10, some ev, some (.bl st.whole), some v13, some tv0] H := by
  refine rd_if ?_
  refine ⟨_, rfl, by show 0 ≤ sizeLine; decide, fun a ha => ?_⟩
  have k1 : Kp none H (upd H a (.tup [])) := Kp.new ha
  refine ⟨_, .tuple [], (he.mk0 k1).dp, (new_dd (K := K) ha .nil).dp, shaped_res _, rfl, _, rfl, ?_⟩
  rw [eqv_res]
  unfold lawTold at r
  by_cases hne : st.errors = []
  · refine itF (by rw [decide_eq_true hne]; rfl) ?_
    rw [if_neg (fun z => z hne)] at r
    refine rd_if ?_
    refine rd_or (A := !na st.ended c) (B := !st.whole) (fun R z => ⟨_, rfl, _, rfl, _, _, hen.mk0 k1, hc.mk0 k1, _, rfl, z⟩) (fun R z => ⟨_, rfl, _, rfl, z⟩) ?_
    by_cases hq : na st.ended c = false ∨ st.whole = false
    · rw [if_pos hq] at r
      refine itT (by rcases hq with h | h <;> rw [h] <;> simp) ?_
      refine ⟨by show 0 ≤ sizeLine; decide, fun b hb => ⟨by show 2 ≤ sizeLine; decide, fun d hd => ?_⟩⟩
      have k2 : Kp none (upd H a (.tup [])) (upd (upd H a (.tup [])) b (.tup [])) := Kp.new hb
      exact r _ _ ((k1.trans k2).trans (Kp.new hd)) (new_dd hd (.cons (.str _) (.cons (new_dd hb .nil) .nil)))
    · rw [if_neg hq] at r
      refine itF ?_ (r _ _ k1 (ht.mk0 k1))
      cases h1 : na st.ended c with
      | false => exact absurd (.inl h1) hq
      | true =>
        cases h2 : st.whole with
        | false => exact absurd (.inr h2) hq
        | true => rfl
  · refine itT (by rw [decide_eq_false hne]; rfl) ?_
    rw [if_pos hne] at r
    refine ⟨_, rfl, by show 2 ≤ sizeLine; decide, fun d hd => ?_⟩
    exact r _ _ (k1.trans (Kp.new hd)) (new_dd hd (.cons (.str _) (.cons (he.mk0 k1) .nil)))
end
end
end Asf
set_option Elab.async false
set_option linter.all false
set_option maxRecDepth 100000
set_option maxHeartbeats 4000000
namespace Asf
open PySem PySem.Spec PyProof.Rows L2
theorem costL_mem : ∀ {ts : List T} {t : T}, t ∈ ts → cost t ≤ costL ts ∧ tcost t ≤ tcostL ts
  | [], t, h => by cases h
  | x :: ts, t, h => by
    rcases List.mem_cons.mp h with rfl | h
    · simp only [costL, tcostL]; omega
    · have := costL_mem h
      simp only [costL, tcostL]; omega
theorem kid_planOk {n : Int} {ps : List T} (h : PlanOk (.pool n ps)) : ∀ q ∈ ps, PlanOk q := fun q hq => by
  obtain ⟨h1, h2, h3, h4⟩ := h
  have c := costL_mem hq
  have c1 : cost (T.pool n ps) = 2 * costL ps + 1 := rfl
  have c2 : tcost (T.pool n ps) = 2 * costL ps + 1 + tcostL ps := rfl
  have s1 := kid_size (t := T.pool n ps) hq
  have d1 := kid_depth (t := T.pool n ps) hq
  exact ⟨kid_wf (t := T.pool n ps) h1 hq, by omega, by omega, by omega⟩
section
variable {P : Program} {w : World} {K : PySem.W.Frag} {mg : Str → Option Value} {base : Heap}
def sp_due (K : PySem.W.Frag) : Sp := fun vs H Q E => match vs with
  | [plv, pav, sv, cv] => ∃ n ps pa s c, DD K H plv (ePlan (subs (.pool n ps))) ∧ PlanOk (.pool n ps) ∧ DD K H pav (ePath pa) ∧ pa.length ≤ 800 ∧ InsAt H sv s ∧ OIns H cv c ∧ OLe s c ∧ Ret K H (ePred ((den (.pool n ps)).fin s c) ((den (.pool n ps)).tr pa s c)) Q
  | _ => False
theorem k_L_due (T : Txt K mg) : Cal P w K mg base 58 "_law_due" (He.ga K "_law_due") ["_law_plan_here", "_law_path", "_law_start_here", "_law_cancel_here"] (sp_due K) :=
  cal_L_due T (okF T.d_L_due sc_L_due (fun vs H Q E h => match vs, h with | [_, _, _, _], _ => rfl) fun cdv A outer s0 H vs Q E hr h => match vs, h with
  | [plv, pav, sv, cv], h => by
    obtain ⟨n, ps, pa, s, c, hp, hok, hpa, hpl, hs, hc, ho, r⟩ := h
    have hko := kid_planOk hok
    obtain ⟨hw, hsz, hdp, hco⟩ := id hok
    have hn1 : 1 ≤ n := hw.1.1
    have hl6 : ps.length ≤ 6 := hw.2.2.1
    have G : ∀ b ∈ denL ps, Good b := good_denL ps hw.2.2.2
    have hpos := size_pos (Asf.T.pool n ps)
    have hlast := subs_last (Asf.T.pool n ps)
    have hat : L2.atI (ePlanL (subs (.pool n ps))) (-1) = some (eAt (size (Asf.T.pool n ps) - 1) (.pool n ps)) := by
      obtain ⟨e, he1, he2⟩ := last_of (xs := ePlanL (subs (.pool n ps))) (by rw [List.length_mapIdx, subs_len]; omega)
      rw [List.length_mapIdx, subs_len, eAt_get hlast] at he1
      rw [he2, ← he1]
    have hdn : denL ps = ps.map den := denL_eq ps
    refine ⟨_, (pss_cons (ps_set (i := 4) sc_L_due.nd rfl (by first | exact Or.inl rfl | exact Or.inr rfl) (pe_ix ix_dd (pe_ix ix_dd (pv 0) (pe_un un_neg pe_int) (fun _ _ => rfl)) pe_int (fun _ _ => rfl))) (pss_cons (ps_setLc (i := 5) (own := [("_law_at", 6)]) (g := (gName 6)) (tt := tYes) (te := (tK (sp_sub K) (tCons (tVar 0) (tCons (tVar 6) tNil)))) rfl sc_L_due.nd rfl rfl (sw_true rfl rfl rfl (by decide +kernel)) (pi_tup (pe_ix ix_dd (pe_ix ix_dd (pv 0) (pe_un un_neg pe_int) (fun _ _ => rfl)) pe_int (fun _ _ => rfl))) (blkOk_by (N := ["_law_plan_here", "_law_path", "_law_start_here", "_law_cancel_here", "_law_size", "_law_subs", "_law_at", "_law_settled", "_law_part", "_law_ended", "_law_values", "_law_errors", "_law_whole_here", "_law_trace", "_law_told"]) (sc := defScope s_L_due) (by decide +kernel)) (fun _ _ _ _ _ => (pg_name (i := 6) sc_L_due.nd rfl (by first | exact Or.inl rfl | exact Or.inr rfl))) (fun _ _ _ _ _ => pts_nil) (fun _ _ _ _ _ => (pe_k (k_L_sub T) hr (pa_cons (pv 0) (pa_cons (pv 6) pa_nil))))) (pss_cons (ps_set (i := 7) sc_L_due.nd rfl (by first | exact Or.inl rfl | exact Or.inr rfl) (pv 3)) (pss_cons (ps_for PassesOwn.never rfl (pi_list (pe_k (k_L_pass T) hr (pa_cons (pv 5) (pa_cons (pv 4) (pa_cons (pv 1) (pa_cons (pv 2) (pa_cons (pv 3) pa_nil))))))) (pg_name (i := 8) sc_L_due.nd rfl (by first | exact Or.inl rfl | exact Or.inr rfl)) (pss_one (ps_if (PW.pt (pw_and (pt_cmp (pc_notN (pv 8)) rfl) (pw_and1 (pt_cmpR (op_eq) (pe_ix ix_dd (pv 8) pe_int (fun _ _ => rfl)) pe_str (nomark _))))) (pss_one (ps_set (i := 7) sc_L_due.nd rfl (by first | exact Or.inl rfl | exact Or.inr rfl) (pe_k (k_L_earlier T) hr (pa_cons (pv 7) (pa_cons (pe_ix ix_dd (pv 8) pe_int (fun _ _ => rfl)) pa_nil))))) pss_nil))) (pss_cons (ps_set (i := 9) sc_L_due.nd rfl (by first | exact Or.inl rfl | exact Or.inr rfl) (pv 2)) (pss_cons (ps_set (i := 10) sc_L_due.nd rfl (by first | exact Or.inl rfl | exact Or.inr rfl) (pe_tup pa_nil)) (pss_cons (ps_set (i := 11) sc_L_due.nd rfl (by first | exact Or.inl rfl | exact Or.inr rfl) (pe_tup pa_nil)) (pss_cons (ps_set (i := 12) sc_L_due.nd rfl (by first | exact Or.inl rfl | exact Or.inr rfl) pe_bl) (pss_cons (ps_set (i := 13) sc_L_due.nd rfl (by first | exact Or.inl rfl | exact Or.inr rfl) (pe_tup pa_nil)) (pss_cons (ps_for PassesOwn.never rfl (pi_list (pe_k (k_L_pass T) hr (pa_cons (pv 5) (pa_cons (pv 4) (pa_cons (pv 1) (pa_cons (pv 2) (pa_cons (pv 7) pa_nil))))))) (pg_name (i := 8) sc_L_due.nd rfl (by first | exact Or.inl rfl | exact Or.inr rfl)) (pss_cons (ps_if (pt_cmp (pc_isN (pv 8)) rfl) (pss_one (ps_ret pe_non)) pss_nil) (pss_cons (ps_set (i := 9) sc_L_due.nd rfl (by first | exact Or.inl rfl | exact Or.inr rfl) (pe_callB (cr_max2I rfl (hu_of2 hr)) (by rfl) T.z_max (by decide +kernel) (pa_cons (pv 9) (pa_cons (pe_ix ix_dd (pv 8) pe_int (fun _ _ => rfl)) pa_nil)))) (pss_cons (ps_set (i := 13) sc_L_due.nd rfl (by first | exact Or.inl rfl | exact Or.inr rfl) (pe_op op_catD (pv 13) (pe_ix ix_dd (pv 8) pe_int (fun _ _ => rfl)))) (pss_cons (ps_if (pt_cmpR (op_eq) (pe_ix ix_dd (pv 8) pe_int (fun _ _ => rfl)) pe_str (nomark _)) (pss_one (ps_set (i := 10) sc_L_due.nd rfl (by first | exact Or.inl rfl | exact Or.inr rfl) (pe_op op_catD (pv 10) (pe_ix ix_dd (pv 8) pe_int (fun _ _ => rfl))))) (pss_one (ps_set (i := 12) sc_L_due.nd rfl (by first | exact Or.inl rfl | exact Or.inr rfl) pe_bl))) (pss_one (ps_if (pt_cmpR (op_eq) (pe_ix ix_dd (pv 8) pe_int (fun _ _ => rfl)) pe_str (nomark _)) (pss_one (ps_set (i := 11) sc_L_due.nd rfl (by first | exact Or.inl rfl | exact Or.inr rfl) (pe_op op_catD (pv 11) (pe_ix ix_dd (pv 8) pe_int (fun _ _ => rfl))))) pss_nil))))))) (pss_cons (ps_set (i := 14) sc_L_due.nd rfl (by first | exact Or.inl rfl | exact Or.inr rfl) (pe_tup (pa_cons pe_str (pa_cons (pv 10) pa_nil)))) (pss_cons (ps_if (pt_cmpR (op_neD hr.units) (pv 11) (pe_tup pa_nil) (nomark _)) (pss_one (ps_set (i := 14) sc_L_due.nd rfl (by first | exact Or.inl rfl | exact Or.inr rfl) (pe_tup (pa_cons pe_str (pa_cons (pv 11) pa_nil))))) (pss_one (ps_if (PW.pt (pw_or (pt_val (pe_k (k_L_late T) hr (pa_cons (pv 9) (pa_cons (pv 3) pa_nil)))) (pw_or1 (pt_not (pt_val (pv 12)))))) (pss_one (ps_set (i := 14) sc_L_due.nd rfl (by first | exact Or.inl rfl | exact Or.inr rfl) (pe_tup (pa_cons pe_str (pa_cons (pe_tup pa_nil) pa_nil))))) pss_nil))) (pss_one (ps_ret (pe_op op_catD (pe_op op_catD (pe_tup (pa_cons (pv 9) pa_nil)) (pv 14)) (pe_tup (pa_cons (pe_op op_catD (pe_tup (pa_cons (pe_op op_catD (pe_tup (pa_cons (pv 1) (pa_cons (pv 2) (pa_cons (pv 9) pa_nil)))) (pv 14)) pa_nil)) (pv 13)) pa_nil))))))))))))))))), ?_⟩
    refine rd_sa ?_
    refine ⟨_, rfl, _, rfl, _, _, _, hp, rfl, hat, fun nv hnv => ⟨_, _, .int n, hnv, rfl, rfl, fun z hz => ?_⟩⟩
    cases hz.to_int
    refine rd_st ?_
    refine ⟨_, rfl, _, rfl, _, _, _, hp, rfl, hat, fun nv2 hnv2 => ⟨_, _, eIdx (kidIdx (size (Asf.T.pool n ps) - 1) (.pool n ps)), hnv2, rfl, rfl, fun bv hbv => ?_⟩⟩
    obtain ⟨b, xs0, rfl, hb0, _⟩ := id hbv.sq
    refine ⟨b, rfl, ⟨_, hbv.idx⟩, fun D hD => ?_⟩
    refine lcT (xs := iV (kidIdx (size (Asf.T.pool n ps) - 1) (.pool n ps))) (fun j H1 => Gr K none H D ((ps.take j).map fun u => ePlan (subs u)) H1) (Gr.start hD) (fun j H1 _ g => sqT_keep hbv.idx g.1) ?_ ?_
    · intro j x H1 hx g
      obtain ⟨m, hkn, rfl⟩ := map_get hx
      obtain ⟨q, hq, hun, _⟩ := kid_of_idx hlast hkn
      have hq : ps[j]? = some q := hq
      have hdq := hko q (List.mem_of_getElem? hq)
      have hj := (List.getElem?_eq_some_iff.mp hq).1
      refine ⟨rfl, ?_⟩
      refine ⟨_, rfl, _, rfl, .pool n ps, m, q, hp.mk0 g.1, hun, rfl, hw, hsz, by have := hdq.2.2.1; omega, fun v H2 k2 hv => ?_⟩
      rw [take_succ_map (fun u : Asf.T => ePlan (subs u)) ps hq]
      refine g.add0 hD k2 hv ?_
      rw [List.length_map, List.length_take]
      show _ < 16777216
      omega
    intro H1 g
    have el : (iV (kidIdx (size (Asf.T.pool n ps) - 1) (.pool n ps))).length = ps.length := by rw [List.length_map, kidIdx_length]; rfl
    rw [el, List.take_length] at g
    obtain ⟨k1, sacc, hsl, hsd⟩ := g
    dsimp only [gName]
    refine rd_sa ?_
    refine ⟨_, rfl, ?_⟩
    refine rd_seq ?_
    refine ⟨_, rfl, _, rfl, _, rfl, _, rfl, _, rfl, sacc, ps, pa, s, c, hsl, hsd, hko, hl6, hpa.mk0 k1, hpl, hs.mk0 k1, hc.mk0 k1, ho, fun D1 acc1 H2 k2 hD1 hd1 => ?_⟩
    have k12 := k1.trans k2
    refine ⟨D1, rfl, ⟨acc1, SqL.of hD1⟩, ?_⟩
    have hset : lawSettled n pa s c (denL ps) = (lawPass n pa s c (ps.map den)).foldl settleStep c := by rw [hdn]; rfl
    have hbnd : ∀ c', ∀ p ∈ lawPass n pa s c' (ps.map den), ∀ q, p = some q → q.1.res.length ≤ 1000 ∧ q.2.length ≤ 1000000 := by
      intro c' p hpm q hq
      rcases lawPass_mem n pa s c' (ps.map den) p hpm with h | ⟨bb, hb, path, g, hg, h⟩ | ⟨x, en, h⟩
      · rw [h] at hq; cases hq
      · rw [h] at hq
        obtain ⟨u, hu, rfl⟩ := List.mem_map.mp hb
        obtain rfl := Option.some.inj hq
        have hu' := hko u hu
        have h1 := res_le u g c'
        have h2 := tr_len (depth u) u (Nat.le_refl _) hu'.1 path g c' hg
        have h3 := hu'.2.1
        have h4 := hu'.2.2.2
        exact ⟨by show ((den u).fin g c').res.length ≤ 1000; omega, by show ((den u).tr path g c').length ≤ 1000000; omega⟩
      · rw [h] at hq
        obtain rfl := Option.some.inj hq
        exact ⟨Nat.zero_le _, by show 1 ≤ 1000000; decide⟩
    refine for_list (xs := acc1) (fun i σ H' => ∃ stv x8, σ = [some plv, some pav, some sv, some cv, some (.int n), some (.ref D), none, some stv, x8, none, none, none, none, none, none] ∧ Kp none H2 H' ∧ OIns H' stv (((lawPass n pa s c (ps.map den)).take i).foldl settleStep c)) ⟨_, _, rfl, Kp.refl _ _, hc.mk0 k12⟩ (fun i σ H' _ g => by
      obtain ⟨_, _, _, kk, _⟩ := g
      exact SqL.of (kk _ _ hD1 (by simp))) ?_ ?_
    · rintro i x σ H' hx ⟨stv, x8, rfl, kk, hst⟩
      obtain ⟨d, hd, hxd⟩ := hd1.of_get hx
      obtain ⟨p, hpp, rfl⟩ := map_get hd
      have hx1 := hxd.mk0 kk
      have etk : ((lawPass n pa s c (ps.map den)).take (i + 1)).foldl settleStep c = settleStep (((lawPass n pa s c (ps.map den)).take i).foldl settleStep c) p := by
        rw [List.take_add_one, hpp, List.foldl_append]
        rfl
      refine rd_if ?_
      refine ⟨_, rfl, _, rfl, ?_⟩
      cases p with
      | none =>
        cases hx1.to_non
        refine itF rfl ?_
        refine itF rfl ?_
        exact ⟨_, _, rfl, kk, by rw [etk]; exact hst⟩
      | some q =>
        refine itT (by rw [DD.ne_non hx1]; rfl) ?_
        refine ⟨_, rfl, _, _, _, hx1, rfl, rfl, fun z hz => ?_⟩
        cases hz.to_str
        refine ⟨rfl, _, rfl, ?_⟩
        rw [dFai]
        have es : ∀ c0, settleStep c0 (some q) = if q.1.oc = .fai then lawEarlier c0 q.1.en else c0 := fun _ => rfl
        by_cases hf : q.1.oc = .fai
        · refine itT (decide_eq_true hf) ?_
          refine ⟨_, rfl, _, rfl, _, _, _, hx1, rfl, rfl, fun y hy => ⟨_, some q.1.en, hst, hy.ins, fun v hv => ⟨_, _, rfl, kk, ?_⟩⟩⟩
          rw [etk, es, if_pos hf, lawEarlier_eq]
          exact hv
        · refine itF (decide_eq_false hf) ?_
          exact ⟨_, _, rfl, kk, by rw [etk, es, if_neg hf]; exact hst⟩
    · rintro σ H3 ⟨stv, x8, rfl, k3, hst⟩
      have et : (lawPass n pa s c (ps.map den)).take acc1.length = lawPass n pa s c (ps.map den) := by rw [hd1.len, List.length_map, List.take_length]
      rw [et, ← hset] at hst
      have hgo := law_due G hn1 pa ho
      have hlimge : OLe s (lawSettled n pa s c (denL ps)) := by rw [lawSettled_eq]; exact pool_lim_ge G ho
      rw [hdn] at hgo hst hlimge
      obtain ⟨qs, hq1, hq2⟩ := hgo
      have k13 := k12.trans k3
      dsimp only
      refine rd_sa ?_
      refine ⟨_, rfl, ?_⟩
      refine rd_sa ?_
      refine ⟨by show 0 ≤ sizeLine; decide, fun a1 ha1 => ?_⟩
      have ka1 : Kp none H3 (upd H3 a1 (.tup [])) := Kp.new ha1
      refine rd_sa ?_
      refine ⟨by show 0 ≤ sizeLine; decide, fun a2 ha2 => ?_⟩
      have ka2 : Kp none (upd H3 a1 (.tup [])) (upd (upd H3 a1 (.tup [])) a2 (.tup [])) := Kp.new ha2
      refine rd_sc ?_
      refine rd_sa ?_
      refine ⟨by show 0 ≤ sizeLine; decide, fun a3 ha3 => ?_⟩
      have ka3 : Kp none (upd (upd H3 a1 (.tup [])) a2 (.tup [])) (upd (upd (upd H3 a1 (.tup [])) a2 (.tup [])) a3 (.tup [])) := Kp.new ha3
      have ka := (ka1.trans ka2).trans ka3
      have k14 := k13.trans ka
      have e1 := (new_dd (K := K) ha1 .nil).mk0 (ka2.trans ka3)
      have e2 := (new_dd (K := K) ha2 .nil).mk0 ka3
      have e3 := new_dd (K := K) ha3 .nil
      have hsl4 : (upd (upd (upd H3 a1 (.tup [])) a2 (.tup [])) a3 (.tup [])) D = some (.lst sacc) := ((k2.trans k3).trans ka) _ _ hsl (by simp)
      refine rd_seq ?_
      refine ⟨_, rfl, _, rfl, _, rfl, _, rfl, _, rfl, sacc, ps, pa, s, _, hsl4, hsd.mk0 ((k2.trans k3).trans ka), hko, hl6, hpa.mk0 k14, hpl, hs.mk0 k14, OIns.mk0 ka hst, hlimge, fun D2 acc2 H5 k5 hD2 hd2 => ?_⟩
      have k15 := k14.trans k5
      rw [hq1, List.map_map] at hd2
      have hql : qs.length = ps.length := by
        have h1 := lawPass_len n pa s (lawSettled n pa s c (ps.map den)) (ps.map den)
        rw [hq1, List.length_map, List.length_map] at h1
        exact h1
      have hq3 : ∀ q ∈ qs, q.1.res.length ≤ 1000 ∧ q.2.length ≤ 1000000 := fun q hq => hbnd _ (some q) (by rw [hq1]; exact List.mem_map.mpr ⟨q, hq, rfl⟩) q rfl
      refine ⟨D2, rfl, ⟨acc2, SqL.of hD2⟩, ?_⟩
      refine for_list (xs := acc2) (fun i σ H' => ∃ x8 env vv ev tv, σ = [some plv, some pav, some sv, some cv, some (.int n), some (.ref D), none, some stv, x8, some env, some vv, some ev, some (.bl ((qs.take i).foldl lawStep ⟨s, [], [], true, []⟩).whole), some tv, none] ∧ Kp none H5 H' ∧
        InsAt H' env ((qs.take i).foldl lawStep ⟨s, [], [], true, []⟩).ended ∧ DD K H' vv (eRes ((qs.take i).foldl lawStep ⟨s, [], [], true, []⟩).values) ∧ DD K H' ev (eRes ((qs.take i).foldl lawStep ⟨s, [], [], true, []⟩).errors) ∧ DD K H' tv (.tuple (((qs.take i).foldl lawStep ⟨s, [], [], true, []⟩).trace.map eEntry)) ∧
        ((qs.take i).foldl lawStep ⟨s, [], [], true, []⟩).values.length ≤ 1000 * i ∧ ((qs.take i).foldl lawStep ⟨s, [], [], true, []⟩).errors.length ≤ 1000 * i ∧ ((qs.take i).foldl lawStep ⟨s, [], [], true, []⟩).trace.length ≤ 1000000 * i)
        ⟨_, _, _, _, _, rfl, Kp.refl _ _, hs.mk0 k15, e1.mk0 k5, e2.mk0 k5, e3.mk0 k5, Nat.zero_le _, Nat.zero_le _, Nat.zero_le _⟩ (fun i σ H' _ g => by
        obtain ⟨_, _, _, _, _, _, kk, _⟩ := g
        exact SqL.of (kk _ _ hD2 (by simp))) ?_ ?_
      · rintro i x σ H' hx ⟨x8, env, vv, ev, tv, rfl, kk, hen, hvv, hev, htv, l1, l2, l3⟩
        obtain ⟨d, hd, hxd⟩ := hd2.of_get hx
        obtain ⟨q, hqq, rfl⟩ := map_get hd
        have hx1 : DD K H' x (ePred q.1 q.2) := hxd.mk0 kk
        have hqm := hq3 q (List.mem_of_getElem? hqq)
        have hi : i < 6 := by
          have := (List.getElem?_eq_some_iff.mp hqq).1
          omega
        have etk : (qs.take (i + 1)).foldl lawStep ⟨s, [], [], true, []⟩ = lawStep ((qs.take i).foldl lawStep ⟨s, [], [], true, []⟩) q := by
          rw [List.take_add_one, hqq, List.foldl_append]
          rfl
        rw [etk]
        generalize (qs.take i).foldl lawStep ⟨s, [], [], true, []⟩ = st at hen hvv hev htv l1 l2 l3
        refine rd_seq ?_
        refine rd_if ?_
        refine ⟨_, rfl, _, rfl, ?_⟩
        refine elF (DD.ne_non hx1) ?_
        refine rd_sa ?_
        refine ⟨_, rfl, _, rfl, _, _, _, hx1, rfl, rfl, fun y hy => ⟨_, _, _, _, rfl, hen, hy.ins, ?_⟩⟩
        refine rd_sa ?_
        refine ⟨_, rfl, _, rfl, _, _, _, hx1, rfl, rfl, fun y3 hy3 => ⟨_, _, htv, hy3, ?_, fun tv2 H6 k6 htv2 => ?_⟩⟩
        · rw [List.length_map, List.length_map]
          show _ ≤ 16777216
          omega
        rw [← List.map_append] at htv2
        refine rd_seq ?_
        refine due_val (hx1.mk0 k6) (hvv.mk0 k6) (by omega) (fun vv2 H7 k7 hvv2 => ?_)
        refine due_err (hx1.mk0 (k6.trans k7)) (hev.mk0 (k6.trans k7)) (by omega) (fun ev2 H8 k8 hev2 => ?_)
        have k68 := (k6.trans k7).trans k8
        refine ⟨_, _, vv2, ev2, tv2, rfl, kk.trans k68, ?_, hvv2.mk0 k8, hev2, htv2.mk0 (k7.trans k8), ?_, ?_, ?_⟩
        · show InsAt H8 _ (if ilt st.ended q.1.en = true then q.1.en else st.ended)
          split
          · exact hy.ins.mk0 k68
          · exact hen.mk0 k68
        · show (if q.1.oc = .com then st.values ++ q.1.res else st.values).length ≤ _
          split
          · rw [List.length_append]; omega
          · omega
        · show (if q.1.oc = .fai then st.errors ++ q.1.res else st.errors).length ≤ _
          split
          · rw [List.length_append]; omega
          · omega
        · show (st.trace ++ q.2).length ≤ _
          rw [List.length_append]
          omega
      · rintro σ H6 ⟨x8, env, vv, ev, tv, rfl, kk, hen, hvv, hev, htv, l1, l2, l3⟩
        have et2 : qs.take acc2.length = qs := by rw [hd2.len, List.length_map, List.take_length]
        rw [et2] at hen hvv hev htv l1 l2 l3 ⊢
        have hal : acc2.length ≤ 6 := by rw [hd2.len, List.length_map]; omega
        have k16 := k15.trans kk
        generalize qs.foldl lawStep ⟨s, [], [], true, []⟩ = st at hen hvv hev htv l1 l2 l3 hq2
        have efin : (mk (ps.map den) (poolCrs n (ps.map den))) = den (.pool n ps) := by
          rw [den, hdn]
        rw [efin] at hq2
        have h1 := congrArg Prod.fst hq2
        have h2 := congrArg Prod.snd hq2
        dsimp only at h1 h2
        rw [← h1, ← h2] at r
        dsimp only
        refine rd_sa ?_
        refine ⟨_, rfl, by show 2 ≤ sizeLine; decide, fun t0 ht0 => ?_⟩
        have k7 : Kp none H6 (upd H6 t0 (.tup [.str "completed", vv])) := Kp.new ht0
        have htold := new_dd (K := K) ht0 (.cons (.str "completed") (.cons hvv .nil))
        refine rd_seq ?_
        refine due_told (hc.mk0 (k16.trans k7)) (hen.mk0 k7) (hev.mk0 k7) htold (fun tdv H8 k8 htd => ?_)
        have k78 := k7.trans k8
        have k18 := k16.trans k78
        have hen8 := hen.mk0 k78
        refine ⟨_, rfl, by show 1 ≤ sizeLine; decide, fun b1 hb1 => ?_⟩
        have m1 : Kp none H8 (upd H8 b1 (.tup [env])) := Kp.new hb1
        refine ⟨_, rfl, _, _, new_dd hb1 (.cons hen8.dd .nil), htd.mk0 m1, by show 1 + 2 ≤ sizeLine; decide, fun w1 H9 m2 hw1 => ?_⟩
        have m12 := m1.trans m2
        refine ⟨_, rfl, _, rfl, _, rfl, by show 3 ≤ sizeLine; decide, fun b2 hb2 => ?_⟩
        have m3 : Kp none H9 (upd H9 b2 (.tup [pav, sv, env])) := Kp.new hb2
        have m13 := m12.trans m3
        have hh := new_dd (K := K) hb2 (.cons (hpa.mk0 (k18.trans m12)) (.cons ((hs.mk0 (k18.trans m12)).dd) (.cons ((hen8.mk0 m12).dd) .nil)))
        refine ⟨_, rfl, _, _, hh, htd.mk0 m13, by show 3 + 2 ≤ sizeLine; decide, fun w2 H10 m4 hw2 => ⟨by show 1 ≤ sizeLine; decide, fun b3 hb3 => ?_⟩⟩
        have m5 : Kp none H10 (upd H10 b3 (.tup [w2])) := Kp.new hb3
        have m15 := (m13.trans m4).trans m5
        refine ⟨_, rfl, _, _, new_dd hb3 (.cons hw2 .nil), htv.mk0 (k78.trans m15), ?_, fun w3 H11 m6 hw3 => ⟨by show 1 ≤ sizeLine; decide, fun b4 hb4 => ?_⟩⟩
        · rw [List.length_map]
          show 1 + _ ≤ 16777216
          omega
        have m7 : Kp none H11 (upd H11 b4 (.tup [w3])) := Kp.new hb4
        have m27 := ((m3.trans m4).trans m5).trans (m6.trans m7)
        refine ⟨_, _, hw1.mk0 m27, new_dd hb4 (.cons hw3 .nil), by show 3 + 1 ≤ sizeLine; decide, ?_⟩
        exact r.mono (k18.trans (m12.trans m27)))
end
end Asf
set_option linter.all false
namespace Asf
/-! ### how far the instants go -/
def InB (M : Int) (i : Ins) : Prop := 0 ≤ i.1 ∧ i.1 ≤ M ∧ 0 ≤ i.2 ∧ i.2 ≤ M
def OB (M : Int) (c : Option Ins) : Prop := ∀ x, c = some x → InB M x
theorem InB.mono {M M' : Int} {i : Ins} (h : InB M i) (l : M ≤ M') : InB M' i := ⟨h.1, by have := h.2.1; omega, h.2.2.1, by have := h.2.2.2; omega⟩
theorem OB.mono {M M' : Int} {c : Option Ins} (h : OB M c) (l : M ≤ M') : OB M' c := fun x hx => (h x hx).mono l
theorem OB.some {M : Int} {i : Ins} (h : InB M i) : OB M (some i) := fun x hx => by injection hx with hx; rw [← hx]; exact h
theorem OB.none {M : Int} : OB M none := fun x hx => by cases hx
theorem InB.later {M d : Int} {i : Ins} (h : InB M i) (h0 : 0 ≤ d) : InB (M + d) (later i d) := by
  obtain ⟨h1, h2, h3, h4⟩ := h
  unfold Asf.later
  split
  · exact ⟨h1, by omega, h3, by omega⟩
  · exact ⟨by show 0 ≤ i.1 + d; omega, by show i.1 + d ≤ M + d; omega, by show (0 : Int) ≤ 0; omega, by show (0 : Int) ≤ M + d; omega⟩
theorem InB.next {M : Int} {i : Ins} (h : InB M i) : InB (M + 1) (nexti i) := by
  obtain ⟨h1, h2, h3, h4⟩ := h
  exact ⟨h1, by show i.1 ≤ M + 1; omega, by show 0 ≤ i.2 + 1; omega, by show i.2 + 1 ≤ M + 1; omega⟩
theorem OB.earliest {M : Int} {c k : Option Ins} (h1 : OB M c) (h2 : OB M k) : OB M (earliest c k) := by
  cases c with
  | none => exact h2
  | some x =>
    cases k with
    | none => exact h1
    | some y =>
      rw [earliest_ss]
      split
      · exact h2
      · exact h1
theorem OB.firstOf {M : Int} {es : List End} {o : Oc} (h : ∀ e ∈ es, InB M e.en) : OB M (firstOf es o) := fun x hx => by
  obtain ⟨⟨e, he, _, rfl⟩, _⟩ := firstOf_some hx
  exact h e he
theorem OB.minO {M : Int} {es : List End} (h : ∀ e ∈ es, InB M e.en) : OB M (minO (es.map (·.en))) := fun x hx => by
  obtain ⟨e, he, rfl⟩ := List.mem_map.mp (minO_some hx).1
  exact h e he
theorem InB.together {M : Int} {s : Ins} {c : Option Ins} {es ct : List End} {told : Oc × List Er} (hs : InB M s) (h : ∀ e ∈ es, InB M e.en) : InB M (together s c es ct told).en := by
  rw [together_en]
  rcases maxI_mem (es.map (·.en)) s with e | e
  · rw [e]; exact hs
  · obtain ⟨x, hx, e2⟩ := List.mem_map.mp e
    rw [← e2]
    exact h x hx
/-- how far a node goes -/
def Far (t : T) : Prop := ∀ (M : Int) (s : Ins) (c : Option Ins), 0 ≤ M → InB M s → OB M c → InB (M + 2000 * (cost t : Nat)) ((den t).fin s c).en
theorem ends_far : ∀ (ts : List T), (∀ t ∈ ts, Far t) → ∀ (M : Int) (s : Ins) (c : Option Ins), 0 ≤ M → InB M s → OB M c → ∀ e ∈ (denL ts).map (fun b => b.fin s c), InB (M + 2000 * (costL ts : Nat)) e.en
  | [], _, M, s, c, _, _, _, e, he => by cases he
  | t :: ts, h, M, s, c, h0, hs, hc, e, he => by
    rw [denL, List.map_cons] at he
    simp only [costL]
    rcases List.mem_cons.mp he with rfl | he
    · exact (h t List.mem_cons_self M s c h0 hs hc).mono (by omega)
    · exact (ends_far ts (fun x hx => h x (List.mem_cons_of_mem _ hx)) M s c h0 hs hc e he).mono (by omega)
theorem pool_far (n : Int) (s : Ins) (c : Option Ins) : ∀ (ts : List T), (∀ t ∈ ts, Far t) → ∀ (M : Int) (k : Nat) (comp : List Ins), 0 ≤ M → InB M s → OB M c → (∀ x ∈ comp, InB M x) →
    ∀ r ∈ poolRes n s c k comp (denL ts), OB (M + 2000 * (costL ts : Nat)) r.1 ∧ InB (M + 2000 * (costL ts : Nat)) (endOr s r).en
  | [], _, M, k, comp, _, _, _, _, r, hr => by cases hr
  | t :: ts, h, M, k, comp, h0, hs, hc, hcomp, r, hr => by
    have hp := cost_pos0 t
    have head : OB (M + 2000 * (cost t : Nat)) (poolOne n s c k comp (den t)).1 ∧ InB (M + 2000 * (cost t : Nat)) (endOr s (poolOne n s c k comp (den t))).en ∧ ∀ x ∈ comOf (poolOne n s c k comp (den t)).2, InB (M + 2000 * (cost t : Nat)) x := by
      have nev : OB (M + 2000 * (cost t : Nat)) (Option.none : Option Ins) ∧ InB (M + 2000 * (cost t : Nat)) (endOr s ((Option.none : Option Ins), c.map fun x => (⟨nexti x, .can, []⟩ : End))).en ∧ ∀ x ∈ comOf (c.map fun x => (⟨nexti x, .can, []⟩ : End)), InB (M + 2000 * (cost t : Nat)) x := by
        refine ⟨OB.none, ?_, ?_⟩
        · cases c with
          | none => exact hs.mono (by omega)
          | some x => exact ((hc x rfl).next).mono (by omega)
        · intro x hx
          obtain ⟨e, he, ho, _⟩ := comOf_mem hx
          cases c with
          | none => cases he
          | some y =>
            injection he with he
            rw [← he] at ho
            cases ho
      unfold poolOne
      cases hb : beginOf n s k comp with
      | none => exact nev
      | some g =>
        dsimp only
        have hg : InB M g := by
          unfold beginOf at hb
          split at hb
          · injection hb with hb
            rw [← hb]
            exact hs
          · exact hcomp g ((isort_perm comp).mem_iff.mp (List.mem_of_getElem? hb))
        split
        · have hf := h t List.mem_cons_self M g c h0 hg hc
          refine ⟨OB.some (hg.mono (by omega)), hf, fun x hx => ?_⟩
          obtain ⟨e, he, _, rfl⟩ := comOf_mem hx
          injection he with he
          rw [← he]
          exact hf
        · exact nev
    rw [denL, poolRes] at hr
    simp only [costL]
    rcases List.mem_cons.mp hr with rfl | hr
    · exact ⟨head.1.mono (by omega), head.2.1.mono (by omega)⟩
    · have := pool_far n s c ts (fun x hx => h x (List.mem_cons_of_mem _ hx)) (M + 2000 * (cost t : Nat)) (k + 1) _ (by omega) (hs.mono (by omega)) (hc.mono (by omega)) (fun x hx => by
        rcases List.mem_append.mp hx with hx | hx
        · exact (hcomp x hx).mono (by omega)
        · exact head.2.2 x hx) r hr
      exact ⟨this.1.mono (by omega), this.2.mono (by omega)⟩
theorem seq_far (c : Option Ins) : ∀ (ts : List T), (∀ t ∈ ts, Far t) → ∀ (M : Int) (k : Nat) (told : End), 0 ≤ M → InB M told.en → OB M c →
    InB (M + 2000 * (costL ts : Nat)) (seqGo c k told (denL ts)).1.en ∧ ∀ p ∈ (seqGo c k told (denL ts)).2, OB (M + 2000 * (costL ts : Nat)) p.beg ∧ p.lim = c ∧ p.nev = none
  | [], _, M, k, told, h0, ht, hc => ⟨ht.mono (by omega), fun p hp => by cases hp⟩
  | t :: ts, h, M, k, told, h0, ht, hc => by
    have hf := h t List.mem_cons_self M told.en c h0 ht hc
    rw [denL, seqGo]
    simp only [costL]
    split
    · obtain ⟨q1, q2⟩ := seq_far c ts (fun x hx => h x (List.mem_cons_of_mem _ hx)) (M + 2000 * (cost t : Nat)) (k + 1) _ (by omega) hf (hc.mono (by omega))
      refine ⟨q1.mono (by omega), fun p hp => ?_⟩
      rcases List.mem_cons.mp hp with rfl | hp
      · exact ⟨OB.some (ht.mono (by omega)), rfl, rfl⟩
      · obtain ⟨a, b, d⟩ := q2 p hp
        exact ⟨a.mono (by omega), b, d⟩
    · refine ⟨hf.mono (by omega), fun p hp => ?_⟩
      rw [List.mem_singleton.mp hp]
      exact ⟨OB.some (ht.mono (by omega)), rfl, rfl⟩
theorem retry_far (t : T) (d : Int) (c : Option Ins) (h : Far t) (hd0 : 0 ≤ d) (hd1 : d ≤ 100) : ∀ (left run : Nat) (M : Int) (s : Ins), 0 ≤ M → InB M s → OB M c →
    InB (M + (left + 1) * (2000 * (cost t : Nat) + 100)) (retryGo (den t) d c left run s).1.en ∧ ∀ p ∈ (retryGo (den t) d c left run s).2, OB (M + (left + 1) * (2000 * (cost t : Nat) + 100)) p.beg ∧ p.lim = c ∧ p.nev = none
  | 0, run, M, s, h0, hs, hc => by
    have hf := h M s c h0 hs hc
    rw [retryGo]
    refine ⟨hf.mono (by simp; omega), fun p hp => ?_⟩
    rw [List.mem_singleton.mp hp]
    exact ⟨OB.some (hs.mono (by simp; omega)), rfl, rfl⟩
  | left + 1, run, M, s, h0, hs, hc => by
    have hf := h M s c h0 hs hc
    have e : (((left + 1 : Nat) : Int) + 1) * (2000 * (cost t : Nat) + 100) = ((left : Int) + 1) * (2000 * (cost t : Nat) + 100) + (2000 * (cost t : Nat) + 100) := by
      rw [show (((left + 1 : Nat) : Int) + 1) = ((left : Int) + 1) + 1 by omega, Int.add_mul ((left : Int) + 1) 1, Int.one_mul]
    have hnn : 0 ≤ ((left : Int) + 1) * (2000 * (cost t : Nat) + 100) := Int.mul_nonneg (by omega) (by omega)
    have hl : InB (M + (2000 * (cost t : Nat) + 100)) (later ((den t).fin s c).en d) := (hf.later hd0).mono (by omega)
    have ih := retry_far t d c h hd0 hd1 left (run + 1) (M + (2000 * (cost t : Nat) + 100)) (later ((den t).fin s c).en d) (by omega) hl (hc.mono (by omega))
    rw [e]
    generalize ((left : Int) + 1) * (2000 * (cost t : Nat) + 100) = Z at hnn ih
    have one : ∀ p ∈ [(⟨run, 0, 0, some s, c, none⟩ : Part)], OB (M + (Z + (2000 * (cost t : Nat) + 100))) p.beg ∧ p.lim = c ∧ p.nev = none := fun p hp => by
      rw [List.mem_singleton.mp hp]
      exact ⟨OB.some (hs.mono (by omega)), rfl, rfl⟩
    rw [retryGo]
    split
    · split
      · split
        · refine ⟨ih.1.mono (by omega), fun p hp => ?_⟩
          rcases List.mem_cons.mp hp with e2 | hp
          · exact one p (by rw [e2]; exact List.mem_cons_self)
          · obtain ⟨a, b, d2⟩ := ih.2 p hp
            exact ⟨a.mono (by omega), b, d2⟩
        · rename_i h3
          refine ⟨?_, one⟩
          cases c with
          | none => exact absurd rfl h3
          | some x => exact ((hc x rfl).next).mono (by omega)
      · exact ⟨hf.mono (by omega), one⟩
    · exact ⟨hf.mono (by omega), one⟩
theorem scope_far (k : Kd) (ps : List T) (h : ∀ t ∈ ps, Far t) (M : Int) (s : Ins) (c : Option Ins) (h0 : 0 ≤ M) (hs : InB M s) (hc : OB M c) :
    OB (M + 2000 * (costL ps : Nat)) (limOf k c ((denL ps).map fun b => b.fin s c)) ∧ InB (M + 2000 * (costL ps : Nat) + 2000 * (costL ps : Nat)) (scopeEnd k (denL ps) s c).en := by
  have h1 := ends_far ps h M s c h0 hs hc
  have hl : OB (M + 2000 * (costL ps : Nat)) (limOf k c ((denL ps).map fun b => b.fin s c)) := by
    unfold limOf
    cases k with
    | all => exact (hc.mono (by omega)).earliest (OB.firstOf h1)
    | race => exact (hc.mono (by omega)).earliest (OB.minO h1)
    | any => exact (hc.mono (by omega)).earliest (OB.firstOf h1)
  refine ⟨hl, ?_⟩
  have h2 := ends_far ps h (M + 2000 * (costL ps : Nat)) s _ (by omega) (hs.mono (by omega)) hl
  exact InB.together (hs.mono (by omega)) h2
theorem pool_far2 (n : Int) (ps : List T) (h : ∀ t ∈ ps, Far t) (M : Int) (s : Ins) (c : Option Ins) (h0 : 0 ≤ M) (hs : InB M s) (hc : OB M c) :
    OB (M + 2000 * (costL ps : Nat)) (poolLim n (denL ps) s c) ∧ (∀ r ∈ poolRes n s (poolLim n (denL ps) s c) 0 [] (denL ps), OB (M + 2000 * (costL ps : Nat) + 2000 * (costL ps : Nat)) r.1 ∧ InB (M + 2000 * (costL ps : Nat) + 2000 * (costL ps : Nat)) (endOr s r).en) ∧
      InB (M + 2000 * (costL ps : Nat) + 2000 * (costL ps : Nat)) (poolEnd n (denL ps) s c).en := by
  have h1 := pool_far n s c ps h M 0 [] h0 hs hc (fun x hx => by cases hx)
  have hl : OB (M + 2000 * (costL ps : Nat)) (poolLim n (denL ps) s c) := by
    unfold poolLim
    refine (hc.mono (by omega)).earliest (OB.firstOf fun e he => ?_)
    obtain ⟨r, hr, rfl⟩ := List.mem_map.mp he
    exact (h1 r hr).2
  have h2 := pool_far n s _ ps h (M + 2000 * (costL ps : Nat)) 0 [] (by omega) (hs.mono (by omega)) hl (fun x hx => by cases hx)
  refine ⟨hl, h2, ?_⟩
  unfold poolEnd
  refine InB.together (hs.mono (by omega)) fun e he => ?_
  obtain ⟨r, hr, rfl⟩ := List.mem_map.mp he
  exact (h2 r hr).2
mutual
theorem far : ∀ t : T, WF t → Far t
  | .job d g v cl f, w => fun M s c h0 hs hc => by
    show InB (M + 2000 * ((1 : Nat) : Int)) ((den (.job d g v cl f)).crs s c).1.en
    rw [crs_job]
    obtain ⟨⟨d0, d1⟩, _, ⟨c0, c1⟩, _⟩ := w
    unfold jobEnd
    split
    · exact (hs.later d0).mono (by omega)
    · rename_i hna
      cases c with
      | none => exact absurd rfl hna
      | some x =>
        have hx := ((hc x rfl).next).later c0
        split
        · exact hx.mono (by omega)
        · exact hx.mono (by omega)
  | .scope k ps, w => fun M s c h0 hs hc => by
    show InB _ ((den (.scope k ps)).crs s c).1.en
    rw [crs_scope]
    have := (scope_far k ps (farL ps w.2.2) M s c h0 hs hc).2
    exact this.mono (by simp only [cost]; omega)
  | .pool n ps, w => fun M s c h0 hs hc => by
    show InB _ ((den (.pool n ps)).crs s c).1.en
    rw [crs_pool]
    have := (pool_far2 n ps (farL ps w.2.2.2) M s c h0 hs hc).2.2
    exact this.mono (by simp only [cost]; omega)
  | .seq ps, w => fun M s c h0 hs hc => by
    show InB _ ((den (.seq ps)).crs s c).1.en
    rw [crs_seq]
    have := (seq_far c ps (farL ps w.2.2) M 0 ⟨s, .com, []⟩ h0 hs hc).1
    exact this.mono (by simp only [cost]; omega)
  | .timeout k p, w => fun M s c h0 hs hc => by
    show InB _ ((den (.timeout k p)).crs s c).1.en
    rw [crs_timeout]
    have hk := hs.later w.1.1
    have hl : OB (M + k) (earliest c (some (later s k))) := (hc.mono (by have := w.1.1; omega)).earliest (OB.some hk)
    have hf := far p w.2 (M + k) s _ (by have := w.1.1; omega) (hs.mono (by have := w.1.1; omega)) hl
    have hk2 := w.1.2
    show InB _ (timeoutEnd k (den p) s c).en
    unfold timeoutEnd timeoutFin
    split
    · exact hf.mono (by simp only [cost]; omega)
    · unfold lateEnd
      split <;> exact hf.mono (by simp only [cost]; omega)
  | .orelse p q, w => fun M s c h0 hs hc => by
    show InB _ ((den (.orelse p q)).crs s c).1.en
    rw [crs_orelse]
    have h1 := far p w.1 M s c h0 hs hc
    have h2 := far q w.2 (M + 2000 * (cost p : Nat)) _ c (by omega) h1 (hc.mono (by omega))
    unfold orelseCrs
    split
    · split
      · exact h2.mono (by simp only [cost]; omega)
      · exact h1.mono (by simp only [cost]; omega)
    · exact h1.mono (by simp only [cost]; omega)
  | .retry n d p, w => fun M s c h0 hs hc => by
    show InB _ ((den (.retry n d p)).crs s c).1.en
    rw [crs_retry]
    have := (retry_far p d c (far p w.2.2) w.2.1.1 w.2.1.2 n 0 M s h0 hs hc).1
    have hn := w.1
    refine this.mono ?_
    simp only [cost]
    have e : (((n : Nat) : Int) + 1) * (2000 * (cost p : Nat) + 100) = 2000 * (((n + 1) * cost p : Nat) : Int) + 100 * ((n : Int) + 1) := by
      rw [Int.mul_add, Int.natCast_mul, Int.mul_left_comm]
      simp
      omega
    rw [e]
    omega
theorem farL : ∀ ts : List T, WFL ts → ∀ t ∈ ts, Far t
  | [], _, t, h => by cases h
  | x :: ts, w, t, h => by
    rcases List.mem_cons.mp h with e | h
    · rw [e]; exact far x w.1
    · exact farL ts w.2 t h
end
end Asf
set_option linter.all false
namespace Asf
theorem retry_kids (b : Beh) (d : Int) (c : Option Ins) : ∀ (left run : Nat) (s : Ins), (retryGo b d c left run s).2.length ≤ left + 1 ∧ ∀ p ∈ (retryGo b d c left run s).2, p.kid = 0
  | 0, run, s => by
    rw [retryGo]
    exact ⟨Nat.le_refl _, fun p hp => by rw [List.mem_singleton.mp hp]⟩
  | left + 1, run, s => by
    rw [retryGo]
    have one : ∀ e : End, (e, [(⟨run, 0, 0, some s, c, none⟩ : Part)]).2.length ≤ left + 1 + 1 ∧ ∀ p ∈ (e, [(⟨run, 0, 0, some s, c, none⟩ : Part)]).2, p.kid = 0 := fun e => ⟨by show 1 ≤ left + 1 + 1; omega, fun p hp => by rw [List.mem_singleton.mp hp]⟩
    split
    · split
      · split
        · obtain ⟨h1, h2⟩ := retry_kids b d c left (run + 1) (later (b.fin s c).en d)
          refine ⟨by simp only [List.length_cons]; omega, fun p hp => ?_⟩
          rcases List.mem_cons.mp hp with rfl | hp
          · rfl
          · exact h2 p hp
        · exact one _
      · exact one _
    · exact one _
def isRetryB : T → Bool
  | .retry .. => true
  | _ => false
theorem parts_run {u : T} (w : WF u) (hr : isRetryB u = false) {s : Ins} {c : Option Ins} (ho : OLe s c) : ((den u).crs s c).2.length ≤ (kidsT u).length ∧ ∀ (j : Nat) p, ((den u).crs s c).2[j]? = some p → p.kid = j := by
  cases u with
  | job d g v cl f =>
    rw [crs_job]
    exact ⟨Nat.zero_le _, fun j p h => by simp at h⟩
  | scope k ps =>
    rw [crs_scope]
    have e : (scopeCrs k (denL ps) s c).2 = scopeParts ps.length s (limOf k c (e1 (denL ps) s c)) := by
      unfold scopeCrs
      rw [denL_eq, List.length_map]
      rfl
    rw [e]
    unfold scopeParts
    refine ⟨by simp [kidsT], fun j p hp => ?_⟩
    rw [List.getElem?_map] at hp
    obtain ⟨i, hi, rfl⟩ := Option.map_eq_some_iff.mp hp
    obtain ⟨hj1, hj2⟩ := List.getElem?_eq_some_iff.mp hi
    rw [List.getElem_range] at hj2
    exact hj2.symm
  | pool n ps =>
    rw [crs_pool]
    obtain ⟨h1, h2⟩ := pool_kids n s (poolLim n (denL ps) s c) (denL ps) 0 []
    have el : (denL ps).length = ps.length := by rw [denL_eq, List.length_map]
    exact ⟨by show (poolParts s (poolLim n (denL ps) s c) 0 (poolRes n s (poolLim n (denL ps) s c) 0 [] (denL ps))).length ≤ ps.length; omega, fun j p hp => by have := (h2 j p hp).1; omega⟩
  | seq ps =>
    rw [crs_seq]
    obtain ⟨h1, h2⟩ := seq_kids c ps 0 ⟨s, .com, []⟩ (fun t ht => good_den t (WFL_mem ps w.2.2 t ht)) ho
    exact ⟨h1, fun j p hp => by have := (h2 j p hp).1; omega⟩
  | timeout k q =>
    rw [crs_timeout]
    refine ⟨Nat.le_refl _, fun j p hp => ?_⟩
    cases j with
    | zero => exact (congrArg Part.kid (Option.some.inj (show some _ = some p from hp))).symm
    | succ j => simp [timeoutCrs] at hp
  | orelse q1 q2 =>
    rw [crs_orelse]
    have one : ∀ e : End, (e, [(⟨0, 0, 0, some s, c, none⟩ : Part)]).2.length ≤ 2 ∧ ∀ (j : Nat) p, (e, [(⟨0, 0, 0, some s, c, none⟩ : Part)]).2[j]? = some p → p.kid = j := fun e => ⟨by show 1 ≤ 2; omega, fun j p hp => by
      cases j with
      | zero => exact (congrArg Part.kid (Option.some.inj (show some _ = some p from hp))).symm
      | succ j => simp at hp⟩
    unfold orelseCrs
    split
    · split
      · refine ⟨Nat.le_refl _, fun j p hp => ?_⟩
        match j, hp with
        | 0, hp => exact (congrArg Part.kid (Option.some.inj (show some _ = some p from hp))).symm
        | 1, hp => exact (congrArg Part.kid (Option.some.inj (show some _ = some p from hp))).symm
        | j + 2, hp => simp at hp
      · exact one _
    · exact one _
  | retry n d q => cases hr
/-! ### how many entries -/
mutual
def ec : T → Nat
  | .job .. => 1
  | .scope _ ps => ecL ps + 1
  | .pool _ ps => ecL ps + 1
  | .seq ps => ecL ps + 1
  | .timeout _ p => ec p + 1
  | .orelse p q => ec p + ec q + 1
  | .retry n _ p => (n + 1) * ec p + 1
def ecL : List T → Nat
  | [] => 0
  | p :: ps => ec p + ecL ps
end
theorem ec_pos (t : T) : 1 ≤ ec t := by cases t <;> simp [ec]
def pe (ts : List T) (p : Part) : Nat := match ts[p.kid]? with
  | some q => ec q
  | none => 0
def pecost (ts : List T) (prt : List Part) : Nat := (prt.map (pe ts)).sum
theorem pecost_cons (ts : List T) (p : Part) (ps : List Part) : pecost ts (p :: ps) = pe ts p + pecost ts ps := by simp [pecost]
theorem ecL_drop {ps : List T} {i : Nat} {p : T} (h : ps[i]? = some p) : ecL (ps.drop i) = ec p + ecL (ps.drop (i + 1)) := by
  have hi := (List.getElem?_eq_some_iff.mp h).1
  rw [List.drop_eq_getElem_cons hi, (List.getElem?_eq_some_iff.mp h).2]
  rfl
theorem run_ec {ts : List T} : ∀ (prt : List Part) (k : Nat), (∀ (j : Nat) p, prt[j]? = some p → p.kid = k + j) → k + prt.length ≤ ts.length → pecost ts prt ≤ ecL (ts.drop k)
  | [], k, _, _ => Nat.zero_le _
  | p :: prt, k, h, hl => by
    have h0 : p.kid = k := h 0 p rfl
    rw [List.length_cons] at hl
    have ih := run_ec (ts := ts) prt (k + 1) (fun j q hq => by have := h (j + 1) q (by simpa using hq); omega) (by omega)
    have hk : ts[k]? = some ts[k] := by simp
    rw [pecost_cons, ecL_drop hk]
    have : pe ts p = ec ts[k] := by unfold pe; rw [h0, hk]
    omega
theorem same_ec (t : T) : ∀ (prt : List Part) (m : Nat), (∀ p ∈ prt, p.kid = 0) → prt.length ≤ m → pecost [t] prt ≤ m * ec t
  | [], m, _, _ => Nat.zero_le _
  | p :: prt, 0, _, h => by simp at h
  | p :: prt, m + 1, h, hl => by
    have ih := same_ec t prt m (fun q hq => h q (List.mem_cons_of_mem _ hq)) (by simp at hl; omega)
    have e : pe [t] p = ec t := by
      unfold pe
      rw [h p List.mem_cons_self]
      rfl
    rw [pecost_cons, e, Nat.add_mul, Nat.one_mul]
    omega
theorem parts_ec {u : T} (w : WF u) {s : Ins} {c : Option Ins} (ho : OLe s c) : pecost (kidsT u) ((den u).crs s c).2 + 1 ≤ ec u := by
  cases hr : isRetryB u with
  | false =>
    obtain ⟨h1, h2⟩ := parts_run w hr ho
    have h := run_ec (ts := kidsT u) ((den u).crs s c).2 0 (fun j p hp => by have := h2 j p hp; omega) (by omega)
    rw [List.drop_zero] at h
    cases u with
    | retry n d q => cases hr
    | job d g v cl f => simp [kidsT, ecL, ec] at *; omega
    | scope k ps => simp [kidsT, ecL, ec] at *; omega
    | pool n ps => simp [kidsT, ecL, ec] at *; omega
    | seq ps => simp [kidsT, ecL, ec] at *; omega
    | timeout k p => simp [kidsT, ecL, ec] at *; omega
    | orelse p q => simp [kidsT, ecL, ec] at *; omega
  | true =>
    cases u with
    | retry n d q =>
      rw [crs_retry]
      obtain ⟨h1, h2⟩ := retry_kids (den q) d c n 0 s
      have h := same_ec q (retryGo (den q) d c n 0 s).2 (n + 1) h2 h1
      show pecost [q] (retryGo (den q) d c n 0 s).2 + 1 ≤ (n + 1) * ec q + 1
      omega
    | _ => cases hr
theorem flat_ec {ts : List T} {pa : Path} : ∀ (prt : List Part), (∀ p ∈ prt, (rowOf (denL ts) pa p).length ≤ pe ts p) → (prt.flatMap (rowOf (denL ts) pa)).length ≤ pecost ts prt
  | [], _ => Nat.zero_le _
  | p :: prt, h => by
    rw [List.flatMap_cons, List.length_append, pecost_cons]
    have := h p List.mem_cons_self
    have := flat_ec prt (fun x hx => h x (List.mem_cons_of_mem _ hx))
    omega
theorem tr_ec : ∀ (d : Nat) (u : T), depth u ≤ d → WF u → ∀ (pa : Path) (s : Ins) (c : Option Ins), OLe s c → ((den u).tr pa s c).length ≤ ec u
  | 0, u, h, _, _, _, _, _ => by have := depth_pos u; omega
  | d + 1, u, h, w, pa, s, c, ho => by
    obtain ⟨h1, _⟩ := parts_ok w ho
    have h2 := parts_ec w ho
    have hf := flat_ec (ts := kidsT u) (pa := pa) ((den u).crs s c).2 (fun p hp => by
      obtain ⟨⟨q, hq⟩, hb⟩ := h1 p hp
      have hpc : pe (kidsT u) p = ec q := by unfold pe; rw [hq]
      have hqm := List.mem_of_getElem? hq
      rw [hpc]
      cases e : p.beg with
      | none =>
        rw [rowOf_none e]
        exact ec_pos q
      | some g =>
        rw [e] at hb
        rw [rowOf_some e hq]
        exact tr_ec d q (by have := kid_depth hqm; omega) (kid_wf w hqm) _ _ _ hb)
    rw [den_tr, List.length_cons]
    omega
mutual
theorem ec_le : ∀ t : T, WF t → ec t ≤ depth t * runs t
  | .job .., _ => Nat.le_refl _
  | .scope k ps, w => by
    have h := ec_leL ps w.2.2
    have hp := runs_posL ps w.1 w.2.2
    simp only [ec, depth, runs, Nat.add_mul, Nat.one_mul]
    omega
  | .pool n ps, w => by
    have h := ec_leL ps w.2.2.2
    have hp := runs_posL ps w.2.1 w.2.2.2
    simp only [ec, depth, runs, Nat.add_mul, Nat.one_mul]
    omega
  | .seq ps, w => by
    have h := ec_leL ps w.2.2
    have hp := runs_posL ps w.1 w.2.2
    simp only [ec, depth, runs, Nat.add_mul, Nat.one_mul]
    omega
  | .timeout k p, w => by
    have h := ec_le p w.2
    have hp := runs_pos p w.2
    simp only [ec, depth, runs, Nat.add_mul, Nat.one_mul]
    omega
  | .orelse p q, w => by
    have h1 := ec_le p w.1
    have h2 := ec_le q w.2
    have hp := runs_pos p w.1
    have e1 : depth p * runs p ≤ max (depth p) (depth q) * runs p := Nat.mul_le_mul_right _ (Nat.le_max_left _ _)
    have e2 : depth q * runs q ≤ max (depth p) (depth q) * runs q := Nat.mul_le_mul_right _ (Nat.le_max_right _ _)
    simp only [ec, depth, runs, Nat.add_mul, Nat.one_mul, Nat.mul_add]
    omega
  | .retry n d p, w => by
    have h := ec_le p w.2.2
    have hp := runs_pos p w.2.2
    have e1 : (n + 1) * ec p ≤ depth p * ((n + 1) * runs p) := by
      have := Nat.mul_le_mul_left (n + 1) h
      rw [Nat.mul_left_comm (depth p)]
      exact this
    have e2 : 1 ≤ (n + 1) * runs p := Nat.mul_pos (by omega) (by omega)
    simp only [ec, depth, runs]
    rw [Nat.add_mul (depth p) 1, Nat.one_mul]
    omega
theorem ec_leL : ∀ ts : List T, WFL ts → ecL ts ≤ depthL ts * runsL ts
  | [], _ => Nat.zero_le _
  | t :: ts, w => by
    have h1 := ec_le t w.1
    have h2 := ec_leL ts w.2
    have e1 : depth t * runs t ≤ max (depth t) (depthL ts) * runs t := Nat.mul_le_mul_right _ (Nat.le_max_left _ _)
    have e2 : depthL ts * runsL ts ≤ max (depth t) (depthL ts) * runsL ts := Nat.mul_le_mul_right _ (Nat.le_max_right _ _)
    simp only [ecL, depthL, runsL, Nat.mul_add]
    omega
end
theorem poolParts_far {B : Int} {s : Ins} {c : Option Ins} (hc : OB B c) : ∀ (rs : List (Option Ins × Option End)) (k : Nat), (∀ r ∈ rs, OB B r.1 ∧ InB B (endOr s r).en) → ∀ p ∈ poolParts s c k rs, OB B p.beg ∧ OB B p.lim ∧ OB B p.nev
  | [], _, _, p, hp => by cases hp
  | r :: rs, k, h, p, hp => by
    rw [poolParts] at hp
    rcases List.mem_cons.mp hp with rfl | hp
    · obtain ⟨h1, h2⟩ := h r List.mem_cons_self
      unfold poolPart
      cases e : r.1 with
      | none => exact ⟨OB.none, hc, OB.some h2⟩
      | some g =>
        rw [e] at h1
        exact ⟨h1, hc, OB.none⟩
    · exact poolParts_far hc rs (k + 1) (fun x hx => h x (List.mem_cons_of_mem _ hx)) p hp
theorem parts_far {u : T} (w : WF u) (M : Int) (s : Ins) (c : Option Ins) (h0 : 0 ≤ M) (hs : InB M s) (hc : OB M c) : ∀ p ∈ ((den u).crs s c).2, OB (M + 2000 * (cost u : Nat)) p.beg ∧ OB (M + 2000 * (cost u : Nat)) p.lim ∧ OB (M + 2000 * (cost u : Nat)) p.nev := by
  cases u with
  | job d g v cl f =>
    rw [crs_job]
    intro p hp
    cases hp
  | scope k ps =>
    rw [crs_scope]
    have hl := (scope_far k ps (farL ps w.2.2) M s c h0 hs hc).1
    intro p hp
    have hp : p ∈ scopeParts (denL ps).length s (limOf k c ((denL ps).map fun b => b.fin s c)) := hp
    unfold scopeParts at hp
    obtain ⟨i, _, rfl⟩ := List.mem_map.mp hp
    exact ⟨OB.some (hs.mono (by omega)), hl.mono (by simp only [cost]; omega), OB.none⟩
  | pool n ps =>
    rw [crs_pool]
    obtain ⟨hl, hr, _⟩ := pool_far2 n ps (farL ps w.2.2.2) M s c h0 hs hc
    intro p hp
    have := poolParts_far (hl.mono (by omega)) (poolRes n s (poolLim n (denL ps) s c) 0 [] (denL ps)) 0 hr p hp
    exact ⟨this.1.mono (by simp only [cost]; omega), this.2.1.mono (by simp only [cost]; omega), this.2.2.mono (by simp only [cost]; omega)⟩
  | seq ps =>
    rw [crs_seq]
    have h := (seq_far c ps (farL ps w.2.2) M 0 ⟨s, .com, []⟩ h0 hs hc).2
    intro p hp
    obtain ⟨a, b, d⟩ := h p hp
    rw [b, d]
    exact ⟨a.mono (by simp only [cost]; omega), hc.mono (by omega), OB.none⟩
  | timeout k q =>
    rw [crs_timeout]
    have hk := hs.later w.1.1
    have h0k := w.1.1
    have h1k := w.1.2
    intro p hp
    rw [List.mem_singleton.mp hp]
    exact ⟨OB.some (hs.mono (by omega)), ((hc.mono (by omega)).earliest (OB.some (hk.mono (Int.le_refl _)))).mono (by simp only [cost]; omega), OB.none⟩
  | orelse q1 q2 =>
    rw [crs_orelse]
    have h1 := far q1 w.1 M s c h0 hs hc
    have one : ∀ p ∈ [(⟨0, 0, 0, some s, c, none⟩ : Part)], OB (M + 2000 * (cost (T.orelse q1 q2) : Nat)) p.beg ∧ OB (M + 2000 * (cost (T.orelse q1 q2) : Nat)) p.lim ∧ OB (M + 2000 * (cost (T.orelse q1 q2) : Nat)) p.nev := fun p hp => by
      rw [List.mem_singleton.mp hp]
      exact ⟨OB.some (hs.mono (by omega)), hc.mono (by omega), OB.none⟩
    unfold orelseCrs
    split
    · split
      · intro p hp
        rcases List.mem_cons.mp hp with e | hp
        · exact one p (by rw [e]; exact List.mem_cons_self)
        · rw [List.mem_singleton.mp hp]
          exact ⟨OB.some (h1.mono (by simp only [cost]; omega)), hc.mono (by omega), OB.none⟩
      · exact one
    · exact one
  | retry n d q =>
    rw [crs_retry]
    have h := (retry_far q d c (far q w.2.2) w.2.1.1 w.2.1.2 n 0 M s h0 hs hc).2
    have hn := w.1
    have e : (((n : Nat) : Int) + 1) * (2000 * (cost q : Nat) + 100) = 2000 * (((n + 1) * cost q : Nat) : Int) + 100 * ((n : Int) + 1) := by
      rw [Int.mul_add, Int.natCast_mul, Int.mul_left_comm]
      simp
      omega
    intro p hp
    obtain ⟨a, b, d2⟩ := h p hp
    rw [b, d2]
    rw [e] at a
    exact ⟨a.mono (by simp only [cost]; omega), hc.mono (by omega), OB.none⟩
/-- an entry within bounds -/
def EntB (B : Int) (L R : Nat) (e : Entry) : Prop := OB B e.start ∧ InB B e.en.en ∧ e.path.length ≤ L ∧ e.en.res.length ≤ R
theorem pcost_mem {ts : List T} : ∀ {prt : List Part} {p : Part}, p ∈ prt → pc ts p ≤ pcost ts prt
  | [], p, h => by cases h
  | x :: prt, p, h => by
    rw [pcost_cons]
    rcases List.mem_cons.mp h with rfl | h
    · omega
    · have := pcost_mem (ts := ts) h
      omega
theorem tr_far : ∀ (d : Nat) (u : T), depth u ≤ d → WF u → ∀ (M : Int) (pa : Path) (s : Ins) (c : Option Ins), 0 ≤ M → InB M s → OB M c → OLe s c → ∀ e ∈ (den u).tr pa s c, EntB (M + 2000 * (tcost u : Nat)) (pa.length + 2 * d) (size u) e
  | 0, u, h, _, _, _, _, _, _, _, _, _ => by have := depth_pos u; omega
  | d + 1, u, h, w, M, pa, s, c, h0, hs, hc, ho => by
    obtain ⟨h1, h2⟩ := parts_ok w ho
    have hpf := parts_far w M s c h0 hs hc
    have hfin := far u w M s c h0 hs hc
    rw [den_tr]
    intro e he
    rcases List.mem_cons.mp he with rfl | he
    · exact ⟨OB.some (hs.mono (by omega)), InB.mono hfin (by omega), by show pa.length ≤ _; omega, res_le u s c⟩
    · obtain ⟨p, hp, hpe⟩ := List.mem_flatMap.mp he
      obtain ⟨⟨q, hq⟩, hb⟩ := h1 p hp
      obtain ⟨b1, b2, b3⟩ := hpf p hp
      have hqm := List.mem_of_getElem? hq
      have hpc : pc (kidsT u) p = tcost q := by unfold pc; rw [hq]
      have hle := pcost_mem (ts := kidsT u) hp
      have hsz := kid_size hqm
      have hdq := kid_depth hqm
      have hlen : (pa ++ [(p.scope : Int), (p.part : Int)]).length = pa.length + 2 := by rw [List.length_append]; rfl
      cases eb : p.beg with
      | none =>
        rw [eb] at hb
        obtain ⟨x, hx⟩ := hb
        rw [rowOf_none eb, hx] at hpe
        rw [List.mem_singleton.mp hpe]
        rw [hx] at b3
        exact ⟨OB.none, (b3 x rfl).mono (by omega), by show (pa ++ [(p.scope : Int), (p.part : Int)]).length ≤ _; omega, Nat.zero_le _⟩
      | some g =>
        rw [eb] at hb b1
        rw [rowOf_some eb hq] at hpe
        have := tr_far d q (by omega) (kid_wf w hqm) (M + 2000 * (cost u : Nat)) _ g p.lim (by omega) (b1 g rfl) b2 hb e hpe
        obtain ⟨x1, x2, x3, x4⟩ := this
        refine ⟨x1.mono (by omega), x2.mono (by omega), by omega, by omega⟩
end Asf
set_option linter.all false
namespace Asf
theorem seq_num (c : Option Ins) : ∀ (bs : List Beh) (k : Nat) (told : End), ∀ p ∈ (seqGo c k told bs).2, p.scope < k + bs.length ∧ p.part = 0
  | [], k, told, p, hp => by cases hp
  | b :: bs, k, told, p, hp => by
    rw [seqGo] at hp
    rw [List.length_cons]
    split at hp
    · rcases List.mem_cons.mp hp with rfl | hp
      · exact ⟨by show k < _; omega, rfl⟩
      · have := seq_num c bs (k + 1) _ p hp
        exact ⟨by omega, this.2⟩
    · rw [List.mem_singleton.mp hp]
      exact ⟨by show k < _; omega, rfl⟩
theorem pool_num (s : Ins) (c : Option Ins) : ∀ (rs : List (Option Ins × Option End)) (k : Nat), ∀ p ∈ poolParts s c k rs, p.part < k + rs.length ∧ p.scope = 0
  | [], k, p, hp => by cases hp
  | r :: rs, k, p, hp => by
    rw [poolParts] at hp
    rw [List.length_cons]
    rcases List.mem_cons.mp hp with rfl | hp
    · unfold poolPart
      cases r.1 <;> exact ⟨by show k < _; omega, rfl⟩
    · have := pool_num s c rs (k + 1) p hp
      exact ⟨by omega, this.2⟩
theorem retry_num (b : Beh) (d : Int) (c : Option Ins) : ∀ (left run : Nat) (s : Ins), ∀ p ∈ (retryGo b d c left run s).2, p.scope ≤ run + left ∧ p.part = 0
  | 0, run, s, p, hp => by
    rw [retryGo] at hp
    rw [List.mem_singleton.mp hp]
    exact ⟨Nat.le_refl _, rfl⟩
  | left + 1, run, s, p, hp => by
    rw [retryGo] at hp
    have one : p ∈ [(⟨run, 0, 0, some s, c, none⟩ : Part)] → p.scope ≤ run + (left + 1) ∧ p.part = 0 := fun h => by
      rw [List.mem_singleton.mp h]
      exact ⟨by show run ≤ _; omega, rfl⟩
    split at hp
    · split at hp
      · split at hp
        · rcases List.mem_cons.mp hp with rfl | hp
          · exact one List.mem_cons_self
          · have := retry_num b d c left (run + 1) _ p hp
            exact ⟨by omega, this.2⟩
        · exact one hp
      · exact one hp
    · exact one hp
theorem poolRes_len (n : Int) (s : Ins) (c : Option Ins) : ∀ (bs : List Beh) (k : Nat) (comp : List Ins), (poolRes n s c k comp bs).length = bs.length
  | [], k, comp => rfl
  | b :: bs, k, comp => by rw [poolRes, List.length_cons, List.length_cons, poolRes_len n s c bs]
theorem parts_num {u : T} (w : WF u) (s : Ins) (c : Option Ins) : ∀ p ∈ ((den u).crs s c).2, p.scope ≤ 6 ∧ p.part ≤ 6 := by
  intro p hp
  cases u with
  | job d g v cl f =>
    rw [crs_job] at hp
    cases hp
  | scope k ps =>
    rw [crs_scope] at hp
    have hp : p ∈ scopeParts (denL ps).length s (limOf k c ((denL ps).map fun b => b.fin s c)) := hp
    unfold scopeParts at hp
    obtain ⟨i, hi, rfl⟩ := List.mem_map.mp hp
    have hi := List.mem_range.mp hi
    rw [denL_eq, List.length_map] at hi
    have := w.2.1
    exact ⟨Nat.zero_le _, by show i ≤ 6; omega⟩
  | pool n ps =>
    rw [crs_pool] at hp
    have := pool_num s _ _ 0 p hp
    rw [poolRes_len, denL_eq, List.length_map] at this
    have h6 := w.2.2.1
    omega
  | seq ps =>
    rw [crs_seq] at hp
    have := seq_num c _ 0 _ p hp
    rw [denL_eq, List.length_map] at this
    have h6 := w.2.1
    omega
  | timeout k q =>
    rw [crs_timeout] at hp
    rw [List.mem_singleton.mp hp]
    exact ⟨Nat.zero_le _, Nat.zero_le _⟩
  | orelse q1 q2 =>
    rw [crs_orelse] at hp
    unfold orelseCrs at hp
    have one : ∀ q ∈ [(⟨0, 0, 0, some s, c, none⟩ : Part)], q.scope ≤ 6 ∧ q.part ≤ 6 := fun q h => by
      rw [List.mem_singleton.mp h]
      exact ⟨Nat.zero_le _, Nat.zero_le _⟩
    split at hp
    · split at hp
      · rcases List.mem_cons.mp hp with e | hp
        · exact one p (by rw [e]; exact List.mem_cons_self)
        · rw [List.mem_singleton.mp hp]
          exact ⟨by show 1 ≤ 6; omega, Nat.zero_le _⟩
      · exact one p hp
    · exact one p hp
  | retry n d q =>
    rw [crs_retry] at hp
    have := retry_num _ _ _ n 0 s p hp
    have h5 := w.1
    omega
end Asf
set_option Elab.async false
set_option linter.all false
set_option maxRecDepth 100000
set_option maxHeartbeats 4000000
namespace Asf
open PySem PySem.Spec PyProof.Rows L2
def rMx2 : List V → Hp → VK → Prop := fun xs H Q => ∃ i j, xs = [.int i, .int j] ∧ Q (.int (if j > i then j else i)) H
theorem call_mx2 {X : Cx} (hc : X.calm = true) : CallR X (.builtin "max") rMx2 := call_max2 hc
section
variable {P : Program} {w : World} {K : PySem.W.Frag} {mg : Str → Option Value} {base : Heap}
def sp_start (K : PySem.W.Frag) : Sp := fun vs H Q E => match vs with
  | [.ref B] => BoxAt H B ∧ ∀ v s H', InB 1000000 s → Kp (some B) H H' → BoxAt H' B → InsAt H' v s → Q v H'
  | _ => False
theorem k_L_start (T : Txt K mg) : Cal P w K mg base 2 "_law_start" (He.ga K "_law_start") ["_law_box"] (sp_start K) :=
  cal_L_start T (okF T.d_L_start sc_L_start (fun vs H Q E h => match vs, h with | [.ref _], _ => rfl) fun cdv A outer s0 H vs Q E hr h => match vs, h with
  | [.ref B], h => by
    obtain ⟨b0, r⟩ := h
    refine ⟨_, (pss_one (ps_ret (pe_ix ix_list (pe_lst (pa_cons (pe_tup (pa_cons pe_int (pa_cons pe_int pa_nil))) (pa_cons (pe_tup (pa_cons (pe_k (k_L_draw T) hr (pa_cons (pv 0) (pa_cons pe_int pa_nil))) (pa_cons (pe_k (k_L_draw T) hr (pa_cons (pv 0) (pa_cons pe_int pa_nil))) pa_nil))) (pa_cons (pe_tup (pa_cons (pe_op op_mul (pe_k (k_L_draw T) hr (pa_cons (pv 0) (pa_cons pe_int pa_nil))) pe_int) (pa_cons (pe_k (k_L_draw T) hr (pa_cons (pv 0) (pa_cons pe_int pa_nil))) pa_nil))) pa_nil)))) (pe_k (k_L_draw T) hr (pa_cons (pv 0) (pa_cons pe_int pa_nil))) (fun _ _ => rfl)))), ?_⟩
    refine ⟨by show 2 ≤ sizeLine; decide, fun p1 hp1 => ?_⟩
    have k1 : Kp none H (upd H p1 (.tup [.int 0, .int 0])) := Kp.new hp1
    have i1 : InsAt (upd H p1 (.tup [.int 0, .int 0])) (.ref p1) (0, 0) := ⟨p1, rfl, upd_same⟩
    have b1 := b0.keep0 k1
    refine ⟨_, rfl, by decide, b1, fun r1 H1 x1 y1 k2 b2 => ⟨_, rfl, by decide, b2, fun r2 H2 x2 y2 k3 b3 => ⟨by show 2 ≤ sizeLine; decide, fun p2 hp2 => ?_⟩⟩⟩
    have k4 : Kp none H2 (upd H2 p2 (.tup [.int r1, .int r2])) := Kp.new hp2
    have i2 : InsAt (upd H2 p2 (.tup [.int r1, .int r2])) (.ref p2) (r1, r2) := ⟨p2, rfl, upd_same⟩
    have b4 := b3.keep0 k4
    refine ⟨_, rfl, by decide, b4, fun r3 H3 x3 y3 k5 b5 => ⟨_, _, rfl, rfl, .inr ⟨by decide, by decide⟩, ?_⟩⟩
    refine ⟨_, rfl, by decide, b5, fun r4 H4 x4 y4 k6 b6 => ⟨by show 2 ≤ sizeLine; decide, fun p3 hp3 => ⟨by show 3 ≤ sizeLine; decide, fun l hl => ?_⟩⟩⟩
    have k7 : Kp none H4 (upd H4 p3 (.tup [.int (r3 * 900), .int r4])) := Kp.new hp3
    have i3 : InsAt (upd H4 p3 (.tup [.int (r3 * 900), .int r4])) (.ref p3) (r3 * 900, r4) := ⟨p3, rfl, upd_same⟩
    have b7 := b6.keep0 k7
    have k8 : Kp none (upd H4 p3 (.tup [.int (r3 * 900), .int r4])) (upd (upd H4 p3 (.tup [.int (r3 * 900), .int r4])) l (.lst [.ref p1, .ref p2, .ref p3])) := Kp.new hl
    refine ⟨_, rfl, by decide, b7.keep0 k8, fun r5 H5 x5 y5 k9 b9 => ?_⟩
    obtain ⟨hl5, k89⟩ := list_draw b7 hl k9
    have t89 := b7.tk k89
    have t12 := b1.tk (k2.trans k3)
    have t45 := b4.tk (k5.trans k6)
    have j2 := (i2.mono (t45.trans k7.tk0)).mono t89
    have j1 := (i1.mono (t12.trans k4.tk0)).mono ((t45.trans k7.tk0).trans t89)
    have j3 := i3.mono t89
    obtain ⟨v, ⟨s, hb, hv⟩, ev⟩ := pickV [.ref p1, .ref p2, .ref p3] (fun v => ∃ s, InB 1000000 s ∧ InsAt H5 v s) (by
      intro v hv
      simp only [List.mem_cons, List.not_mem_nil, or_false] at hv
      rcases hv with rfl | rfl | rfl
      · exact ⟨_, ⟨by decide, by decide, by decide, by decide⟩, j1⟩
      · exact ⟨_, ⟨by show 0 ≤ r1; omega, by show r1 ≤ _; omega, by show 0 ≤ r2; omega, by show r2 ≤ _; omega⟩, j2⟩
      · exact ⟨_, ⟨by show 0 ≤ r3 * 900; omega, by show r3 * 900 ≤ _; omega, by show 0 ≤ r4; omega, by show r4 ≤ _; omega⟩, j3⟩) x5 (by show r5 < 3; exact y5)
    refine ⟨l, _, _, _, rfl, rfl, SqL.of hl5, ev, ?_⟩
    exact r v s H5 hb (((k1.weak.trans (k2.trans k3)).trans k4.weak).trans ((k5.trans k6).trans (k7.weak.trans k89))) b9 hv)
section
variable {H : Hp} {Nx Bk Ct : L2.St → Hp → Prop} {Rt : VK} {B : Addr} {pv sv tv ev av : V} {kd M : Int} {i s : Ins}
theorem at_new {a : Addr} {x y : Int} (h : H a = none) : InsAt (upd H a (.tup [.int x, .int y])) (.ref a) (x, y) := ⟨a, rfl, upd_same⟩
theorem can_1 (b : BoxAt H B) (h : InsAt H av i) (hb : InB M i) (r : ∀ av' i' H', InB (M + 5) i' → Kp (some B) H H' → BoxAt H' B → InsAt H' av' i' → Nx [some (.ref B), some pv, some sv, some tv, some ev, some av', some (.int kd)] H') :
    (tIfS (tTest (tOp rEq (tVar 6) (tC (.int 1)))) (tAsg (tTup (tCons (tOp (rIxD K) (tVar 5) (tC (.int 0))) (tCons (tOp (rI0 fun i j => .int (i + j)) (tOp (rIxD K) (tVar 5) (tC (.int 1))) (tC (.int 1))) tNil))) (gName 5)) tNext) { nx := Nx, bk := Bk, ct := Ct, rt := Rt } [some (.ref B), some pv, some sv, some tv, some ev, some av, some (.int kd)] H := by
  refine rd_if ?_
  refine ⟨_, rfl, rfl, _, rfl, ?_⟩
  refine itB (fun _ => ?_) (fun _ => r av i H (hb.mono (by omega)) (Kp.refl _ _) b h)
  refine ⟨_, rfl, _, _, _, h.dd, rfl, rfl, fun x hx => ⟨_, rfl, _, _, _, h.dd, rfl, rfl, fun y hy => ?_⟩⟩
  cases hx.to_int
  cases hy.to_int
  refine ⟨_, _, rfl, rfl, by show 2 ≤ sizeLine; decide, fun a ha => ?_⟩
  exact r _ (i.1, i.2 + 1) _ ⟨hb.1, by show i.1 ≤ _; have := hb.2.1; omega, by show 0 ≤ i.2 + 1; have := hb.2.2.1; omega, by show i.2 + 1 ≤ _; have := hb.2.2.2; omega⟩ (Kp.new ha) (b.keep0 (Kp.new ha)) (at_new ha)
theorem can_2 (b : BoxAt H B) (h : InsAt H av i) (hM : 10 ≤ M) (hb : InB M i) (r : ∀ av' i' H', InB (M + 5) i' → Kp (some B) H H' → BoxAt H' B → InsAt H' av' i' → Nx [some (.ref B), some pv, some sv, some tv, some ev, some av', some (.int kd)] H') :
    (tIfS (tTest (tOp rEq (tVar 6) (tC (.int 2)))) (tAsg (tTup (tCons (tCB rMx2 (tCons (tC (.int 0)) (tCons (tOp (rI0 fun i j => .int (i - j)) (tOp (rIxD K) (tVar 5) (tC (.int 0))) (tC (.int 1))) tNil))) (tCons (tK (sp_draw K) (tCons (tVar 0) (tCons (tC (.int 3)) tNil))) tNil))) (gName 5)) tNext) { nx := Nx, bk := Bk, ct := Ct, rt := Rt } [some (.ref B), some pv, some sv, some tv, some ev, some av, some (.int kd)] H := by
  refine rd_if ?_
  refine ⟨_, rfl, rfl, _, rfl, ?_⟩
  refine itB (fun _ => ?_) (fun _ => r av i H (hb.mono (by omega)) (Kp.refl _ _) b h)
  refine ⟨_, rfl, _, _, _, h.dd, rfl, rfl, fun x hx => ?_⟩
  cases hx.to_int
  refine ⟨_, _, rfl, rfl, _, _, rfl, _, rfl, by decide, b, fun r1 H1 p1 q1 k1 b1 => ⟨by show 2 ≤ sizeLine; decide, fun a ha => ?_⟩⟩
  refine r _ (if i.1 - 1 > 0 then i.1 - 1 else 0, r1) _ ⟨?_, ?_, p1, by show r1 ≤ _; omega⟩ (k1.trans (Kp.new ha)) (b1.keep0 (Kp.new ha)) (at_new ha)
  · show 0 ≤ if i.1 - 1 > 0 then i.1 - 1 else 0
    split <;> omega
  · show (if i.1 - 1 > 0 then i.1 - 1 else 0) ≤ _
    have := hb.2.1
    split <;> omega
theorem can_3 (b : BoxAt H B) (h : InsAt H av i) (hM : 10 ≤ M) (hb : InB M i) (r : ∀ av' i' H', InB (M + 5) i' → Kp (some B) H H' → BoxAt H' B → InsAt H' av' i' → Nx [some (.ref B), some pv, some sv, some tv, some ev, some av', some (.int kd)] H') :
    (tIfS (tTest (tOp rEq (tVar 6) (tC (.int 3)))) (tAsg (tTup (tCons (tOp (rI0 fun i j => .int (i + j)) (tOp (rIxD K) (tVar 5) (tC (.int 0))) (tK (sp_draw K) (tCons (tVar 0) (tCons (tC (.int 5)) tNil)))) (tCons (tC (.int 0)) tNil))) (gName 5)) tNext) { nx := Nx, bk := Bk, ct := Ct, rt := Rt } [some (.ref B), some pv, some sv, some tv, some ev, some av, some (.int kd)] H := by
  refine rd_if ?_
  refine ⟨_, rfl, rfl, _, rfl, ?_⟩
  refine itB (fun _ => ?_) (fun _ => r av i H (hb.mono (by omega)) (Kp.refl _ _) b h)
  refine ⟨_, rfl, _, _, _, h.dd, rfl, rfl, fun x hx => ?_⟩
  cases hx.to_int
  refine ⟨_, rfl, by decide, b, fun r1 H1 p1 q1 k1 b1 => ⟨_, _, rfl, rfl, by show 2 ≤ sizeLine; decide, fun a ha => ?_⟩⟩
  exact r _ (i.1 + r1, 0) _ ⟨by show 0 ≤ i.1 + r1; have := hb.1; omega, by show i.1 + r1 ≤ _; have := hb.2.1; omega, by show (0 : Int) ≤ 0; omega, by show (0 : Int) ≤ _; omega⟩ (k1.trans (Kp.new ha)) (b1.keep0 (Kp.new ha)) (at_new ha)
theorem can_4 (b : BoxAt H B) (h : InsAt H av i) (hb : InB M i) (r : ∀ av' i' H', InB (M + 5) i' → Kp (some B) H H' → BoxAt H' B → InsAt H' av' i' → Nx [some (.ref B), some pv, some sv, some tv, some ev, some av', some (.int kd)] H') :
    (tIfS (tAnd (tTest (tOp rEq (tVar 6) (tC (.int 4)))) (tTest (tOp (rI0 fun i j => .bl (decide (j < i))) (tOp (rIxD K) (tVar 5) (tC (.int 1))) (tC (.int 0))))) (tAsg (tTup (tCons (tOp (rIxD K) (tVar 5) (tC (.int 0))) (tCons (tOp (rI0 fun i j => .int (i - j)) (tOp (rIxD K) (tVar 5) (tC (.int 1))) (tC (.int 1))) tNil))) (gName 5)) tNext) { nx := Nx, bk := Bk, ct := Ct, rt := Rt } [some (.ref B), some pv, some sv, some tv, some ev, some av, some (.int kd)] H := by
  refine rd_if ?_
  have stay := r av i H (hb.mono (by omega)) (Kp.refl _ _) b h
  refine ⟨_, rfl, rfl, _, rfl, ?_⟩
  refine itB (fun _ => ?_) (fun _ => itF rfl stay)
  refine ⟨_, rfl, _, _, _, h.dd, rfl, rfl, fun x hx => ?_⟩
  cases hx.to_int
  refine ⟨_, _, rfl, rfl, _, rfl, ?_⟩
  refine itB (fun hg => ?_) (fun _ => stay)
  have hg := of_decide_eq_true hg
  refine ⟨_, rfl, _, _, _, h.dd, rfl, rfl, fun x hx => ⟨_, rfl, _, _, _, h.dd, rfl, rfl, fun y hy => ?_⟩⟩
  cases hx.to_int
  cases hy.to_int
  refine ⟨_, _, rfl, rfl, by show 2 ≤ sizeLine; decide, fun a ha => ?_⟩
  exact r _ (i.1, i.2 - 1) _ ⟨hb.1, by show i.1 ≤ _; have := hb.2.1; omega, by show 0 ≤ i.2 - 1; omega, by show i.2 - 1 ≤ _; have := hb.2.2.2; omega⟩ (Kp.new ha) (b.keep0 (Kp.new ha)) (at_new ha)
theorem can_5 (b : BoxAt H B) (h : InsAt H av i) (hb : InB M i) (hs : InsAt H sv s) (hsb : InB M s) (r : ∀ av' i' H', InB (M + 5) i' → Kp (some B) H H' → BoxAt H' B → InsAt H' av' i' → Nx [some (.ref B), some pv, some sv, some tv, some ev, some av', some (.int kd)] H') :
    (tIfS (tTest (tOp rEq (tVar 6) (tC (.int 5)))) (tAsg (tVar 2) (gName 5)) tNext) { nx := Nx, bk := Bk, ct := Ct, rt := Rt } [some (.ref B), some pv, some sv, some tv, some ev, some av, some (.int kd)] H := by
  refine rd_if ?_
  refine ⟨_, rfl, rfl, _, rfl, ?_⟩
  refine itB (fun _ => ?_) (fun _ => r av i H (hb.mono (by omega)) (Kp.refl _ _) b h)
  exact ⟨_, rfl, r sv s H (hsb.mono (by omega)) (Kp.refl _ _) b hs⟩
end
end
end Asf
set_option Elab.async false
set_option linter.all false
set_option maxRecDepth 100000
set_option maxHeartbeats 4000000
namespace Asf
open PySem PySem.Spec PyProof.Rows L2
section
variable {P : Program} {w : World} {K : PySem.W.Frag} {mg : Str → Option Value} {base : Heap}
def sp_cancel (K : PySem.W.Frag) : Sp := fun vs H Q E => match vs with
  | [.ref B, plv, sv] => ∃ t s, BoxAt H B ∧ DD K H plv (ePlan (subs t)) ∧ PlanOk t ∧ InsAt H sv s ∧ InB 1000000 s ∧
    ∀ v c H', OB (1000100 + 2000 * (tcost t : Nat)) c → OLe s c → Kp (some B) H H' → BoxAt H' B → OIns H' v c → Q v H'
  | _ => False
section
variable {H : Hp} {Nx Bk Ct : L2.St → Hp → Prop} {Rt : VK} {B : Addr} {pv sv tv ev av : V} {x6 : Option V} {M : Int} {e : Entry}
theorem can_0 (b : BoxAt H B) (he : DD K H ev (eEntry e)) (h : InsAt H av e.en.en) (hb : InB M e.en.en) (hs : OB M e.start) (r : ∀ av' i' H', InB M i' → Kp (some B) H H' → BoxAt H' B → InsAt H' av' i' → Nx [some (.ref B), some pv, some sv, some tv, some ev, some av', x6] H') :
    (tIfS (tAnd (tTest (tOp rEq (tK (sp_draw K) (tCons (tVar 0) (tCons (tC (.int 3)) tNil))) (tC (.int 0)))) (tB (tNotN (tOp (rIxD K) (tVar 4) (tC (.int 1)))))) (tAsg (tOp (rIxD K) (tVar 4) (tC (.int 1))) (gName 5)) tNext) { nx := Nx, bk := Bk, ct := Ct, rt := Rt } [some (.ref B), some pv, some sv, some tv, some ev, some av, x6] H := by
  refine rd_if ?_
  refine ⟨_, rfl, by decide, b, fun r1 H1 p1 q1 k1 b1 => ⟨rfl, _, rfl, ?_⟩⟩
  have tk := b.tk k1
  have stay := r av _ H1 hb k1 b1 (h.mono tk)
  have he1 := DD.mono tk _ _ he
  refine itB (fun _ => ?_) (fun _ => itF rfl stay)
  refine ⟨_, rfl, _, _, _, he1, rfl, rfl, fun x hx => ?_⟩
  have hx := hx.oins
  refine ⟨_, rfl, ?_⟩
  rw [OIns.isN hx]
  cases hst : e.start with
  | none => exact itF rfl stay
  | some g =>
    refine itT rfl ?_
    refine ⟨_, rfl, _, _, _, he1, rfl, rfl, fun y hy => ?_⟩
    rw [hst] at hy hs
    exact r y g H1 (hs g rfl) k1 b1 hy.oins
end
theorem k_L_cancel (T : Txt K mg) : Cal P w K mg base 57 "_law_cancel" (He.ga K "_law_cancel") ["_law_box", "_law_plan_here", "_law_start_here"] (sp_cancel K) :=
  cal_L_cancel T (okF T.d_L_cancel sc_L_cancel (fun vs H Q E h => match vs, h with | [.ref _, _, _], _ => rfl) fun cdv A outer s0 H vs Q E hr h => match vs, h with
  | [.ref B, plv, sv], h => by
    obtain ⟨t, s, b0, hp, hok, hs, hsb, r⟩ := h
    refine ⟨_, (pss_cons (ps_if (pt_cmpR (op_eq) (pe_k (k_L_draw T) hr (pa_cons (pv 0) (pa_cons pe_int pa_nil))) pe_int (nomark _)) (pss_one (ps_ret pe_non)) pss_nil) (pss_cons (ps_set (i := 3) sc_L_cancel.nd rfl (by first | exact Or.inl rfl | exact Or.inr rfl) (pe_ix ix_dd (pe_k (k_predict T) hr (pa_cons (pv 1) (pa_cons (pe_tup (pa_cons pe_int pa_nil)) (pa_cons (pv 2) (pa_cons pe_non pa_nil))))) pe_int (fun _ _ => rfl))) (pss_cons (ps_set (i := 4) sc_L_cancel.nd rfl (by first | exact Or.inl rfl | exact Or.inr rfl) (pe_ix ix_dd (pv 3) (pe_k (k_L_draw T) hr (pa_cons (pv 0) (pa_cons (pe_callB (call_lenQ) (by rfl) T.z_len (by decide +kernel) (pa_cons (pv 3) pa_nil)) pa_nil))) (fun _ _ => rfl))) (pss_cons (ps_set (i := 5) sc_L_cancel.nd rfl (by first | exact Or.inl rfl | exact Or.inr rfl) (pe_ix ix_dd (pv 4) pe_int (fun _ _ => rfl))) (pss_cons (ps_if (PW.pt (pw_and (pt_cmpR (op_eq) (pe_k (k_L_draw T) hr (pa_cons (pv 0) (pa_cons pe_int pa_nil))) pe_int (nomark _)) (pw_and1 (pt_cmp (pc_notN (pe_ix ix_dd (pv 4) pe_int (fun _ _ => rfl))) rfl)))) (pss_one (ps_set (i := 5) sc_L_cancel.nd rfl (by first | exact Or.inl rfl | exact Or.inr rfl) (pe_ix ix_dd (pv 4) pe_int (fun _ _ => rfl)))) pss_nil) (pss_cons (ps_set (i := 6) sc_L_cancel.nd rfl (by first | exact Or.inl rfl | exact Or.inr rfl) (pe_k (k_L_draw T) hr (pa_cons (pv 0) (pa_cons pe_int pa_nil)))) (pss_cons (ps_if (pt_cmpR (op_eq) (pv 6) pe_int (nomark _)) (pss_one (ps_set (i := 5) sc_L_cancel.nd rfl (by first | exact Or.inl rfl | exact Or.inr rfl) (pe_tup (pa_cons (pe_ix ix_dd (pv 5) pe_int (fun _ _ => rfl)) (pa_cons (pe_op op_add (pe_ix ix_dd (pv 5) pe_int (fun _ _ => rfl)) pe_int) pa_nil))))) pss_nil) (pss_cons (ps_if (pt_cmpR (op_eq) (pv 6) pe_int (nomark _)) (pss_one (ps_set (i := 5) sc_L_cancel.nd rfl (by first | exact Or.inl rfl | exact Or.inr rfl) (pe_tup (pa_cons (pe_callB (call_mx2 rfl) (by rfl) T.z_max (by decide +kernel) (pa_cons pe_int (pa_cons (pe_op op_sub (pe_ix ix_dd (pv 5) pe_int (fun _ _ => rfl)) pe_int) pa_nil))) (pa_cons (pe_k (k_L_draw T) hr (pa_cons (pv 0) (pa_cons pe_int pa_nil))) pa_nil))))) pss_nil) (pss_cons (ps_if (pt_cmpR (op_eq) (pv 6) pe_int (nomark _)) (pss_one (ps_set (i := 5) sc_L_cancel.nd rfl (by first | exact Or.inl rfl | exact Or.inr rfl) (pe_tup (pa_cons (pe_op op_add (pe_ix ix_dd (pv 5) pe_int (fun _ _ => rfl)) (pe_k (k_L_draw T) hr (pa_cons (pv 0) (pa_cons pe_int pa_nil)))) (pa_cons pe_int pa_nil))))) pss_nil) (pss_cons (ps_if (PW.pt (pw_and (pt_cmpR (op_eq) (pv 6) pe_int (nomark _)) (pw_and1 (pt_cmpR (op_gt) (pe_ix ix_dd (pv 5) pe_int (fun _ _ => rfl)) pe_int (nomark _))))) (pss_one (ps_set (i := 5) sc_L_cancel.nd rfl (by first | exact Or.inl rfl | exact Or.inr rfl) (pe_tup (pa_cons (pe_ix ix_dd (pv 5) pe_int (fun _ _ => rfl)) (pa_cons (pe_op op_sub (pe_ix ix_dd (pv 5) pe_int (fun _ _ => rfl)) pe_int) pa_nil))))) pss_nil) (pss_cons (ps_if (pt_cmpR (op_eq) (pv 6) pe_int (nomark _)) (pss_one (ps_set (i := 5) sc_L_cancel.nd rfl (by first | exact Or.inl rfl | exact Or.inr rfl) (pv 2))) pss_nil) (pss_one (ps_ret (pe_callB (cr_max2I rfl (hu_of2 hr)) (by rfl) T.z_max (by decide +kernel) (pa_cons (pv 5) (pa_cons (pv 2) pa_nil)))))))))))))))), ?_⟩
    refine rd_seq ?_
    refine rd_if ?_
    refine ⟨_, rfl, by decide, b0, fun r0 H1 p0 q0 k1 b1 => ⟨rfl, _, rfl, ?_⟩⟩
    have tk1 := b0.tk k1
    refine itB (fun _ => ?_) (fun _ => ?_)
    · exact r .non none H1 OB.none trivial k1 b1 rfl
    refine rd_next ?_
    dsimp only
    have hp1 := DD.mono tk1 _ _ hp
    have hs1 := hs.mono tk1
    refine rd_sa ?_
    refine ⟨_, rfl, by show 1 ≤ sizeLine; decide, fun a ha => ⟨_, rfl, ?_⟩⟩
    have ka : Kp none H1 (upd H1 a (.tup [.int 0])) := Kp.new ha
    refine ⟨t, [0], s, none, hp1.mk0 ka, hok, new_dd ha (.cons (.int 0) .nil), by decide, hs1.mk0 ka, rfl, trivial, fun v H2 k2 hv => ?_⟩
    have k12 := ka.trans k2
    refine ⟨_, _, _, hv, rfl, rfl, fun trv htr => ?_⟩
    have b2 := b1.keep0 k12
    obtain ⟨ta, xs, rfl, hq, hd⟩ := htr.sq
    have hxl := hd.len
    rw [List.length_map] at hxl
    have hpos : 1 ≤ ((den t).tr [0] s none).length := by rw [den_tr, List.length_cons]; omega
    refine rd_sa ?_
    refine ⟨_, rfl, _, rfl, _, rfl, ta, xs, rfl, .inr hq, by omega, b2, fun r3 H3 p3 q3 k3 b3 => ?_⟩
    have tk3 := b2.tk k3
    have htr3 := DD.mono tk3 _ _ htr
    have hn : r3.toNat < ((den t).tr [0] s none).length := by omega
    have hat : L2.atI (((den t).tr [0] s none).map eEntry) r3 = some (eEntry ((den t).tr [0] s none)[r3.toNat]) := by
      have e := L2.atI_nat (xs := ((den t).tr [0] s none).map eEntry) (j := r3.toNat) (v := eEntry ((den t).tr [0] s none)[r3.toNat]) (by simp [hn])
      rw [show ((r3.toNat : Nat) : Int) = r3 by omega] at e
      exact e
    have hent := tr_far 10 t hok.2.2.1 hok.1 1000000 [0] s none (by decide) hsb OB.none trivial _ (List.getElem_mem hn)
    generalize ((den t).tr [0] s none)[r3.toNat] = e at hat hent
    obtain ⟨hE1, hE2, _, _⟩ := hent
    refine ⟨_, _, _, htr3, rfl, hat, fun ev hev => ?_⟩
    have kk3 := (k1.trans k12.weak).trans k3
    have hs3 := (hs1.mk0 k12).mono tk3
    refine rd_sa ?_
    refine ⟨_, rfl, _, _, _, hev, rfl, rfl, fun av hav => ?_⟩
    refine rd_seq ?_
    refine can_0 b3 hev hav.ins hE2 hE1 (fun av4 i4 H4 hb4 k4 b4 h4 => ?_)
    have hs4 := hs3.mono (b3.tk k4)
    refine rd_sa ?_
    refine ⟨_, rfl, by decide, b4, fun kd H5 p5 q5 k5 b5 => ?_⟩
    have h5 := h4.mono (b4.tk k5)
    have hs5 := hs4.mono (b4.tk k5)
    have kk5 := (kk3.trans k4).trans k5
    have hT : (10 : Int) ≤ 1000000 + 2000 * (tcost t : Nat) := by omega
    refine rd_seq ?_
    refine can_1 b5 h5 hb4 (fun av6 i6 H6 hb6 k6 b6 h6 => ?_)
    have hs6 := hs5.mono (b5.tk k6)
    refine rd_seq ?_
    refine can_2 b6 h6 (by omega) hb6 (fun av7 i7 H7 hb7 k7 b7 h7 => ?_)
    have hs7 := hs6.mono (b6.tk k7)
    refine rd_seq ?_
    refine can_3 b7 h7 (by omega) hb7 (fun av8 i8 H8 hb8 k8 b8 h8 => ?_)
    have hs8 := hs7.mono (b7.tk k8)
    refine rd_seq ?_
    refine can_4 b8 h8 hb8 (fun av9 i9 H9 hb9 k9 b9 h9 => ?_)
    have hs9 := hs8.mono (b8.tk k9)
    refine rd_seq ?_
    refine can_5 b9 h9 hb9 hs9 (hsb.mono (by omega)) (fun av10 i10 H10 hb10 k10 b10 h10 => ?_)
    have hs10 := hs9.mono (b9.tk k10)
    have kkk := kk5.trans (((k6.trans k7).trans (k8.trans k9)).trans k10)
    refine ⟨_, rfl, _, rfl, av10, sv, i10, s, rfl, h10, hs10, ?_⟩
    cases hl : ilt i10 s with
    | true => exact r sv (some s) H10 (OB.some (hsb.mono (by omega))) (Le.refl s) kkk b10 hs10
    | false => exact r av10 (some i10) H10 (OB.some (hb10.mono (by omega))) (ilt_false.mp hl) kkk b10 h10)
end
end Asf
set_option Elab.async false
set_option linter.all false
set_option maxRecDepth 100000
set_option maxHeartbeats 4000000
namespace Asf
open PySem PySem.Spec PyProof.Rows L2
theorem hu_of64 {A : Around} {k : Nat} (hr : Room k A) : A.units + 64 < cLine := hr.units
/-- a def whose callers say that no repr is under way: from its text -/
theorem okG {P : Program} {w : World} {K : PySem.W.Frag} {mg : Str → Option Value} {base : Heap} {x q : Str} {st : Stmt} {f : Addr} {fd : FuncData} {N ps : List Str} {k : Nat} {sp : Sp} (F : FnP K x q st f fd) (S : FnScope N ps (defScope st)) (len : ∀ vs H Q E, sp vs H Q E → vs.length = ps.length)
    (hbody : ∀ (cdv : Value) (A : Around) (outer : List Env) (s : Shared) (H : Hp) (vs : List V) (Q : VK) (E : XK), Room k (A.deeper (envOfC q (defScope st) s.heap.objs.size f cdv)) → (A.deeper (envOfC q (defScope st) s.heap.objs.size f cdv)).guards = some [] → sp vs H Q E →
      ∃ t, PSs (cxOf CX0 P w K mg base N q (defScope st) f cdv A outer s H E).nox (defBody st) t ∧ t { nx := fun _ H' => Q .non H', rt := Q } (start N vs) H) : FnG P w K mg base (k + 1) f fd ps sp := by
  obtain ⟨oc, od, dV, kV, doc, pm, an, cdv, ct, osl, rfl, lk, hcd, _, _⟩ := F.ex
  refine fn_ofG lk hcd S len fun A outer s H vs Q E hr hgu hsp => ?_
  obtain ⟨t, h1, h2⟩ := hbody cdv A outer s H vs Q E hr hgu hsp
  exact ⟨t, h1.nox, h2⟩
structure CalG (P : Program) (w : World) (K : PySem.W.Frag) (mg : Str → Option Value) (base : Heap) (k : Nat) (x : Str) (f : Addr) (ps : List Str) (sp : Sp) : Prop where
  F : FnG P w K mg base k f (fdAt K f) ps sp
  g : mg x = some (.ref f)
  kp : PySem.W.keepIn K (.ref f) = true
  b : Binds K (fdAt K f) ps []
theorem pe_kG {X : Cx} {k j : Nat} {f : Addr} {ps : List Str} {sp : Sp} {x : Str} {p pos : Pos} {e : Expr} {es : List Expr} {t : TA} (C : CalG X.prog X.w X.K X.mg X.base k x f ps sp) (hr : Room j X.A) (hgu : X.A.guards = some []) (ha : PA X (e :: es) t) (hkj : k ≤ j := by decide) (hg : Gl X x := by rfl) (hdb : (x == ("__debug__" : Str)) = false := by decide)
    (he : starEach (e :: es) X.env = (false, eval e X.env) :: starEach es X.env := by rfl) (hpl : (backTo pos (starEach es X.env)).any (·.1) = false := by rfl) : PE X (.Call (.Name x p) (e :: es) [] pos) (tK sp t) :=
  PE.of_eq (pe_callG C.F (hr.mono hkj) hgu hg C.g C.kp C.b ha hdb he hpl) (by unfold tCall tK; simp only [List.append_nil])
def Shw (d : PyData) : Prop := d.showable = true ∧ d.hasDict = false ∧ d.depth ≤ 60 ∧ d.shown.length ≤ sizeLine
section
variable {P : Program} {w : World} {K : PySem.W.Frag} {mg : Str → Option Value} {base : Heap}
def sp_alike (K : PySem.W.Frag) : Sp := fun vs H Q E => match vs with
  | [x, y] => ∃ ds, DD K H x (.tuple ds) ∧ DD K H y (.tuple ds) ∧ Shw (.tuple ds) ∧ Q (.bl true) H
  | _ => False
theorem k_L_alike (T : Txt K mg) : CalG P w K mg base 1 "_law_alike" (He.ga K "_law_alike") ["_law_one", "_law_two"] (sp_alike K) :=
  ⟨okG T.d_L_alike sc_L_alike (fun vs H Q E h => match vs, h with | [_, _], _ => rfl) fun cdv A outer s H vs Q E hr hgu h => match vs, h with
  | [x, y], h => by
    obtain ⟨ds, hx, hy, ⟨h1, h2, h3, h4⟩, q⟩ := h
    refine ⟨_, (pss_one (ps_ret (pe_cmpR (op_eq) (pe_callB (cr_repr hgu (hu_of64 hr)) (by rfl) T.z_repr (by decide +kernel) (pa_cons (pv 0) pa_nil)) (pe_callB (cr_repr hgu (hu_of64 hr)) (by rfl) T.z_repr (by decide +kernel) (pa_cons (pv 1) pa_nil)) (nomark _)))), ?_⟩
    obtain ⟨a, _, rfl, _⟩ := hx.sq
    obtain ⟨b, _, rfl, _⟩ := hy.sq
    refine ⟨_, rfl, a, _, rfl, hx, h1, h2, h3, h4, _, rfl, b, _, rfl, hy, h1, h2, h3, h4, rfl, ?_⟩
    rw [decide_eq_true rfl]
    exact q, T.g_L_alike, T.d_L_alike.kp, b_L_alike T⟩
end
end Asf
set_option linter.all false
namespace Asf
open PySem PySem.Spec PyProof.Rows L2
theorem tr_path : ∀ (d : Nat) (u : T), depth u ≤ d → WF u → ∀ (pa : Path) (s : Ins) (c : Option Ins), OLe s c → (∀ x ∈ pa, 0 ≤ x ∧ x ≤ 100) → ∀ e ∈ (den u).tr pa s c, ∀ x ∈ e.path, 0 ≤ x ∧ x ≤ 100
  | 0, u, h, _, _, _, _, _, _ => by have := depth_pos u; omega
  | d + 1, u, h, w, pa, s, c, ho, hpa => by
    obtain ⟨h1, _⟩ := parts_ok w ho
    have hnum := parts_num w s c
    rw [den_tr]
    intro e he
    rcases List.mem_cons.mp he with rfl | he
    · exact hpa
    · obtain ⟨p, hp, hpe⟩ := List.mem_flatMap.mp he
      obtain ⟨⟨q, hq⟩, hb⟩ := h1 p hp
      obtain ⟨n1, n2⟩ := hnum p hp
      have hqm := List.mem_of_getElem? hq
      have hdq := kid_depth hqm
      have hpa2 : ∀ x ∈ pa ++ [(p.scope : Int), (p.part : Int)], 0 ≤ x ∧ x ≤ 100 := fun x hx => by
        rcases List.mem_append.mp hx with hx | hx
        · exact hpa x hx
        · simp only [List.mem_cons, List.not_mem_nil, or_false] at hx
          rcases hx with rfl | rfl <;> omega
      cases eb : p.beg with
      | none =>
        rw [rowOf_none eb] at hpe
        rw [List.mem_singleton.mp hpe]
        exact hpa2
      | some g =>
        rw [eb] at hb
        rw [rowOf_some eb hq] at hpe
        exact tr_path d q (by omega) (kid_wf w hqm) _ g p.lim hb hpa2 e hpe
/-- data that is shown in few signs -/
def Nice (W D : Nat) (d : PyData) : Prop := d.showable = true ∧ d.hasDict = false ∧ d.depth ≤ D ∧ d.leavesShort 19 = true ∧ d.weight ≤ W
theorem nice_all : ∀ {ds : List PyData} {W D : Nat}, (∀ d ∈ ds, Nice W D d) → PyData.showableAll ds = true ∧ PyData.hasDictAll ds = false ∧ PyData.depthAll ds ≤ D ∧ PyData.leavesShortAll 19 ds = true ∧ PyData.weightAll ds ≤ ds.length * (W + 1)
  | [], W, D, _ => ⟨rfl, rfl, by simp [PyData.depthAll], rfl, by simp [PyData.weightAll]⟩
  | d :: ds, W, D, h => by
    obtain ⟨a1, a2, a3, a4, a5⟩ := h d List.mem_cons_self
    obtain ⟨b1, b2, b3, b4, b5⟩ := nice_all (fun x hx => h x (List.mem_cons_of_mem _ hx))
    refine ⟨by simp [PyData.showableAll, a1, b1], by simp [PyData.hasDictAll, a2, b2], by simp only [PyData.depthAll]; omega, by simp [PyData.leavesShortAll, a4, b4], ?_⟩
    simp only [PyData.weightAll, List.length_cons, Nat.add_mul, Nat.one_mul]
    omega
theorem nice_tup {ds : List PyData} {W D : Nat} (h : ∀ d ∈ ds, Nice W D d) : Nice (ds.length * (W + 1)) (D + 1) (.tuple ds) := by
  obtain ⟨b1, b2, b3, b4, b5⟩ := nice_all h
  refine ⟨by simp [PyData.showable, b1], by simp [PyData.hasDict, b2], by simp only [PyData.depth]; omega, by simp [PyData.leavesShort, b4], by simpa [PyData.weight] using b5⟩
theorem Nice.mono {W D W' D' : Nat} {d : PyData} (h : Nice W D d) (hw : W ≤ W') (hd : D ≤ D') : Nice W' D' d := ⟨h.1, h.2.1, Nat.le_trans h.2.2.1 hd, h.2.2.2.1, Nat.le_trans h.2.2.2.2 hw⟩
theorem nice_none : Nice 0 0 .none := ⟨rfl, rfl, by simp [PyData.depth], rfl, by simp [PyData.weight]⟩
theorem log_lt {n k : Nat} (hk : 0 < k) (h : n < 2 ^ k) : n.log2 < k := by
  by_cases h0 : n = 0
  · subst h0
    simpa using hk
  · exact (Nat.log2_lt h0).mpr h
theorem nice_int {i : Int} {k : Nat} (hk : 0 < k) (hk2 : k ≤ 39) (h0 : 0 ≤ i) (h1 : i < (2 ^ k : Nat)) : Nice k 0 (.int i) := by
  have hn : i.natAbs < 2 ^ k := by omega
  have hl := log_lt hk hn
  have h12 : i.natAbs < 10 ^ 12 := Nat.lt_of_lt_of_le hn (Nat.le_trans (Nat.pow_le_pow_right (by decide) hk2) (by decide))
  have hs := PyData.shown_int_le h12
  refine ⟨by simp only [PyData.showable, decide_eq_true_eq]; omega, rfl, by simp [PyData.depth], by simp only [PyData.leavesShort, decide_eq_true_eq]; omega, ?_⟩
  simp only [PyData.weight]
  split <;> omega
theorem nice_ins {i : Ins} {M : Int} (h : InB M i) (hM : M ≤ 1000000000) : Nice 62 1 (eI i) := by
  have a := nice_int (i := i.1) (k := 30) (by decide) (by decide) h.1 (by have := h.2.1; omega)
  have b := nice_int (i := i.2) (k := 30) (by decide) (by decide) h.2.2.1 (by have := h.2.2.2; omega)
  have := nice_tup (ds := [.int i.1, .int i.2]) (W := 30) (D := 0) (by
    intro d hd
    simp only [List.mem_cons, List.not_mem_nil, or_false] at hd
    rcases hd with rfl | rfl
    · exact a
    · exact b)
  exact this
theorem nice_oc (o : Oc) : Nice 17 0 (.str (ocS o)) := by
  cases o <;> exact ⟨rfl, rfl, by simp [PyData.depth], by simp only [PyData.leavesShort, ocS]; decide +kernel, by simp only [PyData.weight, ocS]; decide +kernel⟩
theorem nice_dl : Nice 17 0 (.str "deadline exceeded") := ⟨rfl, rfl, by simp [PyData.depth], by simp only [PyData.leavesShort]; decide +kernel, by simp only [PyData.weight]; decide +kernel⟩
/-- an error or a value within its bounds -/
def ErB : Er → Prop
  | .num i => 0 ≤ i ∧ i ≤ 1000
  | .dl => True
theorem nice_er {e : Er} (h : ErB e) : Nice 17 0 (eEr e) := by
  cases e with
  | num i => exact (nice_int (k := 10) (by decide) (by decide) h.1 (by have := h.2; omega)).mono (by decide) (by decide)
  | dl => exact nice_dl
theorem nice_res {l : List Er} (h : ∀ e ∈ l, ErB e) (hl : l.length ≤ 22) : Nice 396 1 (eRes l) := by
  have := nice_tup (ds := l.map eEr) (W := 17) (D := 0) (by
    intro d hd
    obtain ⟨e, he, rfl⟩ := List.mem_map.mp hd
    exact nice_er (h e he))
  refine this.mono ?_ (by decide)
  rw [List.length_map]
  omega
theorem nice_path {p : Path} (h : ∀ x ∈ p, 0 ≤ x ∧ x ≤ 100) (hl : p.length ≤ 25) : Nice 200 1 (ePath p) := by
  have := nice_tup (ds := p.map .int) (W := 7) (D := 0) (by
    intro d hd
    obtain ⟨e, he, rfl⟩ := List.mem_map.mp hd
    exact nice_int (k := 7) (by decide) (by decide) (h e he).1 (by have := (h e he).2; omega))
  refine this.mono ?_ (by decide)
  rw [List.length_map]
  omega
theorem nice_oi {c : Option Ins} {M : Int} (h : OB M c) (hM : M ≤ 1000000000) : Nice 62 1 (eO c) := by
  cases c with
  | none => exact nice_none.mono (by decide) (by decide)
  | some i => exact nice_ins (h i rfl) hM
theorem nice_entry {e : Entry} {M : Int} (h1 : OB M e.start) (h2 : InB M e.en.en) (hM : M ≤ 1000000000) (h3 : e.path.length ≤ 25) (h4 : ∀ x ∈ e.path, 0 ≤ x ∧ x ≤ 100) (h5 : ∀ x ∈ e.en.res, ErB x) (h6 : e.en.res.length ≤ 22) : Nice 2000 2 (eEntry e) := by
  have := nice_tup (ds := [ePath e.path, eO e.start, eI e.en.en, .str (ocS e.en.oc), eRes e.en.res]) (W := 396) (D := 1) (by
    intro d hd
    simp only [List.mem_cons, List.not_mem_nil, or_false] at hd
    rcases hd with rfl | rfl | rfl | rfl | rfl
    · exact (nice_path h4 h3).mono (by decide) (by decide)
    · exact (nice_oi h1 hM).mono (by decide) (by decide)
    · exact (nice_ins h2 hM).mono (by decide) (by decide)
    · exact (nice_oc _).mono (by decide) (by decide)
    · exact nice_res h5 h6)
  exact this.mono (by show 5 * (396 + 1) ≤ 2000; decide) (by decide)
/-! ### the values within their bounds -/
def RB (l : List Er) : Prop := ∀ x ∈ l, ErB x
theorem rb_nil : RB [] := fun x h => by cases h
theorem rb_flat {es : List End} (h : ∀ e ∈ es, RB e.res) : RB (es.flatMap (·.res)) := fun x hx => by
  obtain ⟨e, he, hxe⟩ := List.mem_flatMap.mp hx
  exact h e he x hxe
theorem rb_errors {es : List End} (h : ∀ e ∈ es, RB e.res) : RB (errorsOf es) := fun x hx => by
  unfold errorsOf at hx
  obtain ⟨e, he, hxe⟩ := List.mem_flatMap.mp hx
  split at hxe
  · exact h e he x hxe
  · cases hxe
theorem rb_all {es : List End} (h : ∀ e ∈ es, RB e.res) : RB (allValues es).2 := by
  unfold allValues
  split
  · exact rb_flat h
  · exact rb_nil
theorem rb_firstGo : ∀ (es : List End) (f : Option End), (∀ g, f = some g → RB g.res) → (∀ e ∈ es, RB e.res) → ∀ g, firstGo f es = some g → RB g.res
  | [], f, h1, h2, g, h => h1 g h
  | e :: es, f, h1, h2, g, h => by
    rw [firstGo_step] at h
    refine rb_firstGo es _ ?_ (fun x hx => h2 x (List.mem_cons_of_mem _ hx)) g h
    intro x hx
    by_cases q : e.oc = .com
    · rw [if_pos q] at hx
      cases f with
      | none =>
        obtain rfl := Option.some.inj hx
        exact h2 e List.mem_cons_self
      | some y =>
        dsimp only at hx
        split at hx
        · obtain rfl := Option.some.inj hx
          exact h2 e List.mem_cons_self
        · exact h1 x hx
    · rw [if_neg q] at hx
      exact h1 x hx
theorem rb_first {es : List End} (h : ∀ e ∈ es, RB e.res) : RB (firstValue es).2 := by
  unfold firstValue
  cases q : firstGo none es with
  | none => exact rb_nil
  | some f => exact rb_firstGo es none (by simp) h f q
theorem rb_together {s : Ins} {c : Option Ins} {es ct : List End} {told : Oc × List Er} (h1 : ∀ e ∈ ct, RB e.res) (h2 : RB told.2) : RB (together s c es ct told).res := by
  unfold together
  split
  · exact rb_errors h1
  · split
    · exact rb_nil
    · exact h2
end Asf
set_option linter.all false
namespace Asf
open PySem PySem.Spec PyProof.Rows L2
theorem rb_pool : ∀ (ts : List T), (∀ t ∈ ts, ∀ s c, RB ((den t).fin s c).res) → ∀ (n : Int) (s : Ins) (c : Option Ins) (k : Nat) (comp : List Ins), ∀ r ∈ poolRes n s c k comp (denL ts), RB (endOr s r).res
  | [], _, n, s, c, k, comp, r, hr => by cases hr
  | t :: ts, h, n, s, c, k, comp, r, hr => by
    rw [denL, poolRes] at hr
    rcases List.mem_cons.mp hr with rfl | hr
    · unfold poolOne
      have z : RB (endOr s ((none : Option Ins), c.map fun x => (⟨nexti x, .can, []⟩ : End))).res := by
        unfold endOr
        cases c <;> exact rb_nil
      cases beginOf n s k comp with
      | none => exact z
      | some g =>
        dsimp only
        split
        · exact h t List.mem_cons_self g c
        · exact z
    · exact rb_pool ts (fun x hx => h x (List.mem_cons_of_mem _ hx)) n s c (k + 1) _ r hr
theorem rb_seq (c : Option Ins) : ∀ (ts : List T), (∀ t ∈ ts, ∀ s c, RB ((den t).fin s c).res) → ∀ (k : Nat) (told : End), RB told.res → RB (seqGo c k told (denL ts)).1.res
  | [], _, k, told, h => h
  | t :: ts, h, k, told, h0 => by
    rw [denL, seqGo]
    split
    · exact rb_seq c ts (fun x hx => h x (List.mem_cons_of_mem _ hx)) _ _ (h t List.mem_cons_self _ _)
    · exact h t List.mem_cons_self _ _
theorem rb_retry (b : Beh) (d : Int) (c : Option Ins) (h : ∀ s c, RB (b.fin s c).res) : ∀ (left run : Nat) (s : Ins), RB (retryGo b d c left run s).1.res
  | 0, run, s => h s c
  | left + 1, run, s => by
    rw [retryGo]
    split
    · split
      · split
        · exact rb_retry b d c h left _ _
        · exact rb_nil
      · exact rb_nil
    · exact h s c
mutual
theorem rb : ∀ (t : T), WF t → ∀ (s : Ins) (c : Option Ins), RB ((den t).fin s c).res
  | .job d g v cl f, w, s, c => by
    show RB ((den (.job d g v cl f)).crs s c).1.res
    rw [crs_job]
    unfold jobEnd
    split
    · intro x hx
      rw [List.mem_singleton.mp hx]
      exact w.2.1
    · cases hf : f with
      | none => exact rb_nil
      | some z =>
        intro x hx
        rw [List.mem_singleton.mp hx]
        exact w.2.2.2 z hf
  | .scope k ps, w, s, c => by
    show RB ((den (.scope k ps)).crs s c).1.res
    rw [crs_scope]
    show RB (scopeEnd k (denL ps) s c).res
    unfold scopeEnd
    have h : ∀ lim, ∀ e ∈ (denL ps).map (fun b => b.fin s lim), RB e.res := fun lim e he => by
      rw [denL_eq, List.map_map] at he
      obtain ⟨t, ht, rfl⟩ := List.mem_map.mp he
      exact rbL ps w.2.2 t ht s lim
    refine rb_together ?_ ?_
    · unfold countedOf
      split
      · intro e he
        exact h _ e (List.mem_filter.mp he).1
      · exact h _
    · unfold toldOf
      split
      · exact rb_all (h _)
      · exact rb_first (h _)
  | .pool n ps, w, s, c => by
    show RB ((den (.pool n ps)).crs s c).1.res
    rw [crs_pool]
    show RB (poolEnd n (denL ps) s c).res
    unfold poolEnd
    have h : ∀ e ∈ (poolRes n s (poolLim n (denL ps) s c) 0 [] (denL ps)).map (endOr s), RB e.res := fun e he => by
      obtain ⟨r, hr, rfl⟩ := List.mem_map.mp he
      exact rb_pool ps (fun t ht s c => rbL ps w.2.2.2 t ht s c) n s _ 0 [] r hr
    exact rb_together h (rb_all h)
  | .seq ps, w, s, c => by
    show RB ((den (.seq ps)).crs s c).1.res
    rw [crs_seq]
    exact rb_seq c ps (fun t ht s c => rbL ps w.2.2 t ht s c) 0 _ rb_nil
  | .timeout k p, w, s, c => by
    show RB ((den (.timeout k p)).crs s c).1.res
    rw [crs_timeout]
    show RB (timeoutEnd k (den p) s c).res
    unfold timeoutEnd timeoutFin
    have h := rb p w.2 s (earliest c (some (later s k)))
    have he : RB (errorsOf [(den p).fin s (earliest c (some (later s k)))]) := rb_errors fun e he => by rw [List.mem_singleton.mp he]; exact h
    split
    · exact h
    · unfold lateEnd
      split
      · exact rb_nil
      · unfold timeoutEr
        split
        · intro x hx
          rcases List.mem_cons.mp hx with rfl | hx
          · exact trivial
          · exact he x hx
        · exact he
  | .orelse p q, w, s, c => by
    show RB ((den (.orelse p q)).crs s c).1.res
    rw [crs_orelse]
    unfold orelseCrs
    split
    · split
      · exact rb q w.2 _ c
      · exact rb_nil
    · exact rb p w.1 s c
  | .retry n d p, w, s, c => by
    show RB ((den (.retry n d p)).crs s c).1.res
    rw [crs_retry]
    exact rb_retry (den p) d c (fun s c => rb p w.2.2 s c) n 0 s
theorem rbL : ∀ (ts : List T), WFL ts → ∀ t ∈ ts, ∀ s c, RB ((den t).fin s c).res
  | [], _, t, h, _, _ => by cases h
  | p :: ps, w, t, h, s, c => by
    rcases List.mem_cons.mp h with e | h
    · rw [e]; exact rb p w.1 s c
    · exact rbL ps w.2 t h s c
end
end Asf
set_option linter.all false
namespace Asf
open PySem PySem.Spec PyProof.Rows L2
theorem tr_rb : ∀ (d : Nat) (u : T), depth u ≤ d → WF u → ∀ (pa : Path) (s : Ins) (c : Option Ins), OLe s c → ∀ e ∈ (den u).tr pa s c, RB e.en.res
  | 0, u, h, _, _, _, _, _ => by have := depth_pos u; omega
  | d + 1, u, h, w, pa, s, c, ho => by
    obtain ⟨h1, _⟩ := parts_ok w ho
    rw [den_tr]
    intro e he
    rcases List.mem_cons.mp he with rfl | he
    · exact rb u w s c
    · obtain ⟨p, hp, hpe⟩ := List.mem_flatMap.mp he
      obtain ⟨⟨q, hq⟩, hb⟩ := h1 p hp
      have hqm := List.mem_of_getElem? hq
      have hdq := kid_depth hqm
      cases eb : p.beg with
      | none =>
        rw [rowOf_none eb] at hpe
        rw [List.mem_singleton.mp hpe]
        exact rb_nil
      | some g =>
        rw [eb] at hb
        rw [rowOf_some eb hq] at hpe
        exact tr_rb d q (by omega) (kid_wf w hqm) _ g p.lim hb e hpe
theorem small_ok {t : T} (hw : WF t) (hd : depth t ≤ 8) (hr : runs t ≤ 58) (hz : size t ≤ 22) : cost t ≤ 15000 ∧ tcost t ≤ 120000 := by
  have h1 := cost_le t hw
  have h2 := tcost_le t hw
  have e1 : 2 ^ depth t * runs t ≤ 2 ^ 8 * 58 := Nat.mul_le_mul (Nat.pow_le_pow_right (by decide) hd) hr
  have e2 : depth t * (2 ^ depth t * runs t) ≤ 8 * (2 ^ 8 * 58) := Nat.mul_le_mul hd e1
  have e3 : 2 ^ 8 * 58 = 14848 := by decide
  omega
theorem Nice.shw {W D : Nat} {d : PyData} (h : Nice W D d) (hW : W ≤ 700000) (hD : D ≤ 60) : Shw d := by
  obtain ⟨h1, h2, h3, h4, h5⟩ := h
  have h6 := PyData.shown_le 19 (by decide) d h4
  refine ⟨h1, h2, by omega, ?_⟩
  show d.shown.length ≤ 16777216
  omega
theorem four {a b c d : PyData} {P : PyData → Prop} (ha : P a) (hb : P b) (hc : P c) (hd : P d) : ∀ x ∈ [a, b, c, d], P x := fun x hx => by
  simp only [List.mem_cons, List.not_mem_nil, or_false] at hx
  rcases hx with rfl | rfl | rfl | rfl
  · exact ha
  · exact hb
  · exact hc
  · exact hd
theorem nice_entry1 {e : Entry} {M : Int} (h1 : OB M e.start) (h2 : InB M e.en.en) (hM : M ≤ 1000000000) (h3 : e.path.length ≤ 25) (h4 : ∀ x ∈ e.path, 0 ≤ x ∧ x ≤ 100) (h5 : ∀ x ∈ e.en.res, ErB x) (h6 : e.en.res.length ≤ 22) : Nice 1300 2 (eEntry e) := by
  obtain ⟨a1, a2, a3, a4, _⟩ := nice_entry h1 h2 hM h3 h4 h5 h6
  refine ⟨a1, a2, a3, a4, ?_⟩
  have w1 := (nice_path h4 h3).2.2.2.2
  have w2 := (nice_oi h1 hM).2.2.2.2
  have w3 := (nice_ins h2 hM).2.2.2.2
  have w4 := (nice_oc e.en.oc).2.2.2.2
  have w5 := (nice_res h5 h6).2.2.2.2
  have e0 : (eEntry e).weight = PyData.weightAll [ePath e.path, eO e.start, eI e.en.en, .str (ocS e.en.oc), eRes e.en.res] := by rw [PyData.weight]
  rw [e0]
  simp only [PyData.weightAll]
  omega
theorem shw_end {t : T} (hw : WF t) (hd : depth t ≤ 8) (hr : runs t ≤ 58) (hz : size t ≤ 22) {s : Ins} {c : Option Ins} (hs : InB 1000000 s) (hc : OB 400000000 c) (ho : OLe s c) : Shw (eEnd ((den t).fin s c)) := by
  obtain ⟨h1, h2⟩ := small_ok hw hd hr hz
  have hf := far t hw 400000000 s c (by decide) (hs.mono (by decide)) hc
  have hi := nice_ins hf (by omega)
  have hres := nice_res (rb t hw s c) (Nat.le_trans (res_le t s c) hz)
  have := nice_tup (ds := eEndL ((den t).fin s c)) (W := 396) (D := 1) (by
    intro d hd
    simp only [List.mem_cons, List.not_mem_nil, or_false] at hd
    rcases hd with rfl | rfl | rfl
    · exact hi.mono (by decide) (by decide)
    · exact (nice_oc _).mono (by decide) (by decide)
    · exact hres)
  exact this.shw (by show 3 * (396 + 1) ≤ 700000; decide) (by decide)
theorem shw_pred {t : T} (hw : WF t) (hd : depth t ≤ 8) (hr : runs t ≤ 58) (hz : size t ≤ 22) {pa : Path} (hl : pa.length ≤ 3) (hp : ∀ x ∈ pa, 0 ≤ x ∧ x ≤ 100) {s : Ins} {c : Option Ins} (hs : InB 1000000 s) (hc : OB 400000000 c) (ho : OLe s c) : Shw (ePred ((den t).fin s c) ((den t).tr pa s c)) := by
  obtain ⟨h1, h2⟩ := small_ok hw hd hr hz
  have hf := far t hw 400000000 s c (by decide) (hs.mono (by decide)) hc
  have hi := nice_ins hf (by omega)
  have hres := nice_res (rb t hw s c) (Nat.le_trans (res_le t s c) hz)
  have hec : ((den t).tr pa s c).length ≤ 464 := Nat.le_trans (tr_ec (depth t) t (Nat.le_refl _) hw pa s c ho) (Nat.le_trans (ec_le t hw) (Nat.mul_le_mul hd hr))
  have htr := nice_tup (ds := ((den t).tr pa s c).map eEntry) (W := 1300) (D := 2) (by
    intro d hd'
    obtain ⟨e, he, rfl⟩ := List.mem_map.mp hd'
    obtain ⟨x1, x2, x3, x4⟩ := tr_far 8 t hd hw 400000000 pa s c (by decide) (hs.mono (by decide)) hc ho e he
    have x5 := tr_path 8 t hd hw pa s c ho hp e he
    have x6 := tr_rb 8 t hd hw pa s c ho e he
    exact nice_entry1 x1 x2 (by omega) (by omega) x5 x6 (by omega))
  have hW : (((den t).tr pa s c).map eEntry).length * (1300 + 1) ≤ 464 * 1301 := by
    rw [List.length_map]
    exact Nat.mul_le_mul_right _ hec
  have htr2 := htr.mono (Nat.le_trans hW (by decide : 464 * 1301 ≤ 604000)) (Nat.le_refl _)
  have all := nice_all (ds := [eI ((den t).fin s c).en, .str (ocS ((den t).fin s c).oc), eRes ((den t).fin s c).res, .tuple (((den t).tr pa s c).map eEntry)]) (W := 604000) (D := 3)
    (four (P := Nice 604000 3) (hi.mono (by decide) (by decide)) ((nice_oc _).mono (by decide) (by decide)) (hres.mono (by decide) (by decide)) htr2)
  obtain ⟨b1, b2, b3, b4, _⟩ := all
  have w1 := hi.2.2.2.2
  have w2 := (nice_oc ((den t).fin s c).oc).2.2.2.2
  have w3 := hres.2.2.2.2
  have w4 := htr2.2.2.2.2
  have n : Nice 700000 4 (ePred ((den t).fin s c) ((den t).tr pa s c)) := by
    refine ⟨by simp only [PyData.showable]; exact b1, by simp only [PyData.hasDict]; exact b2, by simp only [PyData.depth]; omega, by simp only [PyData.leavesShort]; exact b4, ?_⟩
    have e0 : (ePred ((den t).fin s c) ((den t).tr pa s c)).weight = PyData.weightAll [eI ((den t).fin s c).en, .str (ocS ((den t).fin s c).oc), eRes ((den t).fin s c).res, .tuple (((den t).tr pa s c).map eEntry)] := by rw [PyData.weight]
    rw [e0]
    simp only [PyData.weightAll]
    omega
  exact n.shw (by decide) (by decide)
end Asf
set_option Elab.async false
set_option linter.all false
set_option maxRecDepth 100000
set_option maxHeartbeats 4000000
namespace Asf
open PySem PySem.Spec PyProof.Rows L2
section
variable {P : Program} {w : World} {K : PySem.W.Frag} {mg : Str → Option Value} {base : Heap}
def sp_law (K : PySem.W.Frag) : Sp := fun vs H Q E => match vs with
  | [.ref a] => ∃ ns : List Int, SqL K H a (ns.map V.int) ∧ ∀ H', Q (.bl true) H'
  | _ => False
theorem law_path {u : TS} {D : Ends} {v0 v2 v3 v4 v5 : V} {B : Addr} {x6 x7 : Option V} {H : Hp} (b4 : BoxAt H B) (r : ∀ pav pa H', Kp (some B) H H' → BoxAt H' B → DD K H' pav (ePath pa) → pa.length ≤ 3 → (∀ x ∈ pa, 0 ≤ x ∧ x ≤ 100) → u D [some v0, some (.ref B), some v2, some v3, some v4, some v5, some pav, x7] H') :
    tSeq (tAsg (tOp (rCatD K) (tTup (tCons (tK (sp_draw K) (tCons (tVar 1) (tCons (tC (.int 8)) tNil))) tNil)) (tOp (rRepS K) (tTup (tCons (tC (.int 1)) (tCons (tK (sp_draw K) (tCons (tVar 1) (tCons (tC (.int 6)) tNil))) tNil))) (tK (sp_draw K) (tCons (tVar 1) (tCons (tC (.int 2)) tNil))))) (gName 6)) u D [some v0, some (.ref B), some v2, some v3, some v4, some v5, x6, x7] H := by
  refine rd_sa ?_
  refine ⟨_, rfl, by decide, b4, fun r1 H5 p1 q1 k5 b5 => ⟨by show 1 ≤ sizeLine; decide, fun t1 ht1 => ?_⟩⟩
  have k6 : Kp none H5 (upd H5 t1 (.tup [.int r1])) := Kp.new ht1
  have d1 := new_dd (K := K) ht1 (.cons (.int r1) .nil)
  have b6 := b5.keep0 k6
  refine ⟨_, rfl, by decide, b6, fun r2 H6 p2 q2 k7 b7 => ⟨by show 2 ≤ sizeLine; decide, fun t2 ht2 => ?_⟩⟩
  have k8 : Kp none H6 (upd H6 t2 (.tup [.int 1, .int r2])) := Kp.new ht2
  have d2 := new_dd (K := K) ht2 (.cons (.int 1) (.cons (.int r2) .nil))
  have b8 := b7.keep0 k8
  refine ⟨_, rfl, by decide, b8, fun r3 H7 p3 q3 k9 b9 => ?_⟩
  have tk9 := b8.tk k9
  have d1' := DD.mono tk9 _ _ ((DD.mono (b6.tk k7) _ _ d1).mk0 k8)
  have d2' := DD.mono tk9 _ _ d2
  have k59 := ((k5.trans k6.weak).trans k7).trans (k8.weak.trans k9)
  have ht2' : H7 t2 = some (.tup [.int 1, .int r2]) := tk9 _ _ upd_same
  have h01 : r3 = 1 ∨ r3 = 0 := by omega
  rcases h01 with rfl | rfl
  · refine ⟨t2, 1, _, rfl, rfl, SqT.of ht2', by simp, .inl ⟨rfl, ?_⟩⟩
    refine ⟨_, _, d1', d2', by show 1 + 2 ≤ sizeLine; decide, fun pav H8 k10 hpa => ?_⟩
    refine r pav [r1, 1, r2] H8 (k59.trans k10.weak) (b9.keep0 k10) hpa (by show 3 ≤ 3; decide) ?_
    intro x hx
    simp only [List.mem_cons, List.not_mem_nil, or_false] at hx
    rcases hx with rfl | rfl | rfl <;> omega
  · refine ⟨t2, 0, _, rfl, rfl, SqT.of ht2', by simp, .inr ⟨rfl, fun p hp => ?_⟩⟩
    have k10 : Kp none H7 (upd H7 p (.tup [])) := Kp.new hp
    refine ⟨_, _, d1'.mk0 k10, new_dd hp .nil, by show 1 + 0 ≤ sizeLine; decide, fun pav H8 k11 hpa => ?_⟩
    have k12 := k10.trans k11
    refine r pav [r1] H8 (k59.trans k12.weak) (b9.keep0 k12) hpa (by show 1 ≤ 3; decide) ?_
    intro x hx
    rw [List.mem_singleton.mp hx]
    omega
theorem k_law (T : Txt K mg) : FnG P w K mg base 60 (He.ga K "law") (fdAt K (He.ga K "law")) ["_law_script"] (sp_law K) :=
  okG T.d_law sc_law (fun vs H Q E h => match vs, h with | [.ref _], _ => rfl) fun cdv A outer s0 H vs Q E hr hgu h => match vs, h with
  | [.ref a], h => by
    obtain ⟨ns, hx, r⟩ := h
    refine ⟨_, (pss_cons (ps_set (i := 1) sc_law.nd rfl (by first | exact Or.inl rfl | exact Or.inr rfl) (pe_lst (pa_cons (pe_k (k_L_digits T) hr (pa_cons (pv 0) (pa_cons pe_int (pa_cons pe_int pa_nil)))) (pa_cons pe_int pa_nil)))) (pss_cons (ps_for PassesOwn.never rfl (pi_range1 rfl T.z_range (pa_cons pe_int pa_nil)) (pg_name (i := 2) sc_law.nd rfl (by first | exact Or.inl rfl | exact Or.inr rfl)) (pss_cons (ps_set (i := 3) sc_law.nd rfl (by first | exact Or.inl rfl | exact Or.inr rfl) (pe_k (k_L_drawn T) hr (pa_cons (pv 1) (pa_cons (pe_lst (pa_cons pe_str pa_nil)) (pa_cons pe_int pa_nil))))) (pss_cons (ps_set (i := 4) sc_law.nd rfl (by first | exact Or.inl rfl | exact Or.inr rfl) (pe_k (k_L_start T) hr (pa_cons (pv 1) pa_nil))) (pss_cons (ps_set (i := 5) sc_law.nd rfl (by first | exact Or.inl rfl | exact Or.inr rfl) (pe_k (k_L_cancel T) hr (pa_cons (pv 1) (pa_cons (pv 3) (pa_cons (pv 4) pa_nil))))) (pss_cons (ps_set (i := 6) sc_law.nd rfl (by first | exact Or.inl rfl | exact Or.inr rfl) (pe_op op_catD (pe_tup (pa_cons (pe_k (k_L_draw T) hr (pa_cons (pv 1) (pa_cons pe_int pa_nil))) pa_nil)) (pe_op op_repS (pe_tup (pa_cons pe_int (pa_cons (pe_k (k_L_draw T) hr (pa_cons (pv 1) (pa_cons pe_int pa_nil))) pa_nil))) (pe_k (k_L_draw T) hr (pa_cons (pv 1) (pa_cons pe_int pa_nil)))))) (pss_cons (ps_set (i := 7) sc_law.nd rfl (by first | exact Or.inl rfl | exact Or.inr rfl) (pe_k (k_L_due T) hr (pa_cons (pv 3) (pa_cons (pv 6) (pa_cons (pv 4) (pa_cons (pv 5) pa_nil)))))) (pss_cons (ps_if (PW.pt (pw_or (pt_cmp (pc_isN (pv 7)) rfl) (pw_or1 (pt_not (pt_val (pe_kG (k_L_alike T) hr hgu (pa_cons (pe_k (k_predict T) hr (pa_cons (pv 3) (pa_cons (pv 6) (pa_cons (pv 4) (pa_cons (pv 5) pa_nil))))) (pa_cons (pv 7) pa_nil)))))))) (pss_one (ps_ret pe_bl)) pss_nil) (pss_one (ps_if (pt_not (pt_val (pe_kG (k_L_alike T) hr hgu (pa_cons (pe_k (k_end_of T) hr (pa_cons (pv 3) (pa_cons (pv 4) (pa_cons (pv 5) pa_nil)))) (pa_cons (pe_slice sl_dd (pv 7) po_none (po_some pe_int)) pa_nil))))) (pss_one (ps_ret pe_bl)) pss_nil))))))))) (pss_one (ps_ret pe_bl)))), ?_⟩
    refine rd_sa ?_
    refine ⟨_, rfl, ⟨ns, hx⟩, rfl, rfl, fun dg is H1 k1 hdg hne hdg0 => ⟨by show 2 ≤ sizeLine; decide, fun B hB => ?_⟩⟩
    have kB : Kp none H1 (upd H1 B (.lst [.ref dg, .int 0])) := Kp.new hB
    have b0 : BoxAt (upd H1 B (.lst [.ref dg, .int 0])) B := ⟨dg, 0, is, upd_same, kB _ _ hdg (by simp), hne⟩
    refine rd_seq ?_
    refine ⟨_, rfl, by decide, by decide, ?_⟩
    refine for_range (lo := 0) (n := 3) (fun i σ H' => ∃ x2 x3 x4 x5 x6 x7, σ = [some (.ref a), some (.ref B), x2, x3, x4, x5, x6, x7] ∧ BoxAt H' B) ⟨_, _, _, _, _, _, rfl, b0⟩ ?_ ?_
    · rintro i σ H' hi ⟨x2, x3, x4, x5, x6, x7, rfl, b⟩
      refine rd_sa ?_
      refine ⟨_, rfl, by show 1 ≤ sizeLine; decide, fun kl hkl => ?_⟩
      refine ⟨rfl, b.keep0 (Kp.new hkl), upd_same, fun plv H2 n ps hw hd hrn hz k2 b2 hp => ?_⟩
      obtain ⟨hcost, htc⟩ := small_ok hw hd hrn hz
      have hok : PlanOk (.pool n ps) := ⟨hw, by omega, by omega, by omega⟩
      refine rd_sa ?_
      refine ⟨_, rfl, b2, fun sv s H3 hsb k3 b3 hs => ?_⟩
      have hp3 := DD.mono (b2.tk k3) _ _ hp
      refine rd_sa ?_
      refine ⟨_, rfl, _, rfl, _, rfl, .pool n ps, s, b3, hp3, hok, hs, hsb, fun cv c H4 hcb ho k4 b4 hc => ?_⟩
      have hcb : OB 400000000 c := hcb.mono (by omega)
      have tk4 := b3.tk k4
      have hp4 := DD.mono tk4 _ _ hp3
      have hs4 := hs.mono tk4
      refine law_path b4 (fun pav pa H5 k5 b5 hpa hpl hpb => ?_)
      have tk5 := b4.tk k5
      have hp5 := DD.mono tk5 _ _ hp4
      have hs5 := hs4.mono tk5
      have hc5 := hc.mono tk5
      have hsh := shw_pred hw hd hrn hz hpl hpb hsb hcb ho
      have hse := shw_end hw hd hrn hz hsb hcb ho
      refine rd_sa ?_
      refine ⟨_, rfl, _, rfl, _, rfl, _, rfl, n, ps, pa, s, c, hp5, hok, hpa, by omega, hs5, hc5, ho, fun dv H6 k6 hdv => ?_⟩
      have b6 := b5.keep0 k6
      refine rd_seq ?_
      refine rd_if ?_
      refine ⟨_, rfl, _, rfl, ?_⟩
      refine itF (DD.ne_non hdv) ?_
      refine ⟨_, rfl, _, rfl, _, rfl, _, rfl, .pool n ps, pa, s, c, hp5.mk0 k6, hok, hpa.mk0 k6, by omega, hs5.mk0 k6, hc5.mk0 k6, ho, fun pv2 H7 k7 hpv => ⟨_, rfl, _, hpv, hdv.mk0 k7, hsh, _, rfl, ?_⟩⟩
      refine elF rfl ?_
      have k67 := k6.trans k7
      refine rd_if ?_
      refine ⟨_, rfl, _, rfl, _, rfl, .pool n ps, s, c, hp5.mk0 k67, hok, hs5.mk0 k67, hc5.mk0 k67, ho, fun ev H8 k8 hev => ⟨_, rfl, 3, rfl, _, hdv.mk0 (k7.trans k8), fun cv3 H9 k9 hcut => ⟨_, hev.mk0 k9, hcut, hse, _, rfl, ?_⟩⟩⟩
      refine elF rfl ?_
      exact ⟨_, _, _, _, _, _, rfl, ((b6.keep0 k7).keep0 k8).keep0 k9⟩
    · rintro σ H' ⟨x2, x3, x4, x5, x6, x7, rfl, b⟩
      exact r H'
end
end Asf
set_option Elab.async false
set_option linter.all false
set_option maxRecDepth 100000
set_option maxHeartbeats 4000000
namespace Asf
open PySem PySem.Spec PyProof.Rows L2
/-- the law's call from the outside, where no repr is under way: from one abstract heap -/
theorem call_from {pg : Program} {wd : World} {fr : PySem.W.Frag} {gm bm : Str → Option Value} {lv : Nat} {fl sc : Addr} {dat : FuncData} {prm : Str} {pro : Sp} {st : Shared} {vals : List Value} {T : Hp}
    (inK : fr.In st.heap) (nG : st.heap.Ns mainGlobals gm) (nB : st.heap.Ns builtinsNs bm) (nBb : ∀ x : Str, x ≠ "__name__" → bm x = bootBuiltins x) (nL : st.heap.NoLimit) (gn : st.gens = #[])
    (scr : st.heap.get? sc = some { cls := .type "list", data := .seq vals.toArray }) (room : Room lv callerA)
    (FF : ∀ b0 : Heap, fr.In b0 → b0.Ns mainGlobals gm → FnG pg wd fr gm b0 lv fl dat [prm] pro) (bnd : ∀ (sh : Shared) (uu : Value), BindsTo sh dat ⟨[uu], []⟩ [(prm, uu)])
    (only : L2.Only T) (sat : pro [.ref sc] T (fun r _ => r = .bl true) fun _ _ _ => False) (ok : HOk pg wd T st.heap) (one : ∀ c, T c ≠ none → c = sc) (nk : T sc ≠ none → fr.lookup sc = none) :
    codeAny (model pg wd) callerA (.call (.ref fl) ⟨[.ref sc], []⟩) (fun r z => r = .ok (.ret (.bool true)) ∧ OldK st.heap z.heap ∧ z.os = st.os ∧ AllBare z.gens) st := by
  have up : ∀ {c : Addr} {ob : Obj}, st.heap.get? c = some ob → T c = none → (hidT st.heap T).get? c = some ob := fun h1 h2 => hidT_get h1 h2
  have free : ∀ {c : Addr} {ob : Obj} {q : Array DictEntry} {r : Nat}, st.heap.get? c = some ob → ob.data = .dict q r → T c = none := by
    intro c ob q r h1 h2
    by_cases h : T c = none
    · exact h
    · have ec := one c h
      rw [ec, scr] at h1
      injection h1 with h1
      rw [← h1] at h2
      cases h2
  have ns2 : ∀ {c : Addr} {m : Str → Option Value}, st.heap.Ns c m → (hidT st.heap T).Ns c m := by
    rintro c m ⟨ob, q, r, h1, h2, h3⟩
    exact ⟨ob, q, r, up h1 (free h1 h2), h2, h3⟩
  have in2 : fr.In (hidT st.heap T) := by
    intro c ob h1
    refine up (inK c ob h1) ?_
    by_cases h : T c = none
    · exact h
    · have ec := one c h
      subst ec
      rw [nk h] at h1
      cases h1
  have lim2 : (hidT st.heap T).NoLimit := by
    obtain ⟨m, h1, h2⟩ := nL
    exact ⟨m, ns2 h1, h2⟩
  have env : Env0 pg wd fr gm (hidT st.heap T) callerA [] st T := by
    refine ⟨rfl, ⟨in2, ns2 nG, ⟨bm, ns2 nB, nBb⟩, lim2⟩, fun c ob h1 => of_hidT h1, Nat.le_of_eq (hidT_size _ _), trivial, fun c hc => ?_, ok, .of_eq gn⟩
    exact absurd (show c ∈ ([] : List Addr) from hc) (by simp)
  have run := (FF (hidT st.heap T) in2 (ns2 nG)).run callerA [] st T ⟨[.ref sc], []⟩ [.ref sc] [.ref sc] _ _ room rfl env (bnd st (.ref sc)) (.cons rfl .nil) sat
  refine codeAny_mono run fun r z h => ?_
  match r, h with
  | .ok (.ret uu), h =>
    obtain ⟨vv, T2, os2, ba, un, ok2, rel, qq⟩ := h
    have qq : vv = .bl true := qq
    subst qq
    have eu : uu = Value.bool true := rel
    subst eu
    refine ⟨rfl, OldK.of_keep fun c ob h1 => ?_, os2, ba⟩
    rcases only c with h2 | ⟨o3, xs3, h2⟩
    · refine un.keep c ob h1 h2 (fun hc => ?_) (by simp)
      exact absurd (show c ∈ ([] : List Addr) from hc) (by simp)
    · have l1 := (ok c _ h2).1
      have l2 := (ok2 c _ (un.frzs c o3 _ h2)).1
      rw [h1] at l1
      injection l1 with l1
      rw [l1]
      exact l2
/-- the script's list, tracked or the module's own -/
theorem call_G {pg : Program} {wd : World} {fr : PySem.W.Frag} {gm bm : Str → Option Value} {lv : Nat} {fl sc : Addr} {dat : FuncData} {prm : Str} {pro : Sp} {st : Shared} {vals : List Value} {nums : List Int}
    (inK : fr.In st.heap) (nG : st.heap.Ns mainGlobals gm) (nB : st.heap.Ns builtinsNs bm) (nBb : ∀ x : Str, x ≠ "__name__" → bm x = bootBuiltins x) (nL : st.heap.NoLimit) (gn : st.gens = #[])
    (scr : st.heap.get? sc = some { cls := .type "list", data := .seq vals.toArray }) (are : IntsAre vals nums) (few : nums.length ≤ sizeLine) (room : Room lv callerA)
    (FF : ∀ b0 : Heap, fr.In b0 → b0.Ns mainGlobals gm → FnG pg wd fr gm b0 lv fl dat [prm] pro) (bnd : ∀ (sh : Shared) (uu : Value), BindsTo sh dat ⟨[uu], []⟩ [(prm, uu)])
    (sat : ∀ T : Hp, SqL fr T sc (nums.map V.int) → pro [.ref sc] T (fun r _ => r = .bl true) fun _ _ _ => False) :
    codeAny (model pg wd) callerA (.call (.ref fl) ⟨[.ref sc], []⟩) (fun r z => r = .ok (.ret (.bool true)) ∧ OldK st.heap z.heap ∧ z.os = st.os ∧ AllBare z.gens) st := by
  have rel := vals_ints are
  have ln := are.length
  by_cases own : fr.lookup sc = none
  · let T : Hp := fun c => if c = sc then some (.frz { cls := .type "list", data := .seq vals.toArray } (.lst (nums.map V.int))) else none
    have hT : T sc = some (.frz { cls := .type "list", data := .seq vals.toArray } (.lst (nums.map V.int))) := if_pos rfl
    have hN : ∀ c, c ≠ sc → T c = none := fun c h => if_neg h
    refine call_from (T := T) inK nG nB nBb nL gn scr room FF bnd (fun c => ?_) (sat T (.inl (.inr ⟨_, hT⟩))) (fun c ob h => ?_) (fun c h => ?_) fun _ => own
    · by_cases e : c = sc
      · rw [e]; exact .inr ⟨_, _, hT⟩
      · exact .inl (hN c e)
    · by_cases e : c = sc
      · subst e
        rw [hT] at h
        injection h with h
        subst h
        exact ⟨scr, by rw [List.length_map]; exact few, vals, _, rel, scr⟩
      · rw [hN c e] at h
        cases h
    · by_cases e : c = sc
      · exact e
      · exact absurd (hN c e) h
  · obtain ⟨ob, hob⟩ := Option.ne_none_iff_exists'.mp own
    have same := inK sc ob hob
    rw [scr] at same
    injection same with same
    subst same
    have sq : SqL fr (fun _ => none) sc (nums.map V.int) := .inr ⟨_, vals.toArray, _, hob, rfl, rfl, rfl, by rw [List.size_toArray, ln]; exact few, by simpa using rel⟩
    exact call_from (T := fun _ => none) inK nG nB nBb nL gn scr room FF bnd (fun _ => .inl rfl) (sat _ sq) (fun c ob h => nomatch h) (fun c h => absurd rfl h) fun h => absurd rfl h
end Asf
set_option Elab.async false
set_option linter.all false
set_option maxRecDepth 100000
set_option maxHeartbeats 0
namespace Asf
open PySem PySem.Spec PyProof.Rows L2
def dd_next_instant : He.DefD := ⟨("next_instant", none), "next_instant", "next_instant", defArgs s_next_instant, defBody s_next_instant, defScope s_next_instant, [], []⟩
def dd_later : He.DefD := ⟨("later", none), "later", "later", defArgs s_later, defBody s_later, defScope s_later, [], []⟩
def dd_earliest : He.DefD := ⟨("earliest", none), "earliest", "earliest", defArgs s_earliest, defBody s_earliest, defScope s_earliest, [], []⟩
def dd_not_after : He.DefD := ⟨("not_after", none), "not_after", "not_after", defArgs s_not_after, defBody s_not_after, defScope s_not_after, [], []⟩
def dd_child_path : He.DefD := ⟨("child_path", none), "child_path", "child_path", defArgs s_child_path, defBody s_child_path, defScope s_child_path, [], []⟩
def dd_parts_of : He.DefD := ⟨("parts_of", none), "parts_of", "parts_of", defArgs s_parts_of, defBody s_parts_of, defScope s_parts_of, [], []⟩
def dd_check_cancel : He.DefD := ⟨("_check_cancel", none), "_check_cancel", "_check_cancel", defArgs s_check_cancel, defBody s_check_cancel, defScope s_check_cancel, [], []⟩
def dd_job_end : He.DefD := ⟨("job_end", none), "job_end", "job_end", defArgs s_job_end, defBody s_job_end, defScope s_job_end, [], []⟩
def dd_errors : He.DefD := ⟨("_errors", none), "_errors", "_errors", defArgs s_errors, defBody s_errors, defScope s_errors, [], []⟩
def dd_together : He.DefD := ⟨("_together", none), "_together", "_together", defArgs s_together, defBody s_together, defScope s_together, [], []⟩
def dd_all_values : He.DefD := ⟨("_all_values", none), "_all_values", "_all_values", defArgs s_all_values, defBody s_all_values, defScope s_all_values, [], []⟩
def dd_first_value : He.DefD := ⟨("_first_value", none), "_first_value", "_first_value", defArgs s_first_value, defBody s_first_value, defScope s_first_value, [], []⟩
def dd_first : He.DefD := ⟨("_first", none), "_first", "_first", defArgs s_first, defBody s_first, defScope s_first, [], []⟩
def dd_F_init : He.DefD := ⟨("Foretelling", some "__init__"), "__init__", "Foretelling.__init__", defArgs s_F_init, defBody s_F_init, defScope s_F_init, [], []⟩
def dd_F_course : He.DefD := ⟨("Foretelling", some "course"), "course", "Foretelling.course", defArgs s_F_course, defBody s_F_course, defScope s_F_course, [], []⟩
def dd_F_end : He.DefD := ⟨("Foretelling", some "end"), "end", "Foretelling.end", defArgs s_F_end, defBody s_F_end, defScope s_F_end, [], []⟩
def dd_F_find : He.DefD := ⟨("Foretelling", some "_find"), "_find", "Foretelling._find", defArgs s_F_find, defBody s_F_find, defScope s_F_find, [], []⟩
def dd_F_scope : He.DefD := ⟨("Foretelling", some "_scope"), "_scope", "Foretelling._scope", defArgs s_F_scope, defBody s_F_scope, defScope s_F_scope, [], []⟩
def dd_F_pool_parts : He.DefD := ⟨("Foretelling", some "_pool_parts"), "_pool_parts", "Foretelling._pool_parts", defArgs s_F_pool_parts, defBody s_F_pool_parts, defScope s_F_pool_parts, [], []⟩
def dd_F_pool : He.DefD := ⟨("Foretelling", some "_pool"), "_pool", "Foretelling._pool", defArgs s_F_pool, defBody s_F_pool, defScope s_F_pool, [], []⟩
def dd_F_timeout : He.DefD := ⟨("Foretelling", some "_timeout"), "_timeout", "Foretelling._timeout", defArgs s_F_timeout, defBody s_F_timeout, defScope s_F_timeout, [], []⟩
def dd_F_sequence : He.DefD := ⟨("Foretelling", some "_sequence"), "_sequence", "Foretelling._sequence", defArgs s_F_sequence, defBody s_F_sequence, defScope s_F_sequence, [], []⟩
def dd_F_orelse : He.DefD := ⟨("Foretelling", some "_orelse"), "_orelse", "Foretelling._orelse", defArgs s_F_orelse, defBody s_F_orelse, defScope s_F_orelse, [], []⟩
def dd_F_retry : He.DefD := ⟨("Foretelling", some "_retry"), "_retry", "Foretelling._retry", defArgs s_F_retry, defBody s_F_retry, defScope s_F_retry, [], []⟩
def dd_F_tasks : He.DefD := ⟨("Foretelling", some "tasks"), "tasks", "Foretelling.tasks", defArgs s_F_tasks, defBody s_F_tasks, defScope s_F_tasks, [], []⟩
def dd_predict : He.DefD := ⟨("predict", none), "predict", "predict", defArgs s_predict, defBody s_predict, defScope s_predict, [], []⟩
def dd_end_of : He.DefD := ⟨("end_of", none), "end_of", "end_of", defArgs s_end_of, defBody s_end_of, defScope s_end_of, [], []⟩
def dd_L_cell : He.DefD := ⟨("_law_cell", none), "_law_cell", "_law_cell", defArgs s_L_cell, defBody s_L_cell, defScope s_L_cell, [], []⟩
def dd_L_digits : He.DefD := ⟨("_law_digits", none), "_law_digits", "_law_digits", defArgs s_L_digits, defBody s_L_digits, defScope s_L_digits, [], []⟩
def dd_L_draw : He.DefD := ⟨("_law_draw", none), "_law_draw", "_law_draw", defArgs s_L_draw, defBody s_L_draw, defScope s_L_draw, [], []⟩
def dd_L_job : He.DefD := ⟨("_law_job", none), "_law_job", "_law_job", defArgs s_L_job, defBody s_L_job, defScope s_L_job, [], []⟩
def dd_L_whole : He.DefD := ⟨("_law_whole", none), "_law_whole", "_law_whole", defArgs s_L_whole, defBody s_L_whole, defScope s_L_whole, [], []⟩
def dd_L_plan : He.DefD := ⟨("_law_plan", none), "_law_plan", "_law_plan", defArgs s_L_plan, defBody s_L_plan, defScope s_L_plan, [], []⟩
def dd_L_parts : He.DefD := ⟨("_law_parts", none), "_law_parts", "_law_parts", defArgs s_L_parts, defBody s_L_parts, defScope s_L_parts, [], []⟩
def dd_L_sizes : He.DefD := ⟨("_law_sizes", none), "_law_sizes", "_law_sizes", defArgs s_L_sizes, defBody s_L_sizes, defScope s_L_sizes, [], []⟩
def dd_L_drawn : He.DefD := ⟨("_law_drawn", none), "_law_drawn", "_law_drawn", defArgs s_L_drawn, defBody s_L_drawn, defScope s_L_drawn, [], []⟩
def dd_L_start : He.DefD := ⟨("_law_start", none), "_law_start", "_law_start", defArgs s_L_start, defBody s_L_start, defScope s_L_start, [], []⟩
def dd_L_cancel : He.DefD := ⟨("_law_cancel", none), "_law_cancel", "_law_cancel", defArgs s_L_cancel, defBody s_L_cancel, defScope s_L_cancel, [], []⟩
def dd_L_first_of : He.DefD := ⟨("_law_first_of", none), "_law_first_of", "_law_first_of", defArgs s_L_first_of, defBody s_L_first_of, defScope s_L_first_of, [], []⟩
def dd_L_moved : He.DefD := ⟨("_law_moved", none), "_law_moved", "_law_moved", defArgs s_L_moved, defBody s_L_moved, defScope s_L_moved, [], []⟩
def dd_L_sub : He.DefD := ⟨("_law_sub", none), "_law_sub", "_law_sub", defArgs s_L_sub, defBody s_L_sub, defScope s_L_sub, [], []⟩
def dd_L_earlier : He.DefD := ⟨("_law_earlier", none), "_law_earlier", "_law_earlier", defArgs s_L_earlier, defBody s_L_earlier, defScope s_L_earlier, [], []⟩
def dd_L_late : He.DefD := ⟨("_law_late", none), "_law_late", "_law_late", defArgs s_L_late, defBody s_L_late, defScope s_L_late, [], []⟩
def dd_L_alike : He.DefD := ⟨("_law_alike", none), "_law_alike", "_law_alike", defArgs s_L_alike, defBody s_L_alike, defScope s_L_alike, [], []⟩
def dd_L_begin : He.DefD := ⟨("_law_begin", none), "_law_begin", "_law_begin", defArgs s_L_begin, defBody s_L_begin, defScope s_L_begin, [], []⟩
def dd_L_pass : He.DefD := ⟨("_law_pass", none), "_law_pass", "_law_pass", defArgs s_L_pass, defBody s_L_pass, defScope s_L_pass, [], []⟩
def dd_L_due : He.DefD := ⟨("_law_due", none), "_law_due", "_law_due", defArgs s_L_due, defBody s_L_due, defScope s_L_due, [], []⟩
def dd_law : He.DefD := ⟨("law", none), "law", "law", defArgs s_law, defBody s_law, defScope s_law, [], []⟩
def fn0 : List He.DefD := [dd_next_instant, dd_later, dd_earliest, dd_not_after, dd_child_path, dd_parts_of, dd_check_cancel, dd_job_end, dd_errors, dd_together, dd_all_values, dd_first_value, dd_first, dd_F_init, dd_F_course, dd_F_end, dd_F_find, dd_F_scope, dd_F_pool_parts, dd_F_pool, dd_F_timeout, dd_F_sequence, dd_F_orelse, dd_F_retry, dd_F_tasks, dd_predict, dd_end_of, dd_L_cell, dd_L_digits, dd_L_draw]
def fn1 : List He.DefD := [dd_L_job, dd_L_whole, dd_L_plan, dd_L_parts, dd_L_sizes, dd_L_drawn, dd_L_start, dd_L_cancel, dd_L_first_of, dd_L_moved, dd_L_sub, dd_L_earlier, dd_L_late, dd_L_alike, dd_L_begin, dd_L_pass, dd_L_due, dd_law]
def fns : List He.DefD := fn0 ++ fn1
def gl0 : List He.Fa := [.glo "next_instant", .glo "later", .glo "earliest", .glo "not_after", .glo "child_path", .glo "parts_of", .glo "_check_cancel", .glo "job_end", .glo "_errors", .glo "_together", .glo "_all_values", .glo "_first_value", .glo "_first", .glo "predict", .glo "end_of", .glo "_law_cell", .glo "_law_digits", .glo "_law_draw", .glo "_law_job", .glo "_law_whole", .glo "_law_plan", .glo "_law_parts", .glo "_law_sizes", .glo "_law_drawn", .glo "_law_start"]
def gl1 : List He.Fa := [.glo "_law_cancel", .glo "_law_first_of", .glo "_law_moved", .glo "_law_sub", .glo "_law_earlier", .glo "_law_late", .glo "_law_alike", .glo "_law_begin", .glo "_law_pass", .glo "_law_due", .glo "law", .glo "Foretelling", .glo "CANCELLED"]
def gl2 : List He.Fa := [.free "len", .free "min", .free "max", .free "sorted", .free "sum", .free "tuple", .free "range", .free "enumerate", .free "repr", .free "int"]
def gl3 : List He.Fa := [.str "DEADLINE" "deadline exceeded", .cls "Foretelling", .mkr "Foretelling", .noat "Foretelling" "_plan", .noat "Foretelling" "_known"]
def gl4 : List He.Fa := [.meth "Foretelling" "course", .meth "Foretelling" "end", .meth "Foretelling" "_find", .meth "Foretelling" "_scope", .meth "Foretelling" "_pool_parts", .meth "Foretelling" "_pool", .meth "Foretelling" "_timeout", .meth "Foretelling" "_sequence", .meth "Foretelling" "_orelse", .meth "Foretelling" "_retry", .meth "Foretelling" "tasks"]
def fas : List He.Fa := gl0 ++ (gl1 ++ (gl2 ++ (gl3 ++ gl4)))
/-- CANCELLED as it stands -/
def canB (K : PySem.W.Frag) : Bool := match K.lookup (He.ga K "CANCELLED") with
  | some ⟨.type c, _, .seq its _, _⟩ => decide (c = "tuple") && (match its.toList with
    | [.str x _, .ref e] => decide (x = "cancelled") && (match K.lookup e with
      | some ⟨.type c2, _, .seq es _, _⟩ => decide (c2 = "tuple") && decide (es = #[])
      | _ => false)
    | _ => false)
  | _ => false
theorem canB_ok {K : PySem.W.Frag} (h : canB K = true) : CanT K := by
  unfold canB at h
  split at h
  · rename_i c od its n sl hl
    obtain ⟨h1, h2⟩ := Bool.and_eq_true_iff.mp h
    have h1 := of_decide_eq_true h1
    split at h2
    · rename_i x tk e hits
      obtain ⟨h3, h4⟩ := Bool.and_eq_true_iff.mp h2
      have h3 := of_decide_eq_true h3
      split at h4
      · rename_i c2 od2 es n2 sl2 hl2
        obtain ⟨h5, h6⟩ := Bool.and_eq_true_iff.mp h4
        have h5 := of_decide_eq_true h5
        have h6 := of_decide_eq_true h6
        subst h1 h3 h5 h6
        refine ⟨e, ⟨_, n2, hl2, rfl, rfl⟩, fun H => .inr ⟨_, its, n, hl, rfl, rfl, ?_, ?_⟩⟩
        · rw [← Array.length_toList, hits]
          show 2 ≤ sizeLine
          decide
        · rw [hits]
          exact .cons ⟨tk, rfl⟩ (.cons rfl .nil)
      · cases h4
    · cases h2
  · cases h
/-- the hook: facts, defs, CANCELLED -/
def hookC : PySem.W.Hook where
  α := He.AlD × Bool
  obs := fun s => (He.obsDG 4 fas fns s.heap.get?, canB (He.frG s.heap.get? (He.asD s.heap.get? 4)))
  val := fun _ => (He.valD fns, true)
  says := fun _ h => ∃ K : PySem.W.Frag, K.In h ∧ (He.SaysD fas fns K ∧ canB K = true)
  of := fun _ _ e => ⟨_, He.frG_in, congrArg Prod.fst e, congrArg Prod.snd e⟩
  keeps := fun _ _ _ ⟨K, hK, c, d⟩ k => ⟨K, PySem.W.Frag.In.keeps hK k, c, d⟩
abbrev RR : PySem.W.OpenRow := PySem.W.OpenLaw.row PySem.Challenge.rw_asforetold_k13_pool_of_its_parts
def obC (s : PySem.W.SharedT) : He.AlD × Bool := (He.obsDG 4 fas fns (HandSHeadRun.getT s), canB (He.frG (HandSHeadRun.getT s) (He.asD (HandSHeadRun.getT s) 4)))
theorem obC_eq (s : PySem.W.SharedT) : obC s = hookC.obs s.abs := by
  have e : HandSHeadRun.getT s = s.abs.heap.get? := funext (HandSHeadRun.getT_eq s)
  unfold obC
  rw [e]
  rfl
def lo0 : List Str := ["ForetoldError", "OutOfRange", "next_instant", "later", "earliest", "not_after", "child_path", "parts_of", "DEADLINE", "CANCELLED", "_check_cancel", "job_end", "_errors", "_together", "_all_values", "_first_value", "_first", "Foretelling", "predict", "end_of", "_law_cell", "_law_digits", "_law_draw", "_law_job", "_law_whole"]
def lo1 : List Str := ["_law_plan", "_law_parts", "_law_sizes", "_law_drawn", "_law_start", "_law_cancel", "_law_first_of", "_law_moved", "_law_sub", "_law_earlier", "_law_after", "_law_late", "_law_alike", "_law_begin", "_law_pass", "_law_due"]
theorem runC (w : World) : HandSHeadRun.RunEq RR (PySem.W.view RR.prog [47]) hookC obC 4000 (lo0 ++ lo1) w := by
  intro os
  kernel_rfl
theorem txt_of {K : PySem.W.Frag} {h : Heap} {mg : Str → Option Value} (X : K.In h) (G : h.Ns mainGlobals mg) (c : He.SaysD fas fns K) (d : canB K = true) : Txt K mg := by
  have f := fun i x (e : fas[i]? = some x) => c.fact i (f := x) e
  exact {
    d_next_instant := fd_at (c.def_ 0 (d := dd_next_instant) rfl).choose_spec
    g_next_instant := He.glo_ok X G (c.fact 0 (f := .glo "next_instant") rfl)
    d_later := fd_at (c.def_ 1 (d := dd_later) rfl).choose_spec
    g_later := He.glo_ok X G (c.fact 1 (f := .glo "later") rfl)
    d_earliest := fd_at (c.def_ 2 (d := dd_earliest) rfl).choose_spec
    g_earliest := He.glo_ok X G (c.fact 2 (f := .glo "earliest") rfl)
    d_not_after := fd_at (c.def_ 3 (d := dd_not_after) rfl).choose_spec
    g_not_after := He.glo_ok X G (c.fact 3 (f := .glo "not_after") rfl)
    d_child_path := fd_at (c.def_ 4 (d := dd_child_path) rfl).choose_spec
    g_child_path := He.glo_ok X G (c.fact 4 (f := .glo "child_path") rfl)
    d_parts_of := fd_at (c.def_ 5 (d := dd_parts_of) rfl).choose_spec
    g_parts_of := He.glo_ok X G (c.fact 5 (f := .glo "parts_of") rfl)
    d_check_cancel := fd_at (c.def_ 6 (d := dd_check_cancel) rfl).choose_spec
    g_check_cancel := He.glo_ok X G (c.fact 6 (f := .glo "_check_cancel") rfl)
    d_job_end := fd_at (c.def_ 7 (d := dd_job_end) rfl).choose_spec
    g_job_end := He.glo_ok X G (c.fact 7 (f := .glo "job_end") rfl)
    d_errors := fd_at (c.def_ 8 (d := dd_errors) rfl).choose_spec
    g_errors := He.glo_ok X G (c.fact 8 (f := .glo "_errors") rfl)
    d_together := fd_at (c.def_ 9 (d := dd_together) rfl).choose_spec
    g_together := He.glo_ok X G (c.fact 9 (f := .glo "_together") rfl)
    d_all_values := fd_at (c.def_ 10 (d := dd_all_values) rfl).choose_spec
    g_all_values := He.glo_ok X G (c.fact 10 (f := .glo "_all_values") rfl)
    d_first_value := fd_at (c.def_ 11 (d := dd_first_value) rfl).choose_spec
    g_first_value := He.glo_ok X G (c.fact 11 (f := .glo "_first_value") rfl)
    d_first := fd_at (c.def_ 12 (d := dd_first) rfl).choose_spec
    g_first := He.glo_ok X G (c.fact 12 (f := .glo "_first") rfl)
    d_F_init := fd_at (c.def_ 13 (d := dd_F_init) rfl).choose_spec
    d_F_course := fd_at (c.def_ 14 (d := dd_F_course) rfl).choose_spec
    m_F_course := He.meth_ok (c.fact 53 (f := .meth "Foretelling" "course") rfl)
    d_F_end := fd_at (c.def_ 15 (d := dd_F_end) rfl).choose_spec
    m_F_end := He.meth_ok (c.fact 54 (f := .meth "Foretelling" "end") rfl)
    d_F_find := fd_at (c.def_ 16 (d := dd_F_find) rfl).choose_spec
    m_F_find := He.meth_ok (c.fact 55 (f := .meth "Foretelling" "_find") rfl)
    d_F_scope := fd_at (c.def_ 17 (d := dd_F_scope) rfl).choose_spec
    m_F_scope := He.meth_ok (c.fact 56 (f := .meth "Foretelling" "_scope") rfl)
    d_F_pool_parts := fd_at (c.def_ 18 (d := dd_F_pool_parts) rfl).choose_spec
    m_F_pool_parts := He.meth_ok (c.fact 57 (f := .meth "Foretelling" "_pool_parts") rfl)
    d_F_pool := fd_at (c.def_ 19 (d := dd_F_pool) rfl).choose_spec
    m_F_pool := He.meth_ok (c.fact 58 (f := .meth "Foretelling" "_pool") rfl)
    d_F_timeout := fd_at (c.def_ 20 (d := dd_F_timeout) rfl).choose_spec
    m_F_timeout := He.meth_ok (c.fact 59 (f := .meth "Foretelling" "_timeout") rfl)
    d_F_sequence := fd_at (c.def_ 21 (d := dd_F_sequence) rfl).choose_spec
    m_F_sequence := He.meth_ok (c.fact 60 (f := .meth "Foretelling" "_sequence") rfl)
    d_F_orelse := fd_at (c.def_ 22 (d := dd_F_orelse) rfl).choose_spec
    m_F_orelse := He.meth_ok (c.fact 61 (f := .meth "Foretelling" "_orelse") rfl)
    d_F_retry := fd_at (c.def_ 23 (d := dd_F_retry) rfl).choose_spec
    m_F_retry := He.meth_ok (c.fact 62 (f := .meth "Foretelling" "_retry") rfl)
    d_F_tasks := fd_at (c.def_ 24 (d := dd_F_tasks) rfl).choose_spec
    m_F_tasks := He.meth_ok (c.fact 63 (f := .meth "Foretelling" "tasks") rfl)
    d_predict := fd_at (c.def_ 25 (d := dd_predict) rfl).choose_spec
    g_predict := He.glo_ok X G (c.fact 13 (f := .glo "predict") rfl)
    d_end_of := fd_at (c.def_ 26 (d := dd_end_of) rfl).choose_spec
    g_end_of := He.glo_ok X G (c.fact 14 (f := .glo "end_of") rfl)
    d_L_cell := fd_at (c.def_ 27 (d := dd_L_cell) rfl).choose_spec
    g_L_cell := He.glo_ok X G (c.fact 15 (f := .glo "_law_cell") rfl)
    d_L_digits := fd_at (c.def_ 28 (d := dd_L_digits) rfl).choose_spec
    g_L_digits := He.glo_ok X G (c.fact 16 (f := .glo "_law_digits") rfl)
    d_L_draw := fd_at (c.def_ 29 (d := dd_L_draw) rfl).choose_spec
    g_L_draw := He.glo_ok X G (c.fact 17 (f := .glo "_law_draw") rfl)
    d_L_job := fd_at (c.def_ 30 (d := dd_L_job) rfl).choose_spec
    g_L_job := He.glo_ok X G (c.fact 18 (f := .glo "_law_job") rfl)
    d_L_whole := fd_at (c.def_ 31 (d := dd_L_whole) rfl).choose_spec
    g_L_whole := He.glo_ok X G (c.fact 19 (f := .glo "_law_whole") rfl)
    d_L_plan := fd_at (c.def_ 32 (d := dd_L_plan) rfl).choose_spec
    g_L_plan := He.glo_ok X G (c.fact 20 (f := .glo "_law_plan") rfl)
    d_L_parts := fd_at (c.def_ 33 (d := dd_L_parts) rfl).choose_spec
    g_L_parts := He.glo_ok X G (c.fact 21 (f := .glo "_law_parts") rfl)
    d_L_sizes := fd_at (c.def_ 34 (d := dd_L_sizes) rfl).choose_spec
    g_L_sizes := He.glo_ok X G (c.fact 22 (f := .glo "_law_sizes") rfl)
    d_L_drawn := fd_at (c.def_ 35 (d := dd_L_drawn) rfl).choose_spec
    g_L_drawn := He.glo_ok X G (c.fact 23 (f := .glo "_law_drawn") rfl)
    d_L_start := fd_at (c.def_ 36 (d := dd_L_start) rfl).choose_spec
    g_L_start := He.glo_ok X G (c.fact 24 (f := .glo "_law_start") rfl)
    d_L_cancel := fd_at (c.def_ 37 (d := dd_L_cancel) rfl).choose_spec
    g_L_cancel := He.glo_ok X G (c.fact 25 (f := .glo "_law_cancel") rfl)
    d_L_first_of := fd_at (c.def_ 38 (d := dd_L_first_of) rfl).choose_spec
    g_L_first_of := He.glo_ok X G (c.fact 26 (f := .glo "_law_first_of") rfl)
    d_L_moved := fd_at (c.def_ 39 (d := dd_L_moved) rfl).choose_spec
    g_L_moved := He.glo_ok X G (c.fact 27 (f := .glo "_law_moved") rfl)
    d_L_sub := fd_at (c.def_ 40 (d := dd_L_sub) rfl).choose_spec
    g_L_sub := He.glo_ok X G (c.fact 28 (f := .glo "_law_sub") rfl)
    d_L_earlier := fd_at (c.def_ 41 (d := dd_L_earlier) rfl).choose_spec
    g_L_earlier := He.glo_ok X G (c.fact 29 (f := .glo "_law_earlier") rfl)
    d_L_late := fd_at (c.def_ 42 (d := dd_L_late) rfl).choose_spec
    g_L_late := He.glo_ok X G (c.fact 30 (f := .glo "_law_late") rfl)
    d_L_alike := fd_at (c.def_ 43 (d := dd_L_alike) rfl).choose_spec
    g_L_alike := He.glo_ok X G (c.fact 31 (f := .glo "_law_alike") rfl)
    d_L_begin := fd_at (c.def_ 44 (d := dd_L_begin) rfl).choose_spec
    g_L_begin := He.glo_ok X G (c.fact 32 (f := .glo "_law_begin") rfl)
    d_L_pass := fd_at (c.def_ 45 (d := dd_L_pass) rfl).choose_spec
    g_L_pass := He.glo_ok X G (c.fact 33 (f := .glo "_law_pass") rfl)
    d_L_due := fd_at (c.def_ 46 (d := dd_L_due) rfl).choose_spec
    g_L_due := He.glo_ok X G (c.fact 34 (f := .glo "_law_due") rfl)
    d_law := fd_at (c.def_ 47 (d := dd_law) rfl).choose_spec
    g_law := He.glo_ok X G (c.fact 35 (f := .glo "law") rfl)
    z_len := He.free_ok X G (c.fact 38 (f := .free "len") rfl)
    z_min := He.free_ok X G (c.fact 39 (f := .free "min") rfl)
    z_max := He.free_ok X G (c.fact 40 (f := .free "max") rfl)
    z_sorted := He.free_ok X G (c.fact 41 (f := .free "sorted") rfl)
    z_sum := He.free_ok X G (c.fact 42 (f := .free "sum") rfl)
    z_tuple := He.free_ok X G (c.fact 43 (f := .free "tuple") rfl)
    z_range := He.free_ok X G (c.fact 44 (f := .free "range") rfl)
    z_enumerate := He.free_ok X G (c.fact 45 (f := .free "enumerate") rfl)
    z_repr := He.free_ok X G (c.fact 46 (f := .free "repr") rfl)
    z_int := He.free_ok X G (c.fact 47 (f := .free "int") rfl)
    gC := He.glo_ok X G (c.fact 36 (f := .glo "Foretelling") rfl)
    cl := He.cls_ok (c.fact 49 (f := .cls "Foretelling") rfl)
    mkF := He.mkr_ok (c.fact 50 (f := .mkr "Foretelling") rfl)
    nP := He.noat_ok (c.fact 51 (f := .noat "Foretelling" "_plan") rfl)
    nK := He.noat_ok (c.fact 52 (f := .noat "Foretelling" "_known") rfl)
    dl := He.str_ok X G (c.fact 48 (f := .str "DEADLINE" "deadline exceeded") rfl)
    gX := He.glo_ok X G (c.fact 37 (f := .glo "CANCELLED") rfl)
    cT := canB_ok d }
end Asf
set_option Elab.async false
set_option linter.all false
set_option maxRecDepth 100000
set_option maxHeartbeats 0
namespace Asf
open PySem PySem.Spec PyProof.Rows L2
theorem walk_G {ol : PySem.W.OpenLaw} {mx : Nat} {qq : Program} {lo : List Str} {XX : (Str → Option Value) → Heap → Prop} {dr : DefRec} (h1 : ol.most = some mx) (h2 : mx ≤ sizeLine) (h3 : dr.params.defaults = []) (hname : dr.name = ("law" : Str)) :
    PySem.W.WalkO qq lo XX (fun _ h => ∃ K : PySem.W.Frag, K.In h ∧ (He.SaysD fas fns K ∧ canB K = true)) ol.row.toRowW dr [] (fun f vs => PySem.call f vs) := by
  refine Att.attach_call h1 h3 fun wd s0 st gm bm fl ob pm cd doc sc vals nums gr Y _ _ _ hmg scr are few gens => ?_
  obtain ⟨K, inK, says, can⟩ := Y
  have T := txt_of inK gr.T.g says can
  rw [hname] at hmg
  obtain rfl : fl = He.ga K "law" := Value.ref.inj (Option.some.inj (hmg.symm.trans T.g_law))
  refine call_G (pro := sp_law K) (lv := 60) (dat := fdAt K (He.ga K "law")) (prm := "_law_script") inK gr.T.g gr.T.b gr.T.builtins gr.T.nolimit gens scr are (Nat.le_trans few h2) ⟨rfl, by decide, by decide⟩ (fun b0 _ _ => k_law T) (fun sh uu => ?_) (fun H hS => ⟨nums, hS, fun _ => rfl⟩)
  exact FunD.bindsA (ps := ["_law_script"]) T.d_law (fun _ _ _ _ _ _ us hl => match us, hl with | [_], _ => rfl) sh [uu] rfl
end Asf
open PySem PySem.W PySem.Calls PyProof.Rows
theorem PySem.Challenge.cw_asforetold_k13_pool_of_its_parts_holds : PySem.Challenge.rw_asforetold_k13_pool_of_its_parts.Holds := by
  w_on; o_law
  refine HandSHeadRun.head_any (r := Asf.RR) (q := view Asf.RR.prog [47]) (H := Asf.hookC) (ob := Asf.obC) (M := 4000) (loose := Asf.lo0 ++ Asf.lo1) (d := HandSHeadRun.topDef Asf.RR.prog 47) (kwd := []) Asf.obC_eq
    (by kernel_rfl) (fun s => by kernel_rfl) Asf.runC (by kernel_rfl) (by kernel_rfl) (by kernel_rfl) (by rfl) (by first | assumption | decide +kernel) (by decide +kernel) ⟨rfl, rfl, rfl, rfl, rfl, by decide +kernel⟩ ?hw ?hc
  case hw => w_witness2
  case hc =>
    exact Asf.walk_G (ol := PySem.Challenge.rw_asforetold_k13_pool_of_its_parts) (mx := 63) rfl (by decide) (by kernel_rfl) (by kernel_rfl)
