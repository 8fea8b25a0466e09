import PyProof.Rows.All
import Wide.All
import OpenK.AllK
import Wide.FinOn
import HandS.ForMost
import HandS.Exc
import HandS.TryOnly
import HandS.ExcOwn
import HandS.WordsExc
import HandS.Evl
import HandS.Deep
import HandS.Flow
import HandS.IsInst
import KE.KDictKeyed
import KE.DataCmp
import KE.SortData
import KE.DataMinMax
import HandS.Zip
import HandS.ExcIs
import HandS.HeadHook2
import HandS.TupLe
import HandS.TupLen
import KE.KTupSum
import HandS.TryMany
import PyProof.AutoSeq1
import HandS.HotCalls
import HandS.Defaults
import HandS.Head0
import HandS.Head1
import HandS.Head2
import HandS.HeadEnd
import HandS.HeadHook1
import PySem.Challenge.RW_cornerdoors_k16_refusals_apart
set_option Elab.async false
set_option linter.all false
set_option maxRecDepth 100000
set_option maxHeartbeats 1000000
/-! MCore: data behind values (R), owned trees (Own), the states of a frame told as data (StOk), readings told as functions on data (tD, tDS). -/
namespace M
open PySem PySem.Spec L2 PyProof.Rows Evl

abbrev D := PyData
/-- what an expression comes to -/
inductive O where
  | ok (d : D)
  | ex (c : Nat)
  | bad
/-- the ground: the program, the world, the written part, the class Net, the error classes by number -/
structure Ct where
  P : Program
  w : World
  K : PySem.W.Frag
  C : Addr
  xc : Nat → Addr
abbrev ct (X : Cx) (C : Addr) (xc : Nat → Addr) : Ct := ⟨X.prog, X.w, X.K, C, xc⟩

/-! ### keys -/
mutual
def keyD : D → Option NestedKey
  | .none => Option.none
  | .bool _ => Option.none
  | .int i => some (.num i)
  | .str x => some (.text x)
  | .tuple ds => (keyDs ds).map .tup
  | .list _ => Option.none
  | .dict _ => Option.none
def keyDs : List D → Option (List NestedKey)
  | [] => some []
  | d :: ds => match keyD d, keyDs ds with
    | some k, some ks => some (k :: ks)
    | _, _ => Option.none
end
/-- a key of a dict: a tuple -/
def isTupD : D → Bool
  | .tuple _ => true
  | _ => false

/-- a key that a dict is asked for, or holds -/
def keyOk (k : D) : Option NestedKey := if isTupD k = true then (match keyD k with
  | some nk => if nk.depth ≤ 8 then some nk else Option.none
  | Option.none => Option.none) else Option.none
theorem keyOk_tup {k : D} {nk : NestedKey} (h : keyOk k = some nk) : isTupD k = true ∧ keyD k = some nk ∧ nk.depth ≤ 8 := by
  unfold keyOk at h
  split at h
  · rename_i ht
    split at h
    · rename_i nk' hk
      split at h
      · rename_i hd
        cases h
        exact ⟨ht, hk, hd⟩
      · cases h
    · cases h
  · cases h

def RawK (P : Program) (w : World) (a : Addr) (xs : List (NestedKey × Addr × Value)) : Heap → Prop := fun h =>
  ∃ o es ep, h.get? a = some o ∧ o.ExactDict ∧ o.data = .dict es ep ∧ es.toList = xs.map (entryOfKey (nestedKind P w)) ∧ (xs.map (·.1)).Nodup

def netD (n : Int) (m : D) : D := .dict [(.none, .int n), (.none, m)]
/-- the script: a list that is not this frame's own -/
def scrD (ds : List D) : D := .dict [(.bool true, .list ds)]

/-- an object of which nothing is said but where it stands -/
def opqD (a : Addr) : D := .dict [(.bool false, .int ((a : Nat) : Int))]

mutual
/-- the value is the data, in the heap B -/
inductive R (G : Ct) (B : Hp) : V → D → Prop
  | non : R G B .non .none
  | bl (b : Bool) : R G B (.bl b) (.bool b)
  | int (i : Int) : R G B (.int i) (.int i)
  | str (x : Str) : R G B (.str x) (.str x)
  | lst {a : Addr} {vs : List V} {ds : List D} : B a = some (.lst vs) → RA G B vs ds → R G B (.ref a) (.list ds)
  | scr {a : Addr} {vs : List V} {ds : List D} : SqL G.K B a vs → RA G B vs ds → R G B (.ref a) (scrD ds)
  | tup {a : Addr} {vs : List V} {ds : List D} : SqT G.K B a vs → RA G B vs ds → R G B (.ref a) (.tuple ds)
  | opq (a : Addr) : R G B (.ref a) (opqD a)
  | net {a dx : Addr} {v : V} {n : Int} {m : D} : B a = some (.ins G.C dx [("size", .int n), ("marks", v)]) → R G B v m → R G B (.ref a) (netD n m)
  | dic {a : Addr} {xs : List (NestedKey × Addr × Value)} {kvs : List (D × D)} : B a = some (.ext (RawK G.P G.w a xs)) → (a == sysModules) = false → DA G B xs kvs → R G B (.ref a) (.dict kvs)
inductive RA (G : Ct) (B : Hp) : List V → List D → Prop
  | nil : RA G B [] []
  | cons {v : V} {vs : List V} {d : D} {ds : List D} : R G B v d → RA G B vs ds → RA G B (v :: vs) (d :: ds)
inductive DA (G : Ct) (B : Hp) : List (NestedKey × Addr × Value) → List (D × D) → Prop
  | nil : DA G B [] []
  | cons {k d : D} {nk : NestedKey} {p : Addr} {u : Value} {v : V} {xs : List (NestedKey × Addr × Value)} {kvs : List (D × D)} : R G B (.ref p) k → keyOk k = some nk → R G B v d → RelV v u → DA G B xs kvs → DA G B ((nk, p, u) :: xs) ((k, d) :: kvs)
end

mutual
theorem R.mono {G : Ct} {B B' : Hp} (e : Ex B B') : ∀ {v : V} {d : D}, R G B v d → R G B' v d
  | _, _, .non => .non
  | _, _, .bl b => .bl b
  | _, _, .int i => .int i
  | _, _, .str x => .str x
  | _, _, .lst h r => .lst (e _ _ h) (RA.mono e r)
  | _, _, .scr h r => .scr (ex_l e h) (RA.mono e r)
  | _, _, .tup h r => .tup (ex_t e h) (RA.mono e r)
  | _, _, .opq a => .opq a
  | _, _, .net h r => .net (e _ _ h) (R.mono e r)
  | _, _, .dic h s r => .dic (e _ _ h) s (DA.mono e r)
theorem RA.mono {G : Ct} {B B' : Hp} (e : Ex B B') : ∀ {vs : List V} {ds : List D}, RA G B vs ds → RA G B' vs ds
  | _, _, .nil => .nil
  | _, _, .cons h r => .cons (R.mono e h) (RA.mono e r)
theorem DA.mono {G : Ct} {B B' : Hp} (e : Ex B B') : ∀ {xs : List (NestedKey × Addr × Value)} {kvs : List (D × D)}, DA G B xs kvs → DA G B' xs kvs
  | _, _, .nil => .nil
  | _, _, .cons h k r q c => .cons (R.mono e h) k (R.mono e r) q (DA.mono e c)
end

section
variable {G : Ct} {B B' H H' : Hp}
theorem RA.length : ∀ {vs : List V} {ds : List D}, RA G B vs ds → vs.length = ds.length
  | _, _, .nil => rfl
  | _, _, .cons _ r => by rw [List.length_cons, List.length_cons, r.length]
theorem RA.append : ∀ {vs vs' : List V} {ds ds' : List D}, RA G B vs ds → RA G B vs' ds' → RA G B (vs ++ vs') (ds ++ ds')
  | _, _, _, _, .nil, s => s
  | _, _, _, _, .cons h r, s => .cons h (r.append s)
theorem RA.get : ∀ {vs : List V} {ds : List D} {i : Nat} {d : D}, RA G B vs ds → ds[i]? = some d → ∃ v, vs[i]? = some v ∧ R G B v d
  | _, _, _, _, .nil, e => by simp at e
  | _, _, 0, _, .cons h _, e => by simp at e; subst e; exact ⟨_, rfl, h⟩
  | _, _, i + 1, d, .cons _ r, e => by
    obtain ⟨v, h1, h2⟩ := RA.get (i := i) (d := d) r (by simpa using e)
    exact ⟨v, by simpa using h1, h2⟩
theorem RA.getV : ∀ {vs : List V} {ds : List D} {i : Nat} {v : V}, RA G B vs ds → vs[i]? = some v → ∃ d, ds[i]? = some d ∧ R G B v d
  | _, _, _, _, .nil, e => by simp at e
  | _, _, 0, _, .cons h _, e => by simp at e; subst e; exact ⟨_, rfl, h⟩
  | _, _, i + 1, v, .cons _ r, e => by
    obtain ⟨d, h1, h2⟩ := RA.getV (i := i) (v := v) r (by simpa using e)
    exact ⟨d, by simpa using h1, h2⟩
theorem RA.take : ∀ {vs : List V} {ds : List D} (n : Nat), RA G B vs ds → RA G B (vs.take n) (ds.take n)
  | _, _, 0, _ => .nil
  | _, _, _ + 1, .nil => .nil
  | _, _, n + 1, .cons h r => .cons h (r.take n)
theorem RA.drop : ∀ {vs : List V} {ds : List D} (n : Nat), RA G B vs ds → RA G B (vs.drop n) (ds.drop n)
  | _, _, 0, r => r
  | _, _, _ + 1, .nil => .nil
  | _, _, n + 1, .cons _ r => r.drop n
theorem RA.set {v : V} {d : D} (h : R G B v d) : ∀ {vs : List V} {ds : List D} (i : Nat), RA G B vs ds → RA G B (vs.set i v) (ds.set i d)
  | _, _, _, .nil => .nil
  | _, _, 0, .cons _ r => .cons h r
  | _, _, i + 1, .cons q r => .cons q (RA.set h i r)
theorem RA.reverse : ∀ {vs : List V} {ds : List D}, RA G B vs ds → RA G B vs.reverse ds.reverse
  | _, _, .nil => .nil
  | _, _, .cons h r => by
    rw [List.reverse_cons, List.reverse_cons]
    exact r.reverse.append (.cons h .nil)
theorem RA.replicate {v : V} {d : D} (h : R G B v d) : ∀ n, RA G B (List.replicate n v) (List.replicate n d)
  | 0 => .nil
  | n + 1 => .cons h (RA.replicate h n)
theorem R.int_inv {v : V} {i : Int} (h : R G B v (.int i)) : v = .int i := by cases h; rfl
theorem R.bool_inv {v : V} {b : Bool} (h : R G B v (.bool b)) : v = .bl b := by cases h; rfl
theorem R.none_inv {v : V} (h : R G B v .none) : v = .non := by cases h; rfl
theorem R.str_inv {v : V} {x : Str} (h : R G B v (.str x)) : v = .str x := by cases h; rfl
theorem R.list_inv {v : V} {ds : List D} (h : R G B v (.list ds)) : ∃ a vs, v = .ref a ∧ B a = some (.lst vs) ∧ RA G B vs ds := by
  cases h with
  | lst h r => exact ⟨_, _, rfl, h, r⟩
theorem R.scr_inv {v : V} {ds : List D} (h : R G B v (scrD ds)) : ∃ a vs, v = .ref a ∧ SqL G.K B a vs ∧ RA G B vs ds := by
  unfold scrD at h
  generalize e : (PyData.dict [(PyData.bool true, PyData.list ds)]) = z at h
  cases h with
  | non => cases e
  | bl => cases e
  | int => cases e
  | str => cases e
  | lst => cases e
  | scr h r =>
    unfold scrD at e
    injection e with e
    injection e with e1 e2
    injection e1 with _ e1
    injection e1 with e1
    subst e1
    exact ⟨_, _, rfl, h, r⟩
  | tup => cases e
  | opq a =>
    unfold opqD at e
    injection e with e
    injection e with e1 e2
    injection e1 with e1 _
    cases e1
  | net h r =>
    unfold netD at e
    injection e with e
    injection e with e1 e2
    cases e2
  | dic h s r =>
    injection e with e
    subst e
    cases r with
    | cons _ t _ _ _ => cases (keyOk_tup t).1
theorem R.tup_inv {v : V} {ds : List D} (h : R G B v (.tuple ds)) : ∃ a vs, v = .ref a ∧ SqT G.K B a vs ∧ RA G B vs ds := by
  cases h with
  | tup h r => exact ⟨_, _, rfl, h, r⟩
theorem R.net_inv {v : V} {n : Int} {m : D} (h : R G B v (netD n m)) : ∃ a dx x, v = .ref a ∧ B a = some (.ins G.C dx [("size", .int n), ("marks", x)]) ∧ R G B x m := by
  unfold netD at h
  generalize e : (PyData.dict [(PyData.none, PyData.int n), (PyData.none, m)]) = z at h
  cases h with
  | non => cases e
  | bl => cases e
  | int => cases e
  | str => cases e
  | lst => cases e
  | scr => cases e
  | tup => cases e
  | opq => cases e
  | net h r =>
    unfold netD at e
    injection e with e
    injection e with e1 e2
    injection e1 with _ e1
    injection e1 with e1
    injection e2 with e2 _
    injection e2 with _ e2
    subst e1 e2
    exact ⟨_, _, _, rfl, h, r⟩
  | dic h s r =>
    injection e with e
    subst e
    cases r with
    | cons _ t _ _ _ => cases (keyOk_tup t).1
theorem R.dic_inv {v : V} {kvs : List (D × D)} (h : R G B v (.dict kvs)) (ht : ∀ p ∈ kvs, isTupD p.1 = true) : ∃ a xs, v = .ref a ∧ B a = some (.ext (RawK G.P G.w a xs)) ∧ (a == sysModules) = false ∧ DA G B xs kvs := by
  generalize e : (PyData.dict kvs) = z at h
  cases h with
  | non => cases e
  | bl => cases e
  | int => cases e
  | str => cases e
  | lst => cases e
  | scr h r =>
    unfold scrD at e
    injection e with e
    subst e
    have := ht _ List.mem_cons_self
    cases this
  | tup => cases e
  | opq =>
    unfold opqD at e
    injection e with e
    subst e
    have := ht _ List.mem_cons_self
    cases this
  | net h r =>
    unfold netD at e
    injection e with e
    subst e
    have := ht _ List.mem_cons_self
    cases this
  | dic h s r =>
    injection e with e
    subst e
    exact ⟨_, _, rfl, h, s, r⟩

theorem R.opq_inv {v : V} {a : Addr} (h : R G B v (opqD a)) : v = .ref a := by
  unfold opqD at h
  generalize e : (PyData.dict [(PyData.bool false, PyData.int ((a : Nat) : Int))]) = z at h
  cases h with
  | non => cases e
  | bl => cases e
  | int => cases e
  | str => cases e
  | lst => cases e
  | scr h r =>
    unfold scrD at e
    injection e with e
    injection e with e1 e2
    injection e1 with e1 _
    cases e1
  | tup => cases e
  | opq b =>
    unfold opqD at e
    injection e with e
    injection e with e1 e2
    injection e1 with _ e1
    injection e1 with e1
    have : a = b := by exact Int.ofNat.inj e1
    rw [this]
  | net h r =>
    unfold netD at e
    injection e with e
    injection e with e1 e2
    cases e2
  | dic h s r =>
    injection e with e
    subst e
    cases r with
    | cons _ t _ _ _ => cases (keyOk_tup t).1

mutual
/-- no dict, no Net within -/
def plainD : D → Bool
  | .list xs => plainDs xs
  | .tuple xs => plainDs xs
  | .dict _ => false
  | _ => true
def plainDs : List D → Bool
  | [] => true
  | d :: ds => plainD d && plainDs ds
end
mutual
theorem plain_of_lay : ∀ {d : D}, d.canLay0 = true → plainD d = true
  | .none, _ => by simp [plainD]
  | .bool _, _ => by simp [plainD]
  | .int _, _ => by simp [plainD]
  | .str _, _ => by simp [plainD]
  | .list xs, h => by
    simp only [PyData.canLay0] at h
    simp only [plainD]
    exact plains_of_lay h
  | .tuple xs, h => by
    simp only [PyData.canLay0] at h
    simp only [plainD]
    exact plains_of_lay h
  | .dict _, h => by simp [PyData.canLay0] at h
theorem plains_of_lay : ∀ {ds : List D}, PyData.canLayAll0 ds = true → plainDs ds = true
  | [], _ => by simp [plainDs]
  | d :: ds, h => by
    simp only [PyData.canLayAll0, Bool.and_eq_true] at h
    simp only [plainDs, Bool.and_eq_true]
    exact ⟨plain_of_lay h.1, plains_of_lay h.2⟩
end
mutual
theorem R.dp : ∀ {v : V} {d : D}, R G B v d → plainD d = true → Dp G.K B v d
  | _, _, .non, _ => .non
  | _, _, .bl b, _ => .bl b
  | _, _, .int i, _ => .int i
  | _, _, .str x, _ => .str x
  | _, _, .lst h r, p => .lst (.inl (.inl h)) (RA.dp r (by simpa only [plainD] using p))
  | _, _, .scr h r, p => by simp [scrD, plainD] at p
  | _, _, .tup h r, p => .tup h (RA.dp r (by simpa only [plainD] using p))
  | _, _, .opq a, p => by simp [opqD, plainD] at p
  | _, _, .net h r, p => by simp [netD, plainD] at p
  | _, _, .dic h s r, p => by simp [plainD] at p
theorem RA.dp : ∀ {vs : List V} {ds : List D}, RA G B vs ds → plainDs ds = true → DpAll G.K B vs ds
  | _, _, .nil, _ => .nil
  | _, _, .cons h r, p => by
    simp only [plainDs, Bool.and_eq_true] at p
    exact .cons (R.dp h p.1) (RA.dp r p.2)
end

/-! ### owned trees: what a frame may still change -/
inductive OA (Pr : V → D → List Addr → Prop) : List V → List D → List Addr → Prop
  | nil : OA Pr [] [] []
  | cons {v : V} {d : D} {A1 A2 : List Addr} {vs : List V} {ds : List D} : Pr v d A1 → OA Pr vs ds A2 → OA Pr (v :: vs) (d :: ds) (A1 ++ A2)
mutual
/-- a list, a dict within -/
def hasL : D → Bool
  | .list _ => true
  | .dict _ => true
  | .tuple ds => hasLs ds
  | _ => false
def hasLs : List D → Bool
  | [] => false
  | d :: ds => hasL d || hasLs ds
end
def isLst : D → Bool
  | .list _ => true
  | .dict _ => true
  | .tuple ds => hasLs ds
  | _ => false
def Own (G : Ct) (B H : Hp) : Nat → V → D → List Addr → Prop
  | 0, v, d, A => R G B v d ∧ A = []
  | n + 1, v, d, A =>
    (∃ p vs ds A', v = .ref p ∧ d = .list ds ∧ H p = some (.lst vs) ∧ vs.length ≤ sizeLine ∧ B p = none ∧ OA (Own G B H n) vs ds A' ∧ A = p :: A') ∨
    ((∃ p xs kvs, v = .ref p ∧ d = .dict kvs ∧ H p = some (.ext (RawK G.P G.w p xs)) ∧ (p == sysModules) = false ∧ B p = none ∧ DA G B xs kvs ∧ A = [p]) ∨
     (∃ p dx i vm mm A', v = .ref p ∧ d = netD i mm ∧ H p = some (.ins G.C dx [("size", .int i), ("marks", vm)]) ∧ B p = none ∧ Own G B H n vm mm A' ∧ A = p :: A')) ∨
    (∃ p vs ds A', v = .ref p ∧ d = .tuple ds ∧ H p = some (.tup vs) ∧ B p = none ∧ OA (Own G B H n) vs ds A' ∧ A = p :: A') ∨
    (isLst d = false ∧ R G B v d ∧ A = [])

theorem OA.imp {Pr Pr' : V → D → List Addr → Prop} : ∀ {vs : List V} {ds : List D} {A : List Addr}, OA Pr vs ds A → (∀ v d A1, (∀ a ∈ A1, a ∈ A) → Pr v d A1 → Pr' v d A1) → OA Pr' vs ds A
  | _, _, _, .nil, _ => .nil
  | _, _, _, .cons h r, f => .cons (f _ _ _ (fun a ha => List.mem_append_left _ ha) h) (OA.imp r fun v d A1 hs q => f v d A1 (fun a ha => List.mem_append_right _ (hs a ha)) q)
theorem OA.length {Pr : V → D → List Addr → Prop} : ∀ {vs : List V} {ds : List D} {A : List Addr}, OA Pr vs ds A → vs.length = ds.length
  | _, _, _, .nil => rfl
  | _, _, _, .cons _ r => by rw [List.length_cons, List.length_cons, r.length]
theorem OA.append {Pr : V → D → List Addr → Prop} : ∀ {vs vs' : List V} {ds ds' : List D} {A A' : List Addr}, OA Pr vs ds A → OA Pr vs' ds' A' → OA Pr (vs ++ vs') (ds ++ ds') (A ++ A')
  | _, _, _, _, _, _, .nil, s => s
  | _, _, _, _, _, _, .cons h r, s => by
    rw [List.append_assoc]
    exact .cons h (r.append s)
theorem OA.of_RA {H : Hp} : ∀ {vs : List V} {ds : List D}, RA G B vs ds → OA (Own G B H 0) vs ds []
  | _, _, .nil => .nil
  | _, _, .cons h r => .cons (A1 := []) (A2 := []) ⟨h, rfl⟩ (OA.of_RA r)
theorem OA.to_RA {H : Hp} : ∀ {vs : List V} {ds : List D} {A : List Addr}, OA (Own G B H 0) vs ds A → RA G B vs ds ∧ A = []
  | _, _, _, .nil => ⟨.nil, rfl⟩
  | _, _, _, .cons h r => by
    obtain ⟨r1, e⟩ := r.to_RA
    obtain ⟨h1, e1⟩ := h
    subst e e1
    exact ⟨.cons h1 r1, rfl⟩

/-- an owned tree stands while its nodes stand and stay apart from what is shared -/
theorem Own.move {B B' H H' : Hp} (eB : Ex B B') : ∀ (n : Nat) (v : V) (d : D) (A : List Addr), Own G B H n v d A → (∀ a ∈ A, H' a = H a) → (∀ a ∈ A, B' a = none) → Own G B' H' n v d A
  | 0, _, _, _, ⟨r, e⟩, _, _ => ⟨r.mono eB, e⟩
  | n + 1, v, d, A, h, hH, hB => by
    have go : ∀ {vs : List V} {ds : List D} {A' : List Addr}, (∀ a ∈ A', a ∈ A) → OA (Own G B H n) vs ds A' → OA (Own G B' H' n) vs ds A' := fun sub q =>
      q.imp fun v d A1 hs q1 => Own.move eB n v d A1 q1 (fun a ha => hH a (sub a (hs a ha))) (fun a ha => hB a (sub a (hs a ha)))
    rcases h with ⟨p, vs, ds, A', e1, e2, h1, hz, h2, h3, e3⟩ | (⟨p, xs, kvs, e1, e2, h1, hs, h2, h3, e3⟩ | ⟨p, dx, i, vm, mm, A', e1, e2, h1, h2, h3, e3⟩) | ⟨p, vs, ds, A', e1, e2, h1, h2, h3, e3⟩ | ⟨h1, h2, e3⟩
    · have hp : p ∈ A := by rw [e3]; exact List.mem_cons_self
      exact .inl ⟨p, vs, ds, A', e1, e2, (hH p hp).trans h1, hz, hB p hp, go (fun a ha => by rw [e3]; exact List.mem_cons_of_mem _ ha) h3, e3⟩
    · have hp : p ∈ A := by rw [e3]; exact List.mem_cons_self
      exact .inr (.inl (.inl ⟨p, xs, kvs, e1, e2, (hH p hp).trans h1, hs, hB p hp, h3.mono eB, e3⟩))
    · have hp : p ∈ A := by rw [e3]; exact List.mem_cons_self
      have sub : ∀ a ∈ A', a ∈ A := fun a ha => by rw [e3]; exact List.mem_cons_of_mem _ ha
      exact .inr (.inl (.inr ⟨p, dx, i, vm, mm, A', e1, e2, (hH p hp).trans h1, hB p hp, Own.move eB n vm mm A' h3 (fun a ha => hH a (sub a ha)) (fun a ha => hB a (sub a ha)), e3⟩))
    · have hp : p ∈ A := by rw [e3]; exact List.mem_cons_self
      exact .inr (.inr (.inl ⟨p, vs, ds, A', e1, e2, (hH p hp).trans h1, hB p hp, go (fun a ha => by rw [e3]; exact List.mem_cons_of_mem _ ha) h3, e3⟩))
    · exact .inr (.inr (.inr ⟨h1, h2.mono eB, e3⟩))
/-- its nodes are in H, not in B -/
theorem Own.nodes {B H : Hp} : ∀ (n : Nat) (v : V) (d : D) (A : List Addr), Own G B H n v d A → ∀ a ∈ A, H a ≠ none ∧ B a = none
  | 0, _, _, _, ⟨_, e⟩, a, ha => by subst e; cases ha
  | n + 1, v, d, A, h, a, ha => by
    have go : ∀ {vs : List V} {ds : List D} {A' : List Addr}, OA (Own G B H n) vs ds A' → a ∈ A' → H a ≠ none ∧ B a = none := by
      intro vs ds A' q
      induction q with
      | nil => intro z; cases z
      | cons h1 _ ih =>
        intro z
        rcases List.mem_append.mp z with z | z
        · exact Own.nodes n _ _ _ h1 a z
        · exact ih z
    rcases h with ⟨p, vs, ds, A', e1, e2, h1, hz, h2, h3, e3⟩ | (⟨p, xs, kvs, e1, e2, h1, hs, h2, h3, e3⟩ | ⟨p, dx, i, vm, mm, A', e1, e2, h1, h2, h3, e3⟩) | ⟨p, vs, ds, A', e1, e2, h1, h2, h3, e3⟩ | ⟨h1, h2, e3⟩
    · rw [e3] at ha
      rcases List.mem_cons.mp ha with rfl | ha
      · exact ⟨by rw [h1]; simp, h2⟩
      · exact go h3 ha
    · rw [e3] at ha
      rcases List.mem_cons.mp ha with rfl | ha
      · exact ⟨by rw [h1]; simp, h2⟩
      · cases ha
    · rw [e3] at ha
      rcases List.mem_cons.mp ha with rfl | ha
      · exact ⟨by rw [h1]; simp, h2⟩
      · exact Own.nodes n _ _ _ h3 a ha
    · rw [e3] at ha
      rcases List.mem_cons.mp ha with rfl | ha
      · exact ⟨by rw [h1]; simp, h2⟩
      · exact go h3 ha
    · subst e3; cases ha

/-- the shared heap with the nodes A -/
def fz (A : List Addr) (B H : Hp) : Hp := fun a => if a ∈ A then H a else B a
theorem fz_in {A : List Addr} {a : Addr} (h : a ∈ A) : fz A B H a = H a := if_pos h
theorem fz_out {A : List Addr} {a : Addr} (h : a ∉ A) : fz A B H a = B a := if_neg h
theorem fz_ex {A : List Addr} (h : ∀ a ∈ A, B a = none) : Ex B (fz A B H) := fun a o e => by
  by_cases ha : a ∈ A
  · rw [h a ha] at e; cases e
  · rw [fz_out ha]; exact e
theorem fz_le {A : List Addr} (e : Ex B H) : Ex (fz A B H) H := fun a o q => by
  by_cases ha : a ∈ A
  · rw [fz_in ha] at q; exact q
  · rw [fz_out ha] at q; exact e a o q
theorem sqL_of {a : Addr} {vs : List V} (h : B a = some (.lst vs)) : SqL G.K B a vs := .inl (.inl h)
theorem sqT_of {a : Addr} {vs : List V} (h : B a = some (.tup vs)) : SqT G.K B a vs := .inl (.inl h)
/-- an owned tree is shared from now on -/
theorem Own.freeze {B H B' : Hp} (eB : Ex B B') : ∀ (n : Nat) (v : V) (d : D) (A : List Addr), Own G B H n v d A → (∀ a ∈ A, B' a = H a) → R G B' v d
  | 0, _, _, _, ⟨r, _⟩, _ => r.mono eB
  | n + 1, v, d, A, h, hB => by
    have go : ∀ {vs : List V} {ds : List D} {A' : List Addr}, OA (Own G B H n) vs ds A' → (∀ a ∈ A', B' a = H a) → RA G B' vs ds := by
      intro vs ds A' q
      induction q with
      | nil => intro _; exact .nil
      | cons h1 _ ih => exact fun z => .cons (Own.freeze eB n _ _ _ h1 fun a ha => z a (List.mem_append_left _ ha)) (ih fun a ha => z a (List.mem_append_right _ ha))
    rcases h with ⟨p, vs, ds, A', e1, e2, h1, hz, h2, h3, e3⟩ | (⟨p, xs, kvs, e1, e2, h1, hs, h2, h3, e3⟩ | ⟨p, dx, i, vm, mm, A', e1, e2, h1, h2, h3, e3⟩) | ⟨p, vs, ds, A', e1, e2, h1, h2, h3, e3⟩ | ⟨h1, h2, e3⟩
    · subst e1 e2 e3
      exact .lst ((hB p List.mem_cons_self).trans h1) (go h3 fun a ha => hB a (List.mem_cons_of_mem _ ha))
    · subst e1 e2 e3
      exact .dic ((hB p List.mem_cons_self).trans h1) hs (h3.mono eB)
    · subst e1 e2 e3
      exact .net ((hB p List.mem_cons_self).trans h1) (Own.freeze eB n vm mm A' h3 fun a ha => hB a (List.mem_cons_of_mem _ ha))
    · subst e1 e2 e3
      exact .tup (sqT_of ((hB p List.mem_cons_self).trans h1)) (go h3 fun a ha => hB a (List.mem_cons_of_mem _ ha))
    · exact h2.mono eB
theorem Own.frozen {n : Nat} {v : V} {d : D} {A : List Addr} (h : Own G B H n v d A) : R G (fz A B H) v d :=
  h.freeze (fz_ex fun a ha => (h.nodes n v d A a ha).2) n v d A fun a ha => fz_in ha

/-! ### from one state to the next -/
/-- B, B': what is shared; H, H': all. Nothing old comes into what is shared -/
structure Ext (B H B' H' : Hp) : Prop where
  b : Ex B B'
  h : Ex H H'
  w : Ex B' H'
  n : ∀ a, B a = none → H a ≠ none → B' a = none
theorem Ext.refl (e : Ex B H) : Ext B H B H := ⟨Ex.refl _, Ex.refl _, e, fun _ h _ => h⟩
theorem Ext.trans {B1 H1 B2 H2 : Hp} (a : Ext B H B1 H1) (b : Ext B1 H1 B2 H2) : Ext B H B2 H2 :=
  ⟨a.b.trans b.b, a.h.trans b.h, b.w, fun x h1 h2 => b.n x (a.n x h1 h2) fun z => by
    cases q : H x with
    | none => exact h2 q
    | some o => rw [a.h x o q] at z; cases z⟩
theorem Ex.back {H H' : Hp} {a : Addr} (e : Ex H H') (h : H' a = none) : H a = none := fresh_back e h
theorem Ex.some {H H' : Hp} {a : Addr} (e : Ex H H') (h : H a ≠ none) : H' a = H a := by
  cases q : H a with
  | none => exact absurd q h
  | some o => exact e a o q
/-- a new object, shared -/
theorem Ext.new {p : Addr} {o : HO} (e : Ex B H) (h : H p = none) : Ext B H (upd B p o) (upd H p o) :=
  ⟨Ex.new (Ex.back e h), Ex.new h, fun a u q => by
    by_cases ha : a = p
    · subst ha; rw [upd_same] at q; rw [upd_same]; exact q
    · rw [upd_ne ha] at q; rw [upd_ne ha]; exact e a u q, fun a h1 h2 => by
    have : a ≠ p := fun z => h2 (z ▸ h)
    rw [upd_ne this]; exact h1⟩
/-- a new object, not shared -/
theorem Ext.own {p : Addr} {o : HO} (e : Ex B H) (h : H p = none) : Ext B H B (upd H p o) := ⟨Ex.refl _, Ex.new h, e.trans (Ex.new h), fun _ h1 _ => h1⟩
theorem Ext.heap {H' : Hp} (e : Ex B H) (e' : Ex H H') : Ext B H B H' := ⟨Ex.refl _, e', e.trans e', fun _ h1 _ => h1⟩
/-- fresh nodes frozen -/
theorem Ext.fz {A : List Addr} {B1 H1 : Hp} (x : Ext B H B1 H1) (hn : ∀ a ∈ A, H a = none) (hb : ∀ a ∈ A, B1 a = none) : Ext B H (fz A B1 H1) H1 :=
  ⟨x.b.trans (fz_ex hb), x.h, fz_le x.w, fun a h1 h2 => by
    have ha : a ∉ A := fun z => h2 (hn a z)
    rw [fz_out ha]
    exact x.n a h1 h2⟩
theorem Own.ext {B1 H1 : Hp} {n : Nat} {v : V} {d : D} {A : List Addr} (h : Own G B H n v d A) (x : Ext B H B1 H1) : Own G B1 H1 n v d A :=
  Own.move x.b n v d A h (fun a ha => Ex.some x.h (h.nodes n v d A a ha).1) (fun a ha => x.n a (h.nodes n v d A a ha).2 (h.nodes n v d A a ha).1)

/-! ### the frame's names as data -/
abbrev Rho := List (Option (Nat × D))
/-- names that nothing is known of; names with data, to a depth owned -/
inductive ER (G : Ct) (B H : Hp) : L2.St → Rho → List Addr → Prop
  | nil : ER G B H [] [] []
  | skip {x : Option V} {σ : L2.St} {ρ : Rho} {A : List Addr} : ER G B H σ ρ A → ER G B H (x :: σ) (none :: ρ) A
  | cons {v : V} {n : Nat} {d : D} {A1 A2 : List Addr} {σ : L2.St} {ρ : Rho} : Own G B H n v d A1 → ER G B H σ ρ A2 → ER G B H (some v :: σ) (some (n, d) :: ρ) (A1 ++ A2)
theorem ER.ext {B1 H1 : Hp} (x : Ext B H B1 H1) : ∀ {σ : L2.St} {ρ : Rho} {A : List Addr}, ER G B H σ ρ A → ER G B1 H1 σ ρ A
  | _, _, _, .nil => .nil
  | _, _, _, .skip r => .skip (r.ext x)
  | _, _, _, .cons h r => .cons (h.ext x) (r.ext x)
theorem ER.move {B B' H H' : Hp} (eB : Ex B B') : ∀ {σ : L2.St} {ρ : Rho} {A : List Addr}, ER G B H σ ρ A → (∀ a ∈ A, H' a = H a) → (∀ a ∈ A, B' a = none) → ER G B' H' σ ρ A
  | _, _, _, .nil, _, _ => .nil
  | _, _, _, .skip r, h1, h2 => .skip (r.move eB h1 h2)
  | _, _, _, .cons h r, h1, h2 => .cons (Own.move eB _ _ _ _ h (fun a ha => h1 a (List.mem_append_left _ ha)) (fun a ha => h2 a (List.mem_append_left _ ha)))
      (r.move eB (fun a ha => h1 a (List.mem_append_right _ ha)) (fun a ha => h2 a (List.mem_append_right _ ha)))
theorem ER.length : ∀ {σ : L2.St} {ρ : Rho} {A : List Addr}, ER G B H σ ρ A → σ.length = ρ.length
  | _, _, _, .nil => rfl
  | _, _, _, .skip r => by rw [List.length_cons, List.length_cons, r.length]
  | _, _, _, .cons _ r => by rw [List.length_cons, List.length_cons, r.length]
theorem ER.nodes : ∀ {σ : L2.St} {ρ : Rho} {A : List Addr}, ER G B H σ ρ A → ∀ a ∈ A, H a ≠ none ∧ B a = none
  | _, _, _, .nil, a, h => by cases h
  | _, _, _, .skip r, a, h => r.nodes a h
  | _, _, _, .cons h r, a, ha => (List.mem_append.mp ha).elim (fun z => h.nodes _ _ _ _ a z) (fun z => r.nodes a z)
/-- all is shared -/
def frz (ρ : Rho) : Rho := ρ.map fun x => x.map fun y => (0, y.2)
theorem ER.freeze {B' : Hp} (eB : Ex B B') : ∀ {σ : L2.St} {ρ : Rho} {A : List Addr}, ER G B H σ ρ A → (∀ a ∈ A, B' a = H a) → ER G B' H σ (frz ρ) []
  | _, _, _, .nil, _ => .nil
  | _, _, _, .skip r, h => .skip (r.freeze eB h)
  | _, _, _, .cons (A1 := A1) h r, hA => .cons (A1 := []) (A2 := []) ⟨h.freeze eB _ _ _ _ fun a ha => hA a (List.mem_append_left _ ha), rfl⟩ (r.freeze eB fun a ha => hA a (List.mem_append_right _ ha))
theorem ER.frozen {σ : L2.St} {ρ : Rho} {A : List Addr} (h : ER G B H σ ρ A) : ER G (fz A B H) H σ (frz ρ) [] :=
  h.freeze (fz_ex fun a ha => (h.nodes a ha).2) fun a ha => fz_in ha
theorem ER.get : ∀ {σ : L2.St} {ρ : Rho} {A : List Addr} {i n : Nat} {d : D}, ER G B H σ ρ A → ρ[i]? = some (some (n, d)) → ∃ v A1, σ[i]? = some (some v) ∧ Own G B H n v d A1 ∧ ∀ a ∈ A1, a ∈ A
  | _, _, _, _, _, _, .nil, e => by simp at e
  | _, _, _, 0, _, _, .skip _, e => by simp at e
  | _, _, _, i + 1, n, d, .skip r, e => by
    obtain ⟨v, A1, h1, h2, h3⟩ := ER.get (i := i) (n := n) (d := d) r (by simpa using e)
    exact ⟨v, A1, by simpa using h1, h2, h3⟩
  | _, _, _, 0, _, _, .cons (A1 := A1) h r, e => by
    simp at e
    obtain ⟨rfl, rfl⟩ := e
    exact ⟨_, A1, rfl, h, fun a ha => List.mem_append_left _ ha⟩
  | _, _, _, i + 1, n, d, .cons h r, e => by
    obtain ⟨v, A1, h1, h2, h3⟩ := ER.get (i := i) (n := n) (d := d) r (by simpa using e)
    exact ⟨v, A1, by simpa using h1, h2, fun a ha => List.mem_append_right _ (h3 a ha)⟩
/-- a name stored: what it held is let go -/
theorem ER.set {v : V} {n : Nat} {d : D} {Av : List Addr} (hv : Own G B H n v d Av) : ∀ {σ : L2.St} {ρ : Rho} {A : List Addr} (i : Nat), ER G B H σ ρ A → i < ρ.length → A.Nodup → Av.Nodup → (∀ a ∈ Av, a ∉ A) →
    ∃ A', ER G B H (σ.set i (some v)) (ρ.set i (some (n, d))) A' ∧ A'.Nodup ∧ ∀ a ∈ A', a ∈ Av ∨ a ∈ A
  | _, _, _, _, .nil, hi, _, _, _ => by simp at hi
  | _, _, A, 0, .skip r, _, n1, n2, n3 => ⟨Av ++ A, .cons hv r, List.nodup_append.mpr ⟨n2, n1, fun a ha b hb e => n3 a ha (e ▸ hb)⟩, fun a ha => List.mem_append.mp ha⟩
  | _, _, _, 0, .cons (A1 := A1) (A2 := A2) h r, _, n1, n2, n3 => ⟨Av ++ A2, .cons hv r, List.nodup_append.mpr ⟨n2, (List.nodup_append.mp n1).2.1, fun a ha b hb e => n3 a ha (List.mem_append_right _ (e ▸ hb))⟩,
      fun a ha => (List.mem_append.mp ha).elim .inl fun z => .inr (List.mem_append_right _ z)⟩
  | _, _, A, i + 1, .skip r, hi, n1, n2, n3 => by
    obtain ⟨A', h1, h2, h3⟩ := ER.set hv i r (by simpa using hi) n1 n2 n3
    exact ⟨A', .skip h1, h2, h3⟩
  | _, _, _, i + 1, .cons (A1 := A1) (A2 := A2) h r, hi, n1, n2, n3 => by
    obtain ⟨m1, m2, m3⟩ := List.nodup_append.mp n1
    obtain ⟨A', h1, h2, h3⟩ := ER.set hv i r (by simpa using hi) m2 n2 (fun a ha z => n3 a ha (List.mem_append_right _ z))
    refine ⟨A1 ++ A', .cons h h1, List.nodup_append.mpr ⟨m1, h2, fun a ha b hb e => ?_⟩, fun a ha => ?_⟩
    · rcases h3 b hb with z | z
      · exact n3 b z (List.mem_append_left _ (e ▸ ha))
      · exact m3 a ha b z e
    · rcases List.mem_append.mp ha with z | z
      · exact .inr (List.mem_append_left _ z)
      · rcases h3 a z with q | q
        · exact .inl q
        · exact .inr (List.mem_append_right _ q)
end
end M

/-! MRead: readings told as functions on data. -/
namespace M
open PySem PySem.Spec L2 PyProof.Rows Evl

def O.bind (o : O) (k : D → O) : O := match o with
  | .ok d => k d
  | .ex c => .ex c
  | .bad => .bad
theorem O.bind_ok {d : D} {k : D → O} : (O.ok d).bind k = k d := rfl
theorem O.bind_ex {c : Nat} {k : D → O} : (O.ex c).bind k = .ex c := rfl
theorem O.bind_bad {k : D → O} : O.bad.bind k = .bad := rfl
abbrev FE := Rho → O
def EnvOk (G : Ct) (B H : Hp) (σ : L2.St) (ρ : Rho) : Prop := ∃ A, ER G B H σ ρ A ∧ A.Nodup
section
variable {G : Ct} {B H B1 H1 : Hp} {σ : L2.St} {ρ : Rho}
theorem EnvOk.ext (h : EnvOk G B H σ ρ) (x : Ext B H B1 H1) : EnvOk G B1 H1 σ ρ := let ⟨A, r, n⟩ := h; ⟨A, r.ext x, n⟩
theorem Own.nodup0 {n : Nat} {v : V} {d : D} {A : List Addr} (h : Own G B H 0 v d A) : A = [] := h.2
end
/-- behind an expression: the new value is fresh to the depth n -/
def PostE (G : Ct) (W : WX) (σ : L2.St) (n : Nat) (B H : Hp) (Q : VK) : O → Prop
  | .ok d => ∀ v B' H' A, Ext B H B' H' → Own G B' H' n v d A → A.Nodup → (∀ a ∈ A, H a = none) → Q v H'
  | .ex c => ∀ B' H', Ext B H B' H' → W (.ref (G.xc c)) none σ H'
  | .bad => False
/-- the reading of an expression by its function on data -/
def tDO (G : Ct) (W : WX) (n : Nat) (f : FE) : TE := fun σ H Q => ∃ B ρ, Ex B H ∧ EnvOk G B H σ ρ ∧ PostE G W σ n B H Q (f ρ)
abbrev tD (G : Ct) (W : WX) (f : FE) : TE := tDO G W 0 f
/-- no exception -/
abbrev W0 : WX := fun _ _ _ _ => False
def Pass (X : Cx) (W : WX) : Prop := ∀ σ, PassesAt (L2.CX X.prog X.w) X σ (WE W σ)
theorem pass_tk {X : Cx} {W : WX} (tk : Takes X W) : Pass X W := passAt tk
theorem pass_0 {X : Cx} : Pass X W0 := fun σ pins H s e s' I h => passL pins σ H s e s' I h

theorem weak {X : Cx} {e : Expr} {t t' : TE} (h : PE X e t) (k : ∀ σ H Q, t' σ H Q → t σ H Q) : PE X e t' := ⟨fun pins s σ H Q I q => h.run pins s σ H Q I (k σ H Q q)⟩
theorem weakT {X : Cx} {e : Expr} {t t' : TT} (h : PT X e t) (k : ∀ σ H Q, t' σ H Q → t σ H Q) : PT X e t' := ⟨fun pins s σ H Q I q => h.run pins s σ H Q I (k σ H Q q)⟩
theorem weakW {X : Cx} {e : Expr} {t t' : TT} (h : PW X e t) (k : ∀ σ H Q, t' σ H Q → t σ H Q) : PW X e t' := ⟨fun wh pins s σ H Q I q => h.run wh pins s σ H Q I (k σ H Q q)⟩
theorem weakA {X : Cx} {e : List Expr} {t t' : TA} (h : PA X e t) (k : ∀ σ H Q, t' σ H Q → t σ H Q) : PA X e t' := ⟨fun pos pins s σ H Q I q => h.run pos pins s σ H Q I (k σ H Q q)⟩
theorem weakS {X : Cx} {e : Stmt} {t t' : TS} (h : PS X e t) (k : ∀ D σ H, t' D σ H → t D σ H) : PS X e t' := ⟨fun pins s σ H Q I q => h.run pins s σ H Q I (k Q σ H q)⟩
theorem weakSs {X : Cx} {e : List Stmt} {t t' : TS} (h : PSs X e t) (k : ∀ D σ H, t' D σ H → t D σ H) : PSs X e t' := ⟨fun pins s σ H Q I q => h.run pins s σ H Q I (k Q σ H q)⟩
theorem weakG {X : Cx} {e : Expr} {t t' : TG} (h : PG X e t) (k : ∀ v σ H Q, t' v σ H Q → t v σ H Q) : PG X e t' := ⟨fun pins s σ H v u Q I r q => h.run pins s σ H v u Q I r (k v σ H Q q)⟩
theorem weakI {X : Cx} {tg e : Expr} {t t' : TI} (h : PI X tg e t) (k : ∀ σ H Q, t' σ H Q → t σ H Q) : PI X tg e t' := ⟨fun pins s σ H Q I q => h.run pins s σ H Q I (k σ H Q q)⟩

section
variable {G : Ct} {W : WX} {n m : Nat} {B H B1 H1 : Hp} {σ : L2.St} {ρ : Rho} {Q : VK} {o : O}
theorem fresh_ext {A : List Addr} (x : Ext B H B1 H1) (h : ∀ a ∈ A, H1 a = none) : ∀ a ∈ A, H a = none := fun a ha => Ex.back x.h (h a ha)
theorem PostE.ext (h : PostE G W σ n B H Q o) (x : Ext B H B1 H1) : PostE G W σ n B1 H1 Q o := by
  cases o with
  | ok d => exact fun v B' H' A y hv nd fr => h v B' H' A (x.trans y) hv nd (fresh_ext x fr)
  | ex c => exact fun B' H' y => h B' H' (x.trans y)
  | bad => exact h
/-- an expression, then what hangs on its value -/
theorem seqE {f : FE} {k : D → O} {Q1 : VK} (e : Ex B H) (env : EnvOk G B H σ ρ) (h : PostE G W σ m B H Q ((f ρ).bind k))
    (hk : ∀ d v B' H' A, f ρ = .ok d → Ext B H B' H' → Own G B' H' n v d A → A.Nodup → (∀ a ∈ A, H a = none) → PostE G W σ m B' H' Q (k d) → Q1 v H') : tDO G W n f σ H Q1 := by
  refine ⟨B, ρ, e, env, ?_⟩
  cases q : f ρ with
  | ok d =>
    rw [q] at h
    exact fun v B' H' A x hv nd fr => hk d v B' H' A q x hv nd fr (PostE.ext (o := k d) h x)
  | ex c => rw [q] at h; exact h
  | bad => rw [q] at h; exact h
theorem fin {v : V} {d : D} {A : List Addr} (h : PostE G W σ n B H Q (.ok d)) (x : Ext B H B1 H1) (hv : Own G B1 H1 n v d A) (nd : A.Nodup) (fr : ∀ a ∈ A, H a = none) : Q v H1 := h v B1 H1 A x hv nd fr
theorem fin0 {v : V} {d : D} (h : PostE G W σ 0 B H Q (.ok d)) (x : Ext B H B1 H1) (hv : R G B1 v d) : Q v H1 := h v B1 H1 [] x ⟨hv, rfl⟩ List.nodup_nil (fun _ z => nomatch z)
/-- frozen at once -/
theorem de_frz {X : Cx} {C : Addr} {xc : Nat → Addr} {e : Expr} {f : FE} (h : PE X e (tDO (ct X C xc) W n f)) : PE X e (tD (ct X C xc) W f) := weak h fun σ H Q ⟨B, ρ, e, env, p⟩ => ⟨B, ρ, e, env, by
  cases q : f ρ with
  | ok d =>
    rw [q] at p
    exact fun v B' H' A x hv nd fr => p v (fz A B' H') H' [] (x.fz fr fun a ha => (hv.nodes _ _ _ _ a ha).2) ⟨hv.frozen, rfl⟩ List.nodup_nil (fun _ z => nomatch z)
  | ex c => rw [q] at p; exact p
  | bad => rw [q] at p; exact p⟩
end

/-! ### names, constants -/
def fVar (i : Nat) : FE := fun ρ => match ρ[i]? with
  | some (some (0, d)) => .ok d
  | _ => .bad
def fC (d : D) : FE := fun _ => .ok d
section
variable {X : Cx} {C : Addr} {xc : Nat → Addr} {W : WX} {n : Nat}
theorem de_var {i : Nat} {x : Str} {pos : Pos} (hN : X.N[i]? = some x := by rfl) (hv : Vis X.env.scope x := by first | exact Or.inl rfl | exact Or.inr (Or.inl rfl) | exact Or.inr (Or.inr rfl)) (hd : (x == ("__debug__" : Str)) = false := by decide)
    (hcd : (x == ("__classdict__" : Str)) = false := by decide) : PE X (.Name x pos) (tD (ct X C xc) W (fVar i)) := weak (pe_var hN hv hd hcd) fun σ H Q ⟨B, ρ, e, ⟨A, r, _⟩, p⟩ => by
  unfold fVar at p
  split at p
  · rename_i d q
    obtain ⟨v, A1, h1, ⟨h2, _⟩, _⟩ := r.get q
    exact ⟨v, h1, fin0 p (.refl e) h2⟩
  · exact p.elim
theorem de_int {i : Int} {j : Nat} {pos : Pos} : PE X (.Constant (.int i) j pos) (tD (ct X C xc) W (fC (.int i))) := weak pe_int fun σ H Q ⟨B, ρ, e, _, p⟩ => fin0 p (.refl e) (.int i)
theorem de_bl {i : Bool} {j : Nat} {pos : Pos} : PE X (.Constant (.bool i) j pos) (tD (ct X C xc) W (fC (.bool i))) := weak pe_bl fun σ H Q ⟨B, ρ, e, _, p⟩ => fin0 p (.refl e) (.bl i)
theorem de_str {i : Str} {j : Nat} {pos : Pos} : PE X (.Constant (.str i) j pos) (tD (ct X C xc) W (fC (.str i))) := weak pe_str fun σ H Q ⟨B, ρ, e, _, p⟩ => fin0 p (.refl e) (.str i)
theorem de_non {j : Nat} {pos : Pos} : PE X (.Constant .none j pos) (tD (ct X C xc) W (fC .none)) := weak pe_non fun σ H Q ⟨B, ρ, e, _, p⟩ => fin0 p (.refl e) .non
/-- a module's whole number -/
theorem de_globI {x : Str} {i : Int} {pos : Pos} (hg : Gl X x) (hm : ∃ t, X.mg x = some (.int i t)) (hd : (x == ("__debug__" : Str)) = false := by decide) : PE X (.Name x pos) (tD (ct X C xc) W (fC (.int i))) := by
  obtain ⟨t, hm⟩ := hm
  exact weak (pe_glob (v := .int i) hg hm ⟨t, rfl⟩ hd) fun σ H Q ⟨B, ρ, e, _, p⟩ => fin0 p (.refl e) (.int i)

/-! ### operators on values -/
def rD (G : Ct) (n : Nat) (g : D → D → O) : R2 := fun x y H Q => ∃ B dx dy, Ex B H ∧ R G B x dx ∧ R G B y dy ∧ PostE G W0 [] n B H Q (g dx dy)
/-- no exception of its own -/
def Calm2 (g : D → D → O) : Prop := ∀ x y c, g x y ≠ .ex c
def fBin (g : D → D → O) (f1 f2 : FE) : FE := fun ρ => (f1 ρ).bind fun x => (f2 ρ).bind fun y => g x y
theorem PostE.calm {G : Ct} {B H : Hp} {σ σ' : L2.St} {W W' : WX} {Q : VK} {o : O} (hc : ∀ c, o ≠ .ex c) (p : PostE G W σ n B H Q o) : PostE G W' σ' n B H Q o := by
  cases o with
  | ok d => exact p
  | ex c => exact absurd rfl (hc c)
  | bad => exact p
theorem bin_go {g : D → D → O} {f1 f2 : FE} (hc : Calm2 g) {σ : L2.St} {H : Hp} {Q : VK} (h : tDO (ct X C xc) W n (fBin g f1 f2) σ H Q) : tOp (rD (ct X C xc) n g) (tD (ct X C xc) W f1) (tD (ct X C xc) W f2) σ H Q := by
  obtain ⟨B, ρ, e, env, p⟩ := h
  refine seqE (m := n) e env p fun d1 v1 B1 H1 A1 q1 x1 ⟨r1, _⟩ _ _ p1 => ?_
  refine seqE (m := n) x1.w (env.ext x1) p1 fun d2 v2 B2 H2 A2 q2 x2 ⟨r2, _⟩ _ _ p2 => ?_
  exact ⟨B2, d1, d2, x2.w, r1.mono x2.b, r2, p2.calm (hc d1 d2)⟩
theorem de_op {op : Operator} {g : D → D → O} {a b : Expr} {f1 f2 : FE} {pos : Pos} (ho : OpR X (binaryOp op) (rD (ct X C xc) n g)) (hc : Calm2 g) (ha : PE X a (tD (ct X C xc) W f1)) (hb : PE X b (tD (ct X C xc) W f2)) :
    PE X (.BinOp a op b pos) (tDO (ct X C xc) W n (fBin g f1 f2)) := weak (pe_op ho ha hb) fun _ _ _ h => bin_go hc h
theorem de_cmp {op : CmpOp} {g : D → D → O} {a b : Expr} {f1 f2 : FE} {pos : Pos} (ho : OpR X (compareOp op) (rD (ct X C xc) 0 g)) (hc : Calm2 g) (ha : PE X a (tD (ct X C xc) W f1)) (hb : PE X b (tD (ct X C xc) W f2)) (hm : behindInMarks op b = false := by first | exact nomark _ | rfl) :
    PE X (.Compare a [op] [b] pos) (tD (ct X C xc) W (fBin g f1 f2)) := weak (pe_cmpR ho ha hb hm) fun _ _ _ h => bin_go hc h
def fUn (g : D → O) (f : FE) : FE := fun ρ => (f ρ).bind g
def dNeg : D → O
  | .int i => .ok (.int (-i))
  | _ => .bad
theorem de_neg {a : Expr} {f : FE} {pos : Pos} (ha : PE X a (tD (ct X C xc) W f)) : PE X (.UnaryOp .USub a pos) (tD (ct X C xc) W (fUn dNeg f)) := weak (pe_un un_neg ha) fun σ H Q ⟨B, ρ, e, env, p⟩ => by
  refine seqE (m := 0) e env p fun d v B1 H1 A q x ⟨r, _⟩ _ _ p1 => ?_
  unfold dNeg at p1
  split at p1
  · exact ⟨_, r.int_inv, fin0 p1 (.refl x.w) (.int _)⟩
  · exact p1.elim
theorem opD_int {f : Value → Value → Sem Value} {C0 : Int → Int → Prop} [∀ i j, Decidable (C0 i j)] {h : Int → Int → D} {hv : Int → Int → V} (ho : OpR X f (rI C0 hv)) (hr : ∀ B i j, R (ct X C xc) B (hv i j) (h i j)) {g : D → D → O} (hg : ∀ x y, g x y = .bad ∨ ∃ i j, x = .int i ∧ y = .int j ∧ C0 i j ∧ g x y = .ok (h i j)) :
    OpR X f (rD (ct X C xc) 0 g) := by
  intro pins s σ H x y v u Q I rx ry ⟨B, dx, dy, e, r1, r2, p⟩
  rcases hg dx dy with z | ⟨i, j, e1, e2, c0, z⟩
  · rw [z] at p; exact p.elim
  · rw [z] at p
    subst e1 e2
    exact ho pins s σ H x y v u Q I rx ry ⟨i, j, r1.int_inv, r2.int_inv, c0, fin0 p (.refl e) (hr _ i j)⟩
theorem opD_int0 {f : Value → Value → Sem Value} {h : Int → Int → D} {hv : Int → Int → V} (ho : OpR X f (rI0 hv)) (hr : ∀ B i j, R (ct X C xc) B (hv i j) (h i j)) {g : D → D → O} (hg : ∀ x y, g x y = .bad ∨ ∃ i j, x = .int i ∧ y = .int j ∧ g x y = .ok (h i j)) :
    OpR X f (rD (ct X C xc) 0 g) := by
  intro pins s σ H x y v u Q I rx ry ⟨B, dx, dy, e, r1, r2, p⟩
  rcases hg dx dy with z | ⟨i, j, e1, e2, z⟩
  · rw [z] at p; exact p.elim
  · rw [z] at p
    subst e1 e2
    exact ho pins s σ H x y v u Q I rx ry ⟨i, j, r1.int_inv, r2.int_inv, fin0 p (.refl e) (hr _ i j)⟩
def dInt2 (c : Int → Int → Bool) (h : Int → Int → D) : D → D → O
  | .int i, .int j => if c i j = true then .ok (h i j) else .bad
  | _, _ => .bad
theorem dInt2_calm {c : Int → Int → Bool} {h : Int → Int → D} : Calm2 (dInt2 c h) := fun x y k z => by
  unfold dInt2 at z
  split at z
  · split at z <;> cases z
  · cases z
theorem dInt2_is {c : Int → Int → Bool} {h : Int → Int → D} (x y : D) : dInt2 c h x y = .bad ∨ ∃ i j, x = .int i ∧ y = .int j ∧ c i j = true ∧ dInt2 c h x y = .ok (h i j) := by
  unfold dInt2
  split
  · rename_i i j
    by_cases q : c i j = true
    · exact .inr ⟨i, j, rfl, rfl, q, by rw [if_pos q]⟩
    · exact .inl (by rw [if_neg q])
  · exact .inl rfl
instance (i j : Int) : Decidable (CMul i j) := by unfold CMul; infer_instance
instance (i j : Int) : Decidable (CDiv i j) := by unfold CDiv; infer_instance
instance (i j : Int) : Decidable (CPow i j) := by unfold CPow; infer_instance
abbrev cT : Int → Int → Bool := fun _ _ => true
/-- a + b, a - b, a * b, a // b, a % b, a ** b of whole numbers -/
abbrev dSub : D → D → O := dInt2 cT fun i j => .int (i - j)
abbrev dMul : D → D → O := dInt2 (fun i j => decide (CMul i j)) fun i j => .int (i * j)
abbrev dDiv : D → D → O := dInt2 (fun i j => decide (CDiv i j)) fun i j => .int (i / j)
abbrev dMod : D → D → O := dInt2 (fun _ j => decide (0 < j)) fun i j => .int (i % j)
abbrev dPow : D → D → O := dInt2 (fun i j => decide (CPow i j)) fun i j => .int (i ^ j.toNat)
end
end M

/-! MOps: operators on data. -/
namespace M
open PySem PySem.Spec L2 PyProof.Rows Evl

/-- Hu: room for the comparisons (hr.units of a def) -/
abbrev Hu (X : Cx) : Prop := X.A.units + 100 < cLine
theorem hu_of_room {k : Nat} {A : Around} (hr : Room k A) : A.units + 100 < cLine := by have := hr.un; omega

/-- + of whole numbers -/
abbrev dAdd : D → D → O := dInt2 cT fun i j => .int (i + j)
def dCat : D → D → O
  | .list xs, .list ys => if xs.length + ys.length ≤ 16777216 then .ok (.list (xs ++ ys)) else .bad
  | _, _ => .bad
def dRep : D → D → O
  | .list xs, .int k => if -(2 ^ 63) ≤ k ∧ k < 2 ^ 63 ∧ xs.length * k.toNat ≤ 16777216 then .ok (.list (List.replicate k.toNat xs).flatten) else .bad
  | _, _ => .bad
def okD (d : D) : Bool := SeqAt.shaped d
def dEq (x y : D) : O := if (okD x && okD y) = true then .ok (.bool (PyData.eqv x y)) else .bad
def dNe (x y : D) : O := if (okD x && okD y) = true then .ok (.bool (!PyData.eqv x y)) else .bad
def ordOk (x y : D) : Bool := (PySem.W.alike x y && (okD x && okD y)) && (match x with | .none => false | _ => true)
/-- <, <=, >, >= of whole numbers; of data that are alike -/
def dLt : D → D → O
  | .int i, .int j => .ok (.bool (decide (i < j)))
  | x, y => if ordOk x y = true then .ok (.bool (PySem.W.dataLt x y)) else .bad
def dLe : D → D → O
  | .int i, .int j => .ok (.bool (decide (i ≤ j)))
  | _, _ => .bad
def dGt : D → D → O
  | .int i, .int j => .ok (.bool (decide (j < i)))
  | _, _ => .bad
def dGe : D → D → O
  | .int i, .int j => .ok (.bool (decide (j ≤ i)))
  | x, y => if ordOk x y = true then .ok (.bool (!PySem.W.dataLt x y)) else .bad
/-- the value under a key -/
def dLook (kvs : List (D × D)) (nk : NestedKey) : Option D := match kvs with
  | [] => none
  | (k, d) :: r => if keyOk k = some nk then some d else dLook r nk
def tupKeys (kvs : List (D × D)) : Bool := kvs.all fun p => isTupD p.1
def dIn : D → D → O
  | x, .list ds => if (okD x && okD (.list ds)) = true then .ok (.bool (ds.any fun z => PyData.eqv z x)) else .bad
  | x, .tuple ds => if (okD x && okD (.tuple ds)) = true then .ok (.bool (ds.any fun z => PyData.eqv z x)) else .bad
  | x, .dict kvs => if tupKeys kvs = true then (match keyOk x with
    | some nk => .ok (.bool (dLook kvs nk).isSome)
    | none => .bad) else .bad
  | _, _ => .bad
def dNot : D → O
  | .bool b => .ok (.bool (!b))
  | _ => .bad
def dNotIn (x y : D) : O := (dIn x y).bind dNot
def isNoneD : D → Bool
  | .none => true
  | _ => false
def dIsN (x y : D) : O := match y with
  | .none => .ok (.bool (isNoneD x))
  | _ => .bad
def dIsNotN (x y : D) : O := (dIsN x y).bind dNot
/-- x[i] -/
def dIx : D → D → O
  | .list ds, .int i => match atI ds i with
    | some d => .ok d
    | none => .bad
  | .tuple ds, .int i => match atI ds i with
    | some d => .ok d
    | none => .bad
  | _, _ => .bad
/-- script[i] -/
def dIxS : D → D → O
  | .list ds, .int i => match atI ds i with
    | some d => .ok d
    | none => .bad
  | .dict [(.bool true, .list ds)], .int i => match atI ds i with
    | some d => .ok d
    | none => .bad
  | _, _ => .bad
def dIxK : D → D → O
  | .dict kvs, x => if tupKeys kvs = true then (match keyOk x with
    | some nk => match dLook kvs nk with
      | some d => .ok d
      | none => .bad
    | none => .bad) else .bad
  | _, _ => .bad

theorem calm_match2 {g : D → D → O} (h : ∀ x y, g x y = .bad ∨ ∃ d, g x y = .ok d) : Calm2 g := fun x y c z => by
  rcases h x y with e | ⟨d, e⟩ <;> (rw [e] at z; cases z)
theorem dIn_ok (x y : D) : dIn x y = .bad ∨ ∃ b, dIn x y = .ok (.bool b) := by
  unfold dIn
  split
  · split
    · exact .inr ⟨_, rfl⟩
    · exact .inl rfl
  · split
    · exact .inr ⟨_, rfl⟩
    · exact .inl rfl
  · split
    · split
      · exact .inr ⟨_, rfl⟩
      · exact .inl rfl
    · exact .inl rfl
  · exact .inl rfl
theorem calm_dCat : Calm2 dCat := calm_match2 fun x y => by
  unfold dCat; split
  · split
    · exact .inr ⟨_, rfl⟩
    · exact .inl rfl
  · exact .inl rfl
theorem calm_dRep : Calm2 dRep := calm_match2 fun x y => by
  unfold dRep; split
  · split
    · exact .inr ⟨_, rfl⟩
    · exact .inl rfl
  · exact .inl rfl
theorem calm_dEq : Calm2 dEq := calm_match2 fun x y => by
  unfold dEq; split
  · exact .inr ⟨_, rfl⟩
  · exact .inl rfl
theorem calm_dNe : Calm2 dNe := calm_match2 fun x y => by
  unfold dNe; split
  · exact .inr ⟨_, rfl⟩
  · exact .inl rfl
theorem calm_dLt : Calm2 dLt := calm_match2 fun x y => by
  unfold dLt; split
  · exact .inr ⟨_, rfl⟩
  · split
    · exact .inr ⟨_, rfl⟩
    · exact .inl rfl
theorem calm_dGe : Calm2 dGe := calm_match2 fun x y => by
  unfold dGe; split
  · exact .inr ⟨_, rfl⟩
  · split
    · exact .inr ⟨_, rfl⟩
    · exact .inl rfl
theorem calm_dLe : Calm2 dLe := calm_match2 fun x y => by
  unfold dLe; split
  · exact .inr ⟨_, rfl⟩
  · exact .inl rfl
theorem calm_dGt : Calm2 dGt := calm_match2 fun x y => by
  unfold dGt; split
  · exact .inr ⟨_, rfl⟩
  · exact .inl rfl
theorem calm_dIn : Calm2 dIn := calm_match2 fun x y => (dIn_ok x y).imp id fun ⟨b, e⟩ => ⟨_, e⟩
theorem calm_dNotIn : Calm2 dNotIn := calm_match2 fun x y => by
  unfold dNotIn
  rcases dIn_ok x y with e | ⟨b, e⟩
  · rw [e]; exact .inl rfl
  · rw [e]; exact .inr ⟨_, rfl⟩
theorem calm_dIsN : Calm2 dIsN := calm_match2 fun x y => by
  unfold dIsN; split
  · exact .inr ⟨_, rfl⟩
  · exact .inl rfl
theorem calm_dIsNotN : Calm2 dIsNotN := calm_match2 fun x y => by
  unfold dIsNotN dIsN; split
  · exact .inr ⟨_, rfl⟩
  · exact .inl rfl
theorem calm_dIx : Calm2 dIx := calm_match2 fun x y => by
  unfold dIx; split
  · split
    · exact .inr ⟨_, rfl⟩
    · exact .inl rfl
  · split
    · exact .inr ⟨_, rfl⟩
    · exact .inl rfl
  · exact .inl rfl
theorem calm_dIxS : Calm2 dIxS := calm_match2 fun x y => by
  unfold dIxS; split
  · split
    · exact .inr ⟨_, rfl⟩
    · exact .inl rfl
  · split
    · exact .inr ⟨_, rfl⟩
    · exact .inl rfl
  · exact .inl rfl
theorem calm_dIxK : Calm2 dIxK := calm_match2 fun x y => by
  unfold dIxK; split
  · split
    · split
      · split
        · exact .inr ⟨_, rfl⟩
        · exact .inl rfl
      · exact .inl rfl
    · exact .inl rfl
  · exact .inl rfl

section
variable {X : Cx} {C : Addr} {xc : Nat → Addr} {W : WX}
theorem od_add : OpR X (binaryOp .Add) (rD (ct X C xc) 0 dAdd) := opD_int0 op_add (fun _ _ _ => .int _) fun x y => by
  rcases dInt2_is (c := cT) (h := fun i j => .int (i + j)) x y with z | ⟨i, j, h1, h2, _, z⟩
  · exact .inl z
  · exact .inr ⟨i, j, h1, h2, z⟩
theorem od_sub : OpR X (binaryOp .Sub) (rD (ct X C xc) 0 dSub) := opD_int0 op_sub (fun _ _ _ => .int _) fun x y => by
  rcases dInt2_is (c := cT) (h := fun i j => .int (i - j)) x y with z | ⟨i, j, h1, h2, _, z⟩
  · exact .inl z
  · exact .inr ⟨i, j, h1, h2, z⟩
theorem od_mul : OpR X (binaryOp .Mult) (rD (ct X C xc) 0 dMul) := opD_int op_mul (fun _ _ _ => .int _) fun x y => by
  rcases dInt2_is (c := fun i j => decide (CMul i j)) (h := fun i j => .int (i * j)) x y with z | ⟨i, j, h1, h2, c, z⟩
  · exact .inl z
  · exact .inr ⟨i, j, h1, h2, of_decide_eq_true c, z⟩
theorem od_div : OpR X (binaryOp .FloorDiv) (rD (ct X C xc) 0 dDiv) := opD_int op_fdiv (fun _ _ _ => .int _) fun x y => by
  rcases dInt2_is (c := fun i j => decide (CDiv i j)) (h := fun i j => .int (i / j)) x y with z | ⟨i, j, h1, h2, c, z⟩
  · exact .inl z
  · exact .inr ⟨i, j, h1, h2, of_decide_eq_true c, z⟩
theorem od_mod : OpR X (binaryOp .Mod) (rD (ct X C xc) 0 dMod) := opD_int op_mod (fun _ _ _ => .int _) fun x y => by
  rcases dInt2_is (c := fun _ j => decide (0 < j)) (h := fun i j => .int (i % j)) x y with z | ⟨i, j, h1, h2, c, z⟩
  · exact .inl z
  · exact .inr ⟨i, j, h1, h2, of_decide_eq_true c, z⟩
theorem od_pow : OpR X (binaryOp .Pow) (rD (ct X C xc) 0 dPow) := opD_int op_pow (fun _ _ _ => .int _) fun x y => by
  rcases dInt2_is (c := fun i j => decide (CPow i j)) (h := fun i j => .int (i ^ j.toNat)) x y with z | ⟨i, j, h1, h2, c, z⟩
  · exact .inl z
  · exact .inr ⟨i, j, h1, h2, of_decide_eq_true c, z⟩
/-- a new list, owned -/
theorem own_lst {G : Ct} {B H : Hp} {p : Addr} {vs : List V} {ds : List D} (e : Ex B H) (hp : H p = none) (hz : vs.length ≤ sizeLine) (r : RA G B vs ds) : Own G B (upd H p (.lst vs)) 1 (.ref p) (.list ds) [p] :=
  .inl ⟨p, vs, ds, [], rfl, rfl, upd_same, hz, Ex.back e hp, OA.of_RA r, rfl⟩
theorem nd1 {p : Addr} : [p].Nodup := List.nodup_cons.mpr ⟨by simp, List.nodup_nil⟩
theorem fr1 {H : Hp} {p : Addr} (h : H p = none) : ∀ a ∈ [p], H a = none := fun a ha => by
  rw [List.mem_singleton.mp ha]; exact h
theorem sz_le {n : Nat} (h : n ≤ 16777216) : n ≤ sizeLine := by rw [sizeLine_eq]; exact h
theorem fin1 {G : Ct} {σ : L2.St} {B H : Hp} {Q : VK} {p : Addr} {vs : List V} {ds : List D} (h : PostE G W σ 1 B H Q (.ok (.list ds))) (e : Ex B H) (hp : H p = none) (hz : vs.length ≤ sizeLine) (r : RA G B vs ds) : Q (.ref p) (upd H p (.lst vs)) :=
  fin h (.own e hp) (own_lst e hp hz r) nd1 (fr1 hp)
theorem od_cat : OpR X (binaryOp .Add) (rD (ct X C xc) 1 dCat) := by
  intro pins s σ H x y v u Q I rx ry ⟨B, dx, dy, e, r1, r2, p⟩
  unfold dCat at p
  split at p
  · rename_i xs ys
    split at p
    · rename_i hz
      obtain ⟨a, vs, rfl, h1, q1⟩ := r1.list_inv
      obtain ⟨b, ws, rfl, h2, q2⟩ := r2.list_inv
      have hz' : vs.length + ws.length ≤ sizeLine := by rw [q1.length, q2.length]; exact sz_le hz
      exact op_cat pins s σ H _ _ v u Q I rx ry ⟨a, b, vs, ws, rfl, rfl, e _ _ h1, e _ _ h2, hz', fun p' hp => fin1 p e hp (by rw [List.length_append]; exact hz') (q1.append q2)⟩
    · exact p.elim
  · exact p.elim
theorem RA.flat {G : Ct} {B : Hp} {vs : List V} {ds : List D} (r : RA G B vs ds) : ∀ n, RA G B (List.replicate n vs).flatten (List.replicate n ds).flatten
  | 0 => .nil
  | n + 1 => by
    rw [List.replicate_succ, List.replicate_succ, List.flatten_cons, List.flatten_cons]
    exact r.append (RA.flat r n)
theorem od_rep : OpR X (binaryOp .Mult) (rD (ct X C xc) 1 dRep) := by
  intro pins s σ H x y v u Q I rx ry ⟨B, dx, dy, e, r1, r2, p⟩
  unfold dRep at p
  split at p
  · rename_i xs k
    split at p
    · rename_i hz
      obtain ⟨a, vs, rfl, h1, q1⟩ := r1.list_inv
      have e2 := r2.int_inv
      subst e2
      have hz' : vs.length * k.toNat ≤ sizeLine := by rw [q1.length]; exact sz_le hz.2.2
      exact op_rep pins s σ H _ _ v u Q I rx ry ⟨a, k, vs, rfl, rfl, e _ _ h1, hz.1, hz.2.1, hz', fun p' hp => fin1 p e hp (by
        rw [List.length_flatten]; simp only [List.map_replicate, List.sum_replicate_nat]; rw [Nat.mul_comm]; exact hz') (q1.flat _)⟩
    · exact p.elim
  · exact p.elim
theorem plain_ok {d : D} (h : okD d = true) : plainD d = true := plain_of_lay (SeqAt.canLay_of_shaped h)
theorem od_eq (hu : Hu X) : OpR X (compareOp .Eq) (rD (ct X C xc) 0 dEq) := by
  intro pins s σ H x y v u Q I rx ry ⟨B, dx, dy, e, r1, r2, p⟩
  unfold dEq at p
  split at p
  · rename_i hz
    rw [Bool.and_eq_true] at hz
    exact op_eqD (by omega) pins s σ H _ _ v u Q I rx ry ⟨dx, dy, (r1.mono e).dp (plain_ok hz.1), (r2.mono e).dp (plain_ok hz.2), hz.1, hz.2, fin0 p (.refl e) (.bl _)⟩
  · exact p.elim
theorem od_ne (hu : Hu X) : OpR X (compareOp .NotEq) (rD (ct X C xc) 0 dNe) := by
  intro pins s σ H x y v u Q I rx ry ⟨B, dx, dy, e, r1, r2, p⟩
  unfold dNe at p
  split at p
  · rename_i hz
    rw [Bool.and_eq_true] at hz
    exact op_neD (by omega) pins s σ H _ _ v u Q I rx ry ⟨dx, dy, (r1.mono e).dp (plain_ok hz.1), (r2.mono e).dp (plain_ok hz.2), hz.1, hz.2, fin0 p (.refl e) (.bl _)⟩
  · exact p.elim
theorem ord_ok {x y : D} (h : ordOk x y = true) : PySem.W.alike x y = true ∧ okD x = true ∧ okD y = true ∧ x ≠ .none := by
  unfold ordOk at h
  rw [Bool.and_eq_true, Bool.and_eq_true, Bool.and_eq_true] at h
  exact ⟨h.1.1, h.1.2.1, h.1.2.2, fun e => by rw [e] at h; exact Bool.noConfusion h.2⟩
theorem od_lt (hu : Hu X) : OpR X (compareOp .Lt) (rD (ct X C xc) 0 dLt) := by
  intro pins s σ H x y v u Q I rx ry ⟨B, dx, dy, e, r1, r2, p⟩
  unfold dLt at p
  split at p
  · exact op_lt pins s σ H _ _ v u Q I rx ry ⟨_, _, r1.int_inv, r2.int_inv, fin0 p (.refl e) (.bl _)⟩
  · split at p
    · rename_i hz
      obtain ⟨h1, h2, h3, h4⟩ := ord_ok hz
      obtain ⟨as, q1⟩ := Dp.reads I dx x v ((r1.mono e).dp (plain_ok h2)) rx
      obtain ⟨bs, q2⟩ := Dp.reads I dy y u ((r2.mono e).dp (plain_ok h3)) ry
      have d1 := SeqAt.depth_of_shaped h2
      exact PySem.W.lt_data q1 q2 h1 h4 (by have := Nat.min_le_left dx.depth dy.depth; omega) ⟨.bl _, H, I, rfl, fin0 p (.refl e) (.bl _)⟩
    · exact p.elim
theorem od_ge (hu : Hu X) : OpR X (compareOp .GtE) (rD (ct X C xc) 0 dGe) := by
  intro pins s σ H x y v u Q I rx ry ⟨B, dx, dy, e, r1, r2, p⟩
  unfold dGe at p
  split at p
  · exact op_ge pins s σ H _ _ v u Q I rx ry ⟨_, _, r1.int_inv, r2.int_inv, fin0 p (.refl e) (.bl _)⟩
  · split at p
    · rename_i hz
      obtain ⟨h1, h2, h3, h4⟩ := ord_ok hz
      obtain ⟨as, q1⟩ := Dp.reads I dx x v ((r1.mono e).dp (plain_ok h2)) rx
      obtain ⟨bs, q2⟩ := Dp.reads I dy y u ((r2.mono e).dp (plain_ok h3)) ry
      have d1 := SeqAt.depth_of_shaped h2
      exact PySem.W.ge_data q1 q2 h1 h4 (by have := Nat.min_le_left dx.depth dy.depth; omega) ⟨.bl _, H, I, rfl, fin0 p (.refl e) (.bl _)⟩
    · exact p.elim
theorem od_le : OpR X (compareOp .LtE) (rD (ct X C xc) 0 dLe) := by
  intro pins s σ H x y v u Q I rx ry ⟨B, dx, dy, e, r1, r2, p⟩
  unfold dLe at p
  split at p
  · exact op_le pins s σ H _ _ v u Q I rx ry ⟨_, _, r1.int_inv, r2.int_inv, fin0 p (.refl e) (.bl _)⟩
  · exact p.elim
theorem od_gt : OpR X (compareOp .Gt) (rD (ct X C xc) 0 dGt) := by
  intro pins s σ H x y v u Q I rx ry ⟨B, dx, dy, e, r1, r2, p⟩
  unfold dGt at p
  split at p
  · exact op_gt pins s σ H _ _ v u Q I rx ry ⟨_, _, r1.int_inv, r2.int_inv, fin0 p (.refl e) (.bl _)⟩
  · exact p.elim
theorem od_isN : OpR X (compareOp .Is) (rD (ct X C xc) 0 dIsN) := by
  intro pins s σ H x y v u Q I rx ry ⟨B, dx, dy, e, r1, r2, p⟩
  unfold dIsN at p
  split at p
  · have ey := r2.none_inv
    subst ey
    have ex : decide (x = .non) = isNoneD dx := by
      cases r1 <;> simp [netD, scrD, opqD, isNoneD]
    refine op_isN pins s σ H _ _ v u Q I rx ry ⟨rfl, ?_⟩
    rw [ex]
    exact fin0 p (.refl e) (.bl _)
  · exact p.elim
theorem od_isNotN : OpR X (compareOp .IsNot) (rD (ct X C xc) 0 dIsNotN) := by
  intro pins s σ H x y v u Q I rx ry ⟨B, dx, dy, e, r1, r2, p⟩
  unfold dIsNotN dIsN at p
  split at p
  · have ey := r2.none_inv
    subst ey
    have ex : decide (x = .non) = isNoneD dx := by
      cases r1 <;> simp [netD, scrD, opqD, isNoneD]
    refine op_notN pins s σ H _ _ v u Q I rx ry ⟨rfl, ?_⟩
    rw [ex]
    exact fin0 p (.refl e) (.bl _)
  · exact p.elim

/-! ### dicts -/
mutual
theorem key_is {B : Hp} {pins : List (Addr × Obj)} {σ : L2.St} {H : Hp} {s : Shared} (I : Inv X pins σ H s) (e : Ex B H) : ∀ (d : D) (v : V) (u : Value) (k : NestedKey), R (ct X C xc) B v d → keyD d = some k → RelV v u → NestedIs s.heap k u
  | .none, v, u, k, r, h, ru => by simp [keyD] at h
  | .bool _, v, u, k, r, h, ru => by simp [keyD] at h
  | .int i, v, u, k, r, h, ru => by
    have ev := r.int_inv
    subst ev
    simp only [keyD, Option.some.injEq] at h
    subst h
    obtain ⟨t, rfl⟩ := ru
    exact .int _ _
  | .str x, v, u, k, r, h, ru => by
    have ev := r.str_inv
    subst ev
    simp only [keyD, Option.some.injEq] at h
    subst h
    obtain ⟨t, rfl⟩ := ru
    exact .text _ _
  | .list _, v, u, k, r, h, ru => by simp [keyD] at h
  | .dict _, v, u, k, r, h, ru => by simp [keyD] at h
  | .tuple ds, v, u, k, r, h, ru => by
    obtain ⟨a, vs, rfl, hs, q⟩ := r.tup_inv
    simp only [keyD] at h
    cases hk : keyDs ds with
    | none => rw [hk] at h; cases h
    | some ks =>
      rw [hk] at h
      simp only [Option.map_some, Option.some.injEq] at h
      subst h
      cases ru
      obtain ⟨its, rv, ⟨o, ho, hc, n, hd⟩, _⟩ := I.tuple (ex_t e hs)
      exact .tup ho hc hd (by simpa using keys_are I e ds vs its ks q hk rv)
theorem keys_are {B : Hp} {pins : List (Addr × Obj)} {σ : L2.St} {H : Hp} {s : Shared} (I : Inv X pins σ H s) (e : Ex B H) : ∀ (ds : List D) (vs : List V) (us : List Value) (ks : List NestedKey), RA (ct X C xc) B vs ds → keyDs ds = some ks → Vals vs us → NestedAll s.heap ks us
  | [], vs, us, ks, r, h, ru => by
    cases r
    simp only [keyDs, Option.some.injEq] at h
    subst h
    cases ru
    exact .nil
  | d :: ds, vs, us, ks, r, h, ru => by
    cases r with
    | cons r1 r2 =>
      simp only [keyDs] at h
      cases hk : keyD d with
      | none => rw [hk] at h; cases h
      | some k =>
        cases hks : keyDs ds with
        | none => rw [hk, hks] at h; cases h
        | some ks' =>
          rw [hk, hks] at h
          simp only [Option.some.injEq] at h
          subst h
          cases ru with
          | cons q1 q2 => exact .cons (key_is I e d _ _ k r1 hk q1) (keys_are I e ds _ _ ks' r2 hks q2)
end
theorem DA.len {G : Ct} {B : Hp} : ∀ {xs : List (NestedKey × Addr × Value)} {kvs : List (D × D)}, DA G B xs kvs → xs.length = kvs.length
  | _, _, .nil => rfl
  | _, _, .cons _ _ _ _ r => by rw [List.length_cons, List.length_cons, r.len]
theorem DA.look {G : Ct} {B : Hp} (nk : NestedKey) : ∀ {xs : List (NestedKey × Addr × Value)} {kvs : List (D × D)}, DA G B xs kvs →
    (dLook kvs nk = none ∧ valueAt (pairsH xs) nk = none) ∨ ∃ d u v, dLook kvs nk = some d ∧ valueAt (pairsH xs) nk = some u ∧ R G B v d ∧ RelV v u
  | _, _, .nil => .inl ⟨rfl, rfl⟩
  | _, _, .cons (nk := nk') (p := p) (u := u) (xs := xs) hk hkd hv hu r => by
    by_cases h : nk' = nk
    · subst h
      refine .inr ⟨_, _, _, ?_, ?_, hv, hu⟩
      · unfold dLook; rw [if_pos hkd]
      · simp [pairsH, valueAt]
    · have e1 : valueAt (pairsH ((nk', p, u) :: xs)) nk = valueAt (pairsH xs) nk := by
        simp [pairsH, valueAt, h]
      have e2 : ¬ keyOk _ = some nk := fun z => h (Option.some.inj (hkd.symm.trans z))
      rcases DA.look nk r with ⟨a, b⟩ | ⟨d, u', v, a, b, c⟩
      · refine .inl ⟨?_, by rw [e1]; exact b⟩
        unfold dLook; rw [if_neg e2]; exact a
      · refine .inr ⟨d, u', v, ?_, by rw [e1]; exact b, c⟩
        unfold dLook; rw [if_neg e2]; exact a
end
end M

/-! MOps2: dicts, places, slices. -/
namespace M
open PySem PySem.Spec L2 PyProof.Rows Evl
section
variable {X : Cx} {C : Addr} {xc : Nat → Addr} {W : WX}
theorem keyD_is {B : Hp} {pins : List (Addr × Obj)} {σ : L2.St} {H : Hp} {s : Shared} (I : Inv X pins σ H s) (e : Ex B H) {k : D} {p : Addr} {nk : NestedKey} (r : R (ct X C xc) B (.ref p) k) (h : keyOk k = some nk) :
    (nestedKind X.prog X.w).is s.heap nk p := by
  obtain ⟨_, h2, h3⟩ := keyOk_tup h
  exact ⟨key_is I e k _ _ nk r h2 rfl, h3⟩
theorem DA.is {B : Hp} {pins : List (Addr × Obj)} {σ : L2.St} {H : Hp} {s : Shared} (I : Inv X pins σ H s) (e : Ex B H) : ∀ {xs : List (NestedKey × Addr × Value)} {kvs : List (D × D)}, DA (ct X C xc) B xs kvs →
    ∀ x ∈ xs, (nestedKind X.prog X.w).is s.heap x.1 x.2.1
  | _, _, .nil, x, hx => by cases hx
  | _, _, .cons hk ho _ _ r, x, hx => by
    rcases List.mem_cons.mp hx with rfl | hx
    · exact keyD_is I e hk ho
    · exact DA.is I e r x hx
theorem dict_of {B : Hp} {pins : List (Addr × Obj)} {σ : L2.St} {H : Hp} {s : Shared} (I : Inv X pins σ H s) (e : Ex B H) {a : Addr} {xs : List (NestedKey × Addr × Value)} {kvs : List (D × D)} (h : H a = some (.ext (RawK X.prog X.w a xs))) (r : DA (ct X C xc) B xs kvs) :
    s.heap.DictOfH (nestedKind X.prog X.w) a xs := by
  obtain ⟨⟨o, es, ep, h1, h2, h3, h4, h5⟩, _⟩ := I.hok a _ h
  exact ⟨o, es, ep, h1, h2, h3, h4, r.is I e, h5⟩
theorem keyed_of {B : Hp} {pins : List (Addr × Obj)} {σ : L2.St} {H : Hp} {s : Shared} (I : Inv X pins σ H s) (e : Ex B H) {a : Addr} {xs : List (NestedKey × Addr × Value)} {kvs : List (D × D)} (h : H a = some (.ext (RawK X.prog X.w a xs))) (r : DA (ct X C xc) B xs kvs) :
    s.heap.DictKeyed (nestedKind X.prog X.w) a (pairsH xs) := ⟨xs, dict_of I e h r, rfl⟩
theorem room_k {A : Around} (h : A.units + 100 < cLine) : A.in1.units + 8 < cLine := by
  show A.units + 1 + 8 < cLine
  omega
theorem tup_ref {G : Ct} {B : Hp} {v : V} {k : D} {nk : NestedKey} (r : R G B v k) (h : keyOk k = some nk) : ∃ p, v = .ref p := by
  have ht := (keyOk_tup h).1
  cases k with
  | tuple ds => obtain ⟨a, _, e, _⟩ := r.tup_inv; exact ⟨a, e⟩
  | _ => cases ht

theorem tupKeys_all {kvs : List (D × D)} (h : tupKeys kvs = true) : ∀ p ∈ kvs, isTupD p.1 = true := fun p hp => by
  unfold tupKeys at h
  exact List.all_eq_true.mp h p hp
theorem od_in (hu : Hu X) : OpR X (compareOp .In) (rD (ct X C xc) 0 dIn) := by
  intro pins s σ H x y v u Q I rx ry ⟨B, dx, dy, e, r1, r2, p⟩
  unfold dIn at p
  split at p
  · rename_i ds
    split at p
    · rename_i hz
      rw [Bool.and_eq_true] at hz
      exact op_inD (by omega) pins s σ H _ _ v u Q I rx ry ⟨dx, ds, (r1.mono e).dp (plain_ok hz.1), (r2.mono e).dp (plain_ok hz.2), hz.1, hz.2, fin0 p (.refl e) (.bl _)⟩
    · exact p.elim
  · rename_i ds
    split at p
    · rename_i hz
      rw [Bool.and_eq_true] at hz
      obtain ⟨as, q1⟩ := Dp.reads I dx x v ((r1.mono e).dp (plain_ok hz.1)) rx
      obtain ⟨bs, q2⟩ := Dp.reads I (.tuple ds) y u ((r2.mono e).dp (plain_ok hz.2)) ry
      exact SeqAt.in_tuple_reads q2 q1 (SeqAt.canLay_of_shaped hz.2) (SeqAt.canLay_of_shaped hz.1) (room_in_shaped hz.1 (by omega)) ⟨.bl _, H, I, rfl, fin0 p (.refl e) (.bl _)⟩
    · exact p.elim
  · rename_i kvs
    split at p
    · rename_i ht
      split at p
      · rename_i nk hk
        obtain ⟨a, xs, rfl, hd, hs, q⟩ := r2.dic_inv (tupKeys_all ht)
        obtain ⟨kp, rfl⟩ := tup_ref r1 hk
        cases rx
        cases ry
        refine in_keyed (knd := nestedKind X.prog X.w) (room_k hu) (keyD_is I e r1 hk) hs (keyed_of I e (e _ _ hd) q) ⟨.bl _, H, I.tok _, rfl, ?_⟩
        have eb : (dLook kvs nk).isSome = (valueAt (pairsH xs) nk).isSome := by
          rcases q.look nk with ⟨h1, h2⟩ | ⟨d, u, v, h1, h2, _⟩ <;> rw [h1, h2] <;> rfl
        rw [← eb]
        exact fin0 p (.refl e) (.bl _)
      · exact p.elim
    · exact p.elim
  · exact p.elim
theorem od_notIn (hu : Hu X) : OpR X (compareOp .NotIn) (rD (ct X C xc) 0 dNotIn) := by
  intro pins s σ H x y v u Q I rx ry ⟨B, dx, dy, e, r1, r2, p⟩
  unfold dNotIn dIn at p
  split at p
  · rename_i ds
    split at p
    · rename_i hz
      rw [Bool.and_eq_true] at hz
      exact op_notInD (by omega) pins s σ H _ _ v u Q I rx ry ⟨dx, ds, (r1.mono e).dp (plain_ok hz.1), (r2.mono e).dp (plain_ok hz.2), hz.1, hz.2, fin0 p (.refl e) (.bl _)⟩
    · exact p.elim
  · rename_i ds
    split at p
    · rename_i hz
      rw [Bool.and_eq_true] at hz
      obtain ⟨as, q1⟩ := Dp.reads I dx x v ((r1.mono e).dp (plain_ok hz.1)) rx
      obtain ⟨bs, q2⟩ := Dp.reads I (.tuple ds) y u ((r2.mono e).dp (plain_ok hz.2)) ry
      exact SeqAt.notIn_tuple_reads q2 q1 (SeqAt.canLay_of_shaped hz.2) (SeqAt.canLay_of_shaped hz.1) (room_in_shaped hz.1 (by omega)) ⟨.bl _, H, I, rfl, fin0 p (.refl e) (.bl _)⟩
    · exact p.elim
  · rename_i kvs
    split at p
    · rename_i ht
      split at p
      · rename_i nk hk
        obtain ⟨a, xs, rfl, hd, hs, q⟩ := r2.dic_inv (tupKeys_all ht)
        obtain ⟨kp, rfl⟩ := tup_ref r1 hk
        cases rx
        cases ry
        refine notIn_keyed (knd := nestedKind X.prog X.w) (room_k hu) (keyD_is I e r1 hk) hs (keyed_of I e (e _ _ hd) q) ⟨.bl _, H, I.tok _, rfl, ?_⟩
        have eb : (dLook kvs nk).isSome = (valueAt (pairsH xs) nk).isSome := by
          rcases q.look nk with ⟨h1, h2⟩ | ⟨d, u, v, h1, h2, _⟩ <;> rw [h1, h2] <;> rfl
        rw [← eb]
        exact fin0 p (.refl e) (.bl _)
      · exact p.elim
    · exact p.elim
  · exact p.elim

/-! ### places -/
theorem RA.at {G : Ct} {B : Hp} {vs : List V} {ds : List D} {i : Int} {d : D} (r : RA G B vs ds) (h : atI ds i = some d) : ∃ v, atI vs i = some v ∧ R G B v d := by
  unfold atI at h ⊢
  rw [r.length]
  cases q : ixN ds.length i with
  | none => rw [q] at h; cases h
  | some j =>
    rw [q] at h
    obtain ⟨v, h1, h2⟩ := r.get (i := j) h
    exact ⟨v, h1, h2⟩
theorem id_ix : IxR X (rD (ct X C xc) 0 dIx) := by
  intro value slice pins s σ H x y v u Q I rx ry ⟨B, dx, dy, e, r1, r2, p⟩ hs
  unfold dIx at p
  split at p
  · split at p
    · rename_i d hd
      obtain ⟨a, vs, rfl, h1, q⟩ := r1.list_inv
      have ei := r2.int_inv
      subst ei
      obtain ⟨w, h2, h3⟩ := q.at hd
      exact ix_list value slice pins s σ H _ _ v u Q I rx ry ⟨a, vs, _, w, rfl, rfl, SqL.of (e _ _ h1), h2, fin0 p (.refl e) h3⟩ hs
    · exact p.elim
  · split at p
    · rename_i d hd
      obtain ⟨a, vs, rfl, h1, q⟩ := r1.tup_inv
      have ei := r2.int_inv
      subst ei
      obtain ⟨w, h2, h3⟩ := q.at hd
      exact ix_tup value slice pins s σ H _ _ v u Q I rx ry ⟨a, vs, _, w, rfl, rfl, ex_t e h1, h2, fin0 p (.refl e) h3⟩ hs
    · exact p.elim
  · exact p.elim
theorem id_ixS : IxR X (rD (ct X C xc) 0 dIxS) := by
  intro value slice pins s σ H x y v u Q I rx ry ⟨B, dx, dy, e, r1, r2, p⟩ hs
  unfold dIxS at p
  split at p
  · split at p
    · rename_i d hd
      obtain ⟨a, vs, rfl, h1, q⟩ := r1.list_inv
      have ei := r2.int_inv
      subst ei
      obtain ⟨w, h2, h3⟩ := q.at hd
      exact ix_list value slice pins s σ H _ _ v u Q I rx ry ⟨a, vs, _, w, rfl, rfl, SqL.of (e _ _ h1), h2, fin0 p (.refl e) h3⟩ hs
    · exact p.elim
  · split at p
    · rename_i d hd
      obtain ⟨a, vs, rfl, h1, q⟩ := R.scr_inv r1
      have ei := r2.int_inv
      subst ei
      obtain ⟨w, h2, h3⟩ := q.at hd
      exact ix_list value slice pins s σ H _ _ v u Q I rx ry ⟨a, vs, _, w, rfl, rfl, ex_l e h1, h2, fin0 p (.refl e) h3⟩ hs
    · exact p.elim
  · exact p.elim
theorem de_ix {g : D → D → O} {a b : Expr} {f1 f2 : FE} {pos : Pos} (ho : IxR X (rD (ct X C xc) 0 g)) (hc : Calm2 g) (ha : PE X a (tD (ct X C xc) W f1)) (hb : PE X b (tD (ct X C xc) W f2)) (hs : PlainIx b := by intro _ _; rfl) :
    PE X (.Subscript a b pos) (tD (ct X C xc) W (fBin g f1 f2)) := weak (pe_ix ho ha hb hs) fun _ _ _ h => bin_go hc h
/-- d[k], the key there -/
theorem de_ixK {a b : Expr} {f1 f2 : FE} {pos : Pos} (hu : Hu X) (ha : PE X a (tD (ct X C xc) W f1)) (hb : PE X b (tD (ct X C xc) W f2)) (hs : NoSl b := by intro _ _; rfl) :
    PE X (.Subscript a b pos) (tD (ct X C xc) W (fBin dIxK f1 f2)) := by
  refine ⟨fun pins s σ H Q I ⟨B, ρ, e, env, p⟩ => ?_⟩
  refine subD_of PySem.F.slot_dict_getitem.lookup hs (thn (ha.run pins s σ H _ I (seqE (Q1 := fun x H1 => ∃ B1 d1, Ext B H B1 H1 ∧ R (ct X C xc) B1 x d1 ∧ f1 ρ = .ok d1 ∧ PostE (ct X C xc) W σ 0 B1 H1 Q ((f2 ρ).bind fun y => dIxK d1 y)) (m := 0) e env p
    fun d v B1 H1 A q x hv _ _ p1 => ⟨B1, d, x, hv.1, q, p1⟩)) fun u1 s1 ⟨v1, H1, I1, ru1, B1, d1, x1, r1, q1, p1⟩ => ?_)
  refine thn (hb.run pins s1 σ H1 _ I1 (seqE (Q1 := fun x H2 => ∃ B2 d2, Ext B1 H1 B2 H2 ∧ R (ct X C xc) B2 x d2 ∧ PostE (ct X C xc) W σ 0 B2 H2 Q (dIxK d1 d2)) (m := 0) x1.w (env.ext x1) p1
    fun d v B2 H2 A q x hv _ _ p2 => ⟨B2, d, x, hv.1, p2⟩)) fun u2 s2 ⟨v2, H2, I2, ru2, B2, d2, x2, r2, p2⟩ => ?_
  have r1' := r1.mono x2.b
  unfold dIxK at p2
  split at p2
  · rename_i kvs
    split at p2
    · rename_i ht
      split at p2
      · rename_i nk hk
        split at p2
        · rename_i d hd
          obtain ⟨a', xs, rfl, hd', hs', q⟩ := r1'.dic_inv (tupKeys_all ht)
          obtain ⟨kp, rfl⟩ := tup_ref r2 hk
          cases ru1
          cases ru2
          have dk := keyed_of I2 x2.w (x2.w _ _ hd') q
          refine ⟨dk.typeIs, ?_⟩
          rcases q.look nk with ⟨h1, _⟩ | ⟨d', u, v, h1, h2, h3, h4⟩
          · rw [h1] at hd; cases hd
          · rw [h1] at hd
            cases hd
            exact getItem_keyed (knd := nestedKind X.prog X.w) (room_k hu) (keyD_is I2 x2.w r2 hk) dk h2 ⟨v, H2, I2.tok _, h4, fin0 p2 (.refl x2.w) h3⟩
        · exact p2.elim
      · exact p2.elim
    · exact p2.elim
  · exact p2.elim

/-! ### slices of lists -/
def cutD (xs : List D) (lo hi : Option Int) : List D := (xs.drop (HT.sIx xs.length 0 lo)).take (HT.sIx xs.length xs.length hi - HT.sIx xs.length 0 lo)
theorem RA.cut {G : Ct} {B : Hp} {vs : List V} {ds : List D} (r : RA G B vs ds) (lo hi : Option Int) : RA G B (cutV vs lo hi) (cutD ds lo hi) := by
  unfold cutV cutD
  rw [r.length]
  exact (r.drop _).take _
/-- a part of a slice -/
inductive OP where
  | ok (o : Option Int)
  | ex (c : Nat)
  | bad
def fPart (f : FE) : Rho → OP := fun ρ => match f ρ with
  | .ok (.int i) => .ok (some i)
  | .ex c => .ex c
  | _ => .bad
def fNoPart : Rho → OP := fun _ => .ok none
def PostP (G : Ct) (W : WX) (σ : L2.St) (B H : Hp) (Q : Option Int → Hp → Prop) : OP → Prop
  | .ok o => ∀ B' H', Ext B H B' H' → Q o H'
  | .ex c => ∀ B' H', Ext B H B' H' → W (.ref (G.xc c)) none σ H'
  | .bad => False
def tDP (G : Ct) (W : WX) (f : Rho → OP) : TO := fun σ H Q => ∃ B ρ, Ex B H ∧ EnvOk G B H σ ρ ∧ PostP G W σ B H Q (f ρ)
theorem weakP {e : Option Expr} {t t' : TO} (h : PO X e t) (k : ∀ σ H Q, t' σ H Q → t σ H Q) : PO X e t' := ⟨fun pins s σ H Q I q => h.run pins s σ H Q I (k σ H Q q)⟩
theorem dp_none : PO X none (tDP (ct X C xc) W fNoPart) := weakP po_none fun σ H Q ⟨B, ρ, e, env, p⟩ => p B H (.refl e)
theorem dp_some {e : Expr} {f : FE} (h : PE X e (tD (ct X C xc) W f)) : PO X (some e) (tDP (ct X C xc) W (fPart f)) := weakP (po_some h) fun σ H Q ⟨B, ρ, e, env, p⟩ => by
  refine ⟨B, ρ, e, env, ?_⟩
  unfold fPart at p
  split at p
  · rename_i i q
    rw [q]
    exact fun v B' H' A x hv _ _ => ⟨i, hv.1.int_inv, p B' H' x⟩
  · rename_i c q
    rw [q]
    exact p
  · exact p.elim
def fSlice (f : FE) (lo hi : Rho → OP) : FE := fun ρ => (f ρ).bind fun d => match d with
  | .list ds => (match lo ρ with
    | .ok a => (match hi ρ with
      | .ok b => .ok (.list (cutD ds a b))
      | .ex c => .ex c
      | .bad => .bad)
    | .ex c => .ex c
    | .bad => .bad)
  | _ => .bad
theorem cutV_le {G : Ct} {B H : Hp} {pins : List (Addr × Obj)} {σ : L2.St} {s : Shared} {a : Addr} {vs : List V} (I : Inv X pins σ H s) (h : H a = some (.lst vs)) : vs.length ≤ sizeLine := (I.hok a _ h).1
theorem de_slice {e : Expr} {f : FE} {lo hi : Option Expr} {fl fh : Rho → OP} {pos p2 : Pos} (h : PE X e (tD (ct X C xc) W f)) (hl : PO X lo (tDP (ct X C xc) W fl)) (hh : PO X hi (tDP (ct X C xc) W fh)) :
    PE X (.Subscript e (.Slice lo hi none p2) pos) (tDO (ct X C xc) W 1 (fSlice f fl fh)) := by
  -- the sizes are told by the state
  refine ⟨fun pins s σ H Q I h0 => ?_⟩
  refine (pe_slice (r := fun x lo hi H Q => ∃ a xs, x = .ref a ∧ SqL X.K H a xs ∧ (xs.length ≤ sizeLine → ∀ p, H p = none → Q (.ref p) (upd H p (.lst (cutV xs lo hi))))) ?_ h hl hh).run pins s σ H Q I ?_
  · intro pins s σ H x v vl vu lo hi sl Q I rx hs pl pu ⟨a, xs, e, hx, q⟩
    obtain ⟨_, _, _, hz⟩ := I.list hx
    exact sl_list pins s σ H x v vl vu lo hi sl Q I rx hs pl pu ⟨a, xs, e, hx, q hz⟩
  · obtain ⟨B, ρ, e0, env, p⟩ := h0
    refine seqE (m := 1) e0 env p fun d v B1 H1 A q x ⟨r1, _⟩ _ _ p1 => ?_
    cases d with
    | list ds =>
      refine ⟨B1, ρ, x.w, env.ext x, ?_⟩
      dsimp only at p1
      cases q1 : fl ρ with
      | ok a =>
        rw [q1] at p1
        intro B2 H2 x2
        refine ⟨B2, ρ, x2.w, (env.ext x).ext x2, ?_⟩
        have p2 := PostE.ext (G := ct X C xc) p1 x2
        cases q2 : fh ρ with
        | ok b =>
          rw [q2] at p2
          intro B3 H3 x3
          have p3 := PostE.ext (G := ct X C xc) (o := .ok (.list (cutD ds a b))) p2 x3
          obtain ⟨ad, vs, rfl, hv, rv⟩ := ((r1.mono x2.b).mono x3.b).list_inv
          exact ⟨ad, vs, rfl, SqL.of (x3.w _ _ hv), fun hz pp hp => fin1 p3 x3.w hp (Nat.le_trans (cutV_length _ _ _) hz) (rv.cut a b)⟩
        | ex c => rw [q2] at p2; exact p2
        | bad => rw [q2] at p2; exact p2.elim
      | ex c => rw [q1] at p1; exact p1
      | bad => rw [q1] at p1; exact p1.elim
    | _ => exact p1.elim
end
end M

/-! MCall: arguments, displays, calls; tests. -/
namespace M
open PySem PySem.Spec L2 PyProof.Rows Evl
inductive OL where
  | ok (ds : List D)
  | ex (c : Nat)
  | bad
def OL.bind (o : OL) (k : List D → O) : O := match o with
  | .ok d => k d
  | .ex c => .ex c
  | .bad => .bad
def evA : List FE → Rho → OL
  | [], _ => .ok []
  | f :: fs, ρ => match f ρ with
    | .ok d => (match evA fs ρ with
      | .ok ds => .ok (d :: ds)
      | .ex c => .ex c
      | .bad => .bad)
    | .ex c => .ex c
    | .bad => .bad
def PostA (G : Ct) (W : WX) (σ : L2.St) (B H : Hp) (Q : List V → Hp → Prop) : OL → Prop
  | .ok ds => ∀ vs B' H', Ext B H B' H' → RA G B' vs ds → Q vs H'
  | .ex c => ∀ B' H', Ext B H B' H' → W (.ref (G.xc c)) none σ H'
  | .bad => False
def tDA (G : Ct) (W : WX) (fs : List FE) : TA := fun σ H Q => ∃ B ρ, Ex B H ∧ EnvOk G B H σ ρ ∧ PostA G W σ B H Q (evA fs ρ)
theorem PostA.ext {G : Ct} {W : WX} {σ : L2.St} {B H B1 H1 : Hp} {Q : List V → Hp → Prop} {o : OL} (h : PostA G W σ B H Q o) (x : Ext B H B1 H1) : PostA G W σ B1 H1 Q o := by
  cases o with
  | ok d => exact fun v B' H' y => h v B' H' (x.trans y)
  | ex c => exact fun B' H' y => h B' H' (x.trans y)
  | bad => exact h
section
variable {X : Cx} {C : Addr} {xc : Nat → Addr} {W : WX} {n : Nat}
theorem da_nil : PA X [] (tDA (ct X C xc) W []) := weakA pa_nil fun σ H Q ⟨B, ρ, e, env, p⟩ => p [] B H (.refl e) .nil
theorem da_cons {e : Expr} {es : List Expr} {f : FE} {fs : List FE} (h : PE X e (tD (ct X C xc) W f)) (hr : PA X es (tDA (ct X C xc) W fs)) (hs : starEach (e :: es) X.env = (false, eval e X.env) :: starEach es X.env := by rfl) :
    PA X (e :: es) (tDA (ct X C xc) W (f :: fs)) := weakA (pa_cons h hr hs) fun σ H Q ⟨B, ρ, e, env, p⟩ => by
  refine ⟨B, ρ, e, env, ?_⟩
  unfold evA at p
  cases q : f ρ with
  | ok d =>
    rw [q] at p
    dsimp only at p
    intro v B1 H1 A x hv nd fr
    refine ⟨B1, ρ, x.w, env.ext x, ?_⟩
    cases q2 : evA fs ρ with
    | ok ds =>
      rw [q2] at p
      exact fun vs B2 H2 x2 r => p (v :: vs) B2 H2 (x.trans x2) (.cons (hv.1.mono x2.b) r)
    | ex c =>
      rw [q2] at p
      exact fun B' H' x2 => p B' H' (x.trans x2)
    | bad => rw [q2] at p; exact p.elim
  | ex c => rw [q] at p; exact p
  | bad => rw [q] at p; exact p.elim
/-- arguments, then what hangs on them -/
theorem seqA {G : Ct} {σ : L2.St} {B H : Hp} {ρ : Rho} {Q : VK} {fs : List FE} {k : List D → O} {Q1 : List V → Hp → Prop} (e : Ex B H) (env : EnvOk G B H σ ρ) (h : PostE G W σ n B H Q ((evA fs ρ).bind k))
    (hk : ∀ ds vs B' H', evA fs ρ = .ok ds → Ext B H B' H' → RA G B' vs ds → PostE G W σ n B' H' Q (k ds) → Q1 vs H') : tDA G W fs σ H Q1 := by
  refine ⟨B, ρ, e, env, ?_⟩
  cases q : evA fs ρ with
  | ok d =>
    rw [q] at h
    exact fun v B' H' x hv => hk d v B' H' q x hv (PostE.ext (o := k d) h x)
  | ex c => rw [q] at h; exact h
  | bad => rw [q] at h; exact h
def fArgs (g : List D → O) (fs : List FE) : FE := fun ρ => (evA fs ρ).bind g
/-! displays -/
theorem RA.sz {G : Ct} {B : Hp} {vs : List V} {ds : List D} (r : RA G B vs ds) (h : ds.length ≤ 1000) : vs.length ≤ sizeLine := by
  rw [r.length]
  exact Nat.le_trans h (by decide)
def dTup (ds : List D) : O := if ds.length ≤ 1000 then .ok (.tuple ds) else .bad
def dLst (ds : List D) : O := if ds.length ≤ 1000 then .ok (.list ds) else .bad
theorem de_tup {es : List Expr} {x1 : Nat} {pos : Pos} {fs : List FE} (h : PA X es (tDA (ct X C xc) W fs)) : PE X (.Tuple es x1 pos) (tD (ct X C xc) W (fArgs dTup fs)) := weak (pe_tup h) fun σ H Q ⟨B, ρ, e, env, p⟩ => by
  refine seqA (n := 0) e env p fun ds vs B1 H1 q x r p1 => ?_
  unfold dTup at p1
  split at p1
  · rename_i hz
    refine ⟨r.sz hz, fun p hp => ?_⟩
    exact fin0 p1 (.new x.w hp) (.tup (sqT_of (G := ct X C xc) upd_same) (r.mono (Ex.new (Ex.back x.w hp))))
  · exact p1.elim
theorem de_lst {es : List Expr} {pos : Pos} {fs : List FE} (h : PA X es (tDA (ct X C xc) W fs)) : PE X (.List es pos) (tDO (ct X C xc) W 1 (fArgs dLst fs)) := weak (pe_lst h) fun σ H Q ⟨B, ρ, e, env, p⟩ => by
  refine seqA (n := 1) e env p fun ds vs B1 H1 q x r p1 => ?_
  unfold dLst at p1
  split at p1
  · rename_i hz
    exact ⟨r.sz hz, fun p hp => fin1 p1 x.w hp (r.sz hz) r⟩
  · exact p1.elim

/-! ### defs -/
def PostF (G : Ct) (E : XK) (n : Nat) (B H : Hp) (Q : VK) (o : O) : Prop := PostE G (fun cls d _ H => E cls d H) [] n B H Q o
/-- a def's promise by its function on data -/
def spD (G : Ct) (n : Nat) (F : List D → O) (k : Nat) : Sp := fun vs H Q E => vs.length = k ∧ ∃ B ds, Ex B H ∧ RA G B vs ds ∧ PostF G E n B H Q (F ds)
/-- a def of the text with its promise -/
def FnIs (G : Ct) (mg : Str → Option Value) (base : Heap) (x : Str) (k : Nat) (m n : Nat) (F : List D → O) : Prop :=
  ∃ f fd ps, FnOk G.P G.w G.K mg base (L2.CX G.P G.w) k f fd ps (spD G n F m) ∧ mg x = some (.ref f) ∧ PySem.W.keepIn G.K (.ref f) = true ∧ Binds G.K fd ps []
theorem FnIs.mono {G : Ct} {mg : Str → Option Value} {base : Heap} {x : Str} {k k' m n : Nat} {F : List D → O} (h : FnIs G mg base x k m n F) (hk : k ≤ k') : FnIs G mg base x k' m n F :=
  let ⟨f, fd, ps, a, b⟩ := h; ⟨f, fd, ps, a.mono hk, b⟩
theorem de_call {x : Str} {k m : Nat} {F : List D → O} {e : Expr} {es : List Expr} {p pos : Pos} {fs : List FE} (hf : FnIs (ct X C xc) X.mg X.base x k m n F) (hr : Room k X.A) (hp : Pass X W) (ha : PA X (e :: es) (tDA (ct X C xc) W fs)) (hl : fs.length = m := by rfl)
    (hg : Gl X x := by rfl) (hdb : (x == ("__debug__" : Str)) = false := by decide) (he : starEach (e :: es) X.env = (false, eval e X.env) :: starEach es X.env := by rfl) (hpl : (backTo pos (starEach es X.env)).any (·.1) = false := by rfl) :
    PE X (.Call (.Name x p) (e :: es) [] pos) (tDO (ct X C xc) W n (fArgs F fs)) := by
  obtain ⟨f, fd, ps, G, hm, hk, hb⟩ := hf
  refine weak (pe_callS G hr hg hm hk hb hp ha hdb he hpl) fun σ H Q ⟨B, ρ, e, env, p⟩ => ?_
  refine seqA (n := n) e env p fun ds vs B1 H1 q x r p1 => ?_
  refine ⟨?_, B1, ds, x.w, r, ?_⟩
  · rw [r.length, ← hl]
    have : ∀ (fs : List FE) (ds : List D), evA fs ρ = .ok ds → ds.length = fs.length := by
      intro fs
      induction fs with
      | nil => intro ds h; cases h; rfl
      | cons f fs ih =>
        intro ds h
        unfold evA at h
        split at h
        · split at h
          · rename_i h1 ds' h2
            cases h
            rw [List.length_cons, List.length_cons, ih _ h2]
          · cases h
          · cases h
        · cases h
        · cases h
    exact this fs ds q
  · cases q1 : F ds with
    | ok d => rw [q1] at p1; exact p1
    | ex c => rw [q1] at p1; exact p1
    | bad => rw [q1] at p1; exact p1.elim
/-! ### built-ins by values -/
def cD (G : Ct) (n : Nat) (g : List D → O) : List V → Hp → VK → Prop := fun vs H Q => ∃ B ds, Ex B H ∧ RA G B vs ds ∧ PostE G W0 [] n B H Q (g ds)
def Calm1 (g : List D → O) : Prop := ∀ ds c, g ds ≠ .ex c
theorem args_go {g : List D → O} {fs : List FE} (hc : Calm1 g) {σ : L2.St} {H : Hp} {Q : VK} (h : tDO (ct X C xc) W n (fArgs g fs) σ H Q) : tCB (cD (ct X C xc) n g) (tDA (ct X C xc) W fs) σ H Q := by
  obtain ⟨B, ρ, e, env, p⟩ := h
  exact seqA (n := n) e env p fun ds vs B1 H1 q x r p1 => ⟨B1, ds, x.w, r, p1.calm (hc ds)⟩
theorem de_blt {id : String} {g : List D → O} {x : Str} {e : Expr} {es : List Expr} {p pos : Pos} {fs : List FE} (hb : CallR X (.builtin id) (cD (ct X C xc) n g)) (hc : Calm1 g) (hm : X.mg x = none) (ha : PA X (e :: es) (tDA (ct X C xc) W fs)) (hv : bootBuiltins x = some (.builtin id) := by decide +kernel) (hg : Gl X x := by rfl)
    (hn : x ≠ "__name__" := by decide) (hdb : (x == ("__debug__" : Str)) = false := by decide) (he : starEach (e :: es) X.env = (false, eval e X.env) :: starEach es X.env := by rfl) (hpl : (backTo pos (starEach es X.env)).any (·.1) = false := by rfl) :
    PE X (.Call (.Name x p) (e :: es) [] pos) (tDO (ct X C xc) W n (fArgs g fs)) := weak (pe_callB hb hg hm hv ha hn hdb he hpl) fun _ _ _ h => args_go hc h
theorem de_ty {id : String} {g : List D → O} {x : Str} {e : Expr} {es : List Expr} {p pos : Pos} {fs : List FE} (hb : CallR X (.type id) (cD (ct X C xc) n g)) (hc : Calm1 g) (hm : X.mg x = none) (ha : PA X (e :: es) (tDA (ct X C xc) W fs)) (hv : bootBuiltins x = some (.type id) := by decide +kernel) (hg : Gl X x := by rfl)
    (hn : x ≠ "__name__" := by decide) (hdb : (x == ("__debug__" : Str)) = false := by decide) (he : starEach (e :: es) X.env = (false, eval e X.env) :: starEach es X.env := by rfl) (hpl : (backTo pos (starEach es X.env)).any (·.1) = false := by rfl) :
    PE X (.Call (.Name x p) (e :: es) [] pos) (tDO (ct X C xc) W n (fArgs g fs)) := weak (pe_callTy hb hg hm hv ha hn hdb he hpl) fun _ _ _ h => args_go hc h
/-! one value -/
def d1 (g : D → O) : List D → O
  | [d] => g d
  | _ => .bad
def dLen : D → O
  | .list ds => .ok (.int ds.length)
  | .tuple ds => .ok (.int ds.length)
  | .dict [(.bool true, .list ds)] => .ok (.int ds.length)
  | _ => .bad
theorem calm_dLen : Calm1 (d1 dLen) := fun ds c h => by
  unfold d1 dLen at h
  split at h
  · split at h <;> cases h
  · cases h
theorem RA.one {G : Ct} {B : Hp} {vs : List V} {d : D} (r : RA G B vs [d]) : ∃ v, vs = [v] ∧ R G B v d := by
  cases r with
  | cons h r => cases r; exact ⟨_, rfl, h⟩
theorem RA.two {G : Ct} {B : Hp} {vs : List V} {d d' : D} (r : RA G B vs [d, d']) : ∃ v v', vs = [v, v'] ∧ R G B v d ∧ R G B v' d' := by
  cases r with
  | cons h r => cases r with
    | cons h' r => cases r; exact ⟨_, _, rfl, h, h'⟩
theorem cd_len : CallR X (.builtin "len") (cD (ct X C xc) 0 (d1 dLen)) := by
  intro pins s σ H vs us Q I rv ⟨B, ds, e, r, p⟩
  unfold d1 at p
  split at p
  · rename_i d
    obtain ⟨v, rfl, r1⟩ := r.one
    unfold dLen at p
    split at p
    · obtain ⟨a, ws, rfl, h, q⟩ := r1.list_inv
      refine call_len pins s σ H _ us Q I rv ⟨_, ws.length, rfl, .inl ⟨ws, SqL.of (e _ _ h), rfl⟩, ?_⟩
      rw [q.length]
      exact fin0 p (.refl e) (.int _)
    · obtain ⟨a, ws, rfl, h, q⟩ := r1.tup_inv
      refine call_len pins s σ H _ us Q I rv ⟨_, ws.length, rfl, .inr ⟨ws, ex_t e h, rfl⟩, ?_⟩
      rw [q.length]
      exact fin0 p (.refl e) (.int _)
    · obtain ⟨a, ws, rfl, h, q⟩ := R.scr_inv r1
      refine call_len pins s σ H _ us Q I rv ⟨_, ws.length, rfl, .inl ⟨ws, ex_l e h, rfl⟩, ?_⟩
      rw [q.length]
      exact fin0 p (.refl e) (.int _)
    · exact p.elim
  · exact p.elim
/-- lists of whole numbers, of truth values -/
def asInts : List D → Option (List Int)
  | [] => some []
  | .int i :: r => (asInts r).map (i :: ·)
  | _ :: _ => none
def asBools : List D → Option (List Bool)
  | [] => some []
  | .bool i :: r => (asBools r).map (i :: ·)
  | _ :: _ => none
theorem RA.ints {G : Ct} {B : Hp} : ∀ {ds : List D} {vs : List V} {ns : List Int}, RA G B vs ds → asInts ds = some ns → vs = ns.map V.int
  | [], _, _, .nil, h => by cases h; rfl
  | .int i :: r, _, ns, .cons h q, e => by
    simp only [asInts] at e
    cases z : asInts r with
    | none => rw [z] at e; cases e
    | some ms =>
      rw [z] at e
      simp only [Option.map_some, Option.some.injEq] at e
      subst e
      rw [h.int_inv, q.ints z]
      rfl
  | .none :: _, _, _, _, e => by simp [asInts] at e
  | .bool _ :: _, _, _, _, e => by simp [asInts] at e
  | .str _ :: _, _, _, _, e => by simp [asInts] at e
  | .list _ :: _, _, _, _, e => by simp [asInts] at e
  | .tuple _ :: _, _, _, _, e => by simp [asInts] at e
  | .dict _ :: _, _, _, _, e => by simp [asInts] at e
theorem RA.bools {G : Ct} {B : Hp} : ∀ {ds : List D} {vs : List V} {ns : List Bool}, RA G B vs ds → asBools ds = some ns → vs = ns.map V.bl
  | [], _, _, .nil, h => by cases h; rfl
  | .bool i :: r, _, ns, .cons h q, e => by
    simp only [asBools] at e
    cases z : asBools r with
    | none => rw [z] at e; cases e
    | some ms =>
      rw [z] at e
      simp only [Option.map_some, Option.some.injEq] at e
      subst e
      rw [h.bool_inv, q.bools z]
      rfl
  | .none :: _, _, _, _, e => by simp [asBools] at e
  | .int _ :: _, _, _, _, e => by simp [asBools] at e
  | .str _ :: _, _, _, _, e => by simp [asBools] at e
  | .list _ :: _, _, _, _, e => by simp [asBools] at e
  | .tuple _ :: _, _, _, _, e => by simp [asBools] at e
  | .dict _ :: _, _, _, _, e => by simp [asBools] at e
def dSum : D → O
  | .list ds => (match asInts ds with
    | some ns => .ok (.int ns.sum)
    | none => .bad)
  | _ => .bad
def dAll : D → O
  | .list ds => (match asBools ds with
    | some bs => .ok (.bool (bs.all id))
    | none => .bad)
  | _ => .bad
theorem calm_dSum : Calm1 (d1 dSum) := fun ds c h => by
  unfold d1 dSum at h
  split at h
  · split at h
    · split at h <;> cases h
    · cases h
  · cases h
theorem calm_dAll : Calm1 (d1 dAll) := fun ds c h => by
  unfold d1 dAll at h
  split at h
  · split at h
    · split at h <;> cases h
    · cases h
  · cases h
theorem cd_sum (hc : X.calm = true) : CallR X (.builtin "sum") (cD (ct X C xc) 0 (d1 dSum)) := by
  intro pins s σ H vs us Q I rv ⟨B, ds, e, r, p⟩
  unfold d1 at p
  split at p
  · rename_i d
    obtain ⟨v, rfl, r1⟩ := r.one
    unfold dSum at p
    split at p
    · split at p
      · rename_i ns hn
        obtain ⟨a, ws, rfl, h, q⟩ := r1.list_inv
        have ew := q.ints hn
        subst ew
        exact cr_sum hc pins s σ H _ us Q I rv ⟨a, ns, rfl, SqL.of (e _ _ h), fin0 p (.refl e) (.int _)⟩
      · exact p.elim
    · exact p.elim
  · exact p.elim
theorem cd_all (hc : X.calm = true) : CallR X (.builtin "all") (cD (ct X C xc) 0 (d1 dAll)) := by
  intro pins s σ H vs us Q I rv ⟨B, ds, e, r, p⟩
  unfold d1 at p
  split at p
  · rename_i d
    obtain ⟨v, rfl, r1⟩ := r.one
    unfold dAll at p
    split at p
    · split at p
      · rename_i ns hn
        obtain ⟨a, ws, rfl, h, q⟩ := r1.list_inv
        have ew := q.bools hn
        subst ew
        exact cr_all hc pins s σ H _ us Q I rv ⟨a, ns, rfl, SqL.of (e _ _ h), fin0 p (.refl e) (.bl _)⟩
      · exact p.elim
    · exact p.elim
  · exact p.elim
/-- list(xs): a new list -/
def dList : D → O
  | .list ds => .ok (.list ds)
  | .tuple ds => .ok (.list ds)
  | _ => .bad
theorem calm_dList : Calm1 (d1 dList) := fun ds c h => by
  unfold d1 dList at h
  split at h
  · split at h <;> cases h
  · cases h
theorem cd_list : CallR X (.type "list") (cD (ct X C xc) 1 (d1 dList)) := by
  intro pins s σ H vs us Q I rv ⟨B, ds, e, r, p⟩
  unfold d1 at p
  split at p
  · rename_i d
    obtain ⟨v, rfl, r1⟩ := r.one
    unfold dList at p
    split at p
    · obtain ⟨a, ws, rfl, h, q⟩ := r1.list_inv
      exact call_list_of pins s σ H _ us Q I rv ⟨a, ws, rfl, .inl (SqL.of (e _ _ h)), fun l hl => fin1 p e hl (I.hok a _ (e _ _ h)).1 q⟩
    · obtain ⟨a, ws, rfl, h, q⟩ := r1.tup_inv
      obtain ⟨_, _, _, hz⟩ := I.tuple (ex_t e h)
      exact call_list_of pins s σ H _ us Q I rv ⟨a, ws, rfl, .inr (ex_t e h), fun l hl => fin1 p e hl hz q⟩
    · exact p.elim
  · exact p.elim
/-- tuple(xs) of a list -/
def dTuple : D → O
  | .list ds => .ok (.tuple ds)
  | _ => .bad
theorem calm_dTuple : Calm1 (d1 dTuple) := fun ds c h => by
  unfold d1 dTuple at h
  split at h
  · split at h <;> cases h
  · cases h
theorem cd_tuple : CallR X (.type "tuple") (cD (ct X C xc) 0 (d1 dTuple)) := by
  intro pins s σ H vs us Q I rv ⟨B, ds, e, r, p⟩
  unfold d1 at p
  split at p
  · rename_i d
    obtain ⟨v, rfl, r1⟩ := r.one
    unfold dTuple at p
    split at p
    · obtain ⟨a, ws, rfl, h, q⟩ := r1.list_inv
      exact call_tuple_of pins s σ H _ us Q I rv ⟨a, ws, rfl, .inl ⟨SqL.of (e _ _ h), fun l hl => fin0 p (.new e hl) (.tup (sqT_of (G := ct X C xc) upd_same) (q.mono (Ex.new (Ex.back e hl))))⟩⟩
    · exact p.elim
  · exact p.elim
/-- int(b) -/
def dIntOf : D → O
  | .bool b => .ok (.int (if b = true then 1 else 0))
  | .int i => .ok (.int i)
  | _ => .bad
theorem calm_dIntOf : Calm1 (d1 dIntOf) := fun ds c h => by
  unfold d1 dIntOf at h
  split at h
  · split at h <;> cases h
  · cases h
theorem cd_int : CallR X (.type "int") (cD (ct X C xc) 0 (d1 dIntOf)) := by
  intro pins s σ H vs us Q I rv ⟨B, ds, e, r, p⟩
  unfold d1 at p
  split at p
  · rename_i d
    obtain ⟨v, rfl, r1⟩ := r.one
    unfold dIntOf at p
    split at p
    · rename_i b
      have ev := r1.bool_inv
      subst ev
      exact call_int1 pins s σ H _ us Q I rv (.inr ⟨b, rfl, fin0 p (.refl e) (.int _)⟩)
    · rename_i i
      have ev := r1.int_inv
      subst ev
      exact call_int1 pins s σ H _ us Q I rv (.inl ⟨i, rfl, fin0 p (.refl e) (.int _)⟩)
    · exact p.elim
  · exact p.elim
/-- max(a, b), min(a, b) -/
def d2 (g : D → D → O) : List D → O
  | [x, y] => g x y
  | _ => .bad
def dMin2 : D → D → O := dInt2 cT fun i j => .int (if j < i then j else i)
theorem calm_d2 {g : D → D → O} (h : Calm2 g) : Calm1 (d2 g) := fun ds c z => by
  unfold d2 at z
  split at z
  · exact h _ _ _ z
  · cases z
theorem cd_min2 (hc : X.calm = true) : CallR X (.builtin "min") (cD (ct X C xc) 0 (d2 dMin2)) := by
  intro pins s σ H vs us Q I rv ⟨B, ds, e, r, p⟩
  unfold d2 at p
  split at p
  · rename_i x y
    obtain ⟨v, v', rfl, r1, r2⟩ := r.two
    unfold dMin2 dInt2 at p
    split at p
    · rename_i i j
      have e1 := r1.int_inv
      have e2 := r2.int_inv
      subst e1 e2
      rw [if_pos rfl] at p
      exact call_min2 hc pins s σ H _ us Q I rv ⟨i, j, rfl, fin0 p (.refl e) (.int _)⟩
    · exact p.elim
  · exact p.elim

/-! ### tests -/
def PostT (G : Ct) (W : WX) (σ : L2.St) (B H : Hp) (Q : Bool → Hp → Prop) : O → Prop
  | .ok (.bool b) => ∀ H', Ex H H' → Q b H'
  | .ex c => ∀ B' H', Ext B H B' H' → W (.ref (G.xc c)) none σ H'
  | _ => False
/-- a test: all names are read as shared -/
def tT (G : Ct) (W : WX) (f : FE) : TT := fun σ H Q => ∃ B ρ, Ex B H ∧ EnvOk G B H σ ρ ∧ PostT G W σ B H Q (f (frz ρ))
theorem EnvOk.frozen {G : Ct} {B H : Hp} {σ : L2.St} {ρ : Rho} (e : Ex B H) (h : EnvOk G B H σ ρ) : ∃ B', Ex B B' ∧ Ex B' H ∧ EnvOk G B' H σ (frz ρ) := by
  obtain ⟨A, r, nd⟩ := h
  exact ⟨fz A B H, fz_ex fun a ha => (r.nodes a ha).2, fz_le e, [], r.frozen, List.nodup_nil⟩
/-- .. from the reading at frozen names -/
def tV (G : Ct) (W : WX) (f : FE) : TT := fun σ H Q => ∃ B ρ, Ex B H ∧ EnvOk G B H σ ρ ∧ PostT G W σ B H Q (f ρ)
theorem t_of_v {X : Cx} {e : Expr} {f : FE} (h : PT X e (tV (ct X C xc) W f)) : PT X e (tT (ct X C xc) W f) := weakT h fun σ H Q ⟨B, ρ, e, env, p⟩ => by
  obtain ⟨B', e1, e2, env'⟩ := env.frozen e
  refine ⟨B', frz ρ, e2, env', ?_⟩
  revert p
  cases f (frz ρ) with
  | ok d => exact fun p => by cases d <;> exact p
  | ex c => exact fun p B2 H2 x => p B H2 (.heap e x.h)
  | bad => exact fun p => p
theorem v_of {f : FE} {σ : L2.St} {H : Hp} {Q : Bool → Hp → Prop} (h : tV (ct X C xc) W f σ H Q) : tB (tD (ct X C xc) W f) σ H Q := by
  obtain ⟨B, ρ, e, env, p⟩ := h
  refine ⟨B, ρ, e, env, ?_⟩
  revert p
  cases f ρ with
  | ok d =>
      intro p v B' H' A x hv _ _
      cases d with
      | bool b => exact ⟨b, hv.1.bool_inv, p H' x.h⟩
      | _ => exact p.elim
  | ex c => exact fun p => p
  | bad => exact fun p => p
/-- a name, a call, a subscript ..: as a test -/
theorem dv_val {e : Expr} {f : FE} (h : PE X e (tD (ct X C xc) W f)) (he : ∀ whole, isTrue e X.env whole = (do let v ← whole; standAt e.pos; holding [v] (truthy v)) := by intro _; rfl) : PT X e (tV (ct X C xc) W f) := weakT (pt_val h he) fun _ _ _ p => v_of p
theorem dv_cmp {op : CmpOp} {g : D → D → O} {a b : Expr} {f1 f2 : FE} {pos : Pos} (ho : OpR X (compareOp op) (rD (ct X C xc) 0 g)) (hc : Calm2 g) (ha : PE X a (tD (ct X C xc) W f1)) (hb : PE X b (tD (ct X C xc) W f2)) (hm : behindInMarks op b = false := by first | exact nomark _ | rfl) :
    PT X (.Compare a [op] [b] pos) (tV (ct X C xc) W (fBin g f1 f2)) := weakT (pt_cmpR ho ha hb hm) fun σ H Q p => by
  obtain ⟨B, ρ, e, env, p⟩ := p
  refine bin_go (n := 0) hc ⟨B, ρ, e, env, ?_⟩
  revert p
  cases fBin g f1 f2 ρ with
  | ok d =>
      intro p v B' H' A x hv _ _
      cases d with
      | bool b => exact ⟨b, hv.1.bool_inv, p H' x.h⟩
      | _ => exact p.elim
  | ex c => exact fun p => p
  | bad => exact fun p => p
theorem PostT.ext {G : Ct} {σ : L2.St} {B H B1 H1 : Hp} {Q : Bool → Hp → Prop} {o : O} (h : PostT G W σ B H Q o) (x : Ext B H B1 H1) : PostT G W σ B1 H1 Q o := by
  cases o with
  | ok d =>
    cases d with
    | bool b => exact fun H' y => h H' (x.h.trans y)
    | _ => exact h
  | ex c => exact fun B' H' y => h B' H' (x.trans y)
  | bad => exact h
def fNot (f : FE) : FE := fun ρ => (f ρ).bind dNot
def fAnd (f g : FE) : FE := fun ρ => (f ρ).bind fun d => match d with
  | .bool true => g ρ
  | .bool false => .ok (.bool false)
  | _ => .bad
def fOr (f g : FE) : FE := fun ρ => (f ρ).bind fun d => match d with
  | .bool true => .ok (.bool true)
  | .bool false => g ρ
  | _ => .bad
theorem dv_not {a : Expr} {f : FE} {pos : Pos} (h : PT X a (tV (ct X C xc) W f)) : PT X (.UnaryOp .Not a pos) (tV (ct X C xc) W (fNot f)) := weakT (pt_not h) fun σ H Q ⟨B, ρ, e, env, p⟩ => by
  refine ⟨B, ρ, e, env, ?_⟩
  unfold fNot at p
  revert p
  cases f ρ with
  | ok d => exact fun p => by cases d <;> exact p
  | ex c => exact fun p => p
  | bad => exact fun p => p
theorem dw_one {op : BoolOp} {a : Expr} {f : FE} {pos : Pos} (h : PT X a (tV (ct X C xc) W f)) : PW X (.BoolOp op [a] pos) (tV (ct X C xc) W f) := by
  cases op with
  | And => exact pw_and1 h
  | Or => exact pw_or1 h
theorem dw_and {a b : Expr} {rest : List Expr} {f g : FE} {pos : Pos} (ha : PT X a (tV (ct X C xc) W f)) (hb : PW X (.BoolOp .And (b :: rest) pos) (tV (ct X C xc) W g)) : PW X (.BoolOp .And (a :: b :: rest) pos) (tV (ct X C xc) W (fAnd f g)) :=
  weakW (pw_and ha hb) fun σ H Q ⟨B, ρ, e, env, p⟩ => by
    refine ⟨B, ρ, e, env, ?_⟩
    unfold fAnd at p
    revert p
    cases f ρ with
    | ok d =>
        intro p
        cases d with
        | bool b =>
          intro H' x
          cases b with
          | true => exact ⟨B, ρ, e.trans x, env.ext (.heap e x), PostT.ext (G := ct X C xc) p (.heap e x)⟩
          | false => exact p H' x
        | _ => exact p.elim
    | ex c => exact fun p => p
    | bad => exact fun p => p
theorem dw_or {a b : Expr} {rest : List Expr} {f g : FE} {pos : Pos} (ha : PT X a (tV (ct X C xc) W f)) (hb : PW X (.BoolOp .Or (b :: rest) pos) (tV (ct X C xc) W g)) : PW X (.BoolOp .Or (a :: b :: rest) pos) (tV (ct X C xc) W (fOr f g)) :=
  weakW (pw_or ha hb) fun σ H Q ⟨B, ρ, e, env, p⟩ => by
    refine ⟨B, ρ, e, env, ?_⟩
    unfold fOr at p
    revert p
    cases f ρ with
    | ok d =>
        intro p
        cases d with
        | bool b =>
          intro H' x
          cases b with
          | true => exact p H' x
          | false => exact ⟨B, ρ, e.trans x, env.ext (.heap e x), PostT.ext (G := ct X C xc) p (.heap e x)⟩
        | _ => exact p.elim
    | ex c => exact fun p => p
    | bad => exact fun p => p
theorem dv_w {e : Expr} {f : FE} (h : PW X e (tV (ct X C xc) W f)) : PT X e (tV (ct X C xc) W f) := h.pt
/-- a op b op' c, of whole numbers -/
def fChain (g g' : D → D → O) (f1 f2 f3 : FE) : FE := fun ρ => (f1 ρ).bind fun x => (f2 ρ).bind fun y => (g x y).bind fun d => match d with
  | .bool true => (f3 ρ).bind fun z => g' y z
  | .bool false => .ok (.bool false)
  | _ => .bad
theorem chain_go {g g' : D → D → O} {f1 f2 f3 : FE} (hc : Calm2 g) (hc' : Calm2 g') {σ : L2.St} {H : Hp} {Q : VK} (h : tD (ct X C xc) W (fChain g g' f1 f2 f3) σ H Q) :
    tChain (rD (ct X C xc) 0 g) (rD (ct X C xc) 0 g') (tD (ct X C xc) W f1) (tD (ct X C xc) W f2) (tD (ct X C xc) W f3) σ H Q := by
  obtain ⟨B, ρ, e, env, p⟩ := h
  refine seqE (m := 0) e env p fun d1 v1 B1 H1 A1 q1 x1 ⟨r1, _⟩ _ _ p1 => ?_
  refine seqE (m := 0) x1.w (env.ext x1) p1 fun d2 v2 B2 H2 A2 q2 x2 ⟨r2, _⟩ _ _ p2 => ?_
  refine ⟨B2, d1, d2, x2.w, r1.mono x2.b, r2, ?_⟩
  cases q : g d1 d2 with
  | ok d =>
    rw [q] at p2
    intro v B3 H3 A3 x3 hv _ _
    have p3 := PostE.ext (G := ct X C xc) p2 x3
    cases d with
    | bool b =>
      refine ⟨b, hv.1.bool_inv, ?_⟩
      cases b with
      | true =>
        refine seqE (m := 0) x3.w ((env.ext x1).ext (x2.trans x3)) p3 fun d4 v4 B4 H4 A4 q4 x4 ⟨r4, _⟩ _ _ p4 => ?_
        exact ⟨B4, d2, d4, x4.w, (r2.mono x3.b).mono x4.b, r4, p4.calm (hc' d2 d4)⟩
      | false => exact fin0 p3 (.refl x3.w) (.bl _)
    | _ => exact p3.elim
  | ex c => exact absurd q (hc d1 d2 c)
  | bad => rw [q] at p2; exact p2.elim
theorem de_chain {op op' : CmpOp} {g g' : D → D → O} {a b c : Expr} {f1 f2 f3 : FE} {pos : Pos} (ho : OpR X (compareOp op) (rD (ct X C xc) 0 g)) (ho' : OpR X (compareOp op') (rD (ct X C xc) 0 g')) (hc : Calm2 g) (hc' : Calm2 g') (ha : PE X a (tD (ct X C xc) W f1)) (hb : PE X b (tD (ct X C xc) W f2)) (hd : PE X c (tD (ct X C xc) W f3))
    (hm : lastMarks [op, op'] [b, c] = false := by with_unfolding_all rfl) : PE X (.Compare a [op, op'] [b, c] pos) (tD (ct X C xc) W (fChain g g' f1 f2 f3)) := weak (pe_chain ho ho' ha hb hd hm) fun _ _ _ h => chain_go hc hc' h
theorem dv_chain {op op' : CmpOp} {g g' : D → D → O} {a b c : Expr} {f1 f2 f3 : FE} {pos : Pos} (ho : OpR X (compareOp op) (rD (ct X C xc) 0 g)) (ho' : OpR X (compareOp op') (rD (ct X C xc) 0 g')) (hc : Calm2 g) (hc' : Calm2 g') (ha : PE X a (tD (ct X C xc) W f1)) (hb : PE X b (tD (ct X C xc) W f2)) (hd : PE X c (tD (ct X C xc) W f3))
    (hm : lastMarks [op, op'] [b, c] = false := by with_unfolding_all rfl) : PT X (.Compare a [op, op'] [b, c] pos) (tV (ct X C xc) W (fChain g g' f1 f2 f3)) := weakT (pt_chain ho ho' ha hb hd hm) fun σ H Q p => by
  obtain ⟨B, ρ, e, env, p⟩ := p
  refine chain_go (Q := fun x H' => ∃ k, x = .bl k ∧ Q k H') hc hc' ⟨B, ρ, e, env, ?_⟩
  revert p
  cases fChain g g' f1 f2 f3 ρ with
  | ok d =>
      intro p v B' H' A x hv _ _
      cases d with
      | bool b => exact ⟨b, hv.1.bool_inv, p H' x.h⟩
      | _ => exact p.elim
  | ex c => exact fun p => p
  | bad => exact fun p => p
/-! and, or, not as values (truth values) -/
theorem de_not {a : Expr} {f : FE} {pos : Pos} (h : PE X a (tD (ct X C xc) W f)) : PE X (.UnaryOp .Not a pos) (tD (ct X C xc) W (fNot f)) := weak (pe_not h) fun σ H Q ⟨B, ρ, e, env, p⟩ => by
  refine seqE (m := 0) e env p fun d v B1 H1 A q x ⟨r, _⟩ _ _ p1 => ?_
  unfold dNot at p1
  split at p1
  · exact ⟨_, r.bool_inv, fin0 p1 (.refl x.w) (.bl _)⟩
  · exact p1.elim
theorem de_one {op : BoolOp} {a : Expr} {f : FE} {pos : Pos} (h : PE X a (tD (ct X C xc) W f)) : PE X (.BoolOp op [a] pos) (tD (ct X C xc) W f) := pe_one h
theorem de_and {a b : Expr} {rest : List Expr} {f g : FE} {pos : Pos} (ha : PE X a (tD (ct X C xc) W f)) (hb : PE X (.BoolOp .And (b :: rest) pos) (tD (ct X C xc) W g)) : PE X (.BoolOp .And (a :: b :: rest) pos) (tD (ct X C xc) W (fAnd f g)) :=
  weak (pe_and ha hb) fun σ H Q ⟨B, ρ, e, env, p⟩ => by
    refine seqE (m := 0) e env p fun d v B1 H1 A q x ⟨r, _⟩ _ _ p1 => ?_
    cases d with
    | bool b =>
      refine ⟨b, r.bool_inv, ?_⟩
      cases b with
      | true => exact ⟨B1, ρ, x.w, env.ext x, p1⟩
      | false => exact fin0 p1 (.refl x.w) (.bl _)
    | _ => exact p1.elim
theorem de_or {a b : Expr} {rest : List Expr} {f g : FE} {pos : Pos} (ha : PE X a (tD (ct X C xc) W f)) (hb : PE X (.BoolOp .Or (b :: rest) pos) (tD (ct X C xc) W g)) : PE X (.BoolOp .Or (a :: b :: rest) pos) (tD (ct X C xc) W (fOr f g)) :=
  weak (pe_or ha hb) fun σ H Q ⟨B, ρ, e, env, p⟩ => by
    refine seqE (m := 0) e env p fun d v B1 H1 A q x ⟨r, _⟩ _ _ p1 => ?_
    cases d with
    | bool b =>
      refine ⟨b, r.bool_inv, ?_⟩
      cases b with
      | true => exact fin0 p1 (.refl x.w) (.bl _)
      | false => exact ⟨B1, ρ, x.w, env.ext x, p1⟩
    | _ => exact p1.elim
end
end M

/-! MComp: targets, what is walked, comprehensions. -/
namespace M
open PySem PySem.Spec L2 PyProof.Rows Evl

/-! ### targets -/
/-- two frames alike but at the places ix -/
def Alike (ix : List Nat) (σ σ' : L2.St) : Prop := σ'.length = σ.length ∧ ∀ i, i ∉ ix → σ'[i]? = σ[i]?
theorem Alike.refl {ix : List Nat} {σ : L2.St} : Alike ix σ σ := ⟨rfl, fun _ _ => rfl⟩
theorem Alike.trans {ix : List Nat} {σ σ1 σ2 : L2.St} (a : Alike ix σ σ1) (b : Alike ix σ1 σ2) : Alike ix σ σ2 := ⟨b.1.trans a.1, fun i h => (b.2 i h).trans (a.2 i h)⟩
theorem Alike.mono {ix jx : List Nat} {σ σ' : L2.St} (a : Alike ix σ σ') (h : ∀ i ∈ ix, i ∈ jx) : Alike jx σ σ' := ⟨a.1, fun i hi => a.2 i fun z => hi (h i z)⟩
theorem Alike.set {ix : List Nat} {σ : L2.St} {i : Nat} {x : Option V} (h : i ∈ ix) : Alike ix σ (σ.set i x) := ⟨by rw [List.length_set], fun j hj => List.getElem?_set_ne fun e => hj (by rw [← e]; exact h)⟩
theorem wipe_len (σ : L2.St) : ∀ vs, (wipe σ vs).length = σ.length
  | [] => rfl
  | v :: vs => by show ((wipe σ vs).set v none).length = _; rw [List.length_set]; exact wipe_len σ vs
theorem wipe_in {σ : L2.St} {i : Nat} : ∀ {vs : List Nat}, i ∈ vs → i < σ.length → (wipe σ vs)[i]? = some none
  | v :: vs, h, hl => by
    show ((wipe σ vs).set v none)[i]? = some none
    by_cases e : v = i
    · subst e
      rw [List.getElem?_set_self (by rw [wipe_len]; exact hl)]
    · rw [List.getElem?_set_ne e]
      rcases List.mem_cons.mp h with z | z
      · exact absurd z.symm e
      · exact wipe_in z hl
theorem wipe_alike {vs : List Nat} {σ σ' : L2.St} (h : Alike vs σ σ') : wipe σ' vs = wipe σ vs := by
  apply List.ext_getElem?
  intro i
  by_cases hi : i ∈ vs
  · by_cases hl : i < σ.length
    · rw [wipe_in hi hl, wipe_in hi (by rw [h.1]; exact hl)]
    · rw [List.getElem?_eq_none (by rw [wipe_len, h.1]; omega), List.getElem?_eq_none (by rw [wipe_len]; omega)]
  · rw [wipe_out hi, wipe_out hi, h.2 i hi]
theorem alike_wipe (vs : List Nat) (σ : L2.St) : Alike vs σ (wipe σ vs) := ⟨wipe_len σ vs, fun i hi => wipe_out hi⟩

abbrev FS := D → Rho → Option Rho
def tDG (G : Ct) (ix : List Nat) (set : FS) : TG := fun v σ H Q => ∃ B ρ A d ρ', Ex B H ∧ ER G B H σ ρ A ∧ A.Nodup ∧ R G B v d ∧ set d ρ = some ρ' ∧
  ∀ σ' A', ER G B H σ' ρ' A' → A'.Nodup → (∀ a ∈ A', a ∈ A) → Alike ix σ σ' → Q σ' H
def setN (i : Nat) : FS := fun d ρ => if i < ρ.length then some (ρ.set i (some (0, d))) else none
def setL : List FS → List D → Rho → Option Rho
  | [], [], ρ => some ρ
  | f :: fs, d :: ds, ρ => (f d ρ).bind fun ρ' => setL fs ds ρ'
  | _, _, _ => none
def setT (fs : List FS) : FS := fun d ρ => match d with
  | .tuple ds => setL fs ds ρ
  | _ => none
def setU (fs : List FS) : FS := fun d ρ => match d with
  | .list ds => setL fs ds ρ
  | _ => none
def tDGs (G : Ct) (ix : List Nat) (fs : List FS) : TGs := fun vs σ H Q => ∃ B ρ A ds ρ', Ex B H ∧ ER G B H σ ρ A ∧ A.Nodup ∧ RA G B vs ds ∧ setL fs ds ρ = some ρ' ∧
  ∀ σ' A', ER G B H σ' ρ' A' → A'.Nodup → (∀ a ∈ A', a ∈ A) → Alike ix σ σ' → Q σ' H
theorem weakGs {X : Cx} {e : List Expr} {t t' : TGs} (h : PGs X e t) (k : ∀ v σ H Q, t' v σ H Q → t v σ H Q) : PGs X e t' := ⟨fun pins s σ H v u Q I r q => h.run pins s σ H v u Q I r (k v σ H Q q)⟩
section
variable {X : Cx} {C : Addr} {xc : Nat → Addr} {W : WX} {n : Nat} {ix : List Nat}
theorem dg_name {i : Nat} {x : Str} {pos : Pos} (hN : X.N.Nodup) (hi : X.N[i]? = some x := by rfl) (hx : Loc X.env.scope x := by first | exact Or.inl rfl | exact Or.inr rfl) (hf : X.fn x = true ∨ X.env.scope.names.lookup x = some .local := by first | exact .inl rfl | exact .inr rfl | assumption) (hm : i ∈ ix := by decide) :
    PG X (.Name x pos) (tDG (ct X C xc) ix (setN i)) := weakG (pg_name hN hi hx hf) fun v σ H Q ⟨B, ρ, A, d, ρ', e, r, nd, rv, hs, k⟩ => by
  unfold setN at hs
  split at hs
  · rename_i hl
    cases hs
    obtain ⟨A', h1, h2, h3⟩ := ER.set (n := 0) (Av := []) ⟨rv, rfl⟩ i r hl nd List.nodup_nil (fun _ z => nomatch z)
    exact k _ A' h1 h2 (fun a ha => (h3 a ha).elim (fun z => nomatch z) id) (.set hm)
  · cases hs
theorem dgs_nil : PGs X [] (tDGs (ct X C xc) ix []) := weakGs pgs_nil fun vs σ H Q ⟨B, ρ, A, ds, ρ', e, r, nd, rv, hs, k⟩ => by
  cases rv with
  | nil =>
    cases hs
    exact ⟨rfl, k σ A r nd (fun _ h => h) .refl⟩
  | cons h q => cases hs
theorem dgs_cons {e : Expr} {es : List Expr} {f : FS} {fs : List FS} (h1 : PG X e (tDG (ct X C xc) ix f)) (h2 : PGs X es (tDGs (ct X C xc) ix fs)) (hs : (assignEach (e :: es) X.env).map (·.2) = assign e X.env :: (assignEach es X.env).map (·.2) := by rfl) :
    PGs X (e :: es) (tDGs (ct X C xc) ix (f :: fs)) := weakGs (pgs_cons h1 h2 hs) fun vs σ H Q ⟨B, ρ, A, ds, ρ', e, r, nd, rv, hs, k⟩ => by
  cases rv with
  | nil => cases hs
  | @cons v vs' d ds' h q =>
    refine ⟨_, _, rfl, ?_⟩
    simp only [setL] at hs
    cases z : f d ρ with
    | none => rw [z] at hs; cases hs
    | some ρ1 =>
      rw [z] at hs
      refine ⟨B, ρ, A, d, ρ1, e, r, nd, h, z, fun σ1 A1 r1 nd1 s1 a1 => ?_⟩
      exact ⟨B, ρ1, A1, ds', ρ', e, r1, nd1, q, hs, fun σ2 A2 r2 nd2 s2 a2 => k σ2 A2 r2 nd2 (fun a ha => s1 a (s2 a ha)) (a1.trans a2)⟩
theorem setL_len : ∀ {fs : List FS} {ds : List D} {ρ ρ' : Rho}, setL fs ds ρ = some ρ' → ds.length = fs.length
  | [], [], _, _, _ => rfl
  | f :: fs, d :: ds, ρ, ρ', h => by
    simp only [setL] at h
    cases z : f d ρ with
    | none => rw [z] at h; cases h
    | some ρ1 =>
      rw [z] at h
      rw [List.length_cons, List.length_cons, setL_len (fs := fs) (ds := ds) h]
  | [], _ :: _, _, _, h => by cases h
  | _ :: _, [], _, _, h => by cases h
theorem dg_tup {es : List Expr} {kk : Nat} {pos : Pos} {fs : List FS} (hc : X.calm = true) (h : PGs X es (tDGs (ct X C xc) ix fs)) (hn : (assignEach es X.env).length = fs.length := by rfl) (hst : (assignEach es X.env).findIdx? (·.1) = none := by rfl) :
    PG X (.Tuple es kk pos) (tDG (ct X C xc) ix (setT fs)) := weakG (pg_tup hc h hn hst) fun v σ H Q ⟨B, ρ, A, d, ρ', e, r, nd, rv, hs, k⟩ => by
  unfold setT at hs
  split at hs
  · obtain ⟨a, vs, rfl, h1, q⟩ := rv.tup_inv
    exact ⟨a, vs, rfl, ex_t e h1, by rw [q.length]; exact setL_len hs, B, ρ, A, _, ρ', e, r, nd, q, hs, k⟩
  · cases hs
theorem dg_lst {es : List Expr} {kk : Nat} {pos : Pos} {fs : List FS} (hc : X.calm = true) (h : PGs X es (tDGs (ct X C xc) ix fs)) (hn : (assignEach es X.env).length = fs.length := by rfl) (hst : (assignEach es X.env).findIdx? (·.1) = none := by rfl) :
    PG X (.Tuple es kk pos) (tDG (ct X C xc) ix (setU fs)) := weakG (pg_lst hc h hn hst) fun v σ H Q ⟨B, ρ, A, d, ρ', e, r, nd, rv, hs, k⟩ => by
  unfold setU at hs
  split at hs
  · obtain ⟨a, vs, rfl, h1, q⟩ := rv.list_inv
    exact ⟨a, vs, rfl, SqL.of (e _ _ h1), by rw [q.length]; exact setL_len hs, B, ρ, A, _, ρ', e, r, nd, q, hs, k⟩
  · cases hs
end

/-! ### what is walked -/
def Walks (G : Ct) (J : It) (B : Hp) (ds : List D) : Prop := ∀ i H, Ex B H → (ds.length ≤ i → J.stop i H) ∧
  ∀ d, ds[i]? = some d → J.go i H ∧ ∀ x H', J.yld i H x H' → ∀ B1, Ex B B1 → Ex B1 H → ∃ B2, Ext B1 H B2 H' ∧ R G B2 x d
def PostI (G : Ct) (W : WX) (σ : L2.St) (B H : Hp) (Rk : It → Hp → Prop) : OL → Prop
  | .ok ds => ∀ J B' H', Ext B H B' H' → Walks G J B' ds → Rk J H'
  | .ex c => ∀ B' H', Ext B H B' H' → W (.ref (G.xc c)) none σ H'
  | .bad => False
def tDI (G : Ct) (W : WX) (fi : Rho → OL) : TI := fun σ H Rk => ∃ B ρ, Ex B H ∧ EnvOk G B H σ ρ ∧ PostI G W σ B H Rk (fi ρ)
def items (o : O) : OL := match o with
  | .ok (.list ds) => .ok ds
  | .ok (.tuple ds) => .ok ds
  | .ex c => .ex c
  | _ => .bad
def iSeq (f : FE) : Rho → OL := fun ρ => items (f ρ)
def intsD (lo : Int) (n : Nat) : List D := (List.range n).map fun i : Nat => .int (lo + (i : Int))
def iRng (fs : List FE) : Rho → OL := fun ρ => match evA fs ρ with
  | .ok [.int j] => if -100000 ≤ j ∧ j ≤ 100000 then .ok (intsD 0 j.toNat) else .bad
  | .ok [.int i, .int j] => if (-100000 ≤ i ∧ i ≤ 100000) ∧ (-100000 ≤ j ∧ j ≤ 100000) then .ok (intsD i (j - i).toNat) else .bad
  | .ok _ => .bad
  | .ex c => .ex c
  | .bad => .bad
def numbered : Nat → List D → List D
  | _, [] => []
  | i, d :: ds => .tuple [.int (i : Nat), d] :: numbered (i + 1) ds
def iEnm (f : FE) : Rho → OL := fun ρ => match f ρ with
  | .ok (.list ds) => .ok (numbered 0 ds)
  | .ex c => .ex c
  | _ => .bad
theorem numbered_len : ∀ (ds : List D) (i : Nat), (numbered i ds).length = ds.length
  | [], _ => rfl
  | d :: ds, i => by rw [numbered, List.length_cons, List.length_cons, numbered_len]
theorem numbered_get : ∀ (ds : List D) (i j : Nat) (x : D), (numbered i ds)[j]? = some x → ∃ d, ds[j]? = some d ∧ x = .tuple [.int ((i + j : Nat) : Int), d]
  | [], _, _, _, h => by simp [numbered] at h
  | d :: ds, i, 0, x, h => by
    simp [numbered] at h
    exact ⟨d, rfl, h.symm⟩
  | d :: ds, i, j + 1, x, h => by
    simp only [numbered, List.getElem?_cons_succ] at h
    obtain ⟨d', h1, h2⟩ := numbered_get ds (i + 1) j x h
    refine ⟨d', by simpa using h1, ?_⟩
    rw [h2]
    congr 3
    omega
section
variable {X : Cx} {C : Addr} {xc : Nat → Addr} {W : WX} {n : Nat} {tg : Expr}
theorem walks_list {G : Ct} {B : Hp} {a : Addr} {vs : List V} {ds : List D} (h : B a = some (.lst vs)) (r : RA G B vs ds) : Walks G (Itl G.K a) B ds := fun i H e => by
  refine ⟨fun hi => ⟨vs, SqL.of (e _ _ h), by rw [r.length]; exact hi⟩, fun d hd => ?_⟩
  obtain ⟨v, h1, h2⟩ := r.get hd
  exact ⟨⟨vs, v, SqL.of (e _ _ h), h1⟩, fun x H' ⟨eH, y⟩ B1 e1 e2 => by
    subst eH
    have := y vs (SqL.of (e _ _ h))
    rw [h1] at this
    cases this
    exact ⟨B1, .refl e2, h2.mono e1⟩⟩
theorem walks_tup {G : Ct} {B : Hp} {a : Addr} {vs : List V} {ds : List D} (h : SqT G.K B a vs) (r : RA G B vs ds) : Walks G (Itt G.K a) B ds := fun i H e => by
  refine ⟨fun hi => ⟨vs, ex_t e h, by rw [r.length]; exact hi⟩, fun d hd => ?_⟩
  obtain ⟨v, h1, h2⟩ := r.get hd
  exact ⟨⟨vs, v, ex_t e h, h1⟩, fun x H' ⟨eH, y⟩ B1 e1 e2 => by
    subst eH
    have := y vs (ex_t e h)
    rw [h1] at this
    cases this
    exact ⟨B1, .refl e2, h2.mono e1⟩⟩
theorem ints_len (lo : Int) (n : Nat) : (intsD lo n).length = n := by unfold intsD; rw [List.length_map, List.length_range]
theorem ints_get {lo : Int} {n i : Nat} {d : D} (h : (intsD lo n)[i]? = some d) : i < n ∧ d = .int (lo + (i : Int)) := by
  unfold intsD at h
  rw [List.getElem?_map] at h
  by_cases hi : i < n
  · rw [List.getElem?_range hi] at h
    cases h
    exact ⟨hi, rfl⟩
  · rw [List.getElem?_eq_none (by rw [List.length_range]; omega)] at h
    cases h
theorem walks_ints {G : Ct} {B : Hp} (lo : Int) (n : Nat) : Walks G (Itr lo n) B (intsD lo n) := fun i H e => by
  refine ⟨fun hi => by rw [ints_len] at hi; exact hi, fun d hd => ?_⟩
  obtain ⟨h1, h2⟩ := ints_get hd
  subst h2
  exact ⟨h1, fun x H' ⟨eH, y⟩ B1 e1 e2 => by
    subst eH y
    exact ⟨B1, .refl e2, .int _⟩⟩
theorem walks_enum {G : Ct} {B : Hp} {a : Addr} {vs : List V} {ds : List D} (h : B a = some (.lst vs)) (r : RA G B vs ds) : Walks G (Ite G.K a) B (numbered 0 ds) := fun i H e => by
  refine ⟨fun hi => ⟨vs, SqL.of (e _ _ h), by rw [numbered_len] at hi; rw [r.length]; exact hi⟩, fun d hd => ?_⟩
  obtain ⟨d', h1, h2⟩ := numbered_get ds 0 i d hd
  obtain ⟨v, h3, h4⟩ := r.get h1
  refine ⟨⟨vs, v, SqL.of (e _ _ h), h3⟩, fun x H' ⟨T, x', ex, hT, eH, y⟩ B1 e1 e2 => ?_⟩
  subst ex eH h2
  have := y vs (SqL.of (e _ _ h))
  rw [h3] at this
  cases this
  refine ⟨_, Ext.new e2 hT, .tup (sqT_of (G := G) upd_same) ?_⟩
  have e3 := Ex.new (o := .tup [.int (i : Nat), v]) (Ex.back e2 hT)
  rw [Nat.zero_add]
  exact .cons (.int _) (.cons ((h4.mono e1).mono e3) .nil)
theorem evA_len : ∀ {fs : List FE} {ρ : Rho} {ds : List D}, evA fs ρ = .ok ds → ds.length = fs.length
  | [], _, _, h => by cases h; rfl
  | f :: fs, ρ, ds, h => by
    unfold evA at h
    split at h
    · split at h
      · rename_i h1 ds' h2
        cases h
        rw [List.length_cons, List.length_cons, evA_len h2]
      · cases h
      · cases h
    · cases h
    · cases h
theorem items_go {f : FE} {σ : L2.St} {H : Hp} {Rk : It → Hp → Prop} (h : tDI (ct X C xc) W (iSeq f) σ H Rk) {Q : VK}
    (hl : ∀ a vs ds B H', Ex B H' → B a = some (.lst vs) → RA (ct X C xc) B vs ds → (∀ J, Walks (ct X C xc) J B ds → Rk J H') → Q (.ref a) H')
    (ht : ∀ a vs ds B H', Ex B H' → SqT X.K B a vs → RA (ct X C xc) B vs ds → (∀ J, Walks (ct X C xc) J B ds → Rk J H') → Q (.ref a) H') : tD (ct X C xc) W f σ H Q := by
  obtain ⟨B, ρ, e, env, p⟩ := h
  refine ⟨B, ρ, e, env, ?_⟩
  unfold iSeq items at p
  revert p
  cases f ρ with
  | ok d =>
    intro p v B1 H1 A x hv _ _
    cases d with
    | list ds =>
      obtain ⟨a, vs, rfl, h1, q⟩ := hv.1.list_inv
      exact hl a vs ds B1 H1 x.w h1 q fun J w => p J B1 H1 x w
    | tuple ds =>
      obtain ⟨a, vs, rfl, h1, q⟩ := hv.1.tup_inv
      exact ht a vs ds B1 H1 x.w h1 q fun J w => p J B1 H1 x w
    | _ => exact p.elim
  | ex c => exact fun p => p
  | bad => exact fun p => p
/-- an iterator just made -/
theorem iter_at {pins : List (Addr × Obj)} {σ : L2.St} {H : Hp} {s : Shared} {ob : Obj} {J : It} {tn : Nat → Heap → Prop} {Rk : It → Hp → Prop} (I : Inv X pins σ H s) (tr : Turn X.prog X.w X.K tg J [s.heap.objs.size] s.heap.objs.size tn) (t0 : tn 0 (s.heap.push ob)) (q : Rk J H) :
    PIE X pins σ tg Rk (.ref s.heap.objs.size) { s with heap := s.heap.push ob } :=
  ⟨_, _, _, J, H, rfl, I.kept (t' := s.toks) (fun c oc z => Heap.get?_push_of_some _ z), tr, t0, fun c hc => by rw [List.mem_singleton.mp hc]; exact I.fpOk (Nat.le_refl _) (I.hok.fresh (Nat.le_refl _)), q⟩
/-- a list, a tuple -/
theorem di_seq {l : Expr} {f : FE} (h : PE X l (tD (ct X C xc) W f)) : PI X tg l (tDI (ct X C xc) W (iSeq f)) := by
  refine ⟨fun pins s σ H Rk I h0 => thn (h.run pins s σ H _ I (items_go (Q := fun x H' => (∃ a vs, x = .ref a ∧ SqL X.K H' a vs ∧ Rk (Itl X.K a) H') ∨ ∃ a vs, x = .ref a ∧ SqT X.K H' a vs ∧ Rk (Itt X.K a) H') h0
    (fun a vs ds B H' e h1 q k => .inl ⟨a, vs, rfl, SqL.of (e _ _ h1), k _ (walks_list h1 q)⟩) (fun a vs ds B H' e h1 q k => .inr ⟨a, vs, rfl, ex_t e h1, k _ (walks_tup h1 q)⟩))) ?_⟩
  rintro v s1 ⟨x, H1, I1, rx, ⟨a, vs, rfl, sq, q⟩ | ⟨a, vs, rfl, sq, q⟩⟩
  · obtain rfl : v = .ref a := rx
    obtain ⟨_, _, pl, _⟩ := I1.list sq
    exact wpAny_pyIter_list pl.isList (iter_at I1 (turn_list a _) ⟨_, Heap.get?_push_size _ rfl, rfl, rfl⟩ q)
  · obtain rfl : v = .ref a := rx
    obtain ⟨its, _, pl, _⟩ := I1.tuple sq
    exact wpAny_pyIter_tuple (show s1.heap.IsTuple a its.toArray from pl) (iter_at I1 (turn_tuple a _) ⟨_, Heap.get?_push_size _ rfl, rfl, rfl⟩ q)
theorem seqI {G : Ct} {σ : L2.St} {H : Hp} {Rk : It → Hp → Prop} {fs : List FE} {fi : Rho → OL} {Q1 : List V → Hp → Prop} (h : tDI G W fi σ H Rk)
    (hk : ∀ ρ B H, Ex B H → PostI G W σ B H Rk (fi ρ) → PostA G W σ B H Q1 (evA fs ρ)) : tDA G W fs σ H Q1 := by
  obtain ⟨B, ρ, e, env, p⟩ := h
  exact ⟨B, ρ, e, env, hk ρ B H e p⟩
theorem di_range1 {a : Expr} {fs : List FE} {p pos : Pos} (hm : X.mg "range" = none) (ha : PA X [a] (tDA (ct X C xc) W fs)) (hg : Gl X "range" := by rfl) (hs : starEach [a] X.env = [(false, eval a X.env)] := by rfl) (hl : fs.length = 1 := by rfl) :
    PI X tg (.Call (.Name "range" p) [a] [] pos) (tDI (ct X C xc) W (iRng fs)) := weakI (pi_range1 hg hm ha hs) fun σ H Rk h => seqI h fun ρ B H e p => by
  unfold iRng at p
  have hlen : ∀ ds, evA fs ρ = .ok ds → ds.length = 1 := fun ds h => by rw [evA_len h, hl]
  revert p
  cases q : evA fs ρ with
  | ok ds =>
    intro p
    match ds, hlen ds q, p with
    | [.int j], _, p =>
      dsimp only at p
      split at p
      · intro vs B' H' x r
        obtain ⟨v, rfl, r1⟩ := r.one
        refine ⟨j, by rw [r1.int_inv], by omega, by omega, p _ B' H' x (walks_ints 0 _)⟩
      · exact p.elim
  | ex c => exact fun p => p
  | bad => exact fun p => p
theorem di_range2 {a b : Expr} {fs : List FE} {p pos : Pos} (hm : X.mg "range" = none) (ha : PA X [a, b] (tDA (ct X C xc) W fs)) (hg : Gl X "range" := by rfl) (hs : starEach [a, b] X.env = [(false, eval a X.env), (false, eval b X.env)] := by rfl) (hs2 : starEach [b] X.env = [(false, eval b X.env)] := by rfl) (hl : fs.length = 2 := by rfl) :
    PI X tg (.Call (.Name "range" p) [a, b] [] pos) (tDI (ct X C xc) W (iRng fs)) := weakI (pi_range2 hg hm ha hs hs2) fun σ H Rk h => seqI h fun ρ B H e p => by
  unfold iRng at p
  have hlen : ∀ ds, evA fs ρ = .ok ds → ds.length = 2 := fun ds h => by rw [evA_len h, hl]
  revert p
  cases q : evA fs ρ with
  | ok ds =>
    intro p
    match ds, hlen ds q, p with
    | [.int i, .int j], _, p =>
      dsimp only at p
      split at p
      · intro vs B' H' x r
        obtain ⟨v, v', rfl, r1, r2⟩ := r.two
        refine ⟨i, j, by rw [r1.int_inv, r2.int_inv], ⟨by omega, by omega, by omega, by omega⟩, p _ B' H' x (walks_ints i _)⟩
      · exact p.elim
  | ex c => exact fun p => p
  | bad => exact fun p => p
theorem di_enum {a : Expr} {f : FE} {p pos tpos : Pos} {elts : List Expr} {kk : Nat} (hm : X.mg "enumerate" = none) (ha : PE X a (tD (ct X C xc) W f)) (hg : Gl X "enumerate" := by rfl) (hs : starEach [a] X.env = [(false, eval a X.env)] := by rfl) :
    PI X (.Tuple elts kk tpos) (.Call (.Name "enumerate" p) [a] [] pos) (tDI (ct X C xc) W (iEnm f)) := weakI (pi_enum hg hm (da_cons (W := W) (C := C) (xc := xc) ha da_nil (by rw [hs]; rfl)) hs) fun σ H Rk h => seqI h fun ρ B H e p => by
  unfold evA evA
  unfold iEnm at p
  split at p
  · rename_i ds q
    rw [q]
    intro vs B' H' x r
    obtain ⟨v, rfl, r1⟩ := r.one
    obtain ⟨ad, ws, rfl, h1, q1⟩ := r1.list_inv
    exact ⟨ad, ws, rfl, SqL.of (x.w _ _ h1), p _ B' H' x (walks_enum h1 q1)⟩
  · rename_i c q; rw [q]; exact p
  · exact p.elim

/-! ### comprehensions -/
def wipeR (ρ : Rho) : List Nat → Rho
  | [] => ρ
  | v :: vs => (wipeR ρ vs).set v none
theorem ER.unset {G : Ct} {B H : Hp} {x : Option V} : ∀ {σ : L2.St} {ρ : Rho} {A : List Addr} (i : Nat), ER G B H σ ρ A → A.Nodup → ∃ A', ER G B H (σ.set i x) (ρ.set i none) A' ∧ A'.Nodup ∧ ∀ a ∈ A', a ∈ A
  | _, _, _, _, .nil, nd => ⟨[], .nil, nd, fun _ h => h⟩
  | _, _, A, 0, .skip r, nd => ⟨A, .skip r, nd, fun _ h => h⟩
  | _, _, _, 0, .cons (A1 := A1) (A2 := A2) h r, nd => ⟨A2, .skip r, (List.nodup_append.mp nd).2.1, fun a ha => List.mem_append_right _ ha⟩
  | _, _, A, i + 1, .skip r, nd => by
    obtain ⟨A', h1, h2, h3⟩ := ER.unset i r nd
    exact ⟨A', .skip h1, h2, h3⟩
  | _, _, _, i + 1, .cons (A1 := A1) (A2 := A2) h r, nd => by
    obtain ⟨m1, m2, m3⟩ := List.nodup_append.mp nd
    obtain ⟨A', h1, h2, h3⟩ := ER.unset i r m2
    exact ⟨A1 ++ A', .cons h h1, List.nodup_append.mpr ⟨m1, h2, fun a ha b hb e => m3 a ha b (h3 b hb) e⟩, fun a ha => (List.mem_append.mp ha).elim (List.mem_append_left _) fun z => List.mem_append_right _ (h3 a z)⟩
theorem ER.wiped {G : Ct} {B H : Hp} {σ : L2.St} {ρ : Rho} {A : List Addr} (r : ER G B H σ ρ A) (nd : A.Nodup) : ∀ vs, ∃ A', ER G B H (wipe σ vs) (wipeR ρ vs) A' ∧ A'.Nodup ∧ ∀ a ∈ A', a ∈ A
  | [] => ⟨A, r, nd, fun _ h => h⟩
  | v :: vs => by
    obtain ⟨A1, r1, n1, s1⟩ := ER.wiped r nd vs
    obtain ⟨A2, r2, n2, s2⟩ := r1.unset v n1 (x := none)
    exact ⟨A2, r2, n2, fun a ha => s1 a (s2 a ha)⟩
def lcGo (set : FS) (ft fe : FE) (ρ : Rho) : List D → OL
  | [] => .ok []
  | d :: ds => match set d ρ with
    | none => .bad
    | some ρ1 => match ft ρ1 with
      | .ok (.bool true) => (match fe ρ1 with
        | .ok y => (match lcGo set ft fe ρ ds with
          | .ok ys => .ok (y :: ys)
          | _ => .bad)
        | _ => .bad)
      | .ok (.bool false) => lcGo set ft fe ρ ds
      | _ => .bad
def fLc (fi : Rho → OL) (set : FS) (ft fe : FE) (vs : List Nat) : FE := fun ρ => match fi ρ with
  | .ok ds => if ds.length ≤ 100000 then (match lcGo set ft fe (wipeR ρ vs) ds with
    | .ok ys => .ok (.list ys)
    | _ => .bad) else .bad
  | .ex c => .ex c
  | .bad => .bad
def fTrue : FE := fC (.bool true)
theorem dts_nil : PTs X [] (tV (ct X C xc) W fTrue) := ⟨fun pins s σ H Q I ⟨B, ρ, e, env, p⟩ => pts_nil.run pins s σ H Q I (p H (Ex.refl H))⟩
theorem dts_one {c : Expr} {f : FE} (h : PT X c (tV (ct X C xc) W f)) : PTs X [c] (tV (ct X C xc) W f) := pts_one h
theorem Own.keepU {G : Ct} {B H : Hp} {n : Nat} {v : V} {d : D} {A : List Addr} {p : Addr} {o : HO} (h : Own G B H n v d A) (hp : p ∉ A) : Own G B (upd H p o) n v d A :=
  Own.move (Ex.refl B) n v d A h (fun a ha => upd_ne fun e => hp (e ▸ ha)) (fun a ha => (h.nodes n v d A a ha).2)
theorem lc_go {fi : Rho → OL} {set : FS} {ft fe : FE} {vs : List Nat} {σ : L2.St} {H : Hp} {Q : VK} (h : tDO (ct X C xc) W (n + 1) (fLc fi set ft fe vs) σ H Q) :
    tLc (tDI (ct X C xc) W fi) (tDG (ct X C xc) vs set) (tV (ct X C xc) W0 ft) (tDO (ct X C xc) W0 n fe) vs σ H Q := by
  obtain ⟨B, ρ, e, env, p⟩ := h
  refine ⟨B, ρ, e, env, ?_⟩
  unfold fLc at p
  revert p
  cases fi ρ with
  | ok ds =>
    intro p J B1 H1 x1 wk D hD
    dsimp only at p
    split at p
    · rename_i hz
      cases hgo : lcGo set ft fe (wipeR ρ vs) ds with
      | ok total =>
        rw [hgo] at p
        have hBD : B1 D = none := Ex.back x1.w hD
        refine ⟨fun i m H' => m = ds.length - i ∧ i ≤ ds.length ∧ ∃ B' acc ys zs A, Ext B1 H1 B' H' ∧ H' D = some (.lst acc) ∧ B' D = none ∧ OA (Own (ct X C xc) B' H' n) acc ys A ∧ A.Nodup ∧ D ∉ A ∧ (∀ a ∈ A, H1 a = none) ∧ acc.length ≤ i ∧ lcGo set ft fe (wipeR ρ vs) (ds.drop i) = .ok zs ∧ total = ys ++ zs,
          ⟨ds.length, by simp, Nat.zero_le _, B1, [], [], total, [], .own x1.w hD, upd_same, hBD, .nil, List.nodup_nil, (fun z => nomatch z), (fun _ z => nomatch z), Nat.le_refl _, hgo, rfl⟩, ?_⟩
        rintro i m H' ⟨rfl, hi, B', acc, ys, zs, A, x2, hacc, hBD', own, nd, hDA, fr, hal, hrest, htot⟩
        by_cases hlt : i < ds.length
        · refine .inr ?_
          have hd : ds[i]? = some ds[i] := List.getElem?_eq_getElem hlt
          obtain ⟨hgo1, hy⟩ := (wk i H' (x2.b.trans x2.w)).2 _ hd
          rw [List.drop_eq_getElem_cons hlt] at hrest
          simp only [lcGo] at hrest
          refine ⟨hgo1, fun H'' => ∃ m', m' < ds.length - i ∧ m' = ds.length - (i + 1) ∧ i + 1 ≤ ds.length ∧ ∃ B' acc ys zs A, Ext B1 H1 B' H'' ∧ H'' D = some (.lst acc) ∧ B' D = none ∧ OA (Own (ct X C xc) B' H'' n) acc ys A ∧ A.Nodup ∧ D ∉ A ∧ (∀ a ∈ A, H1 a = none) ∧ acc.length ≤ i + 1 ∧ lcGo set ft fe (wipeR ρ vs) (ds.drop (i + 1)) = .ok zs ∧ total = ys ++ zs,
            fun H'' ⟨m', h1, h2⟩ => ⟨m', h1, h2⟩, fun x H2 hyld => ?_⟩
          obtain ⟨B2, x3, rx⟩ := hy x H2 hyld B' x2.b x2.w
          cases hset : set ds[i] (wipeR ρ vs) with
          | none => rw [hset] at hrest; cases hrest
          | some ρ1 =>
            rw [hset] at hrest
            dsimp only at hrest
            obtain ⟨A0, r0, nd0⟩ := env
            obtain ⟨A1, r1, nd1, s1⟩ := (((r0.ext x1).ext x2).ext x3).wiped nd0 vs
            refine ⟨B2, wipeR ρ vs, A1, ds[i], ρ1, x3.w, r1, nd1, rx, hset, fun σ' A' r' nd' s' al => ⟨?_, ?_⟩⟩
            · exact (wipe_alike al).trans (wipe_alike (alike_wipe vs σ))
            · have hH2D : H2 D = some (.lst acc) := x3.h _ _ hacc
              have hB2D : B2 D = none := x3.n D hBD' (by rw [hacc]; simp)
              have ext12 : Ext B1 H1 B2 H2 := x2.trans x3
              have own2 : OA (Own (ct X C xc) B2 H2 n) acc ys A := own.imp fun v d A1 _ q => q.ext x3
              refine ⟨B2, ρ1, x3.w, ⟨A', r', nd'⟩, ?_⟩
              revert hrest
              cases ft ρ1 with
              | ok b =>
                cases b with
                | bool b =>
                  cases b with
                  | true =>
                    intro hrest H3 e3
                    dsimp only at hrest
                    refine ⟨B2, ρ1, x3.w.trans e3, ⟨A', r'.ext (.heap x3.w e3), nd'⟩, ?_⟩
                    revert hrest
                    cases fe ρ1 with
                    | ok yv =>
                      intro hrest v B4 H4 Av x4 hv ndv frv
                      dsimp only at hrest
                      cases hgo2 : lcGo set ft fe (wipeR ρ vs) (ds.drop (i + 1)) with
                      | ok zs' =>
                        rw [hgo2] at hrest
                        cases hrest
                        have x34 : Ext B2 H2 B4 H4 := Ext.trans (.heap x3.w e3) x4
                        have hH4D : H4 D = some (.lst acc) := x34.h _ _ hH2D
                        have hB4D : B4 D = none := x34.n D hB2D (by rw [hH2D]; simp)
                        have hDv : D ∉ Av := fun z => by
                          have := frv D z
                          rw [e3 _ _ hH2D] at this
                          cases this
                        have x14 : Ext B1 H1 B4 H4 := ext12.trans x34
                        have hH1D : H1 D = none := hD
                        refine ⟨acc, hH4D, ?_, ds.length - (i + 1), by omega, rfl, hlt, B4, acc ++ [v], ys ++ [yv], zs', A ++ (Av ++ []), ⟨x14.b, x14.h.mut hH1D, fun a o q => ?_, x14.n⟩, upd_same, hB4D, ?_, ?_, ?_, ?_, ?_, rfl, ?_⟩
                        · have : acc.length ≤ i := hal
                          exact Nat.lt_of_le_of_lt this (Nat.lt_of_lt_of_le hlt (Nat.le_trans hz (by decide)))
                        · have : a ≠ D := fun z => by rw [z, hB4D] at q; cases q
                          rw [upd_ne this]
                          exact x14.w a o q
                        · refine OA.append (own2.imp fun v d A1 hs q => (q.ext x34).keepU fun z => hDA (hs D z)) (.cons (hv.keepU hDv) .nil)
                        · rw [List.append_nil]
                          refine List.nodup_append.mpr ⟨nd, ndv, fun a ha b hb z => ?_⟩
                          subst z
                          have h1 : H' a ≠ none := by
                            have go : ∀ {vs : List V} {ds : List PyData} {A : List Addr}, OA (Own (ct X C xc) B' H' n) vs ds A → a ∈ A → H' a ≠ none := by
                              intro vs ds A q
                              induction q with
                              | nil => intro z; cases z
                              | cons h1 _ ih => exact fun z => (List.mem_append.mp z).elim (fun z => (h1.nodes _ _ _ _ a z).1) ih
                            exact go own ha
                          have h2 := frv a hb
                          have h3 : H2 a = none := Ex.back e3 h2
                          exact h1 (Ex.back x3.h h3)
                        · rw [List.append_nil]
                          intro z
                          rcases List.mem_append.mp z with z | z
                          · exact hDA z
                          · exact hDv z
                        · rw [List.append_nil]
                          intro a ha
                          rcases List.mem_append.mp ha with z | z
                          · exact fr a z
                          · exact Ex.back (ext12.h.trans e3) (frv a z)
                        · rw [List.length_append]
                          simp only [List.length_singleton]
                          omega
                        · rw [htot, List.append_assoc]
                          rfl
                      | ex c => rw [hgo2] at hrest; cases hrest
                      | bad => rw [hgo2] at hrest; cases hrest
                    | ex c => intro hrest; cases hrest
                    | bad => intro hrest; cases hrest
                  | false =>
                    intro hrest H3 e3
                    dsimp only at hrest
                    refine ⟨ds.length - (i + 1), by omega, rfl, hlt, B2, acc, ys, zs, A, ext12.trans (.heap x3.w e3), e3 _ _ hH2D, hB2D, own2.imp fun v d A1 _ q => q.ext (.heap x3.w e3), nd, hDA, fr, by omega, hrest, htot⟩
                | _ => intro hrest; cases hrest
              | ex c => intro hrest; cases hrest
              | bad => intro hrest; cases hrest
        · have he : i = ds.length := by omega
          subst he
          refine .inl ⟨(wk _ H' (x2.b.trans x2.w)).1 (Nat.le_refl _), ?_⟩
          rw [List.drop_length] at hrest
          cases hrest
          rw [List.append_nil] at htot
          subst htot
          have hz' : acc.length ≤ sizeLine := Nat.le_trans hal (Nat.le_trans hz (by decide))
          refine fin p (x1.trans x2) (.inl ⟨D, acc, total, A, rfl, rfl, hacc, hz', hBD', own, rfl⟩) (List.nodup_cons.mpr ⟨hDA, nd⟩) fun a ha => ?_
          rcases List.mem_cons.mp ha with rfl | ha
          · exact Ex.back x1.h hD
          · exact Ex.back x1.h (fr a ha)
      | ex c => rw [hgo] at p; exact p.elim
      | bad => rw [hgo] at p; exact p.elim
    · exact p.elim
  | ex c => exact fun p => p
  | bad => exact fun p => p
/-- [elt for target in iter if test] -/
theorem de_lc {elt tg iter : Expr} {ifs : List Expr} {scope : Scope} {pos : Pos} {fi : Rho → OL} {set : FS} {ft fe : FE} (hc : X.calm = true) (hN : X.N.Nodup) (own : List (Str × Nat)) (hi : PI X tg iter (tDI (ct X C xc) W fi)) (ok : BlkOk X.N X.env.scope scope own)
    (hg : ∀ (s : Shared) (H : Hp) (Cc : Addr) (cl : List (Str × Addr)) (fp : List Addr), PG (X.blk s H scope (compEnvC scope cl Cc X.env) fp) tg (tDG (ct X C xc) (own.map (·.2)) set)) (ht : ∀ (s : Shared) (H : Hp) (Cc : Addr) (cl : List (Str × Addr)) (fp : List Addr), PTs (X.blk s H scope (compEnvC scope cl Cc X.env) fp) ifs (tV (ct X C xc) W0 ft))
    (he : ∀ (s : Shared) (H : Hp) (Cc : Addr) (cl : List (Str × Addr)) (fp : List Addr), PE (X.blk s H scope (compEnvC scope cl Cc X.env) fp) elt (tDO (ct X C xc) W0 n fe)) (hs : ∀ x, foldedSetIterable iter X.env x = pure x := by intro _; rfl) :
    PE X (.ListComp elt [⟨tg, iter, ifs, 0⟩] scope pos) (tDO (ct X C xc) W (n + 1) (fLc fi set ft fe (own.map (·.2)))) := weak (pe_lc hc hN hi ok hg ht he hs) fun _ _ _ h => lc_go h
end
end M

/-! MOwn: owned trees changed. -/
namespace M
open PySem PySem.Spec L2 PyProof.Rows Evl
section
variable {G : Ct} {B H : Hp}
theorem nodup_app {α : Type} {l₁ l₂ : List α} : (l₁ ++ l₂).Nodup ↔ l₁.Nodup ∧ l₂.Nodup ∧ ∀ a ∈ l₁, a ∉ l₂ := by
  rw [List.nodup_append]
  constructor
  · exact fun ⟨a, b, c⟩ => ⟨a, b, fun x hx hy => c x hx x hy rfl⟩
  · exact fun ⟨a, b, c⟩ => ⟨a, b, fun x hx y hy e => c x hx (e ▸ hy)⟩
/-- one item of a row of trees -/
theorem OA.item {n : Nat} : ∀ {vs : List V} {ds : List D} {A : List Addr} {j : Nat} {d : D}, OA (Own G B H n) vs ds A → A.Nodup → ds[j]? = some d →
    ∃ v Aj, vs[j]? = some v ∧ Own G B H n v d Aj ∧ Aj.Nodup ∧ (∀ a ∈ Aj, a ∈ A) ∧
      ∀ (H' : Hp) (v' : V) (d' : D) (Aj' : List Addr), (∀ a ∈ A, a ∉ Aj → H' a = H a) → Own G B H' n v' d' Aj' → Aj'.Nodup → (∀ a ∈ Aj', a ∈ Aj ∨ a ∉ A) →
        ∃ A', OA (Own G B H' n) (vs.set j v') (ds.set j d') A' ∧ A'.Nodup ∧ ∀ a ∈ A', a ∈ Aj' ∨ (a ∈ A ∧ a ∉ Aj)
  | _, _, _, _, _, .nil, _, h => by simp at h
  | _, _, _, 0, d, .cons (v := v) (A1 := A1) (A2 := A2) (vs := vs) (ds := ds) h r, nd, e => by
    simp at e
    subst e
    obtain ⟨n1, n2, n3⟩ := nodup_app.mp nd
    refine ⟨v, A1, rfl, h, n1, fun a ha => List.mem_append_left _ ha, fun H' v' d' Aj' hH ho hn hs => ?_⟩
    refine ⟨Aj' ++ A2, .cons ho (r.imp fun u x A3 hsub q => Own.move (Ex.refl B) n u x A3 q (fun a ha => hH a (List.mem_append_right _ (hsub a ha)) fun z => n3 a z (hsub a ha)) fun a ha => (q.nodes n u x A3 a ha).2), nodup_app.mpr ⟨hn, n2, fun a ha z => ?_⟩, fun a ha => ?_⟩
    · rcases hs a ha with q | q
      · exact n3 a q z
      · exact q (List.mem_append_right _ z)
    · rcases List.mem_append.mp ha with z | z
      · exact .inl z
      · exact .inr ⟨List.mem_append_right _ z, fun q => n3 a q z⟩
  | _, _, _, j + 1, d, .cons (v := v) (d := d0) (A1 := A1) (A2 := A2) h r, nd, e => by
    obtain ⟨n1, n2, n3⟩ := nodup_app.mp nd
    obtain ⟨u, Aj, h1, h2, h3, h4, h5⟩ := OA.item (j := j) (d := d) r n2 (by simpa using e)
    refine ⟨u, Aj, by simpa using h1, h2, h3, fun a ha => List.mem_append_right _ (h4 a ha), fun H' v' d' Aj' hH ho hn hs => ?_⟩
    obtain ⟨A', q1, q2, q3⟩ := h5 H' v' d' Aj' (fun a ha => hH a (List.mem_append_right _ ha)) ho hn fun a ha => (hs a ha).imp id fun z q => z (List.mem_append_right _ q)
    refine ⟨A1 ++ A', .cons (Own.move (Ex.refl B) n v d0 A1 h (fun a ha => hH a (List.mem_append_left _ ha) fun z => n3 a ha (h4 a z)) fun a ha => (h.nodes n v d0 A1 a ha).2) q1, nodup_app.mpr ⟨n1, q2, fun a ha z => ?_⟩, fun a ha => ?_⟩
    · rcases q3 a z with q | q
      · rcases hs a q with w | w
        · exact n3 a ha (h4 a w)
        · exact w (List.mem_append_left _ ha)
      · exact n3 a ha q.1
    · rcases List.mem_append.mp ha with z | z
      · exact .inr ⟨List.mem_append_left _ z, fun q => n3 a z (h4 a q)⟩
      · rcases q3 a z with q | q
        · exact .inl q
        · exact .inr ⟨List.mem_append_right _ q.1, q.2⟩
theorem OA.nodesA {n : Nat} {vs : List V} {ds : List D} {A : List Addr} (h : OA (Own G B H n) vs ds A) : ∀ a ∈ A, H a ≠ none ∧ B a = none := by
  induction h with
  | nil => intro a z; cases z
  | cons h1 _ ih => exact fun a z => (List.mem_append.mp z).elim (fun z => h1.nodes _ _ _ _ a z) (ih a)
/-- the root of an owned list -/
theorem Own.root {n : Nat} {v : V} {ds : List D} {A : List Addr} (h : Own G B H (n + 1) v (.list ds) A) : ∃ p vs A', v = .ref p ∧ H p = some (.lst vs) ∧ vs.length ≤ sizeLine ∧ B p = none ∧ OA (Own G B H n) vs ds A' ∧ A = p :: A' := by
  rcases h with ⟨p, vs, ds', A', e1, e2, h1, hz, h2, h3, e3⟩ | (⟨p, xs, kvs, e1, e2, _⟩ | ⟨p, dx, i, vm, mm, A', e1, e2, _⟩) | ⟨p, vs, ds', A', e1, e2, _⟩ | ⟨h1, h2, e3⟩
  · cases e2
    exact ⟨p, vs, A', e1, h1, hz, h2, h3, e3⟩
  · cases e2
  · unfold netD at e2
    cases e2
  · cases e2
  · cases h1
/-- x[j] = v' -/
theorem Own.store {n j : Nat} {v v' : V} {ds : List D} {d' : D} {A Av : List Addr} (h : Own G B H (n + 1) v (.list ds) A) (nd : A.Nodup) (hv : Own G B H n v' d' Av) (nv : Av.Nodup) (fr : ∀ a ∈ Av, a ∉ A) (hj : j < ds.length) :
    ∃ p vs, v = .ref p ∧ H p = some (.lst vs) ∧ vs.length = ds.length ∧ p ∈ A ∧ ∃ A', Own G B (upd H p (.lst (vs.set j v'))) (n + 1) v (.list (ds.set j d')) A' ∧ A'.Nodup ∧ ∀ a ∈ A', a ∈ Av ∨ a ∈ A := by
  obtain ⟨p, vs, A', rfl, h1, hz, h2, h3, rfl⟩ := h.root
  obtain ⟨n1, n2⟩ := List.nodup_cons.mp nd
  obtain ⟨d, hd⟩ : ∃ d, ds[j]? = some d := ⟨ds[j], List.getElem?_eq_getElem hj⟩
  obtain ⟨u, Aj, q1, q2, q3, q4, q5⟩ := h3.item n2 hd
  refine ⟨p, vs, rfl, h1, h3.length, List.mem_cons_self, ?_⟩
  have hpv : p ∉ Av := fun z => fr p z List.mem_cons_self
  obtain ⟨A2, r1, r2, r3⟩ := q5 (upd H p (.lst (vs.set j v'))) v' d' Av (fun a ha _ => upd_ne fun e => n1 (e ▸ ha)) (hv.keepU hpv) nv fun a ha => .inr fun z => fr a ha (List.mem_cons_of_mem _ z)
  refine ⟨p :: A2, .inl ⟨p, vs.set j v', ds.set j d', A2, rfl, rfl, upd_same, by rw [List.length_set]; exact hz, h2, r1, rfl⟩, List.nodup_cons.mpr ⟨fun z => ?_, r2⟩, fun a ha => ?_⟩
  · rcases r3 p z with q | q
    · exact hpv q
    · exact n1 q.1
  · rcases List.mem_cons.mp ha with rfl | ha
    · exact .inr List.mem_cons_self
    · exact (r3 a ha).imp id fun q => List.mem_cons_of_mem _ q.1
/-- x.append(v') -/
theorem Own.append {n : Nat} {v v' : V} {ds : List D} {d' : D} {A Av : List Addr} (h : Own G B H (n + 1) v (.list ds) A) (nd : A.Nodup) (hv : Own G B H n v' d' Av) (nv : Av.Nodup) (fr : ∀ a ∈ Av, a ∉ A) (hz' : ds.length < 1000000) :
    ∃ p vs, v = .ref p ∧ H p = some (.lst vs) ∧ vs.length < sizeLine ∧ p ∈ A ∧ ∃ A', Own G B (upd H p (.lst (vs ++ [v']))) (n + 1) v (.list (ds ++ [d'])) A' ∧ A'.Nodup ∧ ∀ a ∈ A', a ∈ Av ∨ a ∈ A := by
  obtain ⟨p, vs, A', rfl, h1, hz, h2, h3, rfl⟩ := h.root
  obtain ⟨n1, n2⟩ := List.nodup_cons.mp nd
  have hpv : p ∉ Av := fun z => fr p z List.mem_cons_self
  have hl : vs.length < sizeLine := by rw [h3.length]; exact Nat.lt_of_lt_of_le hz' (by decide)
  refine ⟨p, vs, rfl, h1, hl, List.mem_cons_self, p :: (A' ++ (Av ++ [])), .inl ⟨p, vs ++ [v'], ds ++ [d'], A' ++ (Av ++ []), rfl, rfl, upd_same, by rw [List.length_append]; exact hl, h2, ?_, rfl⟩, ?_, fun a ha => ?_⟩
  · exact OA.append (h3.imp fun u x A3 hsub q => q.keepU fun z => n1 (hsub p z)) (.cons (hv.keepU hpv) .nil)
  · rw [List.append_nil]
    refine List.nodup_cons.mpr ⟨fun z => (List.mem_append.mp z).elim n1 hpv, nodup_app.mpr ⟨n2, nv, fun a ha z => fr a z (List.mem_cons_of_mem _ ha)⟩⟩
  · rw [List.append_nil] at ha
    rcases List.mem_cons.mp ha with rfl | ha
    · exact .inr List.mem_cons_self
    · exact (List.mem_append.mp ha).elim (fun z => .inr (List.mem_cons_of_mem _ z)) .inl
/-- into x[j] -/
theorem Own.child {n j : Nat} {v : V} {ds : List D} {d : D} {A : List Addr} (h : Own G B H (n + 1) v (.list ds) A) (nd : A.Nodup) (hj : ds[j]? = some d) :
    ∃ p vs u Aj, v = .ref p ∧ H p = some (.lst vs) ∧ vs[j]? = some u ∧ vs.length = ds.length ∧ Own G B H n u d Aj ∧ Aj.Nodup ∧ (∀ a ∈ Aj, a ∈ A) ∧
      ∀ (H' : Hp) (d' : D) (Aj' : List Addr), (∀ a ∈ A, a ∉ Aj → H' a = H a) → Own G B H' n u d' Aj' → Aj'.Nodup → (∀ a ∈ Aj', a ∈ Aj ∨ a ∉ A) →
        ∃ A', Own G B H' (n + 1) v (.list (ds.set j d')) A' ∧ A'.Nodup ∧ ∀ a ∈ A', a ∈ Aj' ∨ (a ∈ A ∧ a ∉ Aj) := by
  obtain ⟨p, vs, A', rfl, h1, hz, h2, h3, rfl⟩ := h.root
  obtain ⟨n1, n2⟩ := List.nodup_cons.mp nd
  obtain ⟨u, Aj, q1, q2, q3, q4, q5⟩ := h3.item n2 hj
  refine ⟨p, vs, u, Aj, rfl, h1, q1, h3.length, q2, q3, fun a ha => List.mem_cons_of_mem _ (q4 a ha), fun H' d' Aj' hH ho hn hs => ?_⟩
  have hpj : p ∉ Aj := fun z => n1 (q4 p z)
  obtain ⟨A2, r1, r2, r3⟩ := q5 H' u d' Aj' (fun a ha => hH a (List.mem_cons_of_mem _ ha)) ho hn fun a ha => (hs a ha).imp id fun z q => z (List.mem_cons_of_mem _ q)
  have hu : vs.set j u = vs := by
    apply List.ext_getElem?
    intro i
    by_cases e : j = i
    · subst e
      rw [List.getElem?_set_self (List.getElem?_eq_some_iff.mp q1).1, q1]
    · rw [List.getElem?_set_ne e]
  rw [hu] at r1
  have hp' : H' p = some (.lst vs) := (hH p List.mem_cons_self hpj).trans h1
  refine ⟨p :: A2, .inl ⟨p, vs, ds.set j d', A2, rfl, rfl, hp', hz, h2, r1, rfl⟩, List.nodup_cons.mpr ⟨fun z => ?_, r2⟩, fun a ha => ?_⟩
  · rcases r3 p z with q | q
    · rcases hs p q with w | w
      · exact hpj w
      · exact w List.mem_cons_self
    · exact n1 q.1
  · rcases List.mem_cons.mp ha with rfl | ha
    · exact .inr ⟨List.mem_cons_self, hpj⟩
    · exact (r3 a ha).imp id fun q => ⟨List.mem_cons_of_mem _ q.1, q.2⟩
/-- into the name i -/
theorem ER.change : ∀ {σ : L2.St} {ρ : Rho} {A : List Addr} {i k : Nat} {d : D}, ER G B H σ ρ A → A.Nodup → ρ[i]? = some (some (k, d)) →
    ∃ v Ai, σ[i]? = some (some v) ∧ Own G B H k v d Ai ∧ Ai.Nodup ∧ (∀ a ∈ Ai, a ∈ A) ∧
      ∀ (H' : Hp) (d' : D) (Ai' : List Addr), (∀ a ∈ A, a ∉ Ai → H' a = H a) → Own G B H' k v d' Ai' → Ai'.Nodup → (∀ a ∈ Ai', a ∈ Ai ∨ a ∉ A) →
        ∃ A', ER G B H' σ (ρ.set i (some (k, d'))) A' ∧ A'.Nodup ∧ ∀ a ∈ A', a ∈ Ai' ∨ (a ∈ A ∧ a ∉ Ai)
  | _, _, _, _, _, _, .nil, _, h => by simp at h
  | _, _, _, 0, _, _, .skip _, _, h => by simp at h
  | _, _, _, i + 1, k, d, .skip r, nd, e => by
    obtain ⟨v, Ai, h1, h2, h3, h4, h5⟩ := ER.change (i := i) (k := k) (d := d) r nd (by simpa using e)
    refine ⟨v, Ai, by simpa using h1, h2, h3, h4, fun H' d' Ai' hH ho hn hs => ?_⟩
    obtain ⟨A', q1, q2, q3⟩ := h5 H' d' Ai' hH ho hn hs
    exact ⟨A', .skip q1, q2, q3⟩
  | _, _, _, 0, k, d, .cons (v := v) (A1 := A1) (A2 := A2) h r, nd, e => by
    simp at e
    obtain ⟨rfl, rfl⟩ := e
    obtain ⟨n1, n2, n3⟩ := nodup_app.mp nd
    refine ⟨v, A1, rfl, h, n1, fun a ha => List.mem_append_left _ ha, fun H' d' Ai' hH ho hn hs => ?_⟩
    refine ⟨Ai' ++ A2, .cons ho (r.move (Ex.refl B) (fun a ha => hH a (List.mem_append_right _ ha) fun z => n3 a z ha) fun a ha => (r.nodes a ha).2), nodup_app.mpr ⟨hn, n2, fun a ha z => ?_⟩, fun a ha => ?_⟩
    · rcases hs a ha with q | q
      · exact n3 a q z
      · exact q (List.mem_append_right _ z)
    · rcases List.mem_append.mp ha with z | z
      · exact .inl z
      · exact .inr ⟨List.mem_append_right _ z, fun q => n3 a q z⟩
  | _, _, _, i + 1, k, d, .cons (v := v) (n := n0) (d := d0) (A1 := A1) (A2 := A2) h r, nd, e => by
    obtain ⟨n1, n2, n3⟩ := nodup_app.mp nd
    obtain ⟨u, Aj, h1, h2, h3, h4, h5⟩ := ER.change (i := i) (k := k) (d := d) r n2 (by simpa using e)
    refine ⟨u, Aj, by simpa using h1, h2, h3, fun a ha => List.mem_append_right _ (h4 a ha), fun H' d' Aj' hH ho hn hs => ?_⟩
    obtain ⟨A', q1, q2, q3⟩ := h5 H' d' Aj' (fun a ha => hH a (List.mem_append_right _ ha)) ho hn fun a ha => (hs a ha).imp id fun z q => z (List.mem_append_right _ q)
    refine ⟨A1 ++ A', .cons (Own.move (Ex.refl B) n0 v d0 A1 h (fun a ha => hH a (List.mem_append_left _ ha) fun z => n3 a ha (h4 a z)) fun a ha => (h.nodes n0 v d0 A1 a ha).2) q1, nodup_app.mpr ⟨n1, q2, fun a ha z => ?_⟩, fun a ha => ?_⟩
    · rcases q3 a z with q | q
      · rcases hs a q with w | w
        · exact n3 a ha (h4 a w)
        · exact w (List.mem_append_left _ ha)
      · exact n3 a ha q.1
    · rcases List.mem_append.mp ha with z | z
      · exact .inr ⟨List.mem_append_left _ z, fun q => n3 a z (h4 a q)⟩
      · rcases q3 a z with q | q
        · exact .inl q
        · exact .inr ⟨List.mem_append_right _ q.1, q.2⟩
end

/-! ### statements -/
inductive Out where
  | nx (ρ : Rho)
  | ret (d : D)
  | brk (ρ : Rho)
  | ct (ρ : Rho)
  | ex (c : Nat) (ρ : Rho)
  | bad
abbrev SF := Rho → Out
/-- B0, H0: the entry -/
def StOk (G : Ct) (B0 H0 : Hp) (σ : L2.St) (H : Hp) (ρ : Rho) : Prop := ∃ B A, Ext B0 H0 B H ∧ ER G B H σ ρ A ∧ A.Nodup ∧ ∀ a ∈ A, H0 a = none
def Post (G : Ct) (W : WX) (n : Nat) (B0 H0 : Hp) (D : Ends) : Out → Prop
  | .nx ρ => ∀ σ H, StOk G B0 H0 σ H ρ → D.nx σ H
  | .ret d => ∀ v B H A, Ext B0 H0 B H → Own G B H n v d A → A.Nodup → (∀ a ∈ A, H0 a = none) → D.rt v H
  | .brk ρ => ∀ σ H, StOk G B0 H0 σ H ρ → D.bk σ H
  | .ct ρ => ∀ σ H, StOk G B0 H0 σ H ρ → D.ct σ H
  | .ex c ρ => ∀ σ H, StOk G B0 H0 σ H ρ → W (.ref (G.xc c)) none σ H
  | .bad => False
def tDS (G : Ct) (W : WX) (n : Nat) (F : SF) : TS := fun D σ H => ∃ B0 H0 ρ, StOk G B0 H0 σ H ρ ∧ Post G W n B0 H0 D (F ρ)
def withE (o : O) (ρ : Rho) (k : D → Out) : Out := match o with
  | .ok d => k d
  | .ex c => .ex c ρ
  | .bad => .bad
section
variable {G : Ct} {W : WX} {n m : Nat} {B0 H0 : Hp} {σ : L2.St} {H : Hp} {ρ : Rho} {D : Ends}
/-- an expression at the head of a statement -/
theorem seqS {f : FE} {k : PyData → Out} {Q1 : VK} (h : StOk G B0 H0 σ H ρ) (p : Post G W n B0 H0 D (withE (f ρ) ρ k))
    (hk : ∀ d v B H1 A Av, f ρ = .ok d → Ext B0 H0 B H1 → ER G B H1 σ ρ A → A.Nodup → (∀ a ∈ A, H0 a = none) → Own G B H1 m v d Av → Av.Nodup → (∀ a ∈ Av, a ∉ A) → (∀ a ∈ Av, H0 a = none) → Post G W n B0 H0 D (k d) → Q1 v H1) :
    tDO G W m f σ H Q1 := by
  obtain ⟨B, A, x, r, nd, fr⟩ := h
  refine ⟨B, ρ, x.w, ⟨A, r, nd⟩, ?_⟩
  revert p
  cases q : f ρ with
  | ok d =>
    intro p v B1 H1 Av x1 hv nv fv
    exact hk d v B1 H1 A Av q (x.trans x1) (r.ext x1) nd fr hv nv (fun a ha z => (r.nodes a z).1 (fv a ha)) (fun a ha => Ex.back x.h (fv a ha)) p
  | ex c => exact fun p B1 H1 x1 => p σ H1 ⟨B1, A, x.trans x1, r.ext x1, nd, fr⟩
  | bad => exact fun p => p
/-- .. all names read as shared; the value's own nodes are fresh -/
theorem seqF {f : FE} {k : PyData → Out} {Q1 : VK} (h : StOk G B0 H0 σ H ρ) (p : Post G W n B0 H0 D (withE (f (frz ρ)) ρ k))
    (hk : ∀ d v B H1 Av, f (frz ρ) = .ok d → Ext B0 H0 B H1 → Own G B H1 m v d Av → Av.Nodup → (∀ a ∈ Av, H0 a = none) → StOk G B0 H0 σ H1 ρ → Post G W n B0 H0 D (k d) → Q1 v H1) :
    tDO G W m f σ H Q1 := by
  obtain ⟨B, A, x, r, nd, fr⟩ := h
  have hb : ∀ a ∈ A, B a = none := fun a ha => (r.nodes a ha).2
  refine ⟨fz A B H, frz ρ, fz_le x.w, ⟨[], r.frozen, List.nodup_nil⟩, ?_⟩
  revert p
  cases q : f (frz ρ) with
  | ok d =>
    intro p v B1 H1 Av x1 hv nv fv
    exact hk d v B1 H1 Av q ((x.fz fr hb).trans x1) hv nv (fun a ha => Ex.back x.h (fv a ha)) ⟨B, A, x.trans (.heap x.w x1.h), r.ext (.heap x.w x1.h), nd, fr⟩ p
  | ex c => exact fun p B1 H1 x1 => p σ H1 ⟨B, A, x.trans (.heap x.w x1.h), r.ext (.heap x.w x1.h), nd, fr⟩
  | bad => exact fun p => p
end
def scalD : PyData → Bool
  | .none => true
  | .bool _ => true
  | .int _ => true
  | .str _ => true
  | _ => false
theorem R.scal {G : Ct} {B B' : Hp} {v : V} {d : PyData} (h : R G B v d) (s : scalD d = true) : R G B' v d := by
  cases h with
  | non => exact .non
  | bl b => exact .bl b
  | int i => exact .int i
  | str x => exact .str x
  | lst => cases s
  | scr => cases s
  | tup => cases s
  | opq => cases s
  | net => cases s
  | dic => cases s
end M

/-! MStmt: statements. -/
namespace M
open PySem PySem.Spec L2 PyProof.Rows Evl
section
variable {G : Ct} {W : WX} {n m : Nat} {B0 H0 B1 H1 : Hp} {σ : L2.St} {H : Hp} {ρ : Rho} {D : Ends}
/-- a later entry for what is shared -/
theorem Ext.entry {B : Hp} (x : Ext B0 H0 B1 H1) (e : Ex H1 H) (y : Ext B0 H0 B H) (s : Ex B1 B) : Ext B1 H0 B H :=
  ⟨s, y.h, y.w, fun a h1 h2 => y.n a (by
    cases q : B0 a with
    | none => rfl
    | some o => rw [x.b a o q] at h1; cases h1) h2⟩
theorem Ext.unentry {B : Hp} (x : Ext B0 H0 B1 H1) (y : Ext B1 H0 B H) : Ext B0 H0 B H :=
  ⟨x.b.trans y.b, y.h, y.w, fun a h1 h2 => y.n a (x.n a h1 h2) h2⟩
theorem StOk.unentry (x : Ext B0 H0 B1 H1) (h : StOk G B1 H0 σ H ρ) : StOk G B0 H0 σ H ρ := let ⟨B, A, y, r⟩ := h; ⟨B, A, x.unentry y, r⟩
theorem Post.entry {o : Out} (x : Ext B0 H0 B1 H1) (h : Post G W n B0 H0 D o) : Post G W n B1 H0 D o := by
  cases o with
  | nx ρ => exact fun σ H s => h σ H (s.unentry x)
  | ret d => exact fun v B H A y => h v B H A (x.unentry y)
  | brk ρ => exact fun σ H s => h σ H (s.unentry x)
  | ct ρ => exact fun σ H s => h σ H (s.unentry x)
  | ex c ρ => exact fun σ H s => h σ H (s.unentry x)
  | bad => exact h
end
def seqF' (F1 F2 : SF) : SF := fun ρ => match F1 ρ with
  | .nx ρ' => F2 ρ'
  | o => o
def fNext : SF := fun ρ => .nx ρ
section
variable {X : Cx} {C : Addr} {xc : Nat → Addr} {W : WX} {n m : Nat}
theorem dss_nil : PSs X [] (tDS (ct X C xc) W n fNext) := weakSs pss_nil fun D σ H ⟨B0, H0, ρ, st, p⟩ => p σ H st
theorem dss_one {st : Stmt} {F : SF} (h : PS X st (tDS (ct X C xc) W n F)) : PSs X [st] (tDS (ct X C xc) W n F) := pss_one h
theorem dss_cons {st : Stmt} {rest : List Stmt} {F1 F2 : SF} (h1 : PS X st (tDS (ct X C xc) W n F1)) (h2 : PSs X rest (tDS (ct X C xc) W n F2)) : PSs X (st :: rest) (tDS (ct X C xc) W n (seqF' F1 F2)) :=
  weakSs (pss_cons h1 h2) fun D σ H ⟨B0, H0, ρ, st, p⟩ => by
    refine ⟨B0, H0, ρ, st, ?_⟩
    unfold seqF' at p
    revert p
    cases F1 ρ with
    | nx ρ' => exact fun p σ' H' st' => ⟨B0, H0, ρ', st', p⟩
    | _ => exact fun p => p
theorem ds_pass {pos : Pos} : PS X (.Pass pos) (tDS (ct X C xc) W n fNext) := weakS ps_pass fun D σ H ⟨B0, H0, ρ, st, p⟩ => p σ H st
theorem ds_break {pos : Pos} : PS X (.Break pos) (tDS (ct X C xc) W n fun ρ => .brk ρ) := weakS ps_break fun D σ H ⟨B0, H0, ρ, st, p⟩ => p σ H st
theorem ds_cont {pos : Pos} : PS X (.Continue pos) (tDS (ct X C xc) W n fun ρ => .ct ρ) := weakS ps_continue fun D σ H ⟨B0, H0, ρ, st, p⟩ => p σ H st
/-! names stored -/
def sSet (i m : Nat) (f : FE) : SF := fun ρ => withE (f ρ) ρ fun d => if i < ρ.length then .nx (ρ.set i (some (m, d))) else .bad
/-- .. a number, a truth value ..: all names may be read -/
def sSetB (i : Nat) (f : FE) : SF := fun ρ => withE (f (frz ρ)) ρ fun d => if scalD d = true then (if i < ρ.length then .nx (ρ.set i (some (0, d))) else .bad) else .bad
theorem set_go {i m : Nat} {f : FE} {t : TE} (k : ∀ σ H Q, tDO (ct X C xc) W m f σ H Q → t σ H Q) {D : Ends} {σ : L2.St} {H : Hp} (h : tDS (ct X C xc) W n (sSet i m f) D σ H) : tAsg t (gName i) D σ H := by
  obtain ⟨B0, H0, ρ, st, p⟩ := h
  refine k σ H _ (seqS st p fun d v B H1 A Av q x r nd fr hv nv na fv p1 => ?_)
  split at p1
  · rename_i hi
    obtain ⟨A', h1, h2, h3⟩ := ER.set hv i r hi nd nv na
    exact p1 _ _ ⟨B, A', x, h1, h2, fun a ha => (h3 a ha).elim (fv a) (fr a)⟩
  · exact p1.elim
theorem ds_set {i : Nat} {x : Str} {e : Expr} {f : FE} {pos pos' : Pos} (hN : X.N.Nodup) (he : PE X e (tDO (ct X C xc) W m f)) (hi : X.N[i]? = some x := by rfl) (hx : Loc X.env.scope x := by first | exact Or.inl rfl | exact Or.inr rfl) (hs : swapsWith e (some (.Name x pos')) pos.line X.env = pure false := by rfl)
    (hf : X.fn x = true ∨ X.env.scope.names.lookup x = some .local := by first | exact .inl rfl | exact .inr rfl | assumption) : PS X (.Assign [.Name x pos'] e pos) (tDS (ct X C xc) W n (sSet i m f)) :=
  weakS (ps_set hN hi hx he hs hf) fun _ _ _ h => set_go (fun _ _ _ q => q) h
theorem ds_setB {i : Nat} {x : Str} {e : Expr} {f : FE} {pos pos' : Pos} (hN : X.N.Nodup) (he : PE X e (tD (ct X C xc) W f)) (hi : X.N[i]? = some x := by rfl) (hx : Loc X.env.scope x := by first | exact Or.inl rfl | exact Or.inr rfl) (hs : swapsWith e (some (.Name x pos')) pos.line X.env = pure false := by rfl)
    (hf : X.fn x = true ∨ X.env.scope.names.lookup x = some .local := by first | exact .inl rfl | exact .inr rfl | assumption) : PS X (.Assign [.Name x pos'] e pos) (tDS (ct X C xc) W n (sSetB i f)) :=
  weakS (ps_set hN hi hx he hs hf) fun D σ H ⟨B0, H0, ρ, st, p⟩ => by
    refine seqF st p fun d v B H1 Av q x hv nv fv st1 p1 => ?_
    split at p1
    · rename_i hs
      split at p1
      · rename_i hi
        obtain ⟨B', A, x', r, nd, fr⟩ := st1
        obtain ⟨A', h1, h2, h3⟩ := ER.set (n := 0) (Av := []) ⟨hv.1.scal hs, rfl⟩ i r hi nd List.nodup_nil (fun _ z => nomatch z)
        exact p1 _ _ ⟨B', A', x', h1, h2, fun a ha => (h3 a ha).elim (fun z => nomatch z) (fr a)⟩
      · exact p1.elim
    · exact p1.elim
/-- y = [..] -/
theorem ds_setLc {i : Nat} {y : Str} {py : Pos} {elt tg iter : Expr} {ifs : List Expr} {scope : Scope} {pos spos : Pos} {fi : Rho → OL} {set : FS} {ft fe : FE} (hc : X.calm = true) (hN : X.N.Nodup) (own : List (Str × Nat)) (hi : PI X tg iter (tDI (ct X C xc) W fi)) (ok : BlkOk X.N X.env.scope scope own)
    (hg : ∀ (s : Shared) (H : Hp) (Cc : Addr) (cl : List (Str × Addr)) (fp : List Addr), PG (X.blk s H scope (compEnvC scope cl Cc X.env) fp) tg (tDG (ct X C xc) (own.map (·.2)) set)) (ht : ∀ (s : Shared) (H : Hp) (Cc : Addr) (cl : List (Str × Addr)) (fp : List Addr), PTs (X.blk s H scope (compEnvC scope cl Cc X.env) fp) ifs (tV (ct X C xc) W0 ft))
    (he : ∀ (s : Shared) (H : Hp) (Cc : Addr) (cl : List (Str × Addr)) (fp : List Addr), PE (X.blk s H scope (compEnvC scope cl Cc X.env) fp) elt (tDO (ct X C xc) W0 m fe)) (hsw : swapsWith (.ListComp elt [⟨tg, iter, ifs, 0⟩] scope pos) (some (.Name y py)) spos.line X.env = pure true)
    (hy : X.N[i]? = some y := by rfl) (hyl : X.env.scope.names.lookup y = some .local := by rfl) (hs : ∀ x, foldedSetIterable iter X.env x = pure x := by intro _; rfl) :
    PS X (.Assign [.Name y py] (.ListComp elt [⟨tg, iter, ifs, 0⟩] scope pos) spos) (tDS (ct X C xc) W n (sSet i (m + 1) (fLc fi set ft fe (own.map (·.2))))) :=
  weakS (ps_setLc hc hN hy hyl hsw hi ok hg ht he hs) fun _ _ _ h => set_go (fun _ _ _ q => lc_go q) h
/-- .. frozen -/
theorem ds_setLc0 {i : Nat} {y : Str} {py : Pos} {elt tg iter : Expr} {ifs : List Expr} {scope : Scope} {pos spos : Pos} {fi : Rho → OL} {set : FS} {ft fe : FE} (hc : X.calm = true) (hN : X.N.Nodup) (own : List (Str × Nat)) (hi : PI X tg iter (tDI (ct X C xc) W fi)) (ok : BlkOk X.N X.env.scope scope own)
    (hg : ∀ (s : Shared) (H : Hp) (Cc : Addr) (cl : List (Str × Addr)) (fp : List Addr), PG (X.blk s H scope (compEnvC scope cl Cc X.env) fp) tg (tDG (ct X C xc) (own.map (·.2)) set)) (ht : ∀ (s : Shared) (H : Hp) (Cc : Addr) (cl : List (Str × Addr)) (fp : List Addr), PTs (X.blk s H scope (compEnvC scope cl Cc X.env) fp) ifs (tV (ct X C xc) W0 ft))
    (he : ∀ (s : Shared) (H : Hp) (Cc : Addr) (cl : List (Str × Addr)) (fp : List Addr), PE (X.blk s H scope (compEnvC scope cl Cc X.env) fp) elt (tDO (ct X C xc) W0 m fe)) (hsw : swapsWith (.ListComp elt [⟨tg, iter, ifs, 0⟩] scope pos) (some (.Name y py)) spos.line X.env = pure true)
    (hy : X.N[i]? = some y := by rfl) (hyl : X.env.scope.names.lookup y = some .local := by rfl) (hs : ∀ x, foldedSetIterable iter X.env x = pure x := by intro _; rfl) :
    PS X (.Assign [.Name y py] (.ListComp elt [⟨tg, iter, ifs, 0⟩] scope pos) spos) (tDS (ct X C xc) W n (sSet i 0 (fLc fi set ft fe (own.map (·.2))))) :=
  weakS (ps_setLc hc hN hy hyl hsw hi ok hg ht he hs) fun _ _ _ h => set_go (fun σ H Q ⟨B, ρ, e, env, p⟩ => lc_go (n := m) ⟨B, ρ, e, env, by
    cases q : fLc fi set ft fe (own.map (·.2)) ρ with
    | ok d =>
      rw [q] at p
      exact fun v B' H' A x hv nd fr => p v (fz A B' H') H' [] (x.fz fr fun a ha => (hv.nodes _ _ _ _ a ha).2) ⟨hv.frozen, rfl⟩ List.nodup_nil (fun _ z => nomatch z)
    | ex c => rw [q] at p; exact p
    | bad => rw [q] at p; exact p⟩) h
/-- a, b = e -/
def sAsg (set : FS) (f : FE) : SF := fun ρ => withE (f ρ) ρ fun d => match set d ρ with
  | some ρ' => .nx ρ'
  | none => .bad
theorem ds_asg {tg e : Expr} {f : FE} {set : FS} {ix : List Nat} {pos : Pos} (he : PE X e (tD (ct X C xc) W f)) (hg : PG X tg (tDG (ct X C xc) ix set)) (hs : swapsWithSole [tg] e pos.line X.env = pure false := by rfl) (hw : swappedStores [tg] e X.env = pure none := by rfl) (h1 : (assignEach [tg] X.env).map (·.2) = [assign tg X.env] := by rfl) :
    PS X (.Assign [tg] e pos) (tDS (ct X C xc) W n (sAsg set f)) := weakS (ps_asg he hg hs hw h1) fun D σ H ⟨B0, H0, ρ, st, p⟩ => by
  refine seqS st p fun d v B H1 A Av q x r nd fr hv nv na fv p1 => ?_
  split at p1
  · rename_i ρ' hset
    exact ⟨B, ρ, A, d, ρ', x.w, r, nd, hv.1, hset, fun σ' A' r' nd' sub _ => p1 σ' H1 ⟨B, A', x, r', nd', fun a ha => fr a (sub a ha)⟩⟩
  · exact p1.elim
/-- a, b = e1, e2 -/
def sPar (i j : Nat) (fs : List FE) : SF := fun ρ => match evA fs ρ with
  | .ok [x, y] => if i < ρ.length ∧ j < ρ.length then .nx ((ρ.set i (some (0, x))).set j (some (0, y))) else .bad
  | .ex c => .ex c ρ
  | _ => .bad
theorem ds_par {i j : Nat} {x y : Str} {a b : Expr} {fs : List FE} {px py pt : Pos} {kt k2 : Nat} {pt2 pos : Pos} (hc : X.calm = true) (hN : X.N.Nodup) (ha : PA X [a, b] (tDA (ct X C xc) W fs)) (hi : X.N[i]? = some x := by rfl) (hj : X.N[j]? = some y := by rfl) (hij : i ≠ j := by decide)
    (hx : X.env.scope.names.lookup x = some .local := by rfl) (hy : X.env.scope.names.lookup y = some .local := by rfl) (hw : swappedStores [.Tuple [.Name x px, .Name y py] kt pt] (.Tuple [a, b] k2 pt2) X.env = pure (some [x, y]) := by rfl)
    (hs : swapsWithSole [.Tuple [.Name x px, .Name y py] kt pt] (.Tuple [a, b] k2 pt2) pos.line X.env = pure false := by rfl) :
    PS X (.Assign [.Tuple [.Name x px, .Name y py] kt pt] (.Tuple [a, b] k2 pt2) pos) (tDS (ct X C xc) W n (sPar i j fs)) := weakS (ps_par hc hN hi hj hij hx hy ha hw hs) fun D σ H ⟨B0, H0, ρ, ⟨B, A, x, r, nd, fr⟩, p⟩ => by
  refine ⟨B, ρ, x.w, ⟨A, r, nd⟩, ?_⟩
  unfold sPar at p
  revert p
  cases q : evA fs ρ with
  | ok ds =>
    intro p
    match ds, p with
    | [d1, d2], p =>
      dsimp only at p
      split at p
      · rename_i hl
        intro vs B1 H1 x1 rv
        obtain ⟨v, v', rfl, r1, r2⟩ := rv.two
        obtain ⟨A1, h1, h2, h3⟩ := ER.set (n := 0) (Av := []) ⟨r1, rfl⟩ i (r.ext x1) hl.1 nd List.nodup_nil (fun _ z => nomatch z)
        obtain ⟨A2, q1, q2, q3⟩ := ER.set (n := 0) (Av := []) ⟨r2, rfl⟩ j h1 (by rw [List.length_set]; exact hl.2) h2 List.nodup_nil (fun _ z => nomatch z)
        refine ⟨v, v', rfl, p _ _ ⟨B1, A2, x.trans x1, q1, q2, fun a ha => ?_⟩⟩
        rcases q3 a ha with z | z
        · cases z
        · rcases h3 a z with z | z
          · cases z
          · exact fr a z
      · exact p.elim
  | ex c => exact fun p B1 H1 x1 => p σ H1 ⟨B1, A, x.trans x1, r.ext x1, nd, fr⟩
  | bad => exact fun p => p.elim
/-- an expression alone -/
def sDrop (f : FE) : SF := fun ρ => withE (f ρ) ρ fun _ => .nx ρ
theorem ds_expr {e : Expr} {f : FE} {pos : Pos} (he : PE X e (tDO (ct X C xc) W m f)) (hs : swapsWith e none pos.line X.env = pure false := by rfl) : PS X (.Expr e pos) (tDS (ct X C xc) W n (sDrop f)) := weakS (ps_expr he hs) fun D σ H ⟨B0, H0, ρ, st, p⟩ => by
  refine seqS st p fun d v B H1 A Av q x r nd fr hv nv na fv p1 => ?_
  exact p1 _ _ ⟨B, A, x, r, nd, fr⟩
/-! the end -/
def sRet (f : FE) : SF := fun ρ => withE (f (frz ρ)) ρ fun d => .ret d
theorem ds_ret {e : Expr} {f : FE} {pos : Pos} (he : PE X e (tDO (ct X C xc) W n f)) : PS X (.Return (some e) pos) (tDS (ct X C xc) W n (sRet f)) := weakS (ps_ret he) fun D σ H ⟨B0, H0, ρ, st, p⟩ =>
  seqF st p fun d v B H1 Av q x hv nv fv st1 p1 => p1 v B H1 Av x hv nv fv
/-- an owned name handed back -/
def sRetV (i n : Nat) : SF := fun ρ => match ρ[i]? with
  | some (some (k, d)) => if k = n then .ret d else .bad
  | _ => .bad
theorem ds_retv {i : Nat} {x : Str} {p pos : Pos} (hN : X.N[i]? = some x := by rfl) (hv : Vis X.env.scope x := by first | exact Or.inl rfl | exact Or.inr (Or.inl rfl) | exact Or.inr (Or.inr rfl)) (hd : (x == ("__debug__" : Str)) = false := by decide)
    (hcd : (x == ("__classdict__" : Str)) = false := by decide) : PS X (.Return (some (.Name x p)) pos) (tDS (ct X C xc) W n (sRetV i n)) := weakS (ps_ret (pe_var hN hv hd hcd)) fun D σ H ⟨B0, H0, ρ, ⟨B, A, x, r, nd, fr⟩, p⟩ => by
  unfold sRetV at p
  split at p
  · rename_i k d q
    split at p
    · rename_i hk
      subst hk
      obtain ⟨v, Ai, h1, h2, h3, h4, _⟩ := r.change nd q
      exact ⟨v, h1, p v B H Ai x h2 h3 fun a ha => fr a (h4 a ha)⟩
    · exact p.elim
  · exact p.elim
/-! if -/
def sIf (ft : FE) (F1 F2 : SF) : SF := fun ρ => withE (ft (frz ρ)) ρ fun d => match d with
  | .bool true => F1 ρ
  | .bool false => F2 ρ
  | _ => .bad
theorem ds_if {c : Expr} {a b : List Stmt} {f : FE} {F1 F2 : SF} {pos : Pos} (hc : PT X c (tV (ct X C xc) W f)) (ha : PSs X a (tDS (ct X C xc) W n F1)) (hb : PSs X b (tDS (ct X C xc) W n F2)) : PS X (.If c a b pos) (tDS (ct X C xc) W n (sIf f F1 F2)) :=
  weakS (ps_if (t_of_v hc) ha hb) fun D σ H ⟨B0, H0, ρ, ⟨B, A, x, r, nd, fr⟩, p⟩ => by
    refine ⟨B, ρ, x.w, ⟨A, r, nd⟩, ?_⟩
    unfold sIf at p
    revert p
    cases f (frz ρ) with
    | ok d =>
      intro p
      cases d with
      | bool b =>
        intro H1 e1
        have st : StOk (ct X C xc) B0 H0 σ H1 ρ := ⟨B, A, x.trans (.heap x.w e1), r.ext (.heap x.w e1), nd, fr⟩
        cases b with
        | true => exact ⟨B0, H0, ρ, st, p⟩
        | false => exact ⟨B0, H0, ρ, st, p⟩
      | _ => exact p.elim
    | ex c => exact fun p B1 H1 x1 => p σ H1 ⟨B, A, x.trans (.heap x.w x1.h), r.ext (.heap x.w x1.h), nd, fr⟩
    | bad => exact fun p => p.elim
/-! what is owned is shared from now on -/
def frzAt (i : Nat) (ρ : Rho) : Rho := match ρ[i]? with
  | some (some (_, d)) => ρ.set i (some (0, d))
  | _ => ρ
theorem ER.frzAt {G : Ct} {B H : Hp} : ∀ {σ : L2.St} {ρ : Rho} {A : List Addr} {i k : Nat} {d : PyData}, ER G B H σ ρ A → A.Nodup → ρ[i]? = some (some (k, d)) →
    ∃ Ai A', (∀ a ∈ Ai, a ∈ A) ∧ ER G (fz Ai B H) H σ (ρ.set i (some (0, d))) A' ∧ A'.Nodup ∧ ∀ a ∈ A', a ∈ A ∧ a ∉ Ai
  | _, _, _, _, _, _, .nil, _, h => by simp at h
  | _, _, _, 0, _, _, .skip _, _, h => by simp at h
  | _, _, _, i + 1, k, d, .skip r, nd, e => by
    obtain ⟨Ai, A', h1, h2, h3⟩ := ER.frzAt (i := i) (k := k) (d := d) r nd (by simpa using e)
    exact ⟨Ai, A', h1, .skip h2, h3⟩
  | _, _, _, 0, k, d, .cons (v := v) (A1 := A1) (A2 := A2) h r, nd, e => by
    simp at e
    obtain ⟨rfl, rfl⟩ := e
    obtain ⟨n1, n2, n3⟩ := nodup_app.mp nd
    have hb : ∀ a ∈ A1, B a = none := fun a ha => (h.nodes _ _ _ _ a ha).2
    exact ⟨A1, A2, fun a ha => List.mem_append_left _ ha, .cons (A1 := []) ⟨h.frozen, rfl⟩ (r.move (fz_ex hb) (fun _ _ => rfl) fun a ha => (fz_out fun z => n3 a z ha).trans (r.nodes a ha).2), n2, fun a ha => ⟨List.mem_append_right _ ha, fun z => n3 a z ha⟩⟩
  | _, _, _, i + 1, k, d, .cons (v := v) (n := n0) (d := d0) (A1 := A1) (A2 := A2) h r, nd, e => by
    obtain ⟨n1, n2, n3⟩ := nodup_app.mp nd
    obtain ⟨Ai, A', h1, h2, h3, h4⟩ := ER.frzAt (i := i) (k := k) (d := d) r n2 (by simpa using e)
    have hb : ∀ a ∈ Ai, B a = none := fun a ha => (r.nodes a (h1 a ha)).2
    exact ⟨Ai, A1 ++ A', fun a ha => List.mem_append_right _ (h1 a ha), .cons (Own.move (fz_ex hb) n0 v d0 A1 h (fun _ _ => rfl) fun a ha => (fz_out fun z => n3 a ha (h1 a z)).trans (h.nodes _ _ _ _ a ha).2) h2,
      nodup_app.mpr ⟨n1, h3, fun a ha z => n3 a ha (h4 a z).1⟩, fun a ha => (List.mem_append.mp ha).elim (fun z => ⟨List.mem_append_left _ z, fun q => n3 a z (h1 a q)⟩) fun z => ⟨List.mem_append_right _ (h4 a z).1, (h4 a z).2⟩⟩
theorem StOk.frzAt {G : Ct} {B0 H0 : Hp} {σ : L2.St} {H : Hp} {ρ : Rho} (i : Nat) (h : StOk G B0 H0 σ H ρ) : StOk G B0 H0 σ H (M.frzAt i ρ) := by
  obtain ⟨B, A, x, r, nd, fr⟩ := h
  unfold M.frzAt
  split
  · rename_i k d q
    obtain ⟨Ai, A', h1, h2, h3, h4⟩ := r.frzAt nd q
    exact ⟨fz Ai B H, A', x.fz (fun a ha => fr a (h1 a ha)) (fun a ha => (r.nodes a (h1 a ha)).2), h2, h3, fun a ha => fr a (h4 a ha).1⟩
  · exact ⟨B, A, x, r, nd, fr⟩
theorem ds_frz {st : Stmt} {F : SF} (i : Nat) (h : PS X st (tDS (ct X C xc) W n F)) : PS X st (tDS (ct X C xc) W n fun ρ => F (frzAt i ρ)) := weakS h fun D σ H ⟨B0, H0, ρ, st, p⟩ => ⟨B0, H0, frzAt i ρ, st.frzAt i, p⟩
theorem dss_frz {st : List Stmt} {F : SF} (i : Nat) (h : PSs X st (tDS (ct X C xc) W n F)) : PSs X st (tDS (ct X C xc) W n fun ρ => F (frzAt i ρ)) := weakSs h fun D σ H ⟨B0, H0, ρ, st, p⟩ => ⟨B0, H0, frzAt i ρ, st.frzAt i, p⟩

/-! ### for -/
def forF (set : FS) (body : SF) : List PyData → Rho → Out
  | [], ρ => .nx ρ
  | d :: ds, ρ => match set d ρ with
    | none => .bad
    | some ρ1 => match body ρ1 with
      | .nx ρ2 => forF set body ds ρ2
      | .ct ρ2 => forF set body ds ρ2
      | .brk ρ2 => .nx ρ2
      | o => o
def sFor (fi : Rho → OL) (set : FS) (body : SF) : SF := fun ρ => match fi ρ with
  | .ok ds => forF set body ds ρ
  | .ex c => .ex c ρ
  | .bad => .bad
theorem ds_for {tg iter : Expr} {body : List Stmt} {fi : Rho → OL} {set : FS} {ix : List Nat} {F : SF} {pos : Pos} (hp : PassesOwn (model X.prog X.w) X.A X.env X.xe) (hc : X.calm = true) (hi : PI X tg iter (tDI (ct X C xc) W fi)) (hg : PG X tg (tDG (ct X C xc) ix set)) (hb : PSs X body (tDS (ct X C xc) W n F))
    (hs : ∀ x, foldedSetIterable iter X.env x = pure x := by intro _; rfl) : PS X (.For tg iter body [] pos) (tDS (ct X C xc) W n (sFor fi set F)) := weakS (ps_for hp hc hi hg hb hs) fun D σ H ⟨B0, H0, ρ, ⟨B, A, x, r, nd, fr⟩, p⟩ => by
  refine ⟨B, ρ, x.w, ⟨A, r, nd⟩, ?_⟩
  unfold sFor at p
  revert p
  cases fi ρ with
  | ok ds =>
    intro p J B1 H1 x1 wk
    have x01 : Ext B0 H0 B1 H1 := x.trans x1
    refine ⟨fun i m σ' H' => m = ds.length - i ∧ i ≤ ds.length ∧ ∃ ρ', StOk (ct X C xc) B1 H0 σ' H' ρ' ∧ Post (ct X C xc) W n B1 H0 D (forF set F (ds.drop i) ρ'),
      ⟨ds.length, by simp, Nat.zero_le _, ρ, ⟨B1, A, x01.entry (Ex.refl _) x01 (Ex.refl _), r.ext x1, nd, fr⟩, Post.entry (o := forF set F ds ρ) x01 p⟩, ?_⟩
    rintro i m σ' H' ⟨rfl, hi, ρ', st, p'⟩
    obtain ⟨B', A', x', r', nd', fr'⟩ := id st
    by_cases hlt : i < ds.length
    · refine .inr ?_
      have hd : ds[i]? = some ds[i] := List.getElem?_eq_getElem hlt
      obtain ⟨hgo, hy⟩ := (wk i H' (x'.b.trans x'.w)).2 _ hd
      rw [List.drop_eq_getElem_cons hlt] at p'
      simp only [forF] at p'
      refine ⟨hgo, fun σ' H' => i + 1 ≤ ds.length ∧ ∃ ρ', StOk (ct X C xc) B1 H0 σ' H' ρ' ∧ Post (ct X C xc) W n B1 H0 D (forF set F (ds.drop (i + 1)) ρ'), fun σ2 H2 ⟨h1, h2⟩ => ⟨ds.length - (i + 1), by omega, rfl, h1, h2⟩, fun v H2 hyld => ?_⟩
      obtain ⟨B2, x3, rx⟩ := hy v H2 hyld B' x'.b x'.w
      cases hset : set ds[i] ρ' with
      | none => rw [hset] at p'; exact p'.elim
      | some ρ1 =>
        rw [hset] at p'
        refine ⟨B2, ρ', A', ds[i], ρ1, x3.w, r'.ext x3, nd', rx, hset, fun σ2 A2 r2 nd2 sub _ => ?_⟩
        refine ⟨B1, H0, ρ1, ⟨B2, A2, x'.trans x3, r2, nd2, fun a ha => fr' a (sub a ha)⟩, ?_⟩
        revert p'
        dsimp only
        cases F ρ1 with
        | nx ρ2 => exact fun p' σ3 H3 st3 => ⟨hlt, ρ2, st3, p'⟩
        | ct ρ2 => exact fun p' σ3 H3 st3 => ⟨hlt, ρ2, st3, p'⟩
        | brk ρ2 => exact fun p' => p'
        | ret d => exact fun p' => p'
        | ex c ρ2 => exact fun p' => p'
        | bad => exact fun p' => p'
    · have he : i = ds.length := by omega
      subst he
      refine .inl ⟨(wk _ H' (x'.b.trans x'.w)).1 (Nat.le_refl _), ?_⟩
      rw [List.drop_length] at p'
      exact p' σ' H' st
  | ex c => exact fun p B1 H1 x1 => p σ H1 ⟨B1, A, x.trans x1, r.ext x1, nd, fr⟩
  | bad => exact fun p => p.elim
/-! ### while -/
def whileF (fc : FE) (body : SF) : Nat → Rho → Out
  | 0, _ => .bad
  | k + 1, ρ => withE (fc (frz ρ)) ρ fun d => match d with
    | .bool true => (match body ρ with
      | .nx ρ2 => whileF fc body k ρ2
      | .ct ρ2 => whileF fc body k ρ2
      | .brk ρ2 => .nx ρ2
      | o => o)
    | .bool false => .nx ρ
    | _ => .bad
def sWhile (fuel : Rho → Nat) (fc : FE) (body : SF) : SF := fun ρ => whileF fc body (fuel ρ) ρ
theorem ds_while {c : Expr} {body : List Stmt} {fc : FE} {F : SF} {pos : Pos} (fuel : Rho → Nat) (hp : PassesOwn (model X.prog X.w) X.A X.env X.xe) (hc : PT X c (tV (ct X C xc) W fc)) (hb : PSs X body (tDS (ct X C xc) W n F)) :
    PS X (.While c body [] pos) (tDS (ct X C xc) W n (sWhile fuel fc F)) := weakS (ps_while hp (t_of_v hc) hb) fun D σ H ⟨B0, H0, ρ, st, p⟩ => by
  refine ⟨fun m σ H => ∃ ρ, StOk (ct X C xc) B0 H0 σ H ρ ∧ Post (ct X C xc) W n B0 H0 D (whileF fc F m ρ), ⟨fuel ρ, ρ, st, p⟩, ?_⟩
  rintro m σ H ⟨ρ, ⟨B, A, x, r, nd, fr⟩, p⟩
  cases m with
  | zero => exact p.elim
  | succ m =>
    refine ⟨B, ρ, x.w, ⟨A, r, nd⟩, ?_⟩
    unfold whileF at p
    revert p
    cases fc (frz ρ) with
    | ok d =>
      intro p
      cases d with
      | bool b =>
        intro H1 e1
        have st : StOk (ct X C xc) B0 H0 σ H1 ρ := ⟨B, A, x.trans (.heap x.w e1), r.ext (.heap x.w e1), nd, fr⟩
        cases b with
        | true =>
          refine ⟨fun σ H => ∃ ρ, StOk (ct X C xc) B0 H0 σ H ρ ∧ Post (ct X C xc) W n B0 H0 D (whileF fc F m ρ), fun σ' H' h => ⟨m, Nat.lt_succ_self _, h⟩, B0, H0, ρ, st, ?_⟩
          revert p
          dsimp only [withE]
          cases F ρ with
          | nx ρ2 => exact fun p' σ3 H3 st3 => ⟨ρ2, st3, p'⟩
          | ct ρ2 => exact fun p' σ3 H3 st3 => ⟨ρ2, st3, p'⟩
          | brk ρ2 => exact fun p' => p'
          | ret d => exact fun p' => p'
          | ex c ρ2 => exact fun p' => p'
          | bad => exact fun p' => p'
        | false => exact p σ H1 st
      | _ => exact p.elim
    | ex c => exact fun p B1 H1 x1 => p σ H1 ⟨B, A, x.trans (.heap x.w x1.h), r.ext (.heap x.w x1.h), nd, fr⟩
    | bad => exact fun p => p.elim
/-! ### raise -/
/-- an error class of the text -/
structure ExcIs (K : PySem.W.Frag) (mg : Str → Option Value) (x : Str) (c : Addr) : Prop where
  g : mg x = some (.ref c)
  q : PySem.W.excIn K c [.type "ValueError", .type "Exception", .type "BaseException", .type "object"] "ValueError.__new__" = true
  k : PySem.W.keepIn K (.ref c) = true
  b : PySem.W.subIn K (.ref c) (.type "BaseException") = some true
  t : PySem.W.typeIn K (.ref c) = some (.type "type")
theorem ds_raise {x m : Str} {j c : Nat} {p p2 pos pos' : Pos} (hc : X.calm = true) (tk : Takes X W) (h : ExcIs X.K X.mg x (xc c)) (hg : Gl X x := by rfl) (hdb : (x == ("__debug__" : Str)) = false := by decide) :
    PS X (.Raise (some (.Call (.Name x p) [.Constant (.str m) j p2] [] pos)) none pos') (tDS (ct X C xc) W n fun ρ => .ex c ρ) :=
  weakS (ps_raise hc tk (pmk_own PySem.F.excBase_ValueError h.q h.g h.k (raises_own h.b h.t) hg hdb)) fun D σ H ⟨B0, H0, ρ, st, p⟩ => p σ H st
end
/-! ### a def -/
def startR (L : Nat) (ds : List PyData) : Rho := ds.map (fun d => some (0, d)) ++ List.replicate (L - ds.length) none
def fnF (L : Nat) (F : SF) (ds : List PyData) : O := match F (startR L ds) with
  | .ret d => .ok d
  | .nx _ => .ok .none
  | .ex c _ => .ex c
  | _ => .bad
theorem ER.start {G : Ct} {B H : Hp} : ∀ {vs : List V} {ds : List PyData}, RA G B vs ds → ∀ k, ER G B H (vs.map some ++ List.replicate k none) (ds.map (fun d => some (0, d)) ++ List.replicate k none) []
  | _, _, .nil, 0 => .nil
  | _, _, .nil, k + 1 => .skip (ER.start .nil k)
  | _, _, .cons h r, k => .cons (A1 := []) (A2 := []) ⟨h, rfl⟩ (ER.start r k)
theorem own_none {G : Ct} {B H : Hp} : ∀ n, Own G B H n .non .none []
  | 0 => ⟨.non, rfl⟩
  | n + 1 => .inr (.inr (.inr ⟨rfl, .non, rfl⟩))
theorem fn_data {P : Program} {w : World} {K : PySem.W.Frag} {mg : Str → Option Value} {base : Heap} {C : Addr} {xc : Nat → Addr} {x qual : Str} {st : Stmt} {f : Addr} {fd : FuncData} {N ps : List Str} {k n : Nat} {Fs : SF} (F : Fun K x qual st f fd) (S : FnScope N ps (defScope st))
    (hb : ∀ (cdv : Value) (A : Around) (outer : List Env) (s : Shared) (H : Hp) (E : XK), Room k (A.deeper (envOfC qual (defScope st) s.heap.objs.size f cdv)) →
      Takes (cxOf (L2.CX P w) P w K mg base N qual (defScope st) f cdv A outer s H E) (fun cls d _ H => E cls d H) → Pass (cxOf (L2.CX P w) P w K mg base N qual (defScope st) f cdv A outer s H E) (fun cls d _ H => E cls d H) →
      Hu (cxOf (L2.CX P w) P w K mg base N qual (defScope st) f cdv A outer s H E) → N.Nodup →
      PSs (cxOf (L2.CX P w) P w K mg base N qual (defScope st) f cdv A outer s H E) (defBody st) (tDS ⟨P, w, K, C, xc⟩ (fun cls d _ H => E cls d H) n Fs)) :
    FnOk P w K mg base (L2.CX P w) (k + 1) f fd ps (spD ⟨P, w, K, C, xc⟩ n (fnF N.length Fs) ps.length) := by
  refine F.okX S (fun vs H Q E h => h.1) fun cdv A outer s H vs Q E hr ⟨hl, B, ds, e, r, p⟩ => ⟨_, hb cdv A outer s H E hr (takes_of rfl rfl rfl rfl) (pass_tk (takes_of rfl rfl rfl rfl)) (hu_of_room hr) S.nd, ?_⟩
  have hN : vs.length = ds.length := r.length
  refine ⟨B, H, startR N.length ds, ⟨B, [], .refl e, ?_, List.nodup_nil, fun _ z => nomatch z⟩, ?_⟩
  · unfold L2.start startR
    rw [hN]
    exact ER.start r _
  · unfold fnF at p
    revert p
    cases Fs (startR N.length ds) with
    | ret d => exact fun p => p
    | nx ρ => exact fun p σ' H' ⟨B', A', x', _⟩ => p .non B' H' [] x' (own_none n) List.nodup_nil (fun _ z => nomatch z)
    | ex c ρ => exact fun p σ' H' ⟨B', A', x', _⟩ => p B' H' x'
    | brk ρ => exact fun p => p.elim
    | ct ρ => exact fun p => p.elim
    | bad => exact fun p => p.elim
theorem fnIs_mk {P : Program} {w : World} {K : PySem.W.Frag} {mg : Str → Option Value} {base : Heap} {C : Addr} {xc : Nat → Addr} {x : Str} {f : Addr} {fd : FuncData} {ps : List Str} {k m n : Nat} {F : List PyData → O} (h : FnOk P w K mg base (L2.CX P w) k f fd ps (spD ⟨P, w, K, C, xc⟩ n F m))
    (hm : mg x = some (.ref f)) (hk : PySem.W.keepIn K (.ref f) = true) (hb : Binds K fd ps []) : FnIs ⟨P, w, K, C, xc⟩ mg base x k m n F := ⟨f, fd, ps, h, hm, hk, hb⟩
/-- a def that raises nothing, to whoever wishes nothing of errors -/
theorem fn_calm {P : Program} {w : World} {K : PySem.W.Frag} {mg : Str → Option Value} {base : Heap} {k : Nat} {f : Addr} {fd : FuncData} {ps : List Str} {sp : Sp} (h : FnOk P w K mg base (L2.CX P w) k f fd ps sp) : FnOk P w K mg base CX0 k f fd ps (fun vs H Q _ => sp vs H Q E0) :=
  ⟨fun vs H Q E q => h.len vs H Q E0 q, fun A outer s H args us vs Q E hr e0 hb rv q => codeAny_mono (h.run A outer s H args us vs Q E0 hr e0 hb rv q) fun r s' z => by
    cases r with
    | error e =>
      obtain ⟨_, _, _, _, _, _, _, _, _, _, _, _, z⟩ := z
      exact z.elim
    | ok fl => cases fl <;> exact z⟩
end M

/-! MMut: owned lists and dicts changed. -/
namespace M
open PySem PySem.Spec L2 PyProof.Rows Evl
section
variable {G : Ct} {W : WX} {n m : Nat} {B0 H0 B : Hp} {σ : L2.St} {H : Hp} {ρ : Rho} {D : Ends} {A : List Addr}
theorem Ext.mut {p : Addr} {o : HO} (x : Ext B0 H0 B H) (h0 : H0 p = none) (hb : B p = none) : Ext B0 H0 B (upd H p o) :=
  ⟨x.b, x.h.mut h0, fun a u q => by
    have : a ≠ p := fun z => by rw [z, hb] at q; cases q
    rw [upd_ne this]
    exact x.w a u q, x.n⟩
/-- an index (a number), all names read as shared -/
theorem idxS {fi : FE} {k : PyData → Out} {Q1 : VK} (e : Ex B H) (r : ER G B H σ ρ A) (st : ∀ H', Ex H H' → StOk G B0 H0 σ H' ρ) (p : Post G W n B0 H0 D (withE (fi (frz ρ)) ρ k))
    (hk : ∀ d v B' H', fi (frz ρ) = .ok d → R G B' v d → Ex H H' → Post G W n B0 H0 D (k d) → Q1 v H') : tD G W fi σ H Q1 := by
  refine ⟨fz A B H, frz ρ, fz_le e, ⟨[], r.frozen, List.nodup_nil⟩, ?_⟩
  revert p
  cases q : fi (frz ρ) with
  | ok d => exact fun p v B1 H1 Av x1 hv _ _ => hk d v B1 H1 q hv.1 x1.h p
  | ex c => exact fun p B1 H1 x1 => p σ H1 (st H1 x1.h)
  | bad => exact fun p => p
/-- the state behind a change of the name i's tree -/
theorem changed {i k : Nat} {d d' : PyData} {Ai Ai' : List Addr} {H' : Hp} (x : Ext B0 H0 B H') (fr : ∀ a ∈ A, H0 a = none) (sub : ∀ a ∈ Ai, a ∈ A) (fr' : ∀ a ∈ Ai', H0 a = none)
    (ch : ∃ A', ER G B H' σ (ρ.set i (some (k, d'))) A' ∧ A'.Nodup ∧ ∀ a ∈ A', a ∈ Ai' ∨ (a ∈ A ∧ a ∉ Ai)) : StOk G B0 H0 σ H' (ρ.set i (some (k, d'))) := by
  obtain ⟨A', h1, h2, h3⟩ := ch
  exact ⟨B, A', x, h1, h2, fun a ha => (h3 a ha).elim (fr' a) fun z => fr a z.1⟩
end
/-- what an owned list becomes -/
def sAppend (i m : Nat) (f : FE) : SF := fun ρ => match ρ[i]? with
  | some (some (k, .list ds)) => if k = m + 1 ∧ ds.length < 1000000 then withE (f ρ) ρ fun d => .nx (ρ.set i (some (m + 1, .list (ds ++ [d])))) else .bad
  | _ => .bad
/-- .. a number appended, all names read -/
def sAppendB (i : Nat) (f : FE) : SF := fun ρ => match ρ[i]? with
  | some (some (k, .list ds)) => if k = 1 ∧ ds.length < 1000000 then withE (f (frz ρ)) ρ fun d => if scalD d = true then .nx (ρ.set i (some (1, .list (ds ++ [d])))) else .bad else .bad
  | _ => .bad
def sStore (i m : Nat) (fi f : FE) : SF := fun ρ => match ρ[i]? with
  | some (some (k, .list ds)) => if k = m + 1 then withE (f ρ) ρ fun d => withE (fi (frz ρ)) ρ fun z => (match z with
    | .int z => (match ixN ds.length z with
      | some j => .nx (ρ.set i (some (m + 1, .list (ds.set j d))))
      | none => .bad)
    | _ => .bad) else .bad
  | _ => .bad
section
variable {X : Cx} {C : Addr} {xc : Nat → Addr} {W : WX} {n m : Nat}
theorem ds_append {i : Nat} {x : Str} {e : Expr} {f : FE} {p apos cpos pos : Pos} (he : PE X e (tDO (ct X C xc) W m f)) (hN : X.N[i]? = some x := by rfl) (hv : Vis X.env.scope x := by first | exact Or.inl rfl | exact Or.inr (Or.inl rfl) | exact Or.inr (Or.inr rfl))
    (hd : (x == ("__debug__" : Str)) = false := by decide) (hcd : (x == ("__classdict__" : Str)) = false := by decide) (hs : swapsWith (.Call (.Attribute (.Name x p) "append" apos) [e] [] cpos) none pos.line X.env = pure false := by rfl)
    (hbase : attributeBase (.Name x p) "append" X.env (eval (.Name x p) X.env) = eval (.Name x p) X.env := by rfl)
    (hfew : ((backTo cpos (starEach [e] X.env)).all (fun x => !x.1) && (backToKw cpos (keywordEach [] X.env)).all (fun x => x.1.isSome)
      && decide ([e].length + ([] : List Keyword).length + (if ([] : List Keyword).isEmpty then 0 else 1) < 30)) = true := by rfl)
    (hline : (apos.endLine == cpos.line) = true := by rfl) (hst : starEach [e] X.env = (false, eval e X.env) :: starEach [] X.env := by rfl) (hplain : (backTo cpos (starEach [] X.env)).any (·.1) = false := by rfl) :
    PS X (.Expr (.Call (.Attribute (.Name x p) "append" apos) [e] [] cpos) pos) (tDS (ct X C xc) W n (sAppend i m f)) :=
  weakS (ps_expr (pe_bm PySem.F.plainAttrs_list PySem.F.slot_list_append PySem.F.type_list_append mt_append (pe_var hN hv hd hcd) (pa_cons he pa_nil hst) hbase hfew hline hst hplain) hs) fun D σ H ⟨B0, H0, ρ, st, p⟩ => by
    unfold sAppend at p
    split at p
    · rename_i k ds q
      split at p
      · rename_i hk
        obtain ⟨rfl, hz⟩ := hk
        obtain ⟨B, A, x, r, nd, fr⟩ := id st
        obtain ⟨v, Ai, h1, h2, h3, h4, _⟩ := r.change nd q
        obtain ⟨pp, vs, _, ev, hp, _⟩ := h2.root
        refine ⟨v, h1, ?_, ?_⟩
        · rw [ev]; exact .inl ⟨rfl, vs, SqL.of hp⟩
        refine seqS st p fun d u B1 H1 A1 Av q1 x1 r1 nd1 fr1 hu nu na fu p1 => ?_
        obtain ⟨v', Ai', g1, g2, g3, g4, g5⟩ := r1.change nd1 q
        rw [h1] at g1
        cases g1
        obtain ⟨pp', vs', ev', hp', hl', hpA, A2, t1, t2, t3⟩ := g2.append g3 hu nu (fun a ha z => na a ha (g4 a z)) hz
        refine ⟨pp', vs', u, ev', rfl, hp', hl', ?_⟩
        have hpB : B1 pp' = none := (g2.nodes _ _ _ _ pp' hpA).2
        have hp0 : H0 pp' = none := fr1 pp' (g4 pp' hpA)
        exact p1 σ _ (changed (x1.mut hp0 hpB) fr1 g4 (fun a ha => (t3 a ha).elim (fu a) fun z => fr1 a (g4 a z)) (d := .list ds) (g5 _ _ A2 (fun a ha ha' => upd_ne fun e => ha' (e ▸ hpA)) t1 t2 fun a ha => (t3 a ha).elim (fun z => .inr (na a z)) .inl))
      · exact p.elim
    · exact p.elim
/-- x[j] = e -/
theorem ds_store {i : Nat} {x : Str} {e ei : Expr} {f fi : FE} {p tpos pos : Pos} (he : PE X e (tDO (ct X C xc) W m f)) (hi : PE X ei (tD (ct X C xc) W fi)) (hN : X.N[i]? = some x := by rfl) (hv : Vis X.env.scope x := by first | exact Or.inl rfl | exact Or.inr (Or.inl rfl) | exact Or.inr (Or.inr rfl))
    (hd : (x == ("__debug__" : Str)) = false := by decide) (hcd : (x == ("__classdict__" : Str)) = false := by decide) (hs : swapsWithSole [.Subscript (.Name x p) ei tpos] e pos.line X.env = pure false := by rfl) (hw : swappedStores [.Subscript (.Name x p) ei tpos] e X.env = pure none := by rfl)
    (h1 : (assignEach [.Subscript (.Name x p) ei tpos] X.env).map (·.2) = [assign (.Subscript (.Name x p) ei tpos) X.env] := by rfl)
    (ha : ∀ v, assign (.Subscript (.Name x p) ei tpos) X.env v = (do
      let ov ← holding [v] (eval (.Name x p) X.env)
      let iv ← holding [v, ov] (eval ei X.env)
      standAt tpos
      holding [v, ov, iv] (setItem ov iv v)
      release [v, ov, iv] []) := by intro _; rfl) :
    PS X (.Assign [.Subscript (.Name x p) ei tpos] e pos) (tDS (ct X C xc) W n (sStore i m fi f)) :=
  weakS (ps_asg he (pg_sub (pe_var hN hv hd hcd) hi set_list ha) hs hw h1) fun D σ H ⟨B0, H0, ρ, st, p⟩ => by
    unfold sStore at p
    split at p
    · rename_i k ds q
      split at p
      · rename_i hk
        subst hk
        refine seqS st p fun d u B1 H1 A1 Av q1 x1 r1 nd1 fr1 hu nu na fu p1 => ?_
        obtain ⟨v', Ai', g1, g2, g3, g4, g5⟩ := r1.change nd1 q
        refine ⟨v', g1, ?_⟩
        refine idxS x1.w r1 (fun H' e' => ⟨B1, A1, x1.trans (.heap x1.w e') , r1.ext (.heap x1.w e'), nd1, fr1⟩) p1 fun dz w B2 H2 q2 rz e2 p2 => ?_
        split at p2
        · rename_i z
          split at p2
          · rename_i j hj
            have ez := rz.int_inv
            subst ez
            have y12 : Ext B1 H1 B1 H2 := .heap x1.w e2
            have r2 := r1.ext y12
            obtain ⟨v2, Ai2, k1, k2, k3, k4, k5⟩ := r2.change nd1 q
            rw [g1] at k1
            cases k1
            have hjl := (ixN_seq hj).2.1
            have na2 : ∀ a ∈ Av, a ∉ A1 := na
            obtain ⟨pp', vs', ev', hp', hl', hpA, A2, t1, t2, t3⟩ := k2.store k3 (hu.ext y12) nu (fun a ha z => na a ha (k4 a z)) hjl
            refine ⟨pp', vs', z, j, ev', rfl, hp', by rw [hl']; exact hj, ?_⟩
            have hpB : B1 pp' = none := (k2.nodes _ _ _ _ pp' hpA).2
            have hp0 : H0 pp' = none := fr1 pp' (k4 pp' hpA)
            exact p2 σ _ (changed ((x1.trans y12).mut hp0 hpB) fr1 k4 (fun a ha => (t3 a ha).elim (fu a) fun z => fr1 a (k4 a z)) (d := .list ds) (k5 _ _ A2 (fun a ha ha' => upd_ne fun e => ha' (e ▸ hpA)) t1 t2 fun a ha => (t3 a ha).elim (fun z => .inr (na a z)) .inl))
          · exact p2.elim
        · exact p2.elim
      · exact p.elim
    · exact p.elim
end
end M

/-! MNet: the class Net: its fields, its method, its making. -/
namespace M
open PySem PySem.Spec L2 PyProof.Rows Evl
def dSize : D → O
  | .dict [(.none, .int n), (.none, _)] => .ok (.int n)
  | _ => .bad
def dMarks : D → O
  | .dict [(.none, .int _), (.none, m)] => .ok m
  | _ => .bad
theorem dSize_net {n : Int} {m : D} : dSize (netD n m) = .ok (.int n) := rfl
theorem dMarks_net {n : Int} {m : D} : dMarks (netD n m) = .ok m := rfl
section
variable {X : Cx} {C : Addr} {xc : Nat → Addr} {W : WX} {n : Nat}
theorem de_size {e : Expr} {f : FE} {pos : Pos} (cl : Cls X.K C) (nS : NoAttr X.K C "size") (h : PE X e (tD (ct X C xc) W f)) (hb : attributeBase e "size" X.env (eval e X.env) = eval e X.env) : PE X (.Attribute e "size" pos) (tD (ct X C xc) W (fUn dSize f)) := weak (pe_fld h hb) fun σ H Q ⟨B, ρ, e, env, p⟩ => by
  refine seqE (m := 0) e env p fun d v B1 H1 A q x ⟨r, _⟩ _ _ p1 => ?_
  unfold dSize at p1
  split at p1
  · obtain ⟨a, dx, y, rfl, h1, q⟩ := R.net_inv r
    exact ⟨a, C, dx, _, _, rfl, x.w _ _ h1, cl, nS, rfl, fin0 p1 (.refl x.w) (.int _)⟩
  · exact p1.elim
theorem ms_ne : (Str.ofString "marks" == Str.ofString "size") = false := by decide
theorem de_marks {e : Expr} {f : FE} {pos : Pos} (cl : Cls X.K C) (nM : NoAttr X.K C "marks") (h : PE X e (tD (ct X C xc) W f)) (hb : attributeBase e "marks" X.env (eval e X.env) = eval e X.env) : PE X (.Attribute e "marks" pos) (tD (ct X C xc) W (fUn dMarks f)) := weak (pe_fld h hb) fun σ H Q ⟨B, ρ, e, env, p⟩ => by
  refine seqE (m := 0) e env p fun d v B1 H1 A q x ⟨r, _⟩ _ _ p1 => ?_
  unfold dMarks at p1
  split at p1
  · obtain ⟨a, dx, y, rfl, h1, q⟩ := R.net_inv r
    exact ⟨a, C, dx, _, _, rfl, x.w _ _ h1, cl, nM, rfl, fin0 p1 (.refl x.w) q⟩
  · exact p1.elim
end
/-- a method that raises nothing -/
def MethIs (G : Ct) (mg : Str → Option Value) (base : Heap) (x : Str) (k : Nat) (m n : Nat) (F : List D → O) : Prop :=
  ∃ f fd ps, FnOk G.P G.w G.K mg base (L2.CX G.P G.w) k f fd ps (spD G n F m) ∧ Meth G.K G.C x f ∧ Binds G.K fd ps []
def noEx (o : O) : O := match o with
  | .ok d => .ok d
  | _ => .bad
def isNetD : D → Bool
  | .dict [(.none, .int _), (.none, _)] => true
  | _ => false
theorem isNetD_inv {d : D} (h : isNetD d = true) : ∃ i m, d = netD i m := by
  unfold isNetD at h
  split at h
  · exact ⟨_, _, rfl⟩
  · cases h
def fMeth (F : List D → O) (f : FE) (fs : List FE) : FE := fun ρ => (f ρ).bind fun d => if isNetD d = true then (evA fs ρ).bind fun ds => noEx (F (d :: ds)) else .bad
section
variable {X : Cx} {C : Addr} {xc : Nat → Addr} {W : WX} {n : Nat}
theorem de_meth {m : Str} {k na : Nat} {F : List D → O} {o e : Expr} {es : List Expr} {apos pos : Pos} {f : FE} {fs : List FE} {pl : Sem Bool} (cl : Cls X.K C) (hf : MethIs (ct X C xc) X.mg X.base m k na n F) (hr : Room k X.A) (hp : Pass X W) (ho : PE X o (tD (ct X C xc) W f)) (ha : PA X (e :: es) (tDA (ct X C xc) W fs))
    (hl : fs.length + 1 = na := by rfl) (m1 : (m == Str.ofString "size") = false := by decide) (m2 : (m == Str.ofString "marks") = false := by decide)
    (hst : starEach (e :: es) X.env = (false, eval e X.env) :: starEach es X.env := by rfl) (hpl : (backTo pos (starEach es X.env)).any (·.1) = false := by rfl)
    (ht : eval (.Call (.Attribute o m apos) (e :: es) [] pos) X.env = (do
      let ov ← eval o X.env
      standAt apos.atName
      let (f, first) ← holding [ov] (getMethod ov m pl)
      callWith pos f first (backTo pos (starEach (e :: es) X.env)) (backToKw pos (keywordEach [] X.env))) := by rfl) :
    PE X (.Call (.Attribute o m apos) (e :: es) [] pos) (tDO (ct X C xc) W n (fMeth F f fs)) := by
  obtain ⟨fa, fd, ps, G, hm, hb⟩ := hf
  refine weak (pe_meth ho cl hm G hr hb .nil passL ha hst hpl ht) fun σ H Q ⟨B, ρ, e, env, p⟩ => ?_
  refine seqE (m := n) e env p fun d v B1 H1 A q x ⟨r, _⟩ _ _ p1 => ?_
  split at p1
  · rename_i hd
    obtain ⟨i, mm, rfl⟩ := isNetD_inv hd
    obtain ⟨a, dx, y, rfl, h1, q⟩ := R.net_inv r
    refine ⟨a, dx, _, rfl, x.w _ _ h1, ?_, ?_⟩
    · show List.lookup m [(Str.ofString "size", V.int i), (Str.ofString "marks", y)] = none
      simp only [List.lookup, m1, m2]
    refine seqA (n := n) x.w (env.ext x) p1 fun ds vs B2 H2 q2 x2 r2 p2 => ?_
    rw [List.append_nil]
    refine ⟨?_, B2, _, x2.w, .cons (r.mono x2.b) r2, ?_⟩
    · rw [List.length_cons, r2.length, evA_len q2, hl]
    · revert p2
      unfold noEx PostF
      show PostE _ W σ n B2 H2 Q _ → PostE _ _ [] n B2 H2 Q (F (netD i mm :: ds))
      cases F (netD i mm :: ds) with
      | ok d => exact fun p => p
      | ex c => exact fun p => p.elim
      | bad => exact fun p => p
  · exact p1.elim
end

/-! ### the making -/
/-- what __init__ does: the test (of a refusal), then the two fields -/
def F_init (L c : Nat) (ft fs fm : FE) : List D → O
  | [d] => (ft (frz (none :: some (0, d) :: List.replicate (L - 2) none))).bind fun b => (match b with
    | .bool true => .ex c
    | .bool false => (fs (none :: some (0, d) :: List.replicate (L - 2) none)).bind fun n => (noEx (fm (none :: some (0, d) :: List.replicate (L - 2) none))).bind fun m => (match n with
      | .int i => .ok (netD i m)
      | _ => .bad)
    | _ => .bad)
  | _ => .bad
/-- the promise of __init__: the marks are a tree of its own -/
def spInit (G : Ct) (F : List D → O) : Sp := fun vs H Q E => ∃ x dx v B d, vs = [.ref x, v] ∧ H x = some (.ins G.C dx []) ∧ Ex B H ∧ B x = none ∧ R G B v d ∧ (match F [d] with
  | .ok z => ∀ B' H' A i m vm, z = netD i m → Ex B B' → Ex B' H' → (∀ a, B a = none → H a ≠ none → B' a = none) → (∀ b o, H b = some o → b ≠ x → H' b = some o) →
      H' x = some (.ins G.C dx [("size", .int i), ("marks", vm)]) → Own G B' H' 2 vm m A → A.Nodup → (∀ a ∈ A, H a = none) → Q .non H'
  | .ex c => ∀ H', Ex H H' → E (.ref (G.xc c)) none H'
  | .bad => False)
def NetIs (G : Ct) (mg : Str → Option Value) (base : Heap) (k : Nat) (F : List D → O) : Prop :=
  ∃ f fd ps, FnOk G.P G.w G.K mg base (L2.CX G.P G.w) k f fd ps (spInit G F) ∧ mg "Net" = some (.ref G.C) ∧ Mk G.K G.C f ∧ Binds G.K fd ps []
section
variable {X : Cx} {C : Addr} {xc : Nat → Addr} {W : WX} {n : Nat}
theorem run_makeS {CX : CXT} {k : Nat} {f : Addr} {fd : FuncData} {ps : List Str} {sp : Sp} {E : L2.St → XK} {pins : List (Addr × Obj)} {σ : L2.St} {H : Hp} {s : Shared} {Q : VK} {us : List Value} {vs : List V} (M : Mk X.K C f) (F : FnOk X.prog X.w X.K X.mg X.base CX k f fd ps sp) (hr : Room (k + 1) X.A) (hb : Binds X.K fd ps [])
    (hx : PassesAt CX X σ (E σ)) (I : Inv X pins σ H s) (r : Vals vs us)
    (h : ∀ x dx, H x = none → H dx = none → dx ≠ x → sp (.ref x :: vs) (upd (upd H dx (.own x)) x (.ins C dx [])) (fun v H2 => v = .non ∧ Q (.ref x) H2) (E σ)) :
    wpAny (model X.prog X.w) X.A (call (.ref C) us) (EP X pins σ Q) X.xe s := by
  have hq := h (s.heap.objs.size + 1) s.heap.objs.size (I.hok.fresh (Nat.le_succ _)) (I.hok.fresh (Nat.le_refl _)) (Nat.ne_of_lt (Nat.lt_succ_self _))
  have I2 := Inv.made (C := C) I
  have r2 : Vals (V.ref (s.heap.objs.size + 1) :: vs) (Value.ref (s.heap.objs.size + 1) :: us) := .cons rfl r
  have hl : (Value.ref (s.heap.objs.size + 1) :: us).length = ps.length := by
    have e := r2.length
    rw [F.len _ _ _ _ hq] at e
    exact e.symm
  have hb' := hb _ (Value.ref (s.heap.objs.size + 1) :: us) I2.kIn (by rw [List.append_nil]; exact hl)
  rw [List.append_nil] at hb'
  refine wpAny_call (make_map (f := f) I.kIn M.makes M.init (beq_iff_eq.mp M.fn) (codeAny_mono (F.run _ X.stack _ _ ⟨Value.ref (s.heap.objs.size + 1) :: us, []⟩ (Value.ref (s.heap.objs.size + 1) :: us) _ _ (E σ) (hr.make C us [])
    (I2.env0.make C us []) hb' r2 hq) fun r s' hq' => ?_))
  cases r with
  | error e => exact hx pins _ _ e s' I2 hq'
  | ok fl =>
    cases fl with
    | ret u =>
      obtain ⟨v, H', I3, rv, ev, q3⟩ := I2.after hq'
      subst ev
      exact ⟨rv, ⟨V.ref (s.heap.objs.size + 1), H', I3, rfl, q3⟩⟩
    | next => exact False.elim hq'
    | brk => exact False.elim hq'
    | cont => exact False.elim hq'
def tMakeS (C : Addr) (sp : Sp) (E : L2.St → XK) (t : TA) : TE := fun σ H Q => t σ H fun vs H1 => ∀ x dx, H1 x = none → H1 dx = none → dx ≠ x →
  sp (.ref x :: vs) (upd (upd H1 dx (.own x)) x (.ins C dx [])) (fun v H2 => v = .non ∧ Q (.ref x) H2) (E σ)
theorem pe_makeS {CX : CXT} {k : Nat} {f : Addr} {fd : FuncData} {ps : List Str} {sp : Sp} {E : L2.St → XK} {x : Str} {p pos : Pos} {e : Expr} {es : List Expr} {t : TA} (mk : Mk X.K C f) (F : FnOk X.prog X.w X.K X.mg X.base CX k f fd ps sp) (hr : Room (k + 1) X.A) (hg : Gl X x) (hm : X.mg x = some (.ref C)) (hb : Binds X.K fd ps []) (hx : ∀ σ, PassesAt CX X σ (E σ))
    (ha : PA X (e :: es) t) (hdb : (x == ("__debug__" : Str)) = false := by decide) (he : starEach (e :: es) X.env = (false, eval e X.env) :: starEach es X.env := by rfl) (hpl : (backTo pos (starEach es X.env)).any (·.1) = false := by rfl) :
    PE X (.Call (.Name x p) (e :: es) [] pos) (tMakeS C sp E t) := by
  refine ⟨fun pins s σ H Q I h => ?_⟩
  refine wpAny_Call_Name_kw (ld_glob I hg hm ?_ hdb)
  refine PySem.W.callWith_K (h₀ := X.base) I.ok.mod.kin mk.kp (thn (ha.run pos pins s σ H _ I h) fun us s1 ⟨vs, H1, I1, r, q⟩ => ⟨I1.kIn, ?_⟩) he hpl
  exact run_makeS mk F hr hb (hx σ) I1 r q
/-- Net(marks) -/
theorem de_net {k : Nat} {F : List D → O} {e : Expr} {p pos : Pos} {f : FE} (hf : NetIs (ct X C xc) X.mg X.base k F) (hr : Room (k + 1) X.A) (hp : Pass X W) (ha : PA X [e] (tDA (ct X C xc) W [f])) (hg : Gl X "Net" := by rfl) (he : starEach [e] X.env = (false, eval e X.env) :: starEach [] X.env := by rfl) (hpl : (backTo pos (starEach [] X.env)).any (·.1) = false := by rfl) :
    PE X (.Call (.Name "Net" p) [e] [] pos) (tDO (ct X C xc) W 3 (fArgs F [f])) := by
  obtain ⟨fa, fd, ps, G, hm, MK, hb⟩ := hf
  refine weak (pe_makeS MK G hr hg hm hb hp ha (by decide) he hpl) fun σ H Q ⟨B, ρ, e, env, p⟩ => ?_
  refine seqA (n := 3) e env p fun ds vs B1 H1 q x r p1 x0 dx hx hdx hne => ?_
  have hd : ∃ d, ds = [d] := by
    have := evA_len q
    match ds, this with
    | [d], _ => exact ⟨d, rfl⟩
  obtain ⟨d, rfl⟩ := hd
  obtain ⟨v, rfl, r1⟩ := r.one
  have hB : B1 x0 = none := Ex.back x.w hx
  have eH : Ex H1 (upd (upd H1 dx (.own x0)) x0 (.ins C dx [])) := fun a o z => by
    rw [upd_ne (ne_of_none z hx), upd_ne (ne_of_none z hdx)]
    exact z
  refine ⟨x0, dx, v, B1, d, rfl, upd_same, x.w.trans eH, hB, r1, ?_⟩
  revert p1
  cases F [d] with
  | ok z =>
    intro p1 B' H' A i m vm ez b1 b2 b3 b4 b5 own nd fr
    refine ⟨rfl, ?_⟩
    subst ez
    have hBx' : B' x0 = none := b3 x0 hB (by rw [upd_same]; simp)
    have hA : ∀ a ∈ A, B' a = none := fun a ha => (own.nodes _ _ _ _ a ha).2
    have hxA : x0 ∉ A := fun z => by
      have := fr x0 z
      rw [upd_same] at this
      cases this
    refine p1 (.ref x0) B' H' (x0 :: A) ⟨b1, fun a o z => b4 a o (eH a o z) (ne_of_none z hx), b2, fun a h1 h2 => b3 a h1 fun z => h2 (Ex.back eH z)⟩ (.inr (.inl (.inr ⟨x0, dx, i, vm, m, A, rfl, rfl, b5, hBx', own, rfl⟩))) (List.nodup_cons.mpr ⟨hxA, nd⟩) fun a ha => ?_
    rcases List.mem_cons.mp ha with rfl | ha
    · exact hx
    · exact Ex.back eH (fr a ha)
  | ex c => exact fun p1 H' e' => p1 B1 H' (.heap x.w (eH.trans e'))
  | bad => exact fun p1 => p1
end
section
variable {P : Program} {w : World} {K : PySem.W.Frag} {mg : Str → Option Value} {base : Heap} {C : Addr} {xc : Nat → Addr}
theorem put_two (i : Int) (vm : V) : putF "marks" vm (putF "size" (V.int i) []) = [(("size" : Str), V.int i), ("marks", vm)] := by
  show (if ("size" : Str) = "marks" then _ else (("size" : Str), V.int i) :: putF "marks" vm []) = _
  rw [if_neg (by decide)]
  rfl
/-- __init__: if test: raise ..; self.size = e1; self.marks = e2 -/
theorem init_data {x qual : Str} {st : Stmt} {f : Addr} {fd : FuncData} {N ps : List Str} {k L c : Nat} {ft fs fm : FE} {s1 s2 s3 : Stmt} (F : Fun K x qual st f fd) (S : FnScope N ps (defScope st)) (hps : ps.length = 2) (hL : N.length = L) (h2L : 2 ≤ L) (cl : Cls K C) (nS : NoAttr K C "size") (nM : NoAttr K C "marks")
    (hbody : defBody st = [s1, s2, s3])
    (hb : ∀ (cdv : Value) (A : Around) (outer : List Env) (s : Shared) (H : Hp) (E : XK), Room k (A.deeper (envOfC qual (defScope st) s.heap.objs.size f cdv)) →
      Takes (cxOf (L2.CX P w) P w K mg base N qual (defScope st) f cdv A outer s H E) (fun cls d _ H => E cls d H) → Pass (cxOf (L2.CX P w) P w K mg base N qual (defScope st) f cdv A outer s H E) (fun cls d _ H => E cls d H) →
      Hu (cxOf (L2.CX P w) P w K mg base N qual (defScope st) f cdv A outer s H E) → N.Nodup →
      ∃ t1 t2 tt tr, PS (cxOf (L2.CX P w) P w K mg base N qual (defScope st) f cdv A outer s H E) s1 (tIfS tt tr tNext) ∧ (∀ σ H Q, tT ⟨P, w, K, C, xc⟩ (fun cls d _ H => E cls d H) ft σ H Q → tt σ H Q) ∧ (∀ D σ H, E (.ref (xc c)) none H → tr D σ H) ∧
        PS (cxOf (L2.CX P w) P w K mg base N qual (defScope st) f cdv A outer s H E) s2 (sFld K (tVar 0) t1 "size") ∧ (∀ σ H Q, tD ⟨P, w, K, C, xc⟩ (fun cls d _ H => E cls d H) fs σ H Q → t1 σ H Q) ∧
        PS (cxOf (L2.CX P w) P w K mg base N qual (defScope st) f cdv A outer s H E) s3 (sFld K (tVar 0) t2 "marks") ∧ (∀ σ H Q, tDO ⟨P, w, K, C, xc⟩ (fun cls d _ H => E cls d H) 2 fm σ H Q → t2 σ H Q)) :
    FnOk P w K mg base (L2.CX P w) (k + 1) f fd ps (spInit ⟨P, w, K, C, xc⟩ (F_init L c ft fs fm)) := by
  refine F.okX S (fun vs H Q E ⟨x, dx, v, B, d, e, _⟩ => by rw [e, hps]; rfl) fun cdv A outer s H vs Q E hr ⟨x, dx, v, B, d, ev, hx, e, hBx, rv, p⟩ => ?_
  obtain ⟨t1, t2, tt, tr, h1, h2, h3, h4, h5, h6, h7⟩ := hb cdv A outer s H E hr (takes_of rfl rfl rfl rfl) (pass_tk (takes_of rfl rfl rfl rfl)) (hu_of_room hr) S.nd
  rw [hbody]
  refine ⟨_, pss_cons h1 (pss_cons h4 (pss_one h6)), ?_⟩
  subst ev
  have hst : L2.start N [.ref x, v] = some (.ref x) :: some v :: List.replicate (L - 2) none := by
    unfold L2.start
    rw [hL]
    rfl
  rw [hst]
  generalize hρ : (none :: some (0, d) :: List.replicate (L - 2) none : Rho) = ρ at p
  have er : ∀ {B' H' : Hp}, Ex B B' → ER (⟨P, w, K, C, xc⟩ : Ct) B' H' (some (.ref x) :: some v :: List.replicate (L - 2) none) ρ [] := fun e' => by
    rw [← hρ]
    exact .skip (.cons (A1 := []) (A2 := []) ⟨rv.mono e', rfl⟩ (ER.start (vs := []) (ds := []) .nil (L - 2)))
  simp only [F_init, hρ] at p
  refine h2 _ _ _ ⟨B, ρ, e, ⟨[], er (Ex.refl _), List.nodup_nil⟩, ?_⟩
  revert p
  cases ft (frz ρ) with
  | ok b =>
    intro p
    cases b with
    | bool b =>
      intro H1 e1
      cases b with
      | true =>
        show tr _ _ _
        exact h3 _ _ _ (p H1 e1)
      | false =>
        show (sFld K (tVar 0) t1 "size") _ _ _
        have x1 : Ext B H B H1 := .heap e e1
        refine h5 _ _ _ ⟨B, ρ, x1.w, ⟨[], er (Ex.refl _), List.nodup_nil⟩, ?_⟩
        dsimp only [O.bind] at p
        revert p
        cases fs ρ with
        | ok nn =>
          intro p vn B2 H2 A2 x2 hvn _ _
          refine ⟨.ref x, rfl, x, C, dx, [], rfl, x2.h _ _ (e1 _ _ hx), cl, nS, by decide, ?_⟩
          show (sFld K (tVar 0) t2 "marks") _ _ _
          -- the heap with the first field; what is shared stays
          have x12 : Ext B H B2 H2 := x1.trans x2
          have hB2x : B2 x = none := x12.n x hBx (by rw [hx]; simp)
          have w3 : Ex B2 (upd H2 x (.ins C dx (putF "size" vn []))) := fun a o z => by
            have : a ≠ x := fun z' => by rw [z', hB2x] at z; cases z
            rw [upd_ne this]
            exact x12.w a o z
          refine h7 _ _ _ ⟨B2, ρ, w3, ⟨[], er x12.b, List.nodup_nil⟩, ?_⟩
          dsimp only at p
          revert p
          cases fm ρ with
          | ok m =>
            intro p vm B3 H3 A3 x3 hvm nd3 fr3
            refine ⟨.ref x, rfl, x, C, dx, _, rfl, x3.h _ _ upd_same, cl, nM, by show 1 < 1000; decide, ?_⟩
            have hint : ∃ i, nn = .int i := by
              cases nn with
              | int i => exact ⟨i, rfl⟩
              | _ => exact p.elim
            obtain ⟨i, rfl⟩ := hint
            have evn := hvn.1.int_inv
            subst evn
            have hfr : ∀ a ∈ A3, a ≠ x := fun a ha z => by
              have := fr3 a ha
              rw [z, upd_same] at this
              cases this
            refine p B3 _ A3 i m vm rfl (x12.b.trans x3.b) (fun a o z => ?_) (fun a h1 h2 => ?_) (fun b o z hb => ?_) ?_ ?_ nd3 ?_
            · have : a ≠ x := fun z' => by
                have h0 := x3.n x hB2x (by rw [upd_same]; simp)
                rw [z', h0] at z; cases z
              rw [upd_ne this]
              exact x3.w a o z
            · have h3 := x12.n a h1 h2
              refine x3.n a h3 ?_
              by_cases ha : a = x
              · rw [ha, upd_same]; simp
              · rw [upd_ne ha]
                intro z
                exact h2 (Ex.back x12.h z)
            · rw [upd_ne hb]
              exact x3.h _ _ (by rw [upd_ne hb]; exact x12.h _ _ z)
            · rw [upd_same, put_two]
            · exact hvm.keepU fun z => hfr x z rfl
            · intro a ha
              have h4 := fr3 a ha
              rw [upd_ne (hfr a ha)] at h4
              exact Ex.back x12.h h4
          | ex c => exact fun p B' H' x' => p.elim
          | bad => exact fun p => p.elim
        | ex c => exact fun p B' H' x' => p H' (e1.trans x'.h)
        | bad => exact fun p => p.elim
    | _ => exact p.elim
  | ex c => exact fun p B' H' x' => p H' x'.h
  | bad => exact fun p => p.elim
end
end M

/-! MMore: sorted, max, isinstance; dicts made, stored, asked; more of lists changed. -/
namespace M
open PySem PySem.Spec L2 PyProof.Rows Evl

/-! ### sorted -/
def tupNE : D → Bool
  | .tuple (_ :: _) => true
  | _ => false
def isIntD : D → Bool
  | .int _ => true
  | _ => false
def sortOk (ds : List D) : Bool := ((ds.all fun x => ds.all fun y => PySem.W.alike x y) && ds.all okD) && (ds.all tupNE || ds.all isIntD)
def dSorted : D → O
  | .list ds => if sortOk ds = true ∧ ds.length ≤ 1000 then .ok (.list (ds.mergeSort (PySem.W.dataLe false fun x => x))) else .bad
  | _ => .bad
theorem calm_dSorted : Calm1 (d1 dSorted) := fun ds c h => by
  unfold d1 dSorted at h
  split at h
  · split at h
    · split at h <;> cases h
    · cases h
  · cases h
theorem each_zip {Pr : Value → V × D → Prop} : ∀ {vs : List V} {us : List Value} {ds : List D}, Vals vs us → vs.length = ds.length → (∀ v u d, RelV v u → (v, d) ∈ vs.zip ds → Pr u (v, d)) → PySem.W.EachIs Pr us (vs.zip ds)
  | [], _, [], .nil, _, _ => .nil
  | v :: vs, _, d :: ds, .cons r rr, hl, h => .cons (h _ _ _ r (by simp)) (each_zip rr (by simpa using hl) fun v' u' d' r' hm => h v' u' d' r' (by simp [hm]))
  | [], _, _ :: _, .nil, hl, _ => by simp at hl
  | _ :: _, _, [], .cons _ _, hl, _ => by simp at hl
theorem zip_fst {α β : Type} : ∀ {xs : List α} {ys : List β}, xs.length = ys.length → (xs.zip ys).map (·.1) = xs
  | [], [], _ => rfl
  | x :: xs, y :: ys, h => by simp [zip_fst (xs := xs) (ys := ys) (by simpa using h)]
  | [], _ :: _, h => by simp at h
  | _ :: _, [], h => by simp at h
theorem zip_snd {α β : Type} : ∀ {xs : List α} {ys : List β}, xs.length = ys.length → (xs.zip ys).map (·.2) = ys
  | [], [], _ => rfl
  | x :: xs, y :: ys, h => by simp [zip_snd (xs := xs) (ys := ys) (by simpa using h)]
  | [], _ :: _, h => by simp at h
  | _ :: _, [], h => by simp at h
theorem RA.zip_mem {G : Ct} {B : Hp} : ∀ {vs : List V} {ds : List D} {v : V} {d : D}, RA G B vs ds → (v, d) ∈ vs.zip ds → R G B v d
  | _, _, _, _, .nil, h => by cases h
  | _, _, _, _, .cons h r, hm => by
    simp at hm
    rcases hm with ⟨rfl, rfl⟩ | hm
    · exact h
    · exact r.zip_mem hm
theorem RA.of_pairs {G : Ct} {B : Hp} : ∀ {ps : List (V × D)}, (∀ p ∈ ps, R G B p.1 p.2) → RA G B (ps.map (·.1)) (ps.map (·.2))
  | [], _ => .nil
  | p :: ps, h => .cons (h p List.mem_cons_self) (RA.of_pairs fun q hq => h q (List.mem_cons_of_mem _ hq))
theorem vals_of_each : ∀ {us : List Value} {ps : List (V × D)}, PySem.W.EachIs (fun u p => RelV p.1 u) us ps → Vals (ps.map (·.1)) us
  | _, _, .nil => .nil
  | _, _, .cons h r => .cons h (vals_of_each r)
theorem zip_length {α β : Type} {xs : List α} {ys : List β} (h : xs.length = ys.length) : (xs.zip ys).length = ys.length := by
  rw [List.length_zip, h, Nat.min_self]
section
variable {X : Cx} {C : Addr} {xc : Nat → Addr} {W : WX} {n : Nat}
theorem cd_sorted (hu : Hu X) : CallR X (.builtin "sorted") (cD (ct X C xc) 1 (d1 dSorted)) := by
  intro pins s σ H vs us Q I rv ⟨B, ds, e, r, p⟩
  unfold d1 at p
  split at p
  · rename_i d
    obtain ⟨v, rfl, r1⟩ := r.one
    unfold dSorted at p
    split at p
    · rename_i ds
      split at p
      · rename_i hz
        obtain ⟨hs, hlen⟩ := hz
        obtain ⟨a, ws, rfl, h, q⟩ := r1.list_inv
        obtain ⟨its, rw', hl, hz'⟩ := I.list (SqL.of (K := X.K) (e _ _ h))
        rw [Vals.ref1 rv]
        have hwl : ws.length = ds.length := q.length
        have hok : ∀ d ∈ ds, okD d = true := by
          unfold sortOk at hs
          simp only [Bool.and_eq_true, List.all_eq_true] at hs
          exact hs.1.2
        have hal : PySem.W.AllAlike ((ws.zip ds).map (·.2)) := by
          rw [zip_snd hwl]
          unfold sortOk at hs
          simp only [Bool.and_eq_true, List.all_eq_true] at hs
          exact hs.1.1
        have hso : PySem.W.Sortable ((ws.zip ds).map (·.2)) := by
          rw [zip_snd hwl]
          unfold sortOk at hs
          simp only [Bool.and_eq_true, Bool.or_eq_true, List.all_eq_true] at hs
          rcases hs.2 with h1 | h1
          · refine .inl fun d hd => ?_
            have := h1 d hd
            unfold tupNE at this
            split at this
            · exact ⟨_, _, rfl⟩
            · cases this
          · refine .inr fun d hd => ?_
            have := h1 d hd
            cases d with
            | int i => exact ⟨(fun z => nomatch z), fun xs z => nomatch z⟩
            | _ => cases this
        have rd : ∀ v u d, RelV v u → (v, d) ∈ ws.zip ds → ∃ as, Reads s.heap u d as := fun v u d r' hm =>
          Dp.reads I d v u (((q.zip_mem hm).mono e).dp (plain_ok (hok d (List.of_mem_zip hm).2))) r'
        refine PySem.W.sorted_data (R := fun u (p : V × D) => RelV p.1 u) (enc := fun p : V × D => p.2) (bs := ws.zip ds) hl.isList (each_zip rw' hwl fun v u d r' _ => r') (each_zip rw' hwl rd) hal hso (by rw [zip_length hwl]; exact Nat.le_trans hlen (by decide)) (fun b hb => ?_) fun out ho he => ?_
        · have h1 := SeqAt.depth_of_shaped (hok b.2 (List.of_mem_zip (a := b.1) (b := b.2) hb).2)
          omega
        · obtain ⟨ep, he'⟩ := PyProof.Rows.sortedAll_at s.heap its out.toArray
          have hmap : ((ws.zip ds).mergeSort (PySem.W.dataLe false fun p => p.2)).map (·.2) = ds.mergeSort (PySem.W.dataLe false fun x => x) := by
            have hm := List.map_mergeSort (r := PySem.W.dataLe false fun p : V × D => p.2) (s := PySem.W.dataLe false fun x => x) (f := fun p : V × D => p.2) (l := ws.zip ds) (fun _ _ _ _ => rfl)
            rw [hm, zip_snd hwl]
          have hra : RA (ct X C xc) B (((ws.zip ds).mergeSort (PySem.W.dataLe false fun p => p.2)).map (·.1)) (ds.mergeSort (PySem.W.dataLe false fun x => x)) := by
            rw [← hmap]
            refine RA.of_pairs fun p hp => ?_
            exact q.zip_mem (by
              have : p ∈ ws.zip ds := (List.mergeSort_perm _ _).mem_iff.mp hp
              exact this)
          have hlen2 : (((ws.zip ds).mergeSort (PySem.W.dataLe false fun p => p.2)).map (·.1)).length ≤ sizeLine := by
            rw [List.length_map, List.length_mergeSort, zip_length hwl]
            exact Nat.le_trans hlen (by decide)
          have hfree : H (s.heap.objs.size + 1) = none := I.hok.fresh (Nat.le_succ _)
          exact ⟨.ref _, upd H (s.heap.objs.size + 1) (.lst _), I.laid (t' := s.toks) (fun _ _ => PyProof.Rows.sortedAll_old) (Nat.le_succ _) ⟨hlen2, out, ep, vals_of_each he, he'⟩, rfl, fin1 p e hfree hlen2 hra⟩
      · exact p.elim
    · exact p.elim
  · exact p.elim
/-! max of a list of whole numbers -/
def maxI (n : Int) (ns : List Int) : Int := ns.foldl (fun a y => if a < y then y else a) n
theorem maxI_ge : ∀ (ns : List Int) (n : Int), n ≤ maxI n ns ∧ (∀ y ∈ ns, y ≤ maxI n ns) ∧ (maxI n ns = n ∨ maxI n ns ∈ ns)
  | [], n => ⟨Int.le_refl _, (fun _ h => nomatch h), .inl rfl⟩
  | m :: ns, n => by
    obtain ⟨h1, h2, h3⟩ := maxI_ge ns (if n < m then m else n)
    have e : maxI n (m :: ns) = maxI (if n < m then m else n) ns := rfl
    rw [e]
    refine ⟨?_, fun y hy => ?_, ?_⟩
    · split at h1 <;> rename_i h <;> (try rw [if_pos h]) <;> (try rw [if_neg h]) <;> omega
    · rcases List.mem_cons.mp hy with rfl | hy
      · split at h1 <;> rename_i h <;> (try rw [if_pos h]) <;> (try rw [if_neg h]) <;> omega
      · exact h2 y hy
    · rcases h3 with h | h
      · rw [h]
        split
        · exact .inr List.mem_cons_self
        · exact .inl rfl
      · exact .inr (List.mem_cons_of_mem _ h)
def dMax1 : D → O
  | .list ds => (match asInts ds with
    | some (n :: ns) => .ok (.int (maxI n ns))
    | _ => .bad)
  | _ => .bad
theorem calm_dMax1 : Calm1 (d1 dMax1) := fun ds c h => by
  unfold d1 dMax1 at h
  split at h
  · split at h
    · split at h <;> cases h
    · cases h
  · cases h
theorem cd_max (hc : X.calm = true) : CallR X (.builtin "max") (cD (ct X C xc) 0 (d1 dMax1)) := by
  intro pins s σ H vs us Q I rv ⟨B, ds, e, r, p⟩
  unfold d1 at p
  split at p
  · rename_i d
    obtain ⟨v, rfl, r1⟩ := r.one
    unfold dMax1 at p
    split at p
    · split at p
      · rename_i n ns hn
        obtain ⟨a, ws, rfl, h, q⟩ := r1.list_inv
        have ew := q.ints hn
        subst ew
        refine cr_max hc pins s σ H _ us Q I rv ⟨a, n :: ns, rfl, SqL.of (e _ _ h), by simp, fun m hm hle => ?_⟩
        have em : m = maxI n ns := by
          obtain ⟨h1, h2, h3⟩ := maxI_ge ns n
          have h4 : m ≤ maxI n ns := by
            rcases List.mem_cons.mp hm with rfl | hm
            · exact h1
            · exact h2 m hm
          have h5 : maxI n ns ≤ m := by
            rcases h3 with h | h
            · rw [h]; exact hle n List.mem_cons_self
            · exact hle _ (List.mem_cons_of_mem _ h)
          omega
        rw [em]
        exact fin0 p (.refl e) (.int _)
      · exact p.elim
    · exact p.elim
  · exact p.elim

/-! ### isinstance, of a written class -/
/-- the built-in class of a datum -/
def clsD : D → Option String
  | .none => some "NoneType"
  | .bool _ => some "bool"
  | .int _ => some "int"
  | .str _ => some "str"
  | .list _ => some "list"
  | .tuple _ => some "tuple"
  | .dict _ => none
theorem ty_of {B : Hp} {H : Hp} (e : Ex B H) {v : V} {d : D} {t : String} (r : R (ct X C xc) B v d) (h : clsD d = some t) : TyX X.K H v (.type t) := by
  cases r with
  | non => cases h; exact .base .non
  | bl b => cases h; exact .base (.bl b)
  | int i => cases h; exact .base (.int i)
  | str x => cases h; exact .base (.str x)
  | lst h1 _ => cases h; exact .base (.lst (e _ _ h1))
  | scr => cases h
  | tup h1 _ =>
    cases h
    rcases ex_t e h1 with (h2 | ⟨o, h2⟩) | ⟨o, its, n, hk, hc, _⟩
    · exact .base (.tup h2)
    · exact .fTuple h2
    · exact .kTuple hk hc
  | opq => cases h
  | net => cases h
  | dic => cases h
/-- isinstance(x, T), T a built-in class -/
def dIsi (T : String) (d : D) : O := match clsD d with
  | some t => (match kitB t T with
    | some b => .ok (.bool b)
    | none => .bad)
  | none => .bad
theorem de_isi {T : String} {x : Str} {e : Expr} {f : FE} {p pt pos : Pos} (hm : X.mg "isinstance" = none) (hT : X.mg x = none) (h : PE X e (tD (ct X C xc) W f)) (hv : bootBuiltins x = some (.type T) := by decide +kernel) (hg : Gl X "isinstance" := by rfl) (hgx : Gl X x := by rfl)
    (hx : x ≠ "__name__" := by decide) (hxd : (x == ("__debug__" : Str)) = false := by decide)
    (he : starEach [e, .Name x pt] X.env = (false, eval e X.env) :: starEach [.Name x pt] X.env := by rfl) (he2 : starEach [.Name x pt] X.env = (false, eval (.Name x pt) X.env) :: starEach [] X.env := by rfl) (hpl : (backTo pos (starEach [.Name x pt] X.env)).any (·.1) = false := by rfl) :
    PE X (.Call (.Name "isinstance" p) [e, .Name x pt] [] pos) (tD (ct X C xc) W (fUn (dIsi T) f)) :=
  weak (pe_callB call_isi hg hm (by decide +kernel) (pa_cons h (pa_cons (pe_bltn (v := .ty T) hgx hT hv rfl hx hxd) pa_nil he2) he) (by decide) (by decide) he hpl) fun σ H Q ⟨B, ρ, e, env, p⟩ => by
    refine seqE (m := 0) e env p fun d v B1 H1 A q x ⟨r, _⟩ _ _ p1 => ?_
    unfold dIsi at p1
    split at p1
    · rename_i t ht
      split at p1
      · rename_i b hb
        exact ⟨v, .ty T, .type t, .type T, b, rfl, .ty T, ty_of x.w r ht, kit_ty hb, fin0 p1 (.refl x.w) (.bl _)⟩
      · exact p1.elim
    · exact p1.elim

/-! ### dicts -/
def fNewD : FE := fC (.dict [])
theorem dict_free {s : Shared} {pins : List (Addr × Obj)} {σ : L2.St} {H : Hp} (I : Inv X pins σ H s) : (s.heap.objs.size == sysModules) = false := beq_eq_false_iff_ne.mpr (Nat.ne_of_gt I.big)
theorem de_newD {pos : Pos} : PE X (.Dict [] [] pos) (tDO (ct X C xc) W 1 fNewD) := ⟨fun pins s σ H Q I ⟨B, ρ, e, env, p⟩ => by
  have hfree : H s.heap.objs.size = none := I.hok.fresh (Nat.le_refl _)
  refine wpAny_Dict_empty ⟨.ref s.heap.objs.size, upd H s.heap.objs.size (.ext (RawK X.prog X.w s.heap.objs.size [])), I.laid (a := s.heap.objs.size) (t' := s.toks) (fun _ _ q => Heap.get?_push_of_some _ q) (Nat.le_refl _) ?_, rfl, ?_⟩
  · refine ⟨⟨_, #[], 0, Heap.get?_push_size _ rfl, ⟨rfl, rfl, rfl⟩, rfl, rfl, List.nodup_nil⟩, ⟨_, Heap.get?_push_size _ rfl⟩, fun h1 h2 ⟨o, es, ep, q1, q2⟩ k => ⟨o, es, ep, k o q1, q2⟩⟩
  · exact fin p (.own e hfree) (.inr (.inl (.inl ⟨_, [], [], rfl, rfl, upd_same, dict_free I, Ex.back e hfree, .nil, rfl⟩))) nd1 (fr1 hfree)⟩
/-- the pairs behind d[k] = v -/
def dPut (kvs : List (D × D)) (k : D) (nk : NestedKey) (v : D) : List (D × D) :=
  if (dLook kvs nk).isSome = true then kvs.map (fun p => if keyOk p.1 = some nk then (p.1, v) else p) else kvs ++ [(k, v)]
theorem DA.append {G : Ct} {B : Hp} : ∀ {xs ys : List (NestedKey × Addr × Value)} {kvs lvs : List (D × D)}, DA G B xs kvs → DA G B ys lvs → DA G B (xs ++ ys) (kvs ++ lvs)
  | _, _, _, _, .nil, s => s
  | _, _, _, _, .cons a b c d r, s => .cons a b c d (r.append s)
theorem opt_some_map {α β : Type} {f : α → β} {o : Option α} : (o.map f).isSome = o.isSome := by cases o <;> rfl
theorem DA.mapPut {G : Ct} {B : Hp} {k d : D} {nk : NestedKey} {kp : Addr} {v : V} {u : Value} (hv : R G B v d) (hu : RelV v u) : ∀ {xs : List (NestedKey × Addr × Value)} {kvs : List (D × D)}, DA G B xs kvs →
    DA G B (xs.map (putAt nk u)) (kvs.map fun p => if keyOk p.1 = some nk then (p.1, d) else p)
  | _, _, .nil => .nil
  | _, _, .cons (k := k') (nk := nk') h1 h2 h3 h4 r => by
    have ih := DA.mapPut (k := k) (kp := kp) hv hu (nk := nk) r
    simp only [List.map_cons]
    unfold putAt
    by_cases e : nk' = nk
    · subst e
      rw [if_pos rfl, if_pos h2]
      exact .cons h1 h2 hv hu ih
    · rw [if_neg e, if_neg (fun z => e (Option.some.inj (h2.symm.trans z)))]
      exact .cons h1 h2 h3 h4 ih
theorem DA.put {G : Ct} {B : Hp} {k d : D} {nk : NestedKey} {kp : Addr} {v : V} {u : Value} (hk : R G B (.ref kp) k) (ho : keyOk k = some nk) (hv : R G B v d) (hu : RelV v u) {xs : List (NestedKey × Addr × Value)} {kvs : List (D × D)} (r : DA G B xs kvs) :
    DA G B (storedH xs nk kp u) (dPut kvs k nk d) := by
  have hsome : (dLook kvs nk).isSome = (atKey xs nk).isSome := by
    have h1 := valueAt_pairsH xs nk
    have h2 : (valueAt (pairsH xs) nk).isSome = (atKey xs nk).isSome := by rw [h1]; exact opt_some_map
    rw [← h2]
    rcases r.look nk with ⟨a, b⟩ | ⟨_, _, _, a, b, _⟩ <;> rw [a, b] <;> rfl
  unfold storedH dPut
  rw [hsome]
  split
  · exact DA.mapPut (k := k) (kp := kp) hv hu r
  · exact r.append (.cons hk ho hv hu .nil)
/-- d[k] = v, d owned -/
def sDput (i : Nat) (fk f : FE) : SF := fun ρ => match ρ[i]? with
  | some (some (k, .dict kvs)) => if k = 1 ∧ kvs.length < 1000000 ∧ tupKeys kvs = true then withE (f ρ) ρ fun d => withE (fk ρ) ρ fun z => (match keyOk z with
      | some nk => .nx (ρ.set i (some (1, .dict (dPut kvs z nk d))))
      | none => .bad) else .bad
  | _ => .bad
theorem Own.dictRoot {G : Ct} {B H : Hp} {n : Nat} {v : V} {kvs : List (D × D)} {A : List Addr} (h : Own G B H (n + 1) v (.dict kvs) A) (ht : tupKeys kvs = true) : ∃ p xs, v = .ref p ∧ H p = some (.ext (RawK G.P G.w p xs)) ∧ (p == sysModules) = false ∧ B p = none ∧ DA G B xs kvs ∧ A = [p] := by
  rcases h with ⟨p, vs, ds', A', e1, e2, _⟩ | (⟨p, xs, kvs', e1, e2, h1, h2, h3, h4, h5⟩ | ⟨p, dx, i, vm, mm, A', e1, e2, _⟩) | ⟨p, vs, ds', A', e1, e2, _⟩ | ⟨h1, h2, e3⟩
  · cases e2
  · cases e2; exact ⟨p, xs, e1, h1, h2, h3, h4, h5⟩
  · unfold netD at e2
    cases e2
    cases ht
  · cases e2
  · cases h1
theorem dput_go {i : Nat} {x : Str} {e ek : Expr} {fk : FE} {px tpos pos : Pos} {pins : List (Addr × Obj)} {s : Shared} {σ : L2.St} {H B0 H0 : Hp} {ρ : Rho} {Dn : Ends} {kvs : List (D × D)} (hu : Hu X) (hk : PE X ek (tD (ct X C xc) W fk)) (hN : X.N[i]? = some x) (hv : Vis X.env.scope x)
    (hd : (x == ("__debug__" : Str)) = false) (hcd : (x == ("__classdict__" : Str)) = false) (hs : swapsWith e (some (.Subscript (.Name x px) ek tpos)) pos.line X.env = pure false) (q : ρ[i]? = some (some (1, .dict kvs))) (hz : kvs.length < 1000000) (ht : tupKeys kvs = true)
    (pe : wpAny (model X.prog X.w) X.A (eval e X.env) (EP X pins σ (fun v H1 => ∃ d B A, Ext B0 H0 B H1 ∧ ER (ct X C xc) B H1 σ ρ A ∧ A.Nodup ∧ (∀ a ∈ A, H0 a = none) ∧ R (ct X C xc) B v d ∧ Post (ct X C xc) W n B0 H0 Dn (withE (fk ρ) ρ fun z => (match keyOk z with
          | some nk => .nx (ρ.set i (some (1, .dict (dPut kvs z nk d))))
          | none => .bad)))) X.xe s) :
    wpAny (model X.prog X.w) X.A (exec (.Assign [.Subscript (.Name x px) ek tpos] e pos) X.env) (SP X pins Dn) X.xe s := by
      refine wpAny_Assign_Subscript (thn pe fun r s1 ⟨v, H1, I1, rv, d, B1, A1, x1, r1, nd1, fr1, hvd, p1⟩ => ?_) hs
      obtain ⟨vx, Ai, g1, g2, g3, g4, g5⟩ := r1.change nd1 q
      refine thn ((pe_var (pos := px) hN hv hd hcd).run pins s1 σ H1 (fun v' H' => v' = vx ∧ H' = H1) I1 ⟨vx, g1, rfl, rfl⟩) fun u s2 hh => ?_
      obtain ⟨vx', H1', I2, rx, ex, eH⟩ := hh
      rw [eH] at I2
      rw [ex] at rx
      have pk : tD (ct X C xc) W fk σ H1 (fun z H2 => ∃ dk B2, Ext B1 H1 B2 H2 ∧ R (ct X C xc) B2 z dk ∧ Post (ct X C xc) W n B0 H0 Dn (match keyOk dk with
          | some nk => .nx (ρ.set i (some (1, .dict (dPut kvs dk nk d))))
          | none => .bad)) := by
        refine ⟨B1, ρ, x1.w, ⟨A1, r1, nd1⟩, ?_⟩
        revert p1
        cases fk ρ with
        | ok dk => exact fun p1 v B2 H2 A2 x2 hv _ _ => ⟨dk, B2, x2, hv.1, p1⟩
        | ex c => exact fun p1 B2 H2 x2 => p1 σ H2 ⟨B2, A1, x1.trans x2, r1.ext x2, nd1, fr1⟩
        | bad => exact fun p1 => p1
      refine thn (hk.run pins s2 σ H1 _ I2 pk) fun iv s3 ⟨z, H2, I3, rz, dk, B2, x2, hzk, p2⟩ => ?_
      split at p2
      · rename_i nk hnk
        have r2 := r1.ext x2
        obtain ⟨vx2, Ai2, k1, k2, k3, k4, k5⟩ := r2.change nd1 q
        rw [g1] at k1
        cases k1
        obtain ⟨dp, xs, evx, hdp, hsys, hB2, hda, hAi⟩ := k2.dictRoot ht
        subst evx
        have eu : u = Value.ref dp := rx
        subst eu
        obtain ⟨kp, ekp⟩ := tup_ref hzk hnk
        subst ekp
        have eiv : iv = Value.ref kp := rz
        subst eiv
        have dof := dict_of I3 x2.w hdp hda
        have hp0 : H0 dp = none := fr1 dp (k4 dp (by rw [hAi]; exact List.mem_cons_self))
        have hxl : xs.length ≤ sizeLine := by rw [hda.len]; exact Nat.le_trans (Nat.le_of_lt hz) (by decide)
        refine wpAny_setItem_heap (hsz := hxl) (room_k hu) (keyD_is I3 x2.w hzk hnk) dof fun h' dd' hsb => ?_
        obtain ⟨o', es', ep', hq', hx', hd', he', _, hn'⟩ := id dd'
        have new : ObjOk X.prog X.w (upd H2 dp (.ext (RawK X.prog X.w dp (storedH xs nk kp r)))) h' dp (.ext (RawK X.prog X.w dp (storedH xs nk kp r))) :=
          ⟨⟨o', es', ep', hq', hx', hd', he', hn'⟩, ⟨o', hq'⟩, fun h1 h2 ⟨o, es, ep, q1, q2⟩ kk => ⟨o, es, ep, kk o q1, q2⟩⟩
        have I4 := d_write (t' := s3.toks + (nestedKind X.prog X.w).draws nk) I3 (by rw [hdp]; exact True.intro) hsb ⟨o', hq'⟩ new
        refine ⟨σ, _, I4, p2 σ _ (changed ((x1.trans x2).mut hp0 hB2) fr1 k4 (fun a ha => fr1 a (k4 a ha)) (d := .dict kvs) (k5 (upd H2 dp (.ext (RawK X.prog X.w dp (storedH xs nk kp r)))) (.dict (dPut kvs dk nk d)) Ai2 (fun a ha ha' => upd_ne fun e => ha' (by rw [e, hAi]; exact List.mem_cons_self)) ?_ k3 fun a ha => .inl ha))⟩
        exact .inr (.inl (.inl ⟨dp, _, _, rfl, rfl, upd_same, hsys, hB2, DA.put hzk hnk (hvd.mono x2.b) rv hda, hAi⟩))
      · exact p2.elim
theorem ds_dput {i : Nat} {x : Str} {e ek : Expr} {f fk : FE} {px tpos pos : Pos} (hu : Hu X) (hk : PE X ek (tD (ct X C xc) W fk)) (he : PE X e (tD (ct X C xc) W f)) (hN : X.N[i]? = some x := by rfl) (hv : Vis X.env.scope x := by first | exact Or.inl rfl | exact Or.inr (Or.inl rfl) | exact Or.inr (Or.inr rfl))
    (hd : (x == ("__debug__" : Str)) = false := by decide) (hcd : (x == ("__classdict__" : Str)) = false := by decide) (hs : swapsWith e (some (.Subscript (.Name x px) ek tpos)) pos.line X.env = pure false := by rfl) :
    PS X (.Assign [.Subscript (.Name x px) ek tpos] e pos) (tDS (ct X C xc) W n (sDput i fk f)) := by
  refine ⟨fun pins s σ H Dn I ⟨B0, H0, ρ, st, p⟩ => ?_⟩
  unfold sDput at p
  split at p
  · rename_i k kvs q
    split at p
    · rename_i hk'
      obtain ⟨rfl, hz, ht⟩ := hk'
      exact dput_go (H := H) hu hk hN hv hd hcd hs q hz ht (he.run pins s σ H _ I (seqS (m := 0) st p fun d v B H1 A Av q x1 r1 nd1 fr1 hu _ _ _ p1 => ⟨d, B, A, x1, r1, nd1, fr1, hu.1, p1⟩))
    · exact p.elim
  · exact p.elim
/-- .. a number stored, all names read -/
def sDputB (i : Nat) (fk f : FE) : SF := fun ρ => match ρ[i]? with
  | some (some (k, .dict kvs)) => if k = 1 ∧ kvs.length < 1000000 ∧ tupKeys kvs = true then withE (f (frz ρ)) ρ fun d => if scalD d = true then withE (fk ρ) ρ fun z => (match keyOk z with
      | some nk => .nx (ρ.set i (some (1, .dict (dPut kvs z nk d))))
      | none => .bad) else .bad else .bad
  | _ => .bad
theorem ds_dputB {i : Nat} {x : Str} {e ek : Expr} {f fk : FE} {px tpos pos : Pos} (hu : Hu X) (hk : PE X ek (tD (ct X C xc) W fk)) (he : PE X e (tD (ct X C xc) W f)) (hN : X.N[i]? = some x := by rfl) (hv : Vis X.env.scope x := by first | exact Or.inl rfl | exact Or.inr (Or.inl rfl) | exact Or.inr (Or.inr rfl))
    (hd : (x == ("__debug__" : Str)) = false := by decide) (hcd : (x == ("__classdict__" : Str)) = false := by decide) (hs : swapsWith e (some (.Subscript (.Name x px) ek tpos)) pos.line X.env = pure false := by rfl) :
    PS X (.Assign [.Subscript (.Name x px) ek tpos] e pos) (tDS (ct X C xc) W n (sDputB i fk f)) := by
  refine ⟨fun pins s σ H Dn I ⟨B0, H0, ρ, st, p⟩ => ?_⟩
  unfold sDputB at p
  split at p
  · rename_i k kvs q
    split at p
    · rename_i hk'
      obtain ⟨rfl, hz, ht⟩ := hk'
      refine dput_go (H := H) (n := n) (B0 := B0) (H0 := H0) hu hk hN hv hd hcd hs q hz ht (he.run pins s σ H _ I (seqF (m := 0) st p fun d v B H1 Av q x1 hv1 _ _ st1 p1 => ?_))
      split at p1
      · rename_i hsc
        obtain ⟨B2, A2, x2, r2, nd2, fr2⟩ := st1
        exact ⟨d, B2, A2, x2, r2, nd2, fr2, hv1.1.scal hsc, p1⟩
      · exact p1.elim
    · exact p.elim
  · exact p.elim
/-- d.get(k, x) -/
def dGet (kvs : List (D × D)) (k x : D) : O := match keyOk k with
  | some nk => .ok ((dLook kvs nk).getD x)
  | none => .bad
def fGet (f : FE) (fs : List FE) : FE := fun ρ => (f ρ).bind fun d => (match d with
  | .dict kvs => if tupKeys kvs = true then (match evA fs ρ with
    | .ok [k, x] => dGet kvs k x
    | _ => .bad) else .bad
  | _ => .bad)
theorem de_get {o e1 e2 : Expr} {apos cpos : Pos} {f : FE} {fs : List FE} (hu : Hu X) (ho : PE X o (tD (ct X C xc) W f)) (ha : PA X [e1, e2] (tDA (ct X C xc) W fs)) (hbase : attributeBase o "get" X.env (eval o X.env) = eval o X.env := by rfl)
    (hfew : ((backTo cpos (starEach [e1, e2] X.env)).all (fun x => !x.1) && (backToKw cpos (keywordEach [] X.env)).all (fun x => x.1.isSome)
      && decide ([e1, e2].length + ([] : List Keyword).length + (if ([] : List Keyword).isEmpty then 0 else 1) < 30)) = true := by rfl)
    (hline : (apos.endLine == cpos.line) = true := by rfl) (hs : starEach [e1, e2] X.env = (false, eval e1 X.env) :: starEach [e2] X.env := by rfl) (hplain : (backTo cpos (starEach [e2] X.env)).any (·.1) = false := by rfl) :
    PE X (.Call (.Attribute o "get" apos) [e1, e2] [] cpos) (tD (ct X C xc) W (fGet f fs)) := by
  refine ⟨fun pins s σ H Q I ⟨B, ρ, e, env, p⟩ => ?_⟩
  have po : tD (ct X C xc) W f σ H (fun v H1 => ∃ B1 kvs, Ext B H B1 H1 ∧ R (ct X C xc) B1 v (.dict kvs) ∧ tupKeys kvs = true ∧ PostE (ct X C xc) W σ 0 B1 H1 Q (match evA fs ρ with
      | .ok [k, x] => dGet kvs k x
      | _ => .bad)) := seqE (m := 0) e env p fun d v B1 H1 A q x hv _ _ p1 => by
    split at p1
    · split at p1
      · rename_i ht
        exact ⟨B1, _, x, hv.1, ht, p1⟩
      · exact p1.elim
    · exact p1.elim
  refine wpAny_Call_method_late hbase hfew hline rfl (thn (ho.run pins s σ H _ I po) fun v s1 ⟨x, H1, I1, r1, B1, kvs, x1, hvd, ht, p1⟩ => ?_)
  obtain ⟨a, xs, rfl, hd, hsys, hda⟩ := hvd.dic_inv (tupKeys_all ht)
  have ev : v = Value.ref a := r1
  subst ev
  have dof := dict_of I1 x1.w (x1.w _ _ hd) hda
  obtain ⟨o', es, ep, ho', hx', _⟩ := id dof
  refine ⟨"dict", _, PySem.F.plainAttrs_dict, PySem.F.slot_dict_get, PySem.F.type_dict_get, dof.typeIs, fun b eb => ?_, ?_⟩
  · cases eb
    exact ⟨o', ho', hx'.2.1⟩
  have hA := ha.run cpos pins s1 σ H1 (fun vs H2 => ∃ B2 k x, Ext B1 H1 B2 H2 ∧ RA (ct X C xc) B2 vs [k, x] ∧ PostE (ct X C xc) W σ 0 B2 H2 Q (dGet kvs k x)) I1 ?_
  rw [hs] at hA ⊢
  refine Calls.callWith_builtin (by show (false || (backTo cpos (starEach [e2] X.env)).any (·.1)) = false; rw [hplain] <;> rfl) (Calls.evalArgs_plain ?_)
  refine thn hA fun us s2 ⟨vs, H2, I2, rv, B2, k, x, x2, rvs, p2⟩ => ?_
  rotate_left
  · refine ⟨B1, ρ, x1.w, env.ext x1, ?_⟩
    revert p1
    cases hA : evA fs ρ with
    | ok ds =>
      intro p1 vs B2 H2 x2 r2
      match ds, p1, r2 with
      | [k, x], p1, r2 => exact ⟨B2, k, x, x2, r2, PostE.ext (G := ct X C xc) p1 x2⟩
      | [], p1, _ => exact p1.elim
      | [_], p1, _ => exact p1.elim
      | _ :: _ :: _ :: _, p1, _ => exact p1.elim
    | ex c => exact fun p1 => p1.elim
    | bad => exact fun p1 => p1
  · obtain ⟨kv, xv, rfl, rk, rx⟩ := rvs.two
    unfold dGet at p2
    split at p2
    · rename_i nk hk
      obtain ⟨kp, rfl⟩ := tup_ref rk hk
      obtain ⟨u1, u2, rfl, ru1, ru2⟩ := vals2 rv
      have e1 : u1 = Value.ref kp := ru1
      subst e1
      have hda2 := hda.mono x2.b
      have dk := keyed_of I2 x2.w (x2.h _ _ (x1.w _ _ hd)) hda2
      refine getOr_keyed (knd := nestedKind X.prog X.w) (room_k hu) (keyD_is I2 x2.w rk hk) hsys dk ?_
      rcases hda2.look nk with ⟨h1, h2⟩ | ⟨d', u, v', h1, h2, h3, h4⟩
      · rw [h1] at p2
        rw [h2]
        exact ⟨xv, H2, I2.tok _, ru2, fin0 p2 (.refl x2.w) rx⟩
      · rw [h1] at p2
        rw [h2]
        exact ⟨v', H2, I2.tok _, h4, fin0 p2 (.refl x2.w) h3⟩
    · exact p2.elim
end
end M

/-! MMore2: more statements. -/
namespace M
open PySem PySem.Spec L2 PyProof.Rows Evl
section
variable {X : Cx} {C : Addr} {xc : Nat → Addr} {W : WX} {n m : Nat}
/-- [] as the start of an owned tree of any depth -/
theorem de_nil {pos : Pos} : PE X (.List [] pos) (tDO (ct X C xc) W (m + 1) (fC (.list []))) := weak (pe_lst pa_nil) fun σ H Q ⟨B, ρ, e, env, p⟩ =>
  ⟨by show 0 ≤ sizeLine; exact Nat.zero_le _, fun q hq => fin p (.own e hq) (.inl ⟨q, [], [], [], rfl, rfl, upd_same, Nat.zero_le _, Ex.back e hq, .nil, rfl⟩) nd1 (fr1 hq)⟩
/-- for x in an owned list, whose body is if ..: return .. -/
def scanF (j : Nat) (fc : FE) (Fr : SF) : List PyData → Rho → Out
  | [], ρ => .nx ρ
  | d :: ds, ρ => if j < ρ.length then withE (fc (frz (ρ.set j (some (0, d))))) (ρ.set j (some (0, d))) fun b => (match b with
      | .bool true => (match Fr (ρ.set j (some (0, d))) with
        | .ret d => .ret d
        | .ex c ρ2 => .ex c ρ2
        | _ => .bad)
      | .bool false => scanF j fc Fr ds (ρ.set j (some (0, d)))
      | _ => .bad) else .bad
def sScan (i j : Nat) (fc : FE) (Fr : SF) : SF := fun ρ => if i = j then .bad else match ρ[i]? with
  | some (some (1, .list ds)) => scanF j fc Fr ds ρ
  | _ => .bad
theorem ds_scan {i j : Nat} {xi xj : Str} {c : Expr} {rs : List Stmt} {fc : FE} {Fr : SF} {pi pj pos pos2 : Pos} (hp : PassesOwn (model X.prog X.w) X.A X.env X.xe) (hc : X.calm = true) (nd : X.N.Nodup) (ht : PT X c (tV (ct X C xc) W fc)) (hr : PSs X rs (tDS (ct X C xc) W n Fr))
    (hNi : X.N[i]? = some xi := by rfl) (hv : Vis X.env.scope xi := by first | exact Or.inl rfl | exact Or.inr (Or.inl rfl) | exact Or.inr (Or.inr rfl)) (hd : (xi == ("__debug__" : Str)) = false := by decide) (hcd : (xi == ("__classdict__" : Str)) = false := by decide)
    (hNj : X.N[j]? = some xj := by rfl) (hx : Loc X.env.scope xj := by first | exact Or.inl rfl | exact Or.inr rfl) (hf : X.fn xj = true ∨ X.env.scope.names.lookup xj = some .local := by first | exact .inl rfl | exact .inr rfl | assumption)
    (hs : ∀ x, foldedSetIterable (.Name xi pi) X.env x = pure x := by intro _; rfl) :
    PS X (.For (.Name xj pj) (.Name xi pi) [.If c rs [] pos2] [] pos) (tDS (ct X C xc) W n (sScan i j fc Fr)) :=
  weakS (ps_for hp hc (pi_list (pe_var hNi hv hd hcd)) (pg_name nd hNj hx hf) (pss_one (ps_if (t_of_v ht) hr pss_nil)) hs) fun D σ H ⟨B0, H0, ρ, ⟨B, A, x, r, nd, fr⟩, p⟩ => by
    unfold sScan at p
    split at p
    · exact p.elim
    · rename_i hij
      split at p
      · rename_i ds q
        obtain ⟨v, Ai, g1, g2, g3, g4, g5⟩ := r.change nd q
        obtain ⟨a, vs, A', rfl, h1, hz, h2, h3, hAi⟩ := g2.root
        obtain ⟨rvs, _⟩ := h3.to_RA
        refine ⟨.ref a, g1, a, rfl, ⟨vs, SqL.of h1⟩, ?_⟩
        refine for_list (xs := vs) (fun k σ' H' => ∃ ρ' A', Ex H H' ∧ ER (ct X C xc) B H' σ' ρ' A' ∧ A'.Nodup ∧ (∀ a ∈ A', H0 a = none) ∧ Post (ct X C xc) W n B0 H0 D (scanF j fc Fr (ds.drop k) ρ')) ⟨ρ, A, Ex.refl _, r, nd, fr, p⟩
          (fun k σ' H' _ ⟨_, _, e', _⟩ => SqL.of (e' _ _ h1)) ?_ ?_
        · rintro k vk σ' H' hk ⟨ρ', A', e', r', nd', fr', p'⟩
          obtain ⟨d, hd, rd⟩ := rvs.getV hk
          have hlt : k < ds.length := (List.getElem?_eq_some_iff.mp hd).1
          have hde : ds[k] = d := (List.getElem?_eq_some_iff.mp hd).2
          rw [List.drop_eq_getElem_cons hlt, hde] at p'
          simp only [scanF] at p'
          split at p'
          · rename_i hj
            obtain ⟨A2, s1, s2, s3⟩ := ER.set (n := 0) (Av := []) ⟨rd, rfl⟩ j r' hj nd' List.nodup_nil (fun _ z => nomatch z)
            have fr2 : ∀ a ∈ A2, H0 a = none := fun a ha => (s3 a ha).elim (fun z => nomatch z) (fr' a)
            have x' : Ext B0 H0 B H' := x.trans (.heap x.w e')
            show (tIfS _ _ _) _ _ _
            refine ⟨B, ρ'.set j (some (0, d)), x'.w, ⟨A2, s1, s2⟩, ?_⟩
            revert p'
            cases fc (frz (ρ'.set j (some (0, d)))) with
            | ok b =>
              intro p'
              cases b with
              | bool b =>
                intro H2 e2
                have s1' := s1.ext (.heap x'.w e2)
                cases b with
                | true =>
                  refine ⟨B0, H0, ρ'.set j (some (0, d)), ⟨B, A2, x'.trans (.heap x'.w e2), s1', s2, fr2⟩, ?_⟩
                  revert p'
                  dsimp only [withE]
                  cases Fr (ρ'.set j (some (0, d))) with
                  | nx ρ2 => exact fun p' => p'.elim
                  | ret d => exact fun p' => p'
                  | brk ρ2 => exact fun p' => p'.elim
                  | ct ρ2 => exact fun p' => p'.elim
                  | ex c ρ2 => exact fun p' => p'
                  | bad => exact fun p' => p'
                | false => exact ⟨_, A2, e'.trans e2, s1', s2, fr2, p'⟩
              | _ => exact p'.elim
            | ex c => exact fun p' B1 H1 x1 => p' _ H1 ⟨B, A2, x'.trans (.heap x'.w x1.h), s1.ext (.heap x'.w x1.h), s2, fr2⟩
            | bad => exact fun p' => p'.elim
          · exact p'.elim
        · rintro σ' H' ⟨ρ', A', e', r', nd', fr', p'⟩
          rw [rvs.length, List.drop_length] at p'
          exact p' σ' H' ⟨B, A', x.trans (.heap x.w e'), r', nd', fr'⟩
      · exact p.elim
end
end M

/-! MSort: sorted of a tuple. -/
namespace M
open PySem PySem.Spec PySem.Calls L2 PyProof.Rows Evl
section
variable {pr : Program} {wd : World} {Ar : Around} {Ex0 : Value → Shared → Prop} {st : Shared}
/-- a tuple's items taken out -/
theorem collectT {t : Addr} {xs : List Value} {Q : List Value → Shared → Prop} (ht : st.heap.IsTuple t xs.toArray)
    (hq : Q xs { st with heap := (st.heap.push (seqObj "list" #[] 0)).update st.heap.objs.size (Obj.mapSeq (· ++ xs.toArray)) }) (hz : xs.length ≤ sizeLine) : wpAny (model pr wd) Ar (collect (.ref t)) Q Ex0 st := by
  obtain ⟨ob, e1, e2, k, e3⟩ := id ht
  have e4 : (st.heap.push (seqObj "list" #[] 0)).get? t = some ob := Heap.get?_push_of_some _ e1
  have hst : (st.heap.push (seqObj "list" #[] 0)).get? st.heap.objs.size = some (seqObj "list" #[] 0) := Heap.get?_push_size _ rfl
  have tt : (Value.type "tuple" == Value.type "tuple") = true := by rfl
  unfold collect
  refine wpAny_bind <| wpAny_runValue <| codeAny_builtin entry_proto_collect' ?_
  · show wpAny _ _ (do again (.builtin "list.__iadd__" ⟨[← newList [], .ref t], []⟩)) _ _ st
    refine wpAny_bind <| wpAny_newList <| wpAny_pure ⟨Code.quiet_builtin _ (by decide +kernel), codeAny_builtin entry_list_iadd' ?_⟩
    · show wpAny _ _ (Builtin.List.listExtendWith (.ref st.heap.objs.size) (.ref t) (.ref st.heap.objs.size)) _ _ { st with heap := st.heap.push (seqObj "list" #[] 0) }
      unfold Builtin.List.listExtendWith
      refine wpAny_bind (wpAny_typeOf (T := "tuple") ⟨ob, e4, e2⟩ ?_)
      rw [if_pos (by rw [tt, Bool.or_true])]
      refine wpAny_bind (listItems_at e4 e3 (wpAny_bind (listItems_at (xs := #[]) (n := 0) hst rfl ?_)))
      rw [if_neg (by simp)]
      have hz2 : (#[] ++ xs.toArray).size ≤ sizeLine + 1 := by
        simp only [Array.size_append, List.size_toArray, List.length_nil]
        omega
      refine wpAny_bind (listUpdate_at (xs := #[]) (n := 0) hst rfl (wpAny_pure ?_) (Nat.zero_le _) hz2)
      show wpAny (model pr wd) Ar (do
          let ob ← load st.heap.objs.size
          match ob.data with
          | .seq ys _ => pure ys.toList
          | _ => unsupported "internal:collect") Q Ex0 { st with heap := (st.heap.push (seqObj "list" #[] 0)).update st.heap.objs.size (Obj.mapSeq (· ++ xs.toArray)) }
      refine wpAny_bind (wpAny_load (get?_update_seq hst _) ?_)
      have el : ((#[] : Array Value) ++ xs.toArray).toList = xs := by simp
      show wpAny _ _ (pure ((#[] : Array Value) ++ xs.toArray).toList) Q Ex0 _
      rw [el]
      exact wpAny_pure hq
/-- sorted of a tuple -/
theorem sortedT {β : Type} {enc : β → PyData} {Rl : Value → β → Prop} {t : Addr} {xs : List Value} {bs : List β} {Q : Value → Shared → Prop} (ht : st.heap.IsTuple t xs.toArray) (e : PySem.W.EachIs Rl xs bs) (er : PySem.W.EachIs (fun v b => ∃ as, Reads st.heap v (enc b) as) xs bs)
    (hal : PySem.W.AllAlike (bs.map enc)) (hk : PySem.W.Sortable (bs.map enc)) (hL : bs.length ≤ sizeLine) (hu : ∀ b, b ∈ bs → Ar.units + 2 + (enc b).depth < cLine)
    (hq : ∀ out, out.length = bs.length → PySem.W.EachIs Rl out (bs.mergeSort (PySem.W.dataLe false enc)) → Q (.ref (st.heap.objs.size + 1)) { st with heap := sortedAll st.heap xs (List.toArray out) }) :
    wpAny (model pr wd) Ar (call (.builtin "sorted") [.ref t]) Q Ex0 st := by
  have hxl : xs.length ≤ sizeLine := by rw [e.length]; exact hL
  refine call_function_entry_kw kind_sorted plain_sorted entry_sorted (args_sorted1 _) ?_
  unfold Builtin.«sorted»
  refine wpAny_bind (m := checkCount "sorted" 1 1 _) <| wpAny_pure <| wpAny_bind <| collectT ht ?_ hxl
  refine wpAny_bind <| wpAny_newList ?_ hxl
  have hsz : ((st.heap.push (seqObj "list" #[] 0)).update st.heap.objs.size (Obj.mapSeq (· ++ xs.toArray))).objs.size = st.heap.objs.size + 1 := by rw [Heap.size_update, size_push']
  show wpAny _ _ _ _ _ { st with heap := PySem.W.copyHeap st.heap xs }
  rw [hsz]
  have er' : PySem.W.EachIs (fun v b => ∃ as, Reads (PySem.W.sortingHeap (PySem.W.copyHeap st.heap xs) (st.heap.objs.size + 1) xs) v (enc b) as) xs bs := er.mono fun _ _ ⟨as, r⟩ => ⟨as, PyProof.Rows.Reads.keeps (fun _ _ => PySem.W.sorting_copy_old) r⟩
  have hs := PySem.W.SortsAt.data (prog := pr) (w := wd) (A := Ar.in1.in1) (s := { st with heap := PySem.W.sortingHeap (PySem.W.copyHeap st.heap xs) (st.heap.objs.size + 1) xs })
    (PySem.W.each_map (R := fun v d => ∃ as, Reads (PySem.W.sortingHeap (PySem.W.copyHeap st.heap xs) (st.heap.objs.size + 1) xs) v d as) enc er') hal hk (PySem.W.bound_map hu)
  refine wpAny_bind <| wpAny_holding <| wpAny_call_entry_kw slot_list_sort ⟨_, PySem.W.copyHeap_at st.heap xs, rfl⟩ entry_list_sort ?_ (args_list_sort _)
  show wpAny (model pr wd) Ar.in1.in1 (Builtin.«list.sort» ⟨[.ref (st.heap.objs.size + 1)], []⟩) _ _ _
  exact PySem.W.list_sort_vals (s := { st with heap := PySem.W.copyHeap st.heap xs }) (PySem.W.copyHeap_at st.heap xs) hs hxl
    ⟨_, rfl, wpAny_pure ⟨_, rfl, hq _ (by rw [PySem.W.sortVals_length false rfl]; exact e.length) (PySem.W.sortVals_data false e er' hal)⟩⟩
end
def dSortedT : D → O
  | .tuple ds => if sortOk ds = true ∧ ds.length ≤ 1000 then .ok (.list (ds.mergeSort (PySem.W.dataLe false fun x => x))) else .bad
  | _ => .bad
theorem calm_dSortedT : Calm1 (d1 dSortedT) := fun ds c h => by
  unfold d1 dSortedT at h
  split at h
  · split at h
    · split at h <;> cases h
    · cases h
  · cases h
section
variable {X : Cx} {C : Addr} {xc : Nat → Addr} {W : WX} {n : Nat}
theorem cd_sortedT (hu : Hu X) : CallR X (.builtin "sorted") (cD (ct X C xc) 1 (d1 dSortedT)) := by
  intro pins s σ H vs us Q I rv ⟨B, ds, e, r, p⟩
  unfold d1 at p
  split at p
  · rename_i d
    obtain ⟨v, rfl, r1⟩ := r.one
    unfold dSortedT at p
    split at p
    · rename_i ds
      split at p
      · rename_i hz
        obtain ⟨hs, hlen⟩ := hz
        obtain ⟨a, ws, rfl, h, q⟩ := r1.tup_inv
        obtain ⟨its, rw', hl, hz'⟩ := I.tuple (ex_t e h)
        rw [Vals.ref1 rv]
        have hwl : ws.length = ds.length := q.length
        have hok : ∀ d ∈ ds, okD d = true := by
          unfold sortOk at hs
          simp only [Bool.and_eq_true, List.all_eq_true] at hs
          exact hs.1.2
        have hal : PySem.W.AllAlike ((ws.zip ds).map (·.2)) := by
          rw [zip_snd hwl]
          unfold sortOk at hs
          simp only [Bool.and_eq_true, List.all_eq_true] at hs
          exact hs.1.1
        have hso : PySem.W.Sortable ((ws.zip ds).map (·.2)) := by
          rw [zip_snd hwl]
          unfold sortOk at hs
          simp only [Bool.and_eq_true, Bool.or_eq_true, List.all_eq_true] at hs
          rcases hs.2 with h1 | h1
          · refine .inl fun d hd => ?_
            have := h1 d hd
            unfold tupNE at this
            split at this
            · exact ⟨_, _, rfl⟩
            · cases this
          · refine .inr fun d hd => ?_
            have := h1 d hd
            cases d with
            | int i => exact ⟨(fun z => nomatch z), fun xs z => nomatch z⟩
            | _ => cases this
        have rd : ∀ v u d, RelV v u → (v, d) ∈ ws.zip ds → ∃ as, Reads s.heap u d as := fun v u d r' hm =>
          Dp.reads I d v u (((q.zip_mem hm).mono e).dp (plain_ok (hok d (List.of_mem_zip hm).2))) r'
        refine sortedT (Rl := fun u (p : V × D) => RelV p.1 u) (enc := fun p : V × D => p.2) (bs := ws.zip ds) hl (each_zip rw' hwl fun v u d r' _ => r') (each_zip rw' hwl rd) hal hso (by rw [zip_length hwl]; exact Nat.le_trans hlen (by decide)) (fun b hb => ?_) fun out ho he => ?_
        · have h1 := SeqAt.depth_of_shaped (hok b.2 (List.of_mem_zip (a := b.1) (b := b.2) hb).2)
          omega
        · obtain ⟨ep, he'⟩ := PyProof.Rows.sortedAll_at s.heap its out.toArray
          have hmap : ((ws.zip ds).mergeSort (PySem.W.dataLe false fun p => p.2)).map (·.2) = ds.mergeSort (PySem.W.dataLe false fun x => x) := by
            have hm := List.map_mergeSort (r := PySem.W.dataLe false fun p : V × D => p.2) (s := PySem.W.dataLe false fun x => x) (f := fun p : V × D => p.2) (l := ws.zip ds) (fun _ _ _ _ => rfl)
            rw [hm, zip_snd hwl]
          have hra : RA (ct X C xc) B (((ws.zip ds).mergeSort (PySem.W.dataLe false fun p => p.2)).map (·.1)) (ds.mergeSort (PySem.W.dataLe false fun x => x)) := by
            rw [← hmap]
            exact RA.of_pairs fun p hp => q.zip_mem ((List.mergeSort_perm _ _).mem_iff.mp hp)
          have hlen2 : (((ws.zip ds).mergeSort (PySem.W.dataLe false fun p => p.2)).map (·.1)).length ≤ sizeLine := by
            rw [List.length_map, List.length_mergeSort, zip_length hwl]
            exact Nat.le_trans hlen (by decide)
          have hfree : H (s.heap.objs.size + 1) = none := I.hok.fresh (Nat.le_succ _)
          exact ⟨.ref _, upd H (s.heap.objs.size + 1) (.lst _), I.laid (t' := s.toks) (fun _ _ => PyProof.Rows.sortedAll_old) (Nat.le_succ _) ⟨hlen2, out, ep, vals_of_each he, he'⟩, rfl, fin1 p e hfree hlen2 hra⟩
      · exact p.elim
    · exact p.elim
  · exact p.elim
end
end M

/-! MMore3: len(set(..)); lists emptied, shortened. -/
namespace M
open PySem PySem.Spec L2 PyProof.Rows Evl
/-! ### len(set(xs)), whole numbers -/
def dLenSet : D → O
  | .list ds => (match asInts ds with
    | some ns => if ns.length ≤ 4000 then .ok (.int (firstMet (fun i => ns.getD i 0) ns.length).length) else .bad
    | none => .bad)
  | _ => .bad
section
variable {X : Cx} {C : Addr} {xc : Nat → Addr} {W : WX} {n m : Nat}
theorem de_lenset {a : Expr} {f : FE} {p p2 q pos : Pos} (hc : X.calm = true) (hm : X.mg "len" = none) (hm2 : X.mg "set" = none) (ha : PE X a (tD (ct X C xc) W f)) (hg : Gl X "len" := by rfl) (hg2 : Gl X "set" := by rfl)
    (na : starEach [a] X.env = (false, eval a X.env) :: starEach [] X.env := by rfl) : PE X (.Call (.Name "len" p) [.Call (.Name "set" p2) [a] [] q] [] pos) (tD (ct X C xc) W (fUn dLenSet f)) := by
  refine ⟨fun pins s σ H Q I ⟨B, ρ, e, env, h⟩ => ?_⟩
  have hE := ha.run pins s σ H _ I (seqE (m := 0) e env h fun d v B1 H1 A q x hv _ _ p1 => (⟨d, B1, x, hv.1, p1⟩ : ∃ d B1, Ext B H B1 H1 ∧ R (ct X C xc) B1 v d ∧ PostE (ct X C xc) W σ 0 B1 H1 Q (dLenSet d)))
  refine Call_ (ld_blt I hg hm boot_len <| callWith_builtin1 (args_cons (Call_ (ld_blt I hg2 hm2 boot_set <| callWith_type1 (args_cons (thn hE fun v s1 ⟨x, H1, I1, r1, d, B1, x1, rd, p1⟩ => args_nil ?_) na) na rfl)) rfl) rfl rfl)
  unfold dLenSet at p1
  split at p1
  · split at p1
    · rename_i ns hn
      split at p1
      · rename_i hl
        obtain ⟨l, ws, rfl, h1, q1⟩ := rd.list_inv
        have ew := q1.ints hn
        subst ew
        cases r1
        obtain ⟨its, r, pl, hz⟩ := I1.list (SqL.of (K := X.K) (x1.w _ _ h1))
        have hlen : its.toArray.size = ns.length := by rw [List.size_toArray, ← r.length, List.length_map]
        refine call_set_list (I1.ok.hd hc) pl.isList (by simpa using RZ.intsAre_vals r) (by rw [hlen]; unfold scanBound; omega) fun h' tk hS hk => args_nil ?_
        have hfl : (firstMet (fun i => ns.getD i 0) ns.length).length ≤ ns.length := firstMet_length_le _ _
        rw [hlen] at hS
        obtain ⟨o, es, ep, t, ho, hex, hd, _, _, _, hf, hn2⟩ := hS
        have I2 : Inv X pins σ H1 { s1 with heap := h', toks := tk } := I1.kept fun b o e => hk b o (Heap.lt_size e) e
        exact call_len_set ho hex hd hf (by rw [hn2] <;> omega) ⟨.int _, H1, I2.tok _, ⟨_, rfl⟩, by rw [hn2]; exact fin0 p1 (.refl x1.w) (.int _)⟩
      · exact p1.elim
    · exact p1.elim
  · exact p1.elim
/-! ### x.clear(), x.pop() -/
def sClear (i m : Nat) : SF := fun ρ => match ρ[i]? with
  | some (some (k, .list ds)) => if k = m + 1 then .nx (ρ.set i (some (m + 1, .list []))) else .bad
  | _ => .bad
def sPop (i m : Nat) : SF := fun ρ => match ρ[i]? with
  | some (some (k, .list ds)) => if k = m + 1 ∧ ds ≠ [] then .nx (ρ.set i (some (m + 1, .list ds.dropLast))) else .bad
  | _ => .bad
theorem OA.dropLast {Pr : V → PyData → List Addr → Prop} : ∀ {vs : List V} {ds : List PyData} {A : List Addr}, OA Pr vs ds A → ∃ A', OA Pr vs.dropLast ds.dropLast A' ∧ A'.Sublist A
  | _, _, _, .nil => ⟨[], .nil, List.Sublist.refl _⟩
  | _, _, _, .cons (A1 := A1) (A2 := A2) h r => by
    obtain ⟨A', r', sb⟩ := r.dropLast
    cases r with
    | nil => exact ⟨[], .nil, List.nil_sublist _⟩
    | cons h2 r2 => exact ⟨A1 ++ A', .cons h r', (List.append_sublist_append_left A1).mpr sb⟩
theorem Own.cut {G : Ct} {B H : Hp} {v : V} {ds ds' : List PyData} {vs vs' : List V} {p : Addr} {A A' A2 : List Addr} (h1 : v = .ref p) (hp : H p = some (.lst vs)) (hz : vs'.length ≤ sizeLine) (hb : B p = none) (hA : A = p :: A') (nd : A.Nodup) (r : OA (Own G B H n) vs' ds' A2) (sb : A2.Sublist A') :
    Own G B (upd H p (.lst vs')) (n + 1) v (.list ds') (p :: A2) ∧ (p :: A2).Nodup ∧ ∀ a ∈ p :: A2, a ∈ A := by
  subst hA
  obtain ⟨n1, n2⟩ := List.nodup_cons.mp nd
  refine ⟨.inl ⟨p, vs', ds', A2, h1, rfl, upd_same, hz, hb, r.imp fun u x A3 hs q => q.keepU fun z => n1 (sb.subset (hs p z)), rfl⟩, List.nodup_cons.mpr ⟨fun z => n1 (sb.subset z), n2.sublist sb⟩, fun a ha => ?_⟩
  rcases List.mem_cons.mp ha with rfl | ha
  · exact List.mem_cons_self
  · exact List.mem_cons_of_mem _ (sb.subset ha)
theorem ds_clear {i : Nat} {x : Str} {p apos cpos pos : Pos} (hN : X.N[i]? = some x := by rfl) (hv : Vis X.env.scope x := by first | exact Or.inl rfl | exact Or.inr (Or.inl rfl) | exact Or.inr (Or.inr rfl))
    (hd : (x == ("__debug__" : Str)) = false := by decide) (hcd : (x == ("__classdict__" : Str)) = false := by decide) (hs : swapsWith (.Call (.Attribute (.Name x p) "clear" apos) [] [] cpos) none pos.line X.env = pure false := by rfl)
    (hbase : attributeBase (.Name x p) "clear" X.env (eval (.Name x p) X.env) = eval (.Name x p) X.env := by rfl) (hline : (apos.endLine == cpos.line) = true := by rfl) :
    PS X (.Expr (.Call (.Attribute (.Name x p) "clear" apos) [] [] cpos) pos) (tDS (ct X C xc) W n (sClear i m)) :=
  weakS (ps_expr (pe_bm0 PySem.F.plainAttrs_list PySem.F.slot_list_clear PySem.F.type_list_clear mt_clear (pe_var hN hv hd hcd) hbase hline) hs) fun D σ H ⟨B0, H0, ρ, st, p⟩ => by
    unfold sClear at p
    split at p
    · rename_i k ds q
      split at p
      · rename_i hk
        subst hk
        obtain ⟨B, A, x, r, nd, fr⟩ := id st
        obtain ⟨v, Ai, h1, h2, h3, h4, h5⟩ := r.change nd q
        obtain ⟨pp, vs, A', ev, hp, hz, hb, ra, hA⟩ := h2.root
        refine ⟨v, h1, ?_, ?_⟩
        · rw [ev]; exact .inl ⟨rfl, vs, SqL.of hp⟩
        refine ⟨pp, vs, ev, rfl, hp, ?_⟩
        obtain ⟨k1, k2, k3⟩ := Own.cut (G := ct X C xc) (B := B) (ds := ds) (ds' := []) (A2 := []) ev hp (Nat.zero_le _) hb hA h3 .nil (List.nil_sublist _)
        have hpA : pp ∈ Ai := by rw [hA]; exact List.mem_cons_self
        exact p σ _ (changed (x.mut (fr pp (h4 pp hpA)) hb) fr h4 (fun a ha => fr a (h4 a (k3 a ha))) (d := .list ds) (h5 _ _ _ (fun a ha ha' => upd_ne fun e => ha' (e ▸ hpA)) k1 k2 fun a ha => .inl (k3 a ha)))
      · exact p.elim
    · exact p.elim
theorem ds_pop {i : Nat} {x : Str} {p apos cpos pos : Pos} (hN : X.N[i]? = some x := by rfl) (hv : Vis X.env.scope x := by first | exact Or.inl rfl | exact Or.inr (Or.inl rfl) | exact Or.inr (Or.inr rfl))
    (hd : (x == ("__debug__" : Str)) = false := by decide) (hcd : (x == ("__classdict__" : Str)) = false := by decide) (hs : swapsWith (.Call (.Attribute (.Name x p) "pop" apos) [] [] cpos) none pos.line X.env = pure false := by rfl)
    (hbase : attributeBase (.Name x p) "pop" X.env (eval (.Name x p) X.env) = eval (.Name x p) X.env := by rfl) (hline : (apos.endLine == cpos.line) = true := by rfl) :
    PS X (.Expr (.Call (.Attribute (.Name x p) "pop" apos) [] [] cpos) pos) (tDS (ct X C xc) W n (sPop i m)) :=
  weakS (ps_expr (pe_bm0 PySem.F.plainAttrs_list PySem.F.slot_list_pop PySem.F.type_list_pop mt_pop (pe_var hN hv hd hcd) hbase hline) hs) fun D σ H ⟨B0, H0, ρ, st, p⟩ => by
    unfold sPop at p
    split at p
    · rename_i k ds q
      split at p
      · rename_i hk
        obtain ⟨rfl, hne⟩ := hk
        obtain ⟨B, A, x, r, nd, fr⟩ := id st
        obtain ⟨v, Ai, h1, h2, h3, h4, h5⟩ := r.change nd q
        obtain ⟨pp, vs, A', ev, hp, hz, hb, ra, hA⟩ := h2.root
        refine ⟨v, h1, ?_, ?_⟩
        · rw [ev]; exact .inl ⟨rfl, vs, SqL.of hp⟩
        have hlen : vs.length = ds.length := ra.length
        have hpos : 0 < ds.length := List.length_pos_iff.mpr hne
        have hy : vs[vs.length - 1]? = some (vs[vs.length - 1]'(by omega)) := List.getElem?_eq_getElem _
        refine ⟨pp, vs, _, ev, rfl, hp, hy, ?_⟩
        obtain ⟨A2, r2, sb⟩ := ra.dropLast
        obtain ⟨k1, k2, k3⟩ := Own.cut (G := ct X C xc) (B := B) (ds := ds) ev hp (by rw [List.length_dropLast]; omega) hb hA h3 r2 sb
        have hpA : pp ∈ Ai := by rw [hA]; exact List.mem_cons_self
        exact p σ _ (changed (x.mut (fr pp (h4 pp hpA)) hb) fr h4 (fun a ha => fr a (h4 a (k3 a ha))) (d := .list ds) (h5 _ _ _ (fun a ha ha' => upd_ne fun e => ha' (e ▸ hpA)) k1 k2 fun a ha => .inl (k3 a ha)))
      · exact p.elim
    · exact p.elim
end
end M

/-! MTry: try .. except X as e: return ..; isinstance of what was caught. -/
namespace M
open PySem PySem.Spec L2 PyProof.Rows Evl
/-- isinstance(e, X), e what the suite at a holds -/
def fIsE (i a : Nat) (b : Bool) : FE := fun ρ => match ρ[i]? with
  | some (some (0, .dict [(.bool false, .int k)])) => if k = (a : Int) then .ok (.bool b) else .bad
  | _ => .bad
open Classical in
/-- try: .., except X as e: return f; what is not listed is told nothing of -/
noncomputable def sTryAs (i : Nat) (Fb : SF) (hs : List (Nat × Option (Nat → FE))) : SF := fun ρ => match Fb ρ with
  | .ex c ρ' => (match hs.lookup c with
    | some (some f) => if i < ρ'.length ∧ ∀ a, f a (frz (ρ'.set i (some (0, opqD a)))) = f 0 (frz (ρ'.set i (some (0, opqD 0)))) then (match f 0 (frz (ρ'.set i (some (0, opqD 0)))) with
        | .ok d => .ret d
        | _ => .bad) else .bad
    | some none => .ex c ρ'
    | none => .bad)
  | o => o
theorem mem_lookup {α : Type} : ∀ {l : List (Nat × α)} {c : Nat} {x : α}, l.lookup c = some x → (c, x) ∈ l
  | [], _, _, h => by cases h
  | (k, y) :: l, c, x, h => by
    unfold List.lookup at h
    cases q : c == k with
    | true =>
      rw [q] at h
      cases h
      rw [beq_iff_eq.mp q]
      exact List.mem_cons_self
    | false =>
      rw [q] at h
      exact List.mem_cons_of_mem _ (mem_lookup h)
section
variable {X : Cx} {C : Addr} {xc : Nat → Addr} {W : WX} {n m : Nat}
theorem de_isE {i a : Nat} {b : Bool} {D : Addr} {oe : Obj} {pn : List (Addr × Obj)} {x en : Str} {p pe pt pos : Pos} {cv : Value} {c : V} {tc : TE} (hE : ExcC X.K D) (hz : Zc (.ref D) none oe) (hfl : ∃ vs, oe.data = .fields vs) (hk : PySem.W.kitOne X.K (.ref D) cv = some b) (hcv : ∀ u, RelV c u → u = cv)
    (hm : X.mg "isinstance" = none) (hx : PE (X.suite a ((a, oe) :: pn)) (.Name x pt) tc) (htc : ∀ σ H Q, Q c H → tc σ H Q)
    (hi : X.N[i]? = some en := by rfl) (hv : Vis X.env.scope en := by first | exact Or.inl rfl | exact Or.inr (Or.inl rfl) | exact Or.inr (Or.inr rfl)) (hd : (en == ("__debug__" : Str)) = false := by decide) (hcd : (en == ("__classdict__" : Str)) = false := by decide) (hg : Gl X "isinstance" := by rfl)
    (he : starEach [.Name en pe, .Name x pt] X.env = (false, eval (.Name en pe) X.env) :: starEach [.Name x pt] X.env := by rfl) (he2 : starEach [.Name x pt] X.env = (false, eval (.Name x pt) X.env) :: starEach [] X.env := by rfl) (hpl : (backTo pos (starEach [.Name x pt] X.env)).any (·.1) = false := by rfl) :
    PE (X.suite a ((a, oe) :: pn)) (.Call (.Name "isinstance" p) [.Name en pe, .Name x pt] [] pos) (tD (ct X C xc) W (fIsE i a b)) :=
  weak (pe_callB (X := X.suite a ((a, oe) :: pn)) (call_isE hE hz hfl) hg hm (by decide +kernel) (pa_cons (pe_var (X := X.suite a ((a, oe) :: pn)) hi hv hd hcd) (pa_cons hx pa_nil he2) he) (by decide) (by decide) he hpl) fun σ H Q ⟨B, ρ, e, ⟨A, r, nd⟩, q⟩ => by
    unfold fIsE at q
    split at q
    · rename_i k hk'
      split at q
      · rename_i ek
        subst ek
        obtain ⟨v, A1, h1, ⟨h2, _⟩, _⟩ := r.get hk'
        have ev : v = .ref a := R.opq_inv h2
        subst ev
        exact ⟨_, h1, htc _ _ _ ⟨c, cv, b, rfl, hcv, hk, fin0 q (.refl e) (.bl _)⟩⟩
      · exact q.elim
    · exact q.elim
theorem ds_try_as {i : Nat} {x nm : Str} {e : Expr} {body : List Stmt} {Fb : SF} {D : Addr} {hs : List (Nat × Option (Nat → FE))} {np pos pos' rp : Pos} (tk : Takes X W) (hN : X.N.Nodup) (hc : Names X x (.ref D)) (hcatch : ∀ p ∈ hs, PySem.W.exmOne X.K (.ref (xc p.1)) (.ref D) = some p.2.isSome)
    (hb : ∀ (W' : WX) (pn : List (Addr × Obj)) (xe : Value → Shared → Prop), Takes (X.tr pn xe) W' → PSs (X.tr pn xe) body (tDS (ct X C xc) W' n Fb))
    (hsu : ∀ c f, (c, some f) ∈ hs → ∀ (a : Addr) (oe : Obj) (pn : List (Addr × Obj)), Zc (.ref (xc c)) none oe → (∃ vs, oe.data = .fields vs) → PE (X.suite a ((a, oe) :: pn)) e (tDO (ct X C xc) W0 n (f a)))
    (hst : X.stack = X.env :: X.outer := by rfl) (hf : X.env.frame = some X.env.locals := by rfl) (hi : X.N[i]? = some nm := by rfl) (hln : X.env.kindOf nm = some .local := by rfl) :
    PS X (.Try body [.ExceptHandler (some (.Name x np)) (some nm) [.Return (some e) rp] pos'] [] [] pos) (tDS (ct X C xc) W n (sTryAs i Fb hs)) := by
  refine weakS (ps_try_as hst hf hN hi hln hc tk (fun W' pn xe t _ => hb W' pn xe t) (ts := fun a cls d => fun D σ H => ∃ c f, (c, some f) ∈ hs ∧ cls = .ref (xc c) ∧ d = none ∧ tDS (ct X C xc) W0 n (sRet (f a)) D σ H) fun a oe cls d pn hz hfl => ?_) fun D σ H ⟨B0, H0, ρ, st, p⟩ => ?_
  · refine ⟨fun pins s σ H Dn I ⟨c, f, hm, e1, e2, h⟩ => ?_⟩
    subst e1 e2
    have h1 := hsu c f hm a oe pn hz hfl
    exact (dss_one (X := X.suite a ((a, oe) :: pn)) (C := C) (xc := xc) (W := W0) (n := n) (ds_ret (X := X.suite a ((a, oe) :: pn)) (C := C) (xc := xc) h1)).run pins s σ H Dn I h
  · refine ⟨B0, H0, ρ, st, ?_⟩
    unfold sTryAs at p
    revert p
    cases Fb ρ with
    | ex c ρ' =>
      intro p σ' H' st'
      dsimp only at p
      cases hl : hs.lookup c with
      | none => rw [hl] at p; exact p.elim
      | some o =>
        rw [hl] at p
        have hm := mem_lookup hl
        cases o with
        | none => exact ⟨false, hcatch _ hm, fun z => (nomatch z), fun _ => p σ' H' st'⟩
        | some f =>
          dsimp only at p
          split at p
          · rename_i hc2
            refine ⟨true, hcatch _ hm, fun _ a ha => ⟨c, f, hm, rfl, rfl, B0, H0, ρ'.set i (some (0, opqD a)), ?_, ?_⟩, fun z => (nomatch z)⟩
            · obtain ⟨B, A, x1, r, nd, fr⟩ := st'
              obtain ⟨A', k1, k2, k3⟩ := ER.set (n := 0) (Av := []) (G := ct X C xc) (B := B) (H := H') ⟨R.opq a, rfl⟩ i r hc2.1 nd List.nodup_nil (fun _ z => nomatch z)
              exact ⟨B, A', x1, k1, k2, fun a ha => (k3 a ha).elim (fun z => nomatch z) (fr a)⟩
            · unfold sRet
              rw [hc2.2 a]
              revert p
              cases f 0 (frz (ρ'.set i (some (0, opqD 0)))) with
              | ok d => exact fun p => p
              | ex c => exact fun p => p.elim
              | bad => exact fun p => p.elim
          · exact p.elim
    | nx ρ' => exact fun p => p
    | ret d => exact fun p => p
    | brk ρ' => exact fun p => p
    | ct ρ' => exact fun p => p
    | bad => exact fun p => p
end
/-! ### facts of the error classes -/
def excB (K : PySem.W.Frag) (x : Str) : Bool := decide (PySem.W.findIn K (.ref (He.ga K x)) "__getattribute__" = some (some (.builtin "BaseException.__getattribute__"))) && (decide (PySem.W.findIn K (.ref (He.ga K x)) "__getattr__" = some none) && (decide (PySem.W.subIn K (.ref (He.ga K x)) (.type "BaseException") = some true)
  && (PySem.W.hasDictIn K (He.ga K x) && (decide (PySem.W.findIn K (.ref (He.ga K x)) "__class__" = some (some (.builtin "object.__class__"))) && (decide (PySem.W.specialIn K (.builtin "object.__class__") "__get__" = some (some (.builtin "getset_descriptor.__get__")))
  && (decide (PySem.W.takesIn K (.builtin "object.__class__") = some true) && decide (PySem.W.mroIn K (He.ga K x) (.type "object") = some true)))))))
theorem excB_ok {K : PySem.W.Frag} {x : Str} (h : excB K x = true) : ExcC K (He.ga K x) := by
  unfold excB at h
  simp only [Bool.and_eq_true, decide_eq_true_eq] at h
  obtain ⟨h1, h2, h3, h4, h5, h6, h7, h8⟩ := h
  exact ⟨h1, h2, h3, h4, h5, h6, h7, h8⟩
def kitC (x y : Str) (b : Bool) (K : PySem.W.Frag) : Bool := decide (PySem.W.kitOne K (.ref (He.ga K x)) (.ref (He.ga K y)) = some b)
def kitT (x : Str) (t : String) (b : Bool) (K : PySem.W.Frag) : Bool := decide (PySem.W.kitOne K (.ref (He.ga K x)) (.type t) = some b)
def obsX (fa : List He.Fa) (fn : List He.DefD) (fx : List (PySem.W.Frag → Bool)) (K : PySem.W.Frag) : He.AlD := ((He.obsD fa fn K).1 && fx.all (fun f => f K), (He.obsD fa fn K).2)
def SaysX (fa : List He.Fa) (fn : List He.DefD) (fx : List (PySem.W.Frag → Bool)) (K : PySem.W.Frag) : Prop := obsX fa fn fx K = He.valD fn
theorem SaysX.d {fa : List He.Fa} {fn : List He.DefD} {fx : List (PySem.W.Frag → Bool)} {K : PySem.W.Frag} (h : SaysX fa fn fx K) : He.SaysD fa fn K := by
  have h1 : (obsX fa fn fx K).1 = true := by rw [show obsX fa fn fx K = He.valD fn from h]; rfl
  have h2 : (obsX fa fn fx K).2 = (He.valD fn).2 := by rw [show obsX fa fn fx K = He.valD fn from h]
  exact Prod.ext (Bool.and_eq_true_iff.mp h1).1 h2
theorem SaysX.x {fa : List He.Fa} {fn : List He.DefD} {fx : List (PySem.W.Frag → Bool)} {K : PySem.W.Frag} (h : SaysX fa fn fx K) (i : Nat) {f : PySem.W.Frag → Bool} (hi : fx[i]? = some f := by rfl) : f K = true := by
  have h1 : (obsX fa fn fx K).1 = true := by rw [show obsX fa fn fx K = He.valD fn from h]; rfl
  exact List.all_eq_true.mp (Bool.and_eq_true_iff.mp h1).2 f (List.mem_of_getElem? hi)
def hookX (n : Nat) (fa : List He.Fa) (fn : List He.DefD) (fx : List (PySem.W.Frag → Bool)) : PySem.W.Hook where
  α := He.AlD
  obs := fun s => obsX fa fn fx (He.frG s.heap.get? (He.asD s.heap.get? n))
  val := fun _ => He.valD fn
  says := fun _ h => ∃ K : PySem.W.Frag, K.In h ∧ SaysX fa fn fx K
  of := fun _ _ e => ⟨_, He.frG_in, e⟩
  keeps := fun _ _ _ ⟨K, hK, c⟩ k => ⟨K, PySem.W.Frag.In.keeps hK k, c⟩
end M

/-! MMore4: stores into a list of lists; what is never reached; lists for try. -/
namespace M
open PySem PySem.Spec L2 PyProof.Rows Evl
/-- x[a][b] = e, a number; all names read -/
def sStore2 (i : Nat) (fa fb f : FE) : SF := fun ρ => match ρ[i]? with
  | some (some (k, .list ds)) => if k = 2 then withE (f (frz ρ)) ρ fun d => if scalD d = true then withE (fa (frz ρ)) ρ fun za => (match za with
      | .int za => (match ixN ds.length za with
        | some j => (match ds[j]? with
          | some (.list es) => withE (fb (frz ρ)) ρ fun zb => (match zb with
            | .int zb => (match ixN es.length zb with
              | some l => .nx (ρ.set i (some (2, .list (ds.set j (.list (es.set l d))))))
              | none => .bad)
            | _ => .bad)
          | _ => .bad)
        | none => .bad)
      | _ => .bad) else .bad else .bad
  | _ => .bad
section
variable {X : Cx} {C : Addr} {xc : Nat → Addr} {W : WX} {n m : Nat}
theorem ds_never {st : Stmt} : PS X st (tDS (ct X C xc) W n fun _ => .bad) := ⟨fun pins s σ H D I ⟨_, _, _, _, p⟩ => p.elim⟩
theorem dss_never {sts : List Stmt} : PSs X sts (tDS (ct X C xc) W n fun _ => .bad) := ⟨fun pins s σ H D I ⟨_, _, _, _, p⟩ => p.elim⟩
theorem ds_store2 {i : Nat} {x : Str} {e ea eb : Expr} {f fa fb : FE} {p apos tpos pos : Pos} (he : PE X e (tD (ct X C xc) W f)) (ha : PE X ea (tD (ct X C xc) W fa)) (hb : PE X eb (tD (ct X C xc) W fb)) (hN : X.N[i]? = some x := by rfl) (hv : Vis X.env.scope x := by first | exact Or.inl rfl | exact Or.inr (Or.inl rfl) | exact Or.inr (Or.inr rfl))
    (hd : (x == ("__debug__" : Str)) = false := by decide) (hcd : (x == ("__classdict__" : Str)) = false := by decide) (hs : swapsWithSole [.Subscript (.Subscript (.Name x p) ea apos) eb tpos] e pos.line X.env = pure false := by rfl) (hw : swappedStores [.Subscript (.Subscript (.Name x p) ea apos) eb tpos] e X.env = pure none := by rfl)
    (h1 : (assignEach [.Subscript (.Subscript (.Name x p) ea apos) eb tpos] X.env).map (·.2) = [assign (.Subscript (.Subscript (.Name x p) ea apos) eb tpos) X.env] := by rfl) (hpl : PlainIx ea := by intro _ _; rfl)
    (has : ∀ v, assign (.Subscript (.Subscript (.Name x p) ea apos) eb tpos) X.env v = (do
      let ov ← holding [v] (eval (.Subscript (.Name x p) ea apos) X.env)
      let iv ← holding [v, ov] (eval eb X.env)
      standAt tpos
      holding [v, ov, iv] (setItem ov iv v)
      release [v, ov, iv] []) := by intro _; rfl) :
    PS X (.Assign [.Subscript (.Subscript (.Name x p) ea apos) eb tpos] e pos) (tDS (ct X C xc) W n (sStore2 i fa fb f)) :=
  weakS (ps_asg he (pg_sub (pe_ix ix_list (pe_var hN hv hd hcd) ha hpl) hb set_list has) hs hw h1) fun D σ H ⟨B0, H0, ρ, st, p⟩ => by
    unfold sStore2 at p
    split at p
    · rename_i k ds q
      split at p
      · rename_i hk
        subst hk
        refine seqF (m := 0) st p fun d v B1 H1 Av q1 x1 hv1 nv fv st1 p1 => ?_
        split at p1
        · rename_i hsc
          obtain ⟨B, A, x, r, nd, fr⟩ := id st1
          obtain ⟨v', Ai, g1, g2, g3, g4, g5⟩ := r.change nd q
          refine ⟨v', g1, ?_⟩
          refine idxS x.w r (fun H' e' => ⟨B, A, x.trans (.heap x.w e'), r.ext (.heap x.w e'), nd, fr⟩) p1 fun dz w B2 H2 q2 rz e2 p2 => ?_
          split at p2
          · rename_i za
            split at p2
            · rename_i j hj
              split at p2
              · rename_i es hes
                have ez := rz.int_inv
                subst ez
                have y12 : Ext B H1 B H2 := .heap x.w e2
                have r2 := r.ext y12
                obtain ⟨v2, Ai2, k1, k2, k3, k4, k5⟩ := r2.change nd q
                rw [g1] at k1
                cases k1
                obtain ⟨pp, vs, u, Aj, ev, hp, hu, hl, o1, n1, s1, c1⟩ := k2.child k3 hes
                have hatI : atI vs za = some u := by
                  unfold atI
                  rw [hl, hj]
                  exact hu
                refine ⟨pp, vs, za, u, ev, rfl, SqL.of hp, hatI, ?_⟩
                have x2 := x.trans y12
                refine idxS x2.w r2 (fun H' e' => ⟨B, A, x2.trans (.heap x2.w e'), r2.ext (.heap x2.w e'), nd, fr⟩) p2 fun dz2 w2 B3 H3 q3 rz2 e3 p3 => ?_
                split at p3
                · rename_i zb
                  split at p3
                  · rename_i l hl2
                    have ez2 := rz2.int_inv
                    subst ez2
                    have y23 : Ext B H2 B H3 := .heap x2.w e3
                    have r3 := r2.ext y23
                    obtain ⟨v3, Ai3, m1, m2, m3, m4, m5⟩ := r3.change nd q
                    rw [g1] at m1
                    cases m1
                    obtain ⟨pp3, vs3, u3, Aj3, ev3, hp3, hu3, hl3, o3, n3, s3, c3⟩ := m2.child m3 hes
                    have epp : pp3 = pp := by
                      rw [ev] at ev3
                      injection ev3 with ev3
                      exact ev3.symm
                    subst epp
                    have evs : vs3 = vs := by
                      have := e3 _ _ hp
                      rw [hp3] at this
                      cases this
                      rfl
                    subst evs
                    have eu : u3 = u := by
                      rw [hu] at hu3
                      exact (Option.some.inj hu3).symm
                    subst eu
                    have hll := (ixN_seq hl2).2.1
                    have hsv : Own (ct X C xc) B H3 0 v d [] := ⟨hv1.1.scal hsc, rfl⟩
                    obtain ⟨p2', ws, ev2, hp2, hlw, hpA, A2, t1, t2, t3⟩ := o3.store n3 hsv List.nodup_nil (fun _ z => nomatch z) hll
                    refine ⟨p2', ws, zb, l, ev2, rfl, hp2, by rw [hlw]; exact hl2, ?_⟩
                    have hpB : B p2' = none := (o3.nodes _ _ _ _ p2' hpA).2
                    have hpAi : p2' ∈ Ai3 := s3 p2' hpA
                    have hp0 : H0 p2' = none := fr p2' (m4 p2' hpAi)
                    have t3' : ∀ a ∈ A2, a ∈ Aj3 := fun a ha => (t3 a ha).elim (fun z => nomatch z) id
                    obtain ⟨A4, z1, z2, z3⟩ := c3 _ _ A2 (fun a ha ha' => upd_ne fun e => ha' (e ▸ hpA)) t1 t2 (fun a ha => .inl (t3' a ha))
                    have z3' : ∀ a ∈ A4, a ∈ Ai3 := fun a ha => (z3 a ha).elim (fun z => s3 a (t3' a z)) fun z => z.1
                    have x3 := x2.trans y23
                    exact p3 σ _ (changed (x3.mut hp0 hpB) fr m4 (fun a ha => fr a (m4 a (z3' a ha))) (d := .list ds) (m5 _ _ A4 (fun a ha ha' => upd_ne fun e => ha' (e ▸ hpAi)) z1 z2 fun a ha => .inl (z3' a ha)))
                  · exact p3.elim
                · exact p3.elim
              · exact p2.elim
            · exact p2.elim
          · exact p2.elim
        · exact p1.elim
      · exact p.elim
    · exact p.elim
/-! ### lists for try -/
theorem hc_nil {xc : Nat → Addr} {K : PySem.W.Frag} {D : Addr} : ∀ p ∈ ([] : List (Nat × Option (Nat → FE))), PySem.W.exmOne K (.ref (xc p.1)) (.ref D) = some p.2.isSome := fun _ h => nomatch h
theorem hc_cons {xc : Nat → Addr} {K : PySem.W.Frag} {D : Addr} {c : Nat} {o : Option (Nat → FE)} {l : List (Nat × Option (Nat → FE))} (h : PySem.W.exmOne K (.ref (xc c)) (.ref D) = some o.isSome) (r : ∀ p ∈ l, PySem.W.exmOne K (.ref (xc p.1)) (.ref D) = some p.2.isSome) :
    ∀ p ∈ (c, o) :: l, PySem.W.exmOne K (.ref (xc p.1)) (.ref D) = some p.2.isSome := fun p hp => by
  rcases List.mem_cons.mp hp with rfl | hp
  · exact h
  · exact r p hp
def SuOk (X : Cx) (C : Addr) (xc : Nat → Addr) (n : Nat) (e : Expr) (hs : List (Nat × Option (Nat → FE))) : Prop :=
  ∀ c f, (c, some f) ∈ hs → ∀ (a : Addr) (oe : Obj) (pn : List (Addr × Obj)), Zc (.ref (xc c)) none oe → (∃ vs, oe.data = .fields vs) → PE (X.suite a ((a, oe) :: pn)) e (tDO (ct X C xc) W0 n (f a))
theorem su_nil {e : Expr} : SuOk X C xc n e [] := fun _ _ h => nomatch h
theorem su_skip {e : Expr} {c : Nat} {l : List (Nat × Option (Nat → FE))} (r : SuOk X C xc n e l) : SuOk X C xc n e ((c, none) :: l) := fun c' f h => by
  rcases List.mem_cons.mp h with h | h
  · cases h
  · exact r c' f h
theorem su_cons {e : Expr} {c : Nat} {f : Nat → FE} {l : List (Nat × Option (Nat → FE))} (k : ∀ (a : Addr) (oe : Obj) (pn : List (Addr × Obj)), Zc (.ref (xc c)) none oe → (∃ vs, oe.data = .fields vs) → PE (X.suite a ((a, oe) :: pn)) e (tDO (ct X C xc) W0 n (f a))) (r : SuOk X C xc n e l) :
    SuOk X C xc n e ((c, some f) :: l) := fun c' f' h => by
  rcases List.mem_cons.mp h with h | h
  · cases h
    exact k
  · exact r c' f' h
end
end M

/-! MMore5: is True; tuples that hold what is owned. -/
namespace M
open PySem PySem.Spec L2 PyProof.Rows Evl
def dIsB : D → D → O
  | .bool a, .bool b => .ok (.bool (decide (a = b)))
  | _, _ => .bad
def dIsNotB : D → D → O
  | .bool a, .bool b => .ok (.bool (!decide (a = b)))
  | _, _ => .bad
theorem calm_dIsB : Calm2 dIsB := calm_match2 fun x y => by
  unfold dIsB
  split
  · exact .inr ⟨_, rfl⟩
  · exact .inl rfl
theorem calm_dIsNotB : Calm2 dIsNotB := calm_match2 fun x y => by
  unfold dIsNotB
  split
  · exact .inr ⟨_, rfl⟩
  · exact .inl rfl
/-- what is no list is no tree -/
def fUp (f : FE) : FE := fun ρ => (f ρ).bind fun d => if isLst d = true then .bad else .ok d
/-- t[j], t a tuple made just now -/
def fIxO (j : Nat) (f : FE) : FE := fun ρ => (f ρ).bind fun d => match d with
  | .tuple ds => (match ds[j]? with
    | some d => .ok d
    | none => .bad)
  | _ => .bad
/-- return (x, e), x owned -/
def sRetPair (i m : Nat) (f : FE) : SF := fun ρ => match ρ[i]? with
  | some (some (k, d)) => if k = m then withE (f ρ) ρ fun y => if isLst y = true then .bad else .ret (.tuple [d, y]) else .bad
  | _ => .bad
section
variable {X : Cx} {C : Addr} {xc : Nat → Addr} {W : WX} {n m : Nat}
theorem od_isB : OpR X (compareOp .Is) (rD (ct X C xc) 0 dIsB) := by
  intro pins s σ H x y v u Q I rx ry ⟨B, dx, dy, e, r1, r2, p⟩
  unfold dIsB at p
  split at p
  · have e1 := r1.bool_inv
    have e2 := r2.bool_inv
    subst e1 e2
    exact op_is_bl pins s σ H _ _ v u Q I rx ry ⟨_, _, rfl, rfl, fin0 p (.refl e) (.bl _)⟩
  · exact p.elim
theorem od_isNotB : OpR X (compareOp .IsNot) (rD (ct X C xc) 0 dIsNotB) := by
  intro pins s σ H x y v u Q I rx ry ⟨B, dx, dy, e, r1, r2, p⟩
  unfold dIsNotB at p
  split at p
  · have e1 := r1.bool_inv
    have e2 := r2.bool_inv
    subst e1 e2
    exact op_isnot_bl pins s σ H _ _ v u Q I rx ry ⟨_, _, rfl, rfl, fin0 p (.refl e) (.bl _)⟩
  · exact p.elim
theorem de_up {e : Expr} {f : FE} (h : PE X e (tD (ct X C xc) W f)) : PE X e (tDO (ct X C xc) W (m + 1) (fUp f)) := weak h fun σ H Q ⟨B, ρ, e, env, p⟩ => by
  refine seqE (m := m + 1) e env p fun d v B1 H1 A q x hv nd fr p1 => ?_
  split at p1
  · exact p1.elim
  · rename_i hd
    exact p1 v B1 H1 [] (.refl x.w) (.inr (.inr (.inr ⟨by simpa using hd, hv.1, rfl⟩))) List.nodup_nil (fun _ z => nomatch z)
/-! ### trees of tuples -/
theorem Own.tupRoot {G : Ct} {B H : Hp} {n : Nat} {v : V} {ds : List PyData} {A : List Addr} (h : Own G B H (n + 1) v (.tuple ds) A) : (∃ p vs A', v = .ref p ∧ H p = some (.tup vs) ∧ OA (Own G B H n) vs ds A' ∧ A = p :: A') ∨ (R G B v (.tuple ds) ∧ A = []) := by
  rcases h with ⟨p, vs, ds', A', e1, e2, _⟩ | (⟨p, xs, kvs, e1, e2, _⟩ | ⟨p, dx, i, vm, mm, A', e1, e2, _⟩) | ⟨p, vs, ds', A', e1, e2, h1, h2, h3, h4⟩ | ⟨h1, h2, e3⟩
  · cases e2
  · cases e2
  · unfold netD at e2
    cases e2
  · cases e2
    exact .inl ⟨p, vs, A', e1, h1, h3, h4⟩
  · exact .inr ⟨h2, e3⟩
theorem seqE0 {G : Ct} {B H : Hp} {σ : L2.St} {ρ : Rho} {Q : VK} {f : FE} {k : PyData → O} {Q1 : VK} (e : Ex B H) (env : EnvOk G B H σ ρ) (h : PostE G W σ m B H Q ((f ρ).bind k))
    (hk : ∀ d v B' H' A, f ρ = .ok d → Ext B H B' H' → Own G B' H' n v d A → A.Nodup → (∀ a ∈ A, H a = none) → PostE G W σ m B H Q (k d) → Q1 v H') : tDO G W n f σ H Q1 := by
  refine ⟨B, ρ, e, env, ?_⟩
  cases q : f ρ with
  | ok d =>
    rw [q] at h
    exact fun v B' H' A x hv nd fr => hk d v B' H' A q x hv nd fr h
  | ex c => rw [q] at h; exact h
  | bad => rw [q] at h; exact h
theorem hasLs_get : ∀ {ds : List PyData} {j : Nat} {d : PyData}, hasLs ds = false → ds[j]? = some d → hasL d = false
  | [], _, _, _, h => by simp at h
  | x :: ds, 0, d, h, e => by
    simp at e
    subst e
    simp only [hasLs, Bool.or_eq_false_iff] at h
    exact h.1
  | x :: ds, j + 1, d, h, e => by
    simp only [hasLs, Bool.or_eq_false_iff] at h
    exact hasLs_get (j := j) h.2 (by simpa using e)
theorem isLst_of {d : PyData} (h : hasL d = false) : isLst d = false := by
  cases d <;> simp [hasL, isLst] at h ⊢
  exact h
theorem de_ixO {j : Nat} {e : Expr} {f : FE} {jj : Nat} {cp pos : Pos} (h : PE X e (tDO (ct X C xc) W (m + 1) f)) (hs : PlainIx (.Constant (.int (j : Int)) jj cp) := by intro _ _; rfl) :
    PE X (.Subscript e (.Constant (.int (j : Int)) jj cp) pos) (tDO (ct X C xc) W m (fIxO j f)) := weak (pe_ix ix_tup h pe_int hs) fun σ H Q ⟨B, ρ, e, env, p⟩ => by
  unfold fIxO at p
  refine seqE0 (m := m) e env p fun d v B1 H1 A q x hv nd fr p1 => ?_
  cases d with
  | tuple ds =>
    dsimp only at p1
    cases hj : ds[j]? with
    | none => rw [hj] at p1; exact p1.elim
    | some dj =>
      rw [hj] at p1
      dsimp only at p1
      have hat : ∀ {vs : List V} {u : V}, vs[j]? = some u → atI vs (j : Int) = some u := fun {vs u} h1 => by
        unfold atI ixN
        have hlt : j < vs.length := (List.getElem?_eq_some_iff.mp h1).1
        rw [if_pos (by omega), if_pos (by omega)]
        simpa using h1
      rcases hv with ⟨pp, vs, ds', A', e1, e2, _⟩ | (⟨pp, xs, kvs, e1, e2, _⟩ | ⟨pp, dx, i, vm, mm, A', e1, e2, _⟩) | ⟨pp, vs, ds', A', e1, e2, hp, hb, oa, hA⟩ | ⟨h1, h2, hA⟩
      · cases e2
      · cases e2
      · unfold netD at e2
        cases e2
      · cases e2
        subst hA e1
        obtain ⟨n1, n2⟩ := List.nodup_cons.mp nd
        obtain ⟨u, Aj, h1, h2, h3, h4, _⟩ := oa.item n2 hj
        exact ⟨pp, vs, (j : Int), u, rfl, rfl, sqT_of (G := ct X C xc) hp, hat h1, p1 u B1 H1 Aj x h2 h3 fun a ha => fr a (List.mem_cons_of_mem _ (h4 a ha))⟩
      · subst hA
        obtain ⟨a, vs, rfl, ht, hr⟩ := h2.tup_inv
        obtain ⟨u, h3, h4⟩ := hr.get hj
        have hn : isLst dj = false := isLst_of (hasLs_get (by simpa only [isLst] using h1) hj)
        refine ⟨a, vs, (j : Int), u, rfl, rfl, ex_t x.w ht, hat h3, p1 u B1 H1 [] x ?_ List.nodup_nil (fun _ z => nomatch z)⟩
        cases m with
        | zero => exact ⟨h4, rfl⟩
        | succ m => exact .inr (.inr (.inr ⟨hn, h4, rfl⟩))
  | _ => exact p1.elim
theorem ds_retPair {i : Nat} {x : Str} {e : Expr} {f : FE} {kk : Nat} {px tp pos : Pos} (he : PE X e (tD (ct X C xc) W f)) (hN : X.N[i]? = some x := by rfl) (hv : Vis X.env.scope x := by first | exact Or.inl rfl | exact Or.inr (Or.inl rfl) | exact Or.inr (Or.inr rfl)) (hd : (x == ("__debug__" : Str)) = false := by decide)
    (hcd : (x == ("__classdict__" : Str)) = false := by decide) (hs1 : starEach [.Name x px, e] X.env = (false, eval (.Name x px) X.env) :: starEach [e] X.env := by rfl) (hs2 : starEach [e] X.env = (false, eval e X.env) :: starEach [] X.env := by rfl) :
    PS X (.Return (some (.Tuple [.Name x px, e] kk tp)) pos) (tDS (ct X C xc) W (m + 1) (sRetPair i m f)) := weakS (ps_ret (pe_tup (pa_cons (pe_var hN hv hd hcd) (pa_cons he pa_nil hs2) hs1))) fun D σ H ⟨B0, H0, ρ, st, p⟩ => by
  unfold sRetPair at p
  split at p
  · rename_i k d q
    split at p
    · rename_i hk
      subst hk
      obtain ⟨B, A, x0, r0, nd0, fr0⟩ := id st
      obtain ⟨v, Ai0, g1, _⟩ := r0.change nd0 q
      refine ⟨v, g1, ?_⟩
      refine seqS (m := 0) st p fun y u B1 H1 A1 Av q1 x1 r1 nd1 fr1 hu nu na fu p1 => ?_
      split at p1
      · exact p1.elim
      · rename_i hy
        obtain ⟨v', Ai, k1, k2, k3, k4, _⟩ := r1.change nd1 q
        rw [g1] at k1
        cases k1
        refine ⟨by show 2 ≤ sizeLine; decide, fun pp hpp => ?_⟩
        have hBp : B1 pp = none := Ex.back x1.w hpp
        have hpn : pp ∉ Ai := fun z => (k2.nodes _ _ _ _ pp z).1 hpp
        have hH0 : H0 pp = none := Ex.back x1.h hpp
        have hyo : Own (ct X C xc) B1 (upd H1 pp (.tup [v, u])) k u y [] := by
          cases k with
          | zero => exact ⟨hu.1, rfl⟩
          | succ k => exact .inr (.inr (.inr ⟨by simpa using hy, hu.1, rfl⟩))
        refine p1 (.ref pp) B1 (upd H1 pp (.tup [v, u])) (pp :: (Ai ++ ([] ++ []))) (x1.mut hH0 hBp) (.inr (.inr (.inl ⟨pp, [v, u], [d, y], Ai ++ ([] ++ []), rfl, rfl, upd_same, hBp, .cons (k2.keepU hpn) (.cons hyo .nil), rfl⟩))) ?_ ?_
        · simp only [List.append_nil]
          exact List.nodup_cons.mpr ⟨hpn, k3⟩
        · simp only [List.append_nil]
          intro a ha
          rcases List.mem_cons.mp ha with rfl | ha
          · exact hH0
          · exact fr1 a (k4 a ha)
    · exact p.elim
  · exact p.elim
end
end M

/-! MMore6: len of a dict; sum, min of a tuple; items of an owned list; xs[::-1]. -/
namespace M
open PySem PySem.Spec L2 PyProof.Rows Evl
/-! ### len(d) -/
def dLenD : D → O
  | .dict kvs => if tupKeys kvs = true ∧ kvs.length ≤ 1000000 then .ok (.int kvs.length) else .bad
  | _ => .bad
theorem calm_dLenD : Calm1 (d1 dLenD) := fun ds c h => by
  unfold d1 dLenD at h
  split at h
  · split at h
    · split at h <;> cases h
    · cases h
  · cases h
section
variable {X : Cx} {C : Addr} {xc : Nat → Addr} {W : WX} {n m : Nat}
theorem cd_lenD : CallR X (.builtin "len") (cD (ct X C xc) 0 (d1 dLenD)) := by
  intro pins s σ H vs us Q I rv ⟨B, ds, e, r, p⟩
  unfold d1 at p
  split at p
  · rename_i d
    obtain ⟨v, rfl, r1⟩ := r.one
    unfold dLenD at p
    split at p
    · rename_i kvs
      split at p
      · rename_i hz
        obtain ⟨a, xs, rfl, hd, hs, q⟩ := r1.dic_inv (tupKeys_all hz.1)
        rw [Vals.ref1 rv]
        have hl := q.len
        refine call_len_dictH (knd := nestedKind X.prog X.w) hs (dict_of I e (e _ _ hd) q) (by rw [hl]; omega) ?_
        rw [hl]
        exact ⟨.int _, H, I.tok _, ⟨_, rfl⟩, fin0 p (.refl e) (.int _)⟩
      · exact p.elim
    · exact p.elim
  · exact p.elim
/-! ### sum(t), t a tuple of numbers -/
def dSumT : D → O
  | .tuple ds => (match asInts ds with
    | some ns => .ok (.int ns.sum)
    | none => .bad)
  | _ => .bad
theorem calm_dSumT : Calm1 (d1 dSumT) := fun ds c h => by
  unfold d1 dSumT at h
  split at h
  · split at h
    · split at h <;> cases h
    · cases h
  · cases h
theorem cd_sumT (hc : X.calm = true) : CallR X (.builtin "sum") (cD (ct X C xc) 0 (d1 dSumT)) := by
  intro pins s σ H vs us Q I rv ⟨B, ds, e, r, p⟩
  unfold d1 at p
  split at p
  · rename_i d
    obtain ⟨v, rfl, r1⟩ := r.one
    unfold dSumT at p
    split at p
    · split at p
      · rename_i ns hn
        obtain ⟨a, ws, rfl, h, q⟩ := r1.tup_inv
        have ew := q.ints hn
        subst ew
        rw [Vals.ref1 rv]
        obtain ⟨its, ri, ht, hz⟩ := I.tuple (ex_t e h)
        have hi := ri.ints
        obtain ⟨xs, hx⟩ := hi.allInts.items
        have hns : numsOf its = ns := hi.numsOf
        have ht' : s.heap.IsTuple a (intItems xs) := by
          rw [← hx]
          exact ht
        have hn2 : numsOf (intItems xs).toList = ns := by rw [← hx]; exact hns
        rw [nums_intItems] at hn2
        refine PySem.W.ktm_sumG (I.ok.hd hc) ht' fun h' tk t' hk => ?_
        have h3 := fin0 p (.refl e) (R.int ns.sum)
        rw [preSum_eq, List.take_of_length_le (by simp), hn2]
        exact ⟨.int _, H, I.kept hk, ⟨_, rfl⟩, h3⟩
      · exact p.elim
    · exact p.elim
  · exact p.elim
/-! ### an item of an owned list, or of a shared one -/
def fVarIx (i : Nat) (f : FE) : FE := fun ρ => match ρ[i]? with
  | some (some (k, .list ds)) => if k ≤ 1 then (f ρ).bind fun z => (match z with
    | .int z => (match atI ds z with
      | some d => .ok d
      | none => .bad)
    | _ => .bad) else .bad
  | _ => .bad
end
end M

/-! MTry2: try with several clauses, each with the same name. -/
namespace M
open PySem PySem.Spec L2 PyProof.Rows Evl
abbrev ClauseT := Value × (Addr → Value → Option Addr → TS)
/-- the ends of a suite whose name is unbound behind it -/
def unbound (i : Nat) (D : Ends) : Ends := ⟨fun τ G => D.nx (τ.set i none) G, D.rt, fun τ G => D.bk (τ.set i none) G, fun τ G => D.ct (τ.set i none) G⟩
/-- the clauses asked one after the other; slot i is the name's -/
def wNamed (K : PySem.W.Frag) (i : Nat) (Wo : WX) (D : Ends) : List ClauseT → WX
  | [] => Wo
  | q :: qs => fun cls d τ G => ∃ yes, PySem.W.exmOne K cls q.1 = some yes ∧ (yes = true → ∀ b, G b = none → q.2 b cls d (unbound i D) (τ.set i (some (.ref b))) G) ∧ (yes = false → wNamed K i Wo D qs cls d τ G)
inductive NamedHs (X : Cx) (nm : Str) : List ExceptHandler → List ClauseT → Prop
  | nil : NamedHs X nm [] []
  | cons {y : Str} {k : ClauseT} {b1 : Stmt} {bs : List Stmt} {p1 p2 : Pos} {rest : List ExceptHandler} {qs : List ClauseT} : Names X y k.1 →
      (∀ (b : Addr) (ob : Obj) (cls : Value) (d : Option Addr) (pp : List (Addr × Obj)), Zc cls d ob → (∃ fs, ob.data = .fields fs) → PSs (X.suite b ((b, ob) :: pp)) (b1 :: bs) (k.2 b cls d)) → NamedHs X nm rest qs →
      NamedHs X nm (.ExceptHandler (some (.Name y p1)) (some nm) (b1 :: bs) p2 :: rest) (k :: qs)
section
variable {X : Cx} {C : Addr} {xc : Nat → Addr} {W : WX} {n m : Nat}
theorem ps_named {nm : Str} {i : Nat} {body : List Stmt} {k0 : ExceptHandler} {ks : List ExceptHandler} {cl : List ClauseT} {pos : Pos} {tb : WX → TS} {Wo : WX}
    (st : X.stack = X.env :: X.outer) (fr : X.env.frame = some X.env.locals) (nd : X.N.Nodup) (ix : X.N[i]? = some nm) (lo : X.env.kindOf nm = some .local) (tko : Takes X Wo)
    (bd : ∀ (W' : WX) (pp : List (Addr × Obj)) (xe' : Value → Shared → Prop), Takes (X.tr pp xe') W' → PassesOwn (model X.prog X.w) X.A X.env xe' → PSs (X.tr pp xe') body (tb W'))
    (hk : NamedHs X nm (k0 :: ks) cl) : PS X (.Try body (k0 :: ks) [] [] pos) (fun D σ H => tb (wNamed X.K i Wo D cl) D σ H) := by
  refine ⟨fun pins0 s0 τ0 G0 D I0 wish => ?_⟩
  have okE := I0.ok
  have frA : X.A.frames = some (X.env :: X.outer) := by rw [okE.frames, st]
  have locN : Loc X.env.scope nm := .inl lo
  refine wpAny_Try_except (wpAny_mono ((bd (wNamed X.K i Wo D cl) (X.pn ++ pins0) (fun ev sA => wpAny (model X.prog X.w) X.A (noteFrame ev X.env) (fun _ sB => wpAny (model X.prog X.w) X.A (setFlight ev none) (fun _ sC =>
    wpAny (model X.prog X.w) X.A (handleBy ev X.env (k0 :: ks)) (SP X pins0 D) X.xe sC) X.xe sB) X.xe sA) (fun uv sE flown => ?_) PassesOwn.looking).run [] s0 τ0 G0 D (I0.toTry _) wish) (fun fl sF ends => ?_) (fun ev sG hev => hev))
  · -- an exception of the body
    obtain ⟨b, Bs, sI, _, τ, G, cls, d, rfl, J0, fresh, grown, inSky, Gb, oSame, genOk, asked⟩ := flown
    have J : Inv X pins0 τ G sI := J0.ofTry okE
    have inSky2 : Sky Bs (X.env :: X.outer) b (Zc cls d) X.env.locals sE.heap := by rw [← st]; exact inSky
    show wpAny (model X.prog X.w) X.A (noteFrame (.ref b) X.env) _ _ _
    refine Sky.land Zc.steady frA fr inSky2 fun hA landed grown2 => ?_
    have JA : Inv X pins0 τ G { sE with heap := hA } := J.landed fresh landed.1 (grown.trans grown2) oSame genOk
    obtain ⟨obA, fsA, atA, zA, dA⟩ := landed.there
    have offFrames : b ∉ frs (X.env :: X.outer) := fun hm => by
      obtain ⟨_, oo, at2, noF⟩ := landed.2.2.1.mem hm
      rw [atA] at at2; cases at2
      exact noF _ dA
    have offLoc : b ≠ X.env.locals := fun z => offFrames (List.mem_filterMap.mpr ⟨X.env, List.mem_cons_self, by rw [fr, z]⟩)
    have offFs : b ∉ X.fs := fun hm => by
      obtain ⟨ee, hee, qq⟩ := List.mem_filterMap.mp hm
      exact offFrames (List.mem_filterMap.mpr ⟨ee, List.mem_cons_of_mem _ hee, qq⟩)
    have SA := JA.suite atA dA Gb offLoc offFs
    have each : ∀ {rest : List ExceptHandler} {qs : List ClauseT}, NamedHs X nm rest qs → wNamed X.K i Wo D qs cls d τ G → wpAny (model X.prog X.w) X.A (handleBy (.ref b) X.env rest) (SP X pins0 D) X.xe { sE with heap := hA } := by
      intro rest qs hk'
      induction hk' with
      | nil =>
        intro left_
        refine wpAny_handleBy_nil ?_
        obtain ⟨_, _, _, obB, fsB, tb2, oT, tsB, atB, zB, dB, fB, _⟩ := id landed
        unfold PySem.passOn
        refine wpAny_bind (wpAny_field atB dB fB ?_)
        rw [if_neg (show ¬ ((Value.ref tb2 == Value.none) = true) by simp)]
        have out : wpAny (model X.prog X.w) X.A (setFlight (.ref b) X.env.frame) (fun _ sH => wpAny (model X.prog X.w) X.A (throw (.ref b) : Sem Flow) (SP X pins0 D) X.xe sH) X.xe { sE with heap := hA } := by
          rw [fr]
          exact HandSPX.setFlight_upZ landed fun hB upB grown3 => wpAny_throw (tko _ _ ⟨b, Bs, sI, pins0, τ, G, cls, d, rfl, J, fresh, (grown.trans grown2).trans grown3, .inr (.inr (by rw [st]; exact upB)), Gb, oSame, genOk, left_⟩)
        first
          | exact wpAny_bind (wpAny_pure (wpAny_bind out))
          | exact wpAny_bind out
      | @cons y kq b1 bs p1 p2 rest2 qs2 hName hSuite more ih =>
        intro asked2
        obtain ⟨yes, isMatch, whenYes, whenNo⟩ := asked2
        refine wpAny_handleBy_cons (codeAny_handlers_test ?_) (by intro z; cases z)
        have tyLook : PySem.W.Looks (model X.prog X.w) hA (typeOf (.ref b)) cls := fun A' Q' E' s' keep q' => wpAny_typeOf_ref (keep _ _ atA) (by rw [zA.1]; exact q')
        have matcher := PySem.W.exm_one (M := model X.prog X.w) (JA.kIn) tyLook isMatch
        have classOf : ∀ {Q' : Value → Shared → Prop} {E' : Value → Shared → Prop}, Q' kq.1 { sE with heap := hA } → wpAny (model X.prog X.w) (X.A.mark (some (.ref b))) (eval (.Name y p1) X.env) Q' E' { sE with heap := hA } := fun {Q' E'} q' => by
          obtain ⟨isG, notDbg, own | ⟨noOwn, isB, notNm⟩⟩ := hName
          · exact ld_glob (X := X.suite b ((b, obA) :: (X.pn ++ pins0))) SA isG own q' notDbg
          · exact ld_blt (X := X.suite b ((b, obA) :: (X.pn ++ pins0))) SA isG noOwn isB q' notNm notDbg
        refine classOf (matcher.here ?_)
        cases yes with
        | false => exact ih (whenNo rfl)
        | true =>
          refine codeAny_handlers_suite_as (HandSPX.lands_againZ landed fun hB landedB grown3 => ?_)
          have JB : Inv X pins0 τ G { sE with heap := hB } := J.landed fresh landedB.1 ((grown.trans grown2).trans grown3) oSame genOk
          obtain ⟨obB, fsB, atB, zB, dB⟩ := landedB.there
          have SB := JB.suite atB dB Gb offLoc offFs
          refine store_ok (X := X.suite b ((b, obB) :: (X.pn ++ pins0))) (v := .ref b) SB nd ix locN rfl (fun sJ SJ => ?_) (.inr lo)
          refine wpAny_mono ((hSuite b obB cls d (X.pn ++ pins0) zB ⟨_, dB⟩).run [] sJ _ G _ SJ (whenYes rfl b Gb)) (fun fl sK endsK => ?_) (fun _ _ z => False.elim z)
          have behind : ∀ {τ' : L2.St} {G' : Hp} {Q' : Shared → Prop}, Inv (X.suite b ((b, obB) :: (X.pn ++ pins0))) [] τ' G' sK → (∀ sL, Inv X pins0 (τ'.set i none) G' sL → Q' sL) →
              wpAny (model X.prog X.w) X.A (do bindName X.env nm .none; unbindBehindTheSuite X.env nm p2) (fun _ sL => Q' sL) X.xe sK := fun {τ' G' Q'} inK hq' => gone_ok (inK.unsuite okE) nd ix lo hq'
          cases fl with
          | next =>
            obtain ⟨τ', G', inK, qK⟩ := endsK
            exact behind inK fun sL JL => ⟨_, _, JL, qK⟩
          | brk =>
            obtain ⟨τ', G', inK, qK⟩ := endsK
            exact behind inK fun sL JL => ⟨_, _, JL, qK⟩
          | cont =>
            obtain ⟨τ', G', inK, qK⟩ := endsK
            exact behind inK fun sL JL => ⟨_, _, JL, qK⟩
          | ret uK =>
            obtain ⟨vK, τ', G', inK, rK, qK⟩ := endsK
            exact behind inK fun sL JL => ⟨_, _, _, JL, rK, qK⟩
    exact each hk asked
  · cases fl with
    | next =>
      obtain ⟨τ', G', inF, qF⟩ := ends
      exact wpAny_execs_nil ⟨τ', G', inF.ofTry okE, qF⟩
    | brk =>
      obtain ⟨τ', G', inF, qF⟩ := ends
      exact ⟨τ', G', inF.ofTry okE, qF⟩
    | cont =>
      obtain ⟨τ', G', inF, qF⟩ := ends
      exact ⟨τ', G', inF.ofTry okE, qF⟩
    | ret uF =>
      obtain ⟨vF, τ', G', inF, rF, qF⟩ := ends
      exact ⟨vF, τ', G', inF.ofTry okE, rF, qF⟩

/-- which clause takes the class -/
def pickN : List (List (Nat × Option (Nat → FE))) → Nat → Option (Option (Nat → FE))
  | [], _ => some none
  | hs :: r, c => match hs.lookup c with
    | some (some f) => some (some f)
    | some none => pickN r c
    | none => none
def endTry (i : Nat) (f : Nat → FE) (ρ : Rho) : Out := match f 0 (frz (ρ.set i (some (0, opqD 0)))) with
  | .ok d => .ret d
  | _ => .bad
open Classical in
/-- try: .., except X as e: return .., except Y as e: return .. -/
noncomputable def sTryN (i : Nat) (Fb : SF) (css : List (List (Nat × Option (Nat → FE)))) : SF := fun ρ => match Fb ρ with
  | .ex c ρ' => (match pickN css c with
    | some (some f) => if i < ρ'.length ∧ ∀ a, f a (frz (ρ'.set i (some (0, opqD a)))) = f 0 (frz (ρ'.set i (some (0, opqD 0)))) then endTry i f ρ' else .bad
    | some none => .ex c ρ'
    | none => .bad)
  | o => o
def clauseT (G : Ct) (n : Nat) (D : Addr) (hs : List (Nat × Option (Nat → FE))) : ClauseT := (.ref D, fun a cls d => fun E σ H => ∃ c f, (c, some f) ∈ hs ∧ cls = .ref (G.xc c) ∧ d = none ∧ tDS G W0 n (sRet (f a)) E σ H)
inductive ClOk (X : Cx) (C : Addr) (xc : Nat → Addr) (n : Nat) (nm : Str) : List ExceptHandler → List ClauseT → List (List (Nat × Option (Nat → FE))) → Prop
  | nil : ClOk X C xc n nm [] [] []
  | cons {y : Str} {D : Addr} {e : Expr} {hs : List (Nat × Option (Nat → FE))} {np rp pos' : Pos} {rest : List ExceptHandler} {cl : List ClauseT} {css : List (List (Nat × Option (Nat → FE)))} : Names X y (.ref D) → (∀ p ∈ hs, PySem.W.exmOne X.K (.ref (xc p.1)) (.ref D) = some p.2.isSome) →
      (∀ c f, (c, some f) ∈ hs → ∀ (a : Addr) (oe : Obj) (pn : List (Addr × Obj)), Zc (.ref (xc c)) none oe → (∃ vs, oe.data = .fields vs) → PE (X.suite a ((a, oe) :: pn)) e (tDO (ct X C xc) W0 n (f a))) → ClOk X C xc n nm rest cl css →
      ClOk X C xc n nm (.ExceptHandler (some (.Name y np)) (some nm) [.Return (some e) rp] pos' :: rest) (clauseT (ct X C xc) n D hs :: cl) (hs :: css)
theorem ClOk.named {nm : Str} {hds : List ExceptHandler} {cl : List ClauseT} {css : List (List (Nat × Option (Nat → FE)))} (h : ClOk X C xc n nm hds cl css) : NamedHs X nm hds cl := by
  induction h with
  | nil => exact .nil
  | cons hN hcatch hsu _ ih =>
    refine .cons hN (fun a oe cls d pn hz hfl => ⟨fun pins s σ H Dn I ⟨c, f, hm, e1, e2, h⟩ => ?_⟩) ih
    subst e1 e2
    exact (dss_one (X := X.suite a ((a, oe) :: pn)) (C := C) (xc := xc) (W := W0) (n := n) (ds_ret (X := X.suite a ((a, oe) :: pn)) (C := C) (xc := xc) (hsu c f hm a oe pn hz hfl))).run pins s σ H Dn I h
open Classical in
theorem ClOk.wish {nm : Str} {i : Nat} {hds : List ExceptHandler} {cl : List ClauseT} {css : List (List (Nat × Option (Nat → FE)))} (h : ClOk X C xc n nm hds cl css) {c : Nat} {Dn : Ends} {B0 H0 : Hp} {σ : L2.St} {H : Hp} {ρ : Rho} (st : StOk (ct X C xc) B0 H0 σ H ρ)
    (p : Post (ct X C xc) W n B0 H0 Dn (match pickN css c with
      | some (some f) => if i < ρ.length ∧ ∀ a, f a (frz (ρ.set i (some (0, opqD a)))) = f 0 (frz (ρ.set i (some (0, opqD 0)))) then endTry i f ρ else .bad
      | some none => .ex c ρ
      | none => .bad)) : wNamed X.K i W Dn cl (.ref (xc c)) none σ H := by
  induction h with
  | nil => exact p σ H st
  | @cons y D e hs np rp pos' rest cl css hN hcatch hsu _ ih =>
    unfold pickN at p
    cases hl : hs.lookup c with
    | none => rw [hl] at p; exact p.elim
    | some o =>
      rw [hl] at p
      have hm := mem_lookup hl
      cases o with
      | none => exact ⟨false, hcatch _ hm, (fun z => nomatch z), fun _ => ih p⟩
      | some f =>
        dsimp only at p
        split at p
        · rename_i hc2
          refine ⟨true, hcatch _ hm, fun _ a ha => ⟨c, f, hm, rfl, rfl, B0, H0, ρ.set i (some (0, opqD a)), ?_, ?_⟩, fun z => nomatch z⟩
          · obtain ⟨B, A, x1, r, nd, fr⟩ := st
            obtain ⟨A', k1, k2, k3⟩ := ER.set (n := 0) (Av := []) (G := ct X C xc) (B := B) (H := H) ⟨R.opq a, rfl⟩ i r hc2.1 nd List.nodup_nil (fun _ z => nomatch z)
            exact ⟨B, A', x1, k1, k2, fun a ha => (k3 a ha).elim (fun z => nomatch z) (fr a)⟩
          · unfold sRet
            rw [hc2.2 a]
            unfold endTry at p
            revert p
            cases f 0 (frz (ρ.set i (some (0, opqD 0)))) with
            | ok d => exact fun p => p
            | ex c => exact fun p => p.elim
            | bad => exact fun p => p.elim
        · exact p.elim
theorem ds_try_named {i : Nat} {nm : Str} {body : List Stmt} {Fb : SF} {h0 : ExceptHandler} {hds : List ExceptHandler} {cl : List ClauseT} {css : List (List (Nat × Option (Nat → FE)))} {pos : Pos} (tk : Takes X W) (hN : X.N.Nodup)
    (hb : ∀ (W' : WX) (pn : List (Addr × Obj)) (xe : Value → Shared → Prop), Takes (X.tr pn xe) W' → PSs (X.tr pn xe) body (tDS (ct X C xc) W' n Fb)) (hh : ClOk X C xc n nm (h0 :: hds) cl css)
    (hst : X.stack = X.env :: X.outer := by rfl) (hf : X.env.frame = some X.env.locals := by rfl) (hi : X.N[i]? = some nm := by rfl) (hln : X.env.kindOf nm = some .local := by rfl) :
    PS X (.Try body (h0 :: hds) [] [] pos) (tDS (ct X C xc) W n (sTryN i Fb css)) := by
  refine weakS (ps_named hst hf hN hi hln tk (fun W' pn xe t _ => hb W' pn xe t) hh.named) fun D σ H ⟨B0, H0, ρ, st, p⟩ => ?_
  refine ⟨B0, H0, ρ, st, ?_⟩
  unfold sTryN at p
  revert p
  cases Fb ρ with
  | ex c ρ' => exact fun p σ' H' st' => hh.wish st' p
  | nx ρ' => exact fun p => p
  | ret d => exact fun p => p
  | brk ρ' => exact fun p => p
  | ct ρ' => exact fun p => p
  | bad => exact fun p => p
end
end M

/-! MMore7: what is made of what is owned, new to the ground: the owned stays owned. -/
namespace M
open PySem PySem.Spec L2 PyProof.Rows Evl
mutual
/-- a tree of depth n whose leaves are numbers, texts, truth values -/
def leafS : Nat → PyData → Bool
  | 0, d => scalD d
  | n + 1, .list ds => leafSs n ds
  | n + 1, .dict [(.none, .int _), (.none, m)] => leafS n m
  | _ + 1, .dict _ => false
  | _ + 1, .tuple _ => false
  | _ + 1, d => scalD d
def leafSs : Nat → List PyData → Bool
  | _, [] => true
  | n, d :: ds => leafS n d && leafSs n ds
end
theorem leafSs_all {n : Nat} : ∀ {ds : List PyData}, leafSs n ds = true ↔ ∀ d ∈ ds, leafS n d = true
  | [] => by simp [leafSs]
  | d :: ds => by
    simp only [leafSs, Bool.and_eq_true, List.mem_cons, forall_eq_or_imp, leafSs_all (ds := ds)]
theorem leafS_net {n : Nat} {i : Int} {m : PyData} : leafS (n + 1) (netD i m) = leafS n m := by
  unfold netD
  simp only [leafS]
theorem Own.rebase {G : Ct} {B B1 H : Hp} (e : Ex B B1) : ∀ (n : Nat) (v : V) (d : PyData) (A : List Addr), Own G B1 H n v d A → leafS n d = true → Own G B H n v d A
  | 0, v, d, A, ⟨r, ea⟩, hl => ⟨r.scal (by simpa only [leafS] using hl), ea⟩
  | n + 1, v, d, A, h, hl => by
    have go : ∀ {vs : List V} {ds : List PyData} {A' : List Addr}, OA (Own G B1 H n) vs ds A' → (∀ d ∈ ds, leafS n d = true) → OA (Own G B H n) vs ds A' := by
      intro vs ds A' q
      induction q with
      | nil => intro _; exact .nil
      | cons h1 _ ih => exact fun z => .cons (Own.rebase e n _ _ _ h1 (z _ List.mem_cons_self)) (ih fun d hd => z d (List.mem_cons_of_mem _ hd))
    rcases h with ⟨p, vs, ds, A', e1, e2, h1, hz, h2, h3, e3⟩ | (⟨p, xs, kvs, e1, e2, h1, hs, h2, h3, e3⟩ | ⟨p, dx, i, vm, mm, A', e1, e2, h1, h2, h3, e3⟩) | ⟨p, vs, ds, A', e1, e2, h1, h2, h3, e3⟩ | ⟨h1, h2, e3⟩
    · subst e2
      simp only [leafS] at hl
      exact .inl ⟨p, vs, ds, A', e1, rfl, h1, hz, Ex.back e h2, go h3 (leafSs_all.mp hl), e3⟩
    · subst e2
      exfalso
      cases h3 with
      | nil => simp [leafS] at hl
      | cons hk ho hv hu r =>
        rename_i k dd nk p' u v' xs' kvs'
        have ht := (keyOk_tup ho).1
        cases k with
        | tuple ks =>
          simp [leafS] at hl
        | _ => cases ht
    · subst e2
      rw [leafS_net] at hl
      exact .inr (.inl (.inr ⟨p, dx, i, vm, mm, A', e1, rfl, h1, Ex.back e h2, Own.rebase e n vm mm A' h3 hl, e3⟩))
    · subst e2
      simp [leafS] at hl
    · refine .inr (.inr (.inr ⟨h1, ?_, e3⟩))
      cases d with
      | list ds => cases h1
      | dict kvs => cases h1
      | tuple ds => simp [leafS] at hl
      | none => exact h2.scal rfl
      | bool b => exact h2.scal rfl
      | int i => exact h2.scal rfl
      | str x => exact h2.scal rfl
/-- x = e, all names read as shared, what is made is new to the ground: x's own, then shared -/
def sSetO (i k : Nat) (f : FE) : SF := fun ρ => withE (f (frz ρ)) ρ fun d => if leafS k d = true ∧ i < ρ.length then .nx (ρ.set i (some (k, d))) else .bad
def sSetN (i k : Nat) (f : FE) : SF := fun ρ => withE (f (frz ρ)) ρ fun d => if leafS k d = true ∧ i < ρ.length then .nx (ρ.set i (some (0, d))) else .bad
section
variable {X : Cx} {C : Addr} {xc : Nat → Addr} {W : WX} {n m : Nat}
/-- .. as seqF, the value's tree told over the ground itself -/
theorem seqO {G : Ct} {B0 H0 : Hp} {σ : L2.St} {H : Hp} {ρ : Rho} {D : Ends} {f : FE} {k : PyData → Out} {Q1 : VK} (h : StOk G B0 H0 σ H ρ) (p : Post G W n B0 H0 D (withE (f (frz ρ)) ρ k))
    (hk : ∀ d v B H1 A Av, f (frz ρ) = .ok d → Ext B0 H0 B H1 → ER G B H1 σ ρ A → A.Nodup → (∀ a ∈ A, H0 a = none) → (leafS m d = true → Own G B H1 m v d Av) → Av.Nodup → (∀ a ∈ Av, a ∉ A) → (∀ a ∈ Av, H0 a = none) → Post G W n B0 H0 D (k d) → Q1 v H1) :
    tDO G W m f σ H Q1 := by
  obtain ⟨B, A, x, r, nd, fr⟩ := h
  have hb : ∀ a ∈ A, B a = none := fun a ha => (r.nodes a ha).2
  refine ⟨fz A B H, frz ρ, fz_le x.w, ⟨[], r.frozen, List.nodup_nil⟩, ?_⟩
  revert p
  cases q : f (frz ρ) with
  | ok d =>
    intro p v B1 H1 Av x1 hv nv fv
    have y : Ext B H B H1 := .heap x.w x1.h
    exact hk d v B H1 A Av q (x.trans y) (r.ext y) nd fr (fun hl => Own.rebase ((fz_ex hb).trans x1.b) m v d Av hv hl) nv (fun a ha z => (r.nodes a z).1 (fv a ha)) (fun a ha => Ex.back x.h (fv a ha)) p
  | ex c => exact fun p B1 H1 x1 => p σ H1 ⟨B, A, x.trans (.heap x.w x1.h), r.ext (.heap x.w x1.h), nd, fr⟩
  | bad => exact fun p => p
theorem frzAt_set {ρ : Rho} {i k : Nat} {d : PyData} (hi : i < ρ.length) : frzAt i (ρ.set i (some (k, d))) = ρ.set i (some (0, d)) := by
  unfold frzAt
  rw [List.getElem?_set_self hi]
  dsimp only
  rw [List.set_set]
theorem ds_setO {i : Nat} {x : Str} {e : Expr} {f : FE} {pos pos' : Pos} (hN : X.N.Nodup) (he : PE X e (tDO (ct X C xc) W m f)) (hi : X.N[i]? = some x := by rfl) (hx : Loc X.env.scope x := by first | exact Or.inl rfl | exact Or.inr rfl) (hs : swapsWith e (some (.Name x pos')) pos.line X.env = pure false := by rfl)
    (hf : X.fn x = true ∨ X.env.scope.names.lookup x = some .local := by first | exact .inl rfl | exact .inr rfl | assumption) : PS X (.Assign [.Name x pos'] e pos) (tDS (ct X C xc) W n (sSetO i m f)) :=
  weakS (ps_set hN hi hx he hs hf) fun D σ H ⟨B0, H0, ρ, st, p⟩ => by
    refine seqO st p fun d v B H1 A Av q x1 r nd fr hv nv na fv p1 => ?_
    split at p1
    · rename_i hc
      obtain ⟨A', h1, h2, h3⟩ := ER.set (hv hc.1) i r hc.2 nd nv na
      exact p1 _ _ ⟨B, A', x1, h1, h2, fun a ha => (h3 a ha).elim (fv a) (fr a)⟩
    · exact p1.elim
theorem ds_setN {i : Nat} {x : Str} {e : Expr} {f : FE} {pos pos' : Pos} (hN : X.N.Nodup) (he : PE X e (tDO (ct X C xc) W m f)) (hi : X.N[i]? = some x := by rfl) (hx : Loc X.env.scope x := by first | exact Or.inl rfl | exact Or.inr rfl) (hs : swapsWith e (some (.Name x pos')) pos.line X.env = pure false := by rfl)
    (hf : X.fn x = true ∨ X.env.scope.names.lookup x = some .local := by first | exact .inl rfl | exact .inr rfl | assumption) : PS X (.Assign [.Name x pos'] e pos) (tDS (ct X C xc) W n (sSetN i m f)) :=
  weakS (ps_set hN hi hx he hs hf) fun D σ H ⟨B0, H0, ρ, st, p⟩ => by
    refine seqO st p fun d v B H1 A Av q x1 r nd fr hv nv na fv p1 => ?_
    split at p1
    · rename_i hc
      obtain ⟨A', h1, h2, h3⟩ := ER.set (hv hc.1) i r hc.2 nd nv na
      have s2 : StOk (ct X C xc) B0 H0 _ H1 (ρ.set i (some (m, d))) := ⟨B, A', x1, h1, h2, fun a ha => (h3 a ha).elim (fv a) (fr a)⟩
      have s3 := s2.frzAt i
      rw [frzAt_set hc.2] at s3
      exact p1 _ _ s3
    · exact p1.elim
end
end M

/-! MMore8: a list made longer by a tuple; min of a tuple; xs[::-1]; items counted, found. -/
namespace M
open PySem PySem.Spec L2 PyProof.Rows Evl
section
variable {X : Cx} {C : Addr} {xc : Nat → Addr} {W : WX} {n m : Nat}
theorem ext_tup (p q : Addr) (xs ys : Array Value) (i j : Nat) (dd : Option Addr) (sl : Array (Option Value)) (few : ¬ (!xs.isEmpty && Builtin.List.listTooLong (xs.size + ys.size)) = true) (h1 : xs.size ≤ sizeLine) (h2 : xs.size + ys.size ≤ sizeLine + 1) :
    Meets (Builtin.«list.extend» ⟨[.ref p, .ref q], []⟩) (fun _ Rr st => st.heap.get? p = some { cls := .type "list", dict := none, data := .seq xs i, slots := #[] } ∧ st.heap.get? q = some { cls := .type "tuple", dict := dd, data := .seq ys j, slots := sl } ∧
      Rr (.ok (.ret Value.none)) { st with heap := st.heap.update p (Obj.mapSeq fun z => z ++ ys), toks := st.toks }) :=
  .of_wp fun prog w A Rr st hh => by
    obtain ⟨hp', gg, dr, tt, oo⟩ := st
    obtain ⟨ha, hb, hr⟩ := hh
    have f1 := AutoSeq1.idx_int
    have f2 := AutoSeq1.sub_tuple_tuple
    have f3 := AutoSeq1.sub_list_list
    have f4 := AutoSeq1.sub_tuple_list
    have f5 := AutoSeq1.sub_list_tuple
    have hz' : (xs ++ ys).size ≤ sizeLine + 1 := by rw [Array.size_append]; exact h2
    wp_walk using (wpAny_updateSeq ha rfl (hz := h1) (_hz' := hz')), AutoSeq1.wpAny_loadPart' ha, AutoSeq1.wpAny_loadPart' hb
    exact ⟨_, rfl, hr⟩
def rExtT (K : PySem.W.Frag) : V → List V → Hp → VK → Prop := fun x vs H Q => ∃ l b xs zs, x = .ref l ∧ vs = [.ref b] ∧ H l = some (.lst xs) ∧ SqT K H b zs ∧ xs.length + zs.length ≤ sizeLine ∧ Q .non (upd H l (.lst (xs ++ zs)))
theorem mt_extT : MtM X "list.extend" (rExtT X.K) := by
  intro pins s σ H x vs v us Q I rx rv h
  obtain ⟨l, b, xs, zs, rfl, rfl, hH, hB, hz, q⟩ := h
  cases rx
  obtain ⟨u, rfl, ru⟩ := rv.one
  cases ru
  obtain ⟨zl, its, k, r, hl, el⟩ := I.lstM hH
  obtain ⟨its2, r2, ⟨⟨c2, d2, dt2, s2⟩, g2, hc2, k2, hd2⟩, hl2⟩ := I.tuple hB
  dsimp only at hc2 hd2
  subst hc2 hd2
  have hl3 := r2.length
  have hsz : its.toArray.size + its2.toArray.size ≤ sizeLine := by rw [List.size_toArray, List.size_toArray]; omega
  have few : ¬ (!its.toArray.isEmpty && Builtin.List.listTooLong (its.toArray.size + its2.toArray.size)) = true := by
    rw [notLongL hsz]
    simp
  refine call_meets PySem.F.slot_list_extend ⟨_, el, rfl⟩ PySem.F.entry_list_extend (PySem.F.args_list_extend_2 _ _)
    (ext_tup l b its.toArray its2.toArray k k2 d2 s2 few (by rw [List.size_toArray]; omega) (by omega)) ⟨el, g2, ?_⟩
  have hz3 : (xs ++ zs).length ≤ sizeLine := by rw [List.length_append]; omega
  exact ⟨.non, _, I.lset (its' := its ++ its2) hH el (by simp) (r.append r2) hz3, rfl, q⟩
/-- x.extend(e), e a tuple, x owned, its items not -/
def sExtT (i : Nat) (f : FE) : SF := fun ρ => match ρ[i]? with
  | some (some (k, .list ds)) => if k = 1 ∧ ds.length < 1000000 then withE (f ρ) ρ fun d => (match d with
    | .tuple es => if es.length ≤ 1000 then .nx (ρ.set i (some (1, .list (ds ++ es)))) else .bad
    | _ => .bad) else .bad
  | _ => .bad
theorem Own.extend0 {G : Ct} {B H : Hp} {v : V} {ds es : List PyData} {ws : List V} {A : List Addr} (h : Own G B H 1 v (.list ds) A) (nd : A.Nodup) (hw : RA G B ws es) (hz : ds.length < 1000000) (hz2 : es.length ≤ 1000) :
    ∃ p vs, v = .ref p ∧ H p = some (.lst vs) ∧ vs.length + ws.length ≤ sizeLine ∧ A = [p] ∧ Own G B (upd H p (.lst (vs ++ ws))) 1 v (.list (ds ++ es)) A := by
  obtain ⟨p, vs, A', rfl, h1, hz1, h2, h3, rfl⟩ := h.root
  obtain ⟨r, rfl⟩ := h3.to_RA
  have hl : vs.length + ws.length ≤ sizeLine := by
    rw [r.length, hw.length, sizeLine_eq]
    omega
  refine ⟨p, vs, rfl, h1, hl, rfl, .inl ⟨p, vs ++ ws, ds ++ es, [], rfl, rfl, upd_same, by rw [List.length_append]; exact hl, h2, OA.of_RA (r.append hw), rfl⟩⟩
theorem ds_extT {i : Nat} {x : Str} {e : Expr} {f : FE} {p apos cpos pos : Pos} (he : PE X e (tD (ct X C xc) W f)) (hN : X.N[i]? = some x := by rfl) (hv : Vis X.env.scope x := by first | exact Or.inl rfl | exact Or.inr (Or.inl rfl) | exact Or.inr (Or.inr rfl))
    (hd : (x == ("__debug__" : Str)) = false := by decide) (hcd : (x == ("__classdict__" : Str)) = false := by decide) (hs : swapsWith (.Call (.Attribute (.Name x p) "extend" apos) [e] [] cpos) none pos.line X.env = pure false := by rfl)
    (hbase : attributeBase (.Name x p) "extend" X.env (eval (.Name x p) X.env) = eval (.Name x p) X.env := by rfl)
    (hfew : ((backTo cpos (starEach [e] X.env)).all (fun x => !x.1) && (backToKw cpos (keywordEach [] X.env)).all (fun x => x.1.isSome)
      && decide ([e].length + ([] : List Keyword).length + (if ([] : List Keyword).isEmpty then 0 else 1) < 30)) = true := by rfl)
    (hline : (apos.endLine == cpos.line) = true := by rfl) (hst : starEach [e] X.env = (false, eval e X.env) :: starEach [] X.env := by rfl) (hplain : (backTo cpos (starEach [] X.env)).any (·.1) = false := by rfl) :
    PS X (.Expr (.Call (.Attribute (.Name x p) "extend" apos) [e] [] cpos) pos) (tDS (ct X C xc) W n (sExtT i f)) :=
  weakS (ps_expr (pe_bm PySem.F.plainAttrs_list PySem.F.slot_list_extend PySem.F.type_list_extend mt_extT (pe_var hN hv hd hcd) (pa_cons he pa_nil hst) hbase hfew hline hst hplain) hs) fun D σ H ⟨B0, H0, ρ, st, p⟩ => by
    unfold sExtT at p
    split at p
    · rename_i k ds q
      split at p
      · rename_i hk
        obtain ⟨rfl, hz⟩ := hk
        obtain ⟨B, A, x, r, nd, fr⟩ := id st
        obtain ⟨v, Ai, h1, h2, h3, h4, _⟩ := r.change nd q
        obtain ⟨pp, vs, _, ev, hp, _⟩ := h2.root
        refine ⟨v, h1, ?_, ?_⟩
        · rw [ev]; exact .inl ⟨rfl, vs, SqL.of hp⟩
        refine seqS (m := 0) st p fun d u B1 H1 A1 Av q1 x1 r1 nd1 fr1 hu nu na fu p1 => ?_
        obtain ⟨v', Ai', g1, g2, g3, g4, g5⟩ := r1.change nd1 q
        rw [h1] at g1
        cases g1
        split at p1
        · rename_i es
          split at p1
          · rename_i hes
            obtain ⟨a, ws, rfl, ht, hw⟩ := hu.1.tup_inv
            obtain ⟨pp', vs', ev', hp', hl', hA, t1⟩ := g2.extend0 g3 hw hz hes
            have hpA : pp' ∈ Ai' := by rw [hA]; exact List.mem_cons_self
            have hpB : B1 pp' = none := (g2.nodes _ _ _ _ pp' hpA).2
            have hp0 : H0 pp' = none := fr1 pp' (g4 pp' hpA)
            refine ⟨pp', a, vs', ws, ev', rfl, hp', ex_t x1.w ht, hl', ?_⟩
            exact p1 σ _ (changed (x1.mut hp0 hpB) fr1 g4 (fun a ha => fr1 a (g4 a ha)) (d := .list ds) (g5 _ _ Ai' (fun a ha ha' => upd_ne fun e => ha' (e ▸ hpA)) t1 g3 fun a ha => .inl ha))
          · exact p1.elim
        · exact p1.elim
      · exact p.elim
    · exact p.elim
end
end M

/-! MMore9: x[a].append(e). -/
namespace M
open PySem PySem.Spec L2 PyProof.Rows Evl
def sAppend2 (i : Nat) (fa f : FE) : SF := fun ρ => match ρ[i]? with
  | some (some (k, .list ds)) => if k = 2 then withE (fa (frz ρ)) ρ fun za => (match za with
      | .int za => (match ixN ds.length za with
        | some j => (match ds[j]? with
          | some (.list es) => if es.length < 1000000 then withE (f (frz ρ)) ρ fun d => if scalD d = true then .nx (ρ.set i (some (2, .list (ds.set j (.list (es ++ [d])))))) else .bad else .bad
          | _ => .bad)
        | none => .bad)
      | _ => .bad) else .bad
  | _ => .bad
section
variable {X : Cx} {C : Addr} {xc : Nat → Addr} {W : WX} {n m : Nat}
theorem ds_append2 {i : Nat} {x : Str} {e ea : Expr} {f fa : FE} {p sp apos cpos pos : Pos} (ha : PE X ea (tD (ct X C xc) W fa)) (he : PE X e (tD (ct X C xc) W f)) (hN : X.N[i]? = some x := by rfl) (hv : Vis X.env.scope x := by first | exact Or.inl rfl | exact Or.inr (Or.inl rfl) | exact Or.inr (Or.inr rfl))
    (hd : (x == ("__debug__" : Str)) = false := by decide) (hcd : (x == ("__classdict__" : Str)) = false := by decide) (hs : swapsWith (.Call (.Attribute (.Subscript (.Name x p) ea sp) "append" apos) [e] [] cpos) none pos.line X.env = pure false := by rfl)
    (hbase : attributeBase (.Subscript (.Name x p) ea sp) "append" X.env (eval (.Subscript (.Name x p) ea sp) X.env) = eval (.Subscript (.Name x p) ea sp) X.env := by rfl)
    (hfew : ((backTo cpos (starEach [e] X.env)).all (fun x => !x.1) && (backToKw cpos (keywordEach [] X.env)).all (fun x => x.1.isSome)
      && decide ([e].length + ([] : List Keyword).length + (if ([] : List Keyword).isEmpty then 0 else 1) < 30)) = true := by rfl)
    (hline : (apos.endLine == cpos.line) = true := by rfl) (hst : starEach [e] X.env = (false, eval e X.env) :: starEach [] X.env := by rfl) (hplain : (backTo cpos (starEach [] X.env)).any (·.1) = false := by rfl) (hpl : PlainIx ea := by intro _ _; rfl) :
    PS X (.Expr (.Call (.Attribute (.Subscript (.Name x p) ea sp) "append" apos) [e] [] cpos) pos) (tDS (ct X C xc) W n (sAppend2 i fa f)) :=
  weakS (ps_expr (pe_bm PySem.F.plainAttrs_list PySem.F.slot_list_append PySem.F.type_list_append mt_append (pe_ix ix_list (pe_var hN hv hd hcd) ha hpl) (pa_cons he pa_nil hst) hbase hfew hline hst hplain) hs) fun D σ H ⟨B0, H0, ρ, st, p⟩ => by
    unfold sAppend2 at p
    split at p
    · rename_i k ds q
      split at p
      · rename_i hk
        subst hk
        obtain ⟨B, A, x, r, nd, fr⟩ := id st
        obtain ⟨v', Ai, g1, g2, g3, g4, g5⟩ := r.change nd q
        refine ⟨v', g1, ?_⟩
        refine idxS x.w r (fun H' e' => ⟨B, A, x.trans (.heap x.w e'), r.ext (.heap x.w e'), nd, fr⟩) p fun dz w B2 H2 q2 rz e2 p2 => ?_
        split at p2
        · rename_i za
          split at p2
          · rename_i j hj
            split at p2
            · rename_i es hes
              split at p2
              · rename_i hlen
                have ez := rz.int_inv
                subst ez
                have y12 : Ext B H B H2 := .heap x.w e2
                have r2 := r.ext y12
                obtain ⟨v2, Ai2, k1, k2, k3, k4, k5⟩ := r2.change nd q
                rw [g1] at k1
                cases k1
                obtain ⟨pp, vs, u, Aj, ev, hp, hu, hl, o1, n1, s1, c1⟩ := k2.child k3 hes
                have hatI : atI vs za = some u := by
                  unfold atI
                  rw [hl, hj]
                  exact hu
                refine ⟨pp, vs, za, u, ev, rfl, SqL.of hp, hatI, ?_⟩
                obtain ⟨rp, rvs, rA, erp, hrp, hrz, hrb, hro, hrA⟩ := o1.root
                refine ⟨by rw [erp]; exact .inl ⟨rfl, rvs, SqL.of hrp⟩, ?_⟩
                have x2 := x.trans y12
                refine idxS x2.w r2 (fun H' e' => ⟨B, A, x2.trans (.heap x2.w e'), r2.ext (.heap x2.w e'), nd, fr⟩) p2 fun d w3 B3 H3 q3 hw3 e3 p3 => ?_
                split at p3
                · rename_i hsc
                  have y23 : Ext B H2 B H3 := .heap x2.w e3
                  have r4 := r2.ext y23
                  obtain ⟨v4, Ai4, m1, m2, m3, m4, m5⟩ := r4.change nd q
                  rw [g1] at m1
                  cases m1
                  obtain ⟨pp3, vs3, u3, Aj3, ev3, hp3, hu3, hl3, o3, n3, s3, c3⟩ := m2.child m3 hes
                  have epp : pp3 = pp := by
                    rw [ev] at ev3
                    injection ev3 with ev3
                    exact ev3.symm
                  subst epp
                  have evs : vs3 = vs := by
                    have := e3 _ _ hp
                    rw [hp3] at this
                    cases this
                    rfl
                  subst evs
                  have eu : u3 = u := by
                    rw [hu] at hu3
                    exact (Option.some.inj hu3).symm
                  subst eu
                  have hsv : Own (ct X C xc) B H3 0 w3 d [] := ⟨hw3.scal hsc, rfl⟩
                  obtain ⟨p4, ws, ev4, hp4, hlw, hpA, A2, t1, t2, t3⟩ := o3.append n3 hsv List.nodup_nil (fun _ z => nomatch z) hlen
                  refine ⟨p4, ws, w3, ev4, rfl, hp4, hlw, ?_⟩
                  have hpB : B p4 = none := (o3.nodes _ _ _ _ p4 hpA).2
                  have hpAi : p4 ∈ Ai4 := s3 p4 hpA
                  have hp0 : H0 p4 = none := fr p4 (m4 p4 hpAi)
                  have t3' : ∀ a ∈ A2, a ∈ Aj3 := fun a ha => (t3 a ha).elim (fun z => nomatch z) id
                  obtain ⟨A4, z1, z2, z3⟩ := c3 _ _ A2 (fun a ha ha' => upd_ne fun e => ha' (e ▸ hpA)) t1 t2 (fun a ha => .inl (t3' a ha))
                  have z3' : ∀ a ∈ A4, a ∈ Ai4 := fun a ha => (z3 a ha).elim (fun z => s3 a (t3' a z)) fun z => z.1
                  exact p3 σ _ (changed ((x2.trans y23).mut hp0 hpB) fr m4 (fun a ha => fr a (m4 a (z3' a ha))) (d := .list ds) (m5 _ _ A4 (fun a ha ha' => upd_ne fun e => ha' (e ▸ hpAi)) z1 z2 fun a ha => .inl (z3' a ha)))
                · exact p3.elim
              · exact p2.elim
            · exact p2.elim
          · exact p2.elim
        · exact p2.elim
      · exact p.elim
    · exact p.elim
end
end M

/-! MMore10: items of an owned list read; x[a][b][c] = e; isinstance(x, Net); min of a tuple. -/
namespace M
open PySem PySem.Spec L2 PyProof.Rows Evl
section
variable {X : Cx} {C : Addr} {xc : Nat → Addr} {W : WX} {n m : Nat}
theorem de_varIx {i : Nat} {x : Str} {e : Expr} {f : FE} {px pos : Pos} (he : PE X e (tD (ct X C xc) W f)) (hN : X.N[i]? = some x := by rfl) (hv : Vis X.env.scope x := by first | exact Or.inl rfl | exact Or.inr (Or.inl rfl) | exact Or.inr (Or.inr rfl)) (hd : (x == ("__debug__" : Str)) = false := by decide)
    (hcd : (x == ("__classdict__" : Str)) = false := by decide) (hs : PlainIx e := by intro _ _; rfl) : PE X (.Subscript (.Name x px) e pos) (tD (ct X C xc) W (fVarIx i f)) := weak (pe_ix ix_list (pe_var hN hv hd hcd) he hs) fun σ H Q ⟨B, ρ, e0, env, p⟩ => by
  unfold fVarIx at p
  split at p
  · rename_i k ds q
    split at p
    · rename_i hk
      obtain ⟨A, r, nd⟩ := id env
      obtain ⟨v, A1, g1, g2, _⟩ := r.get q
      have key : ∃ a vs, v = .ref a ∧ H a = some (.lst vs) ∧ RA (ct X C xc) B vs ds := by
        cases k with
        | zero =>
          obtain ⟨a, vs, e1, h1, h2⟩ := g2.1.list_inv
          exact ⟨a, vs, e1, e0 _ _ h1, h2⟩
        | succ k =>
          have hk0 : k = 0 := by omega
          subst hk0
          obtain ⟨a, vs, A', e1, h1, _, _, h3, _⟩ := g2.root
          exact ⟨a, vs, e1, h1, h3.to_RA.1⟩
      obtain ⟨a, vs, rfl, ha, hr⟩ := key
      refine ⟨_, g1, ?_⟩
      refine seqE (m := 0) e0 env p fun d w B1 H1 Aw qw x1 hw _ _ p1 => ?_
      split at p1
      · rename_i z
        split at p1
        · rename_i d hd'
          have ez := hw.1.int_inv
          subst ez
          obtain ⟨u, h2, h3⟩ := hr.at hd'
          exact ⟨a, vs, z, u, rfl, rfl, SqL.of (x1.h _ _ ha), h2, fin0 p1 (.refl x1.w) (h3.mono x1.b)⟩
        · exact p1.elim
      · exact p1.elim
    · exact p.elim
  · exact p.elim
/-! ### isinstance(x, Net) -/
def NetC (K : PySem.W.Frag) (D : Addr) : Prop := (PySem.W.findIn K (.ref D) "__class__" = some (some (.builtin "object.__class__")) ∧ PySem.W.mroIn K D (.type "object") = some true) ∧ PySem.W.specialIn K (.builtin "object.__class__") "__get__" = some (some (.builtin "getset_descriptor.__get__")) ∧ PySem.W.takesIn K (.builtin "object.__class__") = some true
def netB (x : Str) (K : PySem.W.Frag) : Bool := decide (PySem.W.findIn K (.ref (He.ga K x)) "__class__" = some (some (.builtin "object.__class__"))) && (decide (PySem.W.specialIn K (.builtin "object.__class__") "__get__" = some (some (.builtin "getset_descriptor.__get__")))
  && (decide (PySem.W.takesIn K (.builtin "object.__class__") = some true) && decide (PySem.W.mroIn K (He.ga K x) (.type "object") = some true)))
theorem netB_ok {K : PySem.W.Frag} {x : Str} (h : netB x K = true) : NetC K (He.ga K x) := by
  unfold netB at h
  simp only [Bool.and_eq_true, decide_eq_true_eq] at h
  exact ⟨⟨h.1, h.2.2.2⟩, h.2.1, h.2.2.1⟩
def dIsiNet (d : D) : O := if isNetD d = true then .ok (.bool true) else .bad
theorem de_isiNet {e : Expr} {f : FE} {p pt pos : Pos} (cl : Cls X.K C) (hc : NetC X.K C) (hm : X.mg "isinstance" = none) (hT : X.mg "Net" = some (.ref C)) (h : PE X e (tD (ct X C xc) W f)) (hg : Gl X "isinstance" := by rfl) (hgx : Gl X "Net" := by rfl)
    (he : starEach [e, .Name "Net" pt] X.env = (false, eval e X.env) :: starEach [.Name "Net" pt] X.env := by rfl) (he2 : starEach [.Name "Net" pt] X.env = (false, eval (.Name "Net" pt) X.env) :: starEach [] X.env := by rfl) (hpl : (backTo pos (starEach [.Name "Net" pt] X.env)).any (·.1) = false := by rfl) :
    PE X (.Call (.Name "isinstance" p) [e, .Name "Net" pt] [] pos) (tD (ct X C xc) W (fUn dIsiNet f)) :=
  weak (pe_callB call_isi hg hm (by decide +kernel) (pa_cons h (pa_cons (pe_glob (v := .ref C) hgx hT rfl (by decide)) pa_nil he2) he) (by decide) (by decide) he hpl) fun σ H Q ⟨B, ρ, e, env, p⟩ => by
    refine seqE (m := 0) e env p fun d v B1 H1 A q x ⟨r, _⟩ _ _ p1 => ?_
    unfold dIsiNet at p1
    split at p1
    · rename_i hd
      obtain ⟨i, mm, rfl⟩ := isNetD_inv hd
      obtain ⟨a, dx, y, rfl, h1, _⟩ := R.net_inv r
      refine ⟨.ref a, .ref C, .ref C, .ref C, true, rfl, .own C, .base (.ins (x.w _ _ h1) cl hc.1.1 hc.2.1 hc.2.2 hc.1.2), ?_, fin0 p1 (.refl x.w) (.bl _)⟩
      unfold PySem.W.kitOne
      rw [if_pos (by simp)]
    · exact p1.elim
/-! ### min(t) -/
def minI (n : Int) (ns : List Int) : Int := ns.foldl (fun a y => if y < a then y else a) n
def dMinT : D → O
  | .tuple [.int a, .int b] => .ok (.int (if b < a then b else a))
  | _ => .bad
theorem calm_dMinT : Calm1 (d1 dMinT) := fun ds c h => by
  unfold d1 dMinT at h
  split at h
  · split at h <;> cases h
  · cases h
theorem cd_minT (hc : X.calm = true) (hu : Hu X) : CallR X (.builtin "min") (cD (ct X C xc) 0 (d1 dMinT)) := by
  intro pins s σ H vs us Q I rv ⟨B, ds, e, r, p⟩
  unfold d1 at p
  split at p
  · rename_i d
    obtain ⟨v, rfl, r1⟩ := r.one
    unfold dMinT at p
    split at p
    · rename_i a b
      obtain ⟨ad, ws, rfl, h, q⟩ := r1.tup_inv
      obtain ⟨w1, w2, rfl, q1, q2⟩ := q.two
      have e1 := q1.int_inv
      have e2 := q2.int_inv
      subst e1 e2
      rw [Vals.ref1 rv]
      obtain ⟨its, ri, ht, hz⟩ := I.tuple (ex_t e h)
      obtain ⟨u1, u2, rfl, ru1, ru2⟩ := vals2 ri
      obtain ⟨t1, rfl⟩ := ru1
      obtain ⟨t2, rfl⟩ := ru2
      have rr : ReadsAll s.heap [Value.int a t1, Value.int b t2] [PyData.int a, PyData.int b] ([] ++ ([] ++ [])) := .cons (.int a t1) (.cons (.int b t2) .nil)
      refine PySem.W.min_tuple_data (x := .int a) (xs := [.int b]) (I.ok.hd hc) ht rr ?_ ?_ fun i v h' tk bs hv hr hk => ?_
      · simp [PySem.W.AlikeAll, PySem.W.alike]
      · have := hu
        simp [PyData.depthAll, PyData.depth]
        omega
      · have em : PySem.W.minD (.int a) [.int b] = .int (if b < a then b else a) := by
          unfold PySem.W.minD
          simp only [List.foldl_cons, List.foldl_nil, PySem.W.dataLt_int]
          by_cases hb : b < a <;> simp [hb]
        rw [em] at hr
        cases hr
        exact ⟨.int _, H, I.kept hk, ⟨_, rfl⟩, fin0 p (.refl e) (.int _)⟩
    · exact p.elim
  · exact p.elim
end
end M

/-! MMore11: x[a][b][c] = e. -/
namespace M
open PySem PySem.Spec L2 PyProof.Rows Evl
/-- x[a][b][c] = e, a number; all names read -/
def sStore3 (i : Nat) (fa fb fc f : FE) : SF := fun ρ => match ρ[i]? with
  | some (some (k, .list ds)) => if k = 3 then withE (f (frz ρ)) ρ fun d => if scalD d = true then withE (fa (frz ρ)) ρ fun za => (match za with
      | .int za => (match ixN ds.length za with
        | some j => (match ds[j]? with
          | some (.list es) => withE (fb (frz ρ)) ρ fun zb => (match zb with
            | .int zb => (match ixN es.length zb with
              | some l => (match es[l]? with
                | some (.list gs) => withE (fc (frz ρ)) ρ fun zc => (match zc with
                  | .int zc => (match ixN gs.length zc with
                    | some q => .nx (ρ.set i (some (3, .list (ds.set j (.list (es.set l (.list (gs.set q d))))))))
                    | none => .bad)
                  | _ => .bad)
                | _ => .bad)
              | none => .bad)
            | _ => .bad)
          | _ => .bad)
        | none => .bad)
      | _ => .bad) else .bad else .bad
  | _ => .bad
theorem same_child {v u u' : V} {pp pp' : Addr} {vs vs' : List V} {j : Nat} {H H' : Hp} (e : Ex H H') (h1 : v = .ref pp) (h2 : H pp = some (.lst vs)) (h3 : vs[j]? = some u) (k1 : v = .ref pp') (k2 : H' pp' = some (.lst vs')) (k3 : vs'[j]? = some u') : u' = u := by
  rw [h1] at k1
  injection k1 with k1
  subst k1
  rw [e _ _ h2] at k2
  cases k2
  rw [h3] at k3
  exact (Option.some.inj k3).symm
section
variable {X : Cx} {C : Addr} {xc : Nat → Addr} {W : WX} {n m : Nat}
theorem ds_store3 {i : Nat} {x : Str} {e ea eb ec : Expr} {f fa fb fc : FE} {p apos bpos tpos pos : Pos} (he : PE X e (tD (ct X C xc) W f)) (ha : PE X ea (tD (ct X C xc) W fa)) (hb : PE X eb (tD (ct X C xc) W fb)) (hc : PE X ec (tD (ct X C xc) W fc)) (hN : X.N[i]? = some x := by rfl)
    (hv : Vis X.env.scope x := by first | exact Or.inl rfl | exact Or.inr (Or.inl rfl) | exact Or.inr (Or.inr rfl)) (hd : (x == ("__debug__" : Str)) = false := by decide) (hcd : (x == ("__classdict__" : Str)) = false := by decide)
    (hs : swapsWithSole [.Subscript (.Subscript (.Subscript (.Name x p) ea apos) eb bpos) ec tpos] e pos.line X.env = pure false := by rfl) (hw : swappedStores [.Subscript (.Subscript (.Subscript (.Name x p) ea apos) eb bpos) ec tpos] e X.env = pure none := by rfl)
    (h1 : (assignEach [.Subscript (.Subscript (.Subscript (.Name x p) ea apos) eb bpos) ec tpos] X.env).map (·.2) = [assign (.Subscript (.Subscript (.Subscript (.Name x p) ea apos) eb bpos) ec tpos) X.env] := by rfl) (hpl : PlainIx ea := by intro _ _; rfl) (hpl2 : PlainIx eb := by intro _ _; rfl)
    (has : ∀ v, assign (.Subscript (.Subscript (.Subscript (.Name x p) ea apos) eb bpos) ec tpos) X.env v = (do
      let ov ← holding [v] (eval (.Subscript (.Subscript (.Name x p) ea apos) eb bpos) X.env)
      let iv ← holding [v, ov] (eval ec X.env)
      standAt tpos
      holding [v, ov, iv] (setItem ov iv v)
      release [v, ov, iv] []) := by intro _; rfl) :
    PS X (.Assign [.Subscript (.Subscript (.Subscript (.Name x p) ea apos) eb bpos) ec tpos] e pos) (tDS (ct X C xc) W n (sStore3 i fa fb fc f)) :=
  weakS (ps_asg he (pg_sub (pe_ix ix_list (pe_ix ix_list (pe_var hN hv hd hcd) ha hpl) hb hpl2) hc set_list has) hs hw h1) fun D σ H ⟨B0, H0, ρ, st, p⟩ => by
    unfold sStore3 at p
    split at p
    · rename_i k ds q
      split at p
      · rename_i hk
        subst hk
        refine seqF (m := 0) st p fun d v B1 H1 Av q1 x1 hv1 nv fv st1 p1 => ?_
        split at p1
        · rename_i hsc
          obtain ⟨B, A, x, r, nd, fr⟩ := id st1
          have hH : ∀ H', Ex H1 H' → StOk (ct X C xc) B0 H0 σ H' ρ := fun H' e' => ⟨B, A, x.trans (.heap x.w e'), r.ext (.heap x.w e'), nd, fr⟩
          obtain ⟨v', Ai, g1, _⟩ := r.change nd q
          refine ⟨v', g1, ?_⟩
          refine idxS x.w r hH p1 fun dz w B2 H2 q2 rz e2 p2 => ?_
          split at p2
          · rename_i za
            split at p2
            · rename_i j hj
              split at p2
              · rename_i es hes
                have ez := rz.int_inv
                subst ez
                have x2 : Ext B0 H0 B H2 := x.trans (.heap x.w e2)
                have r2 := r.ext (.heap x.w e2)
                obtain ⟨v2, Ai2, k1, k2, k3, k4, k5⟩ := r2.change nd q
                rw [g1] at k1
                cases k1
                obtain ⟨pp, vs, u, Aj, ev, hp, hu, hl, o1, n1, s1, c1⟩ := k2.child k3 hes
                refine ⟨pp, vs, za, u, ev, rfl, SqL.of hp, (by unfold atI; rw [hl, hj]; exact hu), ?_⟩
                refine idxS x2.w r2 (fun H' e' => hH H' (e2.trans e')) p2 fun dz2 w2 B3 H3 q3 rz2 e3 p3 => ?_
                split at p3
                · rename_i zb
                  split at p3
                  · rename_i l hl2
                    split at p3
                    · rename_i gs hgs
                      have ez2 := rz2.int_inv
                      subst ez2
                      have e13 := e2.trans e3
                      have x3 : Ext B0 H0 B H3 := x.trans (.heap x.w e13)
                      have r3 := r.ext (.heap x.w e13)
                      obtain ⟨v3, Ai3, m1, m2, m3, m4, m5⟩ := r3.change nd q
                      rw [g1] at m1
                      cases m1
                      obtain ⟨pp3, vs3, u3, Aj3, ev3, hp3, hu3, hl3, o3, n3, s3, c3⟩ := m2.child m3 hes
                      have eu := same_child e3 ev hp hu ev3 hp3 hu3
                      subst eu
                      obtain ⟨qp, qs, y, Ak, eqp, hqp, hqu, hql, oq, nq, sq, cq⟩ := o3.child n3 hgs
                      refine ⟨qp, qs, zb, y, eqp, rfl, SqL.of hqp, (by unfold atI; rw [hql, hl2]; exact hqu), ?_⟩
                      refine idxS x3.w r3 (fun H' e' => hH H' (e13.trans e')) p3 fun dz3 w3 B4 H4 q4 rz3 e4 p4 => ?_
                      split at p4
                      · rename_i zc
                        split at p4
                        · rename_i t ht
                          have ez3 := rz3.int_inv
                          subst ez3
                          have e14 := e13.trans e4
                          have x4 : Ext B0 H0 B H4 := x.trans (.heap x.w e14)
                          have r4 := r.ext (.heap x.w e14)
                          obtain ⟨v4, Ai4, t1, t2, t3, t4, t5⟩ := r4.change nd q
                          rw [g1] at t1
                          cases t1
                          obtain ⟨p5, vs5, u5, Aj5, ev5, hp5, hu5, hl5, o5, n5, s5, c5⟩ := t2.child t3 hes
                          have eu5 := same_child e4 ev3 hp3 hu3 ev5 hp5 hu5
                          subst eu5
                          obtain ⟨p6, vs6, y6, Ak6, ev6, hp6, hu6, hl6, o6, n6, s6, c6⟩ := o5.child n5 hgs
                          have ey := same_child e4 eqp hqp hqu ev6 hp6 hu6
                          subst ey
                          have htl := (ixN_seq ht).2.1
                          have hsv : Own (ct X C xc) B H4 0 v d [] := ⟨hv1.1.scal hsc, rfl⟩
                          obtain ⟨p7, ws, ev7, hp7, hlw, hpA, A2, b1, b2, b3⟩ := o6.store n6 hsv List.nodup_nil (fun _ z => nomatch z) htl
                          refine ⟨p7, ws, zc, t, ev7, rfl, hp7, by rw [hlw]; exact ht, ?_⟩
                          have hpB : B p7 = none := (o6.nodes _ _ _ _ p7 hpA).2
                          have hp5' : p7 ∈ Aj5 := s6 p7 hpA
                          have hpAi : p7 ∈ Ai4 := s5 p7 hp5'
                          have hp0 : H0 p7 = none := fr p7 (t4 p7 hpAi)
                          have b3' : ∀ a ∈ A2, a ∈ Ak6 := fun a ha => (b3 a ha).elim (fun z => nomatch z) id
                          obtain ⟨A4, z1, z2, z3⟩ := c6 _ _ A2 (fun a ha ha' => upd_ne fun e => ha' (e ▸ hpA)) b1 b2 (fun a ha => .inl (b3' a ha))
                          have z3' : ∀ a ∈ A4, a ∈ Aj5 := fun a ha => (z3 a ha).elim (fun z => s6 a (b3' a z)) fun z => z.1
                          obtain ⟨A5, y1, y2, y3⟩ := c5 _ _ A4 (fun a ha ha' => upd_ne fun e => ha' (e ▸ hp5')) z1 z2 (fun a ha => .inl (z3' a ha))
                          have y3' : ∀ a ∈ A5, a ∈ Ai4 := fun a ha => (y3 a ha).elim (fun z => s5 a (z3' a z)) fun z => z.1
                          exact p4 σ _ (changed (x4.mut hp0 hpB) fr t4 (fun a ha => fr a (t4 a (y3' a ha))) (d := .list ds) (t5 _ _ A5 (fun a ha ha' => upd_ne fun e => ha' (e ▸ hpAi)) y1 y2 fun a ha => .inl (y3' a ha)))
                        · exact p4.elim
                      · exact p4.elim
                    · exact p3.elim
                  · exact p3.elim
                · exact p3.elim
              · exact p2.elim
            · exact p2.elim
          · exact p2.elim
        · exact p1.elim
      · exact p.elim
    · exact p.elim
end
end M

/-! MHot: a def called within an except suite, with what was caught; list.count, list.index. -/
namespace M
open PySem PySem.Spec L2 PyProof.Rows Evl
abbrev Pin := Addr × Obj
abbrev SpP := Pin → Sp
/-- what a def promises where something is handled: it raises nothing -/
structure FnHot (P : Program) (w : World) (K : PySem.W.Frag) (mg : Str → Option Value) (base : Heap) (k : Nat) (f : Addr) (fd : FuncData) (ps : List Str) (sp : SpP) : Prop where
  many : ∀ p ws G Q E, sp p ws G Q E → ws.length = ps.length
  does : ∀ (Ar : Around) (fr : List Env) (s : Shared) (G : Hp) (ar : Args) (us : List Value) (ws : List V) (Q : VK) (p : Pin), L2H.RoomH k Ar → L2H.PinOk fr G s p → Env0 P w K mg base Ar fr s G → BindsTo s fd ar (ps.zip us) → Vals ws us → sp p ws G Q E0 →
    codeAny (model P w) Ar (.call (.ref f) ar) (CR (L2.CX P w) fr P w G s Q E0) s
/-- by the def's body -/
theorem hot_of {P : Program} {w : World} {K : PySem.W.Frag} {mg : Str → Option Value} {base : Heap} {x qual : Str} {st : Stmt} {f : Addr} {fd : FuncData} {N ps : List Str} {k : Nat} {sp : SpP} (F : Fun K x qual st f fd) (S : FnScope N ps (defScope st))
    (hl : ∀ p ws G Q E, sp p ws G Q E → ws.length = ps.length)
    (hb : ∀ (cd : Value) (Ar : Around) (fr : List Env) (s : Shared) (G : Hp) (ws : List V) (Q : VK) (p : Pin), L2H.RoomH k (Ar.deeper (envOfC qual (defScope st) s.heap.objs.size f cd)) → sp p ws G Q E0 →
      ∃ t, PSs (L2H.cxH (L2.CX P w) P w K mg base N qual (defScope st) f cd Ar fr s G E0 p) (defBody st) t ∧ t { nx := fun _ G' => Q .non G', rt := Q } (L2.start N ws) G) :
    FnHot P w K mg base (k + 1) f fd ps sp := by
  obtain ⟨o1, o2, o3, o4, o5, o6, cd, o8, o9, rfl, lk, hcd⟩ := F.ex
  refine ⟨hl, fun Ar fr s G ar us ws Q p room pin env bind vals wish => ?_⟩
  have hn := hl _ _ _ _ _ wish
  have inK : K.In s.heap := env.mod.kin.keeps fun b o z => (env.bs b o z).1
  have noLim : s.heap.NoLimit := env.mod.nolimit.keeps fun b o z => (env.bs b o z).1
  have kinds : ∀ y ∈ ps.zip us, (defScope st).names.lookup y.1 = some .local ∨ ((defScope st).names.lookup y.1 = some .cell ∧ ((cellsFrom (s.heap.objs.size + 1) (defScope st).names []).lookup y.1).isSome = true) := by
    rintro ⟨a, b⟩ hab
    exact (S.par a (List.of_mem_zip hab).1).imp id fun z => ⟨z, PySem.W.cellsFrom_some _ _ _ (.inl z)⟩
  refine codeAny_call_function room.depth (inK _ _ lk) rfl S.co S.gen rfl (PySem.W.codeRec_of inK hcd) (bind _ _ _ _ (wpAny_newFunctionEnv_cells S.kind kinds fun en hen sB made => ?_))
  subst hen
  refine ⟨noLim.keeps made.toInCall.keep, codeAny_func ?_⟩
  obtain ⟨t, runs, wt⟩ := hb cd Ar fr s G ws Q p (room.deeper _) wish
  have I0 := L2H.inv_startH (CX := L2.CX P w) (E := E0) S pin env hn vals made
  refine wpAny_mono (runs.run [] sB (L2.start N ws) G _ I0 wt) ?_ fun _ _ z => z
  intro fl sE hE
  cases fl with
  | next =>
    obtain ⟨_, G', J, q⟩ := hE
    exact ⟨.non, G', J.os, J.bare, J.base, J.hok, rfl, q⟩
  | ret u =>
    obtain ⟨z, _, G', J, rz, q⟩ := hE
    exact ⟨z, G', J.os, J.bare, J.base, J.hok, rz, q⟩
  | brk => exact hE.elim fun _ z => z.elim fun _ z => z.2.elim
  | cont => exact hE.elim fun _ z => z.elim fun _ z => z.2.elim
section
variable {X : Cx} {C : Addr} {xc : Nat → Addr} {W : WX} {n m : Nat}
/-- the call, where p is pinned -/
theorem run_hot {k : Nat} {f : Addr} {fd : FuncData} {ps : List Str} {sp : SpP} {p : Pin} {pins : List Pin} {σ : L2.St} {H : Hp} {s : Shared} {Q : VK} {us : List Value} {ws : List V} (F : FnHot X.prog X.w X.K X.mg X.base k f fd ps sp) (room : L2H.RoomH k X.A) (hp : p ∈ X.pn) (hb : Binds X.K fd ps [])
    (I : Inv X pins σ H s) (r : Vals ws us) (h : sp p ws H Q E0) : wpAny (model X.prog X.w) X.A (call (.ref f) us) (EP X pins σ Q) X.xe s := by
  have e1 : us.length = ps.length := r.length.symm.trans (F.many _ _ _ _ _ h)
  have b1 := hb s us I.kIn (by simpa using e1)
  rw [List.append_nil] at b1
  obtain ⟨g1, g2, g3, g4, g5⟩ := I.pin p (List.mem_append_left _ hp)
  have pin : L2H.PinOk X.stack H s p := ⟨g1, g2, fun z => (List.mem_cons.mp (I.stkSub p.1 z)).elim g3 g4, g5⟩
  refine wpAny_call (codeAny_mono (F.does X.A X.stack s H ⟨us, []⟩ us ws Q p room pin I.env0 b1 r h) ?_)
  intro rr sE hE
  cases rr with
  | error e => exact (passL pins σ H s e sE I hE)
  | ok fl =>
    cases fl with
    | ret u => exact I.after hE
    | next => exact hE.elim
    | brk => exact hE.elim
    | cont => exact hE.elim
/-- a def that answers by the class of what was caught -/
def spH (G : Ct) (rr : Nat → Option Int) : SpP := fun p ws H Q _ => ∃ c i, rr c = some i ∧ Zc (.ref (G.xc c)) none p.2 ∧ (∃ fs, p.2.data = .fields fs) ∧ ws = [.ref p.1] ∧ ∀ H', Ex H H' → Q (.int i) H'
def FnHotIs (G : Ct) (mg : Str → Option Value) (base : Heap) (x : Str) (k : Nat) (rr : Nat → Option Int) : Prop :=
  ∃ f fd ps, FnHot G.P G.w G.K mg base k f fd ps (spH G rr) ∧ mg x = some (.ref f) ∧ PySem.W.keepIn G.K (.ref f) = true ∧ Binds G.K fd ps []
def fHot (i a : Nat) (r : Int) : FE := fun ρ => match ρ[i]? with
  | some (some (0, .dict [(.bool false, .int k)])) => if k = (a : Int) then .ok (.int r) else .bad
  | _ => .bad
theorem roomH_suite {k j : Nat} {a : Addr} {pn : List Pin} (hr : Room k X.A) (h : j ≤ k := by decide) : L2H.RoomH j (X.suite a pn).A := (L2H.roomH_of (k := k) (A := X.A) hr).mono h |> fun z => ⟨z.dp, z.un⟩
theorem de_hot {i c k a : Nat} {r : Int} {rr : Nat → Option Int} {x en : Str} {oe : Obj} {pe p pos : Pos} (hf : FnHotIs (ct X C xc) X.mg X.base x k rr) (room : L2H.RoomH k X.A) (hp : (a, oe) ∈ X.pn) (hc : rr c = some r) (hz : Zc (.ref (xc c)) none oe) (hfl : ∃ vs, oe.data = .fields vs)
    (hi : X.N[i]? = some en := by rfl) (hv : Vis X.env.scope en := by first | exact Or.inl rfl | exact Or.inr (Or.inl rfl) | exact Or.inr (Or.inr rfl)) (hd : (en == ("__debug__" : Str)) = false := by decide) (hcd : (en == ("__classdict__" : Str)) = false := by decide) (hg : Gl X x := by rfl) (hdb : (x == ("__debug__" : Str)) = false := by decide)
    (he : starEach [.Name en pe] X.env = (false, eval (.Name en pe) X.env) :: starEach [] X.env := by rfl) (hpl : (backTo pos (starEach [] X.env)).any (·.1) = false := by rfl) :
    PE X (.Call (.Name x p) [.Name en pe] [] pos) (tD (ct X C xc) W (fHot i a r)) := by
  obtain ⟨f, fd, ps, G, hm, hk, hb⟩ := hf
  refine ⟨fun pins s σ H Q I h => wpAny_Call_Name_kw (ld_glob I hg hm ?_ hdb)⟩
  have ha : PA X [.Name en pe] _ := pa_cons (pe_var (X := X) hi hv hd hcd) pa_nil he
  obtain ⟨B, ρ, e, ⟨A, r0, nd⟩, q⟩ := h
  unfold fHot at q
  split at q
  · rename_i kk hk'
    split at q
    · rename_i ek
      subst ek
      obtain ⟨v, A1, h1, ⟨h2, _⟩, _⟩ := r0.get hk'
      have ev : v = .ref a := R.opq_inv h2
      subst ev
      refine PySem.W.callWith_K (h₀ := X.base) I.ok.mod.kin hk (thn (ha.run pos pins s σ H (fun ws H' => ws = [.ref a] ∧ H' = H) I ⟨_, h1, rfl, rfl⟩) ?_) he hpl
      rintro us s1 ⟨vs, H1, I1, rv, rfl, rfl⟩
      refine ⟨I1.kIn, run_hot (p := (a, oe)) G room hp hb I1 rv ⟨c, r, hc, hz, hfl, rfl, fun H' x => ?_⟩⟩
      exact fin0 q (.heap e x) (.int _)
    · exact q.elim
  · exact q.elim
/-- isinstance(e, D), e pinned -/
theorem call_isP {a : Addr} {D : Addr} {oe : Obj} (hE : ExcC X.K D) (hz : Zc (.ref D) none oe) (hfl : ∃ vs, oe.data = .fields vs) (hp : (a, oe) ∈ X.pn) : CallR X (.builtin "isinstance") (rIsE X.K D a) := by
  rintro pins s σ H _ us Q I r ⟨c, cv, b, rfl, only, kit, wish⟩
  obtain ⟨u1, u2, rfl, r1, r2⟩ := r.two
  obtain rfl := only _ r2
  obtain rfl : u1 = .ref a := r1
  obtain ⟨at_, _⟩ := I.pin (a, oe) (List.mem_append_left _ hp)
  obtain ⟨o1, o2, o3, o4⟩ := oe
  obtain ⟨z1, z2⟩ := hz
  obtain ⟨fs, z3⟩ := hfl
  dsimp only at z1 z2 z3
  subst z1 z2 z3
  exact PySem.W.kia_one (PySem.W.handS_kitx_exc hE.hg hE.hk hE.hs hE.hd hE.ha hE.hn hE.ht hE.hm) I.kIn ⟨at_, rfl, rfl, trivial⟩ kit (fun z => nomatch z) fun tk => ⟨.bl b, H, I.kept (t' := tk) fun _ _ z => z, rfl, wish⟩
theorem de_isP {i a : Nat} {b : Bool} {D : Addr} {oe : Obj} {x en : Str} {p pe pt pos : Pos} {cv : Value} {c : V} {tc : TE} (hE : ExcC X.K D) (hz : Zc (.ref D) none oe) (hfl : ∃ vs, oe.data = .fields vs) (hp : (a, oe) ∈ X.pn) (hk : PySem.W.kitOne X.K (.ref D) cv = some b) (hcv : ∀ u, RelV c u → u = cv)
    (hm : X.mg "isinstance" = none) (hx : PE X (.Name x pt) tc) (htc : ∀ σ H Q, Q c H → tc σ H Q)
    (hi : X.N[i]? = some en := by rfl) (hv : Vis X.env.scope en := by first | exact Or.inl rfl | exact Or.inr (Or.inl rfl) | exact Or.inr (Or.inr rfl)) (hd : (en == ("__debug__" : Str)) = false := by decide) (hcd : (en == ("__classdict__" : Str)) = false := by decide) (hg : Gl X "isinstance" := by rfl)
    (he : starEach [.Name en pe, .Name x pt] X.env = (false, eval (.Name en pe) X.env) :: starEach [.Name x pt] X.env := by rfl) (he2 : starEach [.Name x pt] X.env = (false, eval (.Name x pt) X.env) :: starEach [] X.env := by rfl) (hpl : (backTo pos (starEach [.Name x pt] X.env)).any (·.1) = false := by rfl) :
    PE X (.Call (.Name "isinstance" p) [.Name en pe, .Name x pt] [] pos) (tD (ct X C xc) W (fIsE i a b)) :=
  weak (pe_callB (call_isP hE hz hfl hp) hg hm (by decide +kernel) (pa_cons (pe_var hi hv hd hcd) (pa_cons hx pa_nil he2) he) (by decide) (by decide) he hpl) fun σ H Q ⟨B, ρ, e, ⟨A, r, nd⟩, q⟩ => by
    unfold fIsE at q
    split at q
    · rename_i k hk'
      split at q
      · rename_i ek
        subst ek
        obtain ⟨v, A1, h1, ⟨h2, _⟩, _⟩ := r.get hk'
        have ev : v = .ref a := R.opq_inv h2
        subst ev
        exact ⟨_, h1, htc _ _ _ ⟨c, cv, b, rfl, hcv, hk, fin0 q (.refl e) (.bl _)⟩⟩
      · exact q.elim
    · exact q.elim
/-! ### xs.count(x), xs.index(x) -/
def dCount : D → D → O
  | .list ds, d => if okD (.list ds) = true ∧ okD d = true then .ok (.int ((ds.countP fun z => PyData.eqv z d : Nat) : Int)) else .bad
  | _, _ => .bad
def dIndex : D → D → O
  | .list ds, d => if okD (.list ds) = true ∧ okD d = true then (match ds.findIdx? fun z => PyData.eqv z d with
    | some j => .ok (.int (j : Nat))
    | none => .bad) else .bad
  | _, _ => .bad
theorem calm_dCount : Calm2 dCount := fun x y c h => by
  unfold dCount at h
  split at h
  · split at h <;> cases h
  · cases h
theorem calm_dIndex : Calm2 dIndex := fun x y c h => by
  unfold dIndex at h
  split at h
  · split at h
    · split at h <;> cases h
    · cases h
  · cases h
def rCountD (K : PySem.W.Frag) : V → List V → Hp → VK → Prop := fun x xs H Q => ∃ (a : Addr) (y : V) (d : D) (ds : List D), x = .ref a ∧ xs = [y] ∧ Dp K H (.ref a) (.list ds) ∧ Dp K H y d ∧ SeqAt.shaped (.list ds) = true ∧ SeqAt.shaped d = true ∧ Q (.int ((ds.countP fun z => PyData.eqv z d : Nat) : Int)) H
theorem mt_countD (hu : Hu X) : MtR X "list.count" (rCountD X.K) := by
  rintro pins s σ H _ _ v us Q I rx rxs ⟨a, y, d, ds, rfl, rfl, hl, hy, sl, sd, wish⟩
  obtain rfl : v = .ref a := rx
  obtain ⟨u, rfl, ru⟩ := rxs.one
  obtain ⟨bs, r1⟩ := Dp.reads I d y u hy ru
  have lay := SeqAt.canLay_of_shaped sl
  have room : X.A.units + 1 + min (PyData.depthAll ds) d.depth < cLine := room_in_shaped sd (by omega)
  cases hl with
  | lst hs ha =>
    obtain ⟨its, rv, ⟨⟨k1, k2, k3, k4⟩, n, at_, c1, c2, c3⟩, _⟩ := I.list hs
    dsimp only at c1 c3
    subst c1 c3
    obtain ⟨as, ra⟩ := Dp.readsAll I ds _ its ha rv
    have em : its.map (SeqAt.readOf s.heap) = ds := SeqAt.readsAll_map ds its as lay ra
    refine call_meets PySem.F.slot_list_count ⟨_, at_, rfl⟩ PySem.F.entry_list_count (PySem.F.args_list_count_2 _ _) (SeqAt.list_countAt a its.toArray n k2 k4 u fun z => PyData.eqv (SeqAt.readOf s.heap z) d)
      ⟨at_, SeqAt.items_eqAt (vs := its.toArray) (show ReadsAll s.heap its.toArray.toList ds as from ra) r1 lay (SeqAt.canLay_of_shaped sd) room, .int ((ds.countP fun z => PyData.eqv z d : Nat) : Int), H, I.tok _, ⟨s.toks, ?_⟩, wish⟩
    have ec : its.countP (fun z => PyData.eqv (SeqAt.readOf s.heap z) d) = ds.countP fun z => PyData.eqv z d := by
      rw [← em, List.countP_map]
      rfl
    show Value.int ((its.toArray.toList.countP _ : Nat) : Int) _ = Value.int _ _
    rw [show its.toArray.toList = its from rfl, ec]
def onList (g : D → D → O) (f1 f2 : FE) : FE := fun ρ => (f1 ρ).bind fun d => match d with
  | .list ds => (f2 ρ).bind (g (.list ds))
  | _ => .bad
theorem list_go {id : String} {g : D → D → O} {r : V → List V → Hp → VK → Prop} {o e : Expr} {f1 f2 : FE} (hc : Calm2 g)
    (hr : ∀ (B H : Hp) (v u : V) (ds : List D) (y : D) (Q : VK), Ex B H → R (ct X C xc) B v (.list ds) → R (ct X C xc) B u y → PostE (ct X C xc) W0 [] 0 B H Q (g (.list ds) y) → r v [u] H Q) {σ : L2.St} {H : Hp} {Q : VK}
    (h : tD (ct X C xc) W (onList g f1 f2) σ H Q) : (tD (ct X C xc) W f1) σ H fun x H1 => tyV X.K "list" x H1 ∧ (tD (ct X C xc) W f2) σ H1 fun y H2 => r x [y] H2 Q := by
  obtain ⟨B, ρ, e, env, p⟩ := h
  refine seqE (m := 0) e env p fun d v B1 H1 A1 q1 x1 ⟨r1, _⟩ _ _ p1 => ?_
  cases d with
  | list ds =>
    refine ⟨?_, ?_⟩
    · obtain ⟨a, vs, rfl, hb, _⟩ := r1.list_inv
      exact .inl ⟨rfl, vs, SqL.of (x1.w _ _ hb)⟩
    · refine seqE (m := 0) x1.w (env.ext x1) p1 fun d2 v2 B2 H2 A2 q2 x2 ⟨r2, _⟩ _ _ p2 => ?_
      exact hr B2 H2 v v2 ds d2 Q x2.w (r1.mono x2.b) r2 (p2.calm (hc _ _))
  | _ => exact p1.elim
theorem de_count {o e : Expr} {f1 f2 : FE} {apos cpos : Pos} (hu : Hu X) (ho : PE X o (tD (ct X C xc) W f1)) (ha : PE X e (tD (ct X C xc) W f2))
    (hbase : attributeBase o "count" X.env (eval o X.env) = eval o X.env := by rfl)
    (hfew : ((backTo cpos (starEach [e] X.env)).all (fun x => !x.1) && (backToKw cpos (keywordEach [] X.env)).all (fun x => x.1.isSome)
      && decide ([e].length + ([] : List Keyword).length + (if ([] : List Keyword).isEmpty then 0 else 1) < 30)) = true := by rfl)
    (hline : (apos.endLine == cpos.line) = true := by rfl) (hs : starEach [e] X.env = (false, eval e X.env) :: starEach [] X.env := by rfl) (hplain : (backTo cpos (starEach [] X.env)).any (·.1) = false := by rfl) :
    PE X (.Call (.Attribute o "count" apos) [e] [] cpos) (tD (ct X C xc) W (onList dCount f1 f2)) :=
  weak (pe_bm PySem.F.plainAttrs_list PySem.F.slot_list_count PySem.F.type_list_count (mt_countD hu) ho (pa_cons ha pa_nil hs) hbase hfew hline hs hplain) fun σ H Q h =>
    list_go (o := o) (e := e) (id := "") (r := rCountD X.K) calm_dCount (fun B H v u ds y Q x r1 r2 p => by
      unfold dCount at p
      dsimp only at p
      split at p
      · rename_i hz
        obtain ⟨a, vs, rfl, hb, q⟩ := id r1.list_inv
        exact ⟨a, u, y, ds, rfl, rfl, (r1.mono x).dp (plain_ok hz.1), (r2.mono x).dp (plain_ok hz.2), hz.1, hz.2, fin0 p (.refl x) (.int _)⟩
      · exact p.elim) h
theorem de_index {o e : Expr} {f1 f2 : FE} {apos cpos : Pos} (hu : Hu X) (ho : PE X o (tD (ct X C xc) W f1)) (ha : PE X e (tD (ct X C xc) W f2))
    (hbase : attributeBase o "index" X.env (eval o X.env) = eval o X.env := by rfl)
    (hfew : ((backTo cpos (starEach [e] X.env)).all (fun x => !x.1) && (backToKw cpos (keywordEach [] X.env)).all (fun x => x.1.isSome)
      && decide ([e].length + ([] : List Keyword).length + (if ([] : List Keyword).isEmpty then 0 else 1) < 30)) = true := by rfl)
    (hline : (apos.endLine == cpos.line) = true := by rfl) (hs : starEach [e] X.env = (false, eval e X.env) :: starEach [] X.env := by rfl) (hplain : (backTo cpos (starEach [] X.env)).any (·.1) = false := by rfl) :
    PE X (.Call (.Attribute o "index" apos) [e] [] cpos) (tD (ct X C xc) W (onList dIndex f1 f2)) :=
  weak (pe_bm PySem.F.plainAttrs_list PySem.F.slot_list_index PySem.F.type_list_index (mt_indexD (show X.A.units + 65 < cLine by have : Hu X := hu; omega)) ho (pa_cons ha pa_nil hs) hbase hfew hline hs hplain) fun σ H Q h =>
    list_go (o := o) (e := e) (id := "") (r := rIndexD X.K) calm_dIndex (fun B H v u ds y Q x r1 r2 p => by
      unfold dIndex at p
      dsimp only at p
      split at p
      · rename_i hz
        split at p
        · rename_i j hj
          obtain ⟨a, vs, rfl, hb, q⟩ := id r1.list_inv
          obtain ⟨z1, z2, z3⟩ := List.findIdx?_eq_some_iff_getElem.mp hj
          refine ⟨a, u, y, ds, j, ds[j], rfl, rfl, (r1.mono x).dp (plain_ok hz.1), (r2.mono x).dp (plain_ok hz.2), hz.1, hz.2, List.getElem?_eq_getElem z1, z2, fun m z' hm hz' => ?_, fin0 p (.refl x) (.int _)⟩
          obtain ⟨hml, e⟩ := List.getElem?_eq_some_iff.mp hz'
          have := z3 m hm
          rw [e] at this
          simpa using this
        · exact p.elim
      · exact p.elim) h
/-- the def's body on data: a is what was caught -/
theorem hot_data {P : Program} {w : World} {K : PySem.W.Frag} {mg : Str → Option Value} {base : Heap} {x qual : Str} {st : Stmt} {f : Addr} {fd : FuncData} {N : List Str} {p1 : Str} {k : Nat} {rr : Nat → Option Int} {Fs : Nat → Addr → SF} (F : Fun K x qual st f fd) (S : FnScope N [p1] (defScope st))
    (hF : ∀ c i a, rr c = some i → Fs c a (startR N.length [opqD a]) = .ret (.int i))
    (hb : ∀ (c : Nat) (i : Int) (cd : Value) (Ar : Around) (fr : List Env) (s : Shared) (H : Hp) (a : Addr) (oe : Obj), rr c = some i → Zc (.ref (xc c)) none oe → (∃ vs, oe.data = .fields vs) → L2H.RoomH k (Ar.deeper (envOfC qual (defScope st) s.heap.objs.size f cd)) →
      Hu (L2H.cxH (L2.CX P w) P w K mg base N qual (defScope st) f cd Ar fr s H E0 (a, oe)) → N.Nodup → (a, oe) ∈ (L2H.cxH (L2.CX P w) P w K mg base N qual (defScope st) f cd Ar fr s H E0 (a, oe)).pn →
      PSs (L2H.cxH (L2.CX P w) P w K mg base N qual (defScope st) f cd Ar fr s H E0 (a, oe)) (defBody st) (tDS ⟨P, w, K, C, xc⟩ W0 0 (Fs c a))) :
    FnHot P w K mg base (k + 1) f fd [p1] (spH ⟨P, w, K, C, xc⟩ rr) := by
  refine hot_of F S (fun p ws G Q E ⟨c, i, _, _, _, e, _⟩ => by rw [e]; rfl) fun cd Ar fr s G ws Q ⟨a, oe⟩ room ⟨c, i, hc, hz, hfl, ew, wish⟩ => ?_
  subst ew
  refine ⟨_, hb c i cd Ar fr s G a oe hc hz hfl room (show (Ar.deeper _).units + 100 < cLine by have := room.un; omega) S.nd (List.mem_singleton_self _), G, G, startR N.length [opqD a], ?_, ?_⟩
  · refine ⟨G, [], .refl fun _ _ z => z, ?_, List.nodup_nil, fun _ z => nomatch z⟩
    exact ER.start (.cons (R.opq a) .nil) _
  · rw [hF c i a hc]
    intro v B' H' A x' hv _ _
    obtain rfl := hv.1.int_inv
    exact wish H' x'.h
end
end M

/-! MEnd: from the head's facts to the defs; the law's end. -/
namespace M
open PySem PySem.Spec L2 PyProof.Rows Evl
theorem fun_ofD {K : PySem.W.Frag} {x qual : Str} {st : Stmt} {f : Addr} {fd : FuncData} (F : FunD K x qual (defArgs st) (defBody st) (defScope st) [] [] f fd) : Fun K x qual st f fd := by
  obtain ⟨⟨oc, od, dV, kV, doc, pm, an, cdv, ct, osl, e, l, c, hd, _⟩, kp⟩ := F
  rcases hd with ⟨_, rfl⟩ | ⟨h, _⟩
  · exact ⟨⟨oc, od, kV, doc, pm, an, cdv, ct, osl, e, l, c⟩, kp⟩
  · exact absurd rfl h
theorem excIs_of {K : PySem.W.Frag} {h : Heap} {mg : Str → Option Value} {x : Str} (X : K.In h) (G : h.Ns mainGlobals mg) (c : (He.Fa.exc x).ok K = true) (g : (He.Fa.glo x).ok K = true) : ExcIs K mg x (He.ga K x) := by
  obtain ⟨h1, h2, h3, h4⟩ := He.exc_ok c
  exact ⟨He.glo_ok X G g, h1, h2, h3, h4⟩
theorem law_sp {P : Program} {w : World} {K : PySem.W.Frag} {C : Addr} {xc : Nat → Addr} {F : List PyData → O} {H : Hp} {a : Addr} {ns : List Int} (hF : F [scrD (ns.map PyData.int)] = .ok (.bool true)) (hS : SqL K H a (ns.map V.int)) :
    spD ⟨P, w, K, C, xc⟩ 0 F 1 [.ref a] H (fun v _ => v = .bl true) (fun _ _ _ => False) := by
  have hra : ∀ ns : List Int, RA (⟨P, w, K, C, xc⟩ : Ct) H (ns.map V.int) (ns.map PyData.int) := fun ns => by
    induction ns with
    | nil => exact .nil
    | cons n ns ih => exact .cons (.int n) ih
  refine ⟨rfl, H, [scrD (ns.map PyData.int)], Ex.refl _, .cons (.scr hS (hra ns)) .nil, ?_⟩
  unfold PostF
  rw [hF]
  intro v B' H' A x hv _ _
  exact hv.1.bool_inv
end M

/-! law_k16_refusals_apart: the defs as functions on data, each kept. Written by emit.py. -/
namespace Me
open PySem PySem.Spec L2 PyProof.Rows Evl M
def topS (i : Nat) : Stmt := PySem.Challenge.pw_cornerdoors_k16_refusals_apart.main.body.getD i (.Pass ⟨0, 0, 0, 0⟩)
structure Txt (K : PySem.W.Frag) (mg : Str → Option Value) (C : Addr) (xc : Nat → Addr) : Prop where
  c_MOST : ∃ t, mg "MOST" = some (.int 12 t)
  cl : Cls K C
  e_BadNet : ExcIs K mg "BadNet" (xc 0)
  e_DoorError : ExcIs K mg "DoorError" (xc 6)
  e_NoEnd : ExcIs K mg "NoEnd" (xc 4)
  e_NoFloor : ExcIs K mg "NoFloor" (xc 3)
  e_NoPlace : ExcIs K mg "NoPlace" (xc 1)
  e_NoTriangle : ExcIs K mg "NoTriangle" (xc 2)
  e_NotRuled : ExcIs K mg "NotRuled" (xc 5)
  ec_BadNet : ExcC K (xc 0)
  ec_NoEnd : ExcC K (xc 4)
  ec_NoFloor : ExcC K (xc 3)
  ec_NoPlace : ExcC K (xc 1)
  ec_NoTriangle : ExcC K (xc 2)
  ec_NotRuled : ExcC K (xc 5)
  k_BadNet_in_BadNet : PySem.W.kitOne K (.ref (xc 0)) (.ref (xc 0)) = some true
  k_BadNet_in_DoorError : PySem.W.kitOne K (.ref (xc 0)) (.ref (xc 6)) = some true
  k_BadNet_in_NoEnd : PySem.W.kitOne K (.ref (xc 0)) (.ref (xc 4)) = some false
  k_BadNet_in_NoFloor : PySem.W.kitOne K (.ref (xc 0)) (.ref (xc 3)) = some false
  k_BadNet_in_NoPlace : PySem.W.kitOne K (.ref (xc 0)) (.ref (xc 1)) = some false
  k_BadNet_in_NoTriangle : PySem.W.kitOne K (.ref (xc 0)) (.ref (xc 2)) = some false
  k_BadNet_in_NotRuled : PySem.W.kitOne K (.ref (xc 0)) (.ref (xc 5)) = some false
  k_NoEnd_in_BadNet : PySem.W.kitOne K (.ref (xc 4)) (.ref (xc 0)) = some false
  k_NoEnd_in_DoorError : PySem.W.kitOne K (.ref (xc 4)) (.ref (xc 6)) = some true
  k_NoEnd_in_NoEnd : PySem.W.kitOne K (.ref (xc 4)) (.ref (xc 4)) = some true
  k_NoEnd_in_NoFloor : PySem.W.kitOne K (.ref (xc 4)) (.ref (xc 3)) = some false
  k_NoEnd_in_NoPlace : PySem.W.kitOne K (.ref (xc 4)) (.ref (xc 1)) = some false
  k_NoEnd_in_NoTriangle : PySem.W.kitOne K (.ref (xc 4)) (.ref (xc 2)) = some false
  k_NoEnd_in_NotRuled : PySem.W.kitOne K (.ref (xc 4)) (.ref (xc 5)) = some false
  k_NoFloor_in_BadNet : PySem.W.kitOne K (.ref (xc 3)) (.ref (xc 0)) = some false
  k_NoFloor_in_DoorError : PySem.W.kitOne K (.ref (xc 3)) (.ref (xc 6)) = some true
  k_NoFloor_in_NoEnd : PySem.W.kitOne K (.ref (xc 3)) (.ref (xc 4)) = some false
  k_NoFloor_in_NoFloor : PySem.W.kitOne K (.ref (xc 3)) (.ref (xc 3)) = some true
  k_NoFloor_in_NoPlace : PySem.W.kitOne K (.ref (xc 3)) (.ref (xc 1)) = some false
  k_NoFloor_in_NoTriangle : PySem.W.kitOne K (.ref (xc 3)) (.ref (xc 2)) = some false
  k_NoFloor_in_NotRuled : PySem.W.kitOne K (.ref (xc 3)) (.ref (xc 5)) = some false
  k_NoPlace_in_BadNet : PySem.W.kitOne K (.ref (xc 1)) (.ref (xc 0)) = some false
  k_NoPlace_in_DoorError : PySem.W.kitOne K (.ref (xc 1)) (.ref (xc 6)) = some true
  k_NoPlace_in_NoEnd : PySem.W.kitOne K (.ref (xc 1)) (.ref (xc 4)) = some false
  k_NoPlace_in_NoFloor : PySem.W.kitOne K (.ref (xc 1)) (.ref (xc 3)) = some false
  k_NoPlace_in_NoPlace : PySem.W.kitOne K (.ref (xc 1)) (.ref (xc 1)) = some true
  k_NoPlace_in_NoTriangle : PySem.W.kitOne K (.ref (xc 1)) (.ref (xc 2)) = some false
  k_NoPlace_in_NotRuled : PySem.W.kitOne K (.ref (xc 1)) (.ref (xc 5)) = some false
  k_NoTriangle_in_BadNet : PySem.W.kitOne K (.ref (xc 2)) (.ref (xc 0)) = some false
  k_NoTriangle_in_DoorError : PySem.W.kitOne K (.ref (xc 2)) (.ref (xc 6)) = some true
  k_NoTriangle_in_NoEnd : PySem.W.kitOne K (.ref (xc 2)) (.ref (xc 4)) = some false
  k_NoTriangle_in_NoFloor : PySem.W.kitOne K (.ref (xc 2)) (.ref (xc 3)) = some false
  k_NoTriangle_in_NoPlace : PySem.W.kitOne K (.ref (xc 2)) (.ref (xc 1)) = some false
  k_NoTriangle_in_NoTriangle : PySem.W.kitOne K (.ref (xc 2)) (.ref (xc 2)) = some true
  k_NoTriangle_in_NotRuled : PySem.W.kitOne K (.ref (xc 2)) (.ref (xc 5)) = some false
  k_NotRuled_in_BadNet : PySem.W.kitOne K (.ref (xc 5)) (.ref (xc 0)) = some false
  k_NotRuled_in_DoorError : PySem.W.kitOne K (.ref (xc 5)) (.ref (xc 6)) = some true
  k_NotRuled_in_NoEnd : PySem.W.kitOne K (.ref (xc 5)) (.ref (xc 4)) = some false
  k_NotRuled_in_NoFloor : PySem.W.kitOne K (.ref (xc 5)) (.ref (xc 3)) = some false
  k_NotRuled_in_NoPlace : PySem.W.kitOne K (.ref (xc 5)) (.ref (xc 1)) = some false
  k_NotRuled_in_NoTriangle : PySem.W.kitOne K (.ref (xc 5)) (.ref (xc 2)) = some false
  k_NotRuled_in_NotRuled : PySem.W.kitOne K (.ref (xc 5)) (.ref (xc 5)) = some true
  kv_BadNet_in_ValueError : PySem.W.kitOne K (.ref (xc 0)) (.type "ValueError") = some true
  kv_NoEnd_in_ValueError : PySem.W.kitOne K (.ref (xc 4)) (.type "ValueError") = some true
  kv_NoFloor_in_ValueError : PySem.W.kitOne K (.ref (xc 3)) (.type "ValueError") = some true
  kv_NoPlace_in_ValueError : PySem.W.kitOne K (.ref (xc 1)) (.type "ValueError") = some true
  kv_NoTriangle_in_ValueError : PySem.W.kitOne K (.ref (xc 2)) (.type "ValueError") = some true
  kv_NotRuled_in_ValueError : PySem.W.kitOne K (.ref (xc 5)) (.type "ValueError") = some true
  nM : NoAttr K C "marks"
  nS : NoAttr K C "size"
  n_ValueError : mg "ValueError" = none
  n_all : mg "all" = none
  n_enumerate : mg "enumerate" = none
  n_isinstance : mg "isinstance" = none
  n_len : mg "len" = none
  n_list : mg "list" = none
  n_range : mg "range" = none
  n_sum : mg "sum" = none
  x_BadNet_in_DoorError : PySem.W.exmOne K (.ref (xc 0)) (.ref (xc 6)) = some true
  x_NoEnd_in_DoorError : PySem.W.exmOne K (.ref (xc 4)) (.ref (xc 6)) = some true
  x_NoFloor_in_DoorError : PySem.W.exmOne K (.ref (xc 3)) (.ref (xc 6)) = some true
  x_NoPlace_in_DoorError : PySem.W.exmOne K (.ref (xc 1)) (.ref (xc 6)) = some true
  x_NoTriangle_in_DoorError : PySem.W.exmOne K (.ref (xc 2)) (.ref (xc 6)) = some true
  x_NotRuled_in_DoorError : PySem.W.exmOne K (.ref (xc 5)) (.ref (xc 6)) = some true
noncomputable section
variable {P : Program} {w : World} {K : PySem.W.Frag} {mg : Str → Option Value} {base : Heap} {C : Addr} {xc : Nat → Addr}
abbrev s__law_cell_at : Stmt := topS 43
theorem sc__law_cell_at : FnScope ["script", "k"] ["script", "k"] (defScope s__law_cell_at) := ⟨rfl, rfl, rfl, by decide +kernel, rfl, by decide +kernel, by decide +kernel⟩
def B__law_cell_at : SF := (seqF' (sIf (fBin dLt (fVar 1) (fArgs (d1 dLen) [(fVar 0)])) (sRet (fBin dIxS (fVar 0) (fVar 1))) fNext)
  (sRet (fC (.int 0))))
def F__law_cell_at : List PyData → O := fnF 2 B__law_cell_at
set_option maxHeartbeats 4000000 in
theorem ok__law_cell_at {f : Addr} {fd : FuncData} (F : Fun K "_law_cell_at" "_law_cell_at" s__law_cell_at f fd) (T : Txt K mg C xc) : FnOk P w K mg base (L2.CX P w) 1 f fd ["script", "k"] (spD ⟨P, w, K, C, xc⟩ 0 F__law_cell_at 2) :=
  fn_data F sc__law_cell_at fun cdv A outer s H E hr tk hp hu nd =>
   (dss_cons (ds_if (dv_cmp (od_lt hu) calm_dLt (de_var (i := 1)) (de_blt cd_len calm_dLen T.n_len (da_cons (de_var (i := 0)) da_nil))) (dss_one (ds_ret (de_ix id_ixS calm_dIxS (de_var (i := 0)) (de_var (i := 1))))) dss_nil)
    (dss_one (ds_ret de_int)))
abbrev s__law_mix : Stmt := topS 44
theorem sc__law_mix : FnScope ["cell", "k", "many", "some", "number"] ["cell", "k", "many"] (defScope s__law_mix) := ⟨rfl, rfl, rfl, by decide +kernel, rfl, by decide +kernel, by decide +kernel⟩
def B__law_mix : SF := (seqF' (sSet 3 0 (fArgs dLst [(fC (.int 48271)), (fC (.int 69621)), (fC (.int 16807)), (fC (.int 39373)), (fC (.int 30269)), (fC (.int 40014)), (fC (.int 40692)), (fC (.int 50021)), (fC (.int 61687)), (fC (.int 71993)), (fC (.int 83869)), (fC (.int 95561)), (fC (.int 30307))]))
  (seqF' (sSet 4 0 (fBin dMul (fBin dAdd (fBin dMod (fVar 0) (fC (.int 2147483647))) (fC (.int 12345))) (fBin dIx (fVar 3) (fBin dMod (fVar 1) (fC (.int 13))))))
  (seqF' (sSet 4 0 (fBin dAdd (fBin dMul (fVar 4) (fBin dAdd (fBin dMul (fC (.int 2)) (fBin dDiv (fVar 1) (fC (.int 13)))) (fC (.int 1)))) (fBin dMul (fC (.int 977)) (fVar 1))))
  (sRet (fBin dMod (fBin dDiv (fBin dMod (fVar 4) (fC (.int 1000000007))) (fC (.int 7))) (fVar 2))))))
def F__law_mix : List PyData → O := fnF 5 B__law_mix
set_option maxHeartbeats 4000000 in
theorem ok__law_mix {f : Addr} {fd : FuncData} (F : Fun K "_law_mix" "_law_mix" s__law_mix f fd) (T : Txt K mg C xc) : FnOk P w K mg base (L2.CX P w) 1 f fd ["cell", "k", "many"] (spD ⟨P, w, K, C, xc⟩ 0 F__law_mix 3) :=
  fn_data F sc__law_mix fun cdv A outer s H E hr tk hp hu nd =>
   (dss_cons (ds_set (i := 3) nd (de_frz (de_lst (da_cons de_int (da_cons de_int (da_cons de_int (da_cons de_int (da_cons de_int (da_cons de_int (da_cons de_int (da_cons de_int (da_cons de_int (da_cons de_int (da_cons de_int (da_cons de_int (da_cons de_int da_nil))))))))))))))))
    (dss_cons (ds_set (i := 4) nd (de_op od_mul dInt2_calm (de_op od_add dInt2_calm (de_op od_mod dInt2_calm (de_var (i := 0)) de_int) de_int) (de_ix id_ix calm_dIx (de_var (i := 3)) (de_op od_mod dInt2_calm (de_var (i := 1)) de_int))))
    (dss_cons (ds_set (i := 4) nd (de_op od_add dInt2_calm (de_op od_mul dInt2_calm (de_var (i := 4)) (de_op od_add dInt2_calm (de_op od_mul dInt2_calm de_int (de_op od_div dInt2_calm (de_var (i := 1)) de_int)) de_int)) (de_op od_mul dInt2_calm de_int (de_var (i := 1)))))
    (dss_one (ds_ret (de_op od_mod dInt2_calm (de_op od_div dInt2_calm (de_op od_mod dInt2_calm (de_var (i := 4)) de_int) de_int) (de_var (i := 2))))))))
abbrev s__law_marks_by : Stmt := topS 45
theorem sc__law_marks_by : FnScope ["script", "most", "size", "marks", "y", "cell", "x"] ["script", "most"] (defScope s__law_marks_by) := ⟨rfl, rfl, rfl, by decide +kernel, rfl, by decide +kernel, by decide +kernel⟩
def B__law_marks_by : SF := (seqF' (sSet 2 0 (fBin dAdd (fC (.int 1)) (fBin dMod (fArgs F__law_cell_at [(fVar 0), (fC (.int 0))]) (fVar 1))))
  (seqF' (sSet 3 2 (fC (.list [])))
  (seqF' (sFor (iRng [(fBin dAdd (fVar 2) (fC (.int 1)))]) (setN 4) (seqF' (sSet 5 0 (fArgs F__law_cell_at [(fVar 0), (fBin dAdd (fC (.int 3)) (fVar 4))]))
  (sAppend 3 1 (fLc (iRng [(fBin dAdd (fBin dSub (fVar 2) (fVar 4)) (fC (.int 1)))]) (setN 6) fTrue (fArgs F__law_mix [(fVar 5), (fBin dAdd (fVar 6) (fBin dMul (fC (.int 14)) (fVar 4))), (fC (.int 3))]) [6]))))
  (sRetV 3 2))))
def F__law_marks_by : List PyData → O := fnF 7 B__law_marks_by
set_option maxHeartbeats 4000000 in
theorem ok__law_marks_by {f : Addr} {fd : FuncData} (F : Fun K "_law_marks_by" "_law_marks_by" s__law_marks_by f fd) (T : Txt K mg C xc) (h__law_cell_at : FnIs ⟨P, w, K, C, xc⟩ mg base "_law_cell_at" 1 2 0 F__law_cell_at) (h__law_mix : FnIs ⟨P, w, K, C, xc⟩ mg base "_law_mix" 1 3 0 F__law_mix) : FnOk P w K mg base (L2.CX P w) 2 f fd ["script", "most"] (spD ⟨P, w, K, C, xc⟩ 2 F__law_marks_by 2) :=
  fn_data F sc__law_marks_by fun cdv A outer s H E hr tk hp hu nd =>
   (dss_cons (ds_set (i := 2) nd (de_op od_add dInt2_calm de_int (de_op od_mod dInt2_calm (de_call h__law_cell_at (hr.mono (by decide)) hp (da_cons (de_var (i := 0)) (da_cons de_int da_nil))) (de_var (i := 1)))))
    (dss_cons (ds_set (i := 3) nd de_nil)
    (dss_cons (ds_for (ix := [4]) (passes_of rfl) rfl (di_range1 T.n_range (da_cons (de_op od_add dInt2_calm (de_var (i := 2)) de_int) da_nil)) (dg_name (i := 4) nd) (dss_cons (ds_set (i := 5) nd (de_call h__law_cell_at (hr.mono (by decide)) hp (da_cons (de_var (i := 0)) (da_cons (de_op od_add dInt2_calm de_int (de_var (i := 4))) da_nil))))
    (dss_one (ds_append (i := 3) (de_lc rfl nd [("x", 6)] (di_range1 T.n_range (da_cons (de_op od_add dInt2_calm (de_op od_sub dInt2_calm (de_var (i := 2)) (de_var (i := 4))) de_int) da_nil)) (blkOk_by (by rfl)) (fun _ _ _ _ _ => (dg_name (i := 6) nd)) (fun _ _ _ _ _ => dts_nil) (fun _ _ _ _ _ => (de_call h__law_mix (hr.mono (by decide)) pass_0 (da_cons (de_var (i := 5)) (da_cons (de_op od_add dInt2_calm (de_var (i := 6)) (de_op od_mul dInt2_calm de_int (de_var (i := 4)))) (da_cons de_int da_nil))))))))))
    (dss_one (ds_retv (i := 3))))))
abbrev s_marks_right : Stmt := topS 10
theorem sc_marks_right : FnScope ["marks", "size", "y", "row", "number"] ["marks"] (defScope s_marks_right) := ⟨rfl, rfl, rfl, by decide +kernel, rfl, by decide +kernel, by decide +kernel⟩
def B_marks_right : SF := (seqF' (sSet 1 0 (fBin dSub (fArgs (d1 dLen) [(fVar 0)]) (fC (.int 1))))
  (seqF' (sIf (fNot (fChain dLe dLe (fC (.int 1)) (fVar 1) (fC (.int 12)))) (sRet (fC (.bool false))) fNext)
  (seqF' (sFor (iEnm (fVar 0)) (setT [(setN 2), (setN 3)]) (sIf (fOr (fBin dNe (fArgs (d1 dLen) [(fVar 3)]) (fBin dAdd (fBin dSub (fVar 1) (fVar 2)) (fC (.int 1)))) (fNot (fArgs (d1 dAll) [(fLc (iSeq (fVar 3)) (setN 4) fTrue (fChain dLe dLe (fC (.int 0)) (fVar 4) (fC (.int 2))) [4])]))) (sRet (fC (.bool false))) fNext))
  (sRet (fC (.bool true))))))
def F_marks_right : List PyData → O := fnF 5 B_marks_right
set_option maxHeartbeats 4000000 in
theorem ok_marks_right {f : Addr} {fd : FuncData} (F : Fun K "marks_right" "marks_right" s_marks_right f fd) (T : Txt K mg C xc) : FnOk P w K mg base (L2.CX P w) 1 f fd ["marks"] (spD ⟨P, w, K, C, xc⟩ 0 F_marks_right 1) :=
  fn_data F sc_marks_right fun cdv A outer s H E hr tk hp hu nd =>
   (dss_cons (ds_set (i := 1) nd (de_op od_sub dInt2_calm (de_blt cd_len calm_dLen T.n_len (da_cons (de_var (i := 0)) da_nil)) de_int))
    (dss_cons (ds_if (dv_not (dv_chain od_le od_le calm_dLe calm_dLe de_int (de_var (i := 1)) (de_globI rfl T.c_MOST))) (dss_one (ds_ret de_bl)) dss_nil)
    (dss_cons (ds_for (ix := [2, 3]) (passes_of rfl) rfl (di_enum T.n_enumerate (de_var (i := 0))) (dg_tup rfl (dgs_cons (dg_name (i := 2) nd) (dgs_cons (dg_name (i := 3) nd) dgs_nil))) (dss_one (ds_if (dv_w (dw_or (dv_cmp (od_ne hu) calm_dNe (de_blt cd_len calm_dLen T.n_len (da_cons (de_var (i := 3)) da_nil)) (de_op od_add dInt2_calm (de_op od_sub dInt2_calm (de_var (i := 1)) (de_var (i := 2))) de_int)) (dw_one (dv_not (dv_val (de_blt (cd_all rfl) calm_dAll T.n_all (da_cons (de_frz (de_lc rfl nd [("number", 4)] (di_seq (de_var (i := 3))) (blkOk_by (by rfl)) (fun _ _ _ _ _ => (dg_name (i := 4) nd)) (fun _ _ _ _ _ => dts_nil) (fun _ _ _ _ _ => (de_chain od_le od_le calm_dLe calm_dLe de_int (de_var (i := 4)) de_int)))) da_nil))))))) (dss_one (ds_ret de_bl)) dss_nil)))
    (dss_one (ds_ret de_bl)))))
abbrev s_Net_init : Stmt := inClass (topS 11) 0
theorem sc_Net_init : FnScope ["self", "marks", "row"] ["self", "marks"] (defScope s_Net_init) := ⟨rfl, rfl, rfl, by decide +kernel, rfl, by decide +kernel, by decide +kernel⟩
def F_Net : List PyData → O := F_init 3 0 (fNot (fArgs F_marks_right [(fVar 1)])) (fBin dSub (fArgs (d1 dLen) [(fVar 1)]) (fC (.int 1))) (fLc (iSeq (fVar 1)) (setN 2) fTrue (fArgs (d1 dList) [(fVar 2)]) [2])
set_option maxHeartbeats 4000000 in
theorem ok_Net_init {f : Addr} {fd : FuncData} (F : Fun K "__init__" "Net.__init__" s_Net_init f fd) (T : Txt K mg C xc) (h_marks_right : FnIs ⟨P, w, K, C, xc⟩ mg base "marks_right" 1 1 0 F_marks_right) : FnOk P w K mg base (L2.CX P w) 2 f fd ["self", "marks"] (spInit ⟨P, w, K, C, xc⟩ F_Net) :=
  init_data F sc_Net_init rfl rfl (by decide) T.cl T.nS T.nM rfl fun cdv A outer s H E hr tk hp hu nd =>
    ⟨_, _, _, _, ps_if (t_of_v (dv_not (dv_val (de_call h_marks_right (hr.mono (by decide)) hp (da_cons (de_var (i := 1)) da_nil))))) (pss_one (ps_raise rfl tk (pmk_own PySem.F.excBase_ValueError T.e_BadNet.q T.e_BadNet.g T.e_BadNet.k (raises_own T.e_BadNet.b T.e_BadNet.t) rfl (by decide)))) pss_nil, fun _ _ _ h => h, fun _ _ _ h => h,
      ps_fld (pv 0) (de_op od_sub dInt2_calm (de_blt cd_len calm_dLen T.n_len (da_cons (de_var (i := 1)) da_nil)) de_int) rfl, fun _ _ _ h => h, ps_fld (pv 0) (de_lc rfl nd [("row", 2)] (di_seq (de_var (i := 1))) (blkOk_by (by rfl)) (fun _ _ _ _ _ => (dg_name (i := 2) nd)) (fun _ _ _ _ _ => dts_nil) (fun _ _ _ _ _ => (de_ty cd_list calm_dList T.n_list (da_cons (de_var (i := 2)) da_nil)))) rfl, fun _ _ _ h => h⟩
abbrev s__law_net : Stmt := topS 48
theorem sc__law_net : FnScope ["marks", "row"] ["marks"] (defScope s__law_net) := ⟨rfl, rfl, rfl, by decide +kernel, rfl, by decide +kernel, by decide +kernel⟩
def B__law_net : SF := (sRet (fArgs F_Net [(fLc (iSeq (fVar 0)) (setN 1) fTrue (fArgs (d1 dList) [(fVar 1)]) [1])]))
def F__law_net : List PyData → O := fnF 2 B__law_net
set_option maxHeartbeats 4000000 in
theorem ok__law_net {f : Addr} {fd : FuncData} (F : Fun K "_law_net" "_law_net" s__law_net f fd) (T : Txt K mg C xc) (h_Net : NetIs ⟨P, w, K, C, xc⟩ mg base 2 F_Net) : FnOk P w K mg base (L2.CX P w) 4 f fd ["marks"] (spD ⟨P, w, K, C, xc⟩ 0 F__law_net 1) :=
  fn_data F sc__law_net fun cdv A outer s H E hr tk hp hu nd =>
   (dss_one (ds_ret (de_frz (de_net h_Net (hr.mono (by decide)) hp (da_cons (de_frz (de_lc rfl nd [("row", 1)] (di_seq (de_var (i := 0))) (blkOk_by (by rfl)) (fun _ _ _ _ _ => (dg_name (i := 1) nd)) (fun _ _ _ _ _ => dts_nil) (fun _ _ _ _ _ => (de_frz (de_ty cd_list calm_dList T.n_list (da_cons (de_var (i := 1)) da_nil)))))) da_nil)))))
abbrev s_ruled : Stmt := topS 36
theorem sc_ruled : FnScope ["net", "size", "k"] ["net"] (defScope s_ruled) := ⟨rfl, rfl, rfl, by decide +kernel, rfl, by decide +kernel, by decide +kernel⟩
def B_ruled : SF := (seqF' (sSet 1 0 (fUn dSize (fVar 0)))
  (seqF' (sIf (fOr (fBin dNe (fBin dIx (fBin dIx (fUn dMarks (fVar 0)) (fC (.int 0))) (fC (.int 0))) (fC (.int 0))) (fOr (fBin dNe (fBin dIx (fBin dIx (fUn dMarks (fVar 0)) (fC (.int 0))) (fVar 1)) (fC (.int 1))) (fBin dNe (fBin dIx (fBin dIx (fUn dMarks (fVar 0)) (fVar 1)) (fC (.int 0))) (fC (.int 2))))) (sRet (fC (.bool false))) fNext)
  (seqF' (sFor (iRng [(fBin dAdd (fVar 1) (fC (.int 1)))]) (setN 2) (sIf (fOr (fBin dEq (fBin dIx (fBin dIx (fUn dMarks (fVar 0)) (fC (.int 0))) (fVar 2)) (fC (.int 2))) (fOr (fBin dEq (fBin dIx (fBin dIx (fUn dMarks (fVar 0)) (fVar 2)) (fC (.int 0))) (fC (.int 1))) (fBin dEq (fBin dIx (fBin dIx (fUn dMarks (fVar 0)) (fVar 2)) (fBin dSub (fVar 1) (fVar 2))) (fC (.int 0))))) (sRet (fC (.bool false))) fNext))
  (sRet (fC (.bool true))))))
def F_ruled : List PyData → O := fnF 3 B_ruled
set_option maxHeartbeats 4000000 in
theorem ok_ruled {f : Addr} {fd : FuncData} (F : Fun K "ruled" "ruled" s_ruled f fd) (T : Txt K mg C xc) : FnOk P w K mg base (L2.CX P w) 1 f fd ["net"] (spD ⟨P, w, K, C, xc⟩ 0 F_ruled 1) :=
  fn_data F sc_ruled fun cdv A outer s H E hr tk hp hu nd =>
   (dss_cons (ds_set (i := 1) nd (de_size T.cl T.nS (de_var (i := 0)) rfl))
    (dss_cons (ds_if (dv_w (dw_or (dv_cmp (od_ne hu) calm_dNe (de_ix id_ix calm_dIx (de_ix id_ix calm_dIx (de_marks T.cl T.nM (de_var (i := 0)) rfl) de_int) de_int) de_int) (dw_or (dv_cmp (od_ne hu) calm_dNe (de_ix id_ix calm_dIx (de_ix id_ix calm_dIx (de_marks T.cl T.nM (de_var (i := 0)) rfl) de_int) (de_var (i := 1))) de_int) (dw_one (dv_cmp (od_ne hu) calm_dNe (de_ix id_ix calm_dIx (de_ix id_ix calm_dIx (de_marks T.cl T.nM (de_var (i := 0)) rfl) (de_var (i := 1))) de_int) de_int))))) (dss_one (ds_ret de_bl)) dss_nil)
    (dss_cons (ds_for (ix := [2]) (passes_of rfl) rfl (di_range1 T.n_range (da_cons (de_op od_add dInt2_calm (de_var (i := 1)) de_int) da_nil)) (dg_name (i := 2) nd) (dss_one (ds_if (dv_w (dw_or (dv_cmp (od_eq hu) calm_dEq (de_ix id_ix calm_dIx (de_ix id_ix calm_dIx (de_marks T.cl T.nM (de_var (i := 0)) rfl) de_int) (de_var (i := 2))) de_int) (dw_or (dv_cmp (od_eq hu) calm_dEq (de_ix id_ix calm_dIx (de_ix id_ix calm_dIx (de_marks T.cl T.nM (de_var (i := 0)) rfl) (de_var (i := 2))) de_int) de_int) (dw_one (dv_cmp (od_eq hu) calm_dEq (de_ix id_ix calm_dIx (de_ix id_ix calm_dIx (de_marks T.cl T.nM (de_var (i := 0)) rfl) (de_var (i := 2))) (de_op od_sub dInt2_calm (de_var (i := 1)) (de_var (i := 2)))) de_int))))) (dss_one (ds_ret de_bl)) dss_nil)))
    (dss_one (ds_ret de_bl)))))
abbrev s_check_ruled : Stmt := topS 37
theorem sc_check_ruled : FnScope ["net"] ["net"] (defScope s_check_ruled) := ⟨rfl, rfl, rfl, by decide +kernel, rfl, by decide +kernel, by decide +kernel⟩
def B_check_ruled : SF := (sIf (fNot (fArgs F_ruled [(fVar 0)])) (fun ρ => .ex 5 ρ) fNext)
def F_check_ruled : List PyData → O := fnF 1 B_check_ruled
set_option maxHeartbeats 4000000 in
theorem ok_check_ruled {f : Addr} {fd : FuncData} (F : Fun K "check_ruled" "check_ruled" s_check_ruled f fd) (T : Txt K mg C xc) (h_ruled : FnIs ⟨P, w, K, C, xc⟩ mg base "ruled" 1 1 0 F_ruled) : FnOk P w K mg base (L2.CX P w) 2 f fd ["net"] (spD ⟨P, w, K, C, xc⟩ 0 F_check_ruled 1) :=
  fn_data F sc_check_ruled fun cdv A outer s H E hr tk hp hu nd =>
   (dss_one (ds_if (dv_not (dv_val (de_call h_ruled (hr.mono (by decide)) hp (da_cons (de_var (i := 0)) da_nil)))) (dss_one (ds_raise rfl tk T.e_NotRuled)) dss_nil))
abbrev s_owner : Stmt := topS 39
theorem sc_owner : FnScope ["x", "y"] ["x", "y"] (defScope s_owner) := ⟨rfl, rfl, rfl, by decide +kernel, rfl, by decide +kernel, by decide +kernel⟩
def B_owner : SF := (sRet (fBin dMod (fBin dSub (fVar 0) (fVar 1)) (fC (.int 3))))
def F_owner : List PyData → O := fnF 2 B_owner
set_option maxHeartbeats 4000000 in
theorem ok_owner {f : Addr} {fd : FuncData} (F : Fun K "owner" "owner" s_owner f fd) (T : Txt K mg C xc) : FnOk P w K mg base (L2.CX P w) 1 f fd ["x", "y"] (spD ⟨P, w, K, C, xc⟩ 0 F_owner 2) :=
  fn_data F sc_owner fun cdv A outer s H E hr tk hp hu nd =>
   (dss_one (ds_ret (de_op od_mod dInt2_calm (de_op od_sub dInt2_calm (de_var (i := 0)) (de_var (i := 1))) de_int)))
abbrev s_joint : Stmt := topS 40
theorem sc_joint : FnScope ["nets", "net", "size", "marks", "y", "x"] ["nets"] (defScope s_joint) := ⟨rfl, rfl, rfl, by decide +kernel, rfl, by decide +kernel, by decide +kernel⟩
def B_joint : SF := (seqF' (sIf (fOr (fBin dNe (fUn dSize (fBin dIx (fVar 0) (fC (.int 0)))) (fUn dSize (fBin dIx (fVar 0) (fC (.int 1))))) (fBin dNe (fUn dSize (fBin dIx (fVar 0) (fC (.int 0)))) (fUn dSize (fBin dIx (fVar 0) (fC (.int 2)))))) (fun ρ => .ex 0 ρ) fNext)
  (seqF' (sFor (iSeq (fVar 0)) (setN 1) (sDrop (fArgs F_check_ruled [(fVar 1)])))
  (seqF' (sSet 2 0 (fUn dSize (fBin dIx (fVar 0) (fC (.int 0)))))
  (seqF' (sSet 3 2 (fC (.list [])))
  (seqF' (sFor (iRng [(fBin dAdd (fVar 2) (fC (.int 1)))]) (setN 4) (sAppend 3 1 (fLc (iRng [(fBin dAdd (fBin dSub (fVar 2) (fVar 4)) (fC (.int 1)))]) (setN 5) fTrue (fBin dIx (fBin dIx (fUn dMarks (fBin dIx (fVar 0) (fArgs F_owner [(fVar 5), (fVar 4)]))) (fVar 4)) (fVar 5)) [5])))
  (sRet (fArgs F_Net [(fVar 3)])))))))
def F_joint : List PyData → O := fnF 6 B_joint
set_option maxHeartbeats 4000000 in
theorem ok_joint {f : Addr} {fd : FuncData} (F : Fun K "joint" "joint" s_joint f fd) (T : Txt K mg C xc) (h_check_ruled : FnIs ⟨P, w, K, C, xc⟩ mg base "check_ruled" 2 1 0 F_check_ruled) (h_owner : FnIs ⟨P, w, K, C, xc⟩ mg base "owner" 1 2 0 F_owner) (h_Net : NetIs ⟨P, w, K, C, xc⟩ mg base 2 F_Net) : FnOk P w K mg base (L2.CX P w) 4 f fd ["nets"] (spD ⟨P, w, K, C, xc⟩ 0 F_joint 1) :=
  fn_data F sc_joint fun cdv A outer s H E hr tk hp hu nd =>
   (dss_cons (ds_if (dv_w (dw_or (dv_cmp (od_ne hu) calm_dNe (de_size T.cl T.nS (de_ix id_ix calm_dIx (de_var (i := 0)) de_int) rfl) (de_size T.cl T.nS (de_ix id_ix calm_dIx (de_var (i := 0)) de_int) rfl)) (dw_one (dv_cmp (od_ne hu) calm_dNe (de_size T.cl T.nS (de_ix id_ix calm_dIx (de_var (i := 0)) de_int) rfl) (de_size T.cl T.nS (de_ix id_ix calm_dIx (de_var (i := 0)) de_int) rfl))))) (dss_one (ds_raise rfl tk T.e_BadNet)) dss_nil)
    (dss_cons (ds_for (ix := [1]) (passes_of rfl) rfl (di_seq (de_var (i := 0))) (dg_name (i := 1) nd) (dss_one (ds_expr (de_call h_check_ruled (hr.mono (by decide)) hp (da_cons (de_var (i := 1)) da_nil)))))
    (dss_cons (ds_set (i := 2) nd (de_size T.cl T.nS (de_ix id_ix calm_dIx (de_var (i := 0)) de_int) rfl))
    (dss_cons (ds_set (i := 3) nd de_nil)
    (dss_cons (ds_for (ix := [4]) (passes_of rfl) rfl (di_range1 T.n_range (da_cons (de_op od_add dInt2_calm (de_var (i := 2)) de_int) da_nil)) (dg_name (i := 4) nd) (dss_one (ds_append (i := 3) (de_lc rfl nd [("x", 5)] (di_range1 T.n_range (da_cons (de_op od_add dInt2_calm (de_op od_sub dInt2_calm (de_var (i := 2)) (de_var (i := 4))) de_int) da_nil)) (blkOk_by (by rfl)) (fun _ _ _ _ _ => (dg_name (i := 5) nd)) (fun _ _ _ _ _ => dts_nil) (fun _ _ _ _ _ => (de_ix id_ix calm_dIx (de_ix id_ix calm_dIx (de_marks T.cl T.nM (de_ix id_ix calm_dIx (de_var (i := 0)) (de_call h_owner (hr.mono (by decide)) pass_0 (da_cons (de_var (i := 5)) (da_cons (de_var (i := 4)) da_nil)))) rfl) (de_var (i := 4))) (de_var (i := 5))))))))
    (dss_one (ds_ret (de_frz (de_net h_Net (hr.mono (by decide)) hp (da_cons (de_var (i := 3)) da_nil))))))))))
abbrev s_Net_has : Stmt := inClass (topS 11) 1
theorem sc_Net_has : FnScope ["self", "x", "y"] ["self", "x", "y"] (defScope s_Net_has) := ⟨rfl, rfl, rfl, by decide +kernel, rfl, by decide +kernel, by decide +kernel⟩
def B_Net_has : SF := (sRet (fAnd (fBin dGe (fVar 1) (fC (.int 0))) (fAnd (fBin dGe (fVar 2) (fC (.int 0))) (fBin dLe (fBin dAdd (fVar 1) (fVar 2)) (fUn dSize (fVar 0))))))
def F_Net_has : List PyData → O := fnF 3 B_Net_has
set_option maxHeartbeats 4000000 in
theorem ok_Net_has {f : Addr} {fd : FuncData} (F : Fun K "has" "Net.has" s_Net_has f fd) (T : Txt K mg C xc) : FnOk P w K mg base (L2.CX P w) 1 f fd ["self", "x", "y"] (spD ⟨P, w, K, C, xc⟩ 0 F_Net_has 3) :=
  fn_data F sc_Net_has fun cdv A outer s H E hr tk hp hu nd =>
   (dss_one (ds_ret (de_and (de_cmp (od_ge hu) calm_dGe (de_var (i := 1)) de_int) (de_and (de_cmp (od_ge hu) calm_dGe (de_var (i := 2)) de_int) (de_one (de_cmp od_le calm_dLe (de_op od_add dInt2_calm (de_var (i := 1)) (de_var (i := 2))) (de_size T.cl T.nS (de_var (i := 0)) rfl)))))))
abbrev s_mark : Stmt := topS 12
theorem sc_mark : FnScope ["net", "x", "y"] ["net", "x", "y"] (defScope s_mark) := ⟨rfl, rfl, rfl, by decide +kernel, rfl, by decide +kernel, by decide +kernel⟩
def B_mark : SF := (seqF' (sIf (fNot (fMeth F_Net_has (fVar 0) [(fVar 1), (fVar 2)])) (fun ρ => .ex 1 ρ) fNext)
  (sRet (fBin dIx (fBin dIx (fUn dMarks (fVar 0)) (fVar 2)) (fVar 1))))
def F_mark : List PyData → O := fnF 3 B_mark
set_option maxHeartbeats 4000000 in
theorem ok_mark {f : Addr} {fd : FuncData} (F : Fun K "mark" "mark" s_mark f fd) (T : Txt K mg C xc) (h_Net_has : MethIs ⟨P, w, K, C, xc⟩ mg base "has" 1 3 0 F_Net_has) : FnOk P w K mg base (L2.CX P w) 2 f fd ["net", "x", "y"] (spD ⟨P, w, K, C, xc⟩ 0 F_mark 3) :=
  fn_data F sc_mark fun cdv A outer s H E hr tk hp hu nd =>
   (dss_cons (ds_if (dv_not (dv_val (de_meth T.cl h_Net_has (hr.mono (by decide)) hp (de_var (i := 0)) (da_cons (de_var (i := 1)) (da_cons (de_var (i := 2)) da_nil))))) (dss_one (ds_raise rfl tk T.e_NoPlace)) dss_nil)
    (dss_one (ds_ret (de_ix id_ix calm_dIx (de_ix id_ix calm_dIx (de_marks T.cl T.nM (de_var (i := 0)) rfl) (de_var (i := 2))) (de_var (i := 1))))))
abbrev s_corners_of : Stmt := topS 13
theorem sc_corners_of : FnScope ["triangle", "x", "y", "kind"] ["triangle"] (defScope s_corners_of) := ⟨rfl, rfl, rfl, by decide +kernel, rfl, by decide +kernel, by decide +kernel⟩
def B_corners_of : SF := (seqF' (sAsg (setT [(setN 1), (setN 2), (setN 3)]) (fVar 0))
  (seqF' (sIf (fBin dEq (fVar 3) (fC (.int 0))) (sRet (fArgs dLst [(fArgs dTup [(fVar 1), (fVar 2)]), (fArgs dTup [(fBin dAdd (fVar 1) (fC (.int 1))), (fVar 2)]), (fArgs dTup [(fVar 1), (fBin dAdd (fVar 2) (fC (.int 1)))])])) fNext)
  (sRet (fArgs dLst [(fArgs dTup [(fBin dAdd (fVar 1) (fC (.int 1))), (fVar 2)]), (fArgs dTup [(fBin dAdd (fVar 1) (fC (.int 1))), (fBin dAdd (fVar 2) (fC (.int 1)))]), (fArgs dTup [(fVar 1), (fBin dAdd (fVar 2) (fC (.int 1)))])]))))
def F_corners_of : List PyData → O := fnF 4 B_corners_of
set_option maxHeartbeats 4000000 in
theorem ok_corners_of {f : Addr} {fd : FuncData} (F : Fun K "corners_of" "corners_of" s_corners_of f fd) (T : Txt K mg C xc) : FnOk P w K mg base (L2.CX P w) 1 f fd ["triangle"] (spD ⟨P, w, K, C, xc⟩ 1 F_corners_of 1) :=
  fn_data F sc_corners_of fun cdv A outer s H E hr tk hp hu nd =>
   (dss_cons (ds_asg (ix := [1, 2, 3]) (de_var (i := 0)) (dg_tup rfl (dgs_cons (dg_name (i := 1) nd) (dgs_cons (dg_name (i := 2) nd) (dgs_cons (dg_name (i := 3) nd) dgs_nil)))))
    (dss_cons (ds_if (dv_cmp (od_eq hu) calm_dEq (de_var (i := 3)) de_int) (dss_one (ds_ret (de_lst (da_cons (de_tup (da_cons (de_var (i := 1)) (da_cons (de_var (i := 2)) da_nil))) (da_cons (de_tup (da_cons (de_op od_add dInt2_calm (de_var (i := 1)) de_int) (da_cons (de_var (i := 2)) da_nil))) (da_cons (de_tup (da_cons (de_var (i := 1)) (da_cons (de_op od_add dInt2_calm (de_var (i := 2)) de_int) da_nil))) da_nil)))))) dss_nil)
    (dss_one (ds_ret (de_lst (da_cons (de_tup (da_cons (de_op od_add dInt2_calm (de_var (i := 1)) de_int) (da_cons (de_var (i := 2)) da_nil))) (da_cons (de_tup (da_cons (de_op od_add dInt2_calm (de_var (i := 1)) de_int) (da_cons (de_op od_add dInt2_calm (de_var (i := 2)) de_int) da_nil))) (da_cons (de_tup (da_cons (de_var (i := 1)) (da_cons (de_op od_add dInt2_calm (de_var (i := 2)) de_int) da_nil))) da_nil))))))))
abbrev s_is_triangle : Stmt := topS 14
theorem sc_is_triangle : FnScope ["net", "triangle", "x", "y"] ["net", "triangle"] (defScope s_is_triangle) := ⟨rfl, rfl, rfl, by decide +kernel, rfl, by decide +kernel, by decide +kernel⟩
def B_is_triangle : SF := (sRet (fAnd (fBin dIn (fBin dIx (fVar 1) (fC (.int 2))) (fArgs dTup [(fC (.int 0)), (fC (.int 1))])) (fArgs (d1 dAll) [(fLc (iSeq (fArgs F_corners_of [(fVar 1)])) (setT [(setN 2), (setN 3)]) fTrue (fMeth F_Net_has (fVar 0) [(fVar 2), (fVar 3)]) [2, 3])])))
def F_is_triangle : List PyData → O := fnF 4 B_is_triangle
set_option maxHeartbeats 4000000 in
theorem ok_is_triangle {f : Addr} {fd : FuncData} (F : Fun K "is_triangle" "is_triangle" s_is_triangle f fd) (T : Txt K mg C xc) (h_Net_has : MethIs ⟨P, w, K, C, xc⟩ mg base "has" 1 3 0 F_Net_has) (h_corners_of : FnIs ⟨P, w, K, C, xc⟩ mg base "corners_of" 1 1 1 F_corners_of) : FnOk P w K mg base (L2.CX P w) 2 f fd ["net", "triangle"] (spD ⟨P, w, K, C, xc⟩ 0 F_is_triangle 2) :=
  fn_data F sc_is_triangle fun cdv A outer s H E hr tk hp hu nd =>
   (dss_one (ds_ret (de_and (de_cmp (od_in hu) calm_dIn (de_ix id_ix calm_dIx (de_var (i := 1)) de_int) (de_tup (da_cons de_int (da_cons de_int da_nil)))) (de_one (de_blt (cd_all rfl) calm_dAll T.n_all (da_cons (de_frz (de_lc rfl nd [("x", 2), ("y", 3)] (di_seq (de_frz (de_call h_corners_of (hr.mono (by decide)) hp (da_cons (de_var (i := 1)) da_nil)))) (blkOk_by (by rfl)) (fun _ _ _ _ _ => (dg_tup rfl (dgs_cons (dg_name (i := 2) nd) (dgs_cons (dg_name (i := 3) nd) dgs_nil)))) (fun _ _ _ _ _ => dts_nil) (fun _ _ _ _ _ => (de_meth T.cl h_Net_has (hr.mono (by decide)) pass_0 (de_var (i := 0)) (da_cons (de_var (i := 2)) (da_cons (de_var (i := 3)) da_nil)))))) da_nil))))))
abbrev s_corners : Stmt := topS 15
theorem sc_corners : FnScope ["net", "triangle"] ["net", "triangle"] (defScope s_corners) := ⟨rfl, rfl, rfl, by decide +kernel, rfl, by decide +kernel, by decide +kernel⟩
def B_corners : SF := (seqF' (sIf (fNot (fArgs F_is_triangle [(fVar 0), (fVar 1)])) (fun ρ => .ex 2 ρ) fNext)
  (sRet (fArgs F_corners_of [(fVar 1)])))
def F_corners : List PyData → O := fnF 2 B_corners
set_option maxHeartbeats 4000000 in
theorem ok_corners {f : Addr} {fd : FuncData} (F : Fun K "corners" "corners" s_corners f fd) (T : Txt K mg C xc) (h_is_triangle : FnIs ⟨P, w, K, C, xc⟩ mg base "is_triangle" 2 2 0 F_is_triangle) (h_corners_of : FnIs ⟨P, w, K, C, xc⟩ mg base "corners_of" 1 1 1 F_corners_of) : FnOk P w K mg base (L2.CX P w) 3 f fd ["net", "triangle"] (spD ⟨P, w, K, C, xc⟩ 1 F_corners 2) :=
  fn_data F sc_corners fun cdv A outer s H E hr tk hp hu nd =>
   (dss_cons (ds_if (dv_not (dv_val (de_call h_is_triangle (hr.mono (by decide)) hp (da_cons (de_var (i := 0)) (da_cons (de_var (i := 1)) da_nil))))) (dss_one (ds_raise rfl tk T.e_NoTriangle)) dss_nil)
    (dss_one (ds_ret (de_call h_corners_of (hr.mono (by decide)) hp (da_cons (de_var (i := 1)) da_nil)))))
abbrev s_sense : Stmt := topS 17
theorem sc_sense : FnScope ["net", "triangle", "one", "two", "three", "x", "y"] ["net", "triangle"] (defScope s_sense) := ⟨rfl, rfl, rfl, by decide +kernel, rfl, by decide +kernel, by decide +kernel⟩
def B_sense : SF := (seqF' (sAsg (setU [(setN 2), (setN 3), (setN 4)]) (fLc (iSeq (fArgs F_corners [(fVar 0), (fVar 1)])) (setT [(setN 5), (setN 6)]) fTrue (fBin dIx (fBin dIx (fUn dMarks (fVar 0)) (fVar 6)) (fVar 5)) [5, 6]))
  (seqF' (sIf (fAnd (fBin dEq (fBin dMod (fBin dSub (fVar 3) (fVar 2)) (fC (.int 3))) (fC (.int 1))) (fBin dEq (fBin dMod (fBin dSub (fVar 4) (fVar 3)) (fC (.int 3))) (fC (.int 1)))) (sRet (fC (.int 1))) fNext)
  (seqF' (sIf (fAnd (fBin dEq (fBin dMod (fBin dSub (fVar 3) (fVar 2)) (fC (.int 3))) (fC (.int 2))) (fBin dEq (fBin dMod (fBin dSub (fVar 4) (fVar 3)) (fC (.int 3))) (fC (.int 2)))) (sRet (fUn dNeg (fC (.int 1)))) fNext)
  (sRet (fC (.int 0))))))
def F_sense : List PyData → O := fnF 7 B_sense
set_option maxHeartbeats 4000000 in
theorem ok_sense {f : Addr} {fd : FuncData} (F : Fun K "sense" "sense" s_sense f fd) (T : Txt K mg C xc) (h_corners : FnIs ⟨P, w, K, C, xc⟩ mg base "corners" 3 2 1 F_corners) : FnOk P w K mg base (L2.CX P w) 4 f fd ["net", "triangle"] (spD ⟨P, w, K, C, xc⟩ 0 F_sense 2) :=
  fn_data F sc_sense fun cdv A outer s H E hr tk hp hu nd =>
   (dss_cons (ds_asg (ix := [2, 3, 4]) (de_frz (de_lc rfl nd [("x", 5), ("y", 6)] (di_seq (de_frz (de_call h_corners (hr.mono (by decide)) hp (da_cons (de_var (i := 0)) (da_cons (de_var (i := 1)) da_nil))))) (blkOk_by (by rfl)) (fun _ _ _ _ _ => (dg_tup rfl (dgs_cons (dg_name (i := 5) nd) (dgs_cons (dg_name (i := 6) nd) dgs_nil)))) (fun _ _ _ _ _ => dts_nil) (fun _ _ _ _ _ => (de_ix id_ix calm_dIx (de_ix id_ix calm_dIx (de_marks T.cl T.nM (de_var (i := 0)) rfl) (de_var (i := 6))) (de_var (i := 5)))))) (dg_lst rfl (dgs_cons (dg_name (i := 2) nd) (dgs_cons (dg_name (i := 3) nd) (dgs_cons (dg_name (i := 4) nd) dgs_nil)))))
    (dss_cons (ds_if (dv_w (dw_and (dv_cmp (od_eq hu) calm_dEq (de_op od_mod dInt2_calm (de_op od_sub dInt2_calm (de_var (i := 3)) (de_var (i := 2))) de_int) de_int) (dw_one (dv_cmp (od_eq hu) calm_dEq (de_op od_mod dInt2_calm (de_op od_sub dInt2_calm (de_var (i := 4)) (de_var (i := 3))) de_int) de_int)))) (dss_one (ds_ret de_int)) dss_nil)
    (dss_cons (ds_if (dv_w (dw_and (dv_cmp (od_eq hu) calm_dEq (de_op od_mod dInt2_calm (de_op od_sub dInt2_calm (de_var (i := 3)) (de_var (i := 2))) de_int) de_int) (dw_one (dv_cmp (od_eq hu) calm_dEq (de_op od_mod dInt2_calm (de_op od_sub dInt2_calm (de_var (i := 4)) (de_var (i := 3))) de_int) de_int)))) (dss_one (ds_ret (de_neg de_int))) dss_nil)
    (dss_one (ds_ret de_int)))))
abbrev s_is_floor : Stmt := topS 19
theorem sc_is_floor : FnScope ["net", "floor", "k", "triangle"] ["net", "floor"] (defScope s_is_floor) := ⟨rfl, rfl, rfl, by decide +kernel, rfl, by decide +kernel, by decide +kernel⟩
def B_is_floor : SF := (seqF' (sFor (iEnm (fVar 1)) (setT [(setN 2), (setN 3)]) (sIf (fOr (fNot (fArgs F_is_triangle [(fVar 0), (fVar 3)])) (fAnd (fBin dGt (fVar 2) (fC (.int 0))) (fBin dGe (fBin dIx (fVar 1) (fBin dSub (fVar 2) (fC (.int 1)))) (fVar 3)))) (sRet (fC (.bool false))) fNext))
  (sRet (fC (.bool true))))
def F_is_floor : List PyData → O := fnF 4 B_is_floor
set_option maxHeartbeats 4000000 in
theorem ok_is_floor {f : Addr} {fd : FuncData} (F : Fun K "is_floor" "is_floor" s_is_floor f fd) (T : Txt K mg C xc) (h_is_triangle : FnIs ⟨P, w, K, C, xc⟩ mg base "is_triangle" 2 2 0 F_is_triangle) : FnOk P w K mg base (L2.CX P w) 3 f fd ["net", "floor"] (spD ⟨P, w, K, C, xc⟩ 0 F_is_floor 2) :=
  fn_data F sc_is_floor fun cdv A outer s H E hr tk hp hu nd =>
   (dss_cons (ds_for (ix := [2, 3]) (passes_of rfl) rfl (di_enum T.n_enumerate (de_var (i := 1))) (dg_tup rfl (dgs_cons (dg_name (i := 2) nd) (dgs_cons (dg_name (i := 3) nd) dgs_nil))) (dss_one (ds_if (dv_w (dw_or (dv_not (dv_val (de_call h_is_triangle (hr.mono (by decide)) hp (da_cons (de_var (i := 0)) (da_cons (de_var (i := 3)) da_nil))))) (dw_one (dv_w (dw_and (dv_cmp od_gt calm_dGt (de_var (i := 2)) de_int) (dw_one (dv_cmp (od_ge hu) calm_dGe (de_ix id_ix calm_dIx (de_var (i := 1)) (de_op od_sub dInt2_calm (de_var (i := 2)) de_int)) (de_var (i := 3))))))))) (dss_one (ds_ret de_bl)) dss_nil)))
    (dss_one (ds_ret de_bl)))
abbrev s_check_floor : Stmt := topS 20
theorem sc_check_floor : FnScope ["net", "floor"] ["net", "floor"] (defScope s_check_floor) := ⟨rfl, rfl, rfl, by decide +kernel, rfl, by decide +kernel, by decide +kernel⟩
def B_check_floor : SF := (sIf (fNot (fArgs F_is_floor [(fVar 0), (fVar 1)])) (fun ρ => .ex 3 ρ) fNext)
def F_check_floor : List PyData → O := fnF 2 B_check_floor
set_option maxHeartbeats 4000000 in
theorem ok_check_floor {f : Addr} {fd : FuncData} (F : Fun K "check_floor" "check_floor" s_check_floor f fd) (T : Txt K mg C xc) (h_is_floor : FnIs ⟨P, w, K, C, xc⟩ mg base "is_floor" 3 2 0 F_is_floor) : FnOk P w K mg base (L2.CX P w) 4 f fd ["net", "floor"] (spD ⟨P, w, K, C, xc⟩ 0 F_check_floor 2) :=
  fn_data F sc_check_floor fun cdv A outer s H E hr tk hp hu nd =>
   (dss_one (ds_if (dv_not (dv_val (de_call h_is_floor (hr.mono (by decide)) hp (da_cons (de_var (i := 0)) (da_cons (de_var (i := 1)) da_nil))))) (dss_one (ds_raise rfl tk T.e_NoFloor)) dss_nil))
abbrev s_side : Stmt := topS 21
theorem sc_side : FnScope ["triangle", "k", "places"] ["triangle", "k"] (defScope s_side) := ⟨rfl, rfl, rfl, by decide +kernel, rfl, by decide +kernel, by decide +kernel⟩
def B_side : SF := (seqF' (sSet 2 0 (fArgs F_corners_of [(fVar 0)]))
  (sRet (fArgs dTup [(fBin dIx (fVar 2) (fVar 1)), (fBin dIx (fVar 2) (fBin dMod (fBin dAdd (fVar 1) (fC (.int 1))) (fC (.int 3))))])))
def F_side : List PyData → O := fnF 3 B_side
set_option maxHeartbeats 4000000 in
theorem ok_side {f : Addr} {fd : FuncData} (F : Fun K "side" "side" s_side f fd) (T : Txt K mg C xc) (h_corners_of : FnIs ⟨P, w, K, C, xc⟩ mg base "corners_of" 1 1 1 F_corners_of) : FnOk P w K mg base (L2.CX P w) 2 f fd ["triangle", "k"] (spD ⟨P, w, K, C, xc⟩ 0 F_side 2) :=
  fn_data F sc_side fun cdv A outer s H E hr tk hp hu nd =>
   (dss_cons (ds_set (i := 2) nd (de_frz (de_call h_corners_of (hr.mono (by decide)) hp (da_cons (de_var (i := 0)) da_nil))))
    (dss_one (ds_ret (de_tup (da_cons (de_ix id_ix calm_dIx (de_var (i := 2)) (de_var (i := 1))) (da_cons (de_ix id_ix calm_dIx (de_var (i := 2)) (de_op od_mod dInt2_calm (de_op od_add dInt2_calm (de_var (i := 1)) de_int) de_int)) da_nil))))))
abbrev s_border_sides : Stmt := topS 23
theorem sc_border_sides : FnScope ["floor", "known", "found", "triangle", "k", "one", "two"] ["floor", "known"] (defScope s_border_sides) := ⟨rfl, rfl, rfl, by decide +kernel, rfl, by decide +kernel, by decide +kernel⟩
def B_border_sides : SF := (seqF' (sSet 2 1 (fC (.list [])))
  (seqF' (sFor (iSeq (fVar 0)) (setN 3) (sFor (iRng [(fC (.int 3))]) (setN 4) (seqF' (sAsg (setT [(setN 5), (setN 6)]) (fArgs F_side [(fVar 3), (fVar 4)]))
  (sIf (fBin dNotIn (fArgs dTup [(fVar 6), (fVar 5)]) (fVar 1)) (sAppend 2 0 (fArgs dTup [(fVar 3), (fVar 4)])) fNext))))
  (sRetV 2 1)))
def F_border_sides : List PyData → O := fnF 7 B_border_sides
set_option maxHeartbeats 4000000 in
theorem ok_border_sides {f : Addr} {fd : FuncData} (F : Fun K "border_sides" "border_sides" s_border_sides f fd) (T : Txt K mg C xc) (h_side : FnIs ⟨P, w, K, C, xc⟩ mg base "side" 2 2 0 F_side) : FnOk P w K mg base (L2.CX P w) 3 f fd ["floor", "known"] (spD ⟨P, w, K, C, xc⟩ 1 F_border_sides 2) :=
  fn_data F sc_border_sides fun cdv A outer s H E hr tk hp hu nd =>
   (dss_cons (ds_set (i := 2) nd de_nil)
    (dss_cons (ds_for (ix := [3]) (passes_of rfl) rfl (di_seq (de_var (i := 0))) (dg_name (i := 3) nd) (dss_one (ds_for (ix := [4]) (passes_of rfl) rfl (di_range1 T.n_range (da_cons de_int da_nil)) (dg_name (i := 4) nd) (dss_cons (ds_asg (ix := [5, 6]) (de_call h_side (hr.mono (by decide)) hp (da_cons (de_var (i := 3)) (da_cons (de_var (i := 4)) da_nil))) (dg_tup rfl (dgs_cons (dg_name (i := 5) nd) (dgs_cons (dg_name (i := 6) nd) dgs_nil))))
    (dss_one (ds_if (dv_cmp (od_notIn hu) calm_dNotIn (de_tup (da_cons (de_var (i := 6)) (da_cons (de_var (i := 5)) da_nil))) (de_var (i := 1))) (dss_one (ds_append (i := 2) (de_tup (da_cons (de_var (i := 3)) (da_cons (de_var (i := 4)) da_nil))))) dss_nil))))))
    (dss_one (ds_retv (i := 2)))))
abbrev s_sides_by_places : Stmt := topS 22
theorem sc_sides_by_places : FnScope ["floor", "found", "triangle", "k"] ["floor"] (defScope s_sides_by_places) := ⟨rfl, rfl, rfl, by decide +kernel, rfl, by decide +kernel, by decide +kernel⟩
def B_sides_by_places : SF := (seqF' (sSet 1 1 fNewD)
  (seqF' (sFor (iSeq (fVar 0)) (setN 2) (sFor (iRng [(fC (.int 3))]) (setN 3) (sDput 1 (fArgs F_side [(fVar 2), (fVar 3)]) (fArgs dTup [(fVar 2), (fVar 3)]))))
  (sRet (fVar 1))))
def F_sides_by_places : List PyData → O := fnF 4 B_sides_by_places
set_option maxHeartbeats 4000000 in
theorem ok_sides_by_places {f : Addr} {fd : FuncData} (F : Fun K "sides_by_places" "sides_by_places" s_sides_by_places f fd) (T : Txt K mg C xc) (h_side : FnIs ⟨P, w, K, C, xc⟩ mg base "side" 2 2 0 F_side) : FnOk P w K mg base (L2.CX P w) 3 f fd ["floor"] (spD ⟨P, w, K, C, xc⟩ 0 F_sides_by_places 1) :=
  fn_data F sc_sides_by_places fun cdv A outer s H E hr tk hp hu nd =>
   (dss_cons (ds_set (i := 1) nd de_newD)
    (dss_cons (ds_for (ix := [2]) (passes_of rfl) rfl (di_seq (de_var (i := 0))) (dg_name (i := 2) nd) (dss_one (ds_for (ix := [3]) (passes_of rfl) rfl (di_range1 T.n_range (da_cons de_int da_nil)) (dg_name (i := 3) nd) (dss_one (ds_dput (i := 1) hu (de_call h_side (hr.mono (by decide)) hp (da_cons (de_var (i := 2)) (da_cons (de_var (i := 3)) da_nil))) (de_tup (da_cons (de_var (i := 2)) (da_cons (de_var (i := 3)) da_nil))))))))
    (dss_one (ds_ret (de_var (i := 1))))))
abbrev s_border : Stmt := topS 24
theorem sc_border : FnScope ["net", "floor"] ["net", "floor"] (defScope s_border) := ⟨rfl, rfl, rfl, by decide +kernel, rfl, by decide +kernel, by decide +kernel⟩
def B_border : SF := (seqF' (sDrop (fArgs F_check_floor [(fVar 0), (fVar 1)]))
  (sRet (fArgs F_border_sides [(fVar 1), (fArgs F_sides_by_places [(fVar 1)])])))
def F_border : List PyData → O := fnF 2 B_border
set_option maxHeartbeats 4000000 in
theorem ok_border {f : Addr} {fd : FuncData} (F : Fun K "border" "border" s_border f fd) (T : Txt K mg C xc) (h_check_floor : FnIs ⟨P, w, K, C, xc⟩ mg base "check_floor" 4 2 0 F_check_floor) (h_border_sides : FnIs ⟨P, w, K, C, xc⟩ mg base "border_sides" 3 2 1 F_border_sides) (h_sides_by_places : FnIs ⟨P, w, K, C, xc⟩ mg base "sides_by_places" 3 1 0 F_sides_by_places) : FnOk P w K mg base (L2.CX P w) 5 f fd ["net", "floor"] (spD ⟨P, w, K, C, xc⟩ 1 F_border 2) :=
  fn_data F sc_border fun cdv A outer s H E hr tk hp hu nd =>
   (dss_cons (ds_expr (de_call h_check_floor (hr.mono (by decide)) hp (da_cons (de_var (i := 0)) (da_cons (de_var (i := 1)) da_nil))))
    (dss_one (ds_ret (de_call h_border_sides (hr.mono (by decide)) hp (da_cons (de_var (i := 1)) (da_cons (de_call h_sides_by_places (hr.mono (by decide)) hp (da_cons (de_var (i := 1)) da_nil)) da_nil))))))
abbrev s_senses : Stmt := topS 25
theorem sc_senses : FnScope ["net", "floor", "triangle"] ["net", "floor"] (defScope s_senses) := ⟨rfl, rfl, rfl, by decide +kernel, rfl, by decide +kernel, by decide +kernel⟩
def B_senses : SF := (seqF' (sDrop (fArgs F_check_floor [(fVar 0), (fVar 1)]))
  (sRet (fArgs (d1 dSum) [(fLc (iSeq (fVar 1)) (setN 2) fTrue (fArgs F_sense [(fVar 0), (fVar 2)]) [2])])))
def F_senses : List PyData → O := fnF 3 B_senses
set_option maxHeartbeats 4000000 in
theorem ok_senses {f : Addr} {fd : FuncData} (F : Fun K "senses" "senses" s_senses f fd) (T : Txt K mg C xc) (h_check_floor : FnIs ⟨P, w, K, C, xc⟩ mg base "check_floor" 4 2 0 F_check_floor) (h_sense : FnIs ⟨P, w, K, C, xc⟩ mg base "sense" 4 2 0 F_sense) : FnOk P w K mg base (L2.CX P w) 5 f fd ["net", "floor"] (spD ⟨P, w, K, C, xc⟩ 0 F_senses 2) :=
  fn_data F sc_senses fun cdv A outer s H E hr tk hp hu nd =>
   (dss_cons (ds_expr (de_call h_check_floor (hr.mono (by decide)) hp (da_cons (de_var (i := 0)) (da_cons (de_var (i := 1)) da_nil))))
    (dss_one (ds_ret (de_blt (cd_sum rfl) calm_dSum T.n_sum (da_cons (de_frz (de_lc rfl nd [("triangle", 2)] (di_seq (de_var (i := 1))) (blkOk_by (by rfl)) (fun _ _ _ _ _ => (dg_name (i := 2) nd)) (fun _ _ _ _ _ => dts_nil) (fun _ _ _ _ _ => (de_call h_sense (hr.mono (by decide)) pass_0 (da_cons (de_var (i := 0)) (da_cons (de_var (i := 2)) da_nil)))))) da_nil)))))
abbrev s__law_first : Stmt := topS 50
theorem sc__law_first : FnScope ["net", "way", "y"] ["net", "way"] (defScope s__law_first) := ⟨rfl, rfl, rfl, by decide +kernel, rfl, by decide +kernel, by decide +kernel⟩
def B__law_first : SF := (seqF' (sIf (fBin dEq (fVar 1) (fC (.int 0))) (sDrop (fArgs F_Net [(fArgs dLst [(fArgs dLst [(fC (.int 0)), (fC (.int 1))]), (fArgs dLst [(fC (.int 3))])])])) fNext)
  (seqF' (sIf (fBin dEq (fVar 1) (fC (.int 1))) (sDrop (fArgs F_joint [(fArgs dLst [(fVar 0), (fVar 0), (fArgs F_Net [(fLc (iRng [(fC (.int 10))]) (setN 2) fTrue (fBin dRep (fArgs dLst [(fC (.int 0))]) (fBin dSub (fC (.int 10)) (fVar 2))) [2])])])])) fNext)
  (seqF' (sIf (fBin dEq (fVar 1) (fC (.int 2))) (sDrop (fArgs F_mark [(fVar 0), (fC (.int 0)), (fBin dAdd (fUn dSize (fVar 0)) (fC (.int 1)))])) fNext)
  (seqF' (sIf (fBin dEq (fVar 1) (fC (.int 3))) (sDrop (fArgs F_corners [(fVar 0), (fArgs dTup [(fC (.int 0)), (fC (.int 0)), (fC (.int 2))])])) fNext)
  (seqF' (sIf (fBin dEq (fVar 1) (fC (.int 4))) (sDrop (fArgs F_sense [(fVar 0), (fArgs dTup [(fUn dSize (fVar 0)), (fC (.int 0)), (fC (.int 0))])])) fNext)
  (seqF' (sIf (fBin dEq (fVar 1) (fC (.int 5))) (sDrop (fArgs F_border [(fVar 0), (fArgs dLst [(fArgs dTup [(fC (.int 0)), (fC (.int 0)), (fC (.int 0))]), (fArgs dTup [(fC (.int 0)), (fC (.int 0)), (fC (.int 0))])])])) fNext)
  (sIf (fBin dEq (fVar 1) (fC (.int 6))) (sDrop (fArgs F_senses [(fVar 0), (fArgs dLst [(fArgs dTup [(fUn dNeg (fC (.int 1))), (fC (.int 0)), (fC (.int 0))])])])) fNext)))))))
def F__law_first : List PyData → O := fnF 3 B__law_first
set_option maxHeartbeats 4000000 in
theorem ok__law_first {f : Addr} {fd : FuncData} (F : Fun K "_law_first" "_law_first" s__law_first f fd) (T : Txt K mg C xc) (h_Net : NetIs ⟨P, w, K, C, xc⟩ mg base 2 F_Net) (h_joint : FnIs ⟨P, w, K, C, xc⟩ mg base "joint" 4 1 0 F_joint) (h_mark : FnIs ⟨P, w, K, C, xc⟩ mg base "mark" 2 3 0 F_mark) (h_corners : FnIs ⟨P, w, K, C, xc⟩ mg base "corners" 3 2 1 F_corners) (h_sense : FnIs ⟨P, w, K, C, xc⟩ mg base "sense" 4 2 0 F_sense) (h_border : FnIs ⟨P, w, K, C, xc⟩ mg base "border" 5 2 1 F_border) (h_senses : FnIs ⟨P, w, K, C, xc⟩ mg base "senses" 5 2 0 F_senses) : FnOk P w K mg base (L2.CX P w) 6 f fd ["net", "way"] (spD ⟨P, w, K, C, xc⟩ 0 F__law_first 2) :=
  fn_data F sc__law_first fun cdv A outer s H E hr tk hp hu nd =>
   (dss_cons (ds_if (dv_cmp (od_eq hu) calm_dEq (de_var (i := 1)) de_int) (dss_one (ds_expr (de_net h_Net (hr.mono (by decide)) hp (da_cons (de_frz (de_lst (da_cons (de_frz (de_lst (da_cons de_int (da_cons de_int da_nil)))) (da_cons (de_frz (de_lst (da_cons de_int da_nil))) da_nil)))) da_nil)))) dss_nil)
    (dss_cons (ds_if (dv_cmp (od_eq hu) calm_dEq (de_var (i := 1)) de_int) (dss_one (ds_expr (de_call h_joint (hr.mono (by decide)) hp (da_cons (de_frz (de_lst (da_cons (de_var (i := 0)) (da_cons (de_var (i := 0)) (da_cons (de_frz (de_net h_Net (hr.mono (by decide)) hp (da_cons (de_frz (de_lc rfl nd [("y", 2)] (di_range1 T.n_range (da_cons de_int da_nil)) (blkOk_by (by rfl)) (fun _ _ _ _ _ => (dg_name (i := 2) nd)) (fun _ _ _ _ _ => dts_nil) (fun _ _ _ _ _ => (de_frz (de_op od_rep calm_dRep (de_frz (de_lst (da_cons de_int da_nil))) (de_op od_sub dInt2_calm de_int (de_var (i := 2)))))))) da_nil))) da_nil))))) da_nil)))) dss_nil)
    (dss_cons (ds_if (dv_cmp (od_eq hu) calm_dEq (de_var (i := 1)) de_int) (dss_one (ds_expr (de_call h_mark (hr.mono (by decide)) hp (da_cons (de_var (i := 0)) (da_cons de_int (da_cons (de_op od_add dInt2_calm (de_size T.cl T.nS (de_var (i := 0)) rfl) de_int) da_nil)))))) dss_nil)
    (dss_cons (ds_if (dv_cmp (od_eq hu) calm_dEq (de_var (i := 1)) de_int) (dss_one (ds_expr (de_call h_corners (hr.mono (by decide)) hp (da_cons (de_var (i := 0)) (da_cons (de_tup (da_cons de_int (da_cons de_int (da_cons de_int da_nil)))) da_nil))))) dss_nil)
    (dss_cons (ds_if (dv_cmp (od_eq hu) calm_dEq (de_var (i := 1)) de_int) (dss_one (ds_expr (de_call h_sense (hr.mono (by decide)) hp (da_cons (de_var (i := 0)) (da_cons (de_tup (da_cons (de_size T.cl T.nS (de_var (i := 0)) rfl) (da_cons de_int (da_cons de_int da_nil)))) da_nil))))) dss_nil)
    (dss_cons (ds_if (dv_cmp (od_eq hu) calm_dEq (de_var (i := 1)) de_int) (dss_one (ds_expr (de_call h_border (hr.mono (by decide)) hp (da_cons (de_var (i := 0)) (da_cons (de_frz (de_lst (da_cons (de_tup (da_cons de_int (da_cons de_int (da_cons de_int da_nil)))) (da_cons (de_tup (da_cons de_int (da_cons de_int (da_cons de_int da_nil)))) da_nil)))) da_nil))))) dss_nil)
    (dss_one (ds_if (dv_cmp (od_eq hu) calm_dEq (de_var (i := 1)) de_int) (dss_one (ds_expr (de_call h_senses (hr.mono (by decide)) hp (da_cons (de_var (i := 0)) (da_cons (de_frz (de_lst (da_cons (de_tup (da_cons (de_neg de_int) (da_cons de_int (da_cons de_int da_nil)))) da_nil))) da_nil))))) dss_nil))))))))
abbrev s_turn_of : Stmt := topS 26
theorem sc_turn_of : FnScope ["net", "triangle", "k", "one", "two", "x", "y"] ["net", "triangle", "k"] (defScope s_turn_of) := ⟨rfl, rfl, rfl, by decide +kernel, rfl, by decide +kernel, by decide +kernel⟩
def B_turn_of : SF := (seqF' (sAsg (setU [(setN 3), (setN 4)]) (fLc (iSeq (fArgs F_side [(fVar 1), (fVar 2)])) (setT [(setN 5), (setN 6)]) fTrue (fBin dIx (fBin dIx (fUn dMarks (fVar 0)) (fVar 6)) (fVar 5)) [5, 6]))
  (seqF' (sIf (fAnd (fBin dEq (fVar 3) (fC (.int 0))) (fBin dEq (fVar 4) (fC (.int 1)))) (sRet (fC (.int 1))) fNext)
  (seqF' (sIf (fAnd (fBin dEq (fVar 3) (fC (.int 1))) (fBin dEq (fVar 4) (fC (.int 0)))) (sRet (fUn dNeg (fC (.int 1)))) fNext)
  (sRet (fC (.int 0))))))
def F_turn_of : List PyData → O := fnF 7 B_turn_of
set_option maxHeartbeats 4000000 in
theorem ok_turn_of {f : Addr} {fd : FuncData} (F : Fun K "turn_of" "turn_of" s_turn_of f fd) (T : Txt K mg C xc) (h_side : FnIs ⟨P, w, K, C, xc⟩ mg base "side" 2 2 0 F_side) : FnOk P w K mg base (L2.CX P w) 3 f fd ["net", "triangle", "k"] (spD ⟨P, w, K, C, xc⟩ 0 F_turn_of 3) :=
  fn_data F sc_turn_of fun cdv A outer s H E hr tk hp hu nd =>
   (dss_cons (ds_asg (ix := [3, 4]) (de_frz (de_lc rfl nd [("x", 5), ("y", 6)] (di_seq (de_call h_side (hr.mono (by decide)) hp (da_cons (de_var (i := 1)) (da_cons (de_var (i := 2)) da_nil)))) (blkOk_by (by rfl)) (fun _ _ _ _ _ => (dg_tup rfl (dgs_cons (dg_name (i := 5) nd) (dgs_cons (dg_name (i := 6) nd) dgs_nil)))) (fun _ _ _ _ _ => dts_nil) (fun _ _ _ _ _ => (de_ix id_ix calm_dIx (de_ix id_ix calm_dIx (de_marks T.cl T.nM (de_var (i := 0)) rfl) (de_var (i := 6))) (de_var (i := 5)))))) (dg_lst rfl (dgs_cons (dg_name (i := 3) nd) (dgs_cons (dg_name (i := 4) nd) dgs_nil))))
    (dss_cons (ds_if (dv_w (dw_and (dv_cmp (od_eq hu) calm_dEq (de_var (i := 3)) de_int) (dw_one (dv_cmp (od_eq hu) calm_dEq (de_var (i := 4)) de_int)))) (dss_one (ds_ret de_int)) dss_nil)
    (dss_cons (ds_if (dv_w (dw_and (dv_cmp (od_eq hu) calm_dEq (de_var (i := 3)) de_int) (dw_one (dv_cmp (od_eq hu) calm_dEq (de_var (i := 4)) de_int)))) (dss_one (ds_ret (de_neg de_int))) dss_nil)
    (dss_one (ds_ret de_int)))))
abbrev s_turns : Stmt := topS 27
theorem sc_turns : FnScope ["net", "floor", "triangle", "k"] ["net", "floor"] (defScope s_turns) := ⟨rfl, rfl, rfl, by decide +kernel, rfl, by decide +kernel, by decide +kernel⟩
def B_turns : SF := (sRet (fArgs (d1 dSum) [(fLc (iSeq (fArgs F_border [(fVar 0), (fVar 1)])) (setT [(setN 2), (setN 3)]) fTrue (fArgs F_turn_of [(fVar 0), (fVar 2), (fVar 3)]) [2, 3])]))
def F_turns : List PyData → O := fnF 4 B_turns
set_option maxHeartbeats 4000000 in
theorem ok_turns {f : Addr} {fd : FuncData} (F : Fun K "turns" "turns" s_turns f fd) (T : Txt K mg C xc) (h_turn_of : FnIs ⟨P, w, K, C, xc⟩ mg base "turn_of" 3 3 0 F_turn_of) (h_border : FnIs ⟨P, w, K, C, xc⟩ mg base "border" 5 2 1 F_border) : FnOk P w K mg base (L2.CX P w) 6 f fd ["net", "floor"] (spD ⟨P, w, K, C, xc⟩ 0 F_turns 2) :=
  fn_data F sc_turns fun cdv A outer s H E hr tk hp hu nd =>
   (dss_one (ds_ret (de_blt (cd_sum rfl) calm_dSum T.n_sum (da_cons (de_frz (de_lc rfl nd [("triangle", 2), ("k", 3)] (di_seq (de_frz (de_call h_border (hr.mono (by decide)) hp (da_cons (de_var (i := 0)) (da_cons (de_var (i := 1)) da_nil))))) (blkOk_by (by rfl)) (fun _ _ _ _ _ => (dg_tup rfl (dgs_cons (dg_name (i := 2) nd) (dgs_cons (dg_name (i := 3) nd) dgs_nil)))) (fun _ _ _ _ _ => dts_nil) (fun _ _ _ _ _ => (de_call h_turn_of (hr.mono (by decide)) pass_0 (da_cons (de_var (i := 0)) (da_cons (de_var (i := 2)) (da_cons (de_var (i := 3)) da_nil))))))) da_nil))))
abbrev s_ends_of : Stmt := topS 29
theorem sc_ends_of : FnScope ["net", "floor", "known", "outer", "found", "triangle", "k"] ["net", "floor", "known"] (defScope s_ends_of) := ⟨rfl, rfl, rfl, by decide +kernel, rfl, by decide +kernel, by decide +kernel⟩
def B_ends_of : SF := (seqF' (sSet 3 0 (fArgs F_border_sides [(fVar 1), (fVar 2)]))
  (seqF' (sSet 4 1 (fC (.list [])))
  (seqF' (sFor (iSeq (fVar 1)) (setN 5) (seqF' (sIf (fBin dNe (fArgs F_sense [(fVar 0), (fVar 5)]) (fC (.int 0))) (sAppend 4 0 (fArgs dTup [(fC (.str "whole")), (fVar 5)])) fNext)
  (sFor (iRng [(fC (.int 3))]) (setN 6) (sIf (fAnd (fBin dIn (fArgs dTup [(fVar 5), (fVar 6)]) (fVar 3)) (fBin dNe (fArgs F_turn_of [(fVar 0), (fVar 5), (fVar 6)]) (fC (.int 0)))) (sAppend 4 0 (fArgs dTup [(fC (.str "door")), (fVar 5), (fVar 6)])) fNext))))
  (sRetV 4 1))))
def F_ends_of : List PyData → O := fnF 7 B_ends_of
set_option maxHeartbeats 4000000 in
theorem ok_ends_of {f : Addr} {fd : FuncData} (F : Fun K "ends_of" "ends_of" s_ends_of f fd) (T : Txt K mg C xc) (h_border_sides : FnIs ⟨P, w, K, C, xc⟩ mg base "border_sides" 3 2 1 F_border_sides) (h_sense : FnIs ⟨P, w, K, C, xc⟩ mg base "sense" 4 2 0 F_sense) (h_turn_of : FnIs ⟨P, w, K, C, xc⟩ mg base "turn_of" 3 3 0 F_turn_of) : FnOk P w K mg base (L2.CX P w) 5 f fd ["net", "floor", "known"] (spD ⟨P, w, K, C, xc⟩ 1 F_ends_of 3) :=
  fn_data F sc_ends_of fun cdv A outer s H E hr tk hp hu nd =>
   (dss_cons (ds_set (i := 3) nd (de_frz (de_call h_border_sides (hr.mono (by decide)) hp (da_cons (de_var (i := 1)) (da_cons (de_var (i := 2)) da_nil)))))
    (dss_cons (ds_set (i := 4) nd de_nil)
    (dss_cons (ds_for (ix := [5]) (passes_of rfl) rfl (di_seq (de_var (i := 1))) (dg_name (i := 5) nd) (dss_cons (ds_if (dv_cmp (od_ne hu) calm_dNe (de_call h_sense (hr.mono (by decide)) hp (da_cons (de_var (i := 0)) (da_cons (de_var (i := 5)) da_nil))) de_int) (dss_one (ds_append (i := 4) (de_tup (da_cons de_str (da_cons (de_var (i := 5)) da_nil))))) dss_nil)
    (dss_one (ds_for (ix := [6]) (passes_of rfl) rfl (di_range1 T.n_range (da_cons de_int da_nil)) (dg_name (i := 6) nd) (dss_one (ds_if (dv_w (dw_and (dv_cmp (od_in hu) calm_dIn (de_tup (da_cons (de_var (i := 5)) (da_cons (de_var (i := 6)) da_nil))) (de_var (i := 3))) (dw_one (dv_cmp (od_ne hu) calm_dNe (de_call h_turn_of (hr.mono (by decide)) hp (da_cons (de_var (i := 0)) (da_cons (de_var (i := 5)) (da_cons (de_var (i := 6)) da_nil)))) de_int)))) (dss_one (ds_append (i := 4) (de_tup (da_cons de_str (da_cons (de_var (i := 5)) (da_cons (de_var (i := 6)) da_nil)))))) dss_nil))))))
    (dss_one (ds_retv (i := 4))))))
abbrev s_ends : Stmt := topS 30
theorem sc_ends : FnScope ["net", "floor"] ["net", "floor"] (defScope s_ends) := ⟨rfl, rfl, rfl, by decide +kernel, rfl, by decide +kernel, by decide +kernel⟩
def B_ends : SF := (seqF' (sDrop (fArgs F_check_floor [(fVar 0), (fVar 1)]))
  (sRet (fArgs F_ends_of [(fVar 0), (fVar 1), (fArgs F_sides_by_places [(fVar 1)])])))
def F_ends : List PyData → O := fnF 2 B_ends
set_option maxHeartbeats 4000000 in
theorem ok_ends {f : Addr} {fd : FuncData} (F : Fun K "ends" "ends" s_ends f fd) (T : Txt K mg C xc) (h_check_floor : FnIs ⟨P, w, K, C, xc⟩ mg base "check_floor" 4 2 0 F_check_floor) (h_ends_of : FnIs ⟨P, w, K, C, xc⟩ mg base "ends_of" 5 3 1 F_ends_of) (h_sides_by_places : FnIs ⟨P, w, K, C, xc⟩ mg base "sides_by_places" 3 1 0 F_sides_by_places) : FnOk P w K mg base (L2.CX P w) 6 f fd ["net", "floor"] (spD ⟨P, w, K, C, xc⟩ 0 F_ends 2) :=
  fn_data F sc_ends fun cdv A outer s H E hr tk hp hu nd =>
   (dss_cons (ds_expr (de_call h_check_floor (hr.mono (by decide)) hp (da_cons (de_var (i := 0)) (da_cons (de_var (i := 1)) da_nil))))
    (dss_one (ds_ret (de_frz (de_call h_ends_of (hr.mono (by decide)) hp (da_cons (de_var (i := 0)) (da_cons (de_var (i := 1)) (da_cons (de_call h_sides_by_places (hr.mono (by decide)) hp (da_cons (de_var (i := 1)) da_nil)) da_nil))))))))
abbrev s_other_door : Stmt := topS 31
theorem sc_other_door : FnScope ["net", "triangle", "came", "k"] ["net", "triangle", "came"] (defScope s_other_door) := ⟨rfl, rfl, rfl, by decide +kernel, rfl, by decide +kernel, by decide +kernel⟩
def B_other_door : SF := (seqF' (sFor (iRng [(fC (.int 3))]) (setN 3) (sIf (fAnd (fBin dNe (fVar 3) (fVar 2)) (fBin dNe (fArgs F_turn_of [(fVar 0), (fVar 1), (fVar 3)]) (fC (.int 0)))) (sRet (fVar 3)) fNext))
  (sRet (fC .none)))
def F_other_door : List PyData → O := fnF 4 B_other_door
set_option maxHeartbeats 4000000 in
theorem ok_other_door {f : Addr} {fd : FuncData} (F : Fun K "other_door" "other_door" s_other_door f fd) (T : Txt K mg C xc) (h_turn_of : FnIs ⟨P, w, K, C, xc⟩ mg base "turn_of" 3 3 0 F_turn_of) : FnOk P w K mg base (L2.CX P w) 4 f fd ["net", "triangle", "came"] (spD ⟨P, w, K, C, xc⟩ 0 F_other_door 3) :=
  fn_data F sc_other_door fun cdv A outer s H E hr tk hp hu nd =>
   (dss_cons (ds_for (ix := [3]) (passes_of rfl) rfl (di_range1 T.n_range (da_cons de_int da_nil)) (dg_name (i := 3) nd) (dss_one (ds_if (dv_w (dw_and (dv_cmp (od_ne hu) calm_dNe (de_var (i := 3)) (de_var (i := 2))) (dw_one (dv_cmp (od_ne hu) calm_dNe (de_call h_turn_of (hr.mono (by decide)) hp (da_cons (de_var (i := 0)) (da_cons (de_var (i := 1)) (da_cons (de_var (i := 3)) da_nil)))) de_int)))) (dss_one (ds_ret (de_var (i := 3)))) dss_nil)))
    (dss_one (ds_ret de_non)))
abbrev s_gone : Stmt := topS 32
theorem sc_gone : FnScope ["net", "floor", "end", "known", "triangle", "came", "found", "out", "one", "two"] ["net", "floor", "end"] (defScope s_gone) := ⟨rfl, rfl, rfl, by decide +kernel, rfl, by decide +kernel, by decide +kernel⟩
def B_gone : SF := (seqF' (sDrop (fArgs F_check_floor [(fVar 0), (fVar 1)]))
  (seqF' (sSet 3 0 (fArgs F_sides_by_places [(fVar 1)]))
  (seqF' (sIf (fBin dNotIn (fVar 2) (fArgs F_ends_of [(fVar 0), (fVar 1), (fVar 3)])) (fun ρ => .ex 4 ρ) fNext)
  (seqF' (sSet 4 0 (fBin dIx (fVar 2) (fC (.int 1))))
  (seqF' (sSet 5 0 (fC .none))
  (seqF' (sIf (fBin dEq (fBin dIx (fVar 2) (fC (.int 0))) (fC (.str "door"))) (sSet 5 0 (fBin dIx (fVar 2) (fC (.int 2)))) fNext)
  (seqF' (sSet 6 1 (fC (.list [])))
  (sWhile (fun _ => 1000) (fC (.bool true)) (seqF' (sAppend 6 0 (fVar 4))
  (seqF' (sSet 7 0 (fArgs F_other_door [(fVar 0), (fVar 4), (fVar 5)]))
  (seqF' (sIf (fBin dIsN (fVar 7) (fC .none)) (sRetPair 6 1 (fArgs dTup [(fC (.str "whole")), (fVar 4)])) fNext)
  (seqF' (sAsg (setT [(setN 8), (setN 9)]) (fArgs F_side [(fVar 4), (fVar 7)]))
  (seqF' (sIf (fBin dNotIn (fArgs dTup [(fVar 9), (fVar 8)]) (fVar 3)) (sRetPair 6 1 (fArgs dTup [(fC (.str "door")), (fVar 4), (fVar 7)])) fNext)
  (sAsg (setT [(setN 4), (setN 5)]) (fBin dIxK (fVar 3) (fArgs dTup [(fVar 9), (fVar 8)]))))))))))))))))
def F_gone : List PyData → O := fnF 10 B_gone
set_option maxHeartbeats 4000000 in
theorem ok_gone {f : Addr} {fd : FuncData} (F : Fun K "gone" "gone" s_gone f fd) (T : Txt K mg C xc) (h_check_floor : FnIs ⟨P, w, K, C, xc⟩ mg base "check_floor" 4 2 0 F_check_floor) (h_sides_by_places : FnIs ⟨P, w, K, C, xc⟩ mg base "sides_by_places" 3 1 0 F_sides_by_places) (h_ends_of : FnIs ⟨P, w, K, C, xc⟩ mg base "ends_of" 5 3 1 F_ends_of) (h_other_door : FnIs ⟨P, w, K, C, xc⟩ mg base "other_door" 4 3 0 F_other_door) (h_side : FnIs ⟨P, w, K, C, xc⟩ mg base "side" 2 2 0 F_side) : FnOk P w K mg base (L2.CX P w) 6 f fd ["net", "floor", "end"] (spD ⟨P, w, K, C, xc⟩ 2 F_gone 3) :=
  fn_data F sc_gone fun cdv A outer s H E hr tk hp hu nd =>
   (dss_cons (ds_expr (de_call h_check_floor (hr.mono (by decide)) hp (da_cons (de_var (i := 0)) (da_cons (de_var (i := 1)) da_nil))))
    (dss_cons (ds_set (i := 3) nd (de_call h_sides_by_places (hr.mono (by decide)) hp (da_cons (de_var (i := 1)) da_nil)))
    (dss_cons (ds_if (dv_cmp (od_notIn hu) calm_dNotIn (de_var (i := 2)) (de_frz (de_call h_ends_of (hr.mono (by decide)) hp (da_cons (de_var (i := 0)) (da_cons (de_var (i := 1)) (da_cons (de_var (i := 3)) da_nil)))))) (dss_one (ds_raise rfl tk T.e_NoEnd)) dss_nil)
    (dss_cons (ds_set (i := 4) nd (de_ix id_ix calm_dIx (de_var (i := 2)) de_int))
    (dss_cons (ds_set (i := 5) nd de_non)
    (dss_cons (ds_if (dv_cmp (od_eq hu) calm_dEq (de_ix id_ix calm_dIx (de_var (i := 2)) de_int) de_str) (dss_one (ds_set (i := 5) nd (de_ix id_ix calm_dIx (de_var (i := 2)) de_int))) dss_nil)
    (dss_cons (ds_set (i := 6) nd de_nil)
    (dss_one (ds_while (fun _ => 1000) (passes_of rfl) (dv_val de_bl) (dss_cons (ds_append (i := 6) (de_var (i := 4)))
    (dss_cons (ds_set (i := 7) nd (de_call h_other_door (hr.mono (by decide)) hp (da_cons (de_var (i := 0)) (da_cons (de_var (i := 4)) (da_cons (de_var (i := 5)) da_nil)))))
    (dss_cons (ds_if (dv_cmp od_isN calm_dIsN (de_var (i := 7)) de_non) (dss_one (ds_retPair (i := 6) (de_tup (da_cons de_str (da_cons (de_var (i := 4)) da_nil))))) dss_nil)
    (dss_cons (ds_asg (ix := [8, 9]) (de_call h_side (hr.mono (by decide)) hp (da_cons (de_var (i := 4)) (da_cons (de_var (i := 7)) da_nil))) (dg_tup rfl (dgs_cons (dg_name (i := 8) nd) (dgs_cons (dg_name (i := 9) nd) dgs_nil))))
    (dss_cons (ds_if (dv_cmp (od_notIn hu) calm_dNotIn (de_tup (da_cons (de_var (i := 9)) (da_cons (de_var (i := 8)) da_nil))) (de_var (i := 3))) (dss_one (ds_retPair (i := 6) (de_tup (da_cons de_str (da_cons (de_var (i := 4)) (da_cons (de_var (i := 7)) da_nil)))))) dss_nil)
    (dss_one (ds_asg (ix := [4, 5]) (de_ixK hu (de_var (i := 3)) (de_tup (da_cons (de_var (i := 9)) (da_cons (de_var (i := 8)) da_nil)))) (dg_tup rfl (dgs_cons (dg_name (i := 4) nd) (dgs_cons (dg_name (i := 5) nd) dgs_nil)))))))))))))))))))
abbrev s_walk : Stmt := topS 33
theorem sc_walk : FnScope ["net", "floor", "end"] ["net", "floor", "end"] (defScope s_walk) := ⟨rfl, rfl, rfl, by decide +kernel, rfl, by decide +kernel, by decide +kernel⟩
def B_walk : SF := (sRet (fIxO 0 (fArgs F_gone [(fVar 0), (fVar 1), (fVar 2)])))
def F_walk : List PyData → O := fnF 3 B_walk
set_option maxHeartbeats 4000000 in
theorem ok_walk {f : Addr} {fd : FuncData} (F : Fun K "walk" "walk" s_walk f fd) (T : Txt K mg C xc) (h_gone : FnIs ⟨P, w, K, C, xc⟩ mg base "gone" 6 3 2 F_gone) : FnOk P w K mg base (L2.CX P w) 7 f fd ["net", "floor", "end"] (spD ⟨P, w, K, C, xc⟩ 1 F_walk 3) :=
  fn_data F sc_walk fun cdv A outer s H E hr tk hp hu nd =>
   (dss_one (ds_ret (de_ixO (j := 0) (de_call h_gone (hr.mono (by decide)) hp (da_cons (de_var (i := 0)) (da_cons (de_var (i := 1)) (da_cons (de_var (i := 2)) da_nil)))))))
abbrev s_partner : Stmt := topS 34
theorem sc_partner : FnScope ["net", "floor", "end"] ["net", "floor", "end"] (defScope s_partner) := ⟨rfl, rfl, rfl, by decide +kernel, rfl, by decide +kernel, by decide +kernel⟩
def B_partner : SF := (sRet (fBin dIx (fArgs F_gone [(fVar 0), (fVar 1), (fVar 2)]) (fC (.int 1))))
def F_partner : List PyData → O := fnF 3 B_partner
set_option maxHeartbeats 4000000 in
theorem ok_partner {f : Addr} {fd : FuncData} (F : Fun K "partner" "partner" s_partner f fd) (T : Txt K mg C xc) (h_gone : FnIs ⟨P, w, K, C, xc⟩ mg base "gone" 6 3 2 F_gone) : FnOk P w K mg base (L2.CX P w) 7 f fd ["net", "floor", "end"] (spD ⟨P, w, K, C, xc⟩ 0 F_partner 3) :=
  fn_data F sc_partner fun cdv A outer s H E hr tk hp hu nd =>
   (dss_one (ds_ret (de_ix id_ix calm_dIx (de_frz (de_call h_gone (hr.mono (by decide)) hp (da_cons (de_var (i := 0)) (da_cons (de_var (i := 1)) (da_cons (de_var (i := 2)) da_nil))))) de_int)))
abbrev s_triangles : Stmt := topS 16
theorem sc_triangles : FnScope ["net", "found", "x", "y"] ["net"] (defScope s_triangles) := ⟨rfl, rfl, rfl, by decide +kernel, rfl, by decide +kernel, by decide +kernel⟩
def B_triangles : SF := (seqF' (sSet 1 1 (fC (.list [])))
  (seqF' (sFor (iRng [(fUn dSize (fVar 0))]) (setN 2) (sFor (iRng [(fBin dSub (fUn dSize (fVar 0)) (fVar 2))]) (setN 3) (seqF' (sAppend 1 0 (fArgs dTup [(fVar 2), (fVar 3), (fC (.int 0))]))
  (sIf (fBin dLe (fBin dAdd (fBin dAdd (fVar 2) (fVar 3)) (fC (.int 2))) (fUn dSize (fVar 0))) (sAppend 1 0 (fArgs dTup [(fVar 2), (fVar 3), (fC (.int 1))])) fNext))))
  (sRetV 1 1)))
def F_triangles : List PyData → O := fnF 4 B_triangles
set_option maxHeartbeats 4000000 in
theorem ok_triangles {f : Addr} {fd : FuncData} (F : Fun K "triangles" "triangles" s_triangles f fd) (T : Txt K mg C xc) : FnOk P w K mg base (L2.CX P w) 1 f fd ["net"] (spD ⟨P, w, K, C, xc⟩ 1 F_triangles 1) :=
  fn_data F sc_triangles fun cdv A outer s H E hr tk hp hu nd =>
   (dss_cons (ds_set (i := 1) nd de_nil)
    (dss_cons (ds_for (ix := [2]) (passes_of rfl) rfl (di_range1 T.n_range (da_cons (de_size T.cl T.nS (de_var (i := 0)) rfl) da_nil)) (dg_name (i := 2) nd) (dss_one (ds_for (ix := [3]) (passes_of rfl) rfl (di_range1 T.n_range (da_cons (de_op od_sub dInt2_calm (de_size T.cl T.nS (de_var (i := 0)) rfl) (de_var (i := 2))) da_nil)) (dg_name (i := 3) nd) (dss_cons (ds_append (i := 1) (de_tup (da_cons (de_var (i := 2)) (da_cons (de_var (i := 3)) (da_cons de_int da_nil)))))
    (dss_one (ds_if (dv_cmp od_le calm_dLe (de_op od_add dInt2_calm (de_op od_add dInt2_calm (de_var (i := 2)) (de_var (i := 3))) de_int) (de_size T.cl T.nS (de_var (i := 0)) rfl)) (dss_one (ds_append (i := 1) (de_tup (da_cons (de_var (i := 2)) (da_cons (de_var (i := 3)) (da_cons de_int da_nil)))))) dss_nil))))))
    (dss_one (ds_retv (i := 1)))))
abbrev s_reached : Stmt := topS 38
theorem sc_reached : FnScope ["net", "floor", "end", "found"] ["net"] (defScope s_reached) := ⟨rfl, rfl, rfl, by decide +kernel, rfl, by decide +kernel, by decide +kernel⟩
def B_reached : SF := (seqF' (sDrop (fArgs F_check_ruled [(fVar 0)]))
  (seqF' (sSet 1 0 (fArgs F_triangles [(fVar 0)]))
  (sFor (iSeq (fArgs F_ends [(fVar 0), (fVar 1)])) (setN 2) (sIf (fBin dEq (fBin dIx (fVar 2) (fC (.int 0))) (fC (.str "door"))) (seqF' (sSet 3 0 (fArgs F_partner [(fVar 0), (fVar 1), (fVar 2)]))
  (sIf (fBin dEq (fBin dIx (fVar 3) (fC (.int 0))) (fC (.str "whole"))) (sRet (fArgs dTup [(fBin dIx (fVar 3) (fC (.int 1))), (fArgs dTup [(fBin dIx (fVar 2) (fC (.int 1))), (fBin dIx (fVar 2) (fC (.int 2)))])])) fNext)) fNext))))
def F_reached : List PyData → O := fnF 4 B_reached
set_option maxHeartbeats 4000000 in
theorem ok_reached {f : Addr} {fd : FuncData} (F : Fun K "reached" "reached" s_reached f fd) (T : Txt K mg C xc) (h_check_ruled : FnIs ⟨P, w, K, C, xc⟩ mg base "check_ruled" 2 1 0 F_check_ruled) (h_triangles : FnIs ⟨P, w, K, C, xc⟩ mg base "triangles" 1 1 1 F_triangles) (h_ends : FnIs ⟨P, w, K, C, xc⟩ mg base "ends" 6 2 0 F_ends) (h_partner : FnIs ⟨P, w, K, C, xc⟩ mg base "partner" 7 3 0 F_partner) : FnOk P w K mg base (L2.CX P w) 8 f fd ["net"] (spD ⟨P, w, K, C, xc⟩ 0 F_reached 1) :=
  fn_data F sc_reached fun cdv A outer s H E hr tk hp hu nd =>
   (dss_cons (ds_expr (de_call h_check_ruled (hr.mono (by decide)) hp (da_cons (de_var (i := 0)) da_nil)))
    (dss_cons (ds_set (i := 1) nd (de_frz (de_call h_triangles (hr.mono (by decide)) hp (da_cons (de_var (i := 0)) da_nil))))
    (dss_one (ds_for (ix := [2]) (passes_of rfl) rfl (di_seq (de_call h_ends (hr.mono (by decide)) hp (da_cons (de_var (i := 0)) (da_cons (de_var (i := 1)) da_nil)))) (dg_name (i := 2) nd) (dss_one (ds_if (dv_cmp (od_eq hu) calm_dEq (de_ix id_ix calm_dIx (de_var (i := 2)) de_int) de_str) (dss_cons (ds_set (i := 3) nd (de_call h_partner (hr.mono (by decide)) hp (da_cons (de_var (i := 0)) (da_cons (de_var (i := 1)) (da_cons (de_var (i := 2)) da_nil)))))
    (dss_one (ds_if (dv_cmp (od_eq hu) calm_dEq (de_ix id_ix calm_dIx (de_var (i := 3)) de_int) de_str) (dss_one (ds_ret (de_tup (da_cons (de_ix id_ix calm_dIx (de_var (i := 3)) de_int) (da_cons (de_tup (da_cons (de_ix id_ix calm_dIx (de_var (i := 2)) de_int) (da_cons (de_ix id_ix calm_dIx (de_var (i := 2)) de_int) da_nil))) da_nil))))) dss_nil))) dss_nil))))))
abbrev s_settled : Stmt := topS 41
theorem sc_settled : FnScope ["nets", "net", "found", "x", "y"] ["nets"] (defScope s_settled) := ⟨rfl, rfl, rfl, by decide +kernel, rfl, by decide +kernel, by decide +kernel⟩
def B_settled : SF := (seqF' (sSet 1 0 (fArgs F_joint [(fVar 0)]))
  (seqF' (sSet 2 1 (fArgs dLst [(fC .none), (fC .none), (fC .none)]))
  (seqF' (sFor (iSeq (fArgs F_corners [(fVar 1), (fBin dIx (fArgs F_reached [(fVar 1)]) (fC (.int 0)))])) (setT [(setN 3), (setN 4)]) (sStore 2 0 (fArgs F_owner [(fVar 3), (fVar 4)]) (fArgs dTup [(fArgs dTup [(fVar 3), (fVar 4)]), (fBin dIx (fBin dIx (fUn dMarks (fVar 1)) (fVar 4)) (fVar 3))])))
  (sRetV 2 1))))
def F_settled : List PyData → O := fnF 5 B_settled
set_option maxHeartbeats 4000000 in
theorem ok_settled {f : Addr} {fd : FuncData} (F : Fun K "settled" "settled" s_settled f fd) (T : Txt K mg C xc) (h_joint : FnIs ⟨P, w, K, C, xc⟩ mg base "joint" 4 1 0 F_joint) (h_corners : FnIs ⟨P, w, K, C, xc⟩ mg base "corners" 3 2 1 F_corners) (h_reached : FnIs ⟨P, w, K, C, xc⟩ mg base "reached" 8 1 0 F_reached) (h_owner : FnIs ⟨P, w, K, C, xc⟩ mg base "owner" 1 2 0 F_owner) : FnOk P w K mg base (L2.CX P w) 9 f fd ["nets"] (spD ⟨P, w, K, C, xc⟩ 1 F_settled 1) :=
  fn_data F sc_settled fun cdv A outer s H E hr tk hp hu nd =>
   (dss_cons (ds_set (i := 1) nd (de_call h_joint (hr.mono (by decide)) hp (da_cons (de_var (i := 0)) da_nil)))
    (dss_cons (ds_set (i := 2) nd (de_lst (da_cons de_non (da_cons de_non (da_cons de_non da_nil)))))
    (dss_cons (ds_for (ix := [3, 4]) (passes_of rfl) rfl (di_seq (de_frz (de_call h_corners (hr.mono (by decide)) hp (da_cons (de_var (i := 1)) (da_cons (de_ix id_ix calm_dIx (de_call h_reached (hr.mono (by decide)) hp (da_cons (de_var (i := 1)) da_nil)) de_int) da_nil))))) (dg_tup rfl (dgs_cons (dg_name (i := 3) nd) (dgs_cons (dg_name (i := 4) nd) dgs_nil))) (dss_one (ds_store (i := 2) (de_tup (da_cons (de_tup (da_cons (de_var (i := 3)) (da_cons (de_var (i := 4)) da_nil))) (da_cons (de_ix id_ix calm_dIx (de_ix id_ix calm_dIx (de_marks T.cl T.nM (de_var (i := 1)) rfl) (de_var (i := 4))) (de_var (i := 3))) da_nil))) (de_call h_owner (hr.mono (by decide)) hp (da_cons (de_var (i := 3)) (da_cons (de_var (i := 4)) da_nil))))))
    (dss_one (ds_retv (i := 2))))))
abbrev s__law_second : Stmt := topS 51
theorem sc__law_second : FnScope ["net", "way", "y"] ["net", "way"] (defScope s__law_second) := ⟨rfl, rfl, rfl, by decide +kernel, rfl, by decide +kernel, by decide +kernel⟩
def B__law_second : SF := (seqF' (sIf (fBin dEq (fVar 1) (fC (.int 7))) (sDrop (fArgs F_turns [(fVar 0), (fArgs dLst [(fArgs dTup [(fUn dSize (fVar 0)), (fC (.int 0)), (fC (.int 0))])])])) fNext)
  (seqF' (sIf (fBin dEq (fVar 1) (fC (.int 8))) (sDrop (fArgs F_ends [(fVar 0), (fArgs dLst [(fArgs dTup [(fC (.int 0)), (fC (.int 0)), (fC (.int 0))]), (fArgs dTup [(fC (.int 0)), (fC (.int 0)), (fC (.int 0))])])])) fNext)
  (seqF' (sIf (fBin dEq (fVar 1) (fC (.int 9))) (sDrop (fArgs F_walk [(fVar 0), (fArgs dLst [(fArgs dTup [(fC (.int 0)), (fC (.int 0)), (fC (.int 3))])]), (fArgs dTup [(fC (.str "whole")), (fArgs dTup [(fC (.int 5)), (fC (.int 5)), (fC (.int 1))])])])) fNext)
  (seqF' (sIf (fBin dEq (fVar 1) (fC (.int 10))) (sDrop (fArgs F_walk [(fVar 0), (fArgs dLst []), (fArgs dTup [(fC (.str "whole")), (fArgs dTup [(fC (.int 0)), (fC (.int 0)), (fC (.int 0))])])])) fNext)
  (seqF' (sIf (fBin dEq (fVar 1) (fC (.int 11))) (sDrop (fArgs F_partner [(fVar 0), (fArgs dLst [(fArgs dTup [(fC (.int 0)), (fC (.int 0)), (fC (.int 0))])]), (fArgs dTup [(fC (.str "door")), (fArgs dTup [(fC (.int 0)), (fC (.int 0)), (fC (.int 0))]), (fC (.int 3))])])) fNext)
  (seqF' (sIf (fBin dEq (fVar 1) (fC (.int 12))) (sDrop (fArgs F_reached [(fArgs F_Net [(fLc (iRng [(fBin dAdd (fUn dSize (fVar 0)) (fC (.int 1)))]) (setN 2) fTrue (fBin dRep (fArgs dLst [(fC (.int 1))]) (fBin dSub (fBin dAdd (fUn dSize (fVar 0)) (fC (.int 1))) (fVar 2))) [2])])])) fNext)
  (sIf (fBin dEq (fVar 1) (fC (.int 13))) (sDrop (fArgs F_settled [(fArgs dLst [(fArgs F_Net [(fArgs dLst [(fArgs dLst [(fC (.int 2)), (fC (.int 1))]), (fArgs dLst [(fC (.int 2))])])]), (fArgs F_Net [(fArgs dLst [(fArgs dLst [(fC (.int 0)), (fC (.int 1))]), (fArgs dLst [(fC (.int 2))])])]), (fArgs F_Net [(fArgs dLst [(fArgs dLst [(fC (.int 0)), (fC (.int 1))]), (fArgs dLst [(fC (.int 2))])])])])])) fNext)))))))
def F__law_second : List PyData → O := fnF 3 B__law_second
set_option maxHeartbeats 4000000 in
theorem ok__law_second {f : Addr} {fd : FuncData} (F : Fun K "_law_second" "_law_second" s__law_second f fd) (T : Txt K mg C xc) (h_turns : FnIs ⟨P, w, K, C, xc⟩ mg base "turns" 6 2 0 F_turns) (h_ends : FnIs ⟨P, w, K, C, xc⟩ mg base "ends" 6 2 0 F_ends) (h_walk : FnIs ⟨P, w, K, C, xc⟩ mg base "walk" 7 3 1 F_walk) (h_partner : FnIs ⟨P, w, K, C, xc⟩ mg base "partner" 7 3 0 F_partner) (h_reached : FnIs ⟨P, w, K, C, xc⟩ mg base "reached" 8 1 0 F_reached) (h_Net : NetIs ⟨P, w, K, C, xc⟩ mg base 2 F_Net) (h_settled : FnIs ⟨P, w, K, C, xc⟩ mg base "settled" 9 1 1 F_settled) : FnOk P w K mg base (L2.CX P w) 10 f fd ["net", "way"] (spD ⟨P, w, K, C, xc⟩ 0 F__law_second 2) :=
  fn_data F sc__law_second fun cdv A outer s H E hr tk hp hu nd =>
   (dss_cons (ds_if (dv_cmp (od_eq hu) calm_dEq (de_var (i := 1)) de_int) (dss_one (ds_expr (de_call h_turns (hr.mono (by decide)) hp (da_cons (de_var (i := 0)) (da_cons (de_frz (de_lst (da_cons (de_tup (da_cons (de_size T.cl T.nS (de_var (i := 0)) rfl) (da_cons de_int (da_cons de_int da_nil)))) da_nil))) da_nil))))) dss_nil)
    (dss_cons (ds_if (dv_cmp (od_eq hu) calm_dEq (de_var (i := 1)) de_int) (dss_one (ds_expr (de_call h_ends (hr.mono (by decide)) hp (da_cons (de_var (i := 0)) (da_cons (de_frz (de_lst (da_cons (de_tup (da_cons de_int (da_cons de_int (da_cons de_int da_nil)))) (da_cons (de_tup (da_cons de_int (da_cons de_int (da_cons de_int da_nil)))) da_nil)))) da_nil))))) dss_nil)
    (dss_cons (ds_if (dv_cmp (od_eq hu) calm_dEq (de_var (i := 1)) de_int) (dss_one (ds_expr (de_call h_walk (hr.mono (by decide)) hp (da_cons (de_var (i := 0)) (da_cons (de_frz (de_lst (da_cons (de_tup (da_cons de_int (da_cons de_int (da_cons de_int da_nil)))) da_nil))) (da_cons (de_tup (da_cons de_str (da_cons (de_tup (da_cons de_int (da_cons de_int (da_cons de_int da_nil)))) da_nil))) da_nil)))))) dss_nil)
    (dss_cons (ds_if (dv_cmp (od_eq hu) calm_dEq (de_var (i := 1)) de_int) (dss_one (ds_expr (de_call h_walk (hr.mono (by decide)) hp (da_cons (de_var (i := 0)) (da_cons (de_frz (de_lst da_nil)) (da_cons (de_tup (da_cons de_str (da_cons (de_tup (da_cons de_int (da_cons de_int (da_cons de_int da_nil)))) da_nil))) da_nil)))))) dss_nil)
    (dss_cons (ds_if (dv_cmp (od_eq hu) calm_dEq (de_var (i := 1)) de_int) (dss_one (ds_expr (de_call h_partner (hr.mono (by decide)) hp (da_cons (de_var (i := 0)) (da_cons (de_frz (de_lst (da_cons (de_tup (da_cons de_int (da_cons de_int (da_cons de_int da_nil)))) da_nil))) (da_cons (de_tup (da_cons de_str (da_cons (de_tup (da_cons de_int (da_cons de_int (da_cons de_int da_nil)))) (da_cons de_int da_nil)))) da_nil)))))) dss_nil)
    (dss_cons (ds_if (dv_cmp (od_eq hu) calm_dEq (de_var (i := 1)) de_int) (dss_one (ds_expr (de_call h_reached (hr.mono (by decide)) hp (da_cons (de_frz (de_net h_Net (hr.mono (by decide)) hp (da_cons (de_frz (de_lc rfl nd [("y", 2)] (di_range1 T.n_range (da_cons (de_op od_add dInt2_calm (de_size T.cl T.nS (de_var (i := 0)) rfl) de_int) da_nil)) (blkOk_by (by rfl)) (fun _ _ _ _ _ => (dg_name (i := 2) nd)) (fun _ _ _ _ _ => dts_nil) (fun _ _ _ _ _ => (de_frz (de_op od_rep calm_dRep (de_frz (de_lst (da_cons de_int da_nil))) (de_op od_sub dInt2_calm (de_op od_add dInt2_calm (de_size T.cl T.nS (de_var (i := 0)) rfl) de_int) (de_var (i := 2)))))))) da_nil))) da_nil)))) dss_nil)
    (dss_one (ds_if (dv_cmp (od_eq hu) calm_dEq (de_var (i := 1)) de_int) (dss_one (ds_expr (de_call h_settled (hr.mono (by decide)) hp (da_cons (de_frz (de_lst (da_cons (de_frz (de_net h_Net (hr.mono (by decide)) hp (da_cons (de_frz (de_lst (da_cons (de_frz (de_lst (da_cons de_int (da_cons de_int da_nil)))) (da_cons (de_frz (de_lst (da_cons de_int da_nil))) da_nil)))) da_nil))) (da_cons (de_frz (de_net h_Net (hr.mono (by decide)) hp (da_cons (de_frz (de_lst (da_cons (de_frz (de_lst (da_cons de_int (da_cons de_int da_nil)))) (da_cons (de_frz (de_lst (da_cons de_int da_nil))) da_nil)))) da_nil))) (da_cons (de_frz (de_net h_Net (hr.mono (by decide)) hp (da_cons (de_frz (de_lst (da_cons (de_frz (de_lst (da_cons de_int (da_cons de_int da_nil)))) (da_cons (de_frz (de_lst (da_cons de_int da_nil))) da_nil)))) da_nil))) da_nil))))) da_nil)))) dss_nil))))))))
abbrev s__law_which : Stmt := topS 49
theorem sc__law_which : FnScope ["e", "told"] ["e"] (defScope s__law_which) := ⟨rfl, rfl, rfl, by decide +kernel, rfl, by decide +kernel, by decide +kernel⟩
def rr__law_which : Nat → Option Int
  | 0 => some 0
  | 1 => some 1
  | 2 => some 2
  | 3 => some 3
  | 4 => some 4
  | 5 => some 5
  | _ => none
def B__law_which_0 (a : Addr) : SF := (seqF' (sSet 1 0 (fArgs dLst [(fIsE 0 a true), (fIsE 0 a false), (fIsE 0 a false), (fIsE 0 a false)]))
  (seqF' (sSet 1 0 (fBin dCat (fVar 1) (fArgs dLst [(fIsE 0 a false), (fIsE 0 a false)])))
  (seqF' (sIf (fOr (fNot (fIsE 0 a true)) (fOr (fNot (fIsE 0 a true)) (fBin dNe (onList dCount (fVar 1) (fC (.bool true))) (fC (.int 1))))) (sRet (fUn dNeg (fC (.int 1)))) fNext)
  (sRet (onList dIndex (fVar 1) (fC (.bool true)))))))
def B__law_which_1 (a : Addr) : SF := (seqF' (sSet 1 0 (fArgs dLst [(fIsE 0 a false), (fIsE 0 a true), (fIsE 0 a false), (fIsE 0 a false)]))
  (seqF' (sSet 1 0 (fBin dCat (fVar 1) (fArgs dLst [(fIsE 0 a false), (fIsE 0 a false)])))
  (seqF' (sIf (fOr (fNot (fIsE 0 a true)) (fOr (fNot (fIsE 0 a true)) (fBin dNe (onList dCount (fVar 1) (fC (.bool true))) (fC (.int 1))))) (sRet (fUn dNeg (fC (.int 1)))) fNext)
  (sRet (onList dIndex (fVar 1) (fC (.bool true)))))))
def B__law_which_2 (a : Addr) : SF := (seqF' (sSet 1 0 (fArgs dLst [(fIsE 0 a false), (fIsE 0 a false), (fIsE 0 a true), (fIsE 0 a false)]))
  (seqF' (sSet 1 0 (fBin dCat (fVar 1) (fArgs dLst [(fIsE 0 a false), (fIsE 0 a false)])))
  (seqF' (sIf (fOr (fNot (fIsE 0 a true)) (fOr (fNot (fIsE 0 a true)) (fBin dNe (onList dCount (fVar 1) (fC (.bool true))) (fC (.int 1))))) (sRet (fUn dNeg (fC (.int 1)))) fNext)
  (sRet (onList dIndex (fVar 1) (fC (.bool true)))))))
def B__law_which_3 (a : Addr) : SF := (seqF' (sSet 1 0 (fArgs dLst [(fIsE 0 a false), (fIsE 0 a false), (fIsE 0 a false), (fIsE 0 a true)]))
  (seqF' (sSet 1 0 (fBin dCat (fVar 1) (fArgs dLst [(fIsE 0 a false), (fIsE 0 a false)])))
  (seqF' (sIf (fOr (fNot (fIsE 0 a true)) (fOr (fNot (fIsE 0 a true)) (fBin dNe (onList dCount (fVar 1) (fC (.bool true))) (fC (.int 1))))) (sRet (fUn dNeg (fC (.int 1)))) fNext)
  (sRet (onList dIndex (fVar 1) (fC (.bool true)))))))
def B__law_which_4 (a : Addr) : SF := (seqF' (sSet 1 0 (fArgs dLst [(fIsE 0 a false), (fIsE 0 a false), (fIsE 0 a false), (fIsE 0 a false)]))
  (seqF' (sSet 1 0 (fBin dCat (fVar 1) (fArgs dLst [(fIsE 0 a true), (fIsE 0 a false)])))
  (seqF' (sIf (fOr (fNot (fIsE 0 a true)) (fOr (fNot (fIsE 0 a true)) (fBin dNe (onList dCount (fVar 1) (fC (.bool true))) (fC (.int 1))))) (sRet (fUn dNeg (fC (.int 1)))) fNext)
  (sRet (onList dIndex (fVar 1) (fC (.bool true)))))))
def B__law_which_5 (a : Addr) : SF := (seqF' (sSet 1 0 (fArgs dLst [(fIsE 0 a false), (fIsE 0 a false), (fIsE 0 a false), (fIsE 0 a false)]))
  (seqF' (sSet 1 0 (fBin dCat (fVar 1) (fArgs dLst [(fIsE 0 a false), (fIsE 0 a true)])))
  (seqF' (sIf (fOr (fNot (fIsE 0 a true)) (fOr (fNot (fIsE 0 a true)) (fBin dNe (onList dCount (fVar 1) (fC (.bool true))) (fC (.int 1))))) (sRet (fUn dNeg (fC (.int 1)))) fNext)
  (sRet (onList dIndex (fVar 1) (fC (.bool true)))))))
def B__law_which : Nat → Addr → SF
  | 0 => B__law_which_0
  | 1 => B__law_which_1
  | 2 => B__law_which_2
  | 3 => B__law_which_3
  | 4 => B__law_which_4
  | 5 => B__law_which_5
  | _ => fun _ _ => .bad
theorem ends__law_which_0 (a : Addr) : B__law_which_0 a (startR 2 [opqD a]) = .ret (.int 0) := by
  have h : ∀ (b : Bool) (x : Option (Nat × PyData)), fIsE 0 a b [some (0, opqD a), x] = .ok (.bool b) := fun _ _ => if_pos rfl
  simp [B__law_which_0, startR, seqF', sSet, withE, fArgs, evA, OL.bind, O.bind, h, dLst, fBin, fVar, fC, dCat, sIf, fOr, fNot, dNot, frz, onList, fNext, sRet]
  kernel_rfl
theorem ends__law_which_1 (a : Addr) : B__law_which_1 a (startR 2 [opqD a]) = .ret (.int 1) := by
  have h : ∀ (b : Bool) (x : Option (Nat × PyData)), fIsE 0 a b [some (0, opqD a), x] = .ok (.bool b) := fun _ _ => if_pos rfl
  simp [B__law_which_1, startR, seqF', sSet, withE, fArgs, evA, OL.bind, O.bind, h, dLst, fBin, fVar, fC, dCat, sIf, fOr, fNot, dNot, frz, onList, fNext, sRet]
  kernel_rfl
theorem ends__law_which_2 (a : Addr) : B__law_which_2 a (startR 2 [opqD a]) = .ret (.int 2) := by
  have h : ∀ (b : Bool) (x : Option (Nat × PyData)), fIsE 0 a b [some (0, opqD a), x] = .ok (.bool b) := fun _ _ => if_pos rfl
  simp [B__law_which_2, startR, seqF', sSet, withE, fArgs, evA, OL.bind, O.bind, h, dLst, fBin, fVar, fC, dCat, sIf, fOr, fNot, dNot, frz, onList, fNext, sRet]
  kernel_rfl
theorem ends__law_which_3 (a : Addr) : B__law_which_3 a (startR 2 [opqD a]) = .ret (.int 3) := by
  have h : ∀ (b : Bool) (x : Option (Nat × PyData)), fIsE 0 a b [some (0, opqD a), x] = .ok (.bool b) := fun _ _ => if_pos rfl
  simp [B__law_which_3, startR, seqF', sSet, withE, fArgs, evA, OL.bind, O.bind, h, dLst, fBin, fVar, fC, dCat, sIf, fOr, fNot, dNot, frz, onList, fNext, sRet]
  kernel_rfl
theorem ends__law_which_4 (a : Addr) : B__law_which_4 a (startR 2 [opqD a]) = .ret (.int 4) := by
  have h : ∀ (b : Bool) (x : Option (Nat × PyData)), fIsE 0 a b [some (0, opqD a), x] = .ok (.bool b) := fun _ _ => if_pos rfl
  simp [B__law_which_4, startR, seqF', sSet, withE, fArgs, evA, OL.bind, O.bind, h, dLst, fBin, fVar, fC, dCat, sIf, fOr, fNot, dNot, frz, onList, fNext, sRet]
  kernel_rfl
theorem ends__law_which_5 (a : Addr) : B__law_which_5 a (startR 2 [opqD a]) = .ret (.int 5) := by
  have h : ∀ (b : Bool) (x : Option (Nat × PyData)), fIsE 0 a b [some (0, opqD a), x] = .ok (.bool b) := fun _ _ => if_pos rfl
  simp [B__law_which_5, startR, seqF', sSet, withE, fArgs, evA, OL.bind, O.bind, h, dLst, fBin, fVar, fC, dCat, sIf, fOr, fNot, dNot, frz, onList, fNext, sRet]
  kernel_rfl
set_option maxHeartbeats 4000000 in
theorem ok__law_which {f : Addr} {fd : FuncData} (F : Fun K "_law_which" "_law_which" s__law_which f fd) (T : Txt K mg C xc) : FnHot P w K mg base 1 f fd ["e"] (spH ⟨P, w, K, C, xc⟩ rr__law_which) :=
  hot_data (Fs := B__law_which) F sc__law_which (fun c i a hc => by
    match c, hc with
    | 0, hc => cases hc; exact ends__law_which_0 a
    | 1, hc => cases hc; exact ends__law_which_1 a
    | 2, hc => cases hc; exact ends__law_which_2 a
    | 3, hc => cases hc; exact ends__law_which_3 a
    | 4, hc => cases hc; exact ends__law_which_4 a
    | 5, hc => cases hc; exact ends__law_which_5 a
    | (_ + 6), hc => cases hc)
   fun c i cd Ar fr s H a oe hc hz hfl hr hu nd hpin => by
    match c, hc, hz with
    | 0, hc, hz => exact (dss_cons (ds_set (i := 1) nd (de_frz (de_lst (da_cons (de_isP T.ec_BadNet hz hfl hpin T.k_BadNet_in_BadNet (c := .ref (xc 0)) (fun u h => h) T.n_isinstance (pe_glob (v := .ref _) rfl T.e_BadNet.g rfl (by decide)) (fun _ _ _ q => q)) (da_cons (de_isP T.ec_BadNet hz hfl hpin T.k_BadNet_in_NoPlace (c := .ref (xc 1)) (fun u h => h) T.n_isinstance (pe_glob (v := .ref _) rfl T.e_NoPlace.g rfl (by decide)) (fun _ _ _ q => q)) (da_cons (de_isP T.ec_BadNet hz hfl hpin T.k_BadNet_in_NoTriangle (c := .ref (xc 2)) (fun u h => h) T.n_isinstance (pe_glob (v := .ref _) rfl T.e_NoTriangle.g rfl (by decide)) (fun _ _ _ q => q)) (da_cons (de_isP T.ec_BadNet hz hfl hpin T.k_BadNet_in_NoFloor (c := .ref (xc 3)) (fun u h => h) T.n_isinstance (pe_glob (v := .ref _) rfl T.e_NoFloor.g rfl (by decide)) (fun _ _ _ q => q)) da_nil)))))))
    (dss_cons (ds_set (i := 1) nd (de_frz (de_op od_cat calm_dCat (de_var (i := 1)) (de_frz (de_lst (da_cons (de_isP T.ec_BadNet hz hfl hpin T.k_BadNet_in_NoEnd (c := .ref (xc 4)) (fun u h => h) T.n_isinstance (pe_glob (v := .ref _) rfl T.e_NoEnd.g rfl (by decide)) (fun _ _ _ q => q)) (da_cons (de_isP T.ec_BadNet hz hfl hpin T.k_BadNet_in_NotRuled (c := .ref (xc 5)) (fun u h => h) T.n_isinstance (pe_glob (v := .ref _) rfl T.e_NotRuled.g rfl (by decide)) (fun _ _ _ q => q)) da_nil)))))))
    (dss_cons (ds_if (dv_w (dw_or (dv_not (dv_val (de_isP T.ec_BadNet hz hfl hpin T.k_BadNet_in_DoorError (c := .ref (xc 6)) (fun u h => h) T.n_isinstance (pe_glob (v := .ref _) rfl T.e_DoorError.g rfl (by decide)) (fun _ _ _ q => q)))) (dw_or (dv_not (dv_val (de_isP T.ec_BadNet hz hfl hpin T.kv_BadNet_in_ValueError (c := .ty "ValueError") (fun u h => h) T.n_isinstance (pe_bltn (v := .ty "ValueError") rfl T.n_ValueError (by decide +kernel) rfl (by decide) (by decide)) (fun _ _ _ q => q)))) (dw_one (dv_cmp (od_ne hu) calm_dNe (de_count hu (de_var (i := 1)) de_bl) de_int))))) (dss_one (ds_ret (de_neg de_int))) dss_nil)
    (dss_one (ds_ret (de_index hu (de_var (i := 1)) de_bl))))))
    | 1, hc, hz => exact (dss_cons (ds_set (i := 1) nd (de_frz (de_lst (da_cons (de_isP T.ec_NoPlace hz hfl hpin T.k_NoPlace_in_BadNet (c := .ref (xc 0)) (fun u h => h) T.n_isinstance (pe_glob (v := .ref _) rfl T.e_BadNet.g rfl (by decide)) (fun _ _ _ q => q)) (da_cons (de_isP T.ec_NoPlace hz hfl hpin T.k_NoPlace_in_NoPlace (c := .ref (xc 1)) (fun u h => h) T.n_isinstance (pe_glob (v := .ref _) rfl T.e_NoPlace.g rfl (by decide)) (fun _ _ _ q => q)) (da_cons (de_isP T.ec_NoPlace hz hfl hpin T.k_NoPlace_in_NoTriangle (c := .ref (xc 2)) (fun u h => h) T.n_isinstance (pe_glob (v := .ref _) rfl T.e_NoTriangle.g rfl (by decide)) (fun _ _ _ q => q)) (da_cons (de_isP T.ec_NoPlace hz hfl hpin T.k_NoPlace_in_NoFloor (c := .ref (xc 3)) (fun u h => h) T.n_isinstance (pe_glob (v := .ref _) rfl T.e_NoFloor.g rfl (by decide)) (fun _ _ _ q => q)) da_nil)))))))
    (dss_cons (ds_set (i := 1) nd (de_frz (de_op od_cat calm_dCat (de_var (i := 1)) (de_frz (de_lst (da_cons (de_isP T.ec_NoPlace hz hfl hpin T.k_NoPlace_in_NoEnd (c := .ref (xc 4)) (fun u h => h) T.n_isinstance (pe_glob (v := .ref _) rfl T.e_NoEnd.g rfl (by decide)) (fun _ _ _ q => q)) (da_cons (de_isP T.ec_NoPlace hz hfl hpin T.k_NoPlace_in_NotRuled (c := .ref (xc 5)) (fun u h => h) T.n_isinstance (pe_glob (v := .ref _) rfl T.e_NotRuled.g rfl (by decide)) (fun _ _ _ q => q)) da_nil)))))))
    (dss_cons (ds_if (dv_w (dw_or (dv_not (dv_val (de_isP T.ec_NoPlace hz hfl hpin T.k_NoPlace_in_DoorError (c := .ref (xc 6)) (fun u h => h) T.n_isinstance (pe_glob (v := .ref _) rfl T.e_DoorError.g rfl (by decide)) (fun _ _ _ q => q)))) (dw_or (dv_not (dv_val (de_isP T.ec_NoPlace hz hfl hpin T.kv_NoPlace_in_ValueError (c := .ty "ValueError") (fun u h => h) T.n_isinstance (pe_bltn (v := .ty "ValueError") rfl T.n_ValueError (by decide +kernel) rfl (by decide) (by decide)) (fun _ _ _ q => q)))) (dw_one (dv_cmp (od_ne hu) calm_dNe (de_count hu (de_var (i := 1)) de_bl) de_int))))) (dss_one (ds_ret (de_neg de_int))) dss_nil)
    (dss_one (ds_ret (de_index hu (de_var (i := 1)) de_bl))))))
    | 2, hc, hz => exact (dss_cons (ds_set (i := 1) nd (de_frz (de_lst (da_cons (de_isP T.ec_NoTriangle hz hfl hpin T.k_NoTriangle_in_BadNet (c := .ref (xc 0)) (fun u h => h) T.n_isinstance (pe_glob (v := .ref _) rfl T.e_BadNet.g rfl (by decide)) (fun _ _ _ q => q)) (da_cons (de_isP T.ec_NoTriangle hz hfl hpin T.k_NoTriangle_in_NoPlace (c := .ref (xc 1)) (fun u h => h) T.n_isinstance (pe_glob (v := .ref _) rfl T.e_NoPlace.g rfl (by decide)) (fun _ _ _ q => q)) (da_cons (de_isP T.ec_NoTriangle hz hfl hpin T.k_NoTriangle_in_NoTriangle (c := .ref (xc 2)) (fun u h => h) T.n_isinstance (pe_glob (v := .ref _) rfl T.e_NoTriangle.g rfl (by decide)) (fun _ _ _ q => q)) (da_cons (de_isP T.ec_NoTriangle hz hfl hpin T.k_NoTriangle_in_NoFloor (c := .ref (xc 3)) (fun u h => h) T.n_isinstance (pe_glob (v := .ref _) rfl T.e_NoFloor.g rfl (by decide)) (fun _ _ _ q => q)) da_nil)))))))
    (dss_cons (ds_set (i := 1) nd (de_frz (de_op od_cat calm_dCat (de_var (i := 1)) (de_frz (de_lst (da_cons (de_isP T.ec_NoTriangle hz hfl hpin T.k_NoTriangle_in_NoEnd (c := .ref (xc 4)) (fun u h => h) T.n_isinstance (pe_glob (v := .ref _) rfl T.e_NoEnd.g rfl (by decide)) (fun _ _ _ q => q)) (da_cons (de_isP T.ec_NoTriangle hz hfl hpin T.k_NoTriangle_in_NotRuled (c := .ref (xc 5)) (fun u h => h) T.n_isinstance (pe_glob (v := .ref _) rfl T.e_NotRuled.g rfl (by decide)) (fun _ _ _ q => q)) da_nil)))))))
    (dss_cons (ds_if (dv_w (dw_or (dv_not (dv_val (de_isP T.ec_NoTriangle hz hfl hpin T.k_NoTriangle_in_DoorError (c := .ref (xc 6)) (fun u h => h) T.n_isinstance (pe_glob (v := .ref _) rfl T.e_DoorError.g rfl (by decide)) (fun _ _ _ q => q)))) (dw_or (dv_not (dv_val (de_isP T.ec_NoTriangle hz hfl hpin T.kv_NoTriangle_in_ValueError (c := .ty "ValueError") (fun u h => h) T.n_isinstance (pe_bltn (v := .ty "ValueError") rfl T.n_ValueError (by decide +kernel) rfl (by decide) (by decide)) (fun _ _ _ q => q)))) (dw_one (dv_cmp (od_ne hu) calm_dNe (de_count hu (de_var (i := 1)) de_bl) de_int))))) (dss_one (ds_ret (de_neg de_int))) dss_nil)
    (dss_one (ds_ret (de_index hu (de_var (i := 1)) de_bl))))))
    | 3, hc, hz => exact (dss_cons (ds_set (i := 1) nd (de_frz (de_lst (da_cons (de_isP T.ec_NoFloor hz hfl hpin T.k_NoFloor_in_BadNet (c := .ref (xc 0)) (fun u h => h) T.n_isinstance (pe_glob (v := .ref _) rfl T.e_BadNet.g rfl (by decide)) (fun _ _ _ q => q)) (da_cons (de_isP T.ec_NoFloor hz hfl hpin T.k_NoFloor_in_NoPlace (c := .ref (xc 1)) (fun u h => h) T.n_isinstance (pe_glob (v := .ref _) rfl T.e_NoPlace.g rfl (by decide)) (fun _ _ _ q => q)) (da_cons (de_isP T.ec_NoFloor hz hfl hpin T.k_NoFloor_in_NoTriangle (c := .ref (xc 2)) (fun u h => h) T.n_isinstance (pe_glob (v := .ref _) rfl T.e_NoTriangle.g rfl (by decide)) (fun _ _ _ q => q)) (da_cons (de_isP T.ec_NoFloor hz hfl hpin T.k_NoFloor_in_NoFloor (c := .ref (xc 3)) (fun u h => h) T.n_isinstance (pe_glob (v := .ref _) rfl T.e_NoFloor.g rfl (by decide)) (fun _ _ _ q => q)) da_nil)))))))
    (dss_cons (ds_set (i := 1) nd (de_frz (de_op od_cat calm_dCat (de_var (i := 1)) (de_frz (de_lst (da_cons (de_isP T.ec_NoFloor hz hfl hpin T.k_NoFloor_in_NoEnd (c := .ref (xc 4)) (fun u h => h) T.n_isinstance (pe_glob (v := .ref _) rfl T.e_NoEnd.g rfl (by decide)) (fun _ _ _ q => q)) (da_cons (de_isP T.ec_NoFloor hz hfl hpin T.k_NoFloor_in_NotRuled (c := .ref (xc 5)) (fun u h => h) T.n_isinstance (pe_glob (v := .ref _) rfl T.e_NotRuled.g rfl (by decide)) (fun _ _ _ q => q)) da_nil)))))))
    (dss_cons (ds_if (dv_w (dw_or (dv_not (dv_val (de_isP T.ec_NoFloor hz hfl hpin T.k_NoFloor_in_DoorError (c := .ref (xc 6)) (fun u h => h) T.n_isinstance (pe_glob (v := .ref _) rfl T.e_DoorError.g rfl (by decide)) (fun _ _ _ q => q)))) (dw_or (dv_not (dv_val (de_isP T.ec_NoFloor hz hfl hpin T.kv_NoFloor_in_ValueError (c := .ty "ValueError") (fun u h => h) T.n_isinstance (pe_bltn (v := .ty "ValueError") rfl T.n_ValueError (by decide +kernel) rfl (by decide) (by decide)) (fun _ _ _ q => q)))) (dw_one (dv_cmp (od_ne hu) calm_dNe (de_count hu (de_var (i := 1)) de_bl) de_int))))) (dss_one (ds_ret (de_neg de_int))) dss_nil)
    (dss_one (ds_ret (de_index hu (de_var (i := 1)) de_bl))))))
    | 4, hc, hz => exact (dss_cons (ds_set (i := 1) nd (de_frz (de_lst (da_cons (de_isP T.ec_NoEnd hz hfl hpin T.k_NoEnd_in_BadNet (c := .ref (xc 0)) (fun u h => h) T.n_isinstance (pe_glob (v := .ref _) rfl T.e_BadNet.g rfl (by decide)) (fun _ _ _ q => q)) (da_cons (de_isP T.ec_NoEnd hz hfl hpin T.k_NoEnd_in_NoPlace (c := .ref (xc 1)) (fun u h => h) T.n_isinstance (pe_glob (v := .ref _) rfl T.e_NoPlace.g rfl (by decide)) (fun _ _ _ q => q)) (da_cons (de_isP T.ec_NoEnd hz hfl hpin T.k_NoEnd_in_NoTriangle (c := .ref (xc 2)) (fun u h => h) T.n_isinstance (pe_glob (v := .ref _) rfl T.e_NoTriangle.g rfl (by decide)) (fun _ _ _ q => q)) (da_cons (de_isP T.ec_NoEnd hz hfl hpin T.k_NoEnd_in_NoFloor (c := .ref (xc 3)) (fun u h => h) T.n_isinstance (pe_glob (v := .ref _) rfl T.e_NoFloor.g rfl (by decide)) (fun _ _ _ q => q)) da_nil)))))))
    (dss_cons (ds_set (i := 1) nd (de_frz (de_op od_cat calm_dCat (de_var (i := 1)) (de_frz (de_lst (da_cons (de_isP T.ec_NoEnd hz hfl hpin T.k_NoEnd_in_NoEnd (c := .ref (xc 4)) (fun u h => h) T.n_isinstance (pe_glob (v := .ref _) rfl T.e_NoEnd.g rfl (by decide)) (fun _ _ _ q => q)) (da_cons (de_isP T.ec_NoEnd hz hfl hpin T.k_NoEnd_in_NotRuled (c := .ref (xc 5)) (fun u h => h) T.n_isinstance (pe_glob (v := .ref _) rfl T.e_NotRuled.g rfl (by decide)) (fun _ _ _ q => q)) da_nil)))))))
    (dss_cons (ds_if (dv_w (dw_or (dv_not (dv_val (de_isP T.ec_NoEnd hz hfl hpin T.k_NoEnd_in_DoorError (c := .ref (xc 6)) (fun u h => h) T.n_isinstance (pe_glob (v := .ref _) rfl T.e_DoorError.g rfl (by decide)) (fun _ _ _ q => q)))) (dw_or (dv_not (dv_val (de_isP T.ec_NoEnd hz hfl hpin T.kv_NoEnd_in_ValueError (c := .ty "ValueError") (fun u h => h) T.n_isinstance (pe_bltn (v := .ty "ValueError") rfl T.n_ValueError (by decide +kernel) rfl (by decide) (by decide)) (fun _ _ _ q => q)))) (dw_one (dv_cmp (od_ne hu) calm_dNe (de_count hu (de_var (i := 1)) de_bl) de_int))))) (dss_one (ds_ret (de_neg de_int))) dss_nil)
    (dss_one (ds_ret (de_index hu (de_var (i := 1)) de_bl))))))
    | 5, hc, hz => exact (dss_cons (ds_set (i := 1) nd (de_frz (de_lst (da_cons (de_isP T.ec_NotRuled hz hfl hpin T.k_NotRuled_in_BadNet (c := .ref (xc 0)) (fun u h => h) T.n_isinstance (pe_glob (v := .ref _) rfl T.e_BadNet.g rfl (by decide)) (fun _ _ _ q => q)) (da_cons (de_isP T.ec_NotRuled hz hfl hpin T.k_NotRuled_in_NoPlace (c := .ref (xc 1)) (fun u h => h) T.n_isinstance (pe_glob (v := .ref _) rfl T.e_NoPlace.g rfl (by decide)) (fun _ _ _ q => q)) (da_cons (de_isP T.ec_NotRuled hz hfl hpin T.k_NotRuled_in_NoTriangle (c := .ref (xc 2)) (fun u h => h) T.n_isinstance (pe_glob (v := .ref _) rfl T.e_NoTriangle.g rfl (by decide)) (fun _ _ _ q => q)) (da_cons (de_isP T.ec_NotRuled hz hfl hpin T.k_NotRuled_in_NoFloor (c := .ref (xc 3)) (fun u h => h) T.n_isinstance (pe_glob (v := .ref _) rfl T.e_NoFloor.g rfl (by decide)) (fun _ _ _ q => q)) da_nil)))))))
    (dss_cons (ds_set (i := 1) nd (de_frz (de_op od_cat calm_dCat (de_var (i := 1)) (de_frz (de_lst (da_cons (de_isP T.ec_NotRuled hz hfl hpin T.k_NotRuled_in_NoEnd (c := .ref (xc 4)) (fun u h => h) T.n_isinstance (pe_glob (v := .ref _) rfl T.e_NoEnd.g rfl (by decide)) (fun _ _ _ q => q)) (da_cons (de_isP T.ec_NotRuled hz hfl hpin T.k_NotRuled_in_NotRuled (c := .ref (xc 5)) (fun u h => h) T.n_isinstance (pe_glob (v := .ref _) rfl T.e_NotRuled.g rfl (by decide)) (fun _ _ _ q => q)) da_nil)))))))
    (dss_cons (ds_if (dv_w (dw_or (dv_not (dv_val (de_isP T.ec_NotRuled hz hfl hpin T.k_NotRuled_in_DoorError (c := .ref (xc 6)) (fun u h => h) T.n_isinstance (pe_glob (v := .ref _) rfl T.e_DoorError.g rfl (by decide)) (fun _ _ _ q => q)))) (dw_or (dv_not (dv_val (de_isP T.ec_NotRuled hz hfl hpin T.kv_NotRuled_in_ValueError (c := .ty "ValueError") (fun u h => h) T.n_isinstance (pe_bltn (v := .ty "ValueError") rfl T.n_ValueError (by decide +kernel) rfl (by decide) (by decide)) (fun _ _ _ q => q)))) (dw_one (dv_cmp (od_ne hu) calm_dNe (de_count hu (de_var (i := 1)) de_bl) de_int))))) (dss_one (ds_ret (de_neg de_int))) dss_nil)
    (dss_one (ds_ret (de_index hu (de_var (i := 1)) de_bl))))))
    | (_ + 6), hc, _ => cases hc
abbrev s__law_met : Stmt := topS 52
theorem sc__law_met : FnScope ["net", "way", "e"] ["net", "way"] (defScope s__law_met) := ⟨rfl, rfl, rfl, by decide +kernel, rfl, by decide +kernel, by decide +kernel⟩
def B__law_met : SF := (seqF' (sTryAs 2 (seqF' (sDrop (fArgs F__law_first [(fVar 0), (fVar 1)]))
  (sDrop (fArgs F__law_second [(fVar 0), (fVar 1)]))) [(0, some (fun a => (fHot 2 a 0))), (1, some (fun a => (fHot 2 a 1))), (2, some (fun a => (fHot 2 a 2))), (3, some (fun a => (fHot 2 a 3))), (4, some (fun a => (fHot 2 a 4))), (5, some (fun a => (fHot 2 a 5)))])
  (sRet (fC (.int 99))))
def F__law_met : List PyData → O := fnF 3 B__law_met
set_option maxHeartbeats 4000000 in
theorem ok__law_met {f : Addr} {fd : FuncData} (F : Fun K "_law_met" "_law_met" s__law_met f fd) (T : Txt K mg C xc) (h__law_first : FnIs ⟨P, w, K, C, xc⟩ mg base "_law_first" 6 2 0 F__law_first) (h__law_second : FnIs ⟨P, w, K, C, xc⟩ mg base "_law_second" 10 2 0 F__law_second) (h__law_which : FnHotIs ⟨P, w, K, C, xc⟩ mg base "_law_which" 1 rr__law_which) : FnOk P w K mg base (L2.CX P w) 11 f fd ["net", "way"] (spD ⟨P, w, K, C, xc⟩ 0 F__law_met 2) :=
  fn_data F sc__law_met fun cdv A outer s H E hr tk hp hu nd =>
   (dss_cons (ds_try_as (i := 2) (hs := [(0, some (fun a => (fHot 2 a 0))), (1, some (fun a => (fHot 2 a 1))), (2, some (fun a => (fHot 2 a 2))), (3, some (fun a => (fHot 2 a 3))), (4, some (fun a => (fHot 2 a 4))), (5, some (fun a => (fHot 2 a 5)))]) tk nd ⟨rfl, by decide, .inl T.e_DoorError.g⟩ (hc_cons T.x_BadNet_in_DoorError (hc_cons T.x_NoPlace_in_DoorError (hc_cons T.x_NoTriangle_in_DoorError (hc_cons T.x_NoFloor_in_DoorError (hc_cons T.x_NoEnd_in_DoorError (hc_cons T.x_NotRuled_in_DoorError hc_nil)))))) (fun W pn xe tk => have hp := pass_tk tk; (dss_cons (ds_expr (de_call h__law_first (hr.mono (by decide)) hp (da_cons (de_var (i := 0)) (da_cons (de_var (i := 1)) da_nil))))
    (dss_one (ds_expr (de_call h__law_second (hr.mono (by decide)) hp (da_cons (de_var (i := 0)) (da_cons (de_var (i := 1)) da_nil))))))) (su_cons (fun a oe pn hz hfl => (de_hot (c := 0) h__law_which (roomH_suite hr) List.mem_cons_self rfl hz hfl)) (su_cons (fun a oe pn hz hfl => (de_hot (c := 1) h__law_which (roomH_suite hr) List.mem_cons_self rfl hz hfl)) (su_cons (fun a oe pn hz hfl => (de_hot (c := 2) h__law_which (roomH_suite hr) List.mem_cons_self rfl hz hfl)) (su_cons (fun a oe pn hz hfl => (de_hot (c := 3) h__law_which (roomH_suite hr) List.mem_cons_self rfl hz hfl)) (su_cons (fun a oe pn hz hfl => (de_hot (c := 4) h__law_which (roomH_suite hr) List.mem_cons_self rfl hz hfl)) (su_cons (fun a oe pn hz hfl => (de_hot (c := 5) h__law_which (roomH_suite hr) List.mem_cons_self rfl hz hfl)) su_nil)))))))
    (dss_one (ds_ret de_int)))
abbrev s_law : Stmt := topS 53
theorem sc_law : FnScope ["script", "marks", "net", "first", "k", "way"] ["script"] (defScope s_law) := ⟨rfl, rfl, rfl, by decide +kernel, rfl, by decide +kernel, by decide +kernel⟩
def B_law : SF := (seqF' (sSet 1 0 (fArgs F__law_marks_by [(fVar 0), (fC (.int 8))]))
  (seqF' (sSet 2 0 (fArgs F__law_net [(fVar 1)]))
  (seqF' (sSet 3 0 (fBin dMod (fArgs F__law_cell_at [(fVar 0), (fC (.int 1))]) (fC (.int 14))))
  (seqF' (sFor (iRng [(fC (.int 14))]) (setN 4) (seqF' (sSet 5 0 (fBin dMod (fBin dAdd (fVar 3) (fVar 4)) (fC (.int 14))))
  (sIf (fBin dNe (fArgs F__law_met [(fVar 2), (fVar 5)]) (fBin dIx (fArgs dLst [(fC (.int 0)), (fC (.int 0)), (fC (.int 1)), (fC (.int 2)), (fC (.int 2)), (fC (.int 3)), (fC (.int 3)), (fC (.int 3)), (fC (.int 3)), (fC (.int 3)), (fC (.int 4)), (fC (.int 4)), (fC (.int 5)), (fC (.int 5))]) (fVar 5))) (sRet (fC (.bool false))) fNext)))
  (sRet (fBin dEq (fUn dMarks (fVar 2)) (fVar 1)))))))
def F_law : List PyData → O := fnF 6 B_law
set_option maxHeartbeats 4000000 in
theorem ok_law {f : Addr} {fd : FuncData} (F : Fun K "law" "law" s_law f fd) (T : Txt K mg C xc) (h__law_marks_by : FnIs ⟨P, w, K, C, xc⟩ mg base "_law_marks_by" 2 2 2 F__law_marks_by) (h__law_net : FnIs ⟨P, w, K, C, xc⟩ mg base "_law_net" 4 1 0 F__law_net) (h__law_cell_at : FnIs ⟨P, w, K, C, xc⟩ mg base "_law_cell_at" 1 2 0 F__law_cell_at) (h__law_met : FnIs ⟨P, w, K, C, xc⟩ mg base "_law_met" 11 2 0 F__law_met) : FnOk P w K mg base (L2.CX P w) 12 f fd ["script"] (spD ⟨P, w, K, C, xc⟩ 0 F_law 1) :=
  fn_data F sc_law fun cdv A outer s H E hr tk hp hu nd =>
   (dss_cons (ds_set (i := 1) nd (de_frz (de_call h__law_marks_by (hr.mono (by decide)) hp (da_cons (de_var (i := 0)) (da_cons de_int da_nil)))))
    (dss_cons (ds_set (i := 2) nd (de_call h__law_net (hr.mono (by decide)) hp (da_cons (de_var (i := 1)) da_nil)))
    (dss_cons (ds_set (i := 3) nd (de_op od_mod dInt2_calm (de_call h__law_cell_at (hr.mono (by decide)) hp (da_cons (de_var (i := 0)) (da_cons de_int da_nil))) de_int))
    (dss_cons (ds_for (ix := [4]) (passes_of rfl) rfl (di_range1 T.n_range (da_cons de_int da_nil)) (dg_name (i := 4) nd) (dss_cons (ds_set (i := 5) nd (de_op od_mod dInt2_calm (de_op od_add dInt2_calm (de_var (i := 3)) (de_var (i := 4))) de_int))
    (dss_one (ds_if (dv_cmp (od_ne hu) calm_dNe (de_call h__law_met (hr.mono (by decide)) hp (da_cons (de_var (i := 2)) (da_cons (de_var (i := 5)) da_nil))) (de_ix id_ix calm_dIx (de_frz (de_lst (da_cons de_int (da_cons de_int (da_cons de_int (da_cons de_int (da_cons de_int (da_cons de_int (da_cons de_int (da_cons de_int (da_cons de_int (da_cons de_int (da_cons de_int (da_cons de_int (da_cons de_int (da_cons de_int da_nil)))))))))))))))) (de_var (i := 5)))) (dss_one (ds_ret de_bl)) dss_nil))))
    (dss_one (ds_ret (de_cmp (od_eq hu) calm_dEq (de_marks T.cl T.nM (de_var (i := 2)) rfl) (de_var (i := 1)))))))))
end
def xcs (K : PySem.W.Frag) : Nat → Addr
  | 0 => He.ga K "BadNet"
  | 1 => He.ga K "NoPlace"
  | 2 => He.ga K "NoTriangle"
  | 3 => He.ga K "NoFloor"
  | 4 => He.ga K "NoEnd"
  | 5 => He.ga K "NotRuled"
  | 6 => He.ga K "DoorError"
  | _ => 0
def dd__law_cell_at : He.DefD := ⟨("_law_cell_at", none), "_law_cell_at", "_law_cell_at", defArgs s__law_cell_at, defBody s__law_cell_at, defScope s__law_cell_at, [], []⟩
def dd__law_mix : He.DefD := ⟨("_law_mix", none), "_law_mix", "_law_mix", defArgs s__law_mix, defBody s__law_mix, defScope s__law_mix, [], []⟩
def dd__law_marks_by : He.DefD := ⟨("_law_marks_by", none), "_law_marks_by", "_law_marks_by", defArgs s__law_marks_by, defBody s__law_marks_by, defScope s__law_marks_by, [], []⟩
def dd_marks_right : He.DefD := ⟨("marks_right", none), "marks_right", "marks_right", defArgs s_marks_right, defBody s_marks_right, defScope s_marks_right, [], []⟩
def dd_Net_init : He.DefD := ⟨("Net", some "__init__"), "__init__", "Net.__init__", defArgs s_Net_init, defBody s_Net_init, defScope s_Net_init, [], []⟩
def dd__law_net : He.DefD := ⟨("_law_net", none), "_law_net", "_law_net", defArgs s__law_net, defBody s__law_net, defScope s__law_net, [], []⟩
def dd_ruled : He.DefD := ⟨("ruled", none), "ruled", "ruled", defArgs s_ruled, defBody s_ruled, defScope s_ruled, [], []⟩
def dd_check_ruled : He.DefD := ⟨("check_ruled", none), "check_ruled", "check_ruled", defArgs s_check_ruled, defBody s_check_ruled, defScope s_check_ruled, [], []⟩
def dd_owner : He.DefD := ⟨("owner", none), "owner", "owner", defArgs s_owner, defBody s_owner, defScope s_owner, [], []⟩
def dd_joint : He.DefD := ⟨("joint", none), "joint", "joint", defArgs s_joint, defBody s_joint, defScope s_joint, [], []⟩
def dd_Net_has : He.DefD := ⟨("Net", some "has"), "has", "Net.has", defArgs s_Net_has, defBody s_Net_has, defScope s_Net_has, [], []⟩
def dd_mark : He.DefD := ⟨("mark", none), "mark", "mark", defArgs s_mark, defBody s_mark, defScope s_mark, [], []⟩
def dd_corners_of : He.DefD := ⟨("corners_of", none), "corners_of", "corners_of", defArgs s_corners_of, defBody s_corners_of, defScope s_corners_of, [], []⟩
def dd_is_triangle : He.DefD := ⟨("is_triangle", none), "is_triangle", "is_triangle", defArgs s_is_triangle, defBody s_is_triangle, defScope s_is_triangle, [], []⟩
def dd_corners : He.DefD := ⟨("corners", none), "corners", "corners", defArgs s_corners, defBody s_corners, defScope s_corners, [], []⟩
def dd_sense : He.DefD := ⟨("sense", none), "sense", "sense", defArgs s_sense, defBody s_sense, defScope s_sense, [], []⟩
def dd_is_floor : He.DefD := ⟨("is_floor", none), "is_floor", "is_floor", defArgs s_is_floor, defBody s_is_floor, defScope s_is_floor, [], []⟩
def dd_check_floor : He.DefD := ⟨("check_floor", none), "check_floor", "check_floor", defArgs s_check_floor, defBody s_check_floor, defScope s_check_floor, [], []⟩
def dd_side : He.DefD := ⟨("side", none), "side", "side", defArgs s_side, defBody s_side, defScope s_side, [], []⟩
def dd_border_sides : He.DefD := ⟨("border_sides", none), "border_sides", "border_sides", defArgs s_border_sides, defBody s_border_sides, defScope s_border_sides, [], []⟩
def dd_sides_by_places : He.DefD := ⟨("sides_by_places", none), "sides_by_places", "sides_by_places", defArgs s_sides_by_places, defBody s_sides_by_places, defScope s_sides_by_places, [], []⟩
def dd_border : He.DefD := ⟨("border", none), "border", "border", defArgs s_border, defBody s_border, defScope s_border, [], []⟩
def dd_senses : He.DefD := ⟨("senses", none), "senses", "senses", defArgs s_senses, defBody s_senses, defScope s_senses, [], []⟩
def dd__law_first : He.DefD := ⟨("_law_first", none), "_law_first", "_law_first", defArgs s__law_first, defBody s__law_first, defScope s__law_first, [], []⟩
def dd_turn_of : He.DefD := ⟨("turn_of", none), "turn_of", "turn_of", defArgs s_turn_of, defBody s_turn_of, defScope s_turn_of, [], []⟩
def dd_turns : He.DefD := ⟨("turns", none), "turns", "turns", defArgs s_turns, defBody s_turns, defScope s_turns, [], []⟩
def dd_ends_of : He.DefD := ⟨("ends_of", none), "ends_of", "ends_of", defArgs s_ends_of, defBody s_ends_of, defScope s_ends_of, [], []⟩
def dd_ends : He.DefD := ⟨("ends", none), "ends", "ends", defArgs s_ends, defBody s_ends, defScope s_ends, [], []⟩
def dd_other_door : He.DefD := ⟨("other_door", none), "other_door", "other_door", defArgs s_other_door, defBody s_other_door, defScope s_other_door, [], []⟩
def dd_gone : He.DefD := ⟨("gone", none), "gone", "gone", defArgs s_gone, defBody s_gone, defScope s_gone, [], []⟩
def dd_walk : He.DefD := ⟨("walk", none), "walk", "walk", defArgs s_walk, defBody s_walk, defScope s_walk, [], []⟩
def dd_partner : He.DefD := ⟨("partner", none), "partner", "partner", defArgs s_partner, defBody s_partner, defScope s_partner, [], []⟩
def dd_triangles : He.DefD := ⟨("triangles", none), "triangles", "triangles", defArgs s_triangles, defBody s_triangles, defScope s_triangles, [], []⟩
def dd_reached : He.DefD := ⟨("reached", none), "reached", "reached", defArgs s_reached, defBody s_reached, defScope s_reached, [], []⟩
def dd_settled : He.DefD := ⟨("settled", none), "settled", "settled", defArgs s_settled, defBody s_settled, defScope s_settled, [], []⟩
def dd__law_second : He.DefD := ⟨("_law_second", none), "_law_second", "_law_second", defArgs s__law_second, defBody s__law_second, defScope s__law_second, [], []⟩
def dd__law_which : He.DefD := ⟨("_law_which", none), "_law_which", "_law_which", defArgs s__law_which, defBody s__law_which, defScope s__law_which, [], []⟩
def dd__law_met : He.DefD := ⟨("_law_met", none), "_law_met", "_law_met", defArgs s__law_met, defBody s__law_met, defScope s__law_met, [], []⟩
def dd_law : He.DefD := ⟨("law", none), "law", "law", defArgs s_law, defBody s_law, defScope s_law, [], []⟩
def fn : List He.DefD := [dd__law_cell_at, dd__law_mix, dd__law_marks_by, dd_marks_right, dd_Net_init, dd__law_net, dd_ruled, dd_check_ruled, dd_owner, dd_joint, dd_Net_has, dd_mark, dd_corners_of, dd_is_triangle, dd_corners, dd_sense, dd_is_floor, dd_check_floor, dd_side, dd_border_sides, dd_sides_by_places, dd_border, dd_senses, dd__law_first, dd_turn_of, dd_turns, dd_ends_of, dd_ends, dd_other_door, dd_gone, dd_walk, dd_partner, dd_triangles, dd_reached, dd_settled, dd__law_second, dd__law_which, dd__law_met, dd_law]
def fa : List He.Fa := [.int "MOST" 12, .cls "Net", .exc "BadNet", .glo "BadNet", .exc "DoorError", .glo "DoorError", .exc "NoEnd", .glo "NoEnd", .exc "NoFloor", .glo "NoFloor", .exc "NoPlace", .glo "NoPlace", .exc "NoTriangle", .glo "NoTriangle", .exc "NotRuled", .glo "NotRuled", .noat "Net" "marks", .noat "Net" "size", .free "ValueError", .free "all", .free "enumerate", .free "isinstance", .free "len", .free "list", .free "range", .free "sum", .exm "BadNet" "DoorError" true, .exm "NoEnd" "DoorError" true, .exm "NoFloor" "DoorError" true, .exm "NoPlace" "DoorError" true, .exm "NoTriangle" "DoorError" true, .exm "NotRuled" "DoorError" true, .glo "_law_cell_at", .glo "_law_mix", .glo "_law_marks_by", .glo "marks_right", .glo "Net", .mkr "Net", .glo "_law_net", .glo "ruled", .glo "check_ruled", .glo "owner", .glo "joint", .meth "Net" "has", .glo "mark", .glo "corners_of", .glo "is_triangle", .glo "corners", .glo "sense", .glo "is_floor", .glo "check_floor", .glo "side", .glo "border_sides", .glo "sides_by_places", .glo "border", .glo "senses", .glo "_law_first", .glo "turn_of", .glo "turns", .glo "ends_of", .glo "ends", .glo "other_door", .glo "gone", .glo "walk", .glo "partner", .glo "triangles", .glo "reached", .glo "settled", .glo "_law_second", .glo "_law_which", .glo "_law_met", .glo "law"]
def loose0 : List Str := ["DoorError", "BadNet", "NoPlace", "NoTriangle", "NoFloor", "NoEnd", "NotRuled", "MOST", "marks_right", "Net", "mark", "corners_of", "is_triangle", "corners", "triangles", "sense", "is_floor", "check_floor", "side", "sides_by_places", "border_sides", "border", "senses", "turn_of", "turns", "ends_of", "ends", "other_door", "gone", "walk"]
def loose1 : List Str := ["partner", "ruled", "check_ruled", "reached", "owner", "joint", "settled", "_law_cell_at", "_law_mix", "_law_marks_by", "_law_ruled_by", "_law_is_ruled", "_law_net", "_law_which", "_law_first", "_law_second", "_law_met"]
def loose : List Str := loose0 ++ loose1
abbrev R0 : PySem.W.OpenRow := PySem.W.OpenLaw.row PySem.Challenge.rw_cornerdoors_k16_refusals_apart
def fx : List (PySem.W.Frag → Bool) := [fun K => excB K "BadNet", fun K => excB K "NoEnd", fun K => excB K "NoFloor", fun K => excB K "NoPlace", fun K => excB K "NoTriangle", fun K => excB K "NotRuled", kitC "BadNet" "BadNet" true, kitC "BadNet" "DoorError" true, kitC "BadNet" "NoEnd" false, kitC "BadNet" "NoFloor" false, kitC "BadNet" "NoPlace" false, kitC "BadNet" "NoTriangle" false, kitC "BadNet" "NotRuled" false, kitC "NoEnd" "BadNet" false, kitC "NoEnd" "DoorError" true, kitC "NoEnd" "NoEnd" true, kitC "NoEnd" "NoFloor" false, kitC "NoEnd" "NoPlace" false, kitC "NoEnd" "NoTriangle" false, kitC "NoEnd" "NotRuled" false, kitC "NoFloor" "BadNet" false, kitC "NoFloor" "DoorError" true, kitC "NoFloor" "NoEnd" false, kitC "NoFloor" "NoFloor" true, kitC "NoFloor" "NoPlace" false, kitC "NoFloor" "NoTriangle" false, kitC "NoFloor" "NotRuled" false, kitC "NoPlace" "BadNet" false, kitC "NoPlace" "DoorError" true, kitC "NoPlace" "NoEnd" false, kitC "NoPlace" "NoFloor" false, kitC "NoPlace" "NoPlace" true, kitC "NoPlace" "NoTriangle" false, kitC "NoPlace" "NotRuled" false, kitC "NoTriangle" "BadNet" false, kitC "NoTriangle" "DoorError" true, kitC "NoTriangle" "NoEnd" false, kitC "NoTriangle" "NoFloor" false, kitC "NoTriangle" "NoPlace" false, kitC "NoTriangle" "NoTriangle" true, kitC "NoTriangle" "NotRuled" false, kitC "NotRuled" "BadNet" false, kitC "NotRuled" "DoorError" true, kitC "NotRuled" "NoEnd" false, kitC "NotRuled" "NoFloor" false, kitC "NotRuled" "NoPlace" false, kitC "NotRuled" "NoTriangle" false, kitC "NotRuled" "NotRuled" true, kitT "BadNet" "ValueError" true, kitT "NoEnd" "ValueError" true, kitT "NoFloor" "ValueError" true, kitT "NoPlace" "ValueError" true, kitT "NoTriangle" "ValueError" true, kitT "NotRuled" "ValueError" true]
abbrev hk : PySem.W.Hook := hookX 5 fa fn fx
def ob (s : PySem.W.SharedT) : He.AlD := obsX fa fn fx (He.frG (HandSHeadRun.getT s) (He.asD (HandSHeadRun.getT s) 5))
theorem ob_eq (s : PySem.W.SharedT) : ob s = hk.obs s.abs := by
  have e : HandSHeadRun.getT s = s.abs.heap.get? := funext (HandSHeadRun.getT_eq s)
  unfold ob
  rw [e] <;> rfl
theorem run (w : World) : HandSHeadRun.RunEq R0 (PySem.W.view R0.prog [53]) hk ob 4000 loose w := by
  intro os
  kernel_rfl
theorem facts {P : Program} {w : World} {K : PySem.W.Frag} {h : Heap} {mg : Str → Option Value} {f : Addr} (X : K.In h) (G : h.Ns mainGlobals mg) (hfa : mg ("law" : Str) = some (.ref f)) (cx : SaysX fa fn fx K) :
    ∃ fd : FuncData, (∀ (s : Shared) (v : Value), BindsTo s fd ⟨[v], []⟩ [("script", v)]) ∧ ∀ base : Heap, K.In base → base.Ns mainGlobals mg → FnOk P w K mg base CX0 12 f fd ["script"] (fun vs H Q _ => spD ⟨P, w, K, He.ga K "Net", xcs K⟩ 0 F_law 1 vs H Q E0) := by
  have c := cx.d
  have T : Txt K mg (He.ga K "Net") (xcs K) := ⟨He.int_ok X G (c.fact 0 (f := .int "MOST" 12) rfl), He.cls_ok (c.fact 1 (f := .cls "Net") rfl), excIs_of X G (c.fact 2 (f := .exc "BadNet") rfl) (c.fact 3 (f := .glo "BadNet") rfl), excIs_of X G (c.fact 4 (f := .exc "DoorError") rfl) (c.fact 5 (f := .glo "DoorError") rfl), excIs_of X G (c.fact 6 (f := .exc "NoEnd") rfl) (c.fact 7 (f := .glo "NoEnd") rfl), excIs_of X G (c.fact 8 (f := .exc "NoFloor") rfl) (c.fact 9 (f := .glo "NoFloor") rfl), excIs_of X G (c.fact 10 (f := .exc "NoPlace") rfl) (c.fact 11 (f := .glo "NoPlace") rfl), excIs_of X G (c.fact 12 (f := .exc "NoTriangle") rfl) (c.fact 13 (f := .glo "NoTriangle") rfl), excIs_of X G (c.fact 14 (f := .exc "NotRuled") rfl) (c.fact 15 (f := .glo "NotRuled") rfl), excB_ok (cx.x 0 (f := fun K => excB K "BadNet")), excB_ok (cx.x 1 (f := fun K => excB K "NoEnd")), excB_ok (cx.x 2 (f := fun K => excB K "NoFloor")), excB_ok (cx.x 3 (f := fun K => excB K "NoPlace")), excB_ok (cx.x 4 (f := fun K => excB K "NoTriangle")), excB_ok (cx.x 5 (f := fun K => excB K "NotRuled")), of_decide_eq_true (cx.x 6 (f := kitC "BadNet" "BadNet" true)), of_decide_eq_true (cx.x 7 (f := kitC "BadNet" "DoorError" true)), of_decide_eq_true (cx.x 8 (f := kitC "BadNet" "NoEnd" false)), of_decide_eq_true (cx.x 9 (f := kitC "BadNet" "NoFloor" false)), of_decide_eq_true (cx.x 10 (f := kitC "BadNet" "NoPlace" false)), of_decide_eq_true (cx.x 11 (f := kitC "BadNet" "NoTriangle" false)), of_decide_eq_true (cx.x 12 (f := kitC "BadNet" "NotRuled" false)), of_decide_eq_true (cx.x 13 (f := kitC "NoEnd" "BadNet" false)), of_decide_eq_true (cx.x 14 (f := kitC "NoEnd" "DoorError" true)), of_decide_eq_true (cx.x 15 (f := kitC "NoEnd" "NoEnd" true)), of_decide_eq_true (cx.x 16 (f := kitC "NoEnd" "NoFloor" false)), of_decide_eq_true (cx.x 17 (f := kitC "NoEnd" "NoPlace" false)), of_decide_eq_true (cx.x 18 (f := kitC "NoEnd" "NoTriangle" false)), of_decide_eq_true (cx.x 19 (f := kitC "NoEnd" "NotRuled" false)), of_decide_eq_true (cx.x 20 (f := kitC "NoFloor" "BadNet" false)), of_decide_eq_true (cx.x 21 (f := kitC "NoFloor" "DoorError" true)), of_decide_eq_true (cx.x 22 (f := kitC "NoFloor" "NoEnd" false)), of_decide_eq_true (cx.x 23 (f := kitC "NoFloor" "NoFloor" true)), of_decide_eq_true (cx.x 24 (f := kitC "NoFloor" "NoPlace" false)), of_decide_eq_true (cx.x 25 (f := kitC "NoFloor" "NoTriangle" false)), of_decide_eq_true (cx.x 26 (f := kitC "NoFloor" "NotRuled" false)), of_decide_eq_true (cx.x 27 (f := kitC "NoPlace" "BadNet" false)), of_decide_eq_true (cx.x 28 (f := kitC "NoPlace" "DoorError" true)), of_decide_eq_true (cx.x 29 (f := kitC "NoPlace" "NoEnd" false)), of_decide_eq_true (cx.x 30 (f := kitC "NoPlace" "NoFloor" false)), of_decide_eq_true (cx.x 31 (f := kitC "NoPlace" "NoPlace" true)), of_decide_eq_true (cx.x 32 (f := kitC "NoPlace" "NoTriangle" false)), of_decide_eq_true (cx.x 33 (f := kitC "NoPlace" "NotRuled" false)), of_decide_eq_true (cx.x 34 (f := kitC "NoTriangle" "BadNet" false)), of_decide_eq_true (cx.x 35 (f := kitC "NoTriangle" "DoorError" true)), of_decide_eq_true (cx.x 36 (f := kitC "NoTriangle" "NoEnd" false)), of_decide_eq_true (cx.x 37 (f := kitC "NoTriangle" "NoFloor" false)), of_decide_eq_true (cx.x 38 (f := kitC "NoTriangle" "NoPlace" false)), of_decide_eq_true (cx.x 39 (f := kitC "NoTriangle" "NoTriangle" true)), of_decide_eq_true (cx.x 40 (f := kitC "NoTriangle" "NotRuled" false)), of_decide_eq_true (cx.x 41 (f := kitC "NotRuled" "BadNet" false)), of_decide_eq_true (cx.x 42 (f := kitC "NotRuled" "DoorError" true)), of_decide_eq_true (cx.x 43 (f := kitC "NotRuled" "NoEnd" false)), of_decide_eq_true (cx.x 44 (f := kitC "NotRuled" "NoFloor" false)), of_decide_eq_true (cx.x 45 (f := kitC "NotRuled" "NoPlace" false)), of_decide_eq_true (cx.x 46 (f := kitC "NotRuled" "NoTriangle" false)), of_decide_eq_true (cx.x 47 (f := kitC "NotRuled" "NotRuled" true)), of_decide_eq_true (cx.x 48 (f := kitT "BadNet" "ValueError" true)), of_decide_eq_true (cx.x 49 (f := kitT "NoEnd" "ValueError" true)), of_decide_eq_true (cx.x 50 (f := kitT "NoFloor" "ValueError" true)), of_decide_eq_true (cx.x 51 (f := kitT "NoPlace" "ValueError" true)), of_decide_eq_true (cx.x 52 (f := kitT "NoTriangle" "ValueError" true)), of_decide_eq_true (cx.x 53 (f := kitT "NotRuled" "ValueError" true)), He.noat_ok (c.fact 16 (f := .noat "Net" "marks") rfl), He.noat_ok (c.fact 17 (f := .noat "Net" "size") rfl), He.free_ok X G (c.fact 18 (f := .free "ValueError") rfl), He.free_ok X G (c.fact 19 (f := .free "all") rfl), He.free_ok X G (c.fact 20 (f := .free "enumerate") rfl), He.free_ok X G (c.fact 21 (f := .free "isinstance") rfl), He.free_ok X G (c.fact 22 (f := .free "len") rfl), He.free_ok X G (c.fact 23 (f := .free "list") rfl), He.free_ok X G (c.fact 24 (f := .free "range") rfl), He.free_ok X G (c.fact 25 (f := .free "sum") rfl), He.exm_ok (c.fact 26 (f := .exm "BadNet" "DoorError" true) rfl), He.exm_ok (c.fact 27 (f := .exm "NoEnd" "DoorError" true) rfl), He.exm_ok (c.fact 28 (f := .exm "NoFloor" "DoorError" true) rfl), He.exm_ok (c.fact 29 (f := .exm "NoPlace" "DoorError" true) rfl), He.exm_ok (c.fact 30 (f := .exm "NoTriangle" "DoorError" true) rfl), He.exm_ok (c.fact 31 (f := .exm "NotRuled" "DoorError" true) rfl)⟩
  obtain ⟨fdl, Dl⟩ := c.def_ 38 (d := dd_law) rfl
  have e := hfa.symm.trans (He.glo_ok X G (c.fact 71 (f := .glo "law") rfl))
  cases e
  refine ⟨fdl, fun s v => FunD.bindsA (ps := ["script"]) Dl (fun _ _ _ _ _ _ us hl => match us, hl with | [_], _ => rfl) s [v] rfl, fun base _ _ => ?_⟩
  obtain ⟨fd__law_cell_at, D__law_cell_at⟩ := c.def_ 0 (d := dd__law_cell_at) rfl
  have o__law_cell_at := ok__law_cell_at (P := P) (w := w) (base := base) (fun_ofD D__law_cell_at) T 
  have h__law_cell_at : FnIs ⟨P, w, K, He.ga K "Net", xcs K⟩ mg base "_law_cell_at" 1 2 0 F__law_cell_at := fnIs_mk o__law_cell_at (He.glo_ok X G (c.fact 32 (f := .glo "_law_cell_at") rfl)) D__law_cell_at.kp (D__law_cell_at.bindsN fun _ _ _ _ _ _ us hl => match us, hl with | [_, _], _ => rfl)
  obtain ⟨fd__law_mix, D__law_mix⟩ := c.def_ 1 (d := dd__law_mix) rfl
  have o__law_mix := ok__law_mix (P := P) (w := w) (base := base) (fun_ofD D__law_mix) T 
  have h__law_mix : FnIs ⟨P, w, K, He.ga K "Net", xcs K⟩ mg base "_law_mix" 1 3 0 F__law_mix := fnIs_mk o__law_mix (He.glo_ok X G (c.fact 33 (f := .glo "_law_mix") rfl)) D__law_mix.kp (D__law_mix.bindsN fun _ _ _ _ _ _ us hl => match us, hl with | [_, _, _], _ => rfl)
  obtain ⟨fd__law_marks_by, D__law_marks_by⟩ := c.def_ 2 (d := dd__law_marks_by) rfl
  have o__law_marks_by := ok__law_marks_by (P := P) (w := w) (base := base) (fun_ofD D__law_marks_by) T h__law_cell_at h__law_mix
  have h__law_marks_by : FnIs ⟨P, w, K, He.ga K "Net", xcs K⟩ mg base "_law_marks_by" 2 2 2 F__law_marks_by := fnIs_mk o__law_marks_by (He.glo_ok X G (c.fact 34 (f := .glo "_law_marks_by") rfl)) D__law_marks_by.kp (D__law_marks_by.bindsN fun _ _ _ _ _ _ us hl => match us, hl with | [_, _], _ => rfl)
  obtain ⟨fd_marks_right, D_marks_right⟩ := c.def_ 3 (d := dd_marks_right) rfl
  have o_marks_right := ok_marks_right (P := P) (w := w) (base := base) (fun_ofD D_marks_right) T 
  have h_marks_right : FnIs ⟨P, w, K, He.ga K "Net", xcs K⟩ mg base "marks_right" 1 1 0 F_marks_right := fnIs_mk o_marks_right (He.glo_ok X G (c.fact 35 (f := .glo "marks_right") rfl)) D_marks_right.kp (D_marks_right.bindsN fun _ _ _ _ _ _ us hl => match us, hl with | [_], _ => rfl)
  obtain ⟨fd_Net_init, D_Net_init⟩ := c.def_ 4 (d := dd_Net_init) rfl
  have o_Net_init := ok_Net_init (P := P) (w := w) (base := base) (fun_ofD D_Net_init) T h_marks_right
  have h_Net : NetIs ⟨P, w, K, He.ga K "Net", xcs K⟩ mg base 2 F_Net := ⟨_, _, _, o_Net_init, He.glo_ok X G (c.fact 36 (f := .glo "Net") rfl), He.mkr_ok (c.fact 37 (f := .mkr "Net") rfl), (D_Net_init.bindsN fun _ _ _ _ _ _ us hl => match us, hl with | [_, _], _ => rfl)⟩
  obtain ⟨fd__law_net, D__law_net⟩ := c.def_ 5 (d := dd__law_net) rfl
  have o__law_net := ok__law_net (P := P) (w := w) (base := base) (fun_ofD D__law_net) T h_Net
  have h__law_net : FnIs ⟨P, w, K, He.ga K "Net", xcs K⟩ mg base "_law_net" 4 1 0 F__law_net := fnIs_mk o__law_net (He.glo_ok X G (c.fact 38 (f := .glo "_law_net") rfl)) D__law_net.kp (D__law_net.bindsN fun _ _ _ _ _ _ us hl => match us, hl with | [_], _ => rfl)
  obtain ⟨fd_ruled, D_ruled⟩ := c.def_ 6 (d := dd_ruled) rfl
  have o_ruled := ok_ruled (P := P) (w := w) (base := base) (fun_ofD D_ruled) T 
  have h_ruled : FnIs ⟨P, w, K, He.ga K "Net", xcs K⟩ mg base "ruled" 1 1 0 F_ruled := fnIs_mk o_ruled (He.glo_ok X G (c.fact 39 (f := .glo "ruled") rfl)) D_ruled.kp (D_ruled.bindsN fun _ _ _ _ _ _ us hl => match us, hl with | [_], _ => rfl)
  obtain ⟨fd_check_ruled, D_check_ruled⟩ := c.def_ 7 (d := dd_check_ruled) rfl
  have o_check_ruled := ok_check_ruled (P := P) (w := w) (base := base) (fun_ofD D_check_ruled) T h_ruled
  have h_check_ruled : FnIs ⟨P, w, K, He.ga K "Net", xcs K⟩ mg base "check_ruled" 2 1 0 F_check_ruled := fnIs_mk o_check_ruled (He.glo_ok X G (c.fact 40 (f := .glo "check_ruled") rfl)) D_check_ruled.kp (D_check_ruled.bindsN fun _ _ _ _ _ _ us hl => match us, hl with | [_], _ => rfl)
  obtain ⟨fd_owner, D_owner⟩ := c.def_ 8 (d := dd_owner) rfl
  have o_owner := ok_owner (P := P) (w := w) (base := base) (fun_ofD D_owner) T 
  have h_owner : FnIs ⟨P, w, K, He.ga K "Net", xcs K⟩ mg base "owner" 1 2 0 F_owner := fnIs_mk o_owner (He.glo_ok X G (c.fact 41 (f := .glo "owner") rfl)) D_owner.kp (D_owner.bindsN fun _ _ _ _ _ _ us hl => match us, hl with | [_, _], _ => rfl)
  obtain ⟨fd_joint, D_joint⟩ := c.def_ 9 (d := dd_joint) rfl
  have o_joint := ok_joint (P := P) (w := w) (base := base) (fun_ofD D_joint) T h_check_ruled h_owner h_Net
  have h_joint : FnIs ⟨P, w, K, He.ga K "Net", xcs K⟩ mg base "joint" 4 1 0 F_joint := fnIs_mk o_joint (He.glo_ok X G (c.fact 42 (f := .glo "joint") rfl)) D_joint.kp (D_joint.bindsN fun _ _ _ _ _ _ us hl => match us, hl with | [_], _ => rfl)
  obtain ⟨fd_Net_has, D_Net_has⟩ := c.def_ 10 (d := dd_Net_has) rfl
  have o_Net_has := ok_Net_has (P := P) (w := w) (base := base) (fun_ofD D_Net_has) T 
  have h_Net_has : MethIs ⟨P, w, K, He.ga K "Net", xcs K⟩ mg base "has" 1 3 0 F_Net_has := ⟨_, _, _, o_Net_has, He.meth_ok (c.fact 43 (f := .meth "Net" "has") rfl), (D_Net_has.bindsN fun _ _ _ _ _ _ us hl => match us, hl with | [_, _, _], _ => rfl)⟩
  obtain ⟨fd_mark, D_mark⟩ := c.def_ 11 (d := dd_mark) rfl
  have o_mark := ok_mark (P := P) (w := w) (base := base) (fun_ofD D_mark) T h_Net_has
  have h_mark : FnIs ⟨P, w, K, He.ga K "Net", xcs K⟩ mg base "mark" 2 3 0 F_mark := fnIs_mk o_mark (He.glo_ok X G (c.fact 44 (f := .glo "mark") rfl)) D_mark.kp (D_mark.bindsN fun _ _ _ _ _ _ us hl => match us, hl with | [_, _, _], _ => rfl)
  obtain ⟨fd_corners_of, D_corners_of⟩ := c.def_ 12 (d := dd_corners_of) rfl
  have o_corners_of := ok_corners_of (P := P) (w := w) (base := base) (fun_ofD D_corners_of) T 
  have h_corners_of : FnIs ⟨P, w, K, He.ga K "Net", xcs K⟩ mg base "corners_of" 1 1 1 F_corners_of := fnIs_mk o_corners_of (He.glo_ok X G (c.fact 45 (f := .glo "corners_of") rfl)) D_corners_of.kp (D_corners_of.bindsN fun _ _ _ _ _ _ us hl => match us, hl with | [_], _ => rfl)
  obtain ⟨fd_is_triangle, D_is_triangle⟩ := c.def_ 13 (d := dd_is_triangle) rfl
  have o_is_triangle := ok_is_triangle (P := P) (w := w) (base := base) (fun_ofD D_is_triangle) T h_Net_has h_corners_of
  have h_is_triangle : FnIs ⟨P, w, K, He.ga K "Net", xcs K⟩ mg base "is_triangle" 2 2 0 F_is_triangle := fnIs_mk o_is_triangle (He.glo_ok X G (c.fact 46 (f := .glo "is_triangle") rfl)) D_is_triangle.kp (D_is_triangle.bindsN fun _ _ _ _ _ _ us hl => match us, hl with | [_, _], _ => rfl)
  obtain ⟨fd_corners, D_corners⟩ := c.def_ 14 (d := dd_corners) rfl
  have o_corners := ok_corners (P := P) (w := w) (base := base) (fun_ofD D_corners) T h_is_triangle h_corners_of
  have h_corners : FnIs ⟨P, w, K, He.ga K "Net", xcs K⟩ mg base "corners" 3 2 1 F_corners := fnIs_mk o_corners (He.glo_ok X G (c.fact 47 (f := .glo "corners") rfl)) D_corners.kp (D_corners.bindsN fun _ _ _ _ _ _ us hl => match us, hl with | [_, _], _ => rfl)
  obtain ⟨fd_sense, D_sense⟩ := c.def_ 15 (d := dd_sense) rfl
  have o_sense := ok_sense (P := P) (w := w) (base := base) (fun_ofD D_sense) T h_corners
  have h_sense : FnIs ⟨P, w, K, He.ga K "Net", xcs K⟩ mg base "sense" 4 2 0 F_sense := fnIs_mk o_sense (He.glo_ok X G (c.fact 48 (f := .glo "sense") rfl)) D_sense.kp (D_sense.bindsN fun _ _ _ _ _ _ us hl => match us, hl with | [_, _], _ => rfl)
  obtain ⟨fd_is_floor, D_is_floor⟩ := c.def_ 16 (d := dd_is_floor) rfl
  have o_is_floor := ok_is_floor (P := P) (w := w) (base := base) (fun_ofD D_is_floor) T h_is_triangle
  have h_is_floor : FnIs ⟨P, w, K, He.ga K "Net", xcs K⟩ mg base "is_floor" 3 2 0 F_is_floor := fnIs_mk o_is_floor (He.glo_ok X G (c.fact 49 (f := .glo "is_floor") rfl)) D_is_floor.kp (D_is_floor.bindsN fun _ _ _ _ _ _ us hl => match us, hl with | [_, _], _ => rfl)
  obtain ⟨fd_check_floor, D_check_floor⟩ := c.def_ 17 (d := dd_check_floor) rfl
  have o_check_floor := ok_check_floor (P := P) (w := w) (base := base) (fun_ofD D_check_floor) T h_is_floor
  have h_check_floor : FnIs ⟨P, w, K, He.ga K "Net", xcs K⟩ mg base "check_floor" 4 2 0 F_check_floor := fnIs_mk o_check_floor (He.glo_ok X G (c.fact 50 (f := .glo "check_floor") rfl)) D_check_floor.kp (D_check_floor.bindsN fun _ _ _ _ _ _ us hl => match us, hl with | [_, _], _ => rfl)
  obtain ⟨fd_side, D_side⟩ := c.def_ 18 (d := dd_side) rfl
  have o_side := ok_side (P := P) (w := w) (base := base) (fun_ofD D_side) T h_corners_of
  have h_side : FnIs ⟨P, w, K, He.ga K "Net", xcs K⟩ mg base "side" 2 2 0 F_side := fnIs_mk o_side (He.glo_ok X G (c.fact 51 (f := .glo "side") rfl)) D_side.kp (D_side.bindsN fun _ _ _ _ _ _ us hl => match us, hl with | [_, _], _ => rfl)
  obtain ⟨fd_border_sides, D_border_sides⟩ := c.def_ 19 (d := dd_border_sides) rfl
  have o_border_sides := ok_border_sides (P := P) (w := w) (base := base) (fun_ofD D_border_sides) T h_side
  have h_border_sides : FnIs ⟨P, w, K, He.ga K "Net", xcs K⟩ mg base "border_sides" 3 2 1 F_border_sides := fnIs_mk o_border_sides (He.glo_ok X G (c.fact 52 (f := .glo "border_sides") rfl)) D_border_sides.kp (D_border_sides.bindsN fun _ _ _ _ _ _ us hl => match us, hl with | [_, _], _ => rfl)
  obtain ⟨fd_sides_by_places, D_sides_by_places⟩ := c.def_ 20 (d := dd_sides_by_places) rfl
  have o_sides_by_places := ok_sides_by_places (P := P) (w := w) (base := base) (fun_ofD D_sides_by_places) T h_side
  have h_sides_by_places : FnIs ⟨P, w, K, He.ga K "Net", xcs K⟩ mg base "sides_by_places" 3 1 0 F_sides_by_places := fnIs_mk o_sides_by_places (He.glo_ok X G (c.fact 53 (f := .glo "sides_by_places") rfl)) D_sides_by_places.kp (D_sides_by_places.bindsN fun _ _ _ _ _ _ us hl => match us, hl with | [_], _ => rfl)
  obtain ⟨fd_border, D_border⟩ := c.def_ 21 (d := dd_border) rfl
  have o_border := ok_border (P := P) (w := w) (base := base) (fun_ofD D_border) T h_check_floor h_border_sides h_sides_by_places
  have h_border : FnIs ⟨P, w, K, He.ga K "Net", xcs K⟩ mg base "border" 5 2 1 F_border := fnIs_mk o_border (He.glo_ok X G (c.fact 54 (f := .glo "border") rfl)) D_border.kp (D_border.bindsN fun _ _ _ _ _ _ us hl => match us, hl with | [_, _], _ => rfl)
  obtain ⟨fd_senses, D_senses⟩ := c.def_ 22 (d := dd_senses) rfl
  have o_senses := ok_senses (P := P) (w := w) (base := base) (fun_ofD D_senses) T h_check_floor h_sense
  have h_senses : FnIs ⟨P, w, K, He.ga K "Net", xcs K⟩ mg base "senses" 5 2 0 F_senses := fnIs_mk o_senses (He.glo_ok X G (c.fact 55 (f := .glo "senses") rfl)) D_senses.kp (D_senses.bindsN fun _ _ _ _ _ _ us hl => match us, hl with | [_, _], _ => rfl)
  obtain ⟨fd__law_first, D__law_first⟩ := c.def_ 23 (d := dd__law_first) rfl
  have o__law_first := ok__law_first (P := P) (w := w) (base := base) (fun_ofD D__law_first) T h_Net h_joint h_mark h_corners h_sense h_border h_senses
  have h__law_first : FnIs ⟨P, w, K, He.ga K "Net", xcs K⟩ mg base "_law_first" 6 2 0 F__law_first := fnIs_mk o__law_first (He.glo_ok X G (c.fact 56 (f := .glo "_law_first") rfl)) D__law_first.kp (D__law_first.bindsN fun _ _ _ _ _ _ us hl => match us, hl with | [_, _], _ => rfl)
  obtain ⟨fd_turn_of, D_turn_of⟩ := c.def_ 24 (d := dd_turn_of) rfl
  have o_turn_of := ok_turn_of (P := P) (w := w) (base := base) (fun_ofD D_turn_of) T h_side
  have h_turn_of : FnIs ⟨P, w, K, He.ga K "Net", xcs K⟩ mg base "turn_of" 3 3 0 F_turn_of := fnIs_mk o_turn_of (He.glo_ok X G (c.fact 57 (f := .glo "turn_of") rfl)) D_turn_of.kp (D_turn_of.bindsN fun _ _ _ _ _ _ us hl => match us, hl with | [_, _, _], _ => rfl)
  obtain ⟨fd_turns, D_turns⟩ := c.def_ 25 (d := dd_turns) rfl
  have o_turns := ok_turns (P := P) (w := w) (base := base) (fun_ofD D_turns) T h_turn_of h_border
  have h_turns : FnIs ⟨P, w, K, He.ga K "Net", xcs K⟩ mg base "turns" 6 2 0 F_turns := fnIs_mk o_turns (He.glo_ok X G (c.fact 58 (f := .glo "turns") rfl)) D_turns.kp (D_turns.bindsN fun _ _ _ _ _ _ us hl => match us, hl with | [_, _], _ => rfl)
  obtain ⟨fd_ends_of, D_ends_of⟩ := c.def_ 26 (d := dd_ends_of) rfl
  have o_ends_of := ok_ends_of (P := P) (w := w) (base := base) (fun_ofD D_ends_of) T h_border_sides h_sense h_turn_of
  have h_ends_of : FnIs ⟨P, w, K, He.ga K "Net", xcs K⟩ mg base "ends_of" 5 3 1 F_ends_of := fnIs_mk o_ends_of (He.glo_ok X G (c.fact 59 (f := .glo "ends_of") rfl)) D_ends_of.kp (D_ends_of.bindsN fun _ _ _ _ _ _ us hl => match us, hl with | [_, _, _], _ => rfl)
  obtain ⟨fd_ends, D_ends⟩ := c.def_ 27 (d := dd_ends) rfl
  have o_ends := ok_ends (P := P) (w := w) (base := base) (fun_ofD D_ends) T h_check_floor h_ends_of h_sides_by_places
  have h_ends : FnIs ⟨P, w, K, He.ga K "Net", xcs K⟩ mg base "ends" 6 2 0 F_ends := fnIs_mk o_ends (He.glo_ok X G (c.fact 60 (f := .glo "ends") rfl)) D_ends.kp (D_ends.bindsN fun _ _ _ _ _ _ us hl => match us, hl with | [_, _], _ => rfl)
  obtain ⟨fd_other_door, D_other_door⟩ := c.def_ 28 (d := dd_other_door) rfl
  have o_other_door := ok_other_door (P := P) (w := w) (base := base) (fun_ofD D_other_door) T h_turn_of
  have h_other_door : FnIs ⟨P, w, K, He.ga K "Net", xcs K⟩ mg base "other_door" 4 3 0 F_other_door := fnIs_mk o_other_door (He.glo_ok X G (c.fact 61 (f := .glo "other_door") rfl)) D_other_door.kp (D_other_door.bindsN fun _ _ _ _ _ _ us hl => match us, hl with | [_, _, _], _ => rfl)
  obtain ⟨fd_gone, D_gone⟩ := c.def_ 29 (d := dd_gone) rfl
  have o_gone := ok_gone (P := P) (w := w) (base := base) (fun_ofD D_gone) T h_check_floor h_sides_by_places h_ends_of h_other_door h_side
  have h_gone : FnIs ⟨P, w, K, He.ga K "Net", xcs K⟩ mg base "gone" 6 3 2 F_gone := fnIs_mk o_gone (He.glo_ok X G (c.fact 62 (f := .glo "gone") rfl)) D_gone.kp (D_gone.bindsN fun _ _ _ _ _ _ us hl => match us, hl with | [_, _, _], _ => rfl)
  obtain ⟨fd_walk, D_walk⟩ := c.def_ 30 (d := dd_walk) rfl
  have o_walk := ok_walk (P := P) (w := w) (base := base) (fun_ofD D_walk) T h_gone
  have h_walk : FnIs ⟨P, w, K, He.ga K "Net", xcs K⟩ mg base "walk" 7 3 1 F_walk := fnIs_mk o_walk (He.glo_ok X G (c.fact 63 (f := .glo "walk") rfl)) D_walk.kp (D_walk.bindsN fun _ _ _ _ _ _ us hl => match us, hl with | [_, _, _], _ => rfl)
  obtain ⟨fd_partner, D_partner⟩ := c.def_ 31 (d := dd_partner) rfl
  have o_partner := ok_partner (P := P) (w := w) (base := base) (fun_ofD D_partner) T h_gone
  have h_partner : FnIs ⟨P, w, K, He.ga K "Net", xcs K⟩ mg base "partner" 7 3 0 F_partner := fnIs_mk o_partner (He.glo_ok X G (c.fact 64 (f := .glo "partner") rfl)) D_partner.kp (D_partner.bindsN fun _ _ _ _ _ _ us hl => match us, hl with | [_, _, _], _ => rfl)
  obtain ⟨fd_triangles, D_triangles⟩ := c.def_ 32 (d := dd_triangles) rfl
  have o_triangles := ok_triangles (P := P) (w := w) (base := base) (fun_ofD D_triangles) T 
  have h_triangles : FnIs ⟨P, w, K, He.ga K "Net", xcs K⟩ mg base "triangles" 1 1 1 F_triangles := fnIs_mk o_triangles (He.glo_ok X G (c.fact 65 (f := .glo "triangles") rfl)) D_triangles.kp (D_triangles.bindsN fun _ _ _ _ _ _ us hl => match us, hl with | [_], _ => rfl)
  obtain ⟨fd_reached, D_reached⟩ := c.def_ 33 (d := dd_reached) rfl
  have o_reached := ok_reached (P := P) (w := w) (base := base) (fun_ofD D_reached) T h_check_ruled h_triangles h_ends h_partner
  have h_reached : FnIs ⟨P, w, K, He.ga K "Net", xcs K⟩ mg base "reached" 8 1 0 F_reached := fnIs_mk o_reached (He.glo_ok X G (c.fact 66 (f := .glo "reached") rfl)) D_reached.kp (D_reached.bindsN fun _ _ _ _ _ _ us hl => match us, hl with | [_], _ => rfl)
  obtain ⟨fd_settled, D_settled⟩ := c.def_ 34 (d := dd_settled) rfl
  have o_settled := ok_settled (P := P) (w := w) (base := base) (fun_ofD D_settled) T h_joint h_corners h_reached h_owner
  have h_settled : FnIs ⟨P, w, K, He.ga K "Net", xcs K⟩ mg base "settled" 9 1 1 F_settled := fnIs_mk o_settled (He.glo_ok X G (c.fact 67 (f := .glo "settled") rfl)) D_settled.kp (D_settled.bindsN fun _ _ _ _ _ _ us hl => match us, hl with | [_], _ => rfl)
  obtain ⟨fd__law_second, D__law_second⟩ := c.def_ 35 (d := dd__law_second) rfl
  have o__law_second := ok__law_second (P := P) (w := w) (base := base) (fun_ofD D__law_second) T h_turns h_ends h_walk h_partner h_reached h_Net h_settled
  have h__law_second : FnIs ⟨P, w, K, He.ga K "Net", xcs K⟩ mg base "_law_second" 10 2 0 F__law_second := fnIs_mk o__law_second (He.glo_ok X G (c.fact 68 (f := .glo "_law_second") rfl)) D__law_second.kp (D__law_second.bindsN fun _ _ _ _ _ _ us hl => match us, hl with | [_, _], _ => rfl)
  obtain ⟨fd__law_which, D__law_which⟩ := c.def_ 36 (d := dd__law_which) rfl
  have o__law_which := ok__law_which (P := P) (w := w) (base := base) (fun_ofD D__law_which) T 
  have h__law_which : FnHotIs ⟨P, w, K, He.ga K "Net", xcs K⟩ mg base "_law_which" 1 rr__law_which := ⟨_, _, _, o__law_which, He.glo_ok X G (c.fact 69 (f := .glo "_law_which") rfl), D__law_which.kp, (D__law_which.bindsN fun _ _ _ _ _ _ us hl => match us, hl with | [_], _ => rfl)⟩
  obtain ⟨fd__law_met, D__law_met⟩ := c.def_ 37 (d := dd__law_met) rfl
  have o__law_met := ok__law_met (P := P) (w := w) (base := base) (fun_ofD D__law_met) T h__law_first h__law_second h__law_which
  have h__law_met : FnIs ⟨P, w, K, He.ga K "Net", xcs K⟩ mg base "_law_met" 11 2 0 F__law_met := fnIs_mk o__law_met (He.glo_ok X G (c.fact 70 (f := .glo "_law_met") rfl)) D__law_met.kp (D__law_met.bindsN fun _ _ _ _ _ _ us hl => match us, hl with | [_, _], _ => rfl)
  have o_law := ok_law (P := P) (w := w) (base := base) (fun_ofD Dl) T h__law_marks_by h__law_net h__law_cell_at h__law_met
  exact fn_calm o_law
end Me
section
open PySem PySem.W PySem.Calls PyProof.Rows
theorem Me.end_ (hF : ∀ ns : List Int, ns.length ≤ 63 → Me.F_law [M.scrD (ns.map PyData.int)] = .ok (.bool true)) : PySem.Challenge.rw_cornerdoors_k16_refusals_apart.Holds := by
  w_on; o_law
  refine HandSHeadRun.head_any (r := OpenLaw.row PySem.Challenge.rw_cornerdoors_k16_refusals_apart) (q := view (OpenLaw.row PySem.Challenge.rw_cornerdoors_k16_refusals_apart).prog [53]) (H := Me.hk) (ob := Me.ob) (M := 4000) (loose := Me.loose) (d := HandSHeadRun.topDef (OpenLaw.row PySem.Challenge.rw_cornerdoors_k16_refusals_apart).prog 53) (kwd := []) Me.ob_eq
    (by kernel_rfl) (fun s => by kernel_rfl) Me.run (by kernel_rfl) (by kernel_rfl) (by kernel_rfl) (by rfl) (by first | assumption | decide +kernel) (by decide +kernel) ⟨rfl, rfl, rfl, rfl, rfl, by decide +kernel⟩ ?hw ?hc
  case hw => w_witness2
  case hc =>
    refine L2.walk_ofE (l := PySem.Challenge.rw_cornerdoors_k16_refusals_apart) (n := 63) (k := 12) (x := "script") (CX := L2.CX0) rfl (by decide) (by kernel_rfl) ⟨rfl, by decide, by decide⟩ ?F (fun _ _ _ _ z => z)
    intro w mg fa h Y G hmg0
    obtain ⟨K, KX, c⟩ := Y
    have hmg : mg ("law" : PySem.Str) = some (.ref fa) := by
      have e : (HandSHeadRun.topDef (OpenLaw.row PySem.Challenge.rw_cornerdoors_k16_refusals_apart).prog 53).name = ("law" : PySem.Str) := by kernel_rfl
      rw [← e]
      exact hmg0
    obtain ⟨fd, hb, hF'⟩ := Me.facts (P := (PySem.Challenge.rw_cornerdoors_k16_refusals_apart).prog) (w := w) KX G hmg c
    exact ⟨K, fd, fun vs H Q _ => M.spD ⟨(PySem.Challenge.rw_cornerdoors_k16_refusals_apart).prog, w, K, He.ga K "Net", Me.xcs K⟩ 0 Me.F_law 1 vs H Q L2.E0, KX, hb, fun H a ns hl _ hS => M.law_sp (hF ns hl) hS, hF'⟩
end

/-! HA: reading the mirrors: rules for simp. -/
namespace M
open PySem
@[simp] theorem O.bind_ok' (d : PyData) (k : PyData → O) : (O.ok d).bind k = k d := rfl
@[simp] theorem O.bind_ex' (c : Nat) (k : PyData → O) : (O.ex c).bind k = .ex c := rfl
@[simp] theorem OL.bind_ok' (d : List PyData) (k : List PyData → O) : (OL.ok d).bind k = k d := rfl
@[simp] theorem OL.bind_ex' (c : Nat) (k : List PyData → O) : (OL.ex c).bind k = .ex c := rfl
@[simp] theorem r_fC (d : PyData) (ρ : Rho) : fC d ρ = .ok d := rfl
@[simp] theorem r_var (i : Nat) (ρ : Rho) : fVar i ρ = match ρ[i]? with
  | some (some (0, d)) => .ok d
  | _ => .bad := rfl
@[simp] theorem r_bin (g : PyData → PyData → O) (f1 f2 : FE) (ρ : Rho) : fBin g f1 f2 ρ = (f1 ρ).bind fun x => (f2 ρ).bind fun y => g x y := rfl
@[simp] theorem r_un (g : PyData → O) (f1 : FE) (ρ : Rho) : fUn g f1 ρ = (f1 ρ).bind g := rfl
@[simp] theorem r_args (g : List PyData → O) (fs : List FE) (ρ : Rho) : fArgs g fs ρ = (evA fs ρ).bind g := rfl
@[simp] theorem r_nilA (ρ : Rho) : evA [] ρ = .ok [] := rfl
def consA (o : O) (r : OL) : OL := match o with
  | .ok d => (match r with
    | .ok ds => .ok (d :: ds)
    | .ex c => .ex c
    | .bad => .bad)
  | .ex c => .ex c
  | .bad => .bad
@[simp] theorem consA_ok (d : PyData) (ds : List PyData) : consA (.ok d) (.ok ds) = .ok (d :: ds) := rfl
@[simp] theorem consA_ex (c : Nat) (r : OL) : consA (.ex c) r = .ex c := rfl
@[simp] theorem consA_ex2 (d : PyData) (c : Nat) : consA (.ok d) (.ex c) = .ex c := rfl
@[simp] theorem r_consA (f : FE) (fs : List FE) (ρ : Rho) : evA (f :: fs) ρ = consA (f ρ) (evA fs ρ) := rfl
@[simp] theorem r_seq (F1 F2 : SF) (ρ : Rho) : seqF' F1 F2 ρ = match F1 ρ with
  | .nx ρ' => F2 ρ'
  | o => o := rfl
@[simp] theorem r_next (ρ : Rho) : fNext ρ = .nx ρ := rfl
@[simp] theorem r_withE_ok (d : PyData) (ρ : Rho) (k : PyData → Out) : withE (.ok d) ρ k = k d := rfl
@[simp] theorem r_withE_ex (c : Nat) (ρ : Rho) (k : PyData → Out) : withE (.ex c) ρ k = .ex c ρ := rfl
@[simp] theorem r_set (i m : Nat) (f : FE) (ρ : Rho) : sSet i m f ρ = withE (f ρ) ρ fun d => if i < ρ.length then .nx (ρ.set i (some (m, d))) else .bad := rfl
@[simp] theorem r_asg (s : FS) (f : FE) (ρ : Rho) : sAsg s f ρ = withE (f ρ) ρ fun d => match s d ρ with
  | some ρ' => .nx ρ'
  | none => .bad := rfl
@[simp] theorem r_ret (f : FE) (ρ : Rho) : sRet f ρ = withE (f (frz ρ)) ρ fun d => .ret d := rfl
@[simp] theorem r_retv (i n : Nat) (ρ : Rho) : sRetV i n ρ = match ρ[i]? with
  | some (some (k, d)) => if k = n then .ret d else .bad
  | _ => .bad := rfl
def brS (d : PyData) (x y : Out) : Out := match d with
  | .bool true => x
  | .bool false => y
  | _ => .bad
@[simp] theorem brS_b (b : Bool) (x y : Out) : brS (.bool b) x y = if b = true then x else y := by cases b <;> rfl
def brO (d : PyData) (x y : O) : O := match d with
  | .bool true => x
  | .bool false => y
  | _ => .bad
@[simp] theorem brO_b (b : Bool) (x y : O) : brO (.bool b) x y = if b = true then x else y := by cases b <;> rfl
@[simp] theorem r_if (ft : FE) (F1 F2 : SF) (ρ : Rho) : sIf ft F1 F2 ρ = withE (ft (frz ρ)) ρ fun d => brS d (F1 ρ) (F2 ρ) := rfl
@[simp] theorem r_expr (f : FE) (ρ : Rho) : sDrop f ρ = withE (f ρ) ρ fun _ => .nx ρ := rfl
@[simp] theorem r_frz_nil : frz [] = [] := rfl
@[simp] theorem r_frz_cons (x : Option (Nat × PyData)) (ρ : Rho) : frz (x :: ρ) = x.map (fun y => (0, y.2)) :: frz ρ := rfl
theorem if_of {ft : FE} {F1 F2 : SF} {ρ : Rho} {b : Bool} (h : ft (frz ρ) = .ok (.bool b)) : sIf ft F1 F2 ρ = if b = true then F1 ρ else F2 ρ := by
  unfold sIf
  rw [h]
  cases b <;> rfl
@[simp] theorem r_setN (i : Nat) (d : PyData) (ρ : Rho) : setN i d ρ = if i < ρ.length then some (ρ.set i (some (0, d))) else none := rfl
@[simp] theorem r_setL0 (ρ : Rho) : setL [] [] ρ = some ρ := rfl
@[simp] theorem r_setL (f : FS) (fs : List FS) (d : PyData) (ds : List PyData) (ρ : Rho) : setL (f :: fs) (d :: ds) ρ = match f d ρ with
  | some ρ' => setL fs ds ρ'
  | none => none := by
  show (f d ρ).bind (fun ρ' => setL fs ds ρ') = _
  cases f d ρ <;> rfl
@[simp] theorem r_setT (fs : List FS) (ds : List PyData) (ρ : Rho) : setT fs (.tuple ds) ρ = setL fs ds ρ := rfl
@[simp] theorem r_setU (fs : List FS) (ds : List PyData) (ρ : Rho) : setU fs (.list ds) ρ = setL fs ds ρ := rfl
@[simp] theorem r_d1 (g : PyData → O) (d : PyData) : d1 g [d] = g d := rfl
@[simp] theorem r_d2 (g : PyData → PyData → O) (d e : PyData) : d2 g [d, e] = g d e := rfl
@[simp] theorem r_int2 (c : Int → Int → Bool) (h : Int → Int → PyData) (i j : Int) : dInt2 c h (.int i) (.int j) = if c i j = true then .ok (h i j) else .bad := rfl
@[simp] theorem r_and (f g : FE) (ρ : Rho) : fAnd f g ρ = (f ρ).bind fun d => brO d (g ρ) (.ok (.bool false)) := rfl
@[simp] theorem r_or (f g : FE) (ρ : Rho) : fOr f g ρ = (f ρ).bind fun d => brO d (.ok (.bool true)) (g ρ) := rfl
@[simp] theorem r_not (f : FE) (ρ : Rho) : fNot f ρ = (f ρ).bind dNot := rfl
@[simp] theorem r_dnot (b : Bool) : dNot (.bool b) = .ok (.bool (!b)) := rfl
@[simp] theorem r_chain (g g' : PyData → PyData → O) (f1 f2 f3 : FE) (ρ : Rho) : fChain g g' f1 f2 f3 ρ = (f1 ρ).bind fun x => (f2 ρ).bind fun y => (g x y).bind fun d => brO d ((f3 ρ).bind fun z => g' y z) (.ok (.bool false)) := rfl
@[simp] theorem r_lt (i j : Int) : dLt (.int i) (.int j) = .ok (.bool (decide (i < j))) := rfl
@[simp] theorem r_le (i j : Int) : dLe (.int i) (.int j) = .ok (.bool (decide (i ≤ j))) := rfl
@[simp] theorem r_gt (i j : Int) : dGt (.int i) (.int j) = .ok (.bool (decide (j < i))) := rfl
@[simp] theorem r_ge (i j : Int) : dGe (.int i) (.int j) = .ok (.bool (decide (j ≤ i))) := rfl
@[simp] theorem r_lenL (ds : List PyData) : dLen (.list ds) = .ok (.int ds.length) := rfl
@[simp] theorem r_lenT (ds : List PyData) : dLen (.tuple ds) = .ok (.int ds.length) := rfl
@[simp] theorem r_lenS (ds : List PyData) : dLen (scrD ds) = .ok (.int ds.length) := rfl
@[simp] theorem r_isN (x : PyData) : dIsN x .none = .ok (.bool (isNoneD x)) := rfl
@[simp] theorem r_neg (i : Int) : dNeg (.int i) = .ok (.int (-i)) := rfl
@[simp] theorem r_intB (b : Bool) : dIntOf (.bool b) = .ok (.int (if b = true then 1 else 0)) := rfl
@[simp] theorem r_listL (ds : List PyData) : dList (.list ds) = .ok (.list ds) := rfl
@[simp] theorem r_listT (ds : List PyData) : dList (.tuple ds) = .ok (.list ds) := rfl
@[simp] theorem r_tupleL (ds : List PyData) : dTuple (.list ds) = .ok (.tuple ds) := rfl
@[simp] theorem r_size (n : Int) (m : PyData) : dSize (netD n m) = .ok (.int n) := rfl
@[simp] theorem r_marks (n : Int) (m : PyData) : dMarks (netD n m) = .ok m := rfl
@[simp] theorem r_isNet (n : Int) (m : PyData) : isNetD (netD n m) = true := rfl
@[simp] theorem r_noEx (d : PyData) : noEx (.ok d) = .ok d := rfl
@[simp] theorem r_meth (F : List PyData → O) (f : FE) (fs : List FE) (ρ : Rho) : fMeth F f fs ρ = (f ρ).bind fun d => if isNetD d = true then (evA fs ρ).bind fun ds => noEx (F (d :: ds)) else .bad := rfl
theorem dTup_ok {ds : List PyData} (h : ds.length ≤ 1000) : dTup ds = .ok (.tuple ds) := if_pos h
theorem dLst_ok {ds : List PyData} (h : ds.length ≤ 1000) : dLst ds = .ok (.list ds) := if_pos h
/-- ints, as keys, as data to be compared -/
@[simp] theorem ok_int (i : Int) : okD (.int i) = true := rfl
@[simp] theorem ok_bool (i : Bool) : okD (.bool i) = true := rfl
@[simp] theorem ok_none : okD .none = true := rfl
theorem atI_nat {α : Type} (xs : List α) (k : Nat) : L2.atI xs (k : Int) = xs[k]? := by
  unfold L2.atI L2.ixN
  rw [if_pos (by omega)]
  by_cases h : (k : Int) < xs.length
  · rw [if_pos h]; simp
  · rw [if_neg h]
    have : xs.length ≤ k := by omega
    simp [List.getElem?_eq_none_iff.mpr this]
theorem ix_list {ds : List PyData} {k : Nat} {d : PyData} (h : ds[k]? = some d) : dIx (.list ds) (.int (k : Int)) = .ok d := by
  simp only [dIx, atI_nat, h]
theorem ix_tup {ds : List PyData} {k : Nat} {d : PyData} (h : ds[k]? = some d) : dIx (.tuple ds) (.int (k : Int)) = .ok d := by
  simp only [dIx, atI_nat, h]
/-! ### loops -/
theorem forF_cons {set : FS} {body : SF} {d : PyData} {ds : List PyData} {ρ ρ1 : Rho} (h : set d ρ = some ρ1) : forF set body (d :: ds) ρ = match body ρ1 with
  | .nx ρ2 => forF set body ds ρ2
  | .ct ρ2 => forF set body ds ρ2
  | .brk ρ2 => .nx ρ2
  | o => o := by
  simp only [forF, h]
  try rfl
/-- a loop that runs to its end -/
theorem forF_run {α : Type} {set : FS} {body : SF} {g : α → PyData} (P : List α → Rho → Prop) {L : List α} {ρ : Rho} (h0 : P [] ρ)
    (h : ∀ pre t post ρ, L = pre ++ t :: post → P pre ρ → ∃ ρ1 ρ2, set (g t) ρ = some ρ1 ∧ (body ρ1 = .nx ρ2 ∨ body ρ1 = .ct ρ2) ∧ P (pre ++ [t]) ρ2) : ∃ ρ', forF set body (L.map g) ρ = .nx ρ' ∧ P L ρ' := by
  suffices H : ∀ (post pre : List α) (ρ : Rho), L = pre ++ post → P pre ρ → ∃ ρ', forF set body (post.map g) ρ = .nx ρ' ∧ P L ρ' from H L [] ρ rfl h0
  intro post
  induction post with
  | nil => exact fun pre ρ e p => ⟨ρ, rfl, by rw [e, List.append_nil]; exact p⟩
  | cons t post ih =>
    intro pre ρ e p
    obtain ⟨ρ1, ρ2, h1, h2, h3⟩ := h pre t post ρ e p
    obtain ⟨ρ', h4, h5⟩ := ih (pre ++ [t]) ρ2 (by rw [e, List.append_assoc]; rfl) h3
    refine ⟨ρ', ?_, h5⟩
    rw [List.map_cons, forF_cons h1]
    rcases h2 with h2 | h2 <;> rw [h2] <;> exact h4
/-- a loop that ends early, or runs to its end -/
theorem forF_till {α : Type} {set : FS} {body : SF} {g : α → PyData} {o : Out} (P : List α → Rho → Prop) {L : List α} {ρ : Rho} (p : α → Prop) (h0 : P [] ρ) (ho : ∀ ρ, o ≠ .nx ρ ∧ o ≠ .ct ρ ∧ o ≠ .brk ρ)
    (h : ∀ pre t post ρ, L = pre ++ t :: post → P pre ρ → ∃ ρ1, set (g t) ρ = some ρ1 ∧ ((p t ∧ body ρ1 = o) ∨ (¬ p t ∧ ∃ ρ2, (body ρ1 = .nx ρ2 ∨ body ρ1 = .ct ρ2) ∧ P (pre ++ [t]) ρ2))) :
    ((∃ t ∈ L, p t) ∧ forF set body (L.map g) ρ = o) ∨ ((∀ t ∈ L, ¬ p t) ∧ ∃ ρ', forF set body (L.map g) ρ = .nx ρ' ∧ P L ρ') := by
  suffices H : ∀ (post pre : List α) (ρ : Rho), L = pre ++ post → P pre ρ → ((∃ t ∈ post, p t) ∧ forF set body (post.map g) ρ = o) ∨ ((∀ t ∈ post, ¬ p t) ∧ ∃ ρ', forF set body (post.map g) ρ = .nx ρ' ∧ P L ρ') from H L [] ρ rfl h0
  intro post
  induction post with
  | nil => exact fun pre ρ e q => .inr ⟨fun t ht => (nomatch ht), ρ, rfl, by rw [e, List.append_nil]; exact q⟩
  | cons t post ih =>
    intro pre ρ e q
    obtain ⟨ρ1, h1, h2⟩ := h pre t post ρ e q
    rw [List.map_cons, forF_cons h1]
    rcases h2 with ⟨h2, h3⟩ | ⟨h2, ρ2, h3, h4⟩
    · refine .inl ⟨⟨t, List.mem_cons_self, h2⟩, ?_⟩
      rw [h3]
      have := ho
      cases o with
      | nx ρ => exact absurd rfl (ho ρ).1
      | ct ρ => exact absurd rfl (ho ρ).2.1
      | brk ρ => exact absurd rfl (ho ρ).2.2
      | ret d => rfl
      | ex c ρ => rfl
      | bad => rfl
    · have e3 : (match body ρ1 with
        | .nx ρ2 => forF set body (post.map g) ρ2
        | .ct ρ2 => forF set body (post.map g) ρ2
        | .brk ρ2 => .nx ρ2
        | o => o) = forF set body (post.map g) ρ2 := by rcases h3 with h3 | h3 <;> rw [h3]
      rw [e3]
      rcases ih (pre ++ [t]) ρ2 (by rw [e, List.append_assoc]; rfl) h4 with ⟨⟨u, hu, pu⟩, h5⟩ | ⟨h5, h6⟩
      · exact .inl ⟨⟨u, List.mem_cons_of_mem _ hu, pu⟩, h5⟩
      · refine .inr ⟨fun u hu => ?_, h6⟩
        rcases List.mem_cons.mp hu with rfl | hu
        · exact h2
        · exact h5 u hu
def afterN (o : Out) (Q : Rho → Prop) : Prop := match o with
  | .nx ρ => Q ρ
  | _ => False
@[simp] theorem afterN_nx (ρ : Rho) (Q : Rho → Prop) : afterN (.nx ρ) Q = Q ρ := rfl
def onSet (o : Option Rho) (Q : Rho → Prop) : Prop := match o with
  | some ρ => Q ρ
  | none => False
@[simp] theorem onSet_some (ρ : Rho) (Q : Rho → Prop) : onSet (some ρ) Q = Q ρ := rfl
theorem afterN_ex {o : Out} {Q : Rho → Prop} (h : afterN o Q) : ∃ ρ, o = .nx ρ ∧ Q ρ := by
  cases o with
  | nx ρ => exact ⟨ρ, rfl, h⟩
  | _ => exact h.elim
theorem onSet_ex {o : Option Rho} {Q : Rho → Prop} (h : onSet o Q) : ∃ ρ, o = some ρ ∧ Q ρ := by
  cases o with
  | some ρ => exact ⟨ρ, rfl, h⟩
  | none => exact h.elim
theorem sFor_of {fi : Rho → OL} {set : FS} {body : SF} {ρ : Rho} {ds : List PyData} (h : fi ρ = .ok ds) : sFor fi set body ρ = forF set body ds ρ := by
  unfold sFor
  rw [h]
/-- a loop that runs to its end, by simp -/
theorem forF_nx {α : Type} {set : FS} {body : SF} {g : α → PyData} (P : List α → Rho → Prop) {L : List α} {ρ : Rho} (h0 : P [] ρ)
    (h : ∀ pre t post ρ, L = pre ++ t :: post → P pre ρ → onSet (set (g t) ρ) fun ρ1 => afterN (body ρ1) fun ρ2 => P (pre ++ [t]) ρ2) : afterN (forF set body (L.map g) ρ) (P L) := by
  obtain ⟨ρ', h1, h2⟩ := forF_run (set := set) (body := body) (g := g) P h0 fun pre t post ρ e p => by
    obtain ⟨ρ1, h1, h2⟩ := onSet_ex (h pre t post ρ e p)
    obtain ⟨ρ2, h3, h4⟩ := afterN_ex h2
    exact ⟨ρ1, ρ2, h1, .inl h3, h4⟩
  rw [h1]
  exact h2
/-- .. in what follows -/
theorem sFor_nx {α : Type} {fi : Rho → OL} {set : FS} {body : SF} {g : α → PyData} (P : List α → Rho → Prop) {L : List α} {ρ : Rho} (hi : fi ρ = .ok (L.map g)) (h0 : P [] ρ)
    (h : ∀ pre t post ρ, L = pre ++ t :: post → P pre ρ → onSet (set (g t) ρ) fun ρ1 => afterN (body ρ1) fun ρ2 => P (pre ++ [t]) ρ2) : ∃ ρ', sFor fi set body ρ = .nx ρ' ∧ P L ρ' := by
  rw [sFor_of hi]
  exact afterN_ex (forF_nx P h0 h)
/-- a loop that ends early, or runs to its end, by simp -/
theorem sFor_till {α : Type} {fi : Rho → OL} {set : FS} {body : SF} {g : α → PyData} {o : Out} (P : List α → Rho → Prop) {L : List α} {ρ : Rho} (p : α → Prop) (hi : fi ρ = .ok (L.map g)) (h0 : P [] ρ) (ho : ∀ ρ, o ≠ .nx ρ ∧ o ≠ .ct ρ ∧ o ≠ .brk ρ)
    (h : ∀ pre t post ρ, L = pre ++ t :: post → P pre ρ → onSet (set (g t) ρ) fun ρ1 => (p t → body ρ1 = o) ∧ (¬ p t → afterN (body ρ1) fun ρ2 => P (pre ++ [t]) ρ2)) :
    ((∃ t ∈ L, p t) ∧ sFor fi set body ρ = o) ∨ ((∀ t ∈ L, ¬ p t) ∧ ∃ ρ', sFor fi set body ρ = .nx ρ' ∧ P L ρ') := by
  rw [sFor_of hi]
  refine forF_till P p h0 ho fun pre t post ρ e q => ?_
  obtain ⟨ρ1, h1, h2, h3⟩ := onSet_ex (h pre t post ρ e q)
  refine ⟨ρ1, h1, ?_⟩
  by_cases hp : p t
  · exact .inl ⟨hp, h2 hp⟩
  · obtain ⟨ρ2, h4, h5⟩ := afterN_ex (h3 hp)
    exact .inr ⟨hp, ρ2, .inl h4, h5⟩
theorem till_if {ft : FE} {Fret : SF} {ρ1 : Rho} {p : Prop} [Decidable p] {o : Out} {Q : Rho → Prop} (h : ft (frz ρ1) = .ok (.bool (decide p))) (ho : Fret ρ1 = o) (hq : ¬ p → Q ρ1) :
    (p → sIf ft Fret fNext ρ1 = o) ∧ (¬ p → afterN (sIf ft Fret fNext ρ1) Q) := by
  rw [if_of h]
  refine ⟨fun hp => ?_, fun hp => ?_⟩
  · rw [decide_eq_true hp, if_pos rfl, ho]
  · rw [decide_eq_false hp, if_neg (by decide)]
    exact hq hp
/-- a comprehension -/
theorem lcGo_map {α : Type} {set : FS} {ft fe : FE} {ρ : Rho} {g : α → PyData} {p : α → Bool} {h : α → PyData} : ∀ {L : List α}, (∀ t ∈ L, ∃ ρ1, set (g t) ρ = some ρ1 ∧ ft ρ1 = .ok (.bool (p t)) ∧ (p t = true → fe ρ1 = .ok (h t))) →
    lcGo set ft fe ρ (L.map g) = .ok ((L.filter p).map h)
  | [], _ => rfl
  | t :: L, hy => by
    obtain ⟨ρ1, h1, h2, h3⟩ := hy t List.mem_cons_self
    have ih := lcGo_map (L := L) fun u hu => hy u (List.mem_cons_of_mem _ hu)
    rw [List.map_cons]
    simp only [lcGo, h1, h2]
    cases q : p t with
    | true => simp [h3 q, ih, q]
    | false => simp [ih, q]
theorem lcGo_all {α : Type} {set : FS} {fe : FE} {ρ : Rho} {g : α → PyData} {h : α → PyData} {L : List α} (hy : ∀ t ∈ L, ∃ ρ1, set (g t) ρ = some ρ1 ∧ fe ρ1 = .ok (h t)) : lcGo set fTrue fe ρ (L.map g) = .ok (L.map h) := by
  have := lcGo_map (set := set) (ft := fTrue) (fe := fe) (ρ := ρ) (g := g) (p := fun _ => true) (h := h) (L := L) fun t ht => by
    obtain ⟨ρ1, h1, h2⟩ := hy t ht
    exact ⟨ρ1, h1, rfl, fun _ => h2⟩
  rw [this, List.filter_eq_self.mpr fun _ _ => rfl]
theorem fLc_of {fi : Rho → OL} {set : FS} {ft fe : FE} {vs : List Nat} {ρ : Rho} {ds ys : List PyData} (h1 : fi ρ = .ok ds) (h2 : ds.length ≤ 100000) (h3 : lcGo set ft fe (wipeR ρ vs) ds = .ok ys) : fLc fi set ft fe vs ρ = .ok (.list ys) := by
  unfold fLc
  rw [h1]
  dsimp only
  rw [if_pos h2, h3]
theorem rng1 {f : FE} {ρ : Rho} {n : Nat} (h : f ρ = .ok (.int n)) (hn : n ≤ 100000) : iRng [f] ρ = .ok ((List.range n).map fun k : Nat => .int k) := by
  unfold iRng
  simp only [r_consA, h, r_nilA, consA_ok]
  rw [if_pos (by omega)]
  unfold intsD
  simp
theorem iseqL {f : FE} {ρ : Rho} {ds : List PyData} (h : f ρ = .ok (.list ds)) : iSeq f ρ = .ok ds := by
  unfold iSeq
  rw [h]
  rfl
theorem iseqT {f : FE} {ρ : Rho} {ds : List PyData} (h : f ρ = .ok (.tuple ds)) : iSeq f ρ = .ok ds := by
  unfold iSeq
  rw [h]
  rfl
theorem numbered_map : ∀ (ds : List PyData) (i : Nat), numbered i ds = ((List.range ds.length).zip ds).map fun p => .tuple [.int ((i + p.1 : Nat) : Int), p.2]
  | [], _ => rfl
  | d :: ds, i => by
    rw [numbered, numbered_map ds (i + 1), List.length_cons, List.range_succ_eq_map, List.zip_cons_cons, List.map_cons]
    congr 1
    rw [List.zip_map_left, List.map_map]
    apply List.map_congr_left
    intro p _
    simp [Prod.map]
    omega
theorem enumI {f : FE} {ρ : Rho} {ds : List PyData} (h : f ρ = .ok (.list ds)) : iEnm f ρ = .ok (((List.range ds.length).zip ds).map fun p => .tuple [.int (p.1 : Nat), p.2]) := by
  unfold iEnm
  rw [h]
  dsimp only
  rw [numbered_map]
  simp
/-! ### data equality -/
mutual
def flatD : PyData → Bool
  | .none => true
  | .bool _ => false
  | .int _ => true
  | .str _ => true
  | .list xs => flatDs xs
  | .tuple xs => flatDs xs
  | .dict _ => false
def flatDs : List PyData → Bool
  | [] => true
  | d :: ds => flatD d && flatDs ds
end
mutual
theorem eqv_flat : ∀ {x y : PyData}, flatD x = true → flatD y = true → (PyData.eqv x y = true ↔ x = y)
  | .none, y, _, hy => by cases y <;> simp_all [PyData.eqv, flatD]
  | .bool _, y, h, _ => by simp [flatD] at h
  | .int _, y, _, hy => by cases y <;> simp_all [PyData.eqv, flatD]
  | .str _, y, _, hy => by cases y <;> simp_all [PyData.eqv, flatD]
  | .list xs, y, h, hy => by
    cases y with
    | list ys =>
      simp only [flatD] at h hy
      simp only [PyData.eqv, PyData.list.injEq]
      exact eqv_flats h hy
    | _ => simp_all [PyData.eqv, flatD]
  | .tuple xs, y, h, hy => by
    cases y with
    | tuple ys =>
      simp only [flatD] at h hy
      simp only [PyData.eqv, PyData.tuple.injEq]
      exact eqv_flats h hy
    | _ => simp_all [PyData.eqv, flatD]
  | .dict _, y, h, _ => by simp [flatD] at h
theorem eqv_flats : ∀ {xs ys : List PyData}, flatDs xs = true → flatDs ys = true → (PyData.eqvAll xs ys = true ↔ xs = ys)
  | [], [], _, _ => by simp [PyData.eqvAll]
  | [], _ :: _, _, _ => by simp [PyData.eqvAll]
  | _ :: _, [], _, _ => by simp [PyData.eqvAll]
  | x :: xs, y :: ys, h, hy => by
    simp only [flatDs, Bool.and_eq_true] at h hy
    simp only [PyData.eqvAll, Bool.and_eq_true, List.cons.injEq]
    rw [eqv_flat h.1 hy.1, eqv_flats h.2 hy.2]
end
end M
namespace Me
open PySem M
def cornersI : Int × Int × Int → List (Int × Int)
  | (x, y, k) => if k = 0 then [(x, y), (x + 1, y), (x, y + 1)] else [(x + 1, y), (x + 1, y + 1), (x, y + 1)]
def pD (p : Int × Int) : PyData := .tuple [.int p.1, .int p.2]
def tD (t : Int × Int × Int) : PyData := .tuple [.int t.1, .int t.2.1, .int t.2.2]
theorem eqv_int (i j : Int) : PyData.eqv (.int i) (.int j) = decide (i = j) := by
  simp only [PyData.eqv]
  by_cases h : i = j <;> simp [h]
@[simp] theorem r_eqI (i j : Int) : dEq (.int i) (.int j) = .ok (.bool (decide (i = j))) := by
  unfold dEq
  rw [eqv_int]
  rfl
@[simp] theorem r_neI (i j : Int) : dNe (.int i) (.int j) = .ok (.bool (!decide (i = j))) := by
  unfold dNe
  rw [eqv_int]
  rfl
theorem corners_of_is (t : Int × Int × Int) : F_corners_of [tD t] = .ok (.list ((cornersI t).map pD)) := by
  obtain ⟨x, y, k⟩ := t
  unfold F_corners_of fnF
  by_cases h : k = 0
  · subst h
    simp [B_corners_of, startR, tD, dTup, dLst, cornersI, pD]
  · simp [B_corners_of, startR, tD, dTup, dLst, cornersI, pD, h]
end Me

/-! HA2: data that may be compared; dicts as lists of pairs. -/
namespace M
open PySem
def lays (n : Nat) (d : PyData) : Prop := d.canLay0 = true ∧ d.depth ≤ n
theorem lays_int (i : Int) : lays 0 (.int i) := ⟨by simp only [PyData.canLay0], by simp only [PyData.depth, Nat.le_refl]⟩
theorem lays_le {n m : Nat} {d : PyData} (h : lays n d) (k : n ≤ m) : lays m d := ⟨h.1, Nat.le_trans h.2 k⟩
theorem lays_all {n : Nat} : ∀ {ds : List PyData}, (∀ d ∈ ds, lays n d) → PyData.canLayAll0 ds = true ∧ PyData.depthAll ds ≤ n
  | [], _ => ⟨by simp only [PyData.canLayAll0], by simp only [PyData.depthAll, Nat.zero_le]⟩
  | d :: ds, h => by
    obtain ⟨h1, h2⟩ := h d List.mem_cons_self
    obtain ⟨h3, h4⟩ := lays_all fun x hx => h x (List.mem_cons_of_mem _ hx)
    simp only [PyData.canLayAll0, PyData.depthAll, h1, h3, Bool.and_self, true_and]
    omega
theorem lays_list {n : Nat} {ds : List PyData} (h : ∀ d ∈ ds, lays n d) : lays (n + 1) (.list ds) := by
  obtain ⟨h1, h2⟩ := lays_all h
  exact ⟨by simp only [PyData.canLay0, h1], by simp only [PyData.depth]; omega⟩
theorem lays_tup {n : Nat} {ds : List PyData} (h : ∀ d ∈ ds, lays n d) : lays (n + 1) (.tuple ds) := by
  obtain ⟨h1, h2⟩ := lays_all h
  exact ⟨by simp only [PyData.canLay0, h1], by simp only [PyData.depth]; omega⟩
theorem lays_map {α : Type} {n : Nat} {g : α → PyData} (h : ∀ a, lays n (g a)) (L : List α) : lays (n + 1) (.list (L.map g)) := lays_list fun d hd => by
  obtain ⟨a, _, rfl⟩ := List.mem_map.mp hd
  exact h a
theorem okD_of {n : Nat} {d : PyData} (h : lays n d) (hn : n ≤ 64 := by decide) : okD d = true := by
  unfold okD PySem.SeqAt.shaped
  rw [h.1, decide_eq_true (Nat.le_trans h.2 hn)]
  rfl
theorem flatDs_of : ∀ {ds : List PyData}, (∀ d ∈ ds, flatD d = true) → flatDs ds = true
  | [], _ => by simp only [flatDs]
  | d :: ds, h => by simp only [flatDs, h d List.mem_cons_self, flatDs_of fun x hx => h x (List.mem_cons_of_mem _ hx), Bool.and_self]
theorem flat_list {ds : List PyData} (h : ∀ d ∈ ds, flatD d = true) : flatD (.list ds) = true := by simp only [flatD, flatDs_of h]
theorem flat_tup {ds : List PyData} (h : ∀ d ∈ ds, flatD d = true) : flatD (.tuple ds) = true := by simp only [flatD, flatDs_of h]
theorem flat_int (i : Int) : flatD (.int i) = true := by simp only [flatD]
theorem flat_map {α : Type} {g : α → PyData} (h : ∀ a, flatD (g a) = true) (L : List α) : flatD (.list (L.map g)) = true := flat_list fun d hd => by
  obtain ⟨a, _, rfl⟩ := List.mem_map.mp hd
  exact h a
open Classical in
theorem dEq_flat {n m : Nat} {x y : PyData} (hx : lays n x) (hy : lays m y) (fx : flatD x = true) (fy : flatD y = true) (hn : n ≤ 64 := by decide) (hm : m ≤ 64 := by decide) : dEq x y = .ok (.bool (decide (x = y))) := by
  unfold dEq
  rw [okD_of hx hn, okD_of hy hm]
  have : PyData.eqv x y = decide (x = y) := by
    by_cases h : x = y
    · rw [decide_eq_true h]; exact (eqv_flat fx fy).mpr h
    · rw [decide_eq_false h]
      cases q : PyData.eqv x y
      · rfl
      · exact absurd ((eqv_flat fx fy).mp q) h
  rw [this]
  rfl
open Classical in
theorem dNe_flat {n m : Nat} {x y : PyData} (hx : lays n x) (hy : lays m y) (fx : flatD x = true) (fy : flatD y = true) (hn : n ≤ 64 := by decide) (hm : m ≤ 64 := by decide) : dNe x y = .ok (.bool (!decide (x = y))) := by
  have := dEq_flat hx hy fx fy hn hm
  unfold dEq at this
  unfold dNe
  rw [okD_of hx hn, okD_of hy hm] at this ⊢
  have e : PyData.eqv x y = decide (x = y) := by
    have t2 : O.ok (PyData.bool (x.eqv y)) = O.ok (PyData.bool (decide (x = y))) := this
    injection t2 with e
    injection e
  rw [e]
  rfl
theorem dNe_same {n : Nat} {x : PyData} (hx : lays n x) (fx : flatD x = true) (hn : n ≤ 64 := by decide) : dNe x x = .ok (.bool false) := by
  rw [dNe_flat hx hx fx fx hn hn]
  simp
theorem dEq_same {n : Nat} {x : PyData} (hx : lays n x) (fx : flatD x = true) (hn : n ≤ 64 := by decide) : dEq x x = .ok (.bool true) := by
  rw [dEq_flat hx hx fx fx hn hn]
  simp
/-! ### dicts -/
structure KeyEnc {α : Type} (g : α → PyData) (κ : α → NestedKey) : Prop where
  ok : ∀ a, keyOk (g a) = some (κ a)
  inj : ∀ a b, κ a = κ b → a = b
section
variable {α β : Type} [DecidableEq α] {g : α → PyData} {κ : α → NestedKey} {h : β → PyData}
def kv (g : α → PyData) (h : β → PyData) (m : List (α × β)) : List (PyData × PyData) := m.map fun p => (g p.1, h p.2)
def lk : List (α × β) → α → Option β
  | [], _ => none
  | p :: m, a => if p.1 = a then some p.2 else lk m a
def put (m : List (α × β)) (a : α) (b : β) : List (α × β) := if (lk m a).isSome = true then m.map (fun p => if p.1 = a then (p.1, b) else p) else m ++ [(a, b)]
theorem key_iff (K : KeyEnc g κ) (a b : α) : (keyOk (g a) = some (κ b)) ↔ a = b := by
  rw [K.ok]
  exact ⟨fun e => K.inj _ _ (Option.some.inj e), fun e => by rw [e]⟩
theorem look_kv (K : KeyEnc g κ) : ∀ (m : List (α × β)) (a : α), dLook (kv g h m) (κ a) = (lk m a).map h
  | [], _ => rfl
  | p :: m, a => by
    have ih := look_kv K m a
    unfold kv at ih ⊢
    rw [List.map_cons]
    simp only [dLook, lk]
    by_cases e : p.1 = a
    · rw [if_pos ((key_iff K _ _).mpr e), if_pos e]; rfl
    · rw [if_neg (fun z => e ((key_iff K _ _).mp z)), if_neg e, ih]
theorem put_kv (K : KeyEnc g κ) (m : List (α × β)) (a : α) (b : β) : dPut (kv g h m) (g a) (κ a) (h b) = kv g h (put m a b) := by
  unfold dPut put
  rw [look_kv K]
  have e : ((lk m a).map h).isSome = (lk m a).isSome := by cases lk m a <;> rfl
  rw [e]
  split
  · unfold kv
    rw [List.map_map, List.map_map]
    apply List.map_congr_left
    intro p _
    simp only [Function.comp]
    by_cases e : p.1 = a
    · rw [if_pos ((key_iff K _ _).mpr e), if_pos e]
    · rw [if_neg (fun z => e ((key_iff K _ _).mp z)), if_neg e]
  · unfold kv
    rw [List.map_append]
    rfl
theorem lk_append (m : List (α × β)) (a : α) (b : β) (c : α) : lk (m ++ [(a, b)]) c = match lk m c with
  | some x => some x
  | none => if a = c then some b else none := by
  induction m with
  | nil => simp [lk]
  | cons p m ih =>
    simp only [List.cons_append, lk]
    split
    · rfl
    · exact ih
theorem lk_mapput (m : List (α × β)) (a : α) (b : β) (c : α) : lk (m.map fun p => if p.1 = a then (p.1, b) else p) c = if a = c then (lk m c).map fun _ => b else lk m c := by
  induction m with
  | nil => simp [lk]
  | cons p m ih =>
    simp only [List.map_cons, lk]
    by_cases e : p.1 = a
    · rw [if_pos e]
      dsimp only
      by_cases e2 : a = c
      · subst e2
        rw [if_pos e, if_pos rfl, if_pos e]
        rfl
      · rw [if_neg (fun z => e2 (e.symm.trans z)), if_neg e2, if_neg (fun z => e2 (e.symm.trans z)), ih, if_neg e2]
    · rw [if_neg e]
      by_cases e2 : p.1 = c
      · rw [if_pos e2, if_neg (fun z => e (e2.trans z.symm)), if_pos e2]
      · rw [if_neg e2, ih, if_neg e2]
theorem lk_put (m : List (α × β)) (a : α) (b : β) (c : α) : lk (put m a b) c = if a = c then some b else lk m c := by
  unfold put
  split
  · rename_i q
    rw [lk_mapput]
    by_cases e : a = c
    · subst e
      rw [if_pos rfl, if_pos rfl]
      cases r : lk m a with
      | none => rw [r] at q; cases q
      | some x => rfl
    · rw [if_neg e, if_neg e]
  · rename_i q
    rw [lk_append]
    by_cases e : a = c
    · subst e
      rw [if_pos rfl]
      cases r : lk m a with
      | none => rw [if_pos rfl]
      | some x => rw [r] at q; exact absurd rfl q
    · rw [if_neg e, if_neg e]
      cases lk m c <;> rfl
theorem put_len (m : List (α × β)) (a : α) (b : β) : (put m a b).length ≤ m.length + 1 := by
  unfold put
  split <;> simp
theorem tupKeys_kv (K : KeyEnc g κ) (m : List (α × β)) : tupKeys (kv g h m) = true := by
  unfold tupKeys kv
  rw [List.all_map, List.all_eq_true]
  intro p _
  exact (keyOk_tup (K.ok p.1)).1
theorem in_kv (K : KeyEnc g κ) (m : List (α × β)) (a : α) : dIn (g a) (.dict (kv g h m)) = .ok (.bool (lk m a).isSome) := by
  have e : dIn (g a) (.dict (kv g h m)) = if tupKeys (kv g h m) = true then (match keyOk (g a) with
    | some nk => .ok (.bool (dLook (kv g h m) nk).isSome)
    | none => .bad) else .bad := rfl
  rw [e, if_pos (tupKeys_kv K m), K.ok]
  dsimp only
  rw [look_kv K]
  cases lk m a <;> rfl
theorem ixK_kv (K : KeyEnc g κ) (m : List (α × β)) {a : α} {b : β} (hb : lk m a = some b) : dIxK (.dict (kv g h m)) (g a) = .ok (h b) := by
  have e : dIxK (.dict (kv g h m)) (g a) = if tupKeys (kv g h m) = true then (match keyOk (g a) with
    | some nk => (match dLook (kv g h m) nk with
      | some d => .ok d
      | none => .bad)
    | none => .bad) else .bad := rfl
  rw [e, if_pos (tupKeys_kv K m), K.ok]
  dsimp only
  rw [look_kv K, hb]
  rfl
theorem get_kv (K : KeyEnc g κ) (m : List (α × β)) (a : α) (x : PyData) : dGet (kv g h m) (g a) x = .ok (((lk m a).map h).getD x) := by
  unfold dGet
  rw [K.ok]
  dsimp only
  rw [look_kv K]
end
end M
namespace Me
open PySem M
abbrev T3 := Int × Int × Int
abbrev P2 := Int × Int
def κP (p : P2) : NestedKey := .tup [.num p.1, .num p.2]
def sD (s : P2 × P2) : PyData := .tuple [pD s.1, pD s.2]
def κS (s : P2 × P2) : NestedKey := .tup [κP s.1, κP s.2]
theorem enc_side : KeyEnc sD κS where
  ok := fun s => by
    obtain ⟨⟨a, b⟩, c, d⟩ := s
    unfold keyOk
    rw [if_pos (show isTupD (sD ((a, b), c, d)) = true from rfl)]
    have e : keyD (sD ((a, b), c, d)) = some (κS ((a, b), c, d)) := by simp [sD, pD, κS, κP, keyD, keyDs]
    rw [e]
    dsimp only
    rw [if_pos]
    simp [κS, κP, NestedKey.depth, NestedKey.depthAll]
  inj := fun s t h => by
    obtain ⟨⟨a, b⟩, c, d⟩ := s
    obtain ⟨⟨a', b'⟩, c', d'⟩ := t
    simpa [κS, κP, and_assoc] using h
theorem lays_p (p : P2) : lays 1 (pD p) := lays_tup (n := 0) (by simp [lays_int])
theorem lays_t (t : T3) : lays 1 (tD t) := lays_tup (n := 0) (by simp [lays_int])
theorem flat_p (p : P2) : flatD (pD p) = true := flat_tup (by simp [flat_int])
theorem flat_t (t : T3) : flatD (tD t) = true := flat_tup (by simp [flat_int])
/-- a triangle and a side -/
def eD (e : T3 × Nat) : PyData := .tuple [tD e.1, .int e.2]
theorem lays_e (e : T3 × Nat) : lays 2 (eD e) := lays_tup (n := 1) (by simp [lays_t, lays_le (lays_int _)])
theorem flat_e (e : T3 × Nat) : flatD (eD e) = true := flat_tup (by simp [flat_int, flat_t])
theorem eD_inj {a b : T3 × Nat} (h : eD a = eD b) : a = b := by
  obtain ⟨⟨a1, a2, a3⟩, a4⟩ := a
  obtain ⟨⟨b1, b2, b3⟩, b4⟩ := b
  simp [tD, eD] at h
  simp [h]
  omega
theorem tD_inj {a b : T3} (h : tD a = tD b) : a = b := by
  obtain ⟨a1, a2, a3⟩ := a
  obtain ⟨b1, b2, b3⟩ := b
  simpa [tD] using h
theorem pD_inj {a b : P2} (h : pD a = pD b) : a = b := by
  obtain ⟨a1, a2⟩ := a
  obtain ⟨b1, b2⟩ := b
  simpa [pD] using h
end Me

/-! HB: the drawn numbers, the marks, the net. -/
namespace Me
open PySem M
theorem mul_ok {i j : Int} (h : L2.CMul i j) : dMul (.int i) (.int j) = .ok (.int (i * j)) := by
  show (if decide (L2.CMul i j) = true then _ else _) = _
  rw [if_pos (decide_eq_true h)]
theorem div_ok {i j : Int} (h : L2.CDiv i j) : dDiv (.int i) (.int j) = .ok (.int (i / j)) := by
  show (if decide (L2.CDiv i j) = true then _ else _) = _
  rw [if_pos (decide_eq_true h)]
theorem mod_ok {i j : Int} (h : 0 < j) : dMod (.int i) (.int j) = .ok (.int (i % j)) := by
  show (if decide (0 < j) = true then _ else _) = _
  rw [if_pos (decide_eq_true h)]
theorem add_ok {i j : Int} : dAdd (.int i) (.int j) = .ok (.int (i + j)) := rfl
theorem sub_ok {i j : Int} : dSub (.int i) (.int j) = .ok (.int (i - j)) := rfl
theorem cell_is (ns : List Int) (k : Nat) : ∃ c : Int, F__law_cell_at [scrD (ns.map .int), .int k] = .ok (.int c) := by
  by_cases h : k < ns.length
  · refine ⟨ns[k], ?_⟩
    have e : dIxS (scrD (ns.map .int)) (.int k) = .ok (.int ns[k]) := by
      show (match L2.atI (ns.map PyData.int) (k : Int) with
        | some d => O.ok d
        | none => .bad) = _
      rw [atI_nat]
      simp [h]
    simp [F__law_cell_at, fnF, B__law_cell_at, startR, e, h]
  · refine ⟨0, ?_⟩
    simp [F__law_cell_at, fnF, B__law_cell_at, startR, h]
def somes : List Int := [48271, 69621, 16807, 39373, 30269, 40014, 40692, 50021, 61687, 71993, 83869, 95561, 30307]
theorem mix_is (c : Int) (k m : Nat) (hm : 0 < m) (hk : k < 1000000) : ∃ r : Nat, r < m ∧ F__law_mix [.int c, .int k, .int m] = .ok (.int r) := by
  have hj : k % 13 < somes.length := Nat.mod_lt _ (by decide)
  have h1 : dMod (.int c) (.int 2147483647) = .ok (.int (c % 2147483647)) := mod_ok (by decide)
  have h2 : dMod (.int (k : Int)) (.int 13) = .ok (.int ((k : Int) % 13)) := mod_ok (by decide)
  have h3 : dIx (.list (somes.map .int)) (.int ((k : Int) % 13)) = .ok (.int somes[k % 13]) := by
    have e : ((k : Int) % 13) = ((k % 13 : Nat) : Int) := by omega
    rw [e]
    exact ix_list (by simp [hj])
  have h4 : dMul (.int (c % 2147483647 + 12345)) (.int somes[k % 13]) = .ok (.int ((c % 2147483647 + 12345) * somes[k % 13])) := mul_ok (.inl (by omega))
  have h5 : dDiv (.int (k : Int)) (.int 13) = .ok (.int ((k : Int) / 13)) := div_ok ⟨by decide, by decide⟩
  have h6 : dMul (.int 2) (.int ((k : Int) / 13)) = .ok (.int (2 * ((k : Int) / 13))) := mul_ok (.inl (by decide))
  have h7 : dMul (.int ((c % 2147483647 + 12345) * somes[k % 13])) (.int (2 * ((k : Int) / 13) + 1)) = .ok (.int ((c % 2147483647 + 12345) * somes[k % 13] * (2 * ((k : Int) / 13) + 1))) := mul_ok (.inr (by omega))
  have h8 : dMul (.int 977) (.int (k : Int)) = .ok (.int (977 * (k : Int))) := mul_ok (.inl (by decide))
  generalize hz : (c % 2147483647 + 12345) * somes[k % 13] * (2 * ((k : Int) / 13) + 1) + 977 * (k : Int) = z at *
  have h9 : dMod (.int z) (.int 1000000007) = .ok (.int (z % 1000000007)) := mod_ok (by decide)
  have h10 : dDiv (.int (z % 1000000007)) (.int 7) = .ok (.int (z % 1000000007 / 7)) := div_ok ⟨by decide, by decide⟩
  have h11 : dMod (.int (z % 1000000007 / 7)) (.int (m : Int)) = .ok (.int (z % 1000000007 / 7 % (m : Int))) := mod_ok (by omega)
  have hl : dLst ([.int 48271, .int 69621, .int 16807, .int 39373, .int 30269, .int 40014, .int 40692, .int 50021, .int 61687, .int 71993, .int 83869, .int 95561, .int 30307]) = .ok (.list (somes.map .int)) := rfl
  have hpos : 0 ≤ z % 1000000007 / 7 % (m : Int) := Int.emod_nonneg _ (by omega)
  have hlt : z % 1000000007 / 7 % (m : Int) < m := Int.emod_lt_of_pos _ (by omega)
  refine ⟨(z % 1000000007 / 7 % (m : Int)).toNat, by omega, ?_⟩
  rw [Int.toNat_of_nonneg hpos]
  unfold F__law_mix fnF B__law_mix
  simp only [startR, List.map_cons, List.map_nil, List.length_cons, List.length_nil, List.replicate, List.cons_append, List.nil_append, r_seq, r_set, r_args, r_consA, r_nilA, r_fC, consA_ok, OL.bind_ok', hl, r_withE_ok]
  simp [-r_int2, h1, h2, h3, h4, h5, h6, h7, h8, h9, h10, h11, add_ok, hz]
def cellV (ns : List Int) (k : Nat) : Int := match F__law_cell_at [scrD (ns.map .int), .int k] with
  | .ok (.int c) => c
  | _ => 0
theorem cell_eq (ns : List Int) (k : Nat) : F__law_cell_at [scrD (ns.map .int), .int k] = .ok (.int (cellV ns k)) := by
  obtain ⟨c, h⟩ := cell_is ns k
  unfold cellV
  rw [h]
def mixV (c : Int) (k m : Nat) : Int := match F__law_mix [.int c, .int k, .int m] with
  | .ok (.int c) => c
  | _ => 0
theorem mix_eq (c : Int) (k m : Nat) (hm : 0 < m) (hk : k < 1000000) : F__law_mix [.int c, .int k, .int m] = .ok (.int (mixV c k m)) ∧ 0 ≤ mixV c k m ∧ mixV c k m < m := by
  obtain ⟨r, h1, h2⟩ := mix_is c k m hm hk
  unfold mixV
  rw [h2]
  exact ⟨rfl, by show (0 : Int) ≤ (r : Int); omega, by show (r : Int) < m; omega⟩
@[simp] theorem r_append (i m : Nat) (f : FE) (ρ : Rho) : sAppend i m f ρ = match ρ[i]? with
  | some (some (k, .list ds)) => if k = m + 1 ∧ ds.length < 1000000 then withE (f ρ) ρ fun d => .nx (ρ.set i (some (m + 1, .list (ds ++ [d])))) else .bad
  | _ => .bad := rfl
def rowD (n : Nat) (Mf : Nat → Nat → Int) (y : Nat) : PyData := .list ((List.range (n - y + 1)).map fun x => .int (Mf x y))
def marksD (n : Nat) (Mf : Nat → Nat → Int) : PyData := .list ((List.range (n + 1)).map (rowD n Mf))
def mF (ns : List Int) (x y : Nat) : Int := mixV (cellV ns (3 + y)) (x + 14 * y) 3
theorem mF_is (ns : List Int) (x y : Nat) (hx : x ≤ 100) (hy : y ≤ 100) : F__law_mix [.int (cellV ns (3 + y)), .int ((x : Int) + 14 * (y : Int)), .int 3] = .ok (.int (mF ns x y)) ∧ 0 ≤ mF ns x y ∧ mF ns x y < 3 := by
  have := mix_eq (cellV ns (3 + y)) (x + 14 * y) 3 (by decide) (by omega)
  have e : ((x + 14 * y : Nat) : Int) = (x : Int) + 14 * (y : Int) := by omega
  rw [e] at this
  exact this
theorem marks_is (ns : List Int) (most : Nat) (h1 : 1 ≤ most) (h2 : most ≤ 12) : ∃ n : Nat, 1 ≤ n ∧ n ≤ most ∧ F__law_marks_by [scrD (ns.map .int), .int most] = .ok (marksD n (mF ns)) := by
  have hpos : 0 ≤ cellV ns 0 % (most : Int) := Int.emod_nonneg _ (by omega)
  have hlt : cellV ns 0 % (most : Int) < most := Int.emod_lt_of_pos _ (by omega)
  obtain ⟨r, hr⟩ : ∃ r : Nat, cellV ns 0 % (most : Int) = r := ⟨_, (Int.toNat_of_nonneg hpos).symm⟩
  have hmod : dMod (.int (cellV ns 0)) (.int (most : Int)) = .ok (.int r) := by rw [mod_ok (by omega), hr]
  have hc0 : F__law_cell_at [scrD (ns.map .int), .int 0] = .ok (.int (cellV ns 0)) := cell_eq ns 0
  refine ⟨1 + r, by omega, by omega, ?_⟩
  generalize hn : 1 + r = n
  have hn2 : (1 + (r : Int)) = n := by omega
  have hcell : ∀ y : Nat, F__law_cell_at [scrD (ns.map .int), .int (3 + (y : Int))] = .ok (.int (cellV ns (3 + y))) := fun y => by
    rw [← cell_eq ns (3 + y)]
    congr 4
  generalize hS : scrD (ns.map .int) = S at *
  have hir : iRng [fBin dAdd (fVar 2) (fC (.int 1))] [some (0, S), some (0, .int most), some (0, .int n), some (2, .list []), none, none, none] = .ok ((List.range (n + 1)).map fun k : Nat => .int k) := rng1 (by simp) (by omega)
  obtain ⟨ρ', hf, a, b, c, rfl⟩ := sFor_nx (set := setN 4)
    (body := seqF' (sSet 5 0 (fArgs F__law_cell_at [fVar 0, fBin dAdd (fC (.int 3)) (fVar 4)])) (sAppend 3 1 (fLc (iRng [fBin dAdd (fBin dSub (fVar 2) (fVar 4)) (fC (.int 1))]) (setN 6) fTrue (fArgs F__law_mix [fVar 5, fBin dAdd (fVar 6) (fBin dMul (fC (.int 14)) (fVar 4)), fC (.int 3)]) [6])))
    (fun pre ρ => ∃ a b c, ρ = [some (0, S), some (0, .int most), some (0, .int n), some (2, .list (pre.map (rowD n (mF ns)))), a, b, c]) hir ⟨none, none, none, rfl⟩ (by
    rintro pre y post ρ e ⟨a, b, c, rfl⟩
    have hy := List.mem_range.mp (show y ∈ List.range (n + 1) by rw [e]; simp)
    have hpl : pre.length < 1000000 := by
      have := congrArg List.length e
      simp at this
      omega
    have hrow : fLc (iRng [fBin dAdd (fBin dSub (fVar 2) (fVar 4)) (fC (.int 1))]) (setN 6) fTrue (fArgs F__law_mix [fVar 5, fBin dAdd (fVar 6) (fBin dMul (fC (.int 14)) (fVar 4)), fC (.int 3)]) [6]
        [some (0, S), some (0, .int most), some (0, .int n), some (2, .list (pre.map (rowD n (mF ns)))), some (0, .int y), some (0, .int (cellV ns (3 + y))), c] = .ok (rowD n (mF ns) y) := by
      refine fLc_of (rng1 (n := n - y + 1) ?_ (by omega)) (by simp; omega) (lcGo_all fun x hx => ?_)
      · simp
        omega
      · have hx := List.mem_range.mp hx
        obtain ⟨q1, _⟩ := mF_is ns x y (by omega) (by omega)
        have hm : dMul (.int 14) (.int (y : Int)) = .ok (.int (14 * (y : Int))) := mul_ok (.inl (by decide))
        refine ⟨_, rfl, ?_⟩
        simp [-r_int2, hm, add_ok, wipeR, q1]
    simp [hcell, hrow, hpl])
  unfold F__law_marks_by fnF B__law_marks_by
  simp [-r_int2, startR, hc0, hmod, add_ok, hn2, hf, marksD]
end Me

/-! HC: marks of a net, the net, its triangles. -/
namespace Me
open PySem M
def mkD (rows : List (List Int)) : PyData := .list (rows.map fun r => .list (r.map .int))
def Right (rows : List (List Int)) : Prop := (2 ≤ rows.length ∧ rows.length ≤ 13) ∧ ∀ p ∈ (List.range rows.length).zip rows, p.2.length + p.1 = rows.length ∧ ∀ m ∈ p.2, 0 ≤ m ∧ m ≤ 2
instance (rows : List (List Int)) : Decidable (Right rows) := by unfold Right; infer_instance
theorem asBools_map {α : Type} (p : α → Bool) : ∀ L : List α, asBools (L.map fun x => .bool (p x)) = some (L.map p)
  | [] => rfl
  | x :: L => by simp [asBools, asBools_map p L]
theorem all_map {α : Type} (p : α → Bool) (L : List α) : dAll (.list (L.map fun x => .bool (p x))) = .ok (.bool (L.all p)) := by
  simp only [dAll, asBools_map]
  simp
theorem asInts_map {α : Type} (p : α → Int) : ∀ L : List α, asInts (L.map fun x => .int (p x)) = some (L.map p)
  | [] => rfl
  | x :: L => by simp [asInts, asInts_map p L]
theorem sum_map {α : Type} (p : α → Int) (L : List α) : dSum (.list (L.map fun x => .int (p x))) = .ok (.int (L.map p).sum) := by
  simp only [dSum, asInts_map]
theorem len_mkD (rows : List (List Int)) : dLen (mkD rows) = .ok (.int rows.length) := by
  unfold mkD
  rw [r_lenL, List.length_map]
theorem marks_right_is (rows : List (List Int)) (hl : rows.length ≤ 1000) (hr : ∀ r ∈ rows, r.length ≤ 1000) : F_marks_right [mkD rows] = .ok (.bool (decide (Right rows))) := by
  by_cases h1 : 2 ≤ rows.length ∧ rows.length ≤ 13
  · have hi : iEnm (fVar 0) [some (0, mkD rows), some (0, .int ((rows.length : Int) - 1)), none, none, none] = .ok (((List.range rows.length).zip rows).map fun p => .tuple [.int (p.1 : Nat), .list (p.2.map .int)]) := by
      rw [enumI (ds := rows.map fun r => .list (r.map .int)) rfl, List.length_map, List.zip_map_right, List.map_map]
      rfl
    have key := sFor_till (set := setT [setN 2, setN 3]) (o := .ret (.bool false))
      (body := sIf (fOr (fBin dNe (fArgs (d1 dLen) [fVar 3]) (fBin dAdd (fBin dSub (fVar 1) (fVar 2)) (fC (.int 1)))) (fNot (fArgs (d1 dAll) [fLc (iSeq (fVar 3)) (setN 4) fTrue (fChain dLe dLe (fC (.int 0)) (fVar 4) (fC (.int 2))) [4]]))) (sRet (fC (.bool false))) fNext)
      (fun _ ρ => ∃ a b c, ρ = [some (0, mkD rows), some (0, .int ((rows.length : Int) - 1)), a, b, c]) (fun p => ¬ (p.2.length + p.1 = rows.length ∧ ∀ m ∈ p.2, 0 ≤ m ∧ m ≤ 2)) hi ⟨none, none, none, rfl⟩ (fun _ => ⟨by simp, by simp, by simp⟩) (by
      rintro pre ⟨y, row⟩ post ρ e ⟨a, b, c, rfl⟩
      have hm : (y, row) ∈ (List.range rows.length).zip rows := by rw [e]; simp
      have hrow := hr row (List.of_mem_zip hm).2
      have hy := List.mem_range.mp (List.of_mem_zip hm).1
      have hall : fLc (iSeq (fVar 3)) (setN 4) fTrue (fChain dLe dLe (fC (.int 0)) (fVar 4) (fC (.int 2))) [4] [some (0, mkD rows), some (0, .int ((rows.length : Int) - 1)), some (0, .int y), some (0, .list (row.map .int)), c.map fun y => (0, y.2)] = .ok (.list (row.map fun m => .bool (decide (0 ≤ m ∧ m ≤ 2)))) := by
        refine fLc_of (iseqL rfl) (by simp; omega) (lcGo_all fun m hm => ⟨_, rfl, ?_⟩)
        simp [wipeR]
        by_cases h : 0 ≤ m <;> simp [h]
      have ht : (fOr (fBin dNe (fArgs (d1 dLen) [fVar 3]) (fBin dAdd (fBin dSub (fVar 1) (fVar 2)) (fC (.int 1)))) (fNot (fArgs (d1 dAll) [fLc (iSeq (fVar 3)) (setN 4) fTrue (fChain dLe dLe (fC (.int 0)) (fVar 4) (fC (.int 2))) [4]])))
          (frz [some (0, mkD rows), some (0, .int ((rows.length : Int) - 1)), some (0, .int y), some (0, .list (row.map .int)), c]) = .ok (.bool (decide ¬ (row.length + y = rows.length ∧ ∀ m ∈ row, 0 ≤ m ∧ m ≤ 2))) := by
        have e2 : ((row.length : Int) = rows.length - 1 - y + 1) ↔ row.length + y = rows.length := by omega
        simp [hall, all_map, e2]
        by_cases q : row.length + y = rows.length <;> simp [q]
        cases hd : (row.all fun x => decide (0 ≤ x) && decide (x ≤ 2)) <;> simp_all
      exact till_if ht rfl fun _ => ⟨_, _, _, rfl⟩)
    have h2 : (1 : Int) ≤ (rows.length : Int) - 1 ∧ (rows.length : Int) - 1 ≤ 12 := by omega
    rcases key with ⟨hex, hk⟩ | ⟨hno, ρ', hk, a, b, c, rfl⟩
    · have hR : ¬ Right rows := fun z => by
        obtain ⟨t, ht, hp⟩ := hex
        exact hp (z.2 t ht)
      unfold F_marks_right fnF B_marks_right
      simp [-r_int2, startR, sub_ok, len_mkD, hk, hR, h2]
    · have hR : Right rows := ⟨h1, fun p hp => Classical.not_not.mp (hno p hp)⟩
      unfold F_marks_right fnF B_marks_right
      simp [-r_int2, startR, sub_ok, len_mkD, hk, hR, h2]
  · have hR : ¬ Right rows := fun z => h1 z.1
    unfold F_marks_right fnF B_marks_right
    by_cases q : (1 : Int) ≤ (rows.length : Int) - 1
    · have q2 : ¬ (rows.length : Int) - 1 ≤ 12 := by omega
      simp [-r_int2, startR, sub_ok, len_mkD, hR, q, q2]
    · simp [-r_int2, startR, sub_ok, len_mkD, hR, q]
end Me

/-! HD: the net, places, triangles. -/
namespace Me
open PySem M
def cor (t : T3) (k : Nat) : P2 := if t.2.2 = 0 then (match k with
  | 0 => (t.1, t.2.1)
  | 1 => (t.1 + 1, t.2.1)
  | _ => (t.1, t.2.1 + 1)) else (match k with
  | 0 => (t.1 + 1, t.2.1)
  | 1 => (t.1 + 1, t.2.1 + 1)
  | _ => (t.1, t.2.1 + 1))
theorem corners_cor (t : T3) : cornersI t = [cor t 0, cor t 1, cor t 2] := by
  obtain ⟨x, y, k⟩ := t
  unfold cornersI cor
  by_cases h : k = 0 <;> simp [h]
theorem copy_rows (rows : List (List Int)) (i : Nat) (ρ : Rho) (hl : rows.length ≤ 1000) (h : fVar i ρ = .ok (mkD rows)) {j : Nat} (hj : j < ρ.length) : fLc (iSeq (fVar i)) (setN j) fTrue (fArgs (d1 dList) [fVar j]) [j] ρ = .ok (mkD rows) := by
  refine fLc_of (iseqL h) (by simp; omega) (lcGo_all fun r hr => ⟨_, if_pos (by simpa [wipeR] using hj), ?_⟩)
  simp [wipeR, hj]
theorem Net_is (rows : List (List Int)) (hl : rows.length ≤ 1000) (hr : ∀ r ∈ rows, r.length ≤ 1000) : F_Net [mkD rows] = if Right rows then .ok (netD ((rows.length : Int) - 1) (mkD rows)) else .ex 0 := by
  have h1 := marks_right_is rows hl hr
  have h2 := copy_rows rows 1 [none, some (0, mkD rows), none] hl rfl (j := 2) (by simp)
  unfold F_Net F_init
  by_cases q : Right rows
  · simp [h1, h2, q, len_mkD]
  · simp [h1, q]
theorem law_net_is (rows : List (List Int)) (hl : rows.length ≤ 1000) (hr : ∀ r ∈ rows, r.length ≤ 1000) : F__law_net [mkD rows] = if Right rows then .ok (netD ((rows.length : Int) - 1) (mkD rows)) else .ex 0 := by
  have h2 := copy_rows rows 0 [some (0, mkD rows), none] hl rfl (j := 1) (by simp)
  unfold F__law_net fnF B__law_net
  by_cases q : Right rows <;> simp [startR, h2, Net_is rows hl hr, q]
def rowsOf (n : Nat) (Mf : Nat → Nat → Int) : List (List Int) := (List.range (n + 1)).map fun y => (List.range (n - y + 1)).map fun x => Mf x y
theorem marksD_eq (n : Nat) (Mf : Nat → Nat → Int) : marksD n Mf = mkD (rowsOf n Mf) := by
  unfold marksD mkD rowsOf
  rw [List.map_map]
  congr 1
  apply List.map_congr_left
  intro y _
  simp [rowD]
theorem rowsOf_len (n : Nat) (Mf : Nat → Nat → Int) : (rowsOf n Mf).length = n + 1 := by simp [rowsOf]
theorem rowsOf_row {n : Nat} {Mf : Nat → Nat → Int} {r : List Int} (h : r ∈ rowsOf n Mf) : r.length ≤ n + 1 := by
  obtain ⟨y, _, rfl⟩ := List.mem_map.mp h
  simp
theorem rowsOf_right {n : Nat} {Mf : Nat → Nat → Int} (h1 : 1 ≤ n) (h2 : n ≤ 12) (hM : ∀ x y, x + y ≤ n → 0 ≤ Mf x y ∧ Mf x y ≤ 2) : Right (rowsOf n Mf) := by
  refine ⟨by rw [rowsOf_len]; omega, ?_⟩
  rw [rowsOf_len]
  rintro ⟨y, r⟩ hp
  obtain ⟨i, hi, e⟩ := List.mem_iff_getElem.mp hp
  simp at hi
  rw [List.getElem_zip] at e
  simp [rowsOf] at e
  obtain ⟨rfl, rfl⟩ := e
  refine ⟨by simp; omega, fun m hm => ?_⟩
  simp at hm
  obtain ⟨x, hx, rfl⟩ := hm
  exact hM x i (by omega)
theorem net_ok {n : Nat} {Mf : Nat → Nat → Int} (h1 : 1 ≤ n) (h2 : n ≤ 12) (hM : ∀ x y, x + y ≤ n → 0 ≤ Mf x y ∧ Mf x y ≤ 2) : F__law_net [marksD n Mf] = .ok (netD n (marksD n Mf)) := by
  rw [marksD_eq, law_net_is _ (by rw [rowsOf_len]; omega) (fun r hr => Nat.le_trans (rowsOf_row hr) (by omega)), if_pos (rowsOf_right h1 h2 hM), rowsOf_len]
  congr 2
  omega
theorem has_is (n : Int) (m : PyData) (x y : Int) : F_Net_has [netD n m, .int x, .int y] = .ok (.bool (decide (0 ≤ x ∧ 0 ≤ y ∧ x + y ≤ n))) := by
  unfold F_Net_has fnF B_Net_has
  by_cases h1 : 0 ≤ x <;> by_cases h2 : 0 ≤ y <;> simp [startR, h1, h2]
abbrev In (n : Int) (p : P2) : Prop := 0 ≤ p.1 ∧ 0 ≤ p.2 ∧ p.1 + p.2 ≤ n
def IsTri (n : Int) (t : T3) : Prop := (t.2.2 = 0 ∨ t.2.2 = 1) ∧ ∀ p ∈ cornersI t, In n p
instance (n : Int) (t : T3) : Decidable (IsTri n t) := by unfold IsTri; infer_instance
theorem in01 (k : Int) : dIn (.int k) (.tuple [.int 0, .int 1]) = .ok (.bool (decide (k = 0 ∨ k = 1))) := by
  have e : dIn (.int k) (.tuple [.int 0, .int 1]) = if (okD (.int k) && okD (.tuple [.int 0, .int 1])) = true then .ok (.bool ([PyData.int 0, .int 1].any fun z => PyData.eqv z (.int k))) else .bad := rfl
  rw [e, okD_of (lays_int k), okD_of (lays_tup (n := 0) (by simp [lays_int]))]
  simp [eqv_int, eq_comm]
theorem is_triangle_is (n : Int) (m : PyData) (t : T3) : F_is_triangle [netD n m, tD t] = .ok (.bool (decide (IsTri n t))) := by
  have hix : dIx (tD t) (.int 2) = .ok (.int t.2.2) := rfl
  have hl : ∀ a b, fLc (iSeq (fArgs F_corners_of [fVar 1])) (setT [setN 2, setN 3]) fTrue (fMeth F_Net_has (fVar 0) [fVar 2, fVar 3]) [2, 3] [some (0, netD n m), some (0, tD t), a, b] = .ok (.list ((cornersI t).map fun p => .bool (decide (In n p)))) := fun a b => by
    refine fLc_of (iseqL (ds := (cornersI t).map pD) ?_) (by rw [corners_cor]; simp) (lcGo_all fun p _ => ⟨_, rfl, ?_⟩)
    · simp [corners_of_is]
    · simp [wipeR, has_is]
  unfold F_is_triangle fnF B_is_triangle
  have ha : ((cornersI t).all fun p => decide (In n p)) = decide (∀ p ∈ cornersI t, In n p) := by
    rw [Bool.eq_iff_iff, List.all_eq_true]
    simp
  simp only [startR, List.map_cons, List.map_nil, List.length_cons, List.length_nil, List.replicate, List.cons_append, List.nil_append]
  by_cases q : t.2.2 = 0 ∨ t.2.2 = 1
  · have e : IsTri n t ↔ ∀ p ∈ cornersI t, In n p := ⟨fun h => h.2, fun h => ⟨q, h⟩⟩
    rw [decide_eq_decide.mpr e]
    simp [hix, dTup, in01, hl, all_map, q, -List.all_eq_true]
    simpa using ha
  · have e : ¬ IsTri n t := fun h => q h.1
    simp [hix, dTup, in01, q, e]
/-- all triangles -/
def allT (n : Nat) : List T3 := (List.range n).flatMap fun x => (List.range n).flatMap fun y => (([0, 1] : List Nat).filter fun k : Nat => x + y + 1 + k ≤ n).map fun k : Nat => ((x : Int), (y : Int), (k : Int))
end Me

/-! HE: floors, sides. -/
namespace Me
open PySem M
/-! ### rising triangles -/
def ltT (a b : T3) : Prop := a.1 < b.1 ∨ (a.1 = b.1 ∧ (a.2.1 < b.2.1 ∨ (a.2.1 = b.2.1 ∧ a.2.2 < b.2.2)))
instance (a b : T3) : Decidable (ltT a b) := by unfold ltT; infer_instance
theorem ltT_trans {a b c : T3} (h : ltT a b) (k : ltT b c) : ltT a c := by unfold ltT at *; omega
theorem ltT_irrefl (a : T3) : ¬ ltT a a := by unfold ltT; omega
theorem dataLt_t (a b : T3) : PySem.W.dataLt (tD a) (tD b) = decide (ltT a b) := by
  obtain ⟨x, y, k⟩ := a
  obtain ⟨x', y', k'⟩ := b
  unfold tD
  have al : ∀ i j : Int, PySem.W.alike (.int i) (.int j) = true := fun i j => by simp [PySem.W.alike]
  rw [PySem.W.dataLt_tuple, PySem.W.dataLt_cons (al _ _), PySem.W.dataLt_cons (al _ _), PySem.W.dataLt_cons (al _ _), PySem.W.dataLt_int, PySem.W.dataLt_int, PySem.W.dataLt_int]
  rw [PyProof.Rows.lex_irrefl]
  simp only [PyData.eqv, beq_iff_eq, ltT]
  by_cases h1 : x = x' <;> by_cases h2 : y = y' <;> by_cases h3 : k = k' <;> simp [h1, h2, h3]
theorem ge_t (a b : T3) : dGe (tD a) (tD b) = .ok (.bool (!decide (ltT a b))) := by
  have e : dGe (tD a) (tD b) = if ordOk (tD a) (tD b) = true then .ok (.bool (!PySem.W.dataLt (tD a) (tD b))) else .bad := rfl
  have o : ordOk (tD a) (tD b) = true := by
    unfold ordOk
    rw [okD_of (lays_t a), okD_of (lays_t b)]
    simp [tD, PySem.W.alike, PySem.W.alikeAll]
  rw [e, if_pos o, dataLt_t]
theorem allT_rising : ∀ n, n ≤ 12 → (allT n).Pairwise ltT := by decide +kernel
theorem allT_tri : ∀ n : Nat, n ≤ 12 → ∀ t ∈ allT n, IsTri n t := by decide +kernel
theorem allT_len : ∀ n : Nat, n ≤ 12 → (allT n).length ≤ 144 := by decide +kernel
/-- a floor of the net of size n -/
def Floor (n : Nat) (L : List T3) : Prop := (∀ t ∈ L, IsTri n t) ∧ L.Pairwise ltT ∧ L.length ≤ 200
theorem floor_all {n : Nat} (h : n ≤ 12) : Floor n (allT n) := ⟨allT_tri n h, allT_rising n h, Nat.le_trans (allT_len n h) (by decide)⟩
theorem Floor.sub {n : Nat} {L L' : List T3} (h : Floor n L) (s : L'.Sublist L) : Floor n L' := ⟨fun t ht => h.1 t (s.subset ht), h.2.1.sublist s, Nat.le_trans s.length_le h.2.2⟩
theorem zip_snd_sub {α : Type} : ∀ (l : List α) (r : List Nat), ((r.zip l).map (·.2)).Sublist l
  | [], r => by simp
  | x :: l, [] => by simp
  | x :: l, i :: r => by
    simp only [List.zip_cons_cons, List.map_cons]
    exact (zip_snd_sub l r).cons₂ x
theorem zip_filter_sub {α : Type} (p : Nat × α → Bool) (l : List α) (r : List Nat) : (((r.zip l).filter p).map (·.2)).Sublist l := by
  exact ((List.filter_sublist).map _).trans (zip_snd_sub l r)
def manys : List Nat := [2, 5, 12]
/-! ### is_floor -/
def FloorOk (n : Nat) (L : List T3) : Prop := ∀ p ∈ (List.range L.length).zip L, IsTri n p.2 ∧ ∀ a, 0 < p.1 → L[p.1 - 1]? = some a → ltT a p.2
open Classical in
theorem is_floor_is (n : Nat) (m : PyData) (L : List T3) : F_is_floor [netD n m, .list (L.map tD)] = .ok (.bool (decide (FloorOk n L))) := by
  have hi : iEnm (fVar 1) [some (0, netD n m), some (0, .list (L.map tD)), none, none] = .ok (((List.range L.length).zip L).map fun p => .tuple [.int (p.1 : Nat), tD p.2]) := by
    rw [enumI (ds := L.map tD) rfl, List.length_map, List.zip_map_right, List.map_map]
    rfl
  have key := sFor_till (set := setT [setN 2, setN 3]) (o := .ret (.bool false))
    (body := sIf (fOr (fNot (fArgs F_is_triangle [fVar 0, fVar 3])) (fAnd (fBin dGt (fVar 2) (fC (.int 0))) (fBin dGe (fBin dIx (fVar 1) (fBin dSub (fVar 2) (fC (.int 1)))) (fVar 3)))) (sRet (fC (.bool false))) fNext)
    (fun _ ρ => ∃ a b, ρ = [some (0, netD n m), some (0, .list (L.map tD)), a, b]) (fun p => ¬ (IsTri n p.2 ∧ ∀ a, 0 < p.1 → L[p.1 - 1]? = some a → ltT a p.2)) hi ⟨none, none, rfl⟩ (fun _ => ⟨by simp, by simp, by simp⟩) (by
    rintro pre ⟨k, t⟩ post ρ e ⟨a, b, rfl⟩
    have hm : (k, t) ∈ (List.range L.length).zip L := by rw [e]; simp
    have hk := List.mem_range.mp (List.of_mem_zip hm).1
    have ht : (fOr (fNot (fArgs F_is_triangle [fVar 0, fVar 3])) (fAnd (fBin dGt (fVar 2) (fC (.int 0))) (fBin dGe (fBin dIx (fVar 1) (fBin dSub (fVar 2) (fC (.int 1)))) (fVar 3))))
        (frz [some (0, netD n m), some (0, .list (L.map tD)), some (0, .int k), some (0, tD t)]) = .ok (.bool (decide ¬ (IsTri n t ∧ ∀ a, 0 < k → L[k - 1]? = some a → ltT a t))) := by
      by_cases q : IsTri n t
      · by_cases q2 : 0 < k
        · have hk2 : k - 1 < L.length := by omega
          have e3 : ((k : Int) - 1) = ((k - 1 : Nat) : Int) := by omega
          have hix : dIx (.list (L.map tD)) (.int ((k : Int) - 1)) = .ok (tD (L[k - 1])) := by
            rw [e3]
            exact ix_list (by simp [hk2])
          have e4 : (∀ a, 0 < k → L[k - 1]? = some a → ltT a t) ↔ ltT L[k - 1] t := ⟨fun h => h _ q2 (List.getElem?_eq_getElem hk2), fun h a _ ha => by rw [List.getElem?_eq_getElem hk2] at ha; cases ha; exact h⟩
          simp only [e4]
          simp [is_triangle_is, q, q2, hix, ge_t]
        · simp [is_triangle_is, q, q2]
      · simp [is_triangle_is, q]
    exact till_if ht rfl fun _ => ⟨_, _, rfl⟩)
  rcases key with ⟨⟨t, ht, hp⟩, hk⟩ | ⟨hno, ρ', hk, a, b, rfl⟩
  · have hR : ¬ FloorOk n L := fun z => hp (z t ht)
    unfold F_is_floor fnF B_is_floor
    simp [startR, hk, hR]
  · have hR : FloorOk n L := fun p hp => Classical.not_not.mp (hno p hp)
    unfold F_is_floor fnF B_is_floor
    simp [startR, hk, hR]
theorem floor_ok {n : Nat} {L : List T3} (h : Floor n L) : FloorOk n L := by
  rintro ⟨k, t⟩ hp
  obtain ⟨i, hi, e⟩ := List.mem_iff_getElem.mp hp
  simp at hi
  rw [List.getElem_zip] at e
  simp at e
  obtain ⟨rfl, rfl⟩ := e
  refine ⟨h.1 _ (List.getElem_mem _), fun a h0 ha => ?_⟩
  obtain ⟨h1, rfl⟩ := List.getElem?_eq_some_iff.mp ha
  exact List.pairwise_iff_getElem.mp h.2.1 _ _ h1 hi (by dsimp only at h0; omega)
open Classical in
theorem check_floor_is (n : Nat) (m : PyData) (L : List T3) : F_check_floor [netD n m, .list (L.map tD)] = if FloorOk n L then .ok .none else .ex 3 := by
  unfold F_check_floor fnF B_check_floor
  by_cases q : FloorOk n L <;> simp [startR, is_floor_is, q]
end Me

/-! HF: sides and borders. -/
namespace Me
open PySem M
abbrev S3 := T3 × Nat
def sd (e : S3) : P2 × P2 := (cor e.1 e.2, cor e.1 ((e.2 + 1) % 3))
def rv (s : P2 × P2) : P2 × P2 := (s.2, s.1)
theorem ix3_0 (a b c : PyData) : dIx (.list [a, b, c]) (.int 0) = .ok a := rfl
theorem ix3_1 (a b c : PyData) : dIx (.list [a, b, c]) (.int 1) = .ok b := rfl
theorem ix3_2 (a b c : PyData) : dIx (.list [a, b, c]) (.int 2) = .ok c := rfl
theorem lt3 {k : Nat} (h : k < 3) : k = 0 ∨ k = 1 ∨ k = 2 := by omega
theorem side_is (t : T3) (k : Nat) (h : k < 3) : F_side [tD t, .int k] = .ok (sD (sd (t, k))) := by
  unfold F_side fnF B_side
  rcases lt3 h with rfl | rfl | rfl <;> simp [startR, corners_of_is, corners_cor, ix3_0, ix3_1, ix3_2, dTup, sD, sd]
theorem rng3 (ρ : Rho) : iRng [fC (.int 3)] ρ = .ok (([0, 1, 2] : List Nat).map fun k : Nat => .int k) := rfl
/-- all sides of a floor, in order -/
def sidesOf (L : List T3) : List S3 := L.flatMap fun t => ([0, 1, 2] : List Nat).map fun k => (t, k)
theorem sidesOf_snoc (L : List T3) (t : T3) : sidesOf (L ++ [t]) = sidesOf L ++ ([0, 1, 2] : List Nat).map fun k => (t, k) := by
  unfold sidesOf
  rw [List.flatMap_append]
  simp
theorem mem_sides {L : List T3} {e : S3} : e ∈ sidesOf L ↔ e.1 ∈ L ∧ e.2 < 3 := by
  obtain ⟨t, k⟩ := e
  unfold sidesOf
  simp only [List.mem_flatMap, List.mem_map, List.mem_cons, List.not_mem_nil, or_false, Prod.mk.injEq]
  constructor
  · rintro ⟨u, hu, j, hj, rfl, rfl⟩
    exact ⟨hu, by omega⟩
  · rintro ⟨hu, hk⟩
    exact ⟨t, hu, k, by omega, rfl, rfl⟩
theorem sides_len (L : List T3) : (sidesOf L).length = 3 * L.length := by
  unfold sidesOf
  induction L with
  | nil => rfl
  | cons t L ih =>
    rw [List.flatMap_cons, List.length_append, ih]
    simp
    omega
/-- what a dict of sides knows -/
def Good (S : List S3) (m : List ((P2 × P2) × S3)) : Prop := (∀ s e, lk m s = some e → e ∈ S ∧ sd e = s) ∧ (∀ e ∈ S, (lk m (sd e)).isSome = true) ∧ m.length ≤ S.length
theorem Good.put {S : List S3} {m : List ((P2 × P2) × S3)} (h : Good S m) (e : S3) : Good (S ++ [e]) (put m (sd e) e) := by
  refine ⟨fun s e' q => ?_, fun e' he => ?_, ?_⟩
  · rw [lk_put] at q
    split at q
    · rename_i hs
      cases q
      exact ⟨by simp, hs⟩
    · obtain ⟨h1, h2⟩ := h.1 s e' q
      exact ⟨by simp [h1], h2⟩
  · rw [lk_put]
    split
    · rfl
    · rcases List.mem_append.mp he with z | z
      · exact h.2.1 e' z
      · simp at z
        subst z
        rename_i hs
        exact absurd rfl hs
  · rw [List.length_append]
    exact Nat.le_trans (put_len _ _ _) (Nat.succ_le_succ h.2.2)
@[simp] theorem r_dput (i : Nat) (fk f : FE) (ρ : Rho) : sDput i fk f ρ = match ρ[i]? with
  | some (some (k, .dict kvs)) => if k = 1 ∧ kvs.length < 1000000 ∧ tupKeys kvs = true then withE (f ρ) ρ fun d => withE (fk ρ) ρ fun z => (match keyOk z with
      | some nk => .nx (ρ.set i (some (1, .dict (dPut kvs z nk d))))
      | none => .bad) else .bad
  | _ => .bad := rfl
theorem kv_len {α β : Type} {g : α → PyData} {h : β → PyData} (m : List (α × β)) : (kv g h m).length = m.length := by unfold kv; simp
theorem newD_eq (ρ : Rho) : fNewD ρ = .ok (.dict (kv sD eD [])) := rfl
theorem sides_by_is (L : List T3) (hL : L.length ≤ 1000) : ∃ m, Good (sidesOf L) m ∧ F_sides_by_places [.list (L.map tD)] = .ok (.dict (kv sD eD m)) := by
  obtain ⟨ρ', hk, a, b, m, rfl, hm⟩ := sFor_nx (set := setN 2) (g := tD) (L := L) (fi := iSeq (fVar 0)) (ρ := [some (0, .list (L.map tD)), some (1, .dict (kv sD eD [])), none, none])
    (body := sFor (iRng [fC (.int 3)]) (setN 3) (sDput 1 (fArgs F_side [fVar 2, fVar 3]) (fArgs dTup [fVar 2, fVar 3])))
    (fun pre ρ => ∃ a b m, ρ = [some (0, .list (L.map tD)), some (1, .dict (kv sD eD m)), a, b] ∧ Good (sidesOf pre) m) (iseqL rfl) ⟨none, none, [], rfl, (fun s e q => nomatch q), (fun e he => nomatch he), Nat.le_refl _⟩ (by
    rintro pre t post ρ e ⟨a, b, m, rfl, hm⟩
    have hpl : pre.length < 1000 := by
      have := congrArg List.length e
      simp at this
      omega
    obtain ⟨ρ2, hk2, b2, m2, rfl, hm2⟩ := sFor_nx (set := setN 3) (g := fun k : Nat => PyData.int k) (L := ([0, 1, 2] : List Nat)) (fi := iRng [fC (.int 3)]) (ρ := [some (0, .list (L.map tD)), some (1, .dict (kv sD eD m)), some (0, tD t), b])
      (body := sDput 1 (fArgs F_side [fVar 2, fVar 3]) (fArgs dTup [fVar 2, fVar 3]))
      (fun pr ρ => ∃ b m, ρ = [some (0, .list (L.map tD)), some (1, .dict (kv sD eD m)), some (0, tD t), b] ∧ Good (sidesOf pre ++ pr.map fun k => (t, k)) m) (rng3 _) ⟨b, m, rfl, by simpa using hm⟩ (by
      rintro pr k ps ρ e2 ⟨b, m, rfl, hm⟩
      have hk3 : k < 3 := by
        have : k ∈ ([0, 1, 2] : List Nat) := by rw [e2]; simp
        simp at this
        omega
      have hl : (kv sD eD m).length < 1000000 := by
        have h1 := hm.2.2
        have h2 := congrArg List.length e2
        rw [List.length_append, sides_len] at h1
        simp at h1 h2
        rw [kv_len]
        omega
      have hp := hm.put (t, k)
      simp [side_is t k hk3, hl, tupKeys_kv enc_side, dTup, enc_side.ok]
      rw [show PyData.tuple [tD t, .int (k : Int)] = eD (t, k) from rfl, put_kv enc_side]
      exact ⟨_, _, ⟨rfl, rfl⟩, by simpa using hp⟩)
    show afterN (sFor _ _ _ [some (0, .list (L.map tD)), some (1, .dict (kv sD eD m)), some (0, tD t), b]) _
    rw [hk2]
    exact ⟨_, _, _, rfl, by rw [sidesOf_snoc]; exact hm2⟩)
  refine ⟨m, hm, ?_⟩
  unfold F_sides_by_places fnF B_sides_by_places
  simp only [startR, List.map_cons, List.map_nil, List.length_cons, List.length_nil, List.replicate, List.cons_append, List.nil_append]
  simp [newD_eq, hk]
theorem notin_kv (m : List ((P2 × P2) × S3)) (s : P2 × P2) : dNotIn (sD s) (.dict (kv sD eD m)) = .ok (.bool (lk m s).isNone) := by
  unfold dNotIn
  rw [in_kv enc_side]
  cases lk m s <;> rfl
/-- the border, by what is known -/
def bord (L : List T3) (m : List ((P2 × P2) × S3)) : List S3 := (sidesOf L).filter fun e => (lk m (rv (sd e))).isNone
theorem sD_rv (s : P2 × P2) : PyData.tuple [pD s.2, pD s.1] = sD (rv s) := rfl
theorem border_sides_is (L : List T3) (m : List ((P2 × P2) × S3)) (hL : L.length ≤ 1000) : F_border_sides [.list (L.map tD), .dict (kv sD eD m)] = .ok (.list ((bord L m).map eD)) := by
  obtain ⟨ρ', hk, a, b, c, d, rfl⟩ := sFor_nx (set := setN 3) (g := tD) (L := L) (fi := iSeq (fVar 0)) (ρ := [some (0, .list (L.map tD)), some (0, .dict (kv sD eD m)), some (1, .list []), none, none, none, none])
    (body := sFor (iRng [fC (.int 3)]) (setN 4) (seqF' (sAsg (setT [setN 5, setN 6]) (fArgs F_side [fVar 3, fVar 4])) (sIf (fBin dNotIn (fArgs dTup [fVar 6, fVar 5]) (fVar 1)) (sAppend 2 0 (fArgs dTup [fVar 3, fVar 4])) fNext)))
    (fun pre ρ => ∃ a b c d, ρ = [some (0, .list (L.map tD)), some (0, .dict (kv sD eD m)), some (1, .list ((bord pre m).map eD)), a, b, c, d]) (iseqL rfl) ⟨none, none, none, none, rfl⟩ (by
    rintro pre t post ρ e ⟨a, b, c, d, rfl⟩
    have hpl : pre.length < 1000 := by
      have := congrArg List.length e
      simp at this
      omega
    obtain ⟨ρ2, hk2, b2, c2, d2, rfl⟩ := sFor_nx (set := setN 4) (g := fun k : Nat => PyData.int k) (L := ([0, 1, 2] : List Nat)) (fi := iRng [fC (.int 3)]) (ρ := [some (0, .list (L.map tD)), some (0, .dict (kv sD eD m)), some (1, .list ((bord pre m).map eD)), some (0, tD t), b, c, d])
      (body := seqF' (sAsg (setT [setN 5, setN 6]) (fArgs F_side [fVar 3, fVar 4])) (sIf (fBin dNotIn (fArgs dTup [fVar 6, fVar 5]) (fVar 1)) (sAppend 2 0 (fArgs dTup [fVar 3, fVar 4])) fNext))
      (fun pr ρ => ∃ b c d, ρ = [some (0, .list (L.map tD)), some (0, .dict (kv sD eD m)), some (1, .list ((bord pre m ++ (pr.map fun k => (t, k)).filter fun e => (lk m (rv (sd e))).isNone).map eD)), some (0, tD t), b, c, d]) (rng3 _) ⟨b, c, d, by simp⟩ (by
      rintro pr k ps ρ e2 ⟨b, c, d, rfl⟩
      have hk3 : k < 3 := by
        have : k ∈ ([0, 1, 2] : List Nat) := by rw [e2]; simp
        simp at this
        omega
      have hl : (((bord pre m ++ (pr.map fun k => (t, k)).filter fun e => (lk m (rv (sd e))).isNone).map eD)).length < 1000000 := by
        have h1 : (bord pre m).length ≤ 3 * pre.length := by rw [← sides_len]; exact List.length_filter_le _ _
        have h2 := congrArg List.length e2
        have h3 : ((pr.map fun k => (t, k)).filter fun e => (lk m (rv (sd e))).isNone).length ≤ pr.length := by
          have := List.length_filter_le (fun e => (lk m (rv (sd e))).isNone) (pr.map fun k => (t, k))
          simpa using this
        rw [List.length_map, List.length_append]
        simp at h2
        omega
      have hside : sD (sd (t, k)) = .tuple [pD (sd (t, k)).1, pD (sd (t, k)).2] := rfl
      have es : ((bord pre m ++ ((pr ++ [k]).map fun k => (t, k)).filter fun e => (lk m (rv (sd e))).isNone).map eD) = ((bord pre m ++ (pr.map fun k => (t, k)).filter fun e => (lk m (rv (sd e))).isNone).map eD) ++ (if (lk m (rv (sd (t, k)))).isNone then [eD (t, k)] else []) := by
        rw [List.map_append, List.map_append, List.map_append, List.filter_append, List.map_append, List.append_assoc]
        congr 2
        cases q : lk m (rv (sd (t, k))) <;> simp [q]
      rw [es]
      generalize ((bord pre m ++ (pr.map fun k => (t, k)).filter fun e => (lk m (rv (sd e))).isNone).map eD) = S0 at hl ⊢
      simp [side_is t k hk3, hside, dTup, sD_rv, notin_kv, hl]
      cases q : lk m (rv (sd (t, k))) <;> simp [eD])
    show afterN (sFor _ _ _ [some (0, .list (L.map tD)), some (0, .dict (kv sD eD m)), some (1, .list ((bord pre m).map eD)), some (0, tD t), b, c, d]) _
    rw [hk2]
    have eb : bord (pre ++ [t]) m = bord pre m ++ (([0, 1, 2] : List Nat).map fun k => (t, k)).filter fun e => (lk m (rv (sd e))).isNone := by
      unfold bord
      rw [sidesOf_snoc, List.filter_append]
    exact ⟨some (0, tD t), b2, c2, d2, by rw [eb]⟩)
  unfold F_border_sides fnF B_border_sides
  simp only [startR, List.map_cons, List.map_nil, List.length_cons, List.length_nil, List.replicate, List.cons_append, List.nil_append]
  simp [hk]
end Me

/-! HG: the border as the law counts it. -/
namespace Me
open PySem M
theorem mergeSort_pair {α : Type} (le : α → α → Bool) (a b : α) : [a, b].mergeSort le = if le a b = true then [a, b] else [b, a] := by
  rw [List.mergeSort]
  simp [List.MergeSort.Internal.splitInTwo, List.merge]
def lt2 (a b : P2) : Prop := a.1 < b.1 ∨ (a.1 = b.1 ∧ a.2 < b.2)
instance (a b : P2) : Decidable (lt2 a b) := by unfold lt2; infer_instance
def srt (s : P2 × P2) : P2 × P2 := if lt2 s.2 s.1 then rv s else s
theorem srt_rv (s : P2 × P2) : srt (rv s) = srt s := by
  obtain ⟨⟨a, b⟩, c, d⟩ := s
  unfold srt rv lt2
  by_cases h1 : (c < a ∨ (c = a ∧ d < b)) <;> by_cases h2 : (a < c ∨ (a = c ∧ b < d)) <;> simp [h1, h2] <;> omega
theorem srt_or (s : P2 × P2) : srt s = s ∨ srt s = rv s := by
  unfold srt
  split
  · exact .inr rfl
  · exact .inl rfl
theorem srt_iff (s t : P2 × P2) : srt t = srt s ↔ t = s ∨ t = rv s := by
  constructor
  · intro h
    have rr : ∀ s : P2 × P2, rv (rv s) = s := fun s => rfl
    rcases srt_or s with q | q <;> rcases srt_or t with z | z <;> rw [q, z] at h
    · exact .inl h
    · exact .inr (by rw [← h]; rfl)
    · exact .inr h
    · exact .inl (by rw [← rr t, h]; rfl)
  · rintro (rfl | rfl)
    · rfl
    · exact srt_rv s
theorem sort_side (s : P2 × P2) : dSortedT (sD s) = .ok (.list [pD (srt s).1, pD (srt s).2]) := by
  have e : dSortedT (sD s) = if sortOk [pD s.1, pD s.2] = true ∧ [pD s.1, pD s.2].length ≤ 1000 then .ok (.list ([pD s.1, pD s.2].mergeSort (PySem.W.dataLe false fun x => x))) else .bad := rfl
  have o : sortOk [pD s.1, pD s.2] = true := by
    unfold sortOk
    simp only [List.all_cons, List.all_nil, okD_of (lays_p s.1), okD_of (lays_p s.2)]
    simp [pD, PySem.W.alike, PySem.W.alikeAll, tupNE]
  rw [e, if_pos ⟨o, by simp⟩, mergeSort_pair]
  have le : PySem.W.dataLe false (fun x => x) (pD s.1) (pD s.2) = !decide (lt2 s.2 s.1) := by
    rw [PySem.W.dataLe_eq]
    show (!PySem.W.dataLt (pD s.2) (pD s.1)) = _
    unfold pD
    rw [PySem.W.dataLt_ii]
    rfl
  rw [le]
  unfold srt
  by_cases q : lt2 s.2 s.1 <;> simp [q, rv]
/-! ### counts -/
def cnt (S : List S3) (s : P2 × P2) : Nat := S.countP fun e => decide (srt (sd e) = s)
def nD (n : Nat) : PyData := .int n
def Cnt (S : List S3) (m : List ((P2 × P2) × Nat)) : Prop := (∀ s, lk m s = if cnt S s = 0 then none else some (cnt S s)) ∧ m.length ≤ S.length
theorem Cnt.put {S : List S3} {m : List ((P2 × P2) × Nat)} (h : Cnt S m) (e : S3) : Cnt (S ++ [e]) (put m (srt (sd e)) (cnt S (srt (sd e)) + 1)) := by
  refine ⟨fun s => ?_, ?_⟩
  · rw [lk_put]
    have ec : cnt (S ++ [e]) s = cnt S s + if srt (sd e) = s then 1 else 0 := by
      unfold cnt
      rw [List.countP_append]
      congr 1
      by_cases q : srt (sd e) = s <;> simp [q]
    by_cases q : srt (sd e) = s
    · rw [if_pos q, ec, if_pos q, if_neg (Nat.succ_ne_zero _), q]
    · rw [if_neg q, ec, if_neg q, Nat.add_zero, h.1]
  · rw [List.length_append]
    exact Nat.le_trans (put_len _ _ _) (Nat.succ_le_succ h.2)
@[simp] theorem r_dputB (i : Nat) (fk f : FE) (ρ : Rho) : sDputB i fk f ρ = match ρ[i]? with
  | some (some (k, .dict kvs)) => if k = 1 ∧ kvs.length < 1000000 ∧ tupKeys kvs = true then withE (f (frz ρ)) ρ fun d => if scalD d = true then withE (fk ρ) ρ fun z => (match keyOk z with
      | some nk => .nx (ρ.set i (some (1, .dict (dPut kvs z nk d))))
      | none => .bad) else .bad else .bad
  | _ => .bad := rfl
@[simp] theorem r_get (f : FE) (fs : List FE) (ρ : Rho) : fGet f fs ρ = (f ρ).bind fun d => (match d with
  | .dict kvs => if tupKeys kvs = true then (match evA fs ρ with
    | .ok [k, x] => dGet kvs k x
    | _ => .bad) else .bad
  | _ => .bad) := rfl
theorem newD_eq2 (ρ : Rho) : fNewD ρ = .ok (.dict (kv sD nD [])) := rfl
theorem nat_add1 (n : Nat) : dAdd (nD n) (.int 1) = .ok (nD (n + 1)) := rfl
theorem scal_n (n : Nat) : scalD (nD n) = true := rfl
/-- what the law counts as the border -/
def lbord (S : List S3) (L : List T3) : List S3 := (sidesOf L).filter fun e => decide (cnt S (srt (sd e)) = 1)
/-! ### the two are one -/
theorem one_of {α : Type} : ∀ {l : List α} {e : α}, l.Nodup → e ∈ l → (l.length = 1 ↔ ∀ x ∈ l, x = e)
  | [], _, _, h => nomatch h
  | [a], e, _, h => by
    simp at h ⊢
    exact h.symm
  | a :: b :: l, e, nd, h => by
    simp only [List.length_cons]
    refine ⟨fun z => by omega, fun z => ?_⟩
    have h1 := z a (by simp)
    have h2 := z b (by simp)
    rw [List.nodup_cons] at nd
    exact absurd (by rw [h1, ← h2]; simp) nd.1
theorem kind_of {n : Nat} {L : List T3} (h : Floor n L) : ∀ t ∈ L, t.2.2 = 0 ∨ t.2.2 = 1 := fun t ht => (h.1 t ht).1
theorem sd_inj {e e' : S3} (h1 : e.1.2.2 = 0 ∨ e.1.2.2 = 1) (h2 : e'.1.2.2 = 0 ∨ e'.1.2.2 = 1) (k1 : e.2 < 3) (k2 : e'.2 < 3) (h : sd e = sd e') : e = e' := by
  obtain ⟨⟨x, y, k⟩, i⟩ := e
  obtain ⟨⟨x', y', k'⟩, i'⟩ := e'
  dsimp only at h1 h2 k1 k2
  rcases h1 with rfl | rfl <;> rcases h2 with rfl | rfl <;> rcases lt3 k1 with rfl | rfl | rfl <;> rcases lt3 k2 with rfl | rfl | rfl <;> simp [sd, cor] at h ⊢ <;> omega
theorem sd_rv_ne {e : S3} (k1 : e.2 < 3) : rv (sd e) ≠ sd e := by
  obtain ⟨⟨x, y, k⟩, i⟩ := e
  dsimp only at k1
  by_cases q : k = 0 <;> rcases lt3 k1 with rfl | rfl | rfl <;> simp [sd, cor, rv, q] <;> omega
theorem sides_nodup {L : List T3} (h : L.Nodup) : (sidesOf L).Nodup := by
  unfold sidesOf
  induction L with
  | nil => exact List.nodup_nil
  | cons t L ih =>
    obtain ⟨h1, h2⟩ := List.nodup_cons.mp h
    rw [List.flatMap_cons, nodup_app]
    refine ⟨by simp, ih h2, fun a ha hb => ?_⟩
    have hb' := (mem_sides (L := L)).mp hb
    obtain ⟨k, _, rfl⟩ := List.mem_map.mp ha
    exact h1 hb'.1
theorem Floor.nodup {n : Nat} {L : List T3} (h : Floor n L) : L.Nodup := List.Pairwise.imp (fun {a b} hab (e : a = b) => ltT_irrefl b (by rw [e] at hab; exact hab)) h.2.1
theorem cnt_one {n : Nat} {L : List T3} (h : Floor n L) {e : S3} (he : e ∈ sidesOf L) : cnt (sidesOf L) (srt (sd e)) = 1 ↔ ∀ e' ∈ sidesOf L, sd e' ≠ rv (sd e) := by
  have hk := kind_of h
  obtain ⟨he1, he2⟩ := mem_sides.mp he
  have nd : ((sidesOf L).filter fun x => decide (srt (sd x) = srt (sd e))).Nodup := (sides_nodup h.nodup).filter _
  have hm : e ∈ (sidesOf L).filter fun x => decide (srt (sd x) = srt (sd e)) := List.mem_filter.mpr ⟨he, by simp⟩
  unfold cnt
  rw [List.countP_eq_length_filter, one_of nd hm]
  constructor
  · intro z e' he' q
    have := z e' (List.mem_filter.mpr ⟨he', by simp [srt_iff, q]⟩)
    rw [this] at q
    exact sd_rv_ne he2 q.symm
  · intro z x hx
    obtain ⟨hx1, hx2⟩ := List.mem_filter.mp hx
    obtain ⟨hx3, hx4⟩ := mem_sides.mp hx1
    rcases (srt_iff _ _).mp (of_decide_eq_true hx2) with q | q
    · exact sd_inj (hk _ hx3) (hk _ he1) hx4 he2 q
    · exact absurd q (z x hx1)
theorem Good.none_iff {S : List S3} {m : List ((P2 × P2) × S3)} (h : Good S m) (s : P2 × P2) : lk m s = none ↔ ∀ e ∈ S, sd e ≠ s := by
  constructor
  · intro q e he z
    have := h.2.1 e he
    rw [z, q] at this
    cases this
  · intro q
    cases z : lk m s with
    | none => rfl
    | some e =>
      obtain ⟨h1, h2⟩ := h.1 s e z
      exact absurd h2 (q e h1)
theorem bord_eq {n : Nat} {L : List T3} (h : Floor n L) {m : List ((P2 × P2) × S3)} (hm : Good (sidesOf L) m) : bord L m = lbord (sidesOf L) L := by
  unfold bord lbord
  apply List.filter_congr
  intro e he
  have h1 := cnt_one h he
  have h2 := hm.none_iff (rv (sd e))
  rw [Bool.eq_iff_iff, Option.isNone_iff_eq_none, decide_eq_true_iff, h1, h2]
/-- the border, of the program and of the law -/
theorem border_is {n : Nat} {L : List T3} (h : Floor n L) (m : PyData) : F_border [netD n m, .list (L.map tD)] = .ok (.list ((lbord (sidesOf L) L).map eD)) := by
  obtain ⟨k, hk, e⟩ := sides_by_is L (Nat.le_trans h.2.2 (by decide))
  have hc := check_floor_is n m L
  rw [if_pos (floor_ok h)] at hc
  unfold F_border fnF B_border
  simp [startR, hc, e, border_sides_is L k (Nat.le_trans h.2.2 (by decide)), bord_eq h hk]
end Me

/-! HS: senses and turns. -/
namespace Me
open PySem M
def mv (Mf : Nat → Nat → Int) (p : P2) : Int := Mf p.1.toNat p.2.toNat
theorem read1 {n : Nat} (Mf : Nat → Nat → Int) {p : P2} (h : In n p) : dIx (marksD n Mf) (.int p.2) = .ok (rowD n Mf p.2.toNat) := by
  obtain ⟨h1, h2, h3⟩ := h
  have e : p.2 = ((p.2.toNat : Nat) : Int) := by omega
  rw [show (PyData.int p.2) = .int ((p.2.toNat : Nat) : Int) by rw [← e]]
  have hlt : p.2.toNat < n + 1 := by omega
  exact ix_list (by simp [hlt])
theorem read2 {n : Nat} (Mf : Nat → Nat → Int) {p : P2} (h : In n p) : dIx (rowD n Mf p.2.toNat) (.int p.1) = .ok (.int (mv Mf p)) := by
  obtain ⟨h1, h2, h3⟩ := h
  have e : p.1 = ((p.1.toNat : Nat) : Int) := by omega
  rw [show (PyData.int p.1) = .int ((p.1.toNat : Nat) : Int) by rw [← e]]
  have hlt : p.1.toNat < n - p.2.toNat + 1 := by omega
  exact ix_list (by simp [hlt, mv])
theorem tri_in {n : Int} {t : T3} (h : IsTri n t) : In n (cor t 0) ∧ In n (cor t 1) ∧ In n (cor t 2) := by
  have := h.2
  rw [corners_cor] at this
  exact ⟨this _ (by simp), this _ (by simp), this _ (by simp)⟩
theorem sd_in {n : Int} {t : T3} (h : IsTri n t) {k : Nat} (hk : k < 3) : In n (sd (t, k)).1 ∧ In n (sd (t, k)).2 := by
  obtain ⟨h0, h1, h2⟩ := tri_in h
  rcases lt3 hk with rfl | rfl | rfl
  · exact ⟨h0, h1⟩
  · exact ⟨h1, h2⟩
  · exact ⟨h2, by simpa [sd] using h0⟩
theorem corners_is (n : Int) (m : PyData) (t : T3) : F_corners [netD n m, tD t] = if IsTri n t then .ok (.list ((cornersI t).map pD)) else .ex 2 := by
  unfold F_corners fnF B_corners
  by_cases q : IsTri n t <;> simp [startR, is_triangle_is, q, corners_of_is]
def senseI (a b c : Int) : Int := if (b - a) % 3 = 1 ∧ (c - b) % 3 = 1 then 1 else if (b - a) % 3 = 2 ∧ (c - b) % 3 = 2 then -1 else 0
def turnI (a b : Int) : Int := if a = 0 ∧ b = 1 then 1 else if a = 1 ∧ b = 0 then -1 else 0
def sv (Mf : Nat → Nat → Int) (t : T3) : Int := senseI (mv Mf (cor t 0)) (mv Mf (cor t 1)) (mv Mf (cor t 2))
def tv (Mf : Nat → Nat → Int) (e : S3) : Int := turnI (mv Mf (sd e).1) (mv Mf (sd e).2)
theorem sense_is {n : Nat} (Mf : Nat → Nat → Int) {t : T3} (h : IsTri n t) : F_sense [netD n (marksD n Mf), tD t] = .ok (.int (sv Mf t)) := by
  obtain ⟨h0, h1, h2⟩ := tri_in h
  have hl : fLc (iSeq (fArgs F_corners [(fVar 0), (fVar 1)])) (setT [(setN 5), (setN 6)]) fTrue (fBin dIx (fBin dIx (fUn dMarks (fVar 0)) (fVar 6)) (fVar 5)) [5, 6]
      [some (0, netD n (marksD n Mf)), some (0, tD t), none, none, none, none, none] = .ok (.list ([cor t 0, cor t 1, cor t 2].map fun p => .int (mv Mf p))) := by
    refine fLc_of (iseqL (ds := [cor t 0, cor t 1, cor t 2].map pD) (by simp [corners_is, h, corners_cor])) (by simp) (lcGo_all fun p hp => ⟨_, rfl, ?_⟩)
    have hin : In n p := by
      simp at hp
      rcases hp with rfl | rfl | rfl
      · exact h0
      · exact h1
      · exact h2
    simp [wipeR, read1 Mf hin, read2 Mf hin]
  unfold F_sense fnF B_sense sv senseI
  generalize mv Mf = f at *
  simp only [startR, List.map_cons, List.map_nil, List.length_cons, List.length_nil, List.replicate, List.cons_append, List.nil_append] at hl ⊢
  simp only [r_seq, r_asg, hl, r_withE_ok, r_setU, r_setL, r_setN, r_setL0]
  by_cases q1 : (f (cor t 1) - f (cor t 0)) % 3 = 1 <;> by_cases q2 : (f (cor t 2) - f (cor t 1)) % 3 = 1 <;> by_cases q3 : (f (cor t 1) - f (cor t 0)) % 3 = 2 <;> by_cases q4 : (f (cor t 2) - f (cor t 1)) % 3 = 2 <;> simp [q1, q2, q3, q4] <;> omega
theorem turn_is {n : Nat} (Mf : Nat → Nat → Int) {t : T3} (h : IsTri n t) {k : Nat} (hk : k < 3) : F_turn_of [netD n (marksD n Mf), tD t, .int k] = .ok (.int (tv Mf (t, k))) := by
  obtain ⟨h0, h1⟩ := sd_in h hk
  have hl : fLc (iSeq (fArgs F_side [(fVar 1), (fVar 2)])) (setT [(setN 5), (setN 6)]) fTrue (fBin dIx (fBin dIx (fUn dMarks (fVar 0)) (fVar 6)) (fVar 5)) [5, 6]
      [some (0, netD n (marksD n Mf)), some (0, tD t), some (0, .int k), none, none, none, none] = .ok (.list ([(sd (t, k)).1, (sd (t, k)).2].map fun p => .int (mv Mf p))) := by
    refine fLc_of (iseqT (ds := [(sd (t, k)).1, (sd (t, k)).2].map pD) (by simp [side_is t k hk, sD])) (by simp) (lcGo_all fun p hp => ⟨_, rfl, ?_⟩)
    have hin : In n p := by
      simp at hp
      rcases hp with rfl | rfl
      · exact h0
      · exact h1
    simp [wipeR, read1 Mf hin, read2 Mf hin]
  unfold F_turn_of fnF B_turn_of tv turnI
  generalize mv Mf = f at *
  simp only [startR, List.map_cons, List.map_nil, List.length_cons, List.length_nil, List.replicate, List.cons_append, List.nil_append] at hl ⊢
  simp only [r_seq, r_asg, hl, r_withE_ok, r_setU, r_setL, r_setN, r_setL0]
  by_cases q1 : f (sd (t, k)).1 = 0 <;> by_cases q2 : f (sd (t, k)).2 = 1 <;> by_cases q3 : f (sd (t, k)).1 = 1 <;> by_cases q4 : f (sd (t, k)).2 = 0 <;> simp [q1, q2, q3, q4] <;> omega
/-! the law's own -/
def MOk (n : Nat) (Mf : Nat → Nat → Int) : Prop := ∀ x y, x + y ≤ n → 0 ≤ Mf x y ∧ Mf x y ≤ 2
theorem mv_ok {n : Nat} {Mf : Nat → Nat → Int} (hM : MOk n Mf) {p : P2} (h : In n p) : mv Mf p = 0 ∨ mv Mf p = 1 ∨ mv Mf p = 2 := by
  obtain ⟨h1, h2, h3⟩ := h
  have := hM p.1.toNat p.2.toNat (by omega)
  unfold mv
  omega
/-! ### sums -/
theorem senses_is {n : Nat} (Mf : Nat → Nat → Int) {L : List T3} (h : Floor n L) : F_senses [netD n (marksD n Mf), .list (L.map tD)] = .ok (.int (L.map (sv Mf)).sum) := by
  have hc := check_floor_is n (marksD n Mf) L
  rw [if_pos (floor_ok h)] at hc
  have hl : fLc (iSeq (fVar 1)) (setN 2) fTrue (fArgs F_sense [(fVar 0), (fVar 2)]) [2] [some (0, netD n (marksD n Mf)), some (0, .list (L.map tD)), none] = .ok (.list (L.map fun t => .int (sv Mf t))) := by
    refine fLc_of (iseqL rfl) (by have := h.2.2; simp; omega) (lcGo_all fun t ht => ⟨_, rfl, ?_⟩)
    simp [wipeR, sense_is Mf (h.1 t ht)]
  unfold F_senses fnF B_senses
  simp [startR, hc, hl, sum_map]
theorem lbord_sub {L : List T3} {e : S3} (h : e ∈ lbord (sidesOf L) L) : e.1 ∈ L ∧ e.2 < 3 := mem_sides.mp (List.mem_filter.mp h).1
theorem lbord_len {n : Nat} {L : List T3} (h : Floor n L) : (lbord (sidesOf L) L).length ≤ 600 := by
  have h3 : (lbord (sidesOf L) L).length ≤ (sidesOf L).length := List.length_filter_le _ _
  have h4 := h.2.2
  rw [sides_len] at h3
  omega
theorem turns_is {n : Nat} (Mf : Nat → Nat → Int) {L : List T3} (h : Floor n L) : F_turns [netD n (marksD n Mf), .list (L.map tD)] = .ok (.int ((lbord (sidesOf L) L).map (tv Mf)).sum) := by
  have hb := border_is h (marksD n Mf)
  have hl : fLc (iSeq (fArgs F_border [(fVar 0), (fVar 1)])) (setT [(setN 2), (setN 3)]) fTrue (fArgs F_turn_of [(fVar 0), (fVar 2), (fVar 3)]) [2, 3] [some (0, netD n (marksD n Mf)), some (0, .list (L.map tD)), none, none] = .ok (.list ((lbord (sidesOf L) L).map fun e => .int (tv Mf e))) := by
    refine fLc_of (iseqL (ds := (lbord (sidesOf L) L).map eD) (by simp [hb])) (by have := lbord_len h; simp; omega) (lcGo_all fun e he => ⟨_, rfl, ?_⟩)
    obtain ⟨h1, h2⟩ := lbord_sub he
    simp [wipeR, turn_is Mf (h.1 _ h1) h2]
  unfold F_turns fnF B_turns
  simp [startR, hl, sum_map]
end Me

/-! HK: what every law's end needs. -/
namespace Me
open PySem M
theorem isi_list (ds : List PyData) : dIsi "list" (.list ds) = .ok (.bool true) := rfl
theorem isi_tup (ds : List PyData) : dIsi "tuple" (.tuple ds) = .ok (.bool true) := rfl
theorem isi_int (i : Int) : dIsi "int" (.int i) = .ok (.bool true) := rfl
theorem isi_intb (i : Int) : dIsi "bool" (.int i) = .ok (.bool false) := rfl
theorem len_marks (n : Nat) (Mf : Nat → Nat → Int) : dLen (marksD n Mf) = .ok (.int ((n : Int) + 1)) := by
  rw [marksD_eq, len_mkD, rowsOf_len]
  congr 2
theorem lays_es (l : List S3) : lays 3 (.list (l.map eD)) := lays_map lays_e l
theorem lays_ts (l : List T3) : lays 2 (.list (l.map tD)) := lays_map lays_t l
theorem mF_ok (ns : List Int) {n : Nat} (h : n ≤ 12) : ∀ x y, x + y ≤ n → 0 ≤ mF ns x y ∧ mF ns x y ≤ 2 := fun x y hxy => by
  have := (mF_is ns x y (by omega) (by omega)).2
  omega
theorem isi_boolb (b : Bool) : dIsi "bool" (.bool b) = .ok (.bool true) := rfl
theorem eq_bool (b c : Bool) : dEq (.bool b) (.bool c) = .ok (.bool (b == c)) := by cases b <;> cases c <;> rfl
theorem lays_row (n : Nat) (Mf : Nat → Nat → Int) (y : Nat) : lays 1 (rowD n Mf y) := lays_map (fun _ => lays_int _) _
theorem lays_marks (n : Nat) (Mf : Nat → Nat → Int) : lays 2 (marksD n Mf) := lays_map (lays_row n Mf) _
theorem flat_marks (n : Nat) (Mf : Nat → Nat → Int) : flatD (marksD n Mf) = true := flat_map (fun _ => flat_map (fun _ => flat_int _) _) _
end Me

/-! HN: ends. -/
namespace Me
open PySem M
abbrev EN := T3 × Option Nat
def enD : EN → PyData
  | (t, none) => .tuple [.str "whole", tD t]
  | (t, some k) => .tuple [.str "door", tD t, .int k]
theorem lays_str {x : Str} (h : PyData.strOk x = true) : lays 0 (.str x) := ⟨by simp only [PyData.canLay0, h], by simp only [PyData.depth, Nat.le_refl]⟩
theorem lays_en (e : EN) : lays 2 (enD e) := by
  obtain ⟨t, _ | k⟩ := e
  · refine lays_tup (n := 1) fun d hd => ?_
    simp at hd
    rcases hd with rfl | rfl
    · exact lays_le (lays_str (by decide +kernel)) (by decide)
    · exact lays_t t
  · refine lays_tup (n := 1) fun d hd => ?_
    simp at hd
    rcases hd with rfl | rfl | rfl
    · exact lays_le (lays_str (by decide +kernel)) (by decide)
    · exact lays_t t
    · exact lays_le (lays_int _) (by decide)
theorem flat_str (x : Str) : flatD (.str x) = true := by simp only [flatD]
theorem flat_en (e : EN) : flatD (enD e) = true := by
  obtain ⟨t, _ | k⟩ := e
  · exact flat_tup (by simp [flat_str, flat_t])
  · exact flat_tup (by simp [flat_str, flat_t, flat_int])
theorem enD_inj {a b : EN} (h : enD a = enD b) : a = b := by
  obtain ⟨⟨x, y, k⟩, _ | i⟩ := a <;> obtain ⟨⟨x', y', k'⟩, _ | i'⟩ := b <;> simp [enD, tD] at h ⊢
  · exact h
  · obtain ⟨h1, h2⟩ := h
    exact ⟨h1, by omega⟩
theorem any_eqv {α : Type} [DecidableEq α] {g : α → PyData} (hf : ∀ a, flatD (g a) = true) (hi : ∀ a b, g a = g b → a = b) (a : α) : ∀ B : List α, ((B.map g).any fun z => PyData.eqv z (g a)) = decide (a ∈ B)
  | [] => rfl
  | b :: B => by
    rw [List.map_cons, List.any_cons, any_eqv hf hi a B]
    have e : PyData.eqv (g b) (g a) = decide (a = b) := by
      rw [Bool.eq_iff_iff, eqv_flat (hf b) (hf a), decide_eq_true_iff]
      exact ⟨fun h => (hi _ _ h).symm, fun h => by rw [h]⟩
    rw [e, Bool.eq_iff_iff]
    simp
theorem in_map {α : Type} [DecidableEq α] {n : Nat} {g : α → PyData} (hl : ∀ a, lays n (g a)) (hf : ∀ a, flatD (g a) = true) (hi : ∀ a b, g a = g b → a = b) (a : α) (B : List α) (hn : n + 1 ≤ 64 := by decide) : dIn (g a) (.list (B.map g)) = .ok (.bool (decide (a ∈ B))) := by
  have e : dIn (g a) (.list (B.map g)) = if (okD (g a) && okD (.list (B.map g))) = true then .ok (.bool ((B.map g).any fun z => PyData.eqv z (g a))) else .bad := by
    unfold dIn
    rfl
  rw [e, okD_of (hl a) (by omega), okD_of (lays_map hl B) hn, any_eqv hf hi]
  rfl
theorem in_e (e : S3) (B : List S3) : dIn (eD e) (.list (B.map eD)) = .ok (.bool (decide (e ∈ B))) :=
  (in_map lays_e flat_e (fun _ _ h => eD_inj h) e B).trans (congrArg (fun b => O.ok (.bool b)) (by rw [decide_eq_decide]))
/-! ### all ends -/
def doors1 (Mf : Nat → Nat → Int) (B : List S3) (t : T3) (ks : List Nat) : List EN := (ks.filter fun k => decide ((t, k) ∈ B ∧ tv Mf (t, k) ≠ 0)).map fun k => (t, some k)
def ends1 (Mf : Nat → Nat → Int) (B : List S3) (t : T3) : List EN := (if sv Mf t ≠ 0 then [(t, none)] else []) ++ doors1 Mf B t [0, 1, 2]
def endsL (Mf : Nat → Nat → Int) (B : List S3) (L : List T3) : List EN := L.flatMap (ends1 Mf B)
theorem doors1_len (Mf : Nat → Nat → Int) (B : List S3) (t : T3) (ks : List Nat) : (doors1 Mf B t ks).length ≤ ks.length := by
  unfold doors1
  rw [List.length_map]
  exact List.length_filter_le _ _
theorem ends1_len (Mf : Nat → Nat → Int) (B : List S3) (t : T3) : (ends1 Mf B t).length ≤ 4 := by
  have := doors1_len Mf B t [0, 1, 2]
  unfold ends1
  rw [List.length_append]
  split <;> simp at this ⊢ <;> omega
theorem endsL_len (Mf : Nat → Nat → Int) (B : List S3) : ∀ L : List T3, (endsL Mf B L).length ≤ 4 * L.length
  | [] => Nat.le_refl _
  | t :: L => by
    have h1 := endsL_len Mf B L
    have h2 := ends1_len Mf B t
    unfold endsL at h1 ⊢
    rw [List.flatMap_cons, List.length_append, List.length_cons]
    omega
theorem doors1_snoc (Mf : Nat → Nat → Int) (B : List S3) (t : T3) (ks : List Nat) (k : Nat) : doors1 Mf B t (ks ++ [k]) = doors1 Mf B t ks ++ if (t, k) ∈ B ∧ tv Mf (t, k) ≠ 0 then [(t, some k)] else [] := by
  unfold doors1
  rw [List.filter_append, List.map_append]
  congr 1
  by_cases q : (t, k) ∈ B ∧ tv Mf (t, k) ≠ 0 <;> simp [q]
theorem endsL_snoc (Mf : Nat → Nat → Int) (B : List S3) (L : List T3) (t : T3) : endsL Mf B (L ++ [t]) = endsL Mf B L ++ ends1 Mf B t := by
  unfold endsL
  rw [List.flatMap_append]
  simp
theorem ends_of_is {n : Nat} (Mf : Nat → Nat → Int) {L : List T3} (h : Floor n L) (m : List ((P2 × P2) × S3)) : F_ends_of [netD n (marksD n Mf), .list (L.map tD), .dict (kv sD eD m)] = .ok (.list ((endsL Mf (bord L m) L).map enD)) := by
  have hb := border_sides_is L m (Nat.le_trans h.2.2 (by decide))
  have hs : ∀ t ∈ L, F_sense [netD n (marksD n Mf), tD t] = .ok (.int (sv Mf t)) := fun t ht => sense_is Mf (h.1 t ht)
  have ht : ∀ t ∈ L, ∀ k : Nat, k < 3 → F_turn_of [netD n (marksD n Mf), tD t, .int k] = .ok (.int (tv Mf (t, k))) := fun t ht k hk => turn_is Mf (h.1 t ht) hk
  have hll := h.2.2
  generalize bord L m = B at *
  generalize netD n (marksD n Mf) = N at *
  generalize PyData.dict (kv sD eD m) = K at *
  obtain ⟨ρ', hk1, a, b, rfl⟩ := sFor_nx (set := setN 5) (g := tD) (L := L) (fi := iSeq (fVar 1)) (ρ := [some (0, N), some (0, .list (L.map tD)), some (0, K), some (0, .list (B.map eD)), some (1, .list []), none, none])
    (body := seqF' (sIf (fBin dNe (fArgs F_sense [(fVar 0), (fVar 5)]) (fC (.int 0))) (sAppend 4 0 (fArgs dTup [(fC (.str "whole")), (fVar 5)])) fNext)
      (sFor (iRng [(fC (.int 3))]) (setN 6) (sIf (fAnd (fBin dIn (fArgs dTup [(fVar 5), (fVar 6)]) (fVar 3)) (fBin dNe (fArgs F_turn_of [(fVar 0), (fVar 5), (fVar 6)]) (fC (.int 0)))) (sAppend 4 0 (fArgs dTup [(fC (.str "door")), (fVar 5), (fVar 6)])) fNext)))
    (fun pre ρ => ∃ a b, ρ = [some (0, N), some (0, .list (L.map tD)), some (0, K), some (0, .list (B.map eD)), some (1, .list ((endsL Mf B pre).map enD)), a, b]) (iseqL rfl) ⟨none, none, rfl⟩ (by
    rintro pre t post ρ e ⟨a, b, rfl⟩
    have htL : t ∈ L := by rw [e]; simp
    have hpl : pre.length < 1000 := by
      have := congrArg List.length e
      simp at this
      omega
    have hlen := endsL_len Mf B pre
    have hws : (sIf (fBin dNe (fArgs F_sense [(fVar 0), (fVar 5)]) (fC (.int 0))) (sAppend 4 0 (fArgs dTup [(fC (.str "whole")), (fVar 5)])) fNext) [some (0, N), some (0, .list (L.map tD)), some (0, K), some (0, .list (B.map eD)), some (1, .list ((endsL Mf B pre).map enD)), some (0, tD t), b]
        = .nx [some (0, N), some (0, .list (L.map tD)), some (0, K), some (0, .list (B.map eD)), some (1, .list ((endsL Mf B pre ++ if sv Mf t ≠ 0 then [(t, none)] else []).map enD)), some (0, tD t), b] := by
      have hl : (endsL Mf B pre).length < 1000000 := by omega
      by_cases q : sv Mf t = 0 <;> simp [hs t htL, q, dTup, hl, enD]
    obtain ⟨ρ2, hk2, b2, rfl⟩ := sFor_nx (set := setN 6) (g := fun k : Nat => PyData.int k) (L := ([0, 1, 2] : List Nat)) (fi := iRng [fC (.int 3)]) (ρ := [some (0, N), some (0, .list (L.map tD)), some (0, K), some (0, .list (B.map eD)), some (1, .list ((endsL Mf B pre ++ if sv Mf t ≠ 0 then [(t, none)] else []).map enD)), some (0, tD t), b])
      (body := sIf (fAnd (fBin dIn (fArgs dTup [(fVar 5), (fVar 6)]) (fVar 3)) (fBin dNe (fArgs F_turn_of [(fVar 0), (fVar 5), (fVar 6)]) (fC (.int 0)))) (sAppend 4 0 (fArgs dTup [(fC (.str "door")), (fVar 5), (fVar 6)])) fNext)
      (fun pr ρ => ∃ b, ρ = [some (0, N), some (0, .list (L.map tD)), some (0, K), some (0, .list (B.map eD)), some (1, .list (((endsL Mf B pre ++ if sv Mf t ≠ 0 then [(t, none)] else []) ++ doors1 Mf B t pr).map enD)), some (0, tD t), b]) (rng3 _) ⟨b, by simp [doors1]⟩ (by
      rintro pr k ps ρ e2 ⟨b, rfl⟩
      have hk3 : k < 3 := by
        have : k ∈ ([0, 1, 2] : List Nat) := by rw [e2]; simp
        simp at this
        omega
      have hl : (((endsL Mf B pre ++ if sv Mf t ≠ 0 then [(t, none)] else []) ++ doors1 Mf B t pr).map enD).length < 1000000 := by
        have h1 := doors1_len Mf B t pr
        have h2 := congrArg List.length e2
        simp only [List.length_map, List.length_append, List.length_cons] at h2 ⊢
        have h3 : (if sv Mf t ≠ 0 then [((t, none) : EN)] else []).length ≤ 1 := by split <;> simp
        simp at h2
        omega
      rw [doors1_snoc, ← List.append_assoc]
      generalize ((endsL Mf B pre ++ if sv Mf t ≠ 0 then [(t, none)] else []) ++ doors1 Mf B t pr) = S0 at hl ⊢
      have hin : dIn (.tuple [tD t, .int (k : Int)]) (.list (B.map eD)) = .ok (.bool (decide ((t, k) ∈ B))) := in_e (t, k) B
      have hl' : S0.length < 1000000 := by simpa using hl
      by_cases q1 : (t, k) ∈ B
      · by_cases q2 : tv Mf (t, k) = 0 <;> simp [dTup, hin, q1, ht t htL k hk3, q2, hl', enD]
      · simp [dTup, hin, q1])
    show afterN (seqF' _ _ [some (0, N), some (0, .list (L.map tD)), some (0, K), some (0, .list (B.map eD)), some (1, .list ((endsL Mf B pre).map enD)), some (0, tD t), b]) _
    rw [r_seq, hws]
    show afterN (sFor _ _ _ _) _
    rw [hk2]
    exact ⟨some (0, tD t), b2, by rw [endsL_snoc, ends1, List.append_assoc]⟩)
  unfold F_ends_of fnF B_ends_of
  simp only [startR, List.map_cons, List.map_nil, List.length_cons, List.length_nil, List.replicate, List.cons_append, List.nil_append]
  simp [hb, hk1]
theorem ends_is {n : Nat} (Mf : Nat → Nat → Int) {L : List T3} (h : Floor n L) : F_ends [netD n (marksD n Mf), .list (L.map tD)] = .ok (.list ((endsL Mf (lbord (sidesOf L) L) L).map enD)) := by
  obtain ⟨k, hk, e⟩ := sides_by_is L (Nat.le_trans h.2.2 (by decide))
  have hc := check_floor_is n (marksD n Mf) L
  rw [if_pos (floor_ok h)] at hc
  unfold F_ends fnF B_ends
  simp [startR, hc, e, ends_of_is Mf h k, bord_eq h hk]
end Me

/-! HW: walks through doors, in plain Lean. -/
namespace Wk
section
variable {τ : Type} (dr : τ → Nat → Prop) (od : τ → Option Nat → Option Nat) (nb : τ → Nat → Option (τ × Nat))
/-- doors: at most two of a triangle; the other one is another; the triangle behind is another, and looks back -/
structure Ok : Prop where
  od1 : ∀ t c o, od t c = some o → dr t o ∧ some o ≠ c
  two : ∀ t a b c, dr t a → dr t b → dr t c → a = b ∨ b = c ∨ a = c
  nb1 : ∀ t k t' k', nb t k = some (t', k') → nb t' k' = some (t, k) ∧ t ≠ t' ∧ (dr t k → dr t' k')
/-- where a walk may start: a triangle of one door, or a border door -/
def Start (t : τ) (c : Option Nat) : Prop := (c = none ∧ ∀ a b, dr t a → dr t b → a = b) ∨ ∃ k, c = some k ∧ nb t k = none ∧ dr t k
def nextS (s : τ × Option Nat) : Option (τ × Option Nat) := (od s.1 s.2).bind fun o => (nb s.1 o).map fun p => (p.1, some p.2)
def st (s : τ × Option Nat) : Nat → Option (τ × Option Nat)
  | 0 => some s
  | i + 1 => (st s i).bind (nextS od nb)
variable {dr od nb}
theorem st_prev {s : τ × Option Nat} {i : Nat} {u : τ × Option Nat} (h : st od nb s (i + 1) = some u) : ∃ v, st od nb s i = some v ∧ nextS od nb v = some u := by
  simp only [st] at h
  cases q : st od nb s i with
  | none => rw [q] at h; cases h
  | some v => rw [q] at h; exact ⟨v, rfl, h⟩
theorem next_inv {v u : τ × Option Nat} (h : nextS od nb v = some u) : ∃ o k', od v.1 v.2 = some o ∧ nb v.1 o = some (u.1, k') ∧ u.2 = some k' := by
  unfold nextS at h
  cases q : od v.1 v.2 with
  | none => rw [q] at h; cases h
  | some o =>
    rw [q] at h
    simp only [Option.bind_some] at h
    cases q2 : nb v.1 o with
    | none => rw [q2] at h; cases h
    | some p =>
      rw [q2] at h
      cases h
      exact ⟨o, p.2, rfl, q2, rfl⟩
theorem st_some {s : τ × Option Nat} : ∀ {j : Nat} {u : τ × Option Nat}, st od nb s j = some u → ∀ i, i ≤ j → ∃ v, st od nb s i = some v
  | 0, u, h, i, hi => by
    have : i = 0 := by omega
    subst this
    exact ⟨u, h⟩
  | j + 1, u, h, i, hi => by
    by_cases e : i = j + 1
    · subst e; exact ⟨u, h⟩
    · obtain ⟨v, hv, _⟩ := st_prev h
      exact st_some hv i (by omega)
/-- no triangle twice -/
theorem distinct (K : Ok dr od nb) {t0 : τ} {c0 : Option Nat} (hs : Start dr nb t0 c0) : ∀ (gap i : Nat) (u v : τ × Option Nat), 0 < gap → st od nb (t0, c0) i = some u → st od nb (t0, c0) (i + gap) = some v → u.1 ≠ v.1 := by
  intro gap
  induction gap using Nat.strongRecOn with
  | _ gap ihg =>
    intro i
    induction i with
    | zero =>
      intro u v hg hu hv e
      have hu0 : u = (t0, c0) := (Option.some.inj hu).symm
      subst hu0
      obtain ⟨g, rfl⟩ : ∃ g, gap = g + 1 := ⟨gap - 1, by omega⟩
      rw [Nat.zero_add] at hv
      obtain ⟨v1, hv1, hn1⟩ := st_prev hv
      obtain ⟨o1, k1, a1, a2, a3⟩ := next_inv hn1
      obtain ⟨b1, b2, b3⟩ := K.nb1 _ _ _ _ a2
      have hd1 : dr v.1 k1 := b3 (K.od1 _ _ _ a1).1
      -- the state behind the start
      obtain ⟨w, hw⟩ := st_some hv 1 (by omega)
      obtain ⟨w0, hw0, hnw⟩ := st_prev (i := 0) hw
      have hw0' : w0 = (t0, c0) := (Option.some.inj hw0).symm
      subst hw0'
      obtain ⟨o0, k0, d1, d2, d3⟩ := next_inv hnw
      dsimp only at d1 d2 e
      have hd0 := (K.od1 _ _ _ d1)
      -- the door by which v is come into is the door by which the start is left
      have key : k1 = o0 := by
        rw [← e] at hd1
        rcases hs with ⟨hc, h1⟩ | ⟨k, hc, hk, hdk⟩
        · exact h1 _ _ hd1 hd0.1
        · rcases K.two t0 k k1 o0 hdk hd1 hd0.1 with z | z | z
          · rw [← e, ← z, hk] at b1
            cases b1
          · exact z
          · exact absurd (by rw [hc, z]) hd0.2
      rw [key, ← e, d2] at b1
      injection b1 with b1
      have e1 : w.1 = v1.1 := (Prod.mk.inj b1).1
      have e2 : k0 = o1 := (Prod.mk.inj b1).2
      by_cases g0 : g = 0
      · subst g0
        have : v1 = (t0, c0) := (Option.some.inj hv1).symm
        rw [this] at b2
        exact b2 e
      · by_cases g1 : g = 1
        · subst g1
          rw [hw] at hv1
          cases hv1
          rw [d3, e2] at a1
          exact (K.od1 _ _ _ a1).2 rfl
        · refine ihg (g - 1) (by omega) 1 w v1 (by omega) hw ?_ e1
          have : 1 + (g - 1) = g := by omega
          rw [this]
          exact hv1
    | succ i ihi =>
      intro u v hg hu hv e
      have hv' : st od nb (t0, c0) (i + gap + 1) = some v := by
        have : i + 1 + gap = i + gap + 1 := by omega
        rw [← this]
        exact hv
      obtain ⟨u1, hu1, hn1⟩ := st_prev hu
      obtain ⟨v1, hv1, hm1⟩ := st_prev hv'
      obtain ⟨o1, k1, a1, a2, a3⟩ := next_inv hn1
      obtain ⟨o2, k2, c1, c2, c3⟩ := next_inv hm1
      obtain ⟨b1, b2, b3⟩ := K.nb1 _ _ _ _ a2
      obtain ⟨f1, f2, f3⟩ := K.nb1 _ _ _ _ c2
      have hdu : dr u.1 k1 := b3 (K.od1 _ _ _ a1).1
      have hdv : dr v.1 k2 := f3 (K.od1 _ _ _ c1).1
      by_cases hk : k1 = k2
      · rw [← e, ← hk, b1] at f1
        injection f1 with f1
        exact ihi u1 v1 hg hu1 hv1 ((Prod.mk.inj f1).1)
      · obtain ⟨w, hw⟩ := st_some hv (i + 2) (by omega)
        obtain ⟨w0, hw0, hnw⟩ := st_prev (i := i + 1) hw
        rw [hu] at hw0
        cases hw0
        obtain ⟨o0, k0, d1, d2, d3⟩ := next_inv hnw
        have hd0 := (K.od1 _ _ _ d1)
        have key : k2 = o0 := by
          rw [← e] at hdv
          rcases K.two u.1 k1 k2 o0 hdu hdv hd0.1 with z | z | z
          · exact absurd z hk
          · exact z
          · rw [a3, z] at hd0
            exact absurd rfl hd0.2
        rw [key, ← e, d2] at f1
        injection f1 with f1
        have e1 : w.1 = v1.1 := (Prod.mk.inj f1).1
        have e2 : k0 = o2 := (Prod.mk.inj f1).2
        by_cases g0 : gap = 1
        · subst g0
          rw [hu] at hv1
          cases hv1
          exact f2 e
        · by_cases g1 : gap = 2
          · subst g1
            rw [hw] at hv1
            cases hv1
            rw [d3, e2] at c1
            exact (K.od1 _ _ _ c1).2 rfl
          · refine ihg (gap - 2) (by omega) (i + 2) w v1 (by omega) hw ?_ e1
            have : i + 2 + (gap - 2) = i + gap := by omega
            rw [this]
            exact hv1
end
end Wk

/-! HW2: the walk as a function; it ends. -/
namespace Wk
section
variable {τ : Type} [DecidableEq τ] {dr : τ → Nat → Prop} {od : τ → Option Nat → Option Nat} {nb : τ → Nat → Option (τ × Nat)}
def run (od : τ → Option Nat → Option Nat) (nb : τ → Nat → Option (τ × Nat)) : Nat → τ → Option Nat → Option (List τ × (τ × Option Nat))
  | 0, _, _ => none
  | f + 1, t, c => match od t c with
    | none => some ([t], (t, none))
    | some k => match nb t k with
      | none => some ([t], (t, some k))
      | some p => (run od nb f p.1 (some p.2)).map fun r => (t :: r.1, r.2)
theorem st_front (s : τ × Option Nat) : ∀ i, st od nb s (i + 1) = (nextS od nb s).bind fun u => st od nb u i
  | 0 => by
    simp only [st, Option.bind_some]
    cases nextS od nb s <;> rfl
  | i + 1 => by
    have ih := st_front s i
    have e : st od nb s (i + 1 + 1) = (st od nb s (i + 1)).bind (nextS od nb) := rfl
    rw [e, ih]
    cases nextS od nb s with
    | none => rfl
    | some u => rfl
theorem run_none : ∀ (f : Nat) (t : τ) (c : Option Nat), run od nb f t c = none → ∃ u, st od nb (t, c) f = some u
  | 0, t, c, _ => ⟨(t, c), rfl⟩
  | f + 1, t, c, h => by
    unfold run at h
    cases q : od t c with
    | none => rw [q] at h; cases h
    | some k =>
      rw [q] at h
      dsimp only at h
      cases q2 : nb t k with
      | none => rw [q2] at h; cases h
      | some p =>
        rw [q2] at h
        dsimp only at h
        have h' : run od nb f p.1 (some p.2) = none := by
          cases z : run od nb f p.1 (some p.2) with
          | none => rfl
          | some r => rw [z] at h; cases h
        obtain ⟨u, hu⟩ := run_none f p.1 (some p.2) h'
        refine ⟨u, ?_⟩
        rw [st_front]
        have : nextS od nb (t, c) = some (p.1, some p.2) := by
          unfold nextS
          rw [q]
          simp only [Option.bind_some]
          rw [q2]
          rfl
        rw [this]
        exact hu
theorem length_le_of_sub : ∀ {l L : List τ}, l.Nodup → (∀ x ∈ l, x ∈ L) → l.length ≤ L.length
  | [], _, _, _ => Nat.zero_le _
  | x :: l, L, nd, h => by
    obtain ⟨h1, h2⟩ := List.nodup_cons.mp nd
    have hx := h x List.mem_cons_self
    have := length_le_of_sub (l := l) (L := L.erase x) h2 fun y hy => (List.mem_erase_of_ne (fun e : y = x => h1 (by rw [← e]; exact hy))).mpr (h y (List.mem_cons_of_mem _ hy))
    rw [List.length_erase_of_mem hx] at this
    have hpos : 0 < L.length := List.length_pos_of_mem hx
    rw [List.length_cons]
    omega
/-- the triangles of a walk that has not ended -/
theorem st_list (K : Ok dr od nb) {t0 : τ} {c0 : Option Nat} (hs : Start dr nb t0 c0) {L : List τ} (h0 : t0 ∈ L) (hL : ∀ t k p, nb t k = some p → p.1 ∈ L) : ∀ (f : Nat) (u : τ × Option Nat), st od nb (t0, c0) f = some u →
    ∃ l : List τ, l.length = f + 1 ∧ l.Nodup ∧ (∀ x ∈ l, x ∈ L) ∧ ∀ x ∈ l, ∃ i v, i ≤ f ∧ st od nb (t0, c0) i = some v ∧ v.1 = x := by
  intro f
  induction f with
  | zero =>
    intro u hu
    exact ⟨[t0], rfl, by simp, by simp [h0], fun x hx => ⟨0, (t0, c0), Nat.le_refl _, rfl, by simp at hx; exact hx.symm⟩⟩
  | succ f ih =>
    intro u hu
    obtain ⟨v, hv, hn⟩ := st_prev hu
    obtain ⟨l, h1, h2, h3, h4⟩ := ih v hv
    obtain ⟨o, k', a1, a2, a3⟩ := next_inv hn
    refine ⟨u.1 :: l, by rw [List.length_cons, h1], List.nodup_cons.mpr ⟨fun hm => ?_, h2⟩, fun x hx => ?_, fun x hx => ?_⟩
    · obtain ⟨i, w, hi, hw, hwx⟩ := h4 _ hm
      have e : i + (f + 1 - i) = f + 1 := by omega
      exact distinct K hs (f + 1 - i) i w u (by omega) hw (by rw [e]; exact hu) hwx
    · rcases List.mem_cons.mp hx with rfl | hx
      · exact hL _ _ _ a2
      · exact h3 x hx
    · rcases List.mem_cons.mp hx with rfl | hx
      · exact ⟨f + 1, u, Nat.le_refl _, hu, rfl⟩
      · obtain ⟨i, w, hi, hw, hwx⟩ := h4 x hx
        exact ⟨i, w, by omega, hw, hwx⟩
theorem run_ends (K : Ok dr od nb) {t0 : τ} {c0 : Option Nat} (hs : Start dr nb t0 c0) {L : List τ} (h0 : t0 ∈ L) (hL : ∀ t k p, nb t k = some p → p.1 ∈ L) : ∃ r, run od nb L.length t0 c0 = some r := by
  cases q : run od nb L.length t0 c0 with
  | some r => exact ⟨r, rfl⟩
  | none =>
    obtain ⟨u, hu⟩ := run_none _ _ _ q
    obtain ⟨l, h1, h2, h3, _⟩ := st_list K hs h0 hL _ u hu
    have := length_le_of_sub h2 h3
    omega
theorem run_mono : ∀ {f : Nat} {t : τ} {c : Option Nat} {r : List τ × (τ × Option Nat)}, run od nb f t c = some r → ∀ g, run od nb (f + g) t c = some r
  | 0, _, _, _, h, _ => by cases h
  | f + 1, t, c, r, h, g => by
    have e : f + 1 + g = f + g + 1 := by omega
    rw [e]
    unfold run at h ⊢
    cases q : od t c with
    | none => rw [q] at h; exact h
    | some k =>
      rw [q] at h
      dsimp only at h ⊢
      cases q2 : nb t k with
      | none => rw [q2] at h; exact h
      | some p =>
        rw [q2] at h
        dsimp only at h ⊢
        cases z : run od nb f p.1 (some p.2) with
        | none => rw [z] at h; cases h
        | some r' =>
          rw [z] at h
          rw [run_mono z g]
          exact h
/-- where it ends -/
theorem run_end : ∀ {f : Nat} {t : τ} {c : Option Nat} {r : List τ × (τ × Option Nat)}, run od nb f t c = some r → (r.2.2 = none ∧ ∃ c', od r.2.1 c' = none) ∨ ∃ k, r.2.2 = some k ∧ nb r.2.1 k = none ∧ ∃ c', od r.2.1 c' = some k
  | 0, _, _, _, h => by cases h
  | f + 1, t, c, r, h => by
    unfold run at h
    cases q : od t c with
    | none =>
      rw [q] at h
      cases h
      exact .inl ⟨rfl, c, q⟩
    | some k =>
      rw [q] at h
      dsimp only at h
      cases q2 : nb t k with
      | none =>
        rw [q2] at h
        cases h
        exact .inr ⟨k, rfl, q2, c, q⟩
      | some p =>
        rw [q2] at h
        dsimp only at h
        cases z : run od nb f p.1 (some p.2) with
        | none => rw [z] at h; cases h
        | some r' =>
          rw [z] at h
          cases h
          exact run_end (r := r') z
end
end Wk

/-! HX: the program's walk. -/
namespace Me
open PySem M
def drM (Mf : Nat → Nat → Int) (t : T3) (k : Nat) : Prop := k < 3 ∧ tv Mf (t, k) ≠ 0
def odM (Mf : Nat → Nat → Int) (t : T3) (c : Option Nat) : Option Nat := ([0, 1, 2] : List Nat).find? fun k => decide (some k ≠ c ∧ tv Mf (t, k) ≠ 0)
def nbL (L : List T3) (t : T3) (k : Nat) : Option S3 := if (t, k) ∈ sidesOf L then (sidesOf L).find? fun e => decide (sd e = rv (sd (t, k))) else none
theorem nb_some {n : Nat} {L : List T3} (h : Floor n L) {t t' : T3} {k k' : Nat} : nbL L t k = some (t', k') ↔ ((t, k) ∈ sidesOf L ∧ (t', k') ∈ sidesOf L ∧ sd (t', k') = rv (sd (t, k))) := by
  unfold nbL
  constructor
  · intro q
    split at q
    · rename_i hm
      exact ⟨hm, List.mem_of_find?_eq_some q, by have z := List.find?_some q; simpa using z⟩
    · cases q
  · rintro ⟨h1, h2, h3⟩
    rw [if_pos h1]
    cases q : (sidesOf L).find? fun e => decide (sd e = rv (sd (t, k))) with
    | none =>
      rw [List.find?_eq_none] at q
      exact absurd (decide_eq_true h3) (q _ h2)
    | some e =>
      have e1 := List.mem_of_find?_eq_some q
      have e2 : sd e = rv (sd (t, k)) := by have z := List.find?_some q; simpa using z
      have hk := kind_of h
      rw [sd_inj (hk _ (mem_sides.mp e1).1) (hk _ (mem_sides.mp h2).1) (mem_sides.mp e1).2 (mem_sides.mp h2).2 (e2.trans h3.symm)]
theorem nb_none {L : List T3} {t : T3} {k : Nat} (hm : (t, k) ∈ sidesOf L) : nbL L t k = none ↔ ∀ e ∈ sidesOf L, sd e ≠ rv (sd (t, k)) := by
  unfold nbL
  rw [if_pos hm, List.find?_eq_none]
  exact ⟨fun h e he q => h e he (decide_eq_true q), fun h e he q => h e he (of_decide_eq_true q)⟩
theorem tv_rv {Mf : Nat → Nat → Int} {e e' : S3} (h : sd e' = rv (sd e)) : tv Mf e' = - tv Mf e := by
  unfold tv
  rw [h]
  unfold rv turnI
  dsimp only
  generalize mv Mf (sd e).1 = a
  generalize mv Mf (sd e).2 = b
  by_cases h1 : a = 0 <;> by_cases h2 : b = 1 <;> by_cases h3 : a = 1 <;> by_cases h4 : b = 0 <;> simp [h1, h2, h3, h4] <;> omega
theorem tv0 (Mf : Nat → Nat → Int) (t : T3) : tv Mf (t, 0) = turnI (mv Mf (cor t 0)) (mv Mf (cor t 1)) := rfl
theorem tv1 (Mf : Nat → Nat → Int) (t : T3) : tv Mf (t, 1) = turnI (mv Mf (cor t 1)) (mv Mf (cor t 2)) := rfl
theorem tv2 (Mf : Nat → Nat → Int) (t : T3) : tv Mf (t, 2) = turnI (mv Mf (cor t 2)) (mv Mf (cor t 0)) := by
  show turnI (mv Mf (cor t 2)) (mv Mf (cor t ((2 + 1) % 3))) = _
  rw [show (2 + 1) % 3 = 0 from rfl]
theorem walk_ok {n : Nat} {L : List T3} (h : Floor n L) (Mf : Nat → Nat → Int) : Wk.Ok (drM Mf) (odM Mf) (nbL L) where
  od1 := fun t c o q => by
    have h1 := List.find?_some q
    have h2 := List.mem_of_find?_eq_some q
    have h3 := of_decide_eq_true h1
    refine ⟨⟨?_, h3.2⟩, h3.1⟩
    simp at h2
    omega
  two := fun t a b c ⟨ha, da⟩ ⟨hb, db⟩ ⟨hc, dc⟩ => by
    have key : tv Mf (t, 0) ≠ 0 → tv Mf (t, 1) ≠ 0 → tv Mf (t, 2) ≠ 0 → False := by
      rw [tv0, tv1, tv2]
      unfold turnI
      generalize mv Mf (cor t 0) = x
      generalize mv Mf (cor t 1) = y
      generalize mv Mf (cor t 2) = z
      intro h1 h2 h3
      have q1 : (x = 0 ∧ y = 1) ∨ (x = 1 ∧ y = 0) := by
        by_cases p : x = 0 ∧ y = 1
        · exact .inl p
        · by_cases p2 : x = 1 ∧ y = 0
          · exact .inr p2
          · simp [p, p2] at h1
      have q2 : (y = 0 ∧ z = 1) ∨ (y = 1 ∧ z = 0) := by
        by_cases p : y = 0 ∧ z = 1
        · exact .inl p
        · by_cases p2 : y = 1 ∧ z = 0
          · exact .inr p2
          · simp [p, p2] at h2
      have q3 : (z = 0 ∧ x = 1) ∨ (z = 1 ∧ x = 0) := by
        by_cases p : z = 0 ∧ x = 1
        · exact .inl p
        · by_cases p2 : z = 1 ∧ x = 0
          · exact .inr p2
          · simp [p, p2] at h3
      omega
    by_cases e1 : a = b
    · exact .inl e1
    · by_cases e2 : b = c
      · exact .inr (.inl e2)
      · by_cases e3 : a = c
        · exact .inr (.inr e3)
        · exfalso
          have all : ∀ k, k < 3 → tv Mf (t, k) ≠ 0 := fun k hk => by
            have : k = a ∨ k = b ∨ k = c := by omega
            rcases this with rfl | rfl | rfl
            · exact da
            · exact db
            · exact dc
          exact key (all 0 (by decide)) (all 1 (by decide)) (all 2 (by decide))
  nb1 := fun t k t' k' q => by
    obtain ⟨h1, h2, h3⟩ := (nb_some h).mp q
    refine ⟨(nb_some h).mpr ⟨h2, h1, by rw [h3]; rfl⟩, fun e => ?_, fun ⟨_, d⟩ => ⟨(mem_sides.mp h2).2, by rw [tv_rv h3]; omega⟩⟩
    subst e
    have k1 := (mem_sides.mp h1).2
    have k2 := (mem_sides.mp h2).2
    obtain ⟨x, y, kd⟩ := t
    dsimp only at k1 k2
    by_cases z : kd = 0 <;> rcases lt3 k1 with rfl | rfl | rfl <;> rcases lt3 k2 with rfl | rfl | rfl <;> simp [sd, cor, rv, z] at h3 <;> omega
theorem whole_one {n : Nat} {Mf : Nat → Nat → Int} (hM : MOk n Mf) {t : T3} (h : IsTri n t) (hs : sv Mf t ≠ 0) : ∀ a b, drM Mf t a → drM Mf t b → a = b := by
  obtain ⟨h0, h1, h2⟩ := tri_in h
  have a0 := mv_ok hM h0
  have a1 := mv_ok hM h1
  have a2 := mv_ok hM h2
  rintro a b ⟨ha, da⟩ ⟨hb, db⟩
  have key : ∀ a b : Nat, a < 3 → b < 3 → a ≠ b → tv Mf (t, a) ≠ 0 → tv Mf (t, b) ≠ 0 → sv Mf t = 0 := by
    have h01 : tv Mf (t, 0) ≠ 0 → tv Mf (t, 1) ≠ 0 → sv Mf t = 0 := by
      rw [tv0, tv1]
      unfold sv
      rcases a0 with a0 | a0 | a0 <;> rcases a1 with a1 | a1 | a1 <;> rcases a2 with a2 | a2 | a2 <;> rw [a0, a1, a2] <;> decide
    have h12 : tv Mf (t, 1) ≠ 0 → tv Mf (t, 2) ≠ 0 → sv Mf t = 0 := by
      rw [tv1, tv2]
      unfold sv
      rcases a0 with a0 | a0 | a0 <;> rcases a1 with a1 | a1 | a1 <;> rcases a2 with a2 | a2 | a2 <;> rw [a0, a1, a2] <;> decide
    have h02 : tv Mf (t, 0) ≠ 0 → tv Mf (t, 2) ≠ 0 → sv Mf t = 0 := by
      rw [tv0, tv2]
      unfold sv
      rcases a0 with a0 | a0 | a0 <;> rcases a1 with a1 | a1 | a1 <;> rcases a2 with a2 | a2 | a2 <;> rw [a0, a1, a2] <;> decide
    intro a b ha hb hab da db
    rcases lt3 ha with rfl | rfl | rfl <;> rcases lt3 hb with rfl | rfl | rfl
    · exact absurd rfl hab
    · exact h01 da db
    · exact h02 da db
    · exact h01 db da
    · exact absurd rfl hab
    · exact h12 da db
    · exact h02 db da
    · exact h12 db da
    · exact absurd rfl hab
  by_cases e : a = b
  · exact e
  · exact absurd (key a b ha hb e da db) hs
theorem mem_ends {Mf : Nat → Nat → Int} {B : List S3} {L : List T3} {t : T3} {c : Option Nat} : (t, c) ∈ endsL Mf B L ↔ t ∈ L ∧ (match c with
    | none => sv Mf t ≠ 0
    | some k => k < 3 ∧ (t, k) ∈ B ∧ tv Mf (t, k) ≠ 0) := by
  unfold endsL ends1 doors1
  rw [List.mem_flatMap]
  constructor
  · rintro ⟨u, hu, hm⟩
    rcases List.mem_append.mp hm with hm | hm
    · split at hm
      · simp at hm
        obtain ⟨rfl, rfl⟩ := hm
        rename_i q
        exact ⟨hu, q⟩
      · cases hm
    · obtain ⟨k, hk, e⟩ := List.mem_map.mp hm
      obtain ⟨hk1, hk2⟩ := List.mem_filter.mp hk
      simp only [Prod.mk.injEq] at e
      obtain ⟨rfl, rfl⟩ := e
      have := of_decide_eq_true hk2
      refine ⟨hu, ?_, this.1, this.2⟩
      simp at hk1
      omega
  · rintro ⟨hu, hc⟩
    refine ⟨t, hu, ?_⟩
    cases c with
    | none => exact List.mem_append_left _ (by rw [if_pos hc]; simp)
    | some k =>
      refine List.mem_append_right _ (List.mem_map.mpr ⟨k, List.mem_filter.mpr ⟨?_, decide_eq_true ⟨hc.2.1, hc.2.2⟩⟩, rfl⟩)
      have := hc.1
      simp
      omega
theorem bord_nb {n : Nat} {L : List T3} (h : Floor n L) {e : S3} : e ∈ lbord (sidesOf L) L ↔ e ∈ sidesOf L ∧ nbL L e.1 e.2 = none := by
  unfold lbord
  rw [List.mem_filter]
  constructor
  · rintro ⟨h1, h2⟩
    exact ⟨h1, (nb_none h1).mpr ((cnt_one h h1).mp (of_decide_eq_true h2))⟩
  · rintro ⟨h1, h2⟩
    exact ⟨h1, decide_eq_true ((cnt_one h h1).mpr ((nb_none h1).mp h2))⟩
/-- an end may be walked from -/
theorem start_of {n : Nat} {Mf : Nat → Nat → Int} (hM : MOk n Mf) {L : List T3} (h : Floor n L) {e : EN} (he : e ∈ endsL Mf (lbord (sidesOf L) L) L) : Wk.Start (drM Mf) (nbL L) e.1 e.2 ∧ e.1 ∈ L := by
  obtain ⟨t, c⟩ := e
  obtain ⟨h1, h2⟩ := mem_ends.mp he
  refine ⟨?_, h1⟩
  cases c with
  | none => exact .inl ⟨rfl, whole_one hM (h.1 t h1) h2⟩
  | some k => exact .inr ⟨k, rfl, ((bord_nb h).mp h2.2.1).2, h2.1, h2.2.2⟩
/-- the walk of an end, and its partner -/
theorem walk_ends {n : Nat} {Mf : Nat → Nat → Int} (hM : MOk n Mf) {L : List T3} (h : Floor n L) {e : EN} (he : e ∈ endsL Mf (lbord (sidesOf L) L) L) : ∃ r, Wk.run (odM Mf) (nbL L) L.length e.1 e.2 = some r := by
  obtain ⟨hs, hL⟩ := start_of hM h he
  exact Wk.run_ends (walk_ok h Mf) hs hL fun t k p q => (mem_sides.mp ((nb_some (t' := p.1) (k' := p.2) h).mp q).2.1).1
end Me

/-! HY: gone, of the program. -/
namespace Me
open PySem M
def camD : Option Nat → PyData
  | none => .none
  | some k => .int k
theorem ne_cam (k : Nat) (c : Option Nat) : dNe (.int (k : Int)) (camD c) = .ok (.bool (decide (some k ≠ c))) := by
  cases c with
  | none => rfl
  | some j =>
    show dNe (.int (k : Int)) (.int (j : Int)) = _
    rw [r_neI]
    congr 2
    by_cases h : k = j <;> simp [h] <;> omega
theorem other_door_is {n : Nat} (Mf : Nat → Nat → Int) {t : T3} (h : IsTri n t) (c : Option Nat) : F_other_door [netD n (marksD n Mf), tD t, camD c] = .ok (camD (odM Mf t c)) := by
  have ht : ∀ k : Nat, k < 3 → F_turn_of [netD n (marksD n Mf), tD t, .int k] = .ok (.int (tv Mf (t, k))) := fun k hk => turn_is Mf h hk
  generalize netD n (marksD n Mf) = N at *
  have step : ∀ k : Nat, k < 3 → sIf (fAnd (fBin dNe (fVar 3) (fVar 2)) (fBin dNe (fArgs F_turn_of [(fVar 0), (fVar 1), (fVar 3)]) (fC (.int 0)))) (sRet (fVar 3)) fNext [some (0, N), some (0, tD t), some (0, camD c), some (0, .int (k : Int))]
      = if (decide (some k ≠ c ∧ tv Mf (t, k) ≠ 0)) = true then .ret (.int (k : Int)) else .nx [some (0, N), some (0, tD t), some (0, camD c), some (0, .int (k : Int))]   := fun k hk => by
    have hh : (fAnd (fBin dNe (fVar 3) (fVar 2)) (fBin dNe (fArgs F_turn_of [(fVar 0), (fVar 1), (fVar 3)]) (fC (.int 0)))) (frz [some (0, N), some (0, tD t), some (0, camD c), some (0, .int (k : Int))]) = .ok (.bool (decide (some k ≠ c ∧ tv Mf (t, k) ≠ 0))) := by
      by_cases q : some k = c
      · simp [ne_cam, q]
      · by_cases q2 : tv Mf (t, k) = 0 <;> simp [ne_cam, q, ht k hk, q2]
    rw [if_of hh]
    rfl
  have s0 := step 0 (by decide)
  have s1 := step 1 (by decide)
  have s2 := step 2 (by decide)
  unfold F_other_door fnF B_other_door
  simp only [startR, List.map_cons, List.map_nil, List.length_cons, List.length_nil, List.replicate, List.cons_append, List.nil_append]
  rw [r_seq, sFor_of (rng3 _)]
  simp only [List.map_cons, List.map_nil]
  rw [forF_cons (ρ1 := [some (0, N), some (0, tD t), some (0, camD c), some (0, .int ((0 : Nat) : Int))]) rfl, s0]
  unfold odM
  simp only [List.find?_cons]
  cases q0 : decide (some 0 ≠ c ∧ tv Mf (t, 0) ≠ 0)
  · rw [if_neg (by decide)]
    dsimp only
    rw [forF_cons (ρ1 := [some (0, N), some (0, tD t), some (0, camD c), some (0, .int ((1 : Nat) : Int))]) rfl, s1]
    cases q1 : decide (some 1 ≠ c ∧ tv Mf (t, 1) ≠ 0)
    · rw [if_neg (by decide)]
      dsimp only
      rw [forF_cons (ρ1 := [some (0, N), some (0, tD t), some (0, camD c), some (0, .int ((2 : Nat) : Int))]) rfl, s2]
      cases q2 : decide (some 2 ≠ c ∧ tv Mf (t, 2) ≠ 0)
      · rw [if_neg (by decide)]
        rfl
      · rw [if_pos rfl]
        rfl
    · rw [if_pos rfl]
      rfl
  · rw [if_pos rfl]
    rfl
theorem good_nb {n : Nat} {L : List T3} (h : Floor n L) {m : List ((P2 × P2) × S3)} (hm : Good (sidesOf L) m) {t : T3} {k : Nat} (hin : (t, k) ∈ sidesOf L) : lk m (rv (sd (t, k))) = nbL L t k := by
  cases q : lk m (rv (sd (t, k))) with
  | none => exact ((nb_none hin).mpr ((hm.none_iff _).mp q)).symm
  | some e =>
    obtain ⟨h1, h2⟩ := hm.1 _ _ q
    exact ((nb_some (t' := e.1) (k' := e.2) h).mpr ⟨hin, h1, h2⟩).symm
theorem eD_cam (e : S3) : eD e = .tuple [tD e.1, camD (some e.2)] := rfl
@[simp] theorem r_retpair (i m : Nat) (f : FE) (ρ : Rho) : sRetPair i m f ρ = match ρ[i]? with
  | some (some (k, d)) => if k = m then withE (f ρ) ρ fun y => if isLst y = true then .bad else .ret (.tuple [d, y]) else .bad
  | _ => .bad := rfl
@[simp] theorem isl_w (t : T3) : isLst (.tuple [.str "whole", tD t]) = false := by simp [isLst, hasLs, hasL, tD]
@[simp] theorem isl_d (t : T3) (k : Int) : isLst (.tuple [.str "door", tD t, .int k]) = false := by simp [isLst, hasLs, hasL, tD]
def BG : SF := seqF' (sAppend 6 0 (fVar 4))
  (seqF' (sSet 7 0 (fArgs F_other_door [(fVar 0), (fVar 4), (fVar 5)]))
  (seqF' (sIf (fBin dIsN (fVar 7) (fC .none)) (sRetPair 6 1 (fArgs dTup [(fC (.str "whole")), (fVar 4)])) fNext)
  (seqF' (sAsg (setT [(setN 8), (setN 9)]) (fArgs F_side [(fVar 4), (fVar 7)]))
  (seqF' (sIf (fBin dNotIn (fArgs dTup [(fVar 9), (fVar 8)]) (fVar 3)) (sRetPair 6 1 (fArgs dTup [(fC (.str "door")), (fVar 4), (fVar 7)])) fNext)
  (sAsg (setT [(setN 4), (setN 5)]) (fBin dIxK (fVar 3) (fArgs dTup [(fVar 9), (fVar 8)])))))))
theorem gone_loop {n : Nat} (Mf : Nat → Nat → Int) {L : List T3} (h : Floor n L) {m : List ((P2 × P2) × S3)} (hm : Good (sidesOf L) m) (Ls E : PyData) :
    ∀ (f : Nat) (t : T3) (c : Option Nat) (r : List T3 × EN) (acc : List T3) (x y z : Option (Nat × PyData)), t ∈ L → acc.length + f ≤ 10000 → Wk.run (odM Mf) (nbL L) f t c = some r →
      whileF (fC (.bool true)) BG f [some (0, netD n (marksD n Mf)), some (0, Ls), some (0, E), some (0, .dict (kv sD eD m)), some (0, tD t), some (0, camD c), some (1, .list (acc.map tD)), x, y, z] = .ret (.tuple [.list ((acc ++ r.1).map tD), enD r.2])
  | 0, _, _, _, _, _, _, _, _, _, hr => by cases hr
  | f + 1, t, c, r, acc, x, y, z, htL, hacc, hr => by
    have hod := other_door_is Mf (h.1 t htL) c
    have ih := gone_loop Mf h hm Ls E f
    generalize netD n (marksD n Mf) = N at *
    have hl : acc.length < 1000000 := by omega
    unfold Wk.run at hr
    unfold whileF
    simp only [r_fC, r_withE_ok]
    have a1 : sAppend 6 0 (fVar 4) [some (0, N), some (0, Ls), some (0, E), some (0, .dict (kv sD eD m)), some (0, tD t), some (0, camD c), some (1, .list (acc.map tD)), x, y, z] = .nx [some (0, N), some (0, Ls), some (0, E), some (0, .dict (kv sD eD m)), some (0, tD t), some (0, camD c), some (1, .list ((acc ++ [t]).map tD)), x, y, z] := by
      simp [hl]
    have a2 : sSet 7 0 (fArgs F_other_door [(fVar 0), (fVar 4), (fVar 5)]) [some (0, N), some (0, Ls), some (0, E), some (0, .dict (kv sD eD m)), some (0, tD t), some (0, camD c), some (1, .list ((acc ++ [t]).map tD)), x, y, z] = .nx [some (0, N), some (0, Ls), some (0, E), some (0, .dict (kv sD eD m)), some (0, tD t), some (0, camD c), some (1, .list ((acc ++ [t]).map tD)), some (0, camD (odM Mf t c)), y, z] := by
      simp [hod]
    have body : BG [some (0, N), some (0, Ls), some (0, E), some (0, .dict (kv sD eD m)), some (0, tD t), some (0, camD c), some (1, .list (acc.map tD)), x, y, z] = (seqF' (sIf (fBin dIsN (fVar 7) (fC .none)) (sRetPair 6 1 (fArgs dTup [(fC (.str "whole")), (fVar 4)])) fNext)
        (seqF' (sAsg (setT [(setN 8), (setN 9)]) (fArgs F_side [(fVar 4), (fVar 7)]))
        (seqF' (sIf (fBin dNotIn (fArgs dTup [(fVar 9), (fVar 8)]) (fVar 3)) (sRetPair 6 1 (fArgs dTup [(fC (.str "door")), (fVar 4), (fVar 7)])) fNext)
        (sAsg (setT [(setN 4), (setN 5)]) (fBin dIxK (fVar 3) (fArgs dTup [(fVar 9), (fVar 8)])))))) [some (0, N), some (0, Ls), some (0, E), some (0, .dict (kv sD eD m)), some (0, tD t), some (0, camD c), some (1, .list ((acc ++ [t]).map tD)), some (0, camD (odM Mf t c)), y, z] := by
      unfold BG
      rw [r_seq, a1]
      dsimp only
      rw [r_seq, a2]
    rw [body]
    cases q : odM Mf t c with
    | none =>
      rw [q] at hr
      cases hr
      simp [camD, isNoneD, dTup, enD]
    | some k =>
      rw [q] at hr
      dsimp only at hr
      have hk3 : k < 3 := ((walk_ok h Mf).od1 _ _ _ q).1.1
      have hin : (t, k) ∈ sidesOf L := mem_sides.mpr ⟨htL, hk3⟩
      have hnb := good_nb h hm hin
      have hsd : sD (sd (t, k)) = .tuple [pD (sd (t, k)).1, pD (sd (t, k)).2] := rfl
      have hside := side_is t k hk3
      cases q2 : nbL L t k with
      | none =>
        rw [q2] at hr
        cases hr
        rw [q2] at hnb
        simp [camD, isNoneD, hside, hsd, dTup, sD_rv, notin_kv, hnb, enD]
      | some p =>
        rw [q2] at hr
        dsimp only at hr
        rw [q2] at hnb
        have hix := ixK_kv (h := eD) enc_side m hnb
        have hpL : p.1 ∈ L := (mem_sides.mp ((nb_some (t' := p.1) (k' := p.2) h).mp q2).2.1).1
        cases q3 : Wk.run (odM Mf) (nbL L) f p.1 (some p.2) with
        | none => rw [q3] at hr; cases hr
        | some r' =>
          rw [q3] at hr
          cases hr
          have := ih p.1 (some p.2) r' (acc ++ [t]) (some (0, .int (k : Int))) (some (0, pD (sd (t, k)).1)) (some (0, pD (sd (t, k)).2)) hpL (by simp; omega) q3
          simp [camD, isNoneD, hside, hsd, dTup, sD_rv, notin_kv, hnb, hix, eD] at this ⊢
          exact this
theorem str_dd : dEq (.str "door") (.str "door") = .ok (.bool true) := by kernel_rfl
theorem str_wd : dEq (.str "whole") (.str "door") = .ok (.bool false) := by kernel_rfl
theorem str_ww : dEq (.str "whole") (.str "whole") = .ok (.bool true) := by kernel_rfl
theorem str_dw : dEq (.str "door") (.str "whole") = .ok (.bool false) := by kernel_rfl
theorem in_en (e : EN) (B : List EN) : dIn (enD e) (.list (B.map enD)) = .ok (.bool (decide (e ∈ B))) :=
  (in_map lays_en flat_en (fun _ _ h => enD_inj h) e B).trans (congrArg (fun b => O.ok (.bool b)) (by rw [decide_eq_decide]))
theorem gone_is {n : Nat} {Mf : Nat → Nat → Int} (hM : MOk n Mf) {L : List T3} (h : Floor n L) {e : EN} (he : e ∈ endsL Mf (lbord (sidesOf L) L) L) {r : List T3 × EN} (hr : Wk.run (odM Mf) (nbL L) L.length e.1 e.2 = some r) :
    F_gone [netD n (marksD n Mf), .list (L.map tD), enD e] = .ok (.tuple [.list (r.1.map tD), enD r.2]) := by
  obtain ⟨m, hm, em⟩ := sides_by_is L (Nat.le_trans h.2.2 (by decide))
  have hc := check_floor_is n (marksD n Mf) L
  rw [if_pos (floor_ok h)] at hc
  have hen := ends_of_is Mf h m
  rw [bord_eq h hm] at hen
  have htL : e.1 ∈ L := (start_of hM h he).2
  have hr' : Wk.run (odM Mf) (nbL L) 1000 e.1 e.2 = some r := by
    have := Wk.run_mono hr (1000 - L.length)
    have hl := h.2.2
    have e1 : L.length + (1000 - L.length) = 1000 := by omega
    rw [e1] at this
    exact this
  have hloop := gone_loop Mf h hm (.list (L.map tD)) (enD e) 1000 e.1 e.2 r [] none none none htL (by simp) hr'
  have hin : dNotIn (enD e) (.list ((endsL Mf (lbord (sidesOf L) L) L).map enD)) = .ok (.bool false) := by
    unfold dNotIn
    rw [in_en, decide_eq_true he]
    rfl
  unfold BG at hloop
  unfold F_gone fnF B_gone sWhile
  generalize netD n (marksD n Mf) = N at *
  generalize PyData.list (L.map tD) = Ls at *
  obtain ⟨t, c⟩ := e
  have i1 : dIx (enD (t, c)) (.int 1) = .ok (tD t) := by cases c <;> rfl
  cases c with
  | none =>
    have i0 : dIx (enD (t, none)) (.int 0) = .ok (.str "whole") := rfl
    simp [startR, hc, em, hen, hin, i1, i0, str_wd] at hloop ⊢
    simp [camD] at hloop
    rw [hloop]
  | some k =>
    have i0 : dIx (enD (t, some k)) (.int 0) = .ok (.str "door") := rfl
    have i2 : dIx (enD (t, some k)) (.int 2) = .ok (.int k) := rfl
    simp [startR, hc, em, hen, hin, i1, i0, i2, str_dd] at hloop ⊢
    simp [camD] at hloop
    rw [hloop]
end Me

/-! HGR: walks refused. -/
namespace Me
open PySem M
open Classical in
theorem any_eqv_d {α : Type} {g : α → PyData} (hf : ∀ a, flatD (g a) = true) {d : PyData} (fd : flatD d = true) : ∀ B : List α, ((B.map g).any fun z => PyData.eqv z d) = decide (∃ b ∈ B, g b = d)
  | [] => by simp
  | b :: B => by
    rw [List.map_cons, List.any_cons, any_eqv_d hf fd B]
    have e : PyData.eqv (g b) d = decide (g b = d) := by rw [Bool.eq_iff_iff, eqv_flat (hf b) fd, decide_eq_true_iff]
    rw [e, Bool.eq_iff_iff]
    simp
open Classical in
theorem notin_d {n : Nat} {d : PyData} (ld : lays n d) (fd : flatD d = true) (hn : n ≤ 64) (B : List EN) : dNotIn d (.list (B.map enD)) = .ok (.bool (decide (¬ ∃ b ∈ B, enD b = d))) := by
  have e : dIn d (.list (B.map enD)) = if (okD d && okD (.list (B.map enD))) = true then .ok (.bool ((B.map enD).any fun z => PyData.eqv z d)) else .bad := by
    unfold dIn
    rfl
  unfold dNotIn
  rw [e, okD_of ld hn, okD_of (lays_map lays_en B), any_eqv_d flat_en fd]
  show O.ok (.bool (!decide _)) = _
  rw [← decide_not]
open Classical in
theorem gone_refuses {n : Nat} (Mf : Nat → Nat → Int) {L : List T3} (h : Floor n L) {d : PyData} (ld : lays 2 d) (fd : flatD d = true) (hno : ¬ ∃ b ∈ endsL Mf (lbord (sidesOf L) L) L, enD b = d) : F_gone [netD n (marksD n Mf), .list (L.map tD), d] = .ex 4 := by
  obtain ⟨m, hm, em⟩ := sides_by_is L (Nat.le_trans h.2.2 (by decide))
  have hc := check_floor_is n (marksD n Mf) L
  rw [if_pos (floor_ok h)] at hc
  have hen := ends_of_is Mf h m
  rw [bord_eq h hm] at hen
  have hin := notin_d ld fd (by decide) (endsL Mf (lbord (sidesOf L) L) L)
  rw [decide_eq_true hno] at hin
  unfold F_gone fnF B_gone
  generalize netD n (marksD n Mf) = N at *
  generalize PyData.list (L.map tD) = Ls at *
  simp [startR, hc, em, hen, hin]
end Me

/-! HTY: tries read; what is refused. -/
namespace Me
open PySem M
theorem try_ok {i : Nat} {Fb : SF} {css : List (List (Nat × Option (Nat → FE)))} {ρ : Rho} {d : PyData} (h : Fb ρ = .ret d) : sTryN i Fb css ρ = .ret d := by
  unfold sTryN
  rw [h]
theorem try_ex {i c : Nat} {Fb : SF} {css : List (List (Nat × Option (Nat → FE)))} {ρ ρ' : Rho} {d : PyData} {f : Nat → FE} (h : Fb ρ = .ex c ρ') (hp : pickN css c = some (some f)) (hi : i < ρ'.length) (ha : ∀ a, f a (frz (ρ'.set i (some (0, opqD a)))) = .ok d) : sTryN i Fb css ρ = .ret d := by
  unfold sTryN
  rw [h]
  dsimp only
  rw [hp]
  dsimp only
  rw [if_pos ⟨hi, fun a => by rw [ha a, ha 0]⟩]
  unfold endTry
  rw [ha 0]
theorem try1_ok {i : Nat} {Fb : SF} {hs : List (Nat × Option (Nat → FE))} {ρ : Rho} {d : PyData} (h : Fb ρ = .ret d) : sTryAs i Fb hs ρ = .ret d := by
  unfold sTryAs
  rw [h]
theorem try1_nx {i : Nat} {Fb : SF} {hs : List (Nat × Option (Nat → FE))} {ρ ρ' : Rho} (h : Fb ρ = .nx ρ') : sTryAs i Fb hs ρ = .nx ρ' := by
  unfold sTryAs
  rw [h]
theorem try1_ex {i c : Nat} {Fb : SF} {hs : List (Nat × Option (Nat → FE))} {ρ ρ' : Rho} {d : PyData} {f : Nat → FE} (h : Fb ρ = .ex c ρ') (hp : hs.lookup c = some (some f)) (hi : i < ρ'.length) (ha : ∀ a, f a (frz (ρ'.set i (some (0, opqD a)))) = .ok d) : sTryAs i Fb hs ρ = .ret d := by
  unfold sTryAs
  rw [h]
  dsimp only
  rw [hp]
  dsimp only
  rw [if_pos ⟨hi, fun a => by rw [ha a, ha 0]⟩, ha 0]
theorem mark_is {n : Nat} (Mf : Nat → Nat → Int) (x y : Int) : F_mark [netD n (marksD n Mf), .int x, .int y] = if In n (x, y) then .ok (.int (mv Mf (x, y))) else .ex 1 := by
  have hh := has_is (n : Int) (marksD n Mf) x y
  unfold F_mark fnF B_mark
  by_cases q : In n (x, y)
  · have r1 := read1 Mf q
    have r2 := read2 Mf q
    have q' : 0 ≤ x ∧ 0 ≤ y ∧ x + y ≤ n := q
    dsimp only at r1 r2
    rw [decide_eq_true q'] at hh
    simp [startR, hh, r1, r2, q]
  · have q' : ¬ (0 ≤ x ∧ 0 ≤ y ∧ x + y ≤ n) := q
    rw [decide_eq_false q'] at hh
    simp [startR, hh, q]
theorem sense_off {n : Nat} (Mf : Nat → Nat → Int) {t : T3} (h : ¬ IsTri n t) : F_sense [netD n (marksD n Mf), tD t] = .ex 2 := by
  have hc := corners_is n (marksD n Mf) t
  rw [if_neg h] at hc
  have hl : fLc (iSeq (fArgs F_corners [(fVar 0), (fVar 1)])) (setT [(setN 5), (setN 6)]) fTrue (fBin dIx (fBin dIx (fUn dMarks (fVar 0)) (fVar 6)) (fVar 5)) [5, 6]
      [some (0, netD n (marksD n Mf)), some (0, tD t), none, none, none, none, none] = .ex 2 := by
    unfold fLc iSeq
    simp [hc, items]
  unfold F_sense fnF B_sense
  simp [startR, hl]
end Me

/-! HR: marks changed; ruled nets. -/
namespace Me
open PySem M
def upd2 (g : Nat → Nat → Int) (x y : Nat) (v : Int) : Nat → Nat → Int := fun x' y' => if x' = x ∧ y' = y then v else g x' y'
theorem map_range_set {α : Type} (f : Nat → α) (n j : Nat) (v : α) : ((List.range n).map f).set j v = (List.range n).map fun k => if k = j then v else f k := by
  apply List.ext_getElem?
  intro i
  rw [List.getElem?_set]
  by_cases h : j = i
  · subst h
    simp
    by_cases q : j < n <;> simp [q]
  · rw [if_neg h]
    simp
    by_cases q : i < n
    · simp [q, Ne.symm h]
    · simp [List.getElem?_eq_none_iff.mpr (show (List.range n).length ≤ i by rw [List.length_range]; omega)]
theorem marks_set (n : Nat) (g : Nat → Nat → Int) {x y : Nat} (h : x + y ≤ n) (v : Int) : PyData.list (((List.range (n + 1)).map (rowD n g)).set y (.list (((List.range (n - y + 1)).map fun x => PyData.int (g x y)).set x (.int v)))) = marksD n (upd2 g x y v) := by
  unfold marksD
  congr 1
  rw [map_range_set, map_range_set]
  apply List.map_congr_left
  intro k _
  by_cases hk : k = y
  · subst hk
    rw [if_pos rfl]
    unfold rowD upd2
    congr 1
    apply List.map_congr_left
    intro j _
    by_cases hj : j = x <;> simp [hj]
  · rw [if_neg hk]
    unfold rowD upd2
    congr 1
    apply List.map_congr_left
    intro j _
    simp [hk]
theorem ixN_nat {n k : Nat} (h : k < n) : L2.ixN n (k : Int) = some k := by
  unfold L2.ixN
  rw [if_pos (by omega), if_pos (by omega)]
  simp
theorem store2_marks {i n x y : Nat} {g : Nat → Nat → Int} {v : Int} {fa fb f : FE} {ρ : Rho} (hρ : ρ[i]? = some (some (2, marksD n g))) (hf : f (frz ρ) = .ok (.int v)) (ha : fa (frz ρ) = .ok (.int (y : Int))) (hb : fb (frz ρ) = .ok (.int (x : Int))) (h : x + y ≤ n) :
    sStore2 i fa fb f ρ = .nx (ρ.set i (some (2, marksD n (upd2 g x y v)))) := by
  rw [← marks_set n g h v]
  unfold sStore2
  rw [hρ]
  have h1 : L2.ixN ((List.range (n + 1)).map (rowD n g)).length (y : Int) = some y := ixN_nat (by simp; omega)
  have h2 : ((List.range (n + 1)).map (rowD n g))[y]? = some (.list ((List.range (n - y + 1)).map fun x => .int (g x y))) := by
    have : y < n + 1 := by omega
    simp [this, rowD]
  have h3 : L2.ixN ((List.range (n - y + 1)).map fun x => PyData.int (g x y)).length (x : Int) = some x := ixN_nat (by simp; omega)
  show (if 2 = 2 then _ else _) = _
  rw [if_pos rfl, hf]
  dsimp only [withE]
  rw [if_pos (show scalD (.int v) = true from rfl), ha]
  dsimp only [withE]
  rw [h1]
  dsimp only
  rw [h2]
  dsimp only
  rw [hb]
  dsimp only
  rw [h3]
theorem upd2_ok {n : Nat} {g : Nat → Nat → Int} (hM : MOk n g) (x y : Nat) {v : Int} (hv : 0 ≤ v ∧ v ≤ 2) : MOk n (upd2 g x y v) := fun a b hab => by
  unfold upd2
  split
  · exact hv
  · exact hM a b hab
/-! ### ruled -/
def RuledP (n : Nat) (g : Nat → Nat → Int) : Prop := (g 0 0 = 0 ∧ g n 0 = 1 ∧ g 0 n = 2) ∧ ∀ k ∈ List.range (n + 1), g k 0 ≠ 2 ∧ g 0 k ≠ 1 ∧ g (n - k) k ≠ 0
instance (n : Nat) (g : Nat → Nat → Int) : Decidable (RuledP n g) := by unfold RuledP; infer_instance
theorem rd {n : Nat} (g : Nat → Nat → Int) {x y : Nat} (h : x + y ≤ n) : dIx (marksD n g) (.int (y : Int)) = .ok (rowD n g y) ∧ dIx (rowD n g y) (.int (x : Int)) = .ok (.int (g x y)) := by
  have hin : In (n : Int) ((x : Int), (y : Int)) := ⟨by show (0 : Int) ≤ x; omega, by show (0 : Int) ≤ y; omega, by show (x : Int) + y ≤ n; omega⟩
  exact ⟨read1 g hin, read2 g hin⟩
theorem ruled_is (n : Nat) (h1 : 1 ≤ n) (h2 : n ≤ 12) (g : Nat → Nat → Int) : F_ruled [netD n (marksD n g)] = .ok (.bool (decide (RuledP n g))) := by
  obtain ⟨a1, a2⟩ := rd g (x := 0) (y := 0) (n := n) (by omega)
  obtain ⟨b1, b2⟩ := rd g (x := n) (y := 0) (n := n) (by omega)
  obtain ⟨c1, c2⟩ := rd g (x := 0) (y := n) (n := n) (by omega)
  have z : ((0 : Nat) : Int) = 0 := rfl
  rw [z] at a1 a2 b1 c2
  by_cases q : g 0 0 = 0 ∧ g n 0 = 1 ∧ g 0 n = 2
  · have hi : iRng [fBin dAdd (fVar 1) (fC (.int 1))] [some (0, netD n (marksD n g)), some (0, .int n), none] = .ok ((List.range (n + 1)).map fun k : Nat => .int k) := rng1 (by simp) (by omega)
    have key := sFor_till (set := setN 2) (o := .ret (.bool false))
      (body := sIf (fOr (fBin dEq (fBin dIx (fBin dIx (fUn dMarks (fVar 0)) (fC (.int 0))) (fVar 2)) (fC (.int 2))) (fOr (fBin dEq (fBin dIx (fBin dIx (fUn dMarks (fVar 0)) (fVar 2)) (fC (.int 0))) (fC (.int 1))) (fBin dEq (fBin dIx (fBin dIx (fUn dMarks (fVar 0)) (fVar 2)) (fBin dSub (fVar 1) (fVar 2))) (fC (.int 0))))) (sRet (fC (.bool false))) fNext)
      (fun _ ρ => ∃ a, ρ = [some (0, netD n (marksD n g)), some (0, .int n), a]) (fun k => ¬ (g k 0 ≠ 2 ∧ g 0 k ≠ 1 ∧ g (n - k) k ≠ 0)) hi ⟨none, rfl⟩ (fun _ => ⟨by simp, by simp, by simp⟩) (by
      rintro pre k post ρ e ⟨a, rfl⟩
      have hk := List.mem_range.mp (show k ∈ List.range (n + 1) by rw [e]; simp)
      obtain ⟨d1, d2⟩ := rd g (x := k) (y := 0) (n := n) (by omega)
      obtain ⟨e1, e2⟩ := rd g (x := 0) (y := k) (n := n) (by omega)
      obtain ⟨f1, f2⟩ := rd g (x := n - k) (y := k) (n := n) (by omega)
      have hz : ((n - k : Nat) : Int) = (n : Int) - k := by omega
      rw [hz] at f2
      rw [z] at d1 e2
      have ht : (fOr (fBin dEq (fBin dIx (fBin dIx (fUn dMarks (fVar 0)) (fC (.int 0))) (fVar 2)) (fC (.int 2))) (fOr (fBin dEq (fBin dIx (fBin dIx (fUn dMarks (fVar 0)) (fVar 2)) (fC (.int 0))) (fC (.int 1))) (fBin dEq (fBin dIx (fBin dIx (fUn dMarks (fVar 0)) (fVar 2)) (fBin dSub (fVar 1) (fVar 2))) (fC (.int 0)))))
          (frz [some (0, netD n (marksD n g)), some (0, .int n), some (0, .int k)]) = .ok (.bool (decide ¬ (g k 0 ≠ 2 ∧ g 0 k ≠ 1 ∧ g (n - k) k ≠ 0))) := by
        by_cases p1 : g k 0 = 2
        · simp [d1, d2, p1]
        · by_cases p2 : g 0 k = 1
          · simp [d1, d2, p1, e1, e2, p2]
          · simp [d1, d2, p1, e1, e2, p2, f2]
      exact till_if ht rfl fun _ => ⟨_, rfl⟩)
    rcases key with ⟨⟨k, hk, hp⟩, hf⟩ | ⟨hno, ρ', hf, a, rfl⟩
    · have hR : ¬ RuledP n g := fun z => hp (z.2 k hk)
      unfold F_ruled fnF B_ruled
      simp [startR, a1, a2, b2, c1, c2, q, hf, hR]
    · have hR : RuledP n g := ⟨q, fun k hk => Classical.not_not.mp (hno k hk)⟩
      unfold F_ruled fnF B_ruled
      simp [startR, a1, a2, b2, c1, c2, q, hf, hR]
  · have hR : ¬ RuledP n g := fun z => q z.1
    unfold F_ruled fnF B_ruled
    by_cases q1 : g 0 0 = 0
    · by_cases q2 : g n 0 = 1
      · have q3 : ¬ g 0 n = 2 := fun z => q ⟨q1, q2, z⟩
        simp [startR, a1, a2, b2, c1, c2, q1, q2, q3, hR]
      · simp [startR, a1, a2, b2, q1, q2, hR]
    · simp [startR, a1, a2, q1, hR]
open Classical in
theorem pairNe (a b c : Int) : dNe (.tuple [.int a, .int b, .int c]) (.tuple [.int 0, .int 1, .int 2]) = .ok (.bool (decide ¬ (a = 0 ∧ b = 1 ∧ c = 2))) := by
  show dNe (tD (a, b, c)) (tD (0, 1, 2)) = _
  rw [dNe_flat (lays_t _) (lays_t _) (flat_t _) (flat_t _), ← decide_not]
  have e3 : tD (a, b, c) = tD (0, 1, 2) ↔ (a = 0 ∧ b = 1 ∧ c = 2) := ⟨fun h => by have := tD_inj h; simpa using this, fun ⟨p1, p2, p3⟩ => by rw [p1, p2, p3]⟩
  congr 2
  rw [decide_eq_decide, e3]
theorem check_ruled_is (n : Nat) (h1 : 1 ≤ n) (h2 : n ≤ 12) (g : Nat → Nat → Int) : F_check_ruled [netD n (marksD n g)] = if RuledP n g then .ok .none else .ex 5 := by
  unfold F_check_ruled fnF B_check_ruled
  by_cases q : RuledP n g <;> simp [startR, ruled_is n h1 h2, q]
end Me

/-! HQ: the law's ruled marks. -/
namespace Me
open PySem M
theorem mix2 (c : Int) (k m : Nat) (hm : 0 < m) (hk : k < 1000000) : ∃ r : Nat, r < m ∧ F__law_mix [.int c, .int k, .int m] = .ok (.int r) := mix_is c k m hm hk
def Mid (n : Nat) (g : Nat → Nat → Int) (k : Nat) : Prop := 0 < k → k < n → g k 0 ≠ 2 ∧ g 0 k ≠ 1 ∧ g (n - k) k ≠ 0
theorem two_ix (r : Nat) (h : r < 2) : dIx (.list [.int 0, .int 2]) (.int (r : Int)) = .ok (.int (2 * (r : Int))) := by
  have : r = 0 ∨ r = 1 := by omega
  rcases this with rfl | rfl <;> rfl
end Me

/-! HBG: marks, ruled marks, of any script whose cells are known. -/
namespace Me
open PySem M
def mG (c : Nat → Int) (x y : Nat) : Int := mixV (c (3 + y)) (x + 14 * y) 3
theorem mG_is (c : Nat → Int) (x y : Nat) (hx : x ≤ 100) (hy : y ≤ 100) : F__law_mix [.int (c (3 + y)), .int ((x : Int) + 14 * (y : Int)), .int 3] = .ok (.int (mG c x y)) ∧ 0 ≤ mG c x y ∧ mG c x y < 3 := by
  have := mix_eq (c (3 + y)) (x + 14 * y) 3 (by decide) (by omega)
  have e : ((x + 14 * y : Nat) : Int) = (x : Int) + 14 * (y : Int) := by omega
  rw [e] at this
  exact this
theorem mG_ok (c : Nat → Int) {n : Nat} (h : n ≤ 12) : ∀ x y, x + y ≤ n → 0 ≤ mG c x y ∧ mG c x y ≤ 2 := fun x y hxy => by
  have := (mG_is c x y (by omega) (by omega)).2
  omega
theorem marks_gen (S : PyData) (c : Nat → Int) (hS : ∀ k : Nat, F__law_cell_at [S, .int (k : Int)] = .ok (.int (c k))) (most : Nat) (h1 : 1 ≤ most) (h2 : most ≤ 12) : F__law_marks_by [S, .int most] = .ok (marksD (1 + (c 0 % (most : Int)).toNat) (mG c)) := by
  have hpos : 0 ≤ c 0 % (most : Int) := Int.emod_nonneg _ (by omega)
  have hlt : c 0 % (most : Int) < most := Int.emod_lt_of_pos _ (by omega)
  obtain ⟨r, hr⟩ : ∃ r : Nat, c 0 % (most : Int) = r := ⟨_, (Int.toNat_of_nonneg hpos).symm⟩
  have hmod : dMod (.int (c 0)) (.int (most : Int)) = .ok (.int r) := by rw [mod_ok (by omega), hr]
  have hc0 : F__law_cell_at [S, .int 0] = .ok (.int (c 0)) := hS 0
  have er : (c 0 % (most : Int)).toNat = r := by omega
  rw [er]
  generalize hn : 1 + r = n
  have hn2 : (1 + (r : Int)) = n := by omega
  have hcell : ∀ y : Nat, F__law_cell_at [S, .int (3 + (y : Int))] = .ok (.int (c (3 + y))) := fun y => by
    rw [← hS (3 + y)]
    congr 4
  have hir : iRng [fBin dAdd (fVar 2) (fC (.int 1))] [some (0, S), some (0, .int most), some (0, .int n), some (2, .list []), none, none, none] = .ok ((List.range (n + 1)).map fun k : Nat => .int k) := rng1 (by simp) (by omega)
  obtain ⟨ρ', hf, a, b, d, rfl⟩ := sFor_nx (set := setN 4)
    (body := seqF' (sSet 5 0 (fArgs F__law_cell_at [fVar 0, fBin dAdd (fC (.int 3)) (fVar 4)])) (sAppend 3 1 (fLc (iRng [fBin dAdd (fBin dSub (fVar 2) (fVar 4)) (fC (.int 1))]) (setN 6) fTrue (fArgs F__law_mix [fVar 5, fBin dAdd (fVar 6) (fBin dMul (fC (.int 14)) (fVar 4)), fC (.int 3)]) [6])))
    (fun pre ρ => ∃ a b d, ρ = [some (0, S), some (0, .int most), some (0, .int n), some (2, .list (pre.map (rowD n (mG c)))), a, b, d]) hir ⟨none, none, none, rfl⟩ (by
    rintro pre y post ρ e ⟨a, b, d, rfl⟩
    have hy := List.mem_range.mp (show y ∈ List.range (n + 1) by rw [e]; simp)
    have hpl : pre.length < 1000000 := by
      have := congrArg List.length e
      simp at this
      omega
    have hrow : fLc (iRng [fBin dAdd (fBin dSub (fVar 2) (fVar 4)) (fC (.int 1))]) (setN 6) fTrue (fArgs F__law_mix [fVar 5, fBin dAdd (fVar 6) (fBin dMul (fC (.int 14)) (fVar 4)), fC (.int 3)]) [6]
        [some (0, S), some (0, .int most), some (0, .int n), some (2, .list (pre.map (rowD n (mG c)))), some (0, .int y), some (0, .int (c (3 + y))), d] = .ok (rowD n (mG c) y) := by
      refine fLc_of (rng1 (n := n - y + 1) ?_ (by omega)) (by simp; omega) (lcGo_all fun x hx => ?_)
      · simp
        omega
      · have hx := List.mem_range.mp hx
        obtain ⟨q1, _⟩ := mG_is c x y (by omega) (by omega)
        have hm : dMul (.int 14) (.int (y : Int)) = .ok (.int (14 * (y : Int))) := mul_ok (.inl (by decide))
        refine ⟨_, rfl, ?_⟩
        simp [-r_int2, hm, add_ok, wipeR, q1]
    simp [hcell, hrow, hpl])
  unfold F__law_marks_by fnF B__law_marks_by
  simp [-r_int2, startR, hc0, hmod, add_ok, hn2, hf, marksD]
theorem cell_list (xs : List Int) (k : Nat) : F__law_cell_at [.list (xs.map .int), .int (k : Int)] = .ok (.int (xs.getD k 0)) := by
  by_cases h : k < xs.length
  · have e : dIxS (.list (xs.map .int)) (.int (k : Int)) = .ok (.int xs[k]) := by
      show (match L2.atI (xs.map PyData.int) (k : Int) with
        | some d => O.ok d
        | none => .bad) = _
      rw [atI_nat]
      simp [h]
    simp [F__law_cell_at, fnF, B__law_cell_at, startR, e, h]
  · simp [F__law_cell_at, fnF, B__law_cell_at, startR, h]
theorem ten6 : dPow (.int 10) (.int 6) = .ok (.int 1000000) := by kernel_rfl
end Me

/-! HJ: the joint net. -/
namespace Me
open PySem M
theorem owner_is (x y : Int) : F_owner [.int x, .int y] = .ok (.int ((x - y) % 3)) := by
  have h1 : dSub (.int x) (.int y) = .ok (.int (x - y)) := rfl
  have h2 : dMod (.int (x - y)) (.int 3) = .ok (.int ((x - y) % 3)) := mod_ok (by decide)
  unfold F_owner fnF B_owner
  simp [-r_int2, startR, h1, h2]
theorem Net_marks {n : Nat} {g : Nat → Nat → Int} (h1 : 1 ≤ n) (h2 : n ≤ 12) (hM : MOk n g) : F_Net [marksD n g] = .ok (netD n (marksD n g)) := by
  rw [marksD_eq, Net_is _ (by rw [rowsOf_len]; omega) (fun r hr => Nat.le_trans (rowsOf_row hr) (by omega)), if_pos (rowsOf_right h1 h2 hM), rowsOf_len]
  congr 2
  omega
/-- the hand of a place -/
def ow (x y : Nat) : Nat := (((x : Int) - y) % 3).toNat
theorem ow_lt (x y : Nat) : ow x y < 3 := by unfold ow; omega
theorem ow_eq (x y : Nat) : ((x : Int) - y) % 3 = (ow x y : Nat) := by unfold ow; omega
def jg (g : Nat → Nat → Nat → Int) (x y : Nat) : Int := g (ow x y) x y
theorem jg_ok {n : Nat} {g : Nat → Nat → Nat → Int} (hM : ∀ h, h < 3 → MOk n (g h)) : MOk n (jg g) := fun x y hxy => hM _ (ow_lt x y) x y hxy
theorem jg_ruled {n : Nat} {g : Nat → Nat → Nat → Int} (hR : ∀ h, h < 3 → RuledP n (g h)) : RuledP n (jg g) :=
  ⟨⟨(hR _ (ow_lt 0 0)).1.1, (hR _ (ow_lt n 0)).1.2.1, (hR _ (ow_lt 0 n)).1.2.2⟩, fun k hk => ⟨((hR _ (ow_lt k 0)).2 k hk).1, ((hR _ (ow_lt 0 k)).2 k hk).2.1, ((hR _ (ow_lt (n - k) k)).2 k hk).2.2⟩⟩
abbrev nets3 (a b c : PyData) : PyData := .list [a, b, c]
theorem joint_unlike (n0 n1 n2 : Int) (m0 m1 m2 : PyData) (h : ¬ (n0 = n1 ∧ n0 = n2)) : F_joint [nets3 (netD n0 m0) (netD n1 m1) (netD n2 m2)] = .ex 0 := by
  have i0 : dIx (nets3 (netD n0 m0) (netD n1 m1) (netD n2 m2)) (.int 0) = .ok (netD n0 m0) := rfl
  have i1 : dIx (nets3 (netD n0 m0) (netD n1 m1) (netD n2 m2)) (.int 1) = .ok (netD n1 m1) := rfl
  have i2 : dIx (nets3 (netD n0 m0) (netD n1 m1) (netD n2 m2)) (.int 2) = .ok (netD n2 m2) := rfl
  generalize nets3 (netD n0 m0) (netD n1 m1) (netD n2 m2) = Ns at *
  unfold F_joint fnF B_joint
  by_cases q : n0 = n1
  · have q2 : ¬ n0 = n2 := fun z => h ⟨q, z⟩
    have q3 : ¬ n1 = n2 := fun z => h ⟨q, q.trans z⟩
    simp [startR, i0, i1, i2, q, q2, q3]
  · simp [startR, i0, i1, i2, q]
section
variable {n : Nat} {g : Nat → Nat → Nat → Int}
abbrev jN (n : Nat) (g : Nat → Nat → Nat → Int) (h : Nat) : PyData := netD n (marksD n (g h))
def BC : SF := sDrop (fArgs F_check_ruled [(fVar 1)])
theorem joint_size (a : PyData) (b c d e : Option (Nat × PyData)) (Ns : PyData) (i0 : dIx Ns (.int 0) = .ok (jN n g 0)) (i1 : dIx Ns (.int 1) = .ok (jN n g 1)) (i2 : dIx Ns (.int 2) = .ok (jN n g 2)) :
    (fOr (fBin dNe (fUn dSize (fBin dIx (fVar 0) (fC (.int 0)))) (fUn dSize (fBin dIx (fVar 0) (fC (.int 1))))) (fBin dNe (fUn dSize (fBin dIx (fVar 0) (fC (.int 0)))) (fUn dSize (fBin dIx (fVar 0) (fC (.int 2)))))) (frz [some (0, Ns), none, none, none, none, none]) = .ok (.bool false) := by
  simp [i0, i1, i2]
theorem joint_unruled (h1 : 1 ≤ n) (hn : n ≤ 12) (h : ¬ ∀ k, k < 3 → RuledP n (g k)) : F_joint [nets3 (jN n g 0) (jN n g 1) (jN n g 2)] = .ex 5 := by
  have hc : ∀ k, F_check_ruled [jN n g k] = if RuledP n (g k) then .ok .none else .ex 5 := fun k => check_ruled_is n h1 hn (g k)
  have ht := joint_size (n := n) (g := g) .none none none none none (nets3 (jN n g 0) (jN n g 1) (jN n g 2)) rfl rfl rfl
  have hc0 := hc 0
  have hc1 := hc 1
  have hc2 := hc 2
  have hsq : iSeq (fVar 0) [some (0, nets3 (jN n g 0) (jN n g 1) (jN n g 2)), none, none, none, none, none] = .ok [jN n g 0, jN n g 1, jN n g 2] := rfl
  have hloop : forF (setN 1) BC [jN n g 0, jN n g 1, jN n g 2] [some (0, nets3 (jN n g 0) (jN n g 1) (jN n g 2)), none, none, none, none, none] = .ex 5 (match (if RuledP n (g 0) then (if RuledP n (g 1) then some 2 else some 1) else some 0 : Option Nat) with
      | some k => [some (0, nets3 (jN n g 0) (jN n g 1) (jN n g 2)), some (0, jN n g k), none, none, none, none]
      | none => []) := by
    generalize nets3 (jN n g 0) (jN n g 1) (jN n g 2) = Ns at *
    generalize hJ0 : jN n g 0 = J0 at *
    generalize hJ1 : jN n g 1 = J1 at *
    generalize hJ2 : jN n g 2 = J2 at *
    rw [forF_cons (ρ1 := [some (0, Ns), some (0, J0), none, none, none, none]) rfl]
    by_cases q0 : RuledP n (g 0)
    · rw [if_pos q0] at hc0
      have b0 : BC [some (0, Ns), some (0, J0), none, none, none, none] = .nx [some (0, Ns), some (0, J0), none, none, none, none] := by
        unfold BC
        simp [hc0]
      rw [b0]
      dsimp only
      rw [forF_cons (ρ1 := [some (0, Ns), some (0, J1), none, none, none, none]) rfl]
      by_cases q1 : RuledP n (g 1)
      · rw [if_pos q1] at hc1
        have b1 : BC [some (0, Ns), some (0, J1), none, none, none, none] = .nx [some (0, Ns), some (0, J1), none, none, none, none] := by
          unfold BC
          simp [hc1]
        rw [b1]
        dsimp only
        rw [forF_cons (ρ1 := [some (0, Ns), some (0, J2), none, none, none, none]) rfl]
        have q2 : ¬ RuledP n (g 2) := fun z => h fun k hk => by
          have : k = 0 ∨ k = 1 ∨ k = 2 := by omega
          rcases this with rfl | rfl | rfl
          · exact q0
          · exact q1
          · exact z
        rw [if_neg q2] at hc2
        have b2 : BC [some (0, Ns), some (0, J2), none, none, none, none] = .ex 5 [some (0, Ns), some (0, J2), none, none, none, none] := by
          unfold BC
          simp [hc2]
        rw [b2, if_pos q0, if_pos q1]
        dsimp only
        rw [hJ2]
      · rw [if_neg q1] at hc1
        have b1 : BC [some (0, Ns), some (0, J1), none, none, none, none] = .ex 5 [some (0, Ns), some (0, J1), none, none, none, none] := by
          unfold BC
          simp [hc1]
        rw [b1, if_pos q0, if_neg q1]
        dsimp only
        rw [hJ1]
    · rw [if_neg q0] at hc0
      have b0 : BC [some (0, Ns), some (0, J0), none, none, none, none] = .ex 5 [some (0, Ns), some (0, J0), none, none, none, none] := by
        unfold BC
        simp [hc0]
      rw [b0, if_neg q0]
      dsimp only
      rw [hJ0]
  unfold BC at hloop
  unfold F_joint fnF B_joint
  simp only [startR, List.map_cons, List.map_nil, List.length_cons, List.length_nil, List.replicate, List.cons_append, List.nil_append]
  rw [r_seq, if_of ht, if_neg (by decide), r_next]
  dsimp only
  rw [r_seq, sFor_of hsq, hloop]
theorem joint_is (h1 : 1 ≤ n) (hn : n ≤ 12) (hM : ∀ h, h < 3 → MOk n (g h)) (hR : ∀ h, h < 3 → RuledP n (g h)) : F_joint [nets3 (jN n g 0) (jN n g 1) (jN n g 2)] = .ok (netD n (marksD n (jg g))) := by
  have hc : ∀ k, k < 3 → F_check_ruled [jN n g k] = .ok .none := fun k hk => by
    rw [check_ruled_is n h1 hn (g k), if_pos (hR k hk)]
  have ht := joint_size (n := n) (g := g) .none none none none none (nets3 (jN n g 0) (jN n g 1) (jN n g 2)) rfl rfl rfl
  have hsq : iSeq (fVar 0) [some (0, nets3 (jN n g 0) (jN n g 1) (jN n g 2)), none, none, none, none, none] = .ok (([0, 1, 2] : List Nat).map (jN n g)) := rfl
  have hix : ∀ k : Nat, k < 3 → dIx (nets3 (jN n g 0) (jN n g 1) (jN n g 2)) (.int (k : Int)) = .ok (jN n g k) := fun k hk => by
    rcases lt3 hk with rfl | rfl | rfl <;> rfl
  have i0 := hix 0 (by decide)
  have hnet := Net_marks h1 hn (jg_ok hM)
  generalize nets3 (jN n g 0) (jN n g 1) (jN n g 2) = Ns at *
  obtain ⟨ρ1, hk1, b, rfl⟩ := sFor_nx (set := setN 1) (body := BC) (fun _ ρ => ∃ b, ρ = [some (0, Ns), b, none, none, none, none]) hsq ⟨none, rfl⟩ (by
    rintro pre k post ρ e ⟨b, rfl⟩
    have hk : k < 3 := by
      have : k ∈ ([0, 1, 2] : List Nat) := by rw [e]; simp
      simp at this
      omega
    have := hc k hk
    show afterN (BC [some (0, Ns), some (0, jN n g k), none, none, none, none]) _
    generalize jN n g k = Jk at *
    unfold BC
    simp [this])
  have hir : iRng [(fBin dAdd (fVar 2) (fC (.int 1)))] [some (0, Ns), b, some (0, .int n), some (2, .list []), none, none] = .ok ((List.range (n + 1)).map fun k : Nat => .int k) := rng1 (by simp) (by omega)
  obtain ⟨ρ2, hk2, a4, a5, rfl⟩ := sFor_nx (set := setN 4)
    (body := sAppend 3 1 (fLc (iRng [(fBin dAdd (fBin dSub (fVar 2) (fVar 4)) (fC (.int 1)))]) (setN 5) fTrue (fBin dIx (fBin dIx (fUn dMarks (fBin dIx (fVar 0) (fArgs F_owner [(fVar 5), (fVar 4)]))) (fVar 4)) (fVar 5)) [5]))
    (fun pre ρ => ∃ a4 a5, ρ = [some (0, Ns), b, some (0, .int n), some (2, .list (pre.map (rowD n (jg g)))), a4, a5]) hir ⟨none, none, rfl⟩ (by
    rintro pre y post ρ e ⟨a4, a5, rfl⟩
    have hy := List.mem_range.mp (show y ∈ List.range (n + 1) by rw [e]; simp)
    have hpl : pre.length < 1000000 := by
      have := congrArg List.length e
      simp at this
      omega
    have hrow : fLc (iRng [(fBin dAdd (fBin dSub (fVar 2) (fVar 4)) (fC (.int 1)))]) (setN 5) fTrue (fBin dIx (fBin dIx (fUn dMarks (fBin dIx (fVar 0) (fArgs F_owner [(fVar 5), (fVar 4)]))) (fVar 4)) (fVar 5)) [5]
        [some (0, Ns), b, some (0, .int n), some (2, .list (pre.map (rowD n (jg g)))), some (0, .int y), a5] = .ok (rowD n (jg g) y) := by
      refine fLc_of (rng1 (n := n - y + 1) ?_ (by omega)) (by simp; omega) (lcGo_all fun x hx => ⟨_, rfl, ?_⟩)
      · simp
        omega
      · have hx := List.mem_range.mp hx
        have ho := owner_is (x : Int) (y : Int)
        rw [ow_eq] at ho
        have hi := hix (ow x y) (ow_lt x y)
        obtain ⟨q1, q2⟩ := rd (g (ow x y)) (x := x) (y := y) (n := n) (by omega)
        simp [-r_int2, wipeR, ho, hi, q1, q2, jg]
    simp [hrow, hpl])
  unfold BC at hk1
  unfold F_joint fnF B_joint
  simp only [startR, List.map_cons, List.map_nil, List.length_cons, List.length_nil, List.replicate, List.cons_append, List.nil_append]
  rw [r_seq, if_of ht, if_neg (by decide), r_next]
  dsimp only
  rw [r_seq, hk1]
  dsimp only
  have i0' : dIx Ns (.int 0) = .ok (jN n g 0) := i0
  have w3 : sSet 2 0 (fUn dSize (fBin dIx (fVar 0) (fC (.int 0)))) [some (0, Ns), b, none, none, none, none] = .nx [some (0, Ns), b, some (0, .int n), none, none, none] := by simp [i0']
  rw [r_seq, w3]
  dsimp only
  rw [r_seq, show sSet 3 2 (fC (.list [])) [some (0, Ns), b, some (0, .int n), none, none, none] = .nx [some (0, Ns), b, some (0, .int n), some (2, .list []), none, none] by simp]
  dsimp only
  rw [r_seq, hk2]
  dsimp only
  change F_Net [.list ((List.range (n + 1)).map (rowD n (jg g)))] = _ at hnet
  simp [hnet]
end
end Me

/-! K16: the law's end. -/
namespace Me
open PySem M
/-- the class that a way meets -/
def codes : List Nat := [0, 0, 1, 2, 2, 3, 3, 3, 3, 3, 4, 4, 5, 5]
theorem rep_is (d : Int) (k : Nat) (h : k ≤ 100) : dRep (.list [.int d]) (.int (k : Int)) = .ok (.list ((List.range k).map fun _ => .int d)) := by
  unfold dRep
  dsimp only
  rw [if_pos ⟨by omega, by omega, by simp; omega⟩, Int.toNat_natCast]
  congr 2
  induction k with
  | zero => rfl
  | succ k ih =>
    have := ih (by omega)
    rw [List.replicate_succ', List.flatten_append, this, List.range_succ, List.map_append]
    simp
section
variable {n : Nat} {g : Nat → Nat → Int}
theorem bad_floor {L : List T3} (h : ∃ t ∈ L, ¬ IsTri n t) : ¬ FloorOk n L := by
  obtain ⟨t, ht, hno⟩ := h
  intro z
  obtain ⟨i, hi, e⟩ := List.mem_iff_getElem.mp ht
  have := (z (i, t) (by
    refine List.mem_iff_getElem.mpr ⟨i, by simpa using hi, ?_⟩
    rw [List.getElem_zip]
    simp [e])).1
  exact hno this
theorem same_floor (t : T3) : ¬ FloorOk n [t, t] := by
  intro z
  have := (z (1, t) (by simp [List.range_succ])).2 t (Nat.zero_lt_one) rfl
  exact ltT_irrefl _ this
/-- the six askings of a floor that is none -/
theorem no_floor {L : List T3} (h : ¬ FloorOk n L) : F_border [netD n (marksD n g), .list (L.map tD)] = .ex 3 ∧ F_senses [netD n (marksD n g), .list (L.map tD)] = .ex 3 ∧ F_turns [netD n (marksD n g), .list (L.map tD)] = .ex 3 ∧ F_ends [netD n (marksD n g), .list (L.map tD)] = .ex 3 ∧ ∀ e, F_walk [netD n (marksD n g), .list (L.map tD), e] = .ex 3 := by
  have hc := check_floor_is n (marksD n g) L
  rw [if_neg h] at hc
  generalize netD n (marksD n g) = N at *
  generalize PyData.list (L.map tD) = Ls at *
  have hb : F_border [N, Ls] = .ex 3 := by
    unfold F_border fnF B_border
    simp [startR, hc]
  refine ⟨hb, ?_, ?_, ?_, fun e => ?_⟩
  · unfold F_senses fnF B_senses
    simp [startR, hc]
  · have hl : fLc (iSeq (fArgs F_border [(fVar 0), (fVar 1)])) (setT [(setN 2), (setN 3)]) fTrue (fArgs F_turn_of [(fVar 0), (fVar 2), (fVar 3)]) [2, 3] [some (0, N), some (0, Ls), none, none] = .ex 3 := by
      unfold fLc iSeq
      simp [hb]
      rfl
    unfold F_turns fnF B_turns
    simp [startR, hl]
  · unfold F_ends fnF B_ends
    simp [startR, hc]
  · have hg : F_gone [N, Ls, e] = .ex 3 := by
      unfold F_gone fnF B_gone
      simp [startR, hc]
    unfold F_walk fnF B_walk
    simp [startR, fIxO, hg]
theorem not_tri2 (x y k : Int) (h : k ≠ 0 ∧ k ≠ 1) : ¬ IsTri n (x, y, k) := fun z => by
  have := z.1
  dsimp only at this
  omega
theorem not_tri_n : ¬ IsTri n ((n : Int), 0, 0) := fun z => by
  have := z.2 ((n : Int) + 1, 0) (by simp [cornersI])
  have := this.2.2
  dsimp only at this
  omega
theorem not_tri_m : ¬ IsTri n (-1, 0, 0) := fun z => by
  have := z.2 (-1, 0) (by simp [cornersI])
  have := this.1
  dsimp only at this
  omega
theorem tri_0 (h1 : 1 ≤ n) : IsTri n (0, 0, 0) := ⟨.inl rfl, fun p hp => by
  simp [cornersI] at hp
  rcases hp with rfl | rfl | rfl <;> (show _ ∧ _ ∧ _) <;> dsimp only <;> omega⟩
def abb (n : Nat) (d : Int) : PyData := marksD n fun _ _ => d
theorem ones_is (d : Int) (m : Nat) (hm : m ≤ 12) {fn fk : FE} {a b : Option (Nat × PyData)} (h1 : fn [a, b, none] = .ok (.int ((m + 1 : Nat) : Int))) (hk : ∀ r, fk [a, b, some r] = .ok (.int ((m + 1 : Nat) : Int))) :
    fLc (iRng [fn]) (setN 2) fTrue (fBin dRep (fArgs dLst [(fC (.int d))]) (fBin dSub fk (fVar 2))) [2] [a, b, none] = .ok (marksD m fun _ _ => d) := by
  refine fLc_of (rng1 (n := m + 1) h1 (by omega)) (by rw [List.length_map, List.length_range]; omega) (lcGo_all fun y hy => ⟨_, rfl, ?_⟩)
  have hy := List.mem_range.mp hy
  have hr := rep_is d (m - y + 1) (by omega)
  have hs : dSub (.int ((m + 1 : Nat) : Int)) (.int (y : Int)) = .ok (.int ((m - y + 1 : Nat) : Int)) := by
    rw [sub_ok, show ((m + 1 : Nat) : Int) - (y : Int) = ((m - y + 1 : Nat) : Int) by omega]
  have hk' := hk (0, .int (y : Int))
  rw [r_bin, r_bin]
  show (O.ok (.list [.int d])).bind (fun x => ((fk [a, b, some (0, .int (y : Int))]).bind fun z => dSub z (.int (y : Int))).bind fun y => dRep x y) = _
  rw [hk', O.bind_ok', O.bind_ok', hs, O.bind_ok', hr]
  rfl
theorem one_ok (d : Int) (m : Nat) (h1 : 1 ≤ m) (h2 : m ≤ 12) (hd : 0 ≤ d ∧ d ≤ 2) : F_Net [marksD m fun _ _ => d] = .ok (netD m (marksD m fun _ _ => d)) := Net_marks h1 h2 fun _ _ _ => hd
theorem dr_ok {f : FE} {ρ : Rho} {d : PyData} (h : f ρ = .ok d) : sDrop f ρ = .nx ρ := by simp [h]
theorem dr_ex {f : FE} {ρ : Rho} {c : Nat} (h : f ρ = .ex c) : sDrop f ρ = .ex c ρ := by simp [h]
theorem w_0 : F_Net [mkD [[0, 1], [3]]] = .ex 0 := by
  rw [Net_is _ (by decide) (by decide), if_neg (by decide)]
theorem w_1 (hn : n ≤ 8) : F_joint [nets3 (netD n (marksD n g)) (netD n (marksD n g)) (netD (9 : Nat) (marksD 9 fun _ _ => 0))] = .ex 0 := joint_unlike _ _ _ _ _ _ (by omega)
theorem w_2 : F_mark [netD n (marksD n g), .int 0, .int ((n : Int) + 1)] = .ex 1 := by
  rw [mark_is, if_neg (by rintro ⟨_, _, z⟩; dsimp only at z; omega)]
theorem w_3 : F_corners [netD n (marksD n g), tD (0, 0, 2)] = .ex 2 := by
  rw [corners_is, if_neg (not_tri2 _ _ _ (by decide))]
theorem w_4 : F_sense [netD n (marksD n g), tD ((n : Int), 0, 0)] = .ex 2 := sense_off g not_tri_n
theorem w_10 (h1 : 1 ≤ n) : F_walk [netD n (marksD n g), .list ([] : List PyData), enD ((0, 0, 0), none)] = .ex 4 := by
  have hf : Floor n [] := ⟨fun _ h => (List.not_mem_nil h).elim, List.Pairwise.nil, Nat.zero_le _⟩
  have hg := gone_refuses g hf (lays_en ((0, 0, 0), none)) (flat_en ((0, 0, 0), none)) (by
    rintro ⟨⟨t, c⟩, hb, _⟩
    exact nomatch (mem_ends.mp hb).1)
  have hg : F_gone [netD n (marksD n g), .list [], enD ((0, 0, 0), none)] = .ex 4 := hg
  generalize netD n (marksD n g) = N at *
  generalize enD ((0, 0, 0), none) = e at *
  unfold F_walk fnF B_walk
  simp [startR, fIxO, hg]
theorem w_11 (h1 : 1 ≤ n) : F_partner [netD n (marksD n g), .list [tD (0, 0, 0)], enD ((0, 0, 0), some 3)] = .ex 4 := by
  have hf : Floor n [(0, 0, 0)] := ⟨fun t ht => by
    obtain rfl := List.mem_singleton.mp ht
    exact tri_0 h1, by simp, by decide⟩
  have hg := gone_refuses g hf (lays_en ((0, 0, 0), some 3)) (flat_en ((0, 0, 0), some 3)) (by
    rintro ⟨⟨t, c⟩, hb, e⟩
    have := enD_inj e
    cases this
    exact absurd (mem_ends.mp hb).2.1 (by decide))
  have hg : F_gone [netD n (marksD n g), .list [tD (0, 0, 0)], enD ((0, 0, 0), some 3)] = .ex 4 := hg
  generalize netD n (marksD n g) = N at *
  generalize enD ((0, 0, 0), some 3) = e at *
  generalize tD (0, 0, 0) = t at *
  unfold F_partner fnF B_partner
  simp [startR, hg]
theorem w_12 (h1 : 1 ≤ n) (h2 : n ≤ 12) : F_reached [netD n (marksD n fun _ _ => 1)] = .ex 5 := by
  have hc := check_ruled_is n h1 h2 fun _ _ => 1
  rw [if_neg (by rintro ⟨⟨z, _⟩, _⟩; exact absurd z (by decide))] at hc
  generalize netD n (marksD n fun _ _ => 1) = N at *
  unfold F_reached fnF B_reached
  simp [startR, hc]
def g13 (k : Nat) (x y : Nat) : Int := if x = 0 ∧ y = 0 then (if k = 0 then 2 else 0) else if y = 0 then 1 else 2
theorem w_13 : F_settled [nets3 (jN 1 g13 0) (jN 1 g13 1) (jN 1 g13 2)] = .ex 5 := by
  have hj := joint_unruled (n := 1) (g := g13) (by decide) (by decide) fun z => absurd (z 0 (by decide)).1.1 (by decide)
  generalize nets3 (jN 1 g13 0) (jN 1 g13 1) (jN 1 g13 2) = N at *
  unfold F_settled fnF B_settled
  simp [startR, hj]
theorem n_13 (k : Nat) (hk : k < 3) : F_Net [marksD 1 (g13 k)] = .ok (jN 1 g13 k) := Net_marks (by decide) (by decide) fun x y _ => by
  unfold g13
  split <;> split <;> omega
theorem size_is : dSize (netD n (marksD n g)) = .ok (.int n) := by simp
theorem zeros_10 {a b : Option (Nat × PyData)} : fLc (iRng [(fC (.int 10))]) (setN 2) fTrue (fBin dRep (fArgs dLst [(fC (.int 0))]) (fBin dSub (fC (.int 10)) (fVar 2))) [2] [a, b, none] = .ok (marksD 9 fun _ _ => 0) :=
  ones_is 0 9 (by decide) rfl fun _ => rfl
theorem first_is (h1 : 1 ≤ n) (hn : n ≤ 8) (w : Nat) (hw : w < 14) : F__law_first [netD n (marksD n g), .int (w : Int)] = if w < 7 then .ex (codes.getD w 0) else .ok .none := by
  have e0 : F_Net [.list [.list [.int 0, .int 1], .list [.int 3]]] = .ex 0 := w_0
  have e1 : F_joint [.list [netD n (marksD n g), netD n (marksD n g), netD (9 : Nat) (marksD 9 fun _ _ => 0)]] = .ex 0 := w_1 hn
  have e1n : F_Net [marksD 9 fun _ _ => 0] = .ok (netD (9 : Nat) (marksD 9 fun _ _ => 0)) := one_ok 0 9 (by decide) (by decide) (by decide)
  have e2 : F_mark [netD n (marksD n g), .int 0, .int ((n : Int) + 1)] = .ex 1 := w_2
  have e3 : F_corners [netD n (marksD n g), .tuple [.int 0, .int 0, .int 2]] = .ex 2 := w_3
  have e4 : F_sense [netD n (marksD n g), .tuple [.int n, .int 0, .int 0]] = .ex 2 := w_4
  have e5 : F_border [netD n (marksD n g), .list [.tuple [.int 0, .int 0, .int 0], .tuple [.int 0, .int 0, .int 0]]] = .ex 3 := (no_floor (g := g) (same_floor (n := n) (0, 0, 0))).1
  have e6 : F_senses [netD n (marksD n g), .list [.tuple [.int (-1), .int 0, .int 0]]] = .ex 3 := (no_floor (g := g) (L := [(-1, 0, 0)]) (bad_floor ⟨_, List.mem_singleton_self _, not_tri_m⟩)).2.1
  have hs := size_is (n := n) (g := g)
  have hz := fun b => zeros_10 (a := some (0, netD n (marksD n g))) (b := b)
  have ha : dAdd (.int (n : Int)) (.int 1) = .ok (.int ((n : Int) + 1)) := rfl
  have hg : dNeg (.int 1) = .ok (.int (-1)) := rfl
  generalize netD n (marksD n g) = N at *
  generalize netD (9 : Nat) (marksD 9 fun _ _ => 0) = N9 at *
  generalize marksD 9 (fun _ _ => 0) = M9 at *
  unfold F__law_first fnF B__law_first
  have hc : w = 0 ∨ w = 1 ∨ w = 2 ∨ w = 3 ∨ w = 4 ∨ w = 5 ∨ w = 6 ∨ 7 ≤ w := by omega
  rcases hc with rfl | rfl | rfl | rfl | rfl | rfl | rfl | hc
  · simp [-r_int2, startR, dLst, e0, codes]
  · simp [-r_int2, startR, dLst, hz, e1n, e1, codes]
  · simp [-r_int2, startR, hs, ha, e2, codes]
  · simp [-r_int2, startR, dTup, e3, codes]
  · simp [-r_int2, startR, hs, dTup, e4, codes]
  · simp [-r_int2, startR, dLst, dTup, e5, codes]
  · simp [-r_int2, startR, dLst, dTup, hg, e6, codes]
  · have q0 : ¬ w = 0 := by omega
    have q1 : ¬ (w : Int) = 1 := by omega
    have q2 : ¬ (w : Int) = 2 := by omega
    have q3 : ¬ (w : Int) = 3 := by omega
    have q4 : ¬ (w : Int) = 4 := by omega
    have q5 : ¬ (w : Int) = 5 := by omega
    have q6 : ¬ (w : Int) = 6 := by omega
    have q7 : ¬ w < 7 := by omega
    simp [-r_int2, startR, q0, q1, q2, q3, q4, q5, q6, q7]
theorem second_is (h1 : 1 ≤ n) (hn : n ≤ 8) (w : Nat) (h7 : 7 ≤ w) (hw : w < 14) : F__law_second [netD n (marksD n g), .int (w : Int)] = .ex (codes.getD w 0) := by
  have e7 : F_turns [netD n (marksD n g), .list [.tuple [.int n, .int 0, .int 0]]] = .ex 3 := (no_floor (g := g) (L := [((n : Int), 0, 0)]) (bad_floor ⟨_, List.mem_singleton_self _, not_tri_n⟩)).2.2.1
  have e8 : F_ends [netD n (marksD n g), .list [.tuple [.int 0, .int 0, .int 0], .tuple [.int 0, .int 0, .int 0]]] = .ex 3 := (no_floor (g := g) (same_floor (n := n) (0, 0, 0))).2.2.2.1
  have e9 : F_walk [netD n (marksD n g), .list [.tuple [.int 0, .int 0, .int 3]], .tuple [.str "whole", .tuple [.int 5, .int 5, .int 1]]] = .ex 3 := (no_floor (g := g) (L := [(0, 0, 3)]) (bad_floor ⟨_, List.mem_singleton_self _, not_tri2 _ _ _ (by decide)⟩)).2.2.2.2 _
  have e10 : F_walk [netD n (marksD n g), .list [], .tuple [.str "whole", .tuple [.int 0, .int 0, .int 0]]] = .ex 4 := w_10 h1
  have e11 : F_partner [netD n (marksD n g), .list [.tuple [.int 0, .int 0, .int 0]], .tuple [.str "door", .tuple [.int 0, .int 0, .int 0], .int 3]] = .ex 4 := w_11 h1
  have e12 := w_12 h1 (Nat.le_trans hn (by decide))
  have e12n := one_ok 1 n h1 (Nat.le_trans hn (by decide)) (by decide)
  have ha : dAdd (.int (n : Int)) (.int 1) = .ok (.int ((n : Int) + 1)) := rfl
  have hs := size_is (n := n) (g := g)
  have hz : ∀ b, fLc (iRng [(fBin dAdd (fUn dSize (fVar 0)) (fC (.int 1)))]) (setN 2) fTrue (fBin dRep (fArgs dLst [(fC (.int 1))]) (fBin dSub (fBin dAdd (fUn dSize (fVar 0)) (fC (.int 1))) (fVar 2))) [2] [some (0, netD n (marksD n g)), b, none] = .ok (marksD n fun _ _ => 1) := fun b =>
    ones_is 1 n (Nat.le_trans hn (by decide)) (by simp [-r_int2, hs, ha]) fun _ => by simp [-r_int2, hs, ha]
  have n0 : F_Net [.list [.list [.int 2, .int 1], .list [.int 2]]] = .ok (jN 1 g13 0) := n_13 0 (by decide)
  have n1 : F_Net [.list [.list [.int 0, .int 1], .list [.int 2]]] = .ok (jN 1 g13 1) := n_13 1 (by decide)
  have n2 : jN 1 g13 2 = jN 1 g13 1 := rfl
  have e13 : F_settled [.list [jN 1 g13 0, jN 1 g13 1, jN 1 g13 1]] = .ex 5 := w_13
  generalize jN 1 g13 0 = J0 at *
  generalize jN 1 g13 1 = J1 at *
  generalize netD n (marksD n g) = N at *
  generalize netD n (marksD n fun _ _ => 1) = N1 at *
  generalize marksD n (fun _ _ => 1) = M1 at *
  unfold F__law_second fnF B__law_second
  have hc : w = 7 ∨ w = 8 ∨ w = 9 ∨ w = 10 ∨ w = 11 ∨ w = 12 ∨ w = 13 := by omega
  rcases hc with rfl | rfl | rfl | rfl | rfl | rfl | rfl
  · simp [-r_int2, startR, hs, dLst, dTup, e7, codes]
  · simp [-r_int2, startR, dLst, dTup, e8, codes]
  · simp [-r_int2, startR, dLst, dTup, e9, codes]
  · simp [-r_int2, startR, dLst, dTup, e10, codes]
  · simp [-r_int2, startR, dLst, dTup, e11, codes]
  · simp [-r_int2, startR, hz, e12n, e12, codes]
  · simp [-r_int2, startR, dLst, n0, n1, e13, codes]
theorem met_is (h1 : 1 ≤ n) (hn : n ≤ 8) (w : Nat) (hw : w < 14) : F__law_met [netD n (marksD n g), .int (w : Int)] = .ok (.int (codes.getD w 0 : Nat)) := by
  have h1' := first_is (g := g) h1 hn w hw
  have h2' := fun h7 => second_is (g := g) h1 hn w h7 hw
  have hlt : ∀ w, w < 14 → codes.getD w 0 < 6 := by decide
  have hlt := hlt w hw
  generalize netD n (marksD n g) = N at *
  have hx : (seqF' (sDrop (fArgs F__law_first [(fVar 0), (fVar 1)])) (sDrop (fArgs F__law_second [(fVar 0), (fVar 1)]))) [some (0, N), some (0, .int w), none] = .ex (codes.getD w 0) [some (0, N), some (0, .int w), none] := by
    by_cases q : w < 7
    · rw [if_pos q] at h1'
      simp [-r_int2, h1']
    · rw [if_neg q] at h1'
      simp [-r_int2, h1', h2' (by omega)]
  generalize codes.getD w 0 = c at *
  unfold F__law_met fnF B__law_met
  simp only [startR, List.map_cons, List.map_nil, List.length_cons, List.length_nil, List.replicate, List.cons_append, List.nil_append]
  have hl : ([(0, some (fun a => (fHot 2 a 0))), (1, some (fun a => (fHot 2 a 1))), (2, some (fun a => (fHot 2 a 2))), (3, some (fun a => (fHot 2 a 3))), (4, some (fun a => (fHot 2 a 4))), (5, some (fun a => (fHot 2 a 5)))] : List (Nat × Option (Nat → FE))).lookup c = some (some fun a => fHot 2 a c) := by
    have hc : c = 0 ∨ c = 1 ∨ c = 2 ∨ c = 3 ∨ c = 4 ∨ c = 5 := by omega
    rcases hc with rfl | rfl | rfl | rfl | rfl | rfl <;> rfl
  have ht := try1_ex (i := 2) (d := .int (c : Nat)) (f := fun a => fHot 2 a c) hx hl (by simp) fun a => (if_pos rfl : (if (a : Int) = (a : Int) then O.ok (.int (c : Nat)) else O.bad) = _)
  rw [r_seq, ht]
end
theorem law_holds (ns : List Int) : F_law [scrD (ns.map PyData.int)] = .ok (.bool true) := by
  obtain ⟨n, h1, hn, hm⟩ := marks_is ns 8 (by decide) (by decide)
  have hM : MOk n (mF ns) := mF_ok ns (Nat.le_trans hn (by decide))
  have hnet := net_ok h1 (Nat.le_trans hn (by decide)) hM
  have hc : F__law_cell_at [scrD (ns.map .int), .int 1] = .ok (.int (cellV ns 1)) := cell_eq ns 1
  generalize cellV ns 1 = c at *
  obtain ⟨r, hr, er⟩ : ∃ r : Nat, r < 14 ∧ c % 14 = r := ⟨(c % 14).toNat, by omega, by omega⟩
  have hmod : dMod (.int c) (.int 14) = .ok (.int r) := by rw [mod_ok (by decide), er]
  have hmet := fun w hw => met_is (g := mF ns) h1 hn w hw
  have hmk : dMarks (netD n (marksD n (mF ns))) = .ok (marksD n (mF ns)) := by simp
  have hsame : dEq (marksD n (mF ns)) (marksD n (mF ns)) = .ok (.bool true) := dEq_same (lays_marks _ _) (flat_marks _ _)
  have e8 : ((8 : Nat) : Int) = 8 := rfl
  rw [e8] at hm
  generalize scrD (ns.map .int) = S at *
  generalize netD n (marksD n (mF ns)) = N at *
  generalize marksD n (mF ns) = Mk at *
  have hir : iRng [(fC (.int 14))] [some (0, S), some (0, Mk), some (0, N), some (0, .int r), none, none] = .ok ((List.range 14).map fun k : Nat => .int k) := rng1 rfl (by decide)
  obtain ⟨ρ', hk, a, b, rfl⟩ := sFor_nx (set := setN 4) (body := (seqF' (sSet 5 0 (fBin dMod (fBin dAdd (fVar 3) (fVar 4)) (fC (.int 14))))
  (sIf (fBin dNe (fArgs F__law_met [(fVar 2), (fVar 5)]) (fBin dIx (fArgs dLst [(fC (.int 0)), (fC (.int 0)), (fC (.int 1)), (fC (.int 2)), (fC (.int 2)), (fC (.int 3)), (fC (.int 3)), (fC (.int 3)), (fC (.int 3)), (fC (.int 3)), (fC (.int 4)), (fC (.int 4)), (fC (.int 5)), (fC (.int 5))]) (fVar 5))) (sRet (fC (.bool false))) fNext)))
    (fun _ ρ => ∃ a b, ρ = [some (0, S), some (0, Mk), some (0, N), some (0, .int r), a, b]) hir ⟨none, none, rfl⟩ (by
    rintro pre k post ρ e ⟨a, b, rfl⟩
    have hk := List.mem_range.mp (show k ∈ List.range 14 by rw [e]; simp)
    show afterN (seqF' _ _ [some (0, S), some (0, Mk), some (0, N), some (0, .int r), some (0, .int k), b]) _
    obtain ⟨w, hw, ew⟩ : ∃ w : Nat, w < 14 ∧ ((r : Int) + k) % 14 = w := ⟨(((r : Int) + k) % 14).toNat, by omega, by omega⟩
    have hadd : dAdd (.int (r : Int)) (.int (k : Int)) = .ok (.int ((r : Int) + k)) := rfl
    have hmw : dMod (.int ((r : Int) + k)) (.int 14) = .ok (.int w) := by rw [mod_ok (by decide), ew]
    have h1 := hmet w hw
    have h2 : dIx (.list [.int 0, .int 0, .int 1, .int 2, .int 2, .int 3, .int 3, .int 3, .int 3, .int 3, .int 4, .int 4, .int 5, .int 5]) (.int (w : Int)) = .ok (.int (codes.getD w 0 : Nat)) := by
      have hc : w = 0 ∨ w = 1 ∨ w = 2 ∨ w = 3 ∨ w = 4 ∨ w = 5 ∨ w = 6 ∨ w = 7 ∨ w = 8 ∨ w = 9 ∨ w = 10 ∨ w = 11 ∨ w = 12 ∨ w = 13 := by omega
      rcases hc with rfl | rfl | rfl | rfl | rfl | rfl | rfl | rfl | rfl | rfl | rfl | rfl | rfl | rfl <;> rfl
    generalize codes.getD w 0 = cw at *
    simp [-r_int2, hadd, hmw, h1, h2, dLst])
  unfold F_law fnF B_law
  simp only [startR, List.map_cons, List.map_nil, List.length_cons, List.length_nil, List.replicate, List.cons_append, List.nil_append]
  simp [-r_int2, hm, hnet, hc, hmod, hk, hmk, hsame]
end Me
theorem PySem.Challenge.cw_cornerdoors_k16_refusals_apart_holds : PySem.Challenge.rw_cornerdoors_k16_refusals_apart.Holds :=
  Me.end_ fun ns _ => Me.law_holds ns

