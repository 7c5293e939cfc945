import PyProof.Rows.All
import HandS.ForMost
import HandS.Deep
import HandS.Conv
import HandS.Style
import HandS.Strs
import HandS.TupSets
import HandS.SortInts
import HandS.IsInst
import HandS.Flow
import HandS.Wide
import HandS.Exc
import HandS.TupAny
import HandS.TupMul
import HandS.RevRange
import HandS.NoneIn
import KE.SortData
import HandS.Dict
import HandS.Iter
import HandS.TupLen
import HandS.WordsDict
import KE.KDictDisplayH
import HandS.SetFor
import HandS.More
import PySem.Challenge.RW_pointmaps_k85_orders_and_signs
set_option Elab.async false
set_option linter.all false
set_option maxRecDepth 100000
set_option maxHeartbeats 4000000
/-! PM: plain values of the program, over the hand layer. -/
namespace PM
open PySem PySem.Spec PyProof.Rows L2

def keyD : Key → PyData
  | .inl i => .int i
  | .inr x => .str x


/-- a list that the module itself holds -/
def KL (K : PySem.W.Frag) (a : Addr) (xs : List V) : Prop :=
  ∃ (o : Obj) (its : Array Value) (n : Nat), K.lookup a = some o ∧ o.cls = .type "list" ∧ o.dict = none ∧ o.data = .seq its n ∧ its.size ≤ sizeLine ∧ Vals xs its.toList
/-- the script -/
def ScrL (K : PySem.W.Frag) (H : Hp) (a : Addr) (xs : List V) : Prop := (∃ o, H a = some (.frz o (.lst xs))) ∨ KL K a xs
theorem ScrL.sq {K : PySem.W.Frag} {H : Hp} {a : Addr} {xs : List V} (h : ScrL K H a xs) : SqL K H a xs := by
  rcases h with ⟨o, h⟩ | h
  · exact .inl (.inr ⟨o, h⟩)
  · exact .inr h

mutual
/-- the value v stands for the plain data d; every object in it that can be changed satisfies ok -/
inductive Rp (K : PySem.W.Frag) (H : Hp) (ok : Addr → Prop) : V → PyData → Prop
  | non : Rp K H ok .non .none
  | bl (b : Bool) : Rp K H ok (.bl b) (.bool b)
  | int (i : Int) : Rp K H ok (.int i) (.int i)
  | str (x : Str) : Rp K H ok (.str x) (.str x)
  | lst {a : Addr} {xs : List V} {ds : List PyData} : ok a → H a = some (.lst xs) → RpL K H ok xs ds → Rp K H ok (.ref a) (.list ds)
  | tup {a : Addr} {xs : List V} {ds : List PyData} : H a = some (.tup xs) → RpL K H ok xs ds → Rp K H ok (.ref a) (.tuple ds)
  | dK {a : Addr} {kvs : List (Key × V)} {vs : List PyData} : ok a → Rd H a (.dK kvs) → RpL K H ok (kvs.map (·.2)) vs → Rp K H ok (.ref a) (.dict ((.bool false, .none) :: (kvs.map fun p => keyD p.1).zip vs))
  | dT {a : Addr} {kvs : List (List Key × V)} {vs : List PyData} : ok a → Rd H a (.dT kvs) → RpL K H ok (kvs.map (·.2)) vs → Rp K H ok (.ref a) (.dict ((.bool true, .none) :: (kvs.map fun p => PyData.tuple (p.1.map keyD)).zip vs))
  | scr {a : Addr} {ns : List Int} : ScrL K H a (ns.map V.int) → Rp K H ok (.ref a) (.dict [(.none, .list (ns.map .int))])
inductive RpL (K : PySem.W.Frag) (H : Hp) (ok : Addr → Prop) : List V → List PyData → Prop
  | nil : RpL K H ok [] []
  | cons {v : V} {vs : List V} {d : PyData} {ds : List PyData} : Rp K H ok v d → RpL K H ok vs ds → RpL K H ok (v :: vs) (d :: ds)
end

/-- nothing that was tracked has changed -/
abbrev Ext (H H' : Hp) : Prop := Same H H'
/-- what never changes by itself -/
def Stab : HO → Prop
  | .tup _ => True
  | .frz _ _ => True
  | _ => False

section
variable {K : PySem.W.Frag} {H H' H'' : Hp} {ok ok' : Addr → Prop}
theorem none_ne {a : Addr} {o : HO} (h : H a = some o) : H a ≠ none := by rw [h]; exact fun z => nomatch z
theorem rd_ne {a : Addr} {u : HO} (r : Rd H a u) : H a ≠ none := by
  rcases r with r | ⟨o, r⟩
  · exact none_ne r
  · exact none_ne r
theorem rd_to {a : Addr} {u : HO} (hk : ∀ o, H a = some o → H' a = some o) (r : Rd H a u) : Rd H' a u := by
  rcases r with r | ⟨o, r⟩
  · exact .inl (hk _ r)
  · exact .inr ⟨o, hk _ r⟩
mutual
/-- from one heap and one promise of the changeable objects to another -/
theorem Rp.to (he : ∀ a, ok a → H a ≠ none → ok' a) (hk : ∀ a o, H a = some o → ok a ∨ Stab o → H' a = some o) : ∀ {v : V} {d : PyData}, Rp K H ok v d → Rp K H' ok' v d
  | _, _, .non => .non
  | _, _, .bl b => .bl b
  | _, _, .int i => .int i
  | _, _, .str x => .str x
  | _, _, .lst h1 h2 h3 => .lst (he _ h1 (none_ne h2)) (hk _ _ h2 (.inl h1)) (RpL.to he hk h3)
  | _, _, .tup h2 h3 => .tup (hk _ _ h2 (.inr trivial)) (RpL.to he hk h3)
  | _, _, .dK h1 h2 h3 => .dK (he _ h1 (rd_ne h2)) (rd_to (fun o q => hk _ o q (.inl h1)) h2) (RpL.to he hk h3)
  | _, _, .dT h1 h2 h3 => .dT (he _ h1 (rd_ne h2)) (rd_to (fun o q => hk _ o q (.inl h1)) h2) (RpL.to he hk h3)
  | _, _, .scr h => .scr (by
      rcases h with ⟨o, h⟩ | h
      · exact .inl ⟨o, hk _ _ h (.inr trivial)⟩
      · exact .inr h)
theorem RpL.to (he : ∀ a, ok a → H a ≠ none → ok' a) (hk : ∀ a o, H a = some o → ok a ∨ Stab o → H' a = some o) : ∀ {vs : List V} {ds : List PyData}, RpL K H ok vs ds → RpL K H' ok' vs ds
  | _, _, .nil => .nil
  | _, _, .cons h t => .cons (Rp.to he hk h) (RpL.to he hk t)
end
theorem Rp.ext {v : V} {d : PyData} (h : Rp K H ok v d) (e : Ext H H') : Rp K H' ok v d := h.to (fun _ q _ => q) fun a o q _ => e a o q
theorem RpL.ext {vs : List V} {ds : List PyData} (h : RpL K H ok vs ds) (e : Ext H H') : RpL K H' ok vs ds := h.to (fun _ q _ => q) fun a o q _ => e a o q
theorem Rp.imp {v : V} {d : PyData} (h : Rp K H ok v d) (e : ∀ a, ok a → H a ≠ none → ok' a) : Rp K H ok' v d := h.to e fun _ _ q _ => q
theorem RpL.imp {vs : List V} {ds : List PyData} (h : RpL K H ok vs ds) (e : ∀ a, ok a → H a ≠ none → ok' a) : RpL K H ok' vs ds := h.to e fun _ _ q _ => q
theorem RpL.length : ∀ {vs : List V} {ds : List PyData}, RpL K H ok vs ds → vs.length = ds.length
  | _, _, .nil => rfl
  | _, _, .cons _ t => congrArg (· + 1) t.length
theorem RpL.get : ∀ {vs : List V} {ds : List PyData} {i : Nat} {d : PyData}, RpL K H ok vs ds → ds[i]? = some d → ∃ v, vs[i]? = some v ∧ Rp K H ok v d
  | _, _, _, _, .nil, e => by simp at e
  | _, _, 0, _, .cons h _, e => by simp at e; subst e; exact ⟨_, rfl, h⟩
  | _, _, i + 1, d, .cons _ t, e => by
    obtain ⟨v, h1, h2⟩ := RpL.get (i := i) (d := d) t (by simpa using e)
    exact ⟨v, by simpa using h1, h2⟩
theorem RpL.getV : ∀ {vs : List V} {ds : List PyData} {i : Nat} {v : V}, RpL K H ok vs ds → vs[i]? = some v → ∃ d, ds[i]? = some d ∧ Rp K H ok v d
  | _, _, _, _, .nil, e => by simp at e
  | _, _, 0, _, .cons h _, e => by simp at e; subst e; exact ⟨_, rfl, h⟩
  | _, _, i + 1, d, .cons _ t, e => by
    obtain ⟨v, h1, h2⟩ := RpL.getV (i := i) (v := d) t (by simpa using e)
    exact ⟨v, by simpa using h1, h2⟩
theorem RpL.append : ∀ {vs ws : List V} {ds es : List PyData}, RpL K H ok vs ds → RpL K H ok ws es → RpL K H ok (vs ++ ws) (ds ++ es)
  | _, _, _, _, .nil, s => s
  | _, _, _, _, .cons h t, s => .cons h (t.append s)
theorem RpL.take : ∀ {vs : List V} {ds : List PyData} (n : Nat), RpL K H ok vs ds → RpL K H ok (vs.take n) (ds.take n)
  | _, _, 0, _ => .nil
  | _, _, _ + 1, .nil => .nil
  | _, _, n + 1, .cons h t => .cons h (t.take n)
theorem RpL.drop : ∀ {vs : List V} {ds : List PyData} (n : Nat), RpL K H ok vs ds → RpL K H ok (vs.drop n) (ds.drop n)
  | _, _, 0, r => r
  | _, _, _ + 1, .nil => .nil
  | _, _, n + 1, .cons _ t => t.drop n
theorem RpL.set {v : V} {d : PyData} (h : Rp K H ok v d) : ∀ {vs : List V} {ds : List PyData} (i : Nat), RpL K H ok vs ds → RpL K H ok (vs.set i v) (ds.set i d)
  | _, _, _, .nil => .nil
  | _, _, 0, .cons _ t => .cons h t
  | _, _, i + 1, .cons q t => .cons q (RpL.set h i t)
theorem RpL.one {v : V} {d : PyData} (h : Rp K H ok v d) : RpL K H ok [v] [d] := .cons h .nil
theorem RpL.reverse : ∀ {vs : List V} {ds : List PyData}, RpL K H ok vs ds → RpL K H ok vs.reverse ds.reverse
  | _, _, .nil => .nil
  | _, _, .cons h t => by
    rw [List.reverse_cons, List.reverse_cons]
    exact t.reverse.append (.one h)
theorem RpL.eraseIdx : ∀ {vs : List V} {ds : List PyData} (i : Nat), RpL K H ok vs ds → RpL K H ok (vs.eraseIdx i) (ds.eraseIdx i)
  | _, _, _, .nil => .nil
  | _, _, 0, .cons _ t => t
  | _, _, i + 1, .cons h t => .cons h (t.eraseIdx i)
theorem RpL.dropLast {vs : List V} {ds : List PyData} (h : RpL K H ok vs ds) : RpL K H ok vs.dropLast ds.dropLast := by
  rw [List.dropLast_eq_take, List.dropLast_eq_take, h.length]
  exact h.take _
theorem RpL.rep {vs : List V} {ds : List PyData} (h : RpL K H ok vs ds) : ∀ k : Nat, RpL K H ok (List.replicate k vs).flatten (List.replicate k ds).flatten
  | 0 => .nil
  | k + 1 => by
    rw [List.replicate_succ, List.replicate_succ, List.flatten_cons, List.flatten_cons]
    exact h.append (h.rep k)
theorem RpL.nil_iff {vs : List V} {ds : List PyData} (h : RpL K H ok vs ds) : vs = [] ↔ ds = [] := by
  cases h with
  | nil => simp
  | cons _ _ => simp
theorem RpL.ints : ∀ {vs : List V} {ns : List Int}, RpL K H ok vs (ns.map .int) → vs = ns.map V.int
  | _, [], h => by cases h; rfl
  | _, n :: ns, h => by
    cases h with
    | cons h t => cases h; rw [t.ints]; rfl
theorem RpL.of_ints : ∀ (ns : List Int), RpL K H ok (ns.map V.int) (ns.map .int)
  | [] => .nil
  | n :: ns => .cons (.int n) (RpL.of_ints ns)

/-! ### as the hand layer's data (for == and its like) -/
mutual
def noDict : PyData → Bool
  | .dict _ => false
  | .list xs => noDictL xs
  | .tuple xs => noDictL xs
  | _ => true
def noDictL : List PyData → Bool
  | [] => true
  | x :: xs => noDict x && noDictL xs
end
mutual
theorem Rp.dp : ∀ {v : V} {d : PyData}, Rp K H ok v d → noDict d = true → Dp K H v d
  | _, _, .non, _ => .non
  | _, _, .bl b, _ => .bl b
  | _, _, .int i, _ => .int i
  | _, _, .str x, _ => .str x
  | _, _, .lst _ h2 h3, n => .lst (SqL.of h2) (RpL.dp h3 (by simpa [noDict] using n))
  | _, _, .tup h2 h3, n => .tup (SqT.of h2) (RpL.dp h3 (by simpa [noDict] using n))
  | _, _, .dK _ _ _, n => by simp [noDict] at n
  | _, _, .dT _ _ _, n => by simp [noDict] at n
  | _, _, .scr _, n => by simp [noDict] at n
theorem RpL.dp : ∀ {vs : List V} {ds : List PyData}, RpL K H ok vs ds → noDictL ds = true → DpAll K H vs ds
  | _, _, .nil, _ => .nil
  | _, _, .cons h t, n => by
    rw [noDictL, Bool.and_eq_true] at n
    exact .cons (Rp.dp h n.1) (RpL.dp t n.2)
end

/-! ### what holds nothing that can be changed -/
mutual
def nn : PyData → Bool
  | .list _ => false
  | .dict _ => false
  | .tuple xs => nnL xs
  | _ => true
def nnL : List PyData → Bool
  | [] => true
  | x :: xs => nn x && nnL xs
end
mutual
theorem Rp.any : ∀ {v : V} {d : PyData}, Rp K H ok v d → nn d = true → Rp K H ok' v d
  | _, _, .non, _ => .non
  | _, _, .bl b, _ => .bl b
  | _, _, .int i, _ => .int i
  | _, _, .str x, _ => .str x
  | _, _, .lst _ _ _, n => by simp [nn] at n
  | _, _, .tup h2 h3, n => .tup h2 (RpL.any h3 (by simpa [nn] using n))
  | _, _, .dK _ _ _, n => by simp [nn] at n
  | _, _, .dT _ _ _, n => by simp [nn] at n
  | _, _, .scr _, n => by simp [nn] at n
theorem RpL.any : ∀ {vs : List V} {ds : List PyData}, RpL K H ok vs ds → nnL ds = true → RpL K H ok' vs ds
  | _, _, .nil, _ => .nil
  | _, _, .cons h t, n => by
    rw [nnL, Bool.and_eq_true] at n
    exact .cons (Rp.any h n.1) (RpL.any t n.2)
end
def isMut : PyData → Bool
  | .list _ => true
  | .dict _ => true
  | _ => false

/-! ### a changeable object that nothing else holds: itself as it stands, what it holds satisfies ok -/
inductive Shell (K : PySem.W.Frag) (H : Hp) (ok : Addr → Prop) (a : Addr) : PyData → Prop
  | lst {xs : List V} {ds : List PyData} : H a = some (.lst xs) → RpL K H ok xs ds → Shell K H ok a (.list ds)
  | dK {kvs : List (Key × V)} {vs : List PyData} : H a = some (.dK kvs) → RpL K H ok (kvs.map (·.2)) vs → Shell K H ok a (.dict ((.bool false, .none) :: (kvs.map fun p => keyD p.1).zip vs))
  | dT {kvs : List (List Key × V)} {vs : List PyData} : H a = some (.dT kvs) → RpL K H ok (kvs.map (·.2)) vs → Shell K H ok a (.dict ((.bool true, .none) :: (kvs.map fun p => PyData.tuple (p.1.map keyD)).zip vs))
theorem Shell.rp {a : Addr} {d : PyData} (h : Shell K H ok a d) (o : ok a) : Rp K H ok (.ref a) d := by
  cases h with
  | lst h1 h2 => exact .lst o h1 h2
  | dK h1 h2 => exact .dK o (.inl h1) h2
  | dT h1 h2 => exact .dT o (.inl h1) h2
theorem Shell.ne {a : Addr} {d : PyData} (h : Shell K H ok a d) : H a ≠ none := by
  cases h with
  | lst h1 h2 => exact none_ne h1
  | dK h1 h2 => exact none_ne h1
  | dT h1 h2 => exact none_ne h1
theorem Shell.to {a : Addr} {d : PyData} (h : Shell K H ok a d) (ha : ∀ o, H a = some o → H' a = some o) (he : ∀ a, ok a → H a ≠ none → ok' a) (hk : ∀ a o, H a = some o → ok a ∨ Stab o → H' a = some o) : Shell K H' ok' a d := by
  cases h with
  | lst h1 h2 => exact .lst (ha _ h1) (h2.to he hk)
  | dK h1 h2 => exact .dK (ha _ h1) (h2.to he hk)
  | dT h1 h2 => exact .dT (ha _ h1) (h2.to he hk)
theorem Shell.mut {a : Addr} {d : PyData} (h : Shell K H ok a d) : isMut d = true := by cases h <;> rfl

/-- as Rp, the root itself unpromised -/
inductive RpB (K : PySem.W.Frag) (H : Hp) (ok : Addr → Prop) : V → PyData → Prop
  | of {v : V} {d : PyData} : Rp K H ok v d → RpB K H ok v d
  | sh {a : Addr} {d : PyData} : Shell K H ok a d → RpB K H ok (.ref a) d
theorem RpB.tru {v : V} {d : PyData} (h : RpB K H ok v d) : Rp K H (fun _ => True) v d := by
  cases h with
  | of h => exact h.imp fun _ _ _ => trivial
  | sh h => exact (h.to (fun _ q => q) (fun _ _ _ => trivial) (fun _ _ q _ => q)).rp trivial
theorem RpB.ext {v : V} {d : PyData} (h : RpB K H ok v d) (e : Ext H H') : RpB K H' ok v d := by
  cases h with
  | of h => exact .of (h.ext e)
  | sh h => exact .sh (h.to (fun o q => e _ o q) (fun _ q _ => q) fun a o q _ => e a o q)
theorem RpB.list {v : V} {ds : List PyData} (h : RpB K H ok v (.list ds)) : ∃ a xs, v = .ref a ∧ H a = some (.lst xs) ∧ RpL K H ok xs ds := by
  cases h with
  | of h => cases h with | lst h1 h2 h3 => exact ⟨_, _, rfl, h2, h3⟩
  | sh h => cases h with | lst h1 h2 => exact ⟨_, _, rfl, h1, h2⟩
theorem RpB.tuple {v : V} {ds : List PyData} (h : RpB K H ok v (.tuple ds)) : ∃ a xs, v = .ref a ∧ H a = some (.tup xs) ∧ RpL K H ok xs ds := by
  cases h with
  | of h => cases h with | tup h2 h3 => exact ⟨_, _, rfl, h2, h3⟩
  | sh h => cases h
theorem RpB.int {v : V} {i : Int} (h : RpB K H ok v (.int i)) : v = .int i := by
  cases h with
  | of h => cases h; rfl
  | sh h => cases h
theorem RpB.bl {v : V} {i : Bool} (h : RpB K H ok v (.bool i)) : v = .bl i := by
  cases h with
  | of h => cases h; rfl
  | sh h => cases h
theorem RpB.str {v : V} {i : Str} (h : RpB K H ok v (.str i)) : v = .str i := by
  cases h with
  | of h => cases h; rfl
  | sh h => cases h
theorem RpB.non {v : V} (h : RpB K H ok v .none) : v = .non := by
  cases h with
  | of h => cases h; rfl
  | sh h => cases h
theorem RpB.dp {v : V} {d : PyData} (h : RpB K H ok v d) (n : noDict d = true) : Dp K H v d := h.tru.dp n
end
end PM

set_option Elab.async false
set_option linter.all false
set_option maxRecDepth 100000
set_option maxHeartbeats 4000000
/-! PM: judgements. -/
namespace PM
open PySem PySem.Spec PyProof.Rows L2

/-- the plain data by slot -/
abbrev Sg := L2.St
abbrev Dt := List (Option PyData)

abbrev FE := Dt → Option PyData
abbrev FA := Dt → Option (List PyData)
abbrev FT := Dt → Option Bool

/-- the slots' values stand for δ; those in esc with all their objects -/
structure SlE (K : PySem.W.Frag) (ok : Addr → Prop) (esc : List Nat) (σ : Sg) (H : Hp) (δ : Dt) : Prop where
  len : δ.length = σ.length
  at_ : ∀ i d, δ[i]? = some (some d) → ∃ v, σ[i]? = some (some v) ∧ RpB K H ok v d ∧ (i ∈ esc → Rp K H ok v d)
def Fresh (H : Hp) (ok : Addr → Prop) : Prop := ∀ a, H a = none → ok a
section
variable {K : PySem.W.Frag} {H H' : Hp} {ok : Addr → Prop} {esc esc' : List Nat} {σ : Sg} {δ : Dt}
theorem SlE.ext (h : SlE K ok esc σ H δ) (e : Ext H H') : SlE K ok esc σ H' δ := ⟨h.len, fun i d q =>
  let ⟨v, h1, h2, h3⟩ := h.at_ i d q; ⟨v, h1, h2.ext e, fun m => (h3 m).ext e⟩⟩
theorem SlE.sub (h : SlE K ok esc σ H δ) (s : ∀ i, i ∈ esc' → i ∈ esc) : SlE K ok esc' σ H δ := ⟨h.len, fun i d q =>
  let ⟨v, h1, h2, h3⟩ := h.at_ i d q; ⟨v, h1, h2, fun m => h3 (s i m)⟩⟩
theorem SlE.l (h : SlE K ok (esc ++ esc') σ H δ) : SlE K ok esc σ H δ := h.sub fun i m => List.mem_append_left _ m
theorem SlE.r (h : SlE K ok (esc ++ esc') σ H δ) : SlE K ok esc' σ H δ := h.sub fun i m => List.mem_append_right _ m
theorem SlE.tru (h : SlE K ok esc σ H δ) (e : List Nat) : SlE K (fun _ => True) e σ H δ := ⟨h.len, fun i d q =>
  let ⟨v, h1, h2, _⟩ := h.at_ i d q; ⟨v, h1, .of h2.tru, fun _ => h2.tru⟩⟩
theorem SlE.imp {ok' : Addr → Prop} (h : SlE K ok esc σ H δ) (e : ∀ a, ok a → H a ≠ none → ok' a) : SlE K ok' esc σ H δ := ⟨h.len, fun i d q =>
  let ⟨v, h1, h2, h3⟩ := h.at_ i d q; ⟨v, h1, by
    cases h2 with
    | of h => exact .of (h.imp e)
    | sh h => exact .sh (h.to (fun _ q => q) e fun _ _ q _ => q), fun m => (h3 m).imp e⟩⟩
theorem Fresh.ext (h : Fresh H ok) (e : Ext H H') : Fresh H' ok := fun a q => h a (e.free q)
/-- slots forgotten -/
def wipeD (δ : Dt) : List Nat → Dt
  | [] => δ
  | v :: vs => (wipeD δ vs).set v none
theorem wipeD_len (δ : Dt) : ∀ vs : List Nat, (wipeD δ vs).length = δ.length
  | [] => rfl
  | v :: vs => by unfold wipeD; rw [List.length_set, wipeD_len δ vs]
theorem SlE.wipe1 (h : SlE K ok esc σ H δ) (v : Nat) : SlE K ok esc (σ.set v none) H (δ.set v none) := ⟨by rw [List.length_set, List.length_set]; exact h.len, fun i d q => by
  by_cases hi : v = i
  · subst hi
    by_cases hv : v < δ.length
    · rw [List.getElem?_set_self hv] at q; cases q
    · rw [List.getElem?_eq_none (by simpa using hv)] at q; cases q
  · rw [List.getElem?_set_ne hi] at q ⊢
    exact h.at_ i d q⟩
theorem SlE.wipe (h : SlE K ok esc σ H δ) : ∀ vs : List Nat, SlE K ok esc (wipe σ vs) H (wipeD δ vs)
  | [] => h
  | v :: vs => (h.wipe vs).wipe1 v
theorem SlE.set (h : SlE K ok esc σ H δ) {v : V} {d : PyData} (r : Rp K H ok v d) (i : Nat) : SlE K ok esc (σ.set i (some v)) H (δ.set i (some d)) := ⟨by rw [List.length_set, List.length_set]; exact h.len, fun j d' q => by
  by_cases hi : i = j
  · subst hi
    by_cases hv : i < δ.length
    · rw [List.getElem?_set_self hv] at q
      cases q
      exact ⟨v, List.getElem?_set_self (by rw [← h.len]; exact hv), .of r, fun _ => r⟩
    · rw [List.getElem?_eq_none (by simpa using hv)] at q; cases q
  · rw [List.getElem?_set_ne hi] at q ⊢
    exact h.at_ j d' q⟩
end

/-- an expression's value -/
def ResR (K : PySem.W.Frag) (H : Hp) (ok : Addr → Prop) (H' : Hp) (v : V) (d : PyData) (fr : Bool) : Prop :=
  Rp K H' ok v d ∧ (fr = true → isMut d = true → ∃ a, v = .ref a ∧ H a = none ∧ Shell K H' (fun b => ok b ∧ b ≠ a) a d)
theorem ResR.no {K : PySem.W.Frag} {H H' : Hp} {ok : Addr → Prop} {v : V} {d : PyData} (h : Rp K H' ok v d) : ResR K H ok H' v d false := ⟨h, fun q => nomatch q⟩
theorem ResR.im {K : PySem.W.Frag} {H H' : Hp} {ok : Addr → Prop} {v : V} {d : PyData} {fr : Bool} (h : Rp K H' ok v d) (m : isMut d = false) : ResR K H ok H' v d fr := ⟨h, fun _ q => by rw [m] at q; cases q⟩

def tE (K : PySem.W.Frag) (f : FE) (esc : List Nat) (fr : Bool) : TE := fun σ H Q => ∃ ok δ d, Fresh H ok ∧ SlE K ok esc σ H δ ∧ f δ = some d ∧ ∀ v H', Ext H H' → ResR K H ok H' v d fr → Q v H'
def tB (K : PySem.W.Frag) (f : FE) (esc : List Nat) : TE := fun σ H Q => ∃ ok δ d, Fresh H ok ∧ SlE K ok esc σ H δ ∧ f δ = some d ∧ ∀ v H', Ext H H' → RpB K H' ok v d → Q v H'
def tA (K : PySem.W.Frag) (f : FA) (esc : List Nat) : TA := fun σ H Q => ∃ ok δ ds, Fresh H ok ∧ SlE K ok esc σ H δ ∧ f δ = some ds ∧ ∀ vs H', Ext H H' → RpL K H' ok vs ds → Q vs H'
def tT (K : PySem.W.Frag) (f : FT) : TT := fun σ H Q => ∃ δ b, SlE K (fun _ => True) [] σ H δ ∧ f δ = some b ∧ ∀ H', Ext H H' → Q b H'
/-- expression; operand; arguments; test -/
def PEI (X : Cx) (e : Expr) (f : FE) (esc : List Nat) (fr : Bool) : Prop := PE X e (tE X.K f esc fr)
def PEB (X : Cx) (e : Expr) (f : FE) (esc : List Nat) : Prop := PE X e (tB X.K f esc)
def PAI (X : Cx) (es : List Expr) (f : FA) (esc : List Nat) : Prop := PA X es (tA X.K f esc)
def PTI (X : Cx) (e : Expr) (f : FT) : Prop := PT X e (tT X.K f)
def PWI (X : Cx) (e : Expr) (f : FT) : Prop := PW X e (tT X.K f)

section
variable {X : Cx} {e a b c : Expr} {es : List Expr} {pos : Pos} {f g : FE} {fs : FA} {esc esc' : List Nat} {fr fr' : Bool} {t u : TE} {p q : FT}
theorem pe_imp (h : PE X e t) (i : ∀ σ H Q, u σ H Q → t σ H Q) : PE X e u := ⟨fun pins s σ H Q I w => h.run pins s σ H Q I (i _ _ _ w)⟩
theorem pt_imp {t u : TT} (h : PT X e t) (i : ∀ σ H Q, u σ H Q → t σ H Q) : PT X e u := ⟨fun pins s σ H Q I w => h.run pins s σ H Q I (i _ _ _ w)⟩
theorem pw_imp {t u : TT} (h : PW X e t) (i : ∀ σ H Q, u σ H Q → t σ H Q) : PW X e u := ⟨fun wh pins s σ H Q I w => h.run wh pins s σ H Q I (i _ _ _ w)⟩
theorem pa_imp {t u : TA} (h : PA X es t) (i : ∀ σ H Q, u σ H Q → t σ H Q) : PA X es u := ⟨fun pos pins s σ H Q I w => h.run pos pins s σ H Q I (i _ _ _ w)⟩
theorem pe_or2 (h1 : PE X e t) (h2 : PE X e u) : PE X e (fun σ H Q => t σ H Q ∨ u σ H Q) := ⟨fun pins s σ H Q I w => w.elim (h1.run pins s σ H Q I) (h2.run pins s σ H Q I)⟩

/-! ### operands -/
def vr (i : Nat) : FE := fun δ => (δ[i]?).join
theorem vr_some {i : Nat} {δ : Dt} {d : PyData} (h : vr i δ = some d) : δ[i]? = some (some d) := by
  unfold vr at h
  cases q : δ[i]? with
  | none => rw [q] at h; cases h
  | some z => rw [q] at h; rw [show z = some d from h]
theorem eb (h : PEI X e f esc fr) : PEB X e f esc := pe_imp h fun σ H Q ⟨ok, δ, d, h1, h2, h3, h4⟩ => ⟨ok, δ, d, h1, h2, h3, fun v H' e r => h4 v H' e (.of r.1)⟩
theorem eb_var {i : Nat} (h : PE X e (tVar i)) : PEB X e (vr i) [] := pe_imp h fun σ H Q ⟨ok, δ, d, h1, h2, h3, h4⟩ => by
  have h3' := vr_some h3
  obtain ⟨v, q1, q2, _⟩ := h2.at_ i d h3'
  exact ⟨v, q1, h4 v H (Same.refl H) q2⟩
theorem ei_var {i : Nat} (h : PE X e (tVar i)) : PEI X e (vr i) [i] false := pe_imp h fun σ H Q ⟨ok, δ, d, h1, h2, h3, h4⟩ => by
  have h3' := vr_some h3
  obtain ⟨v, q1, _, q2⟩ := h2.at_ i d h3'
  exact ⟨v, q1, h4 v H (Same.refl H) (.no (q2 (by simp)))⟩
/-! ### constants -/
def kst (d : PyData) : FE := fun _ => some d
theorem ei_const {v : V} {d : PyData} (h : PE X e (tC v)) (r : ∀ K H ok, Rp K H ok v d) (m : isMut d = false := by rfl) : PEI X e (kst d) [] true := pe_imp h fun σ H Q ⟨ok, δ, d', h1, h2, h3, h4⟩ => by
  cases h3
  exact h4 v H (Same.refl H) (.im (r _ _ _) m)
theorem ei_int {i : Int} {j : Nat} : PEI X (.Constant (.int i) j pos) (kst (.int i)) [] true := ei_const pe_int fun _ _ _ => .int i
theorem ei_bl {i : Bool} {j : Nat} : PEI X (.Constant (.bool i) j pos) (kst (.bool i)) [] true := ei_const pe_bl fun _ _ _ => .bl i
theorem ei_non {j : Nat} : PEI X (.Constant .none j pos) (kst .none) [] true := ei_const pe_non fun _ _ _ => .non
theorem ei_str {x : Str} {j : Nat} : PEI X (.Constant (.str x) j pos) (kst (.str x)) [] true := ei_const pe_str fun _ _ _ => .str x

/-! ### two operands in a row -/
def bind2 (f g : FE) (h : PyData → PyData → Option PyData) : FE := fun δ => (f δ).bind fun x => (g δ).bind fun y => h x y
def bind1 (f : FE) (h : PyData → Option PyData) : FE := fun δ => (f δ).bind h
/-- an operation of two operands, by values -/
def Op2 (K : PySem.W.Frag) (r : R2) (h : PyData → PyData → Option PyData) (fr : Bool) : Prop :=
  ∀ (ok : Addr → Prop) (H : Hp) (x y : V) (dx dy d : PyData) (Q : VK), Fresh H ok → RpB K H ok x dx → RpB K H ok y dy → h dx dy = some d → (∀ v H', Ext H H' → ResR K H ok H' v d fr → Q v H') → r x y H Q
theorem op2_t {r : R2} {h : PyData → PyData → Option PyData} (ho : Op2 X.K r h fr) : ∀ σ H Q, tE X.K (bind2 f g h) (esc ++ esc') fr σ H Q → tOp r (tB X.K f esc) (tB X.K g esc') σ H Q := fun σ H Q ⟨ok, δ, d, h1, h2, h3, h4⟩ => by
  unfold bind2 at h3
  cases q1 : f δ with
  | none => rw [q1] at h3; cases h3
  | some dx =>
    cases q2 : g δ with
    | none => rw [q1, q2] at h3; cases h3
    | some dy =>
      rw [q1, q2] at h3
      refine ⟨ok, δ, dx, h1, h2.l, q1, fun x H1 e1 r1 => ⟨ok, δ, dy, h1.ext e1, h2.r.ext e1, q2, fun y H2 e2 r2 => ?_⟩⟩
      exact ho ok H2 x y dx dy d Q (h1.ext (e1.trans e2)) (r1.ext e2) r2 h3 fun v H' e3 r3 => h4 v H' ((e1.trans e2).trans e3) ⟨r3.1, fun z z' => let ⟨a, w1, w2, w3⟩ := r3.2 z z'; ⟨a, w1, (e1.trans e2).free w2, w3⟩⟩
theorem ei_bin {op : Operator} {r : R2} {h : PyData → PyData → Option PyData} (hop : OpR X (binaryOp op) r) (ho : Op2 X.K r h fr) (ha : PEB X a f esc) (hb : PEB X b g esc') : PEI X (.BinOp a op b pos) (bind2 f g h) (esc ++ esc') fr :=
  pe_imp (pe_op hop ha hb) (op2_t ho)
theorem ei_cmp {op : CmpOp} {r : R2} {h : PyData → PyData → Option PyData} (hop : OpR X (compareOp op) r) (ho : Op2 X.K r h fr) (ha : PEB X a f esc) (hb : PEB X b g esc') (hm : behindInMarks op b = false) : PEI X (.Compare a [op] [b] pos) (bind2 f g h) (esc ++ esc') fr :=
  pe_imp (pe_cmpR hop ha hb hm) (op2_t ho)
/-- an operation of one operand -/
def Op1 (K : PySem.W.Frag) (r : V → Hp → VK → Prop) (h : PyData → Option PyData) (fr : Bool) : Prop :=
  ∀ (ok : Addr → Prop) (H : Hp) (x : V) (dx d : PyData) (Q : VK), Fresh H ok → RpB K H ok x dx → h dx = some d → (∀ v H', Ext H H' → ResR K H ok H' v d fr → Q v H') → r x H Q
theorem ei_un {op : UnaryOp} {r : V → Hp → VK → Prop} {h : PyData → Option PyData} (hop : UnR X (unaryOp op) r) (ho : Op1 X.K r h fr) (ha : PEB X a f esc) : PEI X (.UnaryOp op a pos) (bind1 f h) esc fr :=
  pe_imp (pe_un hop ha) fun σ H Q ⟨ok, δ, d, h1, h2, h3, h4⟩ => by
    unfold bind1 at h3
    cases q1 : f δ with
    | none => rw [q1] at h3; cases h3
    | some dx =>
      rw [q1] at h3
      refine ⟨ok, δ, dx, h1, h2, q1, fun x H1 e1 r1 => ?_⟩
      exact ho ok H1 x dx d Q (h1.ext e1) r1 h3 fun v H' e3 r3 => h4 v H' (e1.trans e3) ⟨r3.1, fun z z' => let ⟨a, w1, w2, w3⟩ := r3.2 z z'; ⟨a, w1, e1.free w2, w3⟩⟩

/-! ### arguments -/
theorem ai_nil : PAI X [] (fun _ => some []) [] := pa_imp pa_nil fun σ H Q ⟨ok, δ, ds, h1, h2, h3, h4⟩ => by
  cases h3
  exact h4 [] H (Same.refl H) .nil
def ac (f : FE) (fs : FA) : FA := fun δ => (f δ).bind fun x => (fs δ).bind fun xs => some (x :: xs)
theorem ai_cons (ha : PEI X e f esc fr) (hr : PAI X es fs esc') (hs : starEach (e :: es) X.env = (false, eval e X.env) :: starEach es X.env := by rfl) : PAI X (e :: es) (ac f fs) (esc ++ esc') :=
  pa_imp (pa_cons ha hr hs) fun σ H Q ⟨ok, δ, ds, h1, h2, h3, h4⟩ => by
    unfold ac at h3
    cases q1 : f δ with
    | none => rw [q1] at h3; cases h3
    | some dx =>
      cases q2 : fs δ with
      | none => rw [q1, q2] at h3; cases h3
      | some dy =>
        rw [q1, q2] at h3
        cases h3
        exact ⟨ok, δ, dx, h1, h2.l, q1, fun x H1 e1 r1 => ⟨ok, δ, dy, h1.ext e1, h2.r.ext e1, q2, fun y H2 e2 r2 => h4 (x :: y) H2 (e1.trans e2) (.cons (r1.1.ext e2) r2)⟩⟩
/-- one operand as argument list, its root unpromised -/
theorem ab_one (ha : PEB X e f esc) (hs : starEach [e] X.env = (false, eval e X.env) :: starEach [] X.env := by rfl) :
    PA X [e] (fun σ H Q => tB X.K f esc σ H fun x H' => Q [x] H') :=
  pa_imp (pa_cons ha pa_nil hs) fun σ H Q h => h
theorem ab_two (ha : PEB X a f esc) (hb : PEB X b g esc') (hs : starEach [a, b] X.env = (false, eval a X.env) :: starEach [b] X.env := by rfl) (hs2 : starEach [b] X.env = (false, eval b X.env) :: starEach [] X.env := by rfl) :
    PA X [a, b] (fun σ H Q => tB X.K f esc σ H fun x H1 => tB X.K g esc' σ H1 fun y H' => Q [x, y] H') :=
  pa_imp (pa_cons ha (pa_cons hb pa_nil hs2) hs) fun σ H Q h => h

/-! ### displays -/
theorem upd_ext {H : Hp} {p : Addr} {o : HO} (h : H p = none) : Ext H (upd H p o) := fun b x e => by
  rw [upd_ne (ne_of_none e h)]
  exact e
theorem fresh_lst {K : PySem.W.Frag} {H : Hp} {ok : Addr → Prop} {p : Addr} {xs : List V} {ds : List PyData} (hp : H p = none) (hf : Fresh H ok) (r : RpL K H ok xs ds) : ResR K H ok (upd H p (.lst xs)) (.ref p) (.list ds) true := by
  have r' : RpL K (upd H p (.lst xs)) (fun b => ok b ∧ b ≠ p) xs ds := (r.imp (fun a q n => ⟨q, fun z => n (by rw [z]; exact hp)⟩)).ext (upd_ext hp)
  have sh : Shell K (upd H p (.lst xs)) (fun b => ok b ∧ b ≠ p) p (.list ds) := .lst upd_same r'
  exact ⟨.lst (hf p hp) upd_same (r'.imp fun _ q _ => q.1), fun _ _ => ⟨p, rfl, hp, sh⟩⟩
theorem fresh_tup {K : PySem.W.Frag} {H : Hp} {ok : Addr → Prop} {p : Addr} {xs : List V} {ds : List PyData} {fr : Bool} (hp : H p = none) (r : RpL K H ok xs ds) : ResR K H ok (upd H p (.tup xs)) (.ref p) (.tuple ds) fr :=
  .im (.tup upd_same (r.ext (upd_ext hp))) rfl
def LINE : Nat := 16777216
theorem line_le {n : Nat} (h : n ≤ LINE) : n ≤ sizeLine := by rw [sizeLine_eq]; exact h
theorem line_lt {n : Nat} (h : n < LINE) : n < sizeLine := by rw [sizeLine_eq]; exact h
def mkL (ds : List PyData) : Option PyData := if ds.length ≤ LINE then some (.list ds) else none
def mkT (ds : List PyData) : Option PyData := if ds.length ≤ LINE then some (.tuple ds) else none
theorem mkL_some {ds : List PyData} {d : PyData} (h : mkL ds = some d) : ds.length ≤ LINE ∧ d = .list ds := by
  unfold mkL at h
  split at h
  · cases h; exact ⟨by assumption, rfl⟩
  · cases h
theorem mkT_some {ds : List PyData} {d : PyData} (h : mkT ds = some d) : ds.length ≤ LINE ∧ d = .tuple ds := by
  unfold mkT at h
  split at h
  · cases h; exact ⟨by assumption, rfl⟩
  · cases h
def mkLs (fs : FA) : FE := fun δ => (fs δ).bind mkL
def mkTs (fs : FA) : FE := fun δ => (fs δ).bind mkT
theorem ei_list (h : PAI X es fs esc) : PEI X (.List es pos) (mkLs fs) esc true :=
  pe_imp (pe_lst h) fun σ H Q ⟨ok, δ, d, h1, h2, h3, h4⟩ => by
    unfold mkLs at h3
    cases q1 : fs δ with
    | none => rw [q1] at h3; cases h3
    | some ds =>
      rw [q1] at h3
      obtain ⟨l, rfl⟩ := mkL_some h3
      refine ⟨ok, δ, ds, h1, h2, q1, fun vs H1 e1 r1 => ⟨line_le (by rw [r1.length]; exact l), fun p hp => ?_⟩⟩
      obtain ⟨w1, w2⟩ := fresh_lst hp (h1.ext e1) r1
      exact h4 _ _ (e1.trans (upd_ext hp)) ⟨w1, fun z z' => let ⟨a, y1, y2, y3⟩ := w2 rfl rfl; ⟨a, y1, e1.free y2, y3⟩⟩
theorem ei_tuple {k : Nat} (h : PAI X es fs esc) : PEI X (.Tuple es k pos) (mkTs fs) esc true :=
  pe_imp (pe_tup h) fun σ H Q ⟨ok, δ, d, h1, h2, h3, h4⟩ => by
    unfold mkTs at h3
    cases q1 : fs δ with
    | none => rw [q1] at h3; cases h3
    | some ds =>
      rw [q1] at h3
      obtain ⟨l, rfl⟩ := mkT_some h3
      refine ⟨ok, δ, ds, h1, h2, q1, fun vs H1 e1 r1 => ⟨line_le (by rw [r1.length]; exact l), fun p hp => ?_⟩⟩
      exact h4 _ _ (e1.trans (upd_ext hp)) ⟨(fresh_tup (fr := false) hp r1).1, fun z z' => by cases z'⟩
end
end PM

set_option Elab.async false
set_option linter.all false
set_option maxRecDepth 100000
set_option maxHeartbeats 4000000
/-! PM: operators. -/
namespace PM
open PySem PySem.Spec PyProof.Rows L2

section
variable {K : PySem.W.Frag} {H H' : Hp} {ok : Addr → Prop}
theorem Fresh.here {v : V} {d : PyData} {fr : Bool} {Q : VK} (r : ResR K H ok H v d fr) (h : ∀ v H', Ext H H' → ResR K H ok H' v d fr → Q v H') : Q v H := h v H (Same.refl H) r
theorem out_lst {p : Addr} {xs : List V} {ds : List PyData} {Q : VK} (hf : Fresh H ok) (hp : H p = none) (r : RpL K H ok xs ds) (h : ∀ v H', Ext H H' → ResR K H ok H' v (.list ds) true → Q v H') : Q (.ref p) (upd H p (.lst xs)) :=
  h _ _ (upd_ext hp) (fresh_lst hp hf r)
theorem out_tup {p : Addr} {xs : List V} {ds : List PyData} {Q : VK} {fr : Bool} (hp : H p = none) (r : RpL K H ok xs ds) (h : ∀ v H', Ext H H' → ResR K H ok H' v (.tuple ds) fr → Q v H') : Q (.ref p) (upd H p (.tup xs)) :=
  h _ _ (upd_ext hp) (fresh_tup hp r)
theorem out_im {v : V} {d : PyData} {fr : Bool} {Q : VK} (r : Rp K H ok v d) (m : isMut d = false) (h : ∀ v H', Ext H H' → ResR K H ok H' v d fr → Q v H') : Q v H := h v H (Same.refl H) (.im r m)
end

/-! ### + -/
def addD : PyData → PyData → Option PyData
  | .int i, .int j => some (.int (i + j))
  | .list xs, .list ys => mkL (xs ++ ys)
  | .tuple xs, .tuple ys => mkT (xs ++ ys)
  | _, _ => none
def rAddX (K : PySem.W.Frag) : R2 := fun x y H Q => rI0 (fun i j => .int (i + j)) x y H Q ∨ rCat x y H Q ∨ rCatA K x y H Q
theorem op_addX {X : Cx} : OpR X (binaryOp .Add) (rAddX X.K) := op_add.or (op_cat.or op_catA)
theorem ad_add {K : PySem.W.Frag} : Op2 K (rAddX K) addD true := fun ok H x y dx dy d Q hf rx ry e h => by
  unfold addD at e
  split at e
  · cases e
    have ex := rx.int
    have ey := ry.int
    subst ex ey
    exact .inl ⟨_, _, rfl, rfl, out_im (.int _) rfl h⟩
  · obtain ⟨a, xs, rfl, ha, ra⟩ := rx.list
    obtain ⟨b, ys, rfl, hb, rb⟩ := ry.list
    obtain ⟨l, rfl⟩ := mkL_some e
    refine .inr (.inl ⟨a, b, xs, ys, rfl, rfl, ha, hb, line_le ?_, fun p hp => out_lst hf hp (ra.append rb) h⟩)
    rw [ra.length, rb.length, ← List.length_append]; exact l
  · obtain ⟨a, xs, rfl, ha, ra⟩ := rx.tuple
    obtain ⟨b, ys, rfl, hb, rb⟩ := ry.tuple
    obtain ⟨l, rfl⟩ := mkT_some e
    refine .inr (.inr ⟨a, b, xs, ys, rfl, rfl, SqT.of ha, SqT.of hb, line_le ?_, fun z => ?_, fun z z' => ?_, fun _ _ p hp => out_tup hp (ra.append rb) h⟩)
    · rw [ra.length, rb.length, ← List.length_append]; exact l
    · have z2 := ra.nil_iff.mp z
      subst z2
      exact out_im (.tup hb rb) rfl h
    · have z2 := rb.nil_iff.mp z'
      subst z2
      rw [List.append_nil] at h
      exact out_im (.tup ha ra) rfl h
  · cases e
/-! ### - * // % ** -/
def subD : PyData → PyData → Option PyData
  | .int i, .int j => some (.int (i - j))
  | _, _ => none
theorem ad_sub {K : PySem.W.Frag} : Op2 K (rI0 fun i j => .int (i - j)) subD true := fun ok H x y dx dy d Q hf rx ry e h => by
  unfold subD at e
  split at e
  · cases e
    have ex := rx.int
    have ey := ry.int
    subst ex ey
    exact ⟨_, _, rfl, rfl, out_im (.int _) rfl h⟩
  · cases e
def small (i : Int) : Bool := decide (-18446744073709551616 < i) && decide (i < 18446744073709551616)
def mulOk (i j : Int) : Bool := small i || (small j || decide (i.natAbs.log2 + j.natAbs.log2 < 1000000))
def repOk (n : Nat) (k : Int) : Bool := decide (-9223372036854775808 ≤ k) && (decide (k < 9223372036854775808) && decide (n * k.toNat ≤ LINE))
theorem tuple_mul1 (l : Addr) (items : Array Value) (n : Nat) (dd : Option Addr) (sl : Array (Option Value)) (u : Tok) :
    Meets (Builtin.«tuple.__mul__» ⟨[.ref l, .int 1 u], []⟩) (fun _ R s => s.heap.get? l = some { cls := .type "tuple", dict := dd, data := .seq items n, slots := sl } ∧
      R (.ok (.ret (Value.ref l))) s) :=
  .of_wp fun prog w A R s h => by
    obtain ⟨hp, g, d, tk, os⟩ := s
    obtain ⟨hl, h⟩ := h
    have f1 := AutoSeq1.idx_int
    have c0 : (decide ((1 : Int) < -(2 ^ 63)) || decide ((1 : Int) ≥ 2 ^ 63)) = false := by decide
    have c1 : (items.isEmpty || (1 : Int) == 1) = true := by simp
    wp_walk using wpAny_loadPart' hl
    exact ⟨_, rfl, h⟩
def rRep1 (K : PySem.W.Frag) : R2 := fun x y H Q => ∃ l xs, x = .ref l ∧ y = .int 1 ∧ H l = some (.tup xs) ∧ Q (.ref l) H
theorem op_rep1 {X : Cx} : OpR X (binaryOp .Mult) (rRep1 X.K) := by
  intro pins s σ H x y v u Q I rx ry h
  obtain ⟨l, xs, rfl, rfl, hT, q⟩ := h
  cases rx
  obtain ⟨t, rfl⟩ := ry
  obtain ⟨its, r, ⟨⟨cls, dd, data, sl⟩, ho, hc, n, hd⟩, hs⟩ := I.tuple (SqT.of hT)
  simp only at hc hd
  subst hc hd
  exact wpAny_binaryOp_repeat_ref (T := "tuple") (U := "int") (by decide) ⟨_, ho, rfl⟩ (fun s' => typeIs_int s' 1 t) noFill_tuple_mul F.fills_int_mul F.slot_int_rmul repeat_tuple F.slot_int_index.lookup
    (call_meets F.slot_int_rmul (typeIs_int s 1 t) F.entry_int_rmul (F.args_int_rmul_2 _ _) (int_rmul_tuple 1 t l its.toArray n dd sl)
      ⟨ho, rfl, ⟨_, ho, rfl⟩, call_meets F.slot_tuple_mul ⟨_, ho, rfl⟩ F.entry_tuple_mul (F.args_tuple_mul_2 _ _) (tuple_mul1 l its.toArray n dd sl t) ⟨ho, .ref l, H, I, rfl, q⟩⟩)
def mulD : PyData → PyData → Option PyData
  | .int i, .int j => if mulOk i j then some (.int (i * j)) else none
  | .list xs, .int k => if repOk xs.length k then some (.list (List.replicate k.toNat xs).flatten) else none
  | .tuple xs, .int k => if k = 1 then some (.tuple xs) else if xs ≠ [] ∧ 2 ≤ k ∧ k ≤ 1000 ∧ xs.length ≤ 1000 then some (.tuple (List.replicate k.toNat xs).flatten) else none
  | _, _ => none
def rMulX (K : PySem.W.Frag) : R2 := fun x y H Q => (rI CMul (fun i j => .int (i * j)) x y H Q ∨ rI CMulW (fun i j => .int (i * j)) x y H Q) ∨ rRep x y H Q ∨ rRepT K x y H Q ∨ rRep1 K x y H Q
theorem op_mulX {X : Cx} : OpR X (binaryOp .Mult) (rMulX X.K) := (op_mul.or op_mulW).or (op_rep.or (op_repT.or op_rep1))
theorem ad_mul {K : PySem.W.Frag} : Op2 K (rMulX K) mulD true := fun ok H x y dx dy d Q hf rx ry e h => by
  unfold mulD at e
  split at e
  · split at e
    · rename_i hm
      cases e
      have ex := rx.int
      have ey := ry.int
      subst ex ey
      simp only [mulOk, small, Bool.or_eq_true, Bool.and_eq_true, decide_eq_true_eq] at hm
      rcases hm with hm | hm | hm
      · exact .inl (.inl ⟨_, _, rfl, rfl, .inl (by omega), out_im (.int _) rfl h⟩)
      · exact .inl (.inl ⟨_, _, rfl, rfl, .inr (by omega), out_im (.int _) rfl h⟩)
      · exact .inl (.inr ⟨_, _, rfl, rfl, hm, out_im (.int _) rfl h⟩)
    · cases e
  · split at e
    · rename_i hm
      cases e
      obtain ⟨a, xs, rfl, ha, ra⟩ := rx.list
      have ey := ry.int
      subst ey
      simp only [repOk, Bool.and_eq_true, decide_eq_true_eq] at hm
      refine .inr (.inl ⟨a, _, xs, rfl, rfl, ha, by omega, by omega, line_le ?_, fun p hp => out_lst hf hp (ra.rep _) h⟩)
      rw [ra.length]; exact hm.2.2
    · cases e
  · split at e
    · rename_i hk
      cases e
      obtain ⟨a, xs, rfl, ha, ra⟩ := rx.tuple
      have ey := ry.int
      subst ey hk
      exact .inr (.inr (.inr ⟨a, xs, rfl, rfl, ha, h _ H (Same.refl H) ⟨.tup ha ra, fun _ z => by cases z⟩⟩))
    · split at e
      · rename_i hm
        cases e
        obtain ⟨a, xs, rfl, ha, ra⟩ := rx.tuple
        have ey := ry.int
        subst ey
        exact .inr (.inr (.inl ⟨a, _, xs, rfl, rfl, SqT.of ha, fun z => hm.1 (ra.nil_iff.mp z), hm.2.1, hm.2.2.1, by rw [ra.length]; exact hm.2.2.2, fun p hp => out_tup hp (ra.rep _) h⟩))
      · cases e
  · cases e
def fdivD : PyData → PyData → Option PyData
  | .int i, .int j => if 0 < j ∧ (j < 1073741824 ∨ j.natAbs.log2 < 9000) then some (.int (i / j)) else none
  | _, _ => none
def rDivX : R2 := fun x y H Q => rI CDiv (fun i j => .int (i / j)) x y H Q ∨ rI CDivW (fun i j => .int (i / j)) x y H Q
theorem op_divX {X : Cx} : OpR X (binaryOp .FloorDiv) rDivX := op_fdiv.or op_fdivW
theorem ad_fdiv {K : PySem.W.Frag} : Op2 K rDivX fdivD true := fun ok H x y dx dy d Q hf rx ry e h => by
  unfold fdivD at e
  split at e
  · split at e
    · rename_i hm
      cases e
      have ex := rx.int
      have ey := ry.int
      subst ex ey
      rcases hm with ⟨h0, hm | hm⟩
      · exact .inl ⟨_, _, rfl, rfl, ⟨h0, hm⟩, out_im (.int _) rfl h⟩
      · exact .inr ⟨_, _, rfl, rfl, ⟨h0, hm⟩, out_im (.int _) rfl h⟩
    · cases e
  · cases e
def modD : PyData → PyData → Option PyData
  | .int i, .int j => if 0 < j then some (.int (i % j)) else none
  | _, _ => none
theorem ad_mod {K : PySem.W.Frag} : Op2 K (rI (fun _ j => 0 < j) fun i j => .int (i % j)) modD true := fun ok H x y dx dy d Q hf rx ry e h => by
  unfold modD at e
  split at e
  · split at e
    · cases e
      have ex := rx.int
      have ey := ry.int
      subst ex ey
      exact ⟨_, _, rfl, rfl, by assumption, out_im (.int _) rfl h⟩
    · cases e
  · cases e
def powD : PyData → PyData → Option PyData
  | .int i, .int j => if 0 ≤ j ∧ j ≤ 1000000 ∧ i.natAbs < 18446744073709551616 then some (.int (i ^ j.toNat)) else none
  | _, _ => none
theorem ad_pow {K : PySem.W.Frag} : Op2 K (rI CPow fun i j => .int (i ^ j.toNat)) powD true := fun ok H x y dx dy d Q hf rx ry e h => by
  unfold powD at e
  split at e
  · split at e
    · rename_i hm
      cases e
      have ex := rx.int
      have ey := ry.int
      subst ex ey
      exact ⟨_, _, rfl, rfl, ⟨hm.1, hm.2.1, by omega⟩, out_im (.int _) rfl h⟩
    · cases e
  · cases e
def negD : PyData → Option PyData
  | .int i => some (.int (-i))
  | _ => none
theorem ad_neg {K : PySem.W.Frag} : Op1 K (rU fun i => .int (-i)) negD true := fun ok H x dx d Q hf rx e h => by
  unfold negD at e
  split at e
  · cases e
    have ex := rx.int
    subst ex
    exact ⟨_, rfl, out_im (.int _) rfl h⟩
  · cases e

/-! ### comparisons -/
def cmpD (p : Int → Int → Bool) : PyData → PyData → Option PyData
  | .int i, .int j => some (.bool (p i j))
  | _, _ => none
theorem ad_cmp {K : PySem.W.Frag} {p : Int → Int → Bool} : Op2 K (rI0 fun i j => .bl (p i j)) (cmpD p) true := fun ok H x y dx dy d Q hf rx ry e h => by
  unfold cmpD at e
  split at e
  · cases e
    have ex := rx.int
    have ey := ry.int
    subst ex ey
    exact ⟨_, _, rfl, rfl, out_im (.bl _) rfl h⟩
  · cases e
mutual
/-- data that == takes: no dict, short texts, depth below n -/
def dOk : Nat → PyData → Bool
  | _, .none => true
  | _, .bool _ => true
  | _, .int _ => true
  | _, .str x => PyData.strOk x
  | n + 1, .list xs => dOkL n xs
  | n + 1, .tuple xs => dOkL n xs
  | _, _ => false
def dOkL : Nat → List PyData → Bool
  | _, [] => true
  | n, x :: xs => dOk n x && dOkL n xs
end
mutual
theorem dOk_lay : ∀ (n : Nat) (d : PyData), dOk n d = true → d.canLay0 = true ∧ d.depth ≤ n ∧ noDict d = true
  | _, .none, _ => by simp [PyData.canLay0, PyData.depth, noDict]
  | _, .bool _, _ => by simp [PyData.canLay0, PyData.depth, noDict]
  | _, .int _, _ => by simp [PyData.canLay0, PyData.depth, noDict]
  | _, .str x, h => by
    have h' : PyData.strOk x = true := by simpa [dOk] using h
    simp [PyData.canLay0, PyData.depth, noDict, h']
  | n + 1, .list xs, h => by
    have ⟨h1, h2, h3⟩ := dOkL_lay n xs (by simpa [dOk] using h)
    simp only [PyData.canLay0, PyData.depth, noDict]
    exact ⟨h1, by omega, h3⟩
  | n + 1, .tuple xs, h => by
    have ⟨h1, h2, h3⟩ := dOkL_lay n xs (by simpa [dOk] using h)
    simp only [PyData.canLay0, PyData.depth, noDict]
    exact ⟨h1, by omega, h3⟩
  | 0, .list _, h => by simp [dOk] at h
  | 0, .tuple _, h => by simp [dOk] at h
  | 0, .dict _, h => by simp [dOk] at h
  | _ + 1, .dict _, h => by simp [dOk] at h
theorem dOkL_lay : ∀ (n : Nat) (ds : List PyData), dOkL n ds = true → PyData.canLayAll0 ds = true ∧ PyData.depthAll ds ≤ n ∧ noDictL ds = true
  | _, [], _ => by simp [PyData.canLayAll0, PyData.depthAll, noDictL]
  | n, x :: xs, h => by
    rw [dOkL, Bool.and_eq_true] at h
    have ⟨h1, h2, h3⟩ := dOk_lay n x h.1
    have ⟨h4, h5, h6⟩ := dOkL_lay n xs h.2
    simp only [PyData.canLayAll0, PyData.depthAll, noDictL, h1, h3, h4, h6, Bool.and_self, and_self, and_true, true_and]
    omega
end
theorem dOk_sh {n : Nat} {d : PyData} (h : dOk n d = true) (hn : n ≤ 64) : SeqAt.shaped d = true := by
  have ⟨h1, h2, _⟩ := dOk_lay n d h
  show (d.canLay0 && decide (d.depth ≤ 64)) = true
  rw [h1, decide_eq_true (by omega)]; rfl
def DEP : Nat := 40
def eqD (x y : PyData) : Option PyData := if dOk DEP x = true ∧ dOk DEP y = true then some (.bool (PyData.eqv x y)) else none
def neD (x y : PyData) : Option PyData := if dOk DEP x = true ∧ dOk DEP y = true then some (.bool (!PyData.eqv x y)) else none
theorem ad_eq {K : PySem.W.Frag} : Op2 K (rEqD K) eqD true := fun ok H x y dx dy d Q hf rx ry e h => by
  unfold eqD at e
  split at e
  · rename_i hm
    cases e
    exact ⟨dx, dy, rx.dp (dOk_lay _ _ hm.1).2.2, ry.dp (dOk_lay _ _ hm.2).2.2, dOk_sh hm.1 (by decide), dOk_sh hm.2 (by decide), out_im (.bl _) rfl h⟩
  · cases e
theorem ad_ne {K : PySem.W.Frag} : Op2 K (rNeD K) neD true := fun ok H x y dx dy d Q hf rx ry e h => by
  unfold neD at e
  split at e
  · rename_i hm
    cases e
    exact ⟨dx, dy, rx.dp (dOk_lay _ _ hm.1).2.2, ry.dp (dOk_lay _ _ hm.2).2.2, dOk_sh hm.1 (by decide), dOk_sh hm.2 (by decide), out_im (.bl _) rfl h⟩
  · cases e
/-- is None -/
def isND (x y : PyData) : Option PyData := match x, y with
  | .none, .none => some (.bool true)
  | _, .none => some (.bool false)
  | _, _ => none
def notND (x y : PyData) : Option PyData := match x, y with
  | .none, .none => some (.bool false)
  | _, .none => some (.bool true)
  | _, _ => none
theorem ne_non {K : PySem.W.Frag} {H : Hp} {ok : Addr → Prop} {x : V} {dx : PyData} (rx : RpB K H ok x dx) (n : dx ≠ .none) : x ≠ .non := by
  cases rx with
  | of h => cases h <;> first | exact absurd rfl n | exact fun z => nomatch z
  | sh h => exact fun z => nomatch z
theorem ad_isN {K : PySem.W.Frag} : Op2 K (fun x y H Q => y = .non ∧ Q (.bl (decide (x = .non))) H) isND true := fun ok H x y dx dy d Q hf rx ry e h => by
  unfold isND at e
  split at e
  · cases e
    have ex := rx.non
    have ey := ry.non
    subst ex ey
    exact ⟨rfl, out_im (.bl _) rfl h⟩
  · rename_i n
    cases e
    have ey := ry.non
    subst ey
    refine ⟨rfl, ?_⟩
    rw [decide_eq_false (ne_non rx n)]
    exact out_im (.bl _) rfl h
  · cases e
theorem ad_notN {K : PySem.W.Frag} : Op2 K (fun x y H Q => y = .non ∧ Q (.bl (!decide (x = .non))) H) notND true := fun ok H x y dx dy d Q hf rx ry e h => by
  unfold notND at e
  split at e
  · cases e
    have ex := rx.non
    have ey := ry.non
    subst ex ey
    exact ⟨rfl, out_im (.bl _) rfl h⟩
  · rename_i n
    cases e
    have ey := ry.non
    subst ey
    refine ⟨rfl, ?_⟩
    rw [decide_eq_false (ne_non rx n)]
    exact out_im (.bl _) rfl h
  · cases e
/-- is True, is False -/
def isBD : PyData → PyData → Option PyData
  | .bool a, .bool b => some (.bool (decide (a = b)))
  | _, _ => none
def notBD : PyData → PyData → Option PyData
  | .bool a, .bool b => some (.bool (!decide (a = b)))
  | _, _ => none
theorem ad_isB {K : PySem.W.Frag} : Op2 K rIsB isBD true := fun ok H x y dx dy d Q hf rx ry e h => by
  unfold isBD at e
  split at e
  · cases e
    have ex := rx.bl
    have ey := ry.bl
    subst ex ey
    exact ⟨_, _, rfl, rfl, out_im (.bl _) rfl h⟩
  · cases e
theorem ad_notB {K : PySem.W.Frag} : Op2 K rNotB notBD true := fun ok H x y dx dy d Q hf rx ry e h => by
  unfold notBD at e
  split at e
  · cases e
    have ex := rx.bl
    have ey := ry.bl
    subst ex ey
    exact ⟨_, _, rfl, rfl, out_im (.bl _) rfl h⟩
  · cases e
/-- x in a list, in a tuple of plain things -/
def flatD : PyData → Bool
  | .none => true
  | .bool _ => true
  | .int _ => true
  | .str _ => true
  | _ => false
def inD : PyData → PyData → Option PyData
  | x, .list ys => if dOk DEP x = true ∧ dOkL DEP ys = true then some (.bool (ys.any fun z => PyData.eqv z x)) else none
  | x, .tuple ys => if flatD x = true ∧ ys.all flatD = true then some (.bool (ys.any fun z => PyData.eqv z x)) else none
  | _, _ => none
def notInD : PyData → PyData → Option PyData
  | x, .list ys => if dOk DEP x = true ∧ dOkL DEP ys = true then some (.bool (!ys.any fun z => PyData.eqv z x)) else none
  | x, .tuple ys => if flatD x = true ∧ ys.all flatD = true then some (.bool (!ys.any fun z => PyData.eqv z x)) else none
  | _, _ => none
end PM

set_option Elab.async false
set_option linter.all false
set_option maxRecDepth 100000
set_option maxHeartbeats 4000000
/-! PM: in, subscripts, slices, calls of built-ins. -/
namespace PM
open PySem PySem.Spec PyProof.Rows L2

section
variable {K : PySem.W.Frag} {H H' : Hp} {ok : Addr → Prop}
theorem Rp.flat {v : V} {d : PyData} (h : Rp K H ok v d) (f : flatD d = true) : flatV v = true := by
  cases h <;> first | rfl | (simp [flatD] at f)
theorem Rp.eqV {x y : V} {d e : PyData} (h : Rp K H ok x d) (h' : Rp K H ok y e) (f : flatD d = true) (f' : flatD e = true) : L2.eqV x y = PyData.eqv d e := by
  cases h <;> first
    | (simp [flatD] at f; done)
    | (cases h' <;> first
        | (simp [flatD] at f'; done)
        | simp [L2.eqV, PyData.eqv])
theorem RpL.flat : ∀ {xs : List V} {ds : List PyData}, RpL K H ok xs ds → ds.all flatD = true → xs.all flatV = true
  | _, _, .nil, _ => rfl
  | _, _, .cons h t, f => by
    rw [List.all_cons, Bool.and_eq_true] at f ⊢
    exact ⟨h.flat f.1, t.flat f.2⟩
theorem RpL.inV {x : V} {d : PyData} (r : Rp K H ok x d) (f : flatD d = true) : ∀ {xs : List V} {ds : List PyData}, RpL K H ok xs ds → ds.all flatD = true → L2.inV x xs = ds.any fun z => PyData.eqv z d
  | _, _, .nil, _ => rfl
  | _, _, .cons h t, g => by
    rw [List.all_cons, Bool.and_eq_true] at g
    have ih := RpL.inV r f t g.2
    unfold L2.inV at ih ⊢
    rw [List.any_cons, List.any_cons, ih, h.eqV r g.1 f]
theorem RpB.tr {v : V} {d : PyData} (h : RpB K H ok v d) : Rp K H (fun _ => True) v d := h.tru
theorem dOkL_sh {ds : List PyData} (h : dOkL DEP ds = true) : SeqAt.shaped (.list ds) = true ∧ noDict (.list ds) = true := by
  have h2 : dOk (DEP + 1) (.list ds) = true := by simpa [dOk] using h
  exact ⟨dOk_sh h2 (by decide), (dOk_lay _ _ h2).2.2⟩
end
def rInX (K : PySem.W.Frag) : R2 := fun x y H Q => rInD K x y H Q ∨ rIn K false x y H Q
def rNotInX (K : PySem.W.Frag) : R2 := fun x y H Q => rNotInD K x y H Q ∨ rIn K true x y H Q
theorem op_inX {X : Cx} (hu : X.A.units + 65 < cLine) : OpR X (compareOp .In) (rInX X.K) := (op_inD hu).or op_in_seq
theorem op_notInX {X : Cx} (hu : X.A.units + 65 < cLine) : OpR X (compareOp .NotIn) (rNotInX X.K) := (op_notInD hu).or op_notIn_seq
theorem hu65 {A : Around} {k : Nat} (hr : Room k A) : A.units + 65 < cLine := by have := hr.un; omega
theorem ad_in {K : PySem.W.Frag} : Op2 K (rInX K) inD true := fun ok H x y dx dy d Q hf rx ry e h => by
  unfold inD at e
  split at e
  · split at e
    · rename_i ys hm
      cases e
      have h2 := dOkL_sh hm.2
      exact .inl ⟨dx, ys, rx.dp (dOk_lay _ _ hm.1).2.2, ry.dp h2.2, dOk_sh hm.1 (by decide), h2.1, out_im (.bl _) rfl h⟩
    · cases e
  · split at e
    · rename_i ys hm
      cases e
      obtain ⟨a, xs, rfl, ha, ra⟩ := ry.tuple
      have ra' := ra.imp (ok' := fun _ => True) fun _ _ _ => trivial
      refine .inr ⟨a, xs, rfl, .inr (SqT.of ha), rx.tr.flat hm.1, ra'.flat hm.2, ?_⟩
      rw [if_neg Bool.false_ne_true, ra'.inV rx.tr hm.1 hm.2]
      exact out_im (.bl _) rfl h
    · cases e
  · cases e
theorem ad_notIn {K : PySem.W.Frag} : Op2 K (rNotInX K) notInD true := fun ok H x y dx dy d Q hf rx ry e h => by
  unfold notInD at e
  split at e
  · split at e
    · rename_i ys hm
      cases e
      have h2 := dOkL_sh hm.2
      exact .inl ⟨dx, ys, rx.dp (dOk_lay _ _ hm.1).2.2, ry.dp h2.2, dOk_sh hm.1 (by decide), h2.1, out_im (.bl _) rfl h⟩
    · cases e
  · split at e
    · rename_i ys hm
      cases e
      obtain ⟨a, xs, rfl, ha, ra⟩ := ry.tuple
      have ra' := ra.imp (ok' := fun _ => True) fun _ _ _ => trivial
      refine .inr ⟨a, xs, rfl, .inr (SqT.of ha), rx.tr.flat hm.1, ra'.flat hm.2, ?_⟩
      rw [if_pos rfl, ra'.inV rx.tr hm.1 hm.2]
      exact out_im (.bl _) rfl h
    · cases e
  · cases e

/-! ### xs[i] -/
def ixD : PyData → PyData → Option PyData
  | .list xs, .int i => atI xs i
  | .tuple xs, .int i => atI xs i
  | _, _ => none
theorem RpL.atI {K : PySem.W.Frag} {H : Hp} {ok : Addr → Prop} {xs : List V} {ds : List PyData} {i : Int} {d : PyData} (r : RpL K H ok xs ds) (h : L2.atI ds i = some d) : ∃ v, L2.atI xs i = some v ∧ Rp K H ok v d := by
  unfold L2.atI at h ⊢
  rw [r.length]
  cases q : ixN ds.length i with
  | none => rw [q] at h; cases h
  | some j =>
    rw [q] at h
    exact r.get h
theorem ad_ix {K : PySem.W.Frag} : Op2 K (rIx K) ixD false := fun ok H x y dx dy d Q hf rx ry e h => by
  unfold ixD at e
  split at e
  · obtain ⟨a, xs, rfl, ha, ra⟩ := rx.list
    have ey := ry.int
    subst ey
    obtain ⟨v, h1, h2⟩ := ra.atI e
    exact .inl ⟨a, xs, _, v, rfl, rfl, SqL.of ha, h1, h v H (Same.refl H) (.no h2)⟩
  · obtain ⟨a, xs, rfl, ha, ra⟩ := rx.tuple
    have ey := ry.int
    subst ey
    obtain ⟨v, h1, h2⟩ := ra.atI e
    exact .inr (.inl ⟨a, xs, _, v, rfl, rfl, SqT.of ha, h1, h v H (Same.refl H) (.no h2)⟩)
  · cases e
section
variable {X : Cx} {e a b c : Expr} {es : List Expr} {pos p p2 : Pos} {f g k : FE} {fs : FA} {esc esc' esc'' : List Nat} {fr fr' : Bool}
theorem ei_ix (ha : PEB X a f esc) (hb : PEB X b g esc') (hs : PlainIx b := by exact fun _ _ => rfl) : PEI X (.Subscript a b pos) (bind2 f g ixD) (esc ++ esc') false :=
  pe_imp (pe_ix ix_seq ha hb hs) (op2_t ad_ix)

/-! ### slices -/
def cutD (ds : List PyData) (lo hi : Option Int) : List PyData := (ds.drop (HT.sIx ds.length 0 lo)).take (HT.sIx ds.length ds.length hi - HT.sIx ds.length 0 lo)
def slD : PyData → Option Int → Option Int → Option PyData
  | .list xs, lo, hi => some (.list (cutD xs lo hi))
  | .tuple xs, lo, hi => some (.tuple (cutD xs lo hi))
  | .dict [(.none, .list xs)], lo, hi => some (.list (cutD xs lo hi))
  | _, _, _ => none
abbrev FO := Dt → Option (Option Int)
def tOI (K : PySem.W.Frag) (f : FO) : TO := fun σ H Q => ∃ δ o, SlE K (fun _ => True) [] σ H δ ∧ f δ = some o ∧ ∀ H', Ext H H' → Q o H'
def POI (X : Cx) (e : Option Expr) (f : FO) : Prop := PO X e (tOI X.K f)
theorem oi_none : POI X none (fun _ => some none) := ⟨fun pins s σ H Q I ⟨δ, o, h1, h2, h3⟩ => by
  cases h2
  exact po_none.run pins s σ H Q I (h3 H (Same.refl H))⟩
def intOf : PyData → Option (Option Int)
  | .int i => some (some i)
  | _ => none
def ioS (f : FE) : FO := fun δ => (f δ).bind intOf
theorem oi_some (h : PEB X e f esc) : POI X (some e) (ioS f) := ⟨fun pins s σ H Q I ⟨δ, o, h1, h2, h3⟩ => by
  unfold ioS at h2
  cases q : f δ with
  | none => rw [q] at h2; cases h2
  | some d =>
    rw [q] at h2
    refine (po_some h).run pins s σ H Q I ⟨fun _ => True, δ, d, fun _ _ => trivial, h1.tru _, q, fun v H' e1 r => ?_⟩
    have h2' : intOf d = some o := h2
    unfold intOf at h2'
    split at h2'
    · cases h2'
      have ev := r.int
      subst ev
      exact ⟨_, rfl, h3 H' e1⟩
    · cases h2'⟩
theorem RpL.cut {K : PySem.W.Frag} {H : Hp} {ok : Addr → Prop} {xs : List V} {ds : List PyData} (r : RpL K H ok xs ds) (lo hi : Option Int) : RpL K H ok (cutV xs lo hi) (cutD ds lo hi) := by
  unfold cutV cutD
  rw [r.length]
  exact (r.drop _).take _
theorem cutD_whole {ds : List PyData} {lo hi : Option Int} (h : HT.sIx ds.length 0 lo = 0 ∧ HT.sIx ds.length ds.length hi = ds.length) : cutD ds lo hi = ds := by
  unfold cutD
  rw [h.1, h.2, Nat.sub_zero, List.drop_zero, List.take_length]
def rSlX2 (K : PySem.W.Frag) : V → Option Int → Option Int → Hp → VK → Prop := fun x lo hi H Q => rSlL K x lo hi H Q ∨ rSlA K x lo hi H Q
theorem cut_ints (ns : List Int) (lo hi : Option Int) : ∃ ms : List Int, cutV (ns.map V.int) lo hi = ms.map V.int ∧ cutD (ns.map .int) lo hi = ms.map .int := by
  refine ⟨(ns.drop (HT.sIx ns.length 0 lo)).take (HT.sIx ns.length ns.length hi - HT.sIx ns.length 0 lo), ?_, ?_⟩
  · unfold cutV; rw [List.length_map, List.map_take, List.map_drop]
  · unfold cutD; rw [List.length_map, List.map_take, List.map_drop]
theorem Rp.scrD {K : PySem.W.Frag} {H : Hp} {ok : Addr → Prop} : ∀ {v : V} {z : PyData} {xs : List PyData}, Rp K H ok v z → z = .dict [(.none, .list xs)] → ∃ (a : Addr) (ns : List Int), v = .ref a ∧ ScrL K H a (ns.map V.int) ∧ xs = ns.map .int
  | _, _, _, .dK _ _ _, e => by cases e
  | _, _, _, .dT _ _ _, e => by cases e
  | _, _, _, .scr h, e => by
    injection e with e
    injection e with e _
    injection e with _ e
    injection e with e
    exact ⟨_, _, rfl, h, e.symm⟩
theorem Shell.scrD {K : PySem.W.Frag} {H : Hp} {ok : Addr → Prop} {a : Addr} : ∀ {z : PyData} {xs : List PyData}, Shell K H ok a z → z ≠ .dict [(.none, .list xs)]
  | _, _, .lst _ _, e => by cases e
  | _, _, .dK _ _, e => by cases e
  | _, _, .dT _ _, e => by cases e
theorem RpB.scr {K : PySem.W.Frag} {H : Hp} {ok : Addr → Prop} {v : V} {xs : List PyData} (h : RpB K H ok v (.dict [(.none, .list xs)])) : ∃ (a : Addr) (ns : List Int), v = .ref a ∧ ScrL K H a (ns.map V.int) ∧ xs = ns.map .int := by
  cases h with
  | of h => exact h.scrD rfl
  | sh h => exact absurd rfl h.scrD
def slS (f : FE) (fl fh : FO) : FE := fun δ => (f δ).bind fun x => (fl δ).bind fun l => (fh δ).bind fun u => slD x l u
theorem ei_slice {lo hi : Option Expr} {fl fh : FO} (ha : PEB X a f esc) (hl : POI X lo fl) (hh : POI X hi fh) : PEI X (.Subscript a (.Slice lo hi none p2) pos) (slS f fl fh) esc true :=
  pe_imp (pe_slice (sl_list.or sl_tupA) ha hl hh) fun σ H Q ⟨ok, δ, d, h1, h2, h3, h4⟩ => by
    unfold slS at h3
    cases q1 : f δ with
    | none => rw [q1] at h3; cases h3
    | some dx =>
      cases q2 : fl δ with
      | none => rw [q1, q2] at h3; cases h3
      | some l =>
        cases q3 : fh δ with
        | none => rw [q1, q2, q3] at h3; cases h3
        | some u =>
          rw [q1, q2, q3] at h3
          have h3' : slD dx l u = some d := h3
          refine ⟨ok, δ, dx, h1, h2, q1, fun x H1 e1 r1 => ⟨δ, l, (h2.ext e1).tru _, q2, fun H2 e2 => ⟨δ, u, (h2.ext (e1.trans e2)).tru _, q3, fun H3 e3 => ?_⟩⟩⟩
          have e13 := (e1.trans e2).trans e3
          have r3 := r1.ext (e2.trans e3)
          have fin : ∀ {v : V} {H' : Hp}, Ext H3 H' → ResR X.K H3 ok H' v d true → Q v H' := fun {v H'} e4 r4 => h4 v H' (e13.trans e4) ⟨r4.1, fun z z' => let ⟨a, w1, w2, w3⟩ := r4.2 z z'; ⟨a, w1, e13.free w2, w3⟩⟩
          unfold slD at h3'
          split at h3'
          · cases h3'
            obtain ⟨a, xs, rfl, ha, ra⟩ := r3.list
            exact .inl ⟨a, xs, rfl, SqL.of ha, fun p hp => fin (upd_ext hp) (fresh_lst hp (h1.ext e13) (ra.cut _ _))⟩
          · cases h3'
            obtain ⟨a, xs, rfl, ha, ra⟩ := r3.tuple
            refine .inr ⟨a, xs, rfl, SqT.of ha, fun z => ?_, fun _ p hp => fin (upd_ext hp) (fresh_tup hp (ra.cut _ _))⟩
            rw [ra.length] at z
            rw [cutD_whole z] at fin
            exact fin (Same.refl _) (.im (.tup ha ra) rfl)
          · cases h3'
            obtain ⟨a, ns, rfl, hs, rfl⟩ := r3.scr
            obtain ⟨ms, m1, m2⟩ := cut_ints ns l u
            refine .inl ⟨_, _, rfl, hs.sq, fun p hp => ?_⟩
            rw [m1]
            rw [m2] at fin
            exact fin (upd_ext hp) (fresh_lst hp (h1.ext e13) (.of_ints _))
          · cases h3'
/-- xs[::-1] -/
def revD : PyData → Option PyData
  | .list xs => some (.list xs.reverse)
  | _ => none
theorem ei_rev {k : Nat} {p1 p3 : Pos} (ha : PEB X a f esc) : PEI X (.Subscript a (.Slice none none (some (.UnaryOp .USub (.Constant (.int 1) k p1) p2)) p3) pos) (bind1 f revD) esc true :=
  pe_imp (pe_revL ha) fun σ H Q ⟨ok, δ, d, h1, h2, h3, h4⟩ => by
    unfold bind1 at h3
    cases q1 : f δ with
    | none => rw [q1] at h3; cases h3
    | some dx =>
      rw [q1] at h3
      refine ⟨ok, δ, dx, h1, h2, q1, fun x H1 e1 r1 => ?_⟩
      have h3' : revD dx = some d := h3
      unfold revD at h3'
      split at h3'
      · cases h3'
        obtain ⟨a, xs, rfl, ha, ra⟩ := r1.list
        refine ⟨a, xs, rfl, SqL.of ha, fun p hp => ?_⟩
        obtain ⟨w1, w2⟩ := fresh_lst hp (h1.ext e1) ra.reverse
        exact h4 _ _ (e1.trans (upd_ext hp)) ⟨w1, fun z z' => let ⟨a, y1, y2, y3⟩ := w2 rfl rfl; ⟨a, y1, e1.free y2, y3⟩⟩
      · cases h3'

/-! ### built-ins of one argument -/
def Cal1 (K : PySem.W.Frag) (r : List V → Hp → VK → Prop) (h : PyData → Option PyData) (fr : Bool) : Prop :=
  ∀ (ok : Addr → Prop) (H : Hp) (x : V) (dx d : PyData) (Q : VK), Fresh H ok → RpB K H ok x dx → h dx = some d → (∀ v H', Ext H H' → ResR K H ok H' v d fr → Q v H') → r [x] H Q
def Cal2 (K : PySem.W.Frag) (r : List V → Hp → VK → Prop) (h : PyData → PyData → Option PyData) (fr : Bool) : Prop :=
  ∀ (ok : Addr → Prop) (H : Hp) (x y : V) (dx dy d : PyData) (Q : VK), Fresh H ok → RpB K H ok x dx → RpB K H ok y dy → h dx dy = some d → (∀ v H', Ext H H' → ResR K H ok H' v d fr → Q v H') → r [x, y] H Q
theorem cal1_t {r : List V → Hp → VK → Prop} {h : PyData → Option PyData} (ho : Cal1 X.K r h fr) : ∀ σ H Q, tE X.K (bind1 f h) esc fr σ H Q → tCB r (fun σ H Q => tB X.K f esc σ H fun x H' => Q [x] H') σ H Q := fun σ H Q ⟨ok, δ, d, h1, h2, h3, h4⟩ => by
  unfold bind1 at h3
  cases q1 : f δ with
  | none => rw [q1] at h3; cases h3
  | some dx =>
    rw [q1] at h3
    refine ⟨ok, δ, dx, h1, h2, q1, fun x H1 e1 r1 => ?_⟩
    exact ho ok H1 x dx d Q (h1.ext e1) r1 h3 fun v H' e3 r3 => h4 v H' (e1.trans e3) ⟨r3.1, fun z z' => let ⟨a, w1, w2, w3⟩ := r3.2 z z'; ⟨a, w1, e1.free w2, w3⟩⟩
theorem cal2_t {r : List V → Hp → VK → Prop} {h : PyData → PyData → Option PyData} (ho : Cal2 X.K r h fr) : ∀ σ H Q, tE X.K (bind2 f g h) (esc ++ esc') fr σ H Q → tCB r (fun σ H Q => tB X.K f esc σ H fun x H1 => tB X.K g esc' σ H1 fun y H' => Q [x, y] H') σ H Q := fun σ H Q ⟨ok, δ, d, h1, h2, h3, h4⟩ => by
  unfold bind2 at h3
  cases q1 : f δ with
  | none => rw [q1] at h3; cases h3
  | some dx =>
    cases q2 : g δ with
    | none => rw [q1, q2] at h3; cases h3
    | some dy =>
      rw [q1, q2] at h3
      refine ⟨ok, δ, dx, h1, h2.l, q1, fun x H1 e1 r1 => ⟨ok, δ, dy, h1.ext e1, h2.r.ext e1, q2, fun y H2 e2 r2 => ?_⟩⟩
      exact ho ok H2 x y dx dy d Q (h1.ext (e1.trans e2)) (r1.ext e2) r2 h3 fun v H' e3 r3 => h4 v H' ((e1.trans e2).trans e3) ⟨r3.1, fun z z' => let ⟨a, w1, w2, w3⟩ := r3.2 z z'; ⟨a, w1, (e1.trans e2).free w2, w3⟩⟩
variable {x : Str} {id T : String} {r : List V → Hp → VK → Prop}
theorem ei_b1 {h : PyData → Option PyData} (hc : CallR X (.builtin id) r) (ho : Cal1 X.K r h fr) (hg : Gl X x) (hm : X.mg x = none) (hv : bootBuiltins x = some (.builtin id)) (ha : PEB X a f esc) (hn : x ≠ "__name__" := by decide) (hdb : (x == ("__debug__" : Str)) = false := by decide)
    (hs : starEach [a] X.env = (false, eval a X.env) :: starEach [] X.env := by rfl) (hpl : (backTo pos (starEach [] X.env)).any (·.1) = false := by rfl) : PEI X (.Call (.Name x p) [a] [] pos) (bind1 f h) esc fr :=
  pe_imp (pe_callB hc hg hm hv (ab_one ha hs) hn hdb hs hpl) (cal1_t ho)
theorem ei_t1 {h : PyData → Option PyData} (hc : CallR X (.type T) r) (ho : Cal1 X.K r h fr) (hg : Gl X x) (hm : X.mg x = none) (hv : bootBuiltins x = some (.type T)) (ha : PEB X a f esc) (hn : x ≠ "__name__" := by decide) (hdb : (x == ("__debug__" : Str)) = false := by decide)
    (hs : starEach [a] X.env = (false, eval a X.env) :: starEach [] X.env := by rfl) (hpl : (backTo pos (starEach [] X.env)).any (·.1) = false := by rfl) : PEI X (.Call (.Name x p) [a] [] pos) (bind1 f h) esc fr :=
  pe_imp (pe_callTy hc hg hm hv (ab_one ha hs) hn hdb hs hpl) (cal1_t ho)
theorem ei_b2 {h : PyData → PyData → Option PyData} (hc : CallR X (.builtin id) r) (ho : Cal2 X.K r h fr) (hg : Gl X x) (hm : X.mg x = none) (hv : bootBuiltins x = some (.builtin id)) (ha : PEB X a f esc) (hb : PEB X b g esc') (hn : x ≠ "__name__" := by decide) (hdb : (x == ("__debug__" : Str)) = false := by decide)
    (hs : starEach [a, b] X.env = (false, eval a X.env) :: starEach [b] X.env := by rfl) (hs2 : starEach [b] X.env = (false, eval b X.env) :: starEach [] X.env := by rfl) (hpl : (backTo pos (starEach [b] X.env)).any (·.1) = false := by rfl) : PEI X (.Call (.Name x p) [a, b] [] pos) (bind2 f g h) (esc ++ esc') fr :=
  pe_imp (pe_callB hc hg hm hv (ab_two ha hb hs hs2) hn hdb hs hpl) (cal2_t ho)
end

def lenD : PyData → Option PyData
  | .list xs => some (.int xs.length)
  | .tuple xs => some (.int xs.length)
  | _ => none
theorem ad_len {K : PySem.W.Frag} : Cal1 K (fun xs H Q => ∃ p ys, xs = [.ref p] ∧ (SqL K H p ys ∨ SqT K H p ys) ∧ Q (.int ys.length) H) lenD true := fun ok H x dx d Q hf rx e h => by
  unfold lenD at e
  split at e
  · cases e
    obtain ⟨a, xs, rfl, ha, ra⟩ := rx.list
    refine ⟨a, xs, rfl, .inl (SqL.of ha), ?_⟩
    rw [ra.length]
    exact out_im (.int _) rfl h
  · cases e
    obtain ⟨a, xs, rfl, ha, ra⟩ := rx.tuple
    refine ⟨a, xs, rfl, .inr (SqT.of ha), ?_⟩
    rw [ra.length]
    exact out_im (.int _) rfl h
  · cases e
def listD : PyData → Option PyData
  | .list xs => some (.list xs)
  | .tuple xs => some (.list xs)
  | _ => none
theorem ad_list {K : PySem.W.Frag} : Cal1 K (fun xs H Q => ∃ p ys, xs = [.ref p] ∧ (SqL K H p ys ∨ SqT K H p ys) ∧ ∀ l, H l = none → Q (.ref l) (upd H l (.lst ys))) listD true := fun ok H x dx d Q hf rx e h => by
  unfold listD at e
  split at e
  · cases e
    obtain ⟨a, xs, rfl, ha, ra⟩ := rx.list
    exact ⟨a, xs, rfl, .inl (SqL.of ha), fun p hp => out_lst hf hp ra h⟩
  · cases e
    obtain ⟨a, xs, rfl, ha, ra⟩ := rx.tuple
    exact ⟨a, xs, rfl, .inr (SqT.of ha), fun p hp => out_lst hf hp ra h⟩
  · cases e
def tupleD : PyData → Option PyData
  | .list xs => some (.tuple xs)
  | .tuple xs => some (.tuple xs)
  | _ => none
theorem ad_tuple {K : PySem.W.Frag} : Cal1 K (fun xs H Q => ∃ p ys, xs = [.ref p] ∧ ((SqL K H p ys ∧ ∀ l, H l = none → Q (.ref l) (upd H l (.tup ys))) ∨ (SqT K H p ys ∧ Q (.ref p) H))) tupleD true := fun ok H x dx d Q hf rx e h => by
  unfold tupleD at e
  split at e
  · cases e
    obtain ⟨a, xs, rfl, ha, ra⟩ := rx.list
    exact ⟨a, xs, rfl, .inl ⟨SqL.of ha, fun p hp => out_tup hp ra h⟩⟩
  · cases e
    obtain ⟨a, xs, rfl, ha, ra⟩ := rx.tuple
    exact ⟨a, xs, rfl, .inr ⟨SqT.of ha, out_im (.tup ha ra) rfl h⟩⟩
  · cases e
def absD : PyData → Option PyData
  | .int i => some (.int (if i < 0 then -i else i))
  | _ => none
theorem ad_abs {K : PySem.W.Frag} : Cal1 K (fun xs H Q => ∃ i, xs = [.int i] ∧ Q (.int (if i < 0 then -i else i)) H) absD true := fun ok H x dx d Q hf rx e h => by
  unfold absD at e
  split at e
  · cases e
    have ex := rx.int
    subst ex
    exact ⟨_, rfl, out_im (.int _) rfl h⟩
  · cases e
def intD : PyData → Option PyData
  | .int i => some (.int i)
  | .bool k => some (.int (if k then 1 else 0))
  | _ => none
theorem ad_int {K : PySem.W.Frag} : Cal1 K (fun xs H Q => (∃ i, xs = [.int i] ∧ Q (.int i) H) ∨ ∃ k, xs = [.bl k] ∧ Q (.int (if k then 1 else 0)) H) intD true := fun ok H x dx d Q hf rx e h => by
  unfold intD at e
  split at e
  · cases e
    have ex := rx.int
    subst ex
    exact .inl ⟨_, rfl, out_im (.int _) rfl h⟩
  · cases e
    have ex := rx.bl
    subst ex
    exact .inr ⟨_, rfl, out_im (.int _) rfl h⟩
  · cases e
/-! ints in a list -/
def intsOf : List PyData → Option (List Int)
  | [] => some []
  | .int i :: r => (intsOf r).map (i :: ·)
  | _ => none
theorem intsOf_some : ∀ {ds : List PyData} {ns : List Int}, intsOf ds = some ns → ds = ns.map .int
  | [], ns, h => by cases h; rfl
  | .int i :: r, ns, h => by
    rw [intsOf, Option.map_eq_some_iff] at h
    obtain ⟨ms, h1, h2⟩ := h
    subst h2
    rw [intsOf_some h1]; rfl
  | .none :: _, _, h => by cases h
  | .bool _ :: _, _, h => by cases h
  | .str _ :: _, _, h => by cases h
  | .list _ :: _, _, h => by cases h
  | .tuple _ :: _, _, h => by cases h
  | .dict _ :: _, _, h => by cases h
theorem intsOf_map : ∀ (ns : List Int), intsOf (ns.map .int) = some ns
  | [] => rfl
  | n :: ns => by rw [List.map_cons, intsOf, intsOf_map ns]; rfl
def mn : Int → List Int → Int := List.foldl fun a b => if b < a then b else a
def mx : Int → List Int → Int := List.foldl fun a b => if a < b then b else a
theorem mn_spec : ∀ (a : Int) (l : List Int), mn a l ∈ a :: l ∧ ∀ y ∈ a :: l, mn a l ≤ y
  | a, [] => by simp [mn]
  | a, b :: l => by
    have e : mn a (b :: l) = mn (if b < a then b else a) l := rfl
    obtain ⟨h1, h2⟩ := mn_spec (if b < a then b else a) l
    rw [e]
    refine ⟨?_, fun y hy => ?_⟩
    · rcases List.mem_cons.mp h1 with z | z
      · rw [z]; split <;> simp
      · simp [z]
    · have ha := h2 _ List.mem_cons_self
      rcases List.mem_cons.mp hy with rfl | hy
      · refine Int.le_trans ha ?_; split <;> omega
      · rcases List.mem_cons.mp hy with rfl | hy
        · refine Int.le_trans ha ?_; split <;> omega
        · exact h2 y (List.mem_cons_of_mem _ hy)
theorem mx_spec : ∀ (a : Int) (l : List Int), mx a l ∈ a :: l ∧ ∀ y ∈ a :: l, y ≤ mx a l
  | a, [] => by simp [mx]
  | a, b :: l => by
    have e : mx a (b :: l) = mx (if a < b then b else a) l := rfl
    obtain ⟨h1, h2⟩ := mx_spec (if a < b then b else a) l
    rw [e]
    refine ⟨?_, fun y hy => ?_⟩
    · rcases List.mem_cons.mp h1 with z | z
      · rw [z]; split <;> simp
      · simp [z]
    · have ha := h2 _ List.mem_cons_self
      rcases List.mem_cons.mp hy with rfl | hy
      · refine Int.le_trans ?_ ha; split <;> omega
      · rcases List.mem_cons.mp hy with rfl | hy
        · refine Int.le_trans ?_ ha; split <;> omega
        · exact h2 y (List.mem_cons_of_mem _ hy)
def minD : PyData → Option PyData
  | .list ds => (intsOf ds).bind fun ns => match ns with | [] => none | a :: l => some (.int (mn a l))
  | _ => none
def maxD : PyData → Option PyData
  | .list ds => (intsOf ds).bind fun ns => match ns with | [] => none | a :: l => some (.int (mx a l))
  | _ => none
def sumD : PyData → Option PyData
  | .list ds => (intsOf ds).bind fun ns => some (.int ns.sum)
  | _ => none
theorem ad_min {K : PySem.W.Frag} : Cal1 K (rMin K) minD true := fun ok H x dx d Q hf rx e h => by
  unfold minD at e
  split at e
  · cases q : intsOf _ with
    | none => rw [q] at e; cases e
    | some ns =>
      rw [q] at e
      have q' := intsOf_some q
      subst q'
      cases ns with
      | nil => cases e
      | cons n ns =>
        cases e
        obtain ⟨a, xs, rfl, ha, ra⟩ := rx.list
        have hx := ra.ints
        subst hx
        refine ⟨a, n :: ns, rfl, SqL.of ha, by simp, fun m hm hy => ?_⟩
        obtain ⟨m1, m2⟩ := mn_spec n ns
        have em : m = mn n ns := Int.le_antisymm (hy _ m1) (m2 m hm)
        rw [em]
        exact out_im (.int _) rfl h
  · cases e
theorem ad_max {K : PySem.W.Frag} : Cal1 K (rMax K) maxD true := fun ok H x dx d Q hf rx e h => by
  unfold maxD at e
  split at e
  · cases q : intsOf _ with
    | none => rw [q] at e; cases e
    | some ns =>
      rw [q] at e
      have q' := intsOf_some q
      subst q'
      cases ns with
      | nil => cases e
      | cons n ns =>
        cases e
        obtain ⟨a, xs, rfl, ha, ra⟩ := rx.list
        have hx := ra.ints
        subst hx
        refine ⟨a, n :: ns, rfl, SqL.of ha, by simp, fun m hm hy => ?_⟩
        obtain ⟨m1, m2⟩ := mx_spec n ns
        have em : m = mx n ns := Int.le_antisymm (m2 m hm) (hy _ m1)
        rw [em]
        exact out_im (.int _) rfl h
  · cases e
theorem ad_sum {K : PySem.W.Frag} : Cal1 K (rSum K) sumD true := fun ok H x dx d Q hf rx e h => by
  unfold sumD at e
  split at e
  · cases q : intsOf _ with
    | none => rw [q] at e; cases e
    | some ns =>
      rw [q] at e
      have q' := intsOf_some q
      subst q'
      cases e
      obtain ⟨a, xs, rfl, ha, ra⟩ := rx.list
      have hx := ra.ints
      subst hx
      exact ⟨a, ns, rfl, SqL.of ha, out_im (.int _) rfl h⟩
  · cases e
def min2D : PyData → PyData → Option PyData
  | .int i, .int j => some (.int (if j < i then j else i))
  | _, _ => none
def max2D : PyData → PyData → Option PyData
  | .int i, .int j => some (.int (if j > i then j else i))
  | _, _ => none
theorem ad_min2 {K : PySem.W.Frag} : Cal2 K (fun xs H Q => ∃ i j, xs = [.int i, .int j] ∧ Q (.int (if j < i then j else i)) H) min2D true := fun ok H x y dx dy d Q hf rx ry e h => by
  unfold min2D at e
  split at e
  · cases e
    have ex := rx.int
    have ey := ry.int
    subst ex ey
    exact ⟨_, _, rfl, out_im (.int _) rfl h⟩
  · cases e
theorem ad_max2 {K : PySem.W.Frag} : Cal2 K (fun xs H Q => ∃ i j, xs = [.int i, .int j] ∧ Q (.int (if j > i then j else i)) H) max2D true := fun ok H x y dx dy d Q hf rx ry e h => by
  unfold max2D at e
  split at e
  · cases e
    have ex := rx.int
    have ey := ry.int
    subst ex ey
    exact ⟨_, _, rfl, out_im (.int _) rfl h⟩
  · cases e
end PM

set_option Elab.async false
set_option linter.all false
set_option maxRecDepth 100000
set_option maxHeartbeats 4000000
/-! PM: sorted, sets, isinstance, ranges as lists. -/
namespace PM
open PySem PySem.Spec PyProof.Rows L2

/-! ### sorted(xs) -/
def sortLe (a b : PyData) : Bool := !PySem.W.dataLt b a
def tupNE : PyData → Bool
  | .tuple (_ :: _) => true
  | _ => false
def notNT : PyData → Bool
  | .none => false
  | .tuple _ => false
  | _ => true
def srtOk (ds : List PyData) : Bool := (ds.all fun d => ds.all fun d' => PySem.W.alike d d') && ((ds.all tupNE || ds.all notNT) && dOkL DEP ds)
def sortD : PyData → Option PyData
  | .list ds => if srtOk ds = true then some (.list (ds.mergeSort sortLe)) else none
  | _ => none
def rSortX (K : PySem.W.Frag) : List V → Hp → VK → Prop := fun vs H Q => ∃ (a : Addr) (xs : List V) (ds : List PyData), vs = [V.ref a] ∧ H a = some (.lst xs) ∧ RpL K H (fun _ => True) xs ds ∧ srtOk ds = true ∧
  ∀ (zs : List (V × PyData)) (p : Addr), zs.Perm (xs.zip ds) → zs.map (·.2) = ds.mergeSort sortLe → H p = none → Q (.ref p) (upd H p (.lst (zs.map (·.1))))
theorem eachIs_zip {α β : Type} {R : α → β → Prop} : ∀ {us : List Value} {xs : List V} {ds : List PyData}, Vals xs us → xs.length = ds.length → PySem.W.EachIs (fun (v : Value) (b : V × PyData) => RelV b.1 v) us (xs.zip ds)
  | _, _, [], .nil, _ => .nil
  | _, _, _ :: _, .cons r t, h => by
    rw [List.zip_cons_cons]
    exact .cons r (eachIs_zip (α := α) (β := β) (R := R) t (by simpa using h))
  | _, _, _ :: _, .nil, h => by simp at h
  | _, _, [], .cons _ _, h => by simp at h
theorem vals_each : ∀ {us : List Value} {zs : List (V × PyData)}, PySem.W.EachIs (fun (v : Value) (b : V × PyData) => RelV b.1 v) us zs → Vals (zs.map (·.1)) us
  | _, _, .nil => .nil
  | _, _, .cons r t => .cons r (vals_each t)
theorem reads_each {h : Heap} : ∀ {us : List Value} {ds : List PyData} {as : List Addr} {xs : List V}, ReadsAll h us ds as → xs.length = ds.length → PySem.W.EachIs (fun (v : Value) (b : V × PyData) => ∃ as, Reads h v b.2 as) us (xs.zip ds)
  | _, _, _, [], .nil, _ => .nil
  | _, _, _, _ :: _, .cons r t, e => by
    rw [List.zip_cons_cons]
    exact .cons ⟨_, r⟩ (reads_each t (by simpa using e))
  | _, _, _, _ :: _, .nil, e => by simp at e
  | _, _, _, [], .cons _ _, e => by simp at e
theorem map_snd_zip' {xs : List V} {ds : List PyData} (h : xs.length = ds.length) : (xs.zip ds).map (·.2) = ds := List.map_snd_zip (Nat.le_of_eq h.symm)
theorem dOkL_mem {n : Nat} : ∀ {ds : List PyData}, dOkL n ds = true → ∀ d ∈ ds, dOk n d = true
  | [], _, d, hd => by cases hd
  | x :: xs, h, d, hd => by
    rw [dOkL, Bool.and_eq_true] at h
    rcases List.mem_cons.mp hd with rfl | hd
    · exact h.1
    · exact dOkL_mem h.2 d hd
theorem cr_sortX {X : Cx} (hu : X.A.units + 200 < cLine) : CallR X (.builtin "sorted") (rSortX X.K) := by
  intro pins s σ H vs us Q I r h
  obtain ⟨a, xs, ds, rfl, ha, ra, hk, q⟩ := h
  obtain ⟨its, rv, hl, hz⟩ := I.list (SqL.of ha)
  rw [Vals.ref1 r]
  have hlen : xs.length = ds.length := ra.length
  simp only [srtOk, Bool.and_eq_true, Bool.or_eq_true] at hk
  obtain ⟨k1, k2, k3⟩ := hk
  obtain ⟨as, hr⟩ := Dp.readsAll I ds _ its (RpL.dp ra (dOkL_lay _ _ k3).2.2) rv
  have hal : PySem.W.AllAlike ((xs.zip ds).map (·.2)) := by
    rw [map_snd_zip' hlen]
    intro d hd d' hd'
    exact List.all_eq_true.mp (List.all_eq_true.mp k1 d hd) d' hd'
  have hso : PySem.W.Sortable ((xs.zip ds).map (·.2)) := by
    rw [map_snd_zip' hlen]
    rcases k2 with k2 | k2
    · refine .inl fun d hd => ?_
      have z := List.all_eq_true.mp k2 d hd
      unfold tupNE at z
      split at z
      · exact ⟨_, _, rfl⟩
      · cases z
    · refine .inr fun d hd => ?_
      have z := List.all_eq_true.mp k2 d hd
      unfold notNT at z
      split at z
      · cases z
      · cases z
      · rename_i n1 n2
        exact ⟨n1, n2⟩
  refine PySem.W.sorted_data (enc := (·.2)) hl.isList (eachIs_zip (α := V) (β := V) (R := fun _ _ => True) rv hlen) (reads_each hr hlen) hal hso (by rw [List.length_zip]; omega) (fun b hb => ?_) fun out h1 h2 => ?_
  · have hd : b.2 ∈ ds := (List.of_mem_zip hb).2
    have z := (dOk_lay _ _ (dOkL_mem k3 _ hd)).2.1
    unfold DEP at z
    omega
  · obtain ⟨ep, he'⟩ := PyProof.Rows.sortedAll_at s.heap its out.toArray
    have hv := vals_each h2
    have hl2 : ((xs.zip ds).mergeSort (PySem.W.dataLe false (·.2))).length = xs.length := by rw [List.length_mergeSort, List.length_zip]; omega
    refine ⟨.ref _, upd H (s.heap.objs.size + 1) (.lst _), I.laid (t' := s.toks) (fun _ _ => PyProof.Rows.sortedAll_old) (Nat.le_succ _) ⟨?_, out, ep, hv, he'⟩, rfl, q _ _ (List.mergeSort_perm _ _) ?_ (I.hok.fresh (Nat.le_succ _))⟩
    · rw [List.length_map, hl2]; exact hz
    · rw [List.map_mergeSort (s := sortLe), map_snd_zip' hlen]
      intro b _ b' _
      rw [PySem.W.dataLe_eq]
      rfl
theorem RpL.zip_mem {K : PySem.W.Frag} {H : Hp} {ok : Addr → Prop} : ∀ {xs : List V} {ds : List PyData}, RpL K H ok xs ds → ∀ z ∈ xs.zip ds, Rp K H ok z.1 z.2
  | _, _, .nil, z, h => by cases h
  | _, _, .cons r t, z, h => by
    rw [List.zip_cons_cons] at h
    rcases List.mem_cons.mp h with rfl | h
    · exact r
    · exact t.zip_mem z h
theorem RpL.of_mem {K : PySem.W.Frag} {H : Hp} {ok : Addr → Prop} : ∀ {zs : List (V × PyData)}, (∀ z ∈ zs, Rp K H ok z.1 z.2) → RpL K H ok (zs.map (·.1)) (zs.map (·.2))
  | [], _ => .nil
  | z :: zs, h => .cons (h z List.mem_cons_self) (RpL.of_mem fun y hy => h y (List.mem_cons_of_mem _ hy))
theorem ad_sort {K : PySem.W.Frag} : Cal1 K (rSortX K) sortD true := fun ok H x dx d Q hf rx e h => by
  unfold sortD at e
  split at e
  · split at e
    · rename_i ds hk
      cases e
      obtain ⟨a, xs, rfl, ha, ra⟩ := rx.list
      refine ⟨a, xs, ds, rfl, ha, ra.imp fun _ _ _ => trivial, hk, fun zs p hp hm np => ?_⟩
      have r2 : RpL K H ok (zs.map (·.1)) (zs.map (·.2)) := .of_mem fun z hz => ra.zip_mem z (hp.mem_iff.mp hz)
      rw [hm] at r2
      exact out_lst hf np r2 h
    · cases e
  · cases e

/-! ### isinstance(x, T), T a built-in class -/
def tyN : PyData → Option String
  | .none => some "NoneType"
  | .bool _ => some "bool"
  | .int _ => some "int"
  | .str _ => some "str"
  | .list _ => some "list"
  | .tuple _ => some "tuple"
  | .dict _ => none
def isiD (T : String) (d : PyData) : Option PyData := (tyN d).bind fun t => (kitB t T).map .bool
theorem ad_isi {K : PySem.W.Frag} {T : String} : ∀ (ok : Addr → Prop) (H : Hp) (x : V) (dx d : PyData) (Q : VK), RpB K H ok x dx → isiD T dx = some d → (∀ v H', Ext H H' → ResR K H ok H' v d true → Q v H') → rIsi K [x, .ty T] H Q := fun ok H x dx d Q rx e h => by
  unfold isiD at e
  have ty : ∀ t, tyN dx = some t → TyX K H x (.type t) := fun t ht => by
    cases dx with
    | none => cases ht; have := rx.non; subst this; exact .base .non
    | bool b => cases ht; have := rx.bl; subst this; exact .base (.bl _)
    | int b => cases ht; have := rx.int; subst this; exact .base (.int _)
    | str b => cases ht; have := rx.str; subst this; exact .base (.str _)
    | list b => cases ht; obtain ⟨a, xs, rfl, ha, ra⟩ := rx.list; exact .base (.lst ha)
    | tuple b => cases ht; obtain ⟨a, xs, rfl, ha, ra⟩ := rx.tuple; exact .base (.tup ha)
    | dict b => cases ht
  cases q : tyN dx with
  | none => rw [q] at e; cases e
  | some t =>
    rw [q] at e
    have e' : (kitB t T).map PyData.bool = some d := e
    rw [Option.map_eq_some_iff] at e'
    obtain ⟨b, h1, rfl⟩ := e'
    exact ⟨x, .ty T, .type t, .type T, b, rfl, .ty T, ty t q, kit_ty h1, out_im (.bl _) rfl h⟩
section
variable {X : Cx} {e a b c : Expr} {es : List Expr} {pos p p2 q1 q2 : Pos} {f g k : FE} {fs : FA} {esc esc' esc'' : List Nat} {fr fr' : Bool} {x : Str} {T : String}
theorem ei_isi (hg : Gl X "isinstance") (hm : X.mg "isinstance" = none) (hv : bootBuiltins "isinstance" = some (.builtin "isinstance")) (ha : PEB X a f esc) (hb : PE X b (tC (.ty T)))
    (hs : starEach [a, b] X.env = (false, eval a X.env) :: starEach [b] X.env := by rfl) (hs2 : starEach [b] X.env = (false, eval b X.env) :: starEach [] X.env := by rfl) (hpl : (backTo pos (starEach [b] X.env)).any (·.1) = false := by rfl) : PEI X (.Call (.Name "isinstance" p) [a, b] [] pos) (bind1 f (isiD T)) esc true :=
  pe_imp (pe_callB call_isi hg hm hv (pa_cons ha (pa_cons hb pa_nil hs2) hs) (by decide) (by decide) hs hpl) fun σ H Q ⟨ok, δ, d, h1, h2, h3, h4⟩ => by
    unfold bind1 at h3
    cases q1 : f δ with
    | none => rw [q1] at h3; cases h3
    | some dx =>
      rw [q1] at h3
      refine ⟨ok, δ, dx, h1, h2, q1, fun x H1 e1 r1 => ?_⟩
      exact ad_isi ok H1 x dx d Q r1 h3 fun v H' e3 r3 => h4 v H' (e1.trans e3) ⟨r3.1, fun z z' => let ⟨a, w1, w2, w3⟩ := r3.2 z z'; ⟨a, w1, e1.free w2, w3⟩⟩

/-! ### list(range(..)), tuple(range(..)) -/
def rgL (i j : Int) : List PyData := (List.range (j - i).toNat).map fun k => .int (i + (k : Nat))
def rgOk (i j : Int) : Bool := decide (-4611686018427387904 ≤ i) && (decide (i < 4611686018427387904) && (decide (-4611686018427387904 ≤ j) && (decide (j < 4611686018427387904) && decide ((j - i).toNat ≤ LINE))))
theorem rgOk_ok {i j : Int} (h : rgOk i j = true) : RgOk i j := by
  simp only [rgOk, Bool.and_eq_true, decide_eq_true_eq, LINE] at h
  have e : (2 : Nat) ^ 24 = 16777216 := by decide
  exact ⟨by omega, by omega, by omega, by omega, by rw [e]; exact of_decide_eq_true h.2.2.2.2⟩
theorem rp_rg {K : PySem.W.Frag} {H : Hp} {ok : Addr → Prop} (i j : Int) : RpL K H ok (rgV i j) (rgL i j) := by
  unfold rgV rgL
  have : ∀ l : List Nat, RpL K H ok (l.map fun k => V.int (i + (k : Nat))) (l.map fun k => .int (i + (k : Nat))) := fun l => by
    induction l with
    | nil => exact .nil
    | cons k l ih => exact .cons (.int _) ih
  exact this _
abbrev FR2 := Dt → Option (Int × Int)
/-- a range as an argument -/
def PRI (X : Cx) (e : Expr) (f : FR2) : Prop := PRg X e (fun σ H Q => ∃ δ i j, SlE X.K (fun _ => True) [] σ H δ ∧ f δ = some (i, j) ∧ ∀ H', Ext H H' → Q i j H')
def int1 : PyData → Option Int
  | .int i => some i
  | _ => none
def rg1 (f : FE) : FR2 := fun δ => (f δ).bind fun x => (int1 x).map fun n => (0, n)
def rg2 (f g : FE) : FR2 := fun δ => (f δ).bind fun x => (g δ).bind fun y => (int1 x).bind fun i => (int1 y).map fun j => (i, j)
theorem int1_some {d : PyData} {i : Int} (h : int1 d = some i) : d = .int i := by
  unfold int1 at h
  split at h
  · cases h; rfl
  · cases h
theorem ri_1 (hg : Gl X "range") (hm : X.mg "range" = none) (ha : PEB X a f esc) (na : starEach [a] X.env = (false, eval a X.env) :: starEach [] X.env := by rfl) : PRI X (.Call (.Name "range" p) [a] [] pos) (rg1 f) := by
  intro pins s σ H Q I ⟨δ, i, j, h1, h2, h4⟩
  unfold rg1 at h2
  cases q1 : f δ with
  | none => rw [q1] at h2; cases h2
  | some dx =>
    rw [q1] at h2
    have h2' : (int1 dx).map (fun n => ((0 : Int), n)) = some (i, j) := h2
    rw [Option.map_eq_some_iff] at h2'
    obtain ⟨n, w1, w2⟩ := h2'
    cases w2
    have w := int1_some w1
    subst w
    refine (prg_1 hg hm ha na) pins s σ H Q I ⟨fun _ => True, δ, .int j, fun _ _ => trivial, h1.tru _, q1, fun v H' e1 r => ?_⟩
    have ev := r.int
    subst ev
    exact ⟨j, rfl, h4 H' e1⟩
theorem ri_2 (hg : Gl X "range") (hm : X.mg "range" = none) (ha : PEB X a f esc) (hb : PEB X b g esc') (na : starEach [a, b] X.env = (false, eval a X.env) :: starEach [b] X.env := by rfl)
    (nb : starEach [b] X.env = (false, eval b X.env) :: starEach [] X.env := by rfl) (hp : (backTo pos (starEach [b] X.env)).any (·.1) = false := by rfl) : PRI X (.Call (.Name "range" p) [a, b] [] pos) (rg2 f g) := by
  intro pins s σ H Q I ⟨δ, i, j, h1, h2, h4⟩
  unfold rg2 at h2
  cases q1 : f δ with
  | none => rw [q1] at h2; cases h2
  | some dx =>
    cases q2 : g δ with
    | none => rw [q1, q2] at h2; cases h2
    | some dy =>
      rw [q1, q2] at h2
      have h2' : ((int1 dx).bind fun i => (int1 dy).map fun j => (i, j)) = some (i, j) := h2
      cases w1 : int1 dx with
      | none => rw [w1] at h2'; cases h2'
      | some i' =>
        cases w2 : int1 dy with
        | none => rw [w1, w2] at h2'; cases h2'
        | some j' =>
          rw [w1, w2] at h2'
          cases h2'
          have w := int1_some w1
          have w' := int1_some w2
          subst w w'
          refine (prg_2 hg hm ha hb na nb hp) pins s σ H Q I ⟨fun _ => True, δ, .int i, fun _ _ => trivial, h1.tru _, q1, fun v H1 e1 r1 => ⟨fun _ => True, δ, .int j, fun _ _ => trivial, (h1.tru _).ext e1, q2, fun u H2 e2 r2 => ?_⟩⟩
          have ev := r1.int
          have eu := r2.int
          subst ev eu
          exact ⟨i, j, rfl, rfl, h4 H2 (e1.trans e2)⟩
def lstRg (f : FR2) : FE := fun δ => (f δ).bind fun p => if rgOk p.1 p.2 = true then some (.list (rgL p.1 p.2)) else none
def tupRg (f : FR2) : FE := fun δ => (f δ).bind fun p => if rgOk p.1 p.2 = true then some (.tuple (rgL p.1 p.2)) else none
theorem ei_listRg {f : FR2} (hc : X.calm = true) (hg : Gl X "list") (hm : X.mg "list" = none) (he : PRI X e f) (na : starEach [e] X.env = (false, eval e X.env) :: starEach [] X.env := by rfl) : PEI X (.Call (.Name "list" p) [e] [] pos) (lstRg f) [] true :=
  pe_imp (pe_listRg hc hg hm he na) fun σ H Q ⟨ok, δ, d, h1, h2, h3, h4⟩ => by
    unfold lstRg at h3
    cases q1 : f δ with
    | none => rw [q1] at h3; cases h3
    | some ij =>
      rw [q1] at h3
      obtain ⟨i, j⟩ := ij
      have h3' : (if rgOk i j = true then some (PyData.list (rgL i j)) else none) = some d := h3
      split at h3'
      · cases h3'
        refine ⟨δ, i, j, h2.tru _, q1, fun H1 e1 => ⟨rgOk_ok (by assumption), fun p hp => ?_⟩⟩
        obtain ⟨w1, w2⟩ := fresh_lst hp (h1.ext e1) (rp_rg i j)
        exact h4 _ _ (e1.trans (upd_ext hp)) ⟨w1, fun z z' => let ⟨a, y1, y2, y3⟩ := w2 rfl rfl; ⟨a, y1, e1.free y2, y3⟩⟩
      · cases h3'
theorem ei_tupRg {f : FR2} (hc : X.calm = true) (hg : Gl X "tuple") (hm : X.mg "tuple" = none) (he : PRI X e f) (na : starEach [e] X.env = (false, eval e X.env) :: starEach [] X.env := by rfl) : PEI X (.Call (.Name "tuple" p) [e] [] pos) (tupRg f) [] true :=
  pe_imp (pe_tupRg hc hg hm he na) fun σ H Q ⟨ok, δ, d, h1, h2, h3, h4⟩ => by
    unfold tupRg at h3
    cases q1 : f δ with
    | none => rw [q1] at h3; cases h3
    | some ij =>
      rw [q1] at h3
      obtain ⟨i, j⟩ := ij
      have h3' : (if rgOk i j = true then some (PyData.tuple (rgL i j)) else none) = some d := h3
      split at h3'
      · cases h3'
        refine ⟨δ, i, j, h2.tru _, q1, fun H1 e1 => ⟨rgOk_ok (by assumption), fun p hp => ?_⟩⟩
        exact h4 _ _ (e1.trans (upd_ext hp)) ⟨(fresh_tup (fr := false) hp (rp_rg i j)).1, fun z z' => by cases z'⟩
      · cases h3'

/-! ### tests -/
def boolOf : PyData → Option Bool
  | .bool b => some b
  | _ => none
theorem boolOf_some {d : PyData} {b : Bool} (h : boolOf d = some b) : d = .bool b := by
  unfold boolOf at h
  split at h
  · cases h; rfl
  · cases h
def tst (f : FE) : FT := fun δ => (f δ).bind boolOf
theorem tst_some {f : FE} {δ : Dt} {b : Bool} (h : tst f δ = some b) : f δ = some (.bool b) := by
  unfold tst at h
  cases q : f δ with
  | none => rw [q] at h; cases h
  | some d =>
    rw [q] at h
    exact congrArg some (boolOf_some h)
theorem ti_val (h : PT X e (fun σ H Q => tE X.K f esc fr σ H fun x H' => ∃ k, x = .bl k ∧ Q k H')) : PTI X e (tst f) :=
  pt_imp h fun σ H Q ⟨δ, b, h1, h2, h3⟩ => ⟨fun _ => True, δ, .bool b, fun _ _ => trivial, h1.tru _, tst_some h2, fun v H' e r => by
    have ev := (RpB.of r.1).bl
    subst ev
    exact ⟨b, rfl, h3 H' e⟩⟩
/-- a comparison as a test -/
theorem ti_cmp {op : CmpOp} {r : R2} {h : PyData → PyData → Option PyData} (hop : OpR X (compareOp op) r) (ho : Op2 X.K r h fr) (ha : PEB X a f esc) (hb : PEB X b g esc') (hm : behindInMarks op b = false) : PTI X (.Compare a [op] [b] pos) (tst (bind2 f g h)) :=
  ti_val (esc := esc ++ esc') (fr := fr) (pt_imp (pt_cmpR hop ha hb hm) fun σ H Q w => op2_t ho σ H _ w)
theorem ti_bool (h : PEI X e f esc fr) (ht : ∀ t, PE X e t → PT X e (tTest t)) : PTI X e (tst f) := ti_val (esc := esc) (fr := fr) (ht _ h)
/-- by truth: None, bools, ints, lists, tuples -/
def truD : PyData → Option Bool
  | .none => some false
  | .bool b => some b
  | .int i => some (i != 0)
  | .list xs => some (!xs.isEmpty)
  | .tuple xs => some (!xs.isEmpty)
  | _ => none
theorem RpL.isEmpty {K : PySem.W.Frag} {H : Hp} {ok : Addr → Prop} {xs : List V} {ds : List PyData} (r : RpL K H ok xs ds) : xs.isEmpty = ds.isEmpty := by cases r <;> rfl
theorem truV_of {K : PySem.W.Frag} {H : Hp} {ok : Addr → Prop} {v : V} {d : PyData} {b : Bool} (r : RpB K H ok v d) (h : truD d = some b) : TruV K v H b := by
  unfold truD at h
  split at h
  · cases h; have := r.non; subst this; rfl
  · cases h; have := r.bl; subst this; rfl
  · cases h; have := r.int; subst this; rfl
  · cases h; obtain ⟨a, xs, rfl, ha, ra⟩ := r.list; exact .inl ⟨xs, SqL.of ha, by rw [ra.isEmpty]⟩
  · cases h; obtain ⟨a, xs, rfl, ha, ra⟩ := r.tuple; exact .inr (.inl ⟨xs, SqT.of ha, by rw [ra.isEmpty]⟩)
  · cases h
def tru (f : FE) : FT := fun δ => (f δ).bind truD
theorem ti_truth (ha : PEB X a f esc) (he : ∀ whole, isTrue a X.env whole = (do let v ← whole; standAt a.pos; holding [v] (truthy v)) := by intro _; rfl) : PTI X a (tru f) :=
  pt_imp (pt_truth ha he) fun σ H Q ⟨δ, b, h1, h2, h3⟩ => by
    unfold tru at h2
    cases q1 : f δ with
    | none => rw [q1] at h2; cases h2
    | some d =>
      rw [q1] at h2
      exact ⟨fun _ => True, δ, d, fun _ _ => trivial, h1.tru _, q1, fun v H' e r => ⟨b, truV_of r h2, h3 H' e⟩⟩

section
variable {X : Cx} {a b c : Expr} {rest : List Expr} {pos : Pos} {f g : FE} {p q : FT} {esc esc' : List Nat} {fr fr' : Bool}
theorem ti_pw (h : PWI X a p) : PTI X a p := h.pt
def andT (p q : FT) : FT := fun δ => (p δ).bind fun b => if b = true then q δ else some false
def orT (p q : FT) : FT := fun δ => (p δ).bind fun b => if b = true then some true else q δ
def notT (p : FT) : FT := fun δ => (p δ).map (!·)
theorem wi_and1 (ha : PTI X a p) : PWI X (.BoolOp .And [a] pos) p := pw_and1 ha
theorem wi_or1 (ha : PTI X a p) : PWI X (.BoolOp .Or [a] pos) p := pw_or1 ha
theorem wi_and (ha : PTI X a p) (hb : PWI X (.BoolOp .And (b :: rest) pos) q) : PWI X (.BoolOp .And (a :: b :: rest) pos) (andT p q) :=
  pw_imp (pw_and ha hb) fun σ H Q ⟨δ, k, h1, h2, h3⟩ => by
    unfold andT at h2
    cases q1 : p δ with
    | none => rw [q1] at h2; cases h2
    | some u =>
      rw [q1] at h2
      have h2' : (if u = true then q δ else some false) = some k := h2
      refine ⟨δ, u, h1, q1, fun H1 e1 => ?_⟩
      cases u with
      | true => exact iteT ⟨δ, k, h1.ext e1, h2', fun H2 e2 => h3 H2 (e1.trans e2)⟩
      | false => cases h2'; exact iteF (h3 H1 e1)
theorem wi_or (ha : PTI X a p) (hb : PWI X (.BoolOp .Or (b :: rest) pos) q) : PWI X (.BoolOp .Or (a :: b :: rest) pos) (orT p q) :=
  pw_imp (pw_or ha hb) fun σ H Q ⟨δ, k, h1, h2, h3⟩ => by
    unfold orT at h2
    cases q1 : p δ with
    | none => rw [q1] at h2; cases h2
    | some u =>
      rw [q1] at h2
      have h2' : (if u = true then some true else q δ) = some k := h2
      refine ⟨δ, u, h1, q1, fun H1 e1 => ?_⟩
      cases u with
      | true => cases h2'; exact iteT (h3 H1 e1)
      | false => exact iteF ⟨δ, k, h1.ext e1, h2', fun H2 e2 => h3 H2 (e1.trans e2)⟩
theorem ti_not (ha : PTI X a p) : PTI X (.UnaryOp .Not a pos) (notT p) :=
  pt_imp (pt_not ha) fun σ H Q ⟨δ, k, h1, h2, h3⟩ => by
    unfold notT at h2
    cases q1 : p δ with
    | none => rw [q1] at h2; cases h2
    | some u =>
      rw [q1] at h2
      cases h2
      exact ⟨δ, u, h1, q1, fun H1 e1 => h3 H1 e1⟩
/-! and, or, not as values; all but the last True or False -/
def andV (f g : FE) : FE := fun δ => ((f δ).bind boolOf).bind fun b => if b = true then g δ else some (.bool false)
def orV (f g : FE) : FE := fun δ => ((f δ).bind boolOf).bind fun b => if b = true then some (.bool true) else g δ
theorem ei_one {op : BoolOp} (ha : PEI X a f esc fr) : PEI X (.BoolOp op [a] pos) f esc fr := pe_one ha
theorem ei_and (ha : PEI X a f esc fr) (hb : PEI X (.BoolOp .And (b :: rest) pos) g esc' fr') : PEI X (.BoolOp .And (a :: b :: rest) pos) (andV f g) (esc ++ esc') fr' :=
  pe_imp (pe_and ha hb) fun σ H Q ⟨ok, δ, d, h1, h2, h3, h4⟩ => by
    unfold andV at h3
    cases q1 : f δ with
    | none => rw [q1] at h3; cases h3
    | some dx =>
      rw [q1] at h3
      have h3' : ((boolOf dx).bind fun b => if b = true then g δ else some (.bool false)) = some d := h3
      cases q2 : boolOf dx with
      | none => rw [q2] at h3'; cases h3'
      | some u =>
        rw [q2] at h3'
        have h3'' : (if u = true then g δ else some (.bool false)) = some d := h3'
        have ed := boolOf_some q2
        subst ed
        refine ⟨ok, δ, .bool u, h1, h2.l, q1, fun v H1 e1 r => ?_⟩
        have ev := (RpB.of r.1).bl
        subst ev
        refine ⟨u, rfl, ?_⟩
        cases u with
        | true => exact iteT ⟨ok, δ, d, h1.ext e1, h2.r.ext e1, h3'', fun v H2 e2 r2 => h4 v H2 (e1.trans e2) ⟨r2.1, fun z z' => let ⟨a, w1, w2, w3⟩ := r2.2 z z'; ⟨a, w1, e1.free w2, w3⟩⟩⟩
        | false => cases h3''; exact iteF (h4 _ H1 e1 (.im (.bl _) rfl))
theorem ei_or (ha : PEI X a f esc fr) (hb : PEI X (.BoolOp .Or (b :: rest) pos) g esc' fr') : PEI X (.BoolOp .Or (a :: b :: rest) pos) (orV f g) (esc ++ esc') fr' :=
  pe_imp (pe_or ha hb) fun σ H Q ⟨ok, δ, d, h1, h2, h3, h4⟩ => by
    unfold orV at h3
    cases q1 : f δ with
    | none => rw [q1] at h3; cases h3
    | some dx =>
      rw [q1] at h3
      have h3' : ((boolOf dx).bind fun b => if b = true then some (.bool true) else g δ) = some d := h3
      cases q2 : boolOf dx with
      | none => rw [q2] at h3'; cases h3'
      | some u =>
        rw [q2] at h3'
        have h3'' : (if u = true then some (.bool true) else g δ) = some d := h3'
        have ed := boolOf_some q2
        subst ed
        refine ⟨ok, δ, .bool u, h1, h2.l, q1, fun v H1 e1 r => ?_⟩
        have ev := (RpB.of r.1).bl
        subst ev
        refine ⟨u, rfl, ?_⟩
        cases u with
        | true => cases h3''; exact iteT (h4 _ H1 e1 (.im (.bl _) rfl))
        | false => exact iteF ⟨ok, δ, d, h1.ext e1, h2.r.ext e1, h3'', fun v H2 e2 r2 => h4 v H2 (e1.trans e2) ⟨r2.1, fun z z' => let ⟨a, w1, w2, w3⟩ := r2.2 z z'; ⟨a, w1, e1.free w2, w3⟩⟩⟩
def notV (f : FE) : FE := fun δ => ((f δ).bind boolOf).map fun b => .bool (!b)
theorem ei_not (ha : PEI X a f esc fr) : PEI X (.UnaryOp .Not a pos) (notV f) esc true :=
  pe_imp (pe_not ha) fun σ H Q ⟨ok, δ, d, h1, h2, h3, h4⟩ => by
    unfold notV at h3
    cases q1 : f δ with
    | none => rw [q1] at h3; cases h3
    | some dx =>
      rw [q1] at h3
      have h3' : (boolOf dx).map (fun b => PyData.bool (!b)) = some d := h3
      cases q2 : boolOf dx with
      | none => rw [q2] at h3'; cases h3'
      | some u =>
        rw [q2] at h3'
        cases h3'
        have ed := boolOf_some q2
        subst ed
        refine ⟨ok, δ, .bool u, h1, h2, q1, fun v H1 e1 r => ?_⟩
        have ev := (RpB.of r.1).bl
        subst ev
        exact ⟨u, rfl, h4 _ H1 e1 (.im (.bl _) rfl)⟩
def ifE (p : FT) (f g : FE) : FE := fun δ => (p δ).bind fun b => if b = true then f δ else g δ
theorem ei_if (hc : PTI X c p) (ha : PEI X a f esc fr) (hb : PEI X b g esc' fr') : PEI X (.IfExp c a b pos) (ifE p f g) (esc ++ esc') (fr && fr') :=
  pe_imp (pe_ifExp hc ha hb) fun σ H Q ⟨ok, δ, d, h1, h2, h3, h4⟩ => by
    unfold ifE at h3
    cases q1 : p δ with
    | none => rw [q1] at h3; cases h3
    | some u =>
      rw [q1] at h3
      have h3' : (if u = true then f δ else g δ) = some d := h3
      refine ⟨δ, u, h2.tru _, q1, fun H1 e1 => ?_⟩
      cases u with
      | true => exact iteT ⟨ok, δ, d, h1.ext e1, h2.l.ext e1, h3', fun v H2 e2 r2 => h4 v H2 (e1.trans e2) ⟨r2.1, fun z z' => let ⟨a, w1, w2, w3⟩ := r2.2 (by cases fr <;> simp_all) z'; ⟨a, w1, e1.free w2, w3⟩⟩⟩
      | false => exact iteF ⟨ok, δ, d, h1.ext e1, h2.r.ext e1, h3', fun v H2 e2 r2 => h4 v H2 (e1.trans e2) ⟨r2.1, fun z z' => let ⟨a, w1, w2, w3⟩ := r2.2 (by cases fr <;> cases fr' <;> simp_all) z'; ⟨a, w1, e1.free w2, w3⟩⟩⟩
end
end
end PM

set_option Elab.async false
set_option linter.all false
set_option maxRecDepth 100000
set_option maxHeartbeats 4000000
/-! PM: calls of defs, what is walked, comprehensions. -/
namespace PM
open PySem PySem.Spec PyProof.Rows L2

/-! ### a def's promise, by plain data -/
abbrev Fn := List PyData → Option PyData
def spF (K : PySem.W.Frag) (F : Fn) (fr : Bool) : Sp := fun vs H Q _ => ∃ ok ds r, Fresh H ok ∧ RpL K H ok vs ds ∧ F ds = some r ∧ ∀ v H', Ext H H' → ResR K H ok H' v r fr → Q v H'
/-- the module's name x is a def that keeps the promise F -/
def Dn (P : Program) (w : World) (K : PySem.W.Frag) (mg : Str → Option Value) (base : Heap) (k : Nat) (x : Str) (F : Fn) (fr : Bool) : Prop :=
  ∃ f fd ps, FnOk P w K mg base CX0 k f fd ps (spF K F fr) ∧ mg x = some (.ref f) ∧ PySem.W.keepIn K (.ref f) = true ∧ Binds K fd ps []
section
variable {X : Cx} {e a b c : Expr} {es : List Expr} {pos p p2 : Pos} {f g : FE} {fs : FA} {esc esc' : List Nat} {fr fr' : Bool} {x : Str} {k n : Nat} {F : Fn}
def callD (F : Fn) (fs : FA) : FE := fun δ => (fs δ).bind F
theorem ei_call (D : Dn X.prog X.w X.K X.mg X.base k x F fr) (hr : Room k X.A) (hg : Gl X x) (ha : PAI X (e :: es) fs esc) (hdb : (x == ("__debug__" : Str)) = false := by decide)
    (he : starEach (e :: es) X.env = (false, eval e X.env) :: starEach es X.env := by rfl) (hpl : (backTo pos (starEach es X.env)).any (·.1) = false := by rfl) : PEI X (.Call (.Name x p) (e :: es) [] pos) (callD F fs) esc fr := by
  obtain ⟨f, fd, ps, hf, hm, hk, hb⟩ := D
  refine pe_imp (pe_call hf hr hg hm hk hb .nil pass0 ha hdb he hpl) fun σ H Q ⟨ok, δ, d, h1, h2, h3, h4⟩ => ?_
  unfold callD at h3
  cases q1 : fs δ with
  | none => rw [q1] at h3; cases h3
  | some ds =>
    rw [q1] at h3
    refine ⟨ok, δ, ds, h1, h2, q1, fun vs H1 e1 r1 => ?_⟩
    exact ⟨ok, ds, d, h1.ext e1, by rw [List.append_nil]; exact r1, h3, fun v H' e2 r2 => h4 v H' (e1.trans e2) ⟨r2.1, fun z z' => let ⟨a, w1, w2, w3⟩ := r2.2 z z'; ⟨a, w1, e1.free w2, w3⟩⟩⟩
end

/-! ### what is walked -/
/-- while the objects at keep stand, J yields the items ds one after the other -/
def WalkD (K : PySem.W.Frag) (kp ok : Addr → Prop) (J : It) (H : Hp) (ds : List PyData) : Prop :=
  ∀ H2, (∀ a o, H a = some o → kp a ∨ Stab o → H2 a = some o) → ∀ i, (∀ d, ds[i]? = some d → J.go i H2 ∧ ∀ x H3, J.yld i H2 x H3 → Ext H2 H3 ∧ ∀ ok', (∀ a, ok a → H a ≠ none → ok' a) → Rp K H3 ok' x d) ∧ (ds.length ≤ i → J.stop i H2)
abbrev FS := Dt → Option (List PyData)
def wI (K : PySem.W.Frag) (s : FS) (esc : List Nat) (bv : Option Nat) : TI := fun σ H R => ∃ ok δ ds, Fresh H ok ∧ SlE K ok esc σ H δ ∧ s δ = some ds ∧
  ∀ J H' (root : Addr → Prop), Ext H H' → WalkD K (fun a => ok a ∨ root a) ok J H' ds → (∀ a, root a → ∃ i ds, bv = some i ∧ σ[i]? = some (some (.ref a)) ∧ δ[i]? = some (some (.list ds))) → R J H'
def PII (X : Cx) (tg e : Expr) (s : FS) (esc : List Nat) (bv : Option Nat) : Prop := PI X tg e (wI X.K s esc bv)
def itemsOf : PyData → Option (List PyData)
  | .list xs => some xs
  | .tuple xs => some xs
  | _ => none
def itm (f : FE) : FS := fun δ => (f δ).bind itemsOf
section
variable {K : PySem.W.Frag} {H : Hp} {ok root : Addr → Prop}
theorem walk_list {a : Addr} {xs : List V} {ds : List PyData} (ha : H a = some (.lst xs)) (hr : ok a ∨ root a) (r : RpL K H ok xs ds) : WalkD K (fun a => ok a ∨ root a) ok (Itl K a) H ds := fun H2 hk i => by
  have ha2 : H2 a = some (.lst xs) := hk a _ ha (.inl hr)
  have r2 : ∀ ok', (∀ a, ok a → H a ≠ none → ok' a) → RpL K H2 ok' xs ds := fun ok' ho => r.to ho fun b o q z => hk b o q (z.elim (fun z => .inl (.inl z)) .inr)
  refine ⟨fun d hd => ?_, fun hl => ⟨xs, SqL.of ha2, by rw [r.length]; exact hl⟩⟩
  obtain ⟨v, hv, _⟩ := (r2 (fun _ => True) fun _ _ _ => trivial).get hd
  refine ⟨⟨xs, v, SqL.of ha2, hv⟩, fun x H3 ⟨e, y⟩ => ?_⟩
  subst e
  have z := y xs (SqL.of ha2)
  rw [hv] at z
  cases z
  refine ⟨Same.refl _, fun ok' ho => ?_⟩
  obtain ⟨v', hv', rv⟩ := (r2 ok' ho).get hd
  rw [hv] at hv'
  cases hv'
  exact rv
theorem walk_tuple {a : Addr} {xs : List V} {ds : List PyData} (ha : H a = some (.tup xs)) (r : RpL K H ok xs ds) : WalkD K (fun a => ok a ∨ root a) ok (Itt K a) H ds := fun H2 hk i => by
  have ha2 : H2 a = some (.tup xs) := hk a _ ha (.inr trivial)
  have r2 : ∀ ok', (∀ a, ok a → H a ≠ none → ok' a) → RpL K H2 ok' xs ds := fun ok' ho => r.to ho fun b o q z => hk b o q (z.elim (fun z => .inl (.inl z)) .inr)
  refine ⟨fun d hd => ?_, fun hl => ⟨xs, SqT.of ha2, by rw [r.length]; exact hl⟩⟩
  obtain ⟨v, hv, _⟩ := (r2 (fun _ => True) fun _ _ _ => trivial).get hd
  refine ⟨⟨xs, v, SqT.of ha2, hv⟩, fun x H3 ⟨e, y⟩ => ?_⟩
  subst e
  have z := y xs (SqT.of ha2)
  rw [hv] at z
  cases z
  refine ⟨Same.refl _, fun ok' ho => ?_⟩
  obtain ⟨v', hv', rv⟩ := (r2 ok' ho).get hd
  rw [hv] at hv'
  cases hv'
  exact rv
theorem walk_range (lo : Int) (n : Nat) : WalkD K (fun a => ok a ∨ root a) ok (Itr lo n) H ((List.range n).map fun k => .int (lo + (k : Nat))) := fun H2 hk i => by
  refine ⟨fun d hd => ?_, fun hl => by rw [List.length_map, List.length_range] at hl; exact hl⟩
  rw [List.getElem?_map] at hd
  by_cases hi : i < n
  · rw [List.getElem?_range hi] at hd
    cases hd
    refine ⟨hi, fun x H3 ⟨e, y⟩ => ?_⟩
    subst e y
    exact ⟨Same.refl _, fun _ _ => .int _⟩
  · rw [List.getElem?_eq_none (by simpa using hi)] at hd
    cases hd
end
section
variable {X : Cx} {tg e a b c : Expr} {es : List Expr} {pos p p2 : Pos} {f g : FE} {fs : FA} {esc esc' : List Nat} {fr fr' : Bool}
theorem pi_imp {t u : TI} (h : PI X tg e t) (i : ∀ σ H R, u σ H R → t σ H R) : PI X tg e u := ⟨fun pins s σ H R I w => h.run pins s σ H R I (i _ _ _ w)⟩
theorem pi_or {t u : TI} (h1 : PI X tg e t) (h2 : PI X tg e u) : PI X tg e (fun σ H R => t σ H R ∨ u σ H R) := ⟨fun pins s σ H R I w => w.elim (h1.run pins s σ H R I) (h2.run pins s σ H R I)⟩
theorem items_some {d : PyData} {ds : List PyData} (h : itemsOf d = some ds) : d = .list ds ∨ d = .tuple ds := by
  unfold itemsOf at h
  split at h
  · cases h; exact .inl rfl
  · cases h; exact .inr rfl
  · cases h
theorem ii_e (h : PEI X e f esc fr) : PII X tg e (itm f) esc none :=
  pi_imp (pi_or (pi_list h) (pi_tup h)) fun σ H R ⟨ok, δ, ds, h1, h2, h3, h4⟩ => by
    unfold itm at h3
    cases q1 : f δ with
    | none => rw [q1] at h3; cases h3
    | some d =>
      rw [q1] at h3
      rcases items_some h3 with rfl | rfl
      · refine .inl ⟨ok, δ, _, h1, h2, q1, fun v H' e1 r => ?_⟩
        cases r.1 with
        | lst o ha ra => exact ⟨_, rfl, ⟨_, SqL.of ha⟩, h4 _ H' (fun _ => False) e1 (walk_list ha (.inl o) ra) (fun _ z => z.elim)⟩
      · refine .inr ⟨ok, δ, _, h1, h2, q1, fun v H' e1 r => ?_⟩
        cases r.1 with
        | tup ha ra => exact ⟨_, rfl, ⟨_, SqT.of ha⟩, h4 _ H' (fun _ => False) e1 (walk_tuple ha ra) (fun _ z => z.elim)⟩
theorem ii_v {i : Nat} (h : PE X e (tVar i)) : PII X tg e (itm (vr i)) [] (some i) :=
  pi_imp (pi_or (pi_list h) (pi_tup h)) fun σ H R ⟨ok, δ, ds, h1, h2, h3, h4⟩ => by
    unfold itm at h3
    cases q1 : vr i δ with
    | none => rw [q1] at h3; cases h3
    | some d =>
      rw [q1] at h3
      obtain ⟨v, s1, s2, _⟩ := h2.at_ i d (vr_some q1)
      rcases items_some h3 with rfl | rfl
      · obtain ⟨a, xs, rfl, ha, ra⟩ := s2.list
        exact .inl ⟨_, s1, a, rfl, ⟨_, SqL.of ha⟩, h4 _ H (fun b => b = a) (Same.refl H) (walk_list ha (.inr rfl) ra) (fun b z => ⟨i, _, rfl, by rw [z]; exact s1, vr_some q1⟩)⟩
      · obtain ⟨a, xs, rfl, ha, ra⟩ := s2.tuple
        exact .inr ⟨_, s1, a, rfl, ⟨_, SqT.of ha⟩, h4 _ H (fun _ => False) (Same.refl H) (walk_tuple ha ra) (fun _ z => z.elim)⟩
def rgD (i j : Int) : Option (List PyData) := if -4611686018427387904 ≤ i ∧ i < 4611686018427387904 ∧ -4611686018427387904 ≤ j ∧ j < 4611686018427387904 then some ((List.range (j - i).toNat).map fun k => .int (i + (k : Nat))) else none
def itr1 (f : FE) : FS := fun δ => (f δ).bind fun d => (int1 d).bind fun j => rgD 0 j
def itr2 (f g : FE) : FS := fun δ => (f δ).bind fun d => (g δ).bind fun d' => (int1 d).bind fun i => (int1 d').bind fun j => rgD i j
theorem ii_rg1 (hg : Gl X "range") (hm : X.mg "range" = none) (ha : PEB X a f esc) (hs : starEach [a] X.env = [(false, eval a X.env)] := by rfl) : PII X tg (.Call (.Name "range" p) [a] [] pos) (itr1 f) [] none :=
  pi_imp (pi_range1 hg hm (ab_one ha hs) hs) fun σ H R ⟨ok, δ, ds, h1, h2, h3, h4⟩ => by
    unfold itr1 at h3
    cases q1 : f δ with
    | none => rw [q1] at h3; cases h3
    | some d =>
      rw [q1] at h3
      have h3' : (int1 d).bind (fun j => rgD 0 j) = some ds := h3
      cases q2 : int1 d with
      | none => rw [q2] at h3'; cases h3'
      | some j =>
        rw [q2] at h3'
        have h3'' : rgD 0 j = some ds := h3'
        have ed := int1_some q2
        subst ed
        refine ⟨fun _ => True, δ, .int j, fun _ _ => trivial, h2.tru _, q1, fun v H' e1 r => ?_⟩
        have ev := r.int
        subst ev
        unfold rgD at h3''
        split at h3''
        · rename_i hb
          cases h3''
          refine ⟨j, rfl, by omega, by omega, ?_⟩
          have w := h4 (Itr 0 j.toNat) H' (fun _ => False) e1
          rw [Int.sub_zero] at w
          exact w (walk_range 0 j.toNat) fun _ z => z.elim
        · cases h3''
theorem ii_rg2 (hg : Gl X "range") (hm : X.mg "range" = none) (ha : PEB X a f esc) (hb : PEB X b g esc') (hs : starEach [a, b] X.env = [(false, eval a X.env), (false, eval b X.env)] := by rfl) (hs2 : starEach [b] X.env = [(false, eval b X.env)] := by rfl) : PII X tg (.Call (.Name "range" p) [a, b] [] pos) (itr2 f g) [] none :=
  pi_imp (pi_range2 hg hm (ab_two ha hb (by rw [hs, hs2]) hs2) hs hs2) fun σ H R ⟨ok, δ, ds, h1, h2, h3, h4⟩ => by
    unfold itr2 at h3
    cases q1 : f δ with
    | none => rw [q1] at h3; cases h3
    | some d =>
      cases q2 : g δ with
      | none => rw [q1, q2] at h3; cases h3
      | some d' =>
        rw [q1, q2] at h3
        have h3' : ((int1 d).bind fun i => (int1 d').bind fun j => rgD i j) = some ds := h3
        cases w1 : int1 d with
        | none => rw [w1] at h3'; cases h3'
        | some i =>
          cases w2 : int1 d' with
          | none => rw [w1, w2] at h3'; cases h3'
          | some j =>
            rw [w1, w2] at h3'
            have h3'' : rgD i j = some ds := h3'
            have ed := int1_some w1
            have ed' := int1_some w2
            subst ed ed'
            refine ⟨fun _ => True, δ, .int i, fun _ _ => trivial, h2.tru _, q1, fun v H1 e1 r1 => ⟨fun _ => True, δ, .int j, fun _ _ => trivial, (h2.ext e1).tru _, q2, fun u H2 e2 r2 => ?_⟩⟩
            have ev := r1.int
            have eu := r2.int
            subst ev eu
            unfold rgD at h3''
            split at h3''
            · rename_i hb
              cases h3''
              exact ⟨i, j, rfl, by omega, h4 _ H2 (fun _ => False) (e1.trans e2) (walk_range i _) fun _ z => z.elim⟩
            · cases h3''

/-! ### targets -/
inductive Tg where
  | nm (i : Nat)
  | tp (is : List Nat)
def setAll : List Nat → List PyData → Dt → Dt
  | i :: is, d :: ds, δ => setAll is ds (δ.set i (some d))
  | _, _, δ => δ
def bindT : Tg → PyData → Dt → Option Dt
  | .nm i, d, δ => some (δ.set i (some d))
  | .tp is, .tuple ds, δ => if ds.length = is.length then some (setAll is ds δ) else none
  | _, _, _ => none
def Tg.slots : Tg → List Nat
  | .nm i => [i]
  | .tp is => is
/-- the same through the hand layer's values -/
def setAllV : List Nat → List V → Sg → Sg
  | i :: is, v :: vs, σ => setAllV is vs (σ.set i (some v))
  | _, _, σ => σ
/-- a target of this form stores what Tg says: through values v, σ -/
def TgV (K : PySem.W.Frag) (g : TG) : Tg → Prop
  | .nm i => g = gName i
  | .tp is => ∀ v σ H (Q : Sg → Hp → Prop), (∃ a xs, v = .ref a ∧ SqT K H a xs ∧ xs.length = is.length ∧ Q (setAllV is xs σ) H) → g v σ H Q
theorem sle_all {K : PySem.W.Frag} {H : Hp} {ok : Addr → Prop} {esc : List Nat} : ∀ {is : List Nat} {xs : List V} {ds : List PyData} {σ : Sg} {δ : Dt}, SlE K ok esc σ H δ → RpL K H ok xs ds → SlE K ok esc (setAllV is xs σ) H (setAll is ds δ)
  | [], _, _, _, _, h, _ => h
  | _ :: _, _, _, _, _, h, .nil => h
  | i :: is, _, _, _, _, h, .cons r t => by
    unfold setAllV PM.setAll
    exact sle_all (is := is) (h.set r i) t
theorem tgV_step {K : PySem.W.Frag} {H : Hp} {ok : Addr → Prop} {esc : List Nat} {σ : Sg} {δ δ' : Dt} {g : TG} {T : Tg} {v : V} {d : PyData} {Q : Sg → Hp → Prop} (h : TgV K g T) (s : SlE K ok esc σ H δ) (r : Rp K H ok v d) (e : bindT T d δ = some δ')
    (q : ∀ σ', SlE K ok esc σ' H δ' → (∃ vs : List V, vs.length ≤ T.slots.length ∧ σ' = setAllV T.slots vs σ) → Q σ' H) : g v σ H Q := by
  cases T with
  | nm i =>
    cases (show g = gName i from h)
    cases e
    exact q _ (s.set r i) ⟨[v], by simp [Tg.slots], rfl⟩
  | tp is =>
    unfold bindT at e
    split at e
    · rename_i hh; cases hh
    · rename_i is' ds' δ'' h1 
      split at e
      · rename_i hl
        cases h1
        cases e
        cases r with
        | tup ha ra => exact h _ _ _ _ ⟨_, _, rfl, SqT.of ha, by rw [ra.length]; exact hl, q _ (sle_all s ra) ⟨_, by rw [ra.length, hl]; exact Nat.le_refl _, rfl⟩⟩
      · cases e
    · cases e
end
end PM

set_option Elab.async false
set_option linter.all false
set_option maxRecDepth 100000
set_option maxHeartbeats 4000000
/-! PM: comprehensions. -/
namespace PM
open PySem PySem.Spec PyProof.Rows L2

theorem wipe_set_in {i : Nat} {x : Option V} : ∀ {vs : List Nat} {σ : Sg}, i ∈ vs → wipe (σ.set i x) vs = wipe σ vs
  | v :: vs, σ, h => by
    unfold wipe
    by_cases hv : i ∈ vs
    · rw [wipe_set_in hv]
    · have e : i = v := by
        rcases List.mem_cons.mp h with e | e
        · exact e
        · exact absurd e hv
      subst e
      have : ∀ (vs : List Nat) (σ : Sg), i ∉ vs → wipe (σ.set i x) vs = (wipe σ vs).set i x := fun vs => by
        induction vs with
        | nil => intro σ _; rfl
        | cons w ws ih =>
          intro σ hn
          unfold wipe
          rw [List.mem_cons, not_or] at hn
          rw [ih σ hn.2, List.set_comm _ _ hn.1]
      rw [this vs σ hv, List.set_set]
theorem wipe_all_in {vs : List Nat} : ∀ {is : List Nat} {xs : List V} {σ : Sg}, (∀ i ∈ is, i ∈ vs) → wipe (setAllV is xs σ) vs = wipe σ vs
  | [], _, _, _ => rfl
  | _ :: _, [], _, _ => rfl
  | i :: is, x :: xs, σ, h => by
    unfold setAllV
    rw [wipe_all_in fun j hj => h j (List.mem_cons_of_mem _ hj), wipe_set_in (h i List.mem_cons_self)]
theorem wipe_none {i : Nat} {σ : Sg} : ∀ {vs : List Nat}, i ∈ vs → (wipe σ vs).set i none = wipe σ vs
  | v :: vs, h => by
    unfold wipe
    by_cases e : i = v
    · subst e; rw [List.set_set]
    · rcases List.mem_cons.mp h with z | z
      · exact absurd z e
      · rw [List.set_comm _ _ (Ne.symm e), wipe_none z]
theorem wipe_idem {σ : Sg} (vs : List Nat) : wipe (wipe σ vs) vs = wipe σ vs := by
  have : ∀ (ws : List Nat), (∀ i ∈ ws, i ∈ vs) → wipe (wipe σ vs) ws = wipe σ vs := fun ws => by
    induction ws with
    | nil => intro _; rfl
    | cons w ws ih =>
      intro h
      show (wipe (wipe σ vs) ws).set w none = wipe σ vs
      rw [ih fun i hi => h i (List.mem_cons_of_mem _ hi), wipe_none (h w List.mem_cons_self)]
  exact this vs fun _ h => h
def gNames : List Nat → TGs
  | [] => gNil
  | i :: is => gCons (gName i) (gNames is)
theorem gNames_ok {H : Hp} {Q : Sg → Hp → Prop} : ∀ {is : List Nat} {xs : List V} {σ : Sg}, xs.length = is.length → Q (setAllV is xs σ) H → gNames is xs σ H Q
  | [], [], _, _, q => ⟨rfl, q⟩
  | i :: is, x :: xs, σ, h, q => ⟨x, xs, rfl, gNames_ok (by simpa using h) q⟩
  | [], _ :: _, _, h, _ => by simp at h
  | _ :: _, [], _, h, _ => by simp at h
theorem tgv_nm {K : PySem.W.Frag} (i : Nat) : TgV K (gName i) (.nm i) := rfl
theorem tgv_tp {K : PySem.W.Frag} (is : List Nat) : TgV K (gTup K is.length (gNames is)) (.tp is) := fun v σ H Q ⟨a, xs, e, h, hl, q⟩ => ⟨a, xs, e, h, hl, gNames_ok hl q⟩

/-! ### [elt for target in iter if ..] -/
def optCons : Option PyData → List PyData → List PyData
  | some y, r => y :: r
  | none, r => r
def lcGo (h : PyData → Option (Option PyData)) : List PyData → Option (List PyData)
  | [] => some []
  | d :: ds => (h d).bind fun o => (lcGo h ds).bind fun r => some (optCons o r)
def lcStep (T : Tg) (p : FT) (f : FE) (δ : Dt) (d : PyData) : Option (Option PyData) := (bindT T d δ).bind fun δ' => (p δ').bind fun b => if b = true then (f δ').map some else some none
def lcD (s : FS) (T : Tg) (vs : List Nat) (p : FT) (f : FE) : FE := fun δ => (s δ).bind fun ds => (lcGo (lcStep T p f (wipeD δ vs)) ds).bind fun rs => if rs.length ≤ LINE then some (.list rs) else none
theorem lcGo_app {h : PyData → Option (Option PyData)} {d : PyData} {o : Option PyData} : ∀ {ds : List PyData} {r : List PyData}, lcGo h ds = some r → h d = some o → lcGo h (ds ++ [d]) = some (match o with | some y => r ++ [y] | none => r)
  | [], r, e, hd => by
    cases e
    show (h d).bind _ = _
    rw [hd]
    cases o <;> rfl
  | x :: ds, r, e, hd => by
    rw [lcGo] at e
    cases q : h x with
    | none => rw [q] at e; cases e
    | some o' =>
      rw [q] at e
      cases q2 : lcGo h ds with
      | none => rw [q2] at e; cases e
      | some r' =>
        rw [q2] at e
        cases e
        rw [List.cons_append, lcGo, q, lcGo_app q2 hd]
        cases o <;> cases o' <;> rfl
theorem lcGo_at {h : PyData → Option (Option PyData)} : ∀ {ds : List PyData} {rs : List PyData} {i : Nat}, lcGo h ds = some rs → ∃ r, lcGo h (ds.take i) = some r ∧ r.length ≤ rs.length ∧ (∀ d, ds[i]? = some d → ∃ o, h d = some o ∧ (∀ y, o = some y → r.length < rs.length))
  | [], rs, i, e => by
    cases e
    refine ⟨[], by rw [List.take_nil]; rfl, Nat.le_refl _, fun d hd => by simp at hd⟩
  | x :: ds, rs, 0, e => by
    refine ⟨[], rfl, Nat.zero_le _, fun d hd => ?_⟩
    cases hd
    rw [lcGo] at e
    cases q : h x with
    | none => rw [q] at e; cases e
    | some o =>
      rw [q] at e
      refine ⟨o, rfl, fun y hy => ?_⟩
      subst hy
      cases q2 : lcGo h ds with
      | none => rw [q2] at e; cases e
      | some r' => rw [q2] at e; cases e; simp [optCons]
  | x :: ds, rs, i + 1, e => by
    rw [lcGo] at e
    cases q : h x with
    | none => rw [q] at e; cases e
    | some o =>
      rw [q] at e
      cases q2 : lcGo h ds with
      | none => rw [q2] at e; cases e
      | some r' =>
        rw [q2] at e
        cases e
        obtain ⟨r, h1, h2, h3⟩ := lcGo_at (i := i) q2
        refine ⟨optCons o r, by rw [List.take_succ_cons, lcGo, q, h1]; rfl, ?_, fun d hd => ?_⟩
        · cases o <;> simp [optCons] <;> exact h2
        · obtain ⟨o2, w1, w2⟩ := h3 d (by simpa using hd)
          refine ⟨o2, w1, fun y hy => ?_⟩
          have := w2 y hy
          cases o <;> simp [optCons] <;> exact this
section
variable {X : Cx} {tg iter elt a b c : Expr} {ifs : List Expr} {scope : Scope} {own : List (Str × Nat)} {pos : Pos} {s : FS} {f g : FE} {p : FT} {T : Tg} {gt : TG} {esc esc' : List Nat} {fr : Bool} {bv : Option Nat}
def PTsI (X : Cx) (ifs : List Expr) (p : FT) : Prop := PTs X ifs (tT X.K p)
theorem tsi_nil : PTsI X [] (fun _ => some true) := ⟨fun pins s σ H Q I ⟨δ, b, h1, h2, h3⟩ => by
  cases h2
  exact pts_nil.run pins s σ H Q I (h3 H (Same.refl H))⟩
theorem tsi_one (h : PTI X c p) : PTsI X [c] p := pts_one h
/-- the reading of a comprehension, from plain data -/
theorem lc_t (hT : TgV X.K gt T) (hs : ∀ i ∈ T.slots, i ∈ own.map (·.2)) : ∀ σ H Q, tE X.K (lcD s T (own.map (·.2)) p f) (esc ++ esc') true σ H Q → tLc (wI X.K s esc bv) gt (tT X.K p) (tE X.K f esc' fr) (own.map (·.2)) σ H Q := fun σ H Q ⟨ok, δ, d, h1, h2, h3, h4⟩ => by
  unfold lcD at h3
  cases q1 : s δ with
  | none => rw [q1] at h3; cases h3
  | some ds =>
    rw [q1] at h3
    have h3' : ((lcGo (lcStep T p f (wipeD δ (own.map (·.2)))) ds).bind fun rs => if rs.length ≤ LINE then some (PyData.list rs) else none) = some d := h3
    cases q2 : lcGo (lcStep T p f (wipeD δ (own.map (·.2)))) ds with
    | none => rw [q2] at h3'; cases h3'
    | some rs =>
      rw [q2] at h3'
      have h3'' : (if rs.length ≤ LINE then some (PyData.list rs) else none) = some d := h3'
      split at h3''
      · rename_i hL
        cases h3''
        refine ⟨ok, δ, ds, h1, h2.l, q1, fun J H1 root e1 W _ D hD => ?_⟩
        -- what holds at turn i, in the heap H2
        refine ⟨fun i m H2 => i + m = ds.length ∧ Ext H1 H2 ∧ ∃ acc r, H2 D = some (.lst acc) ∧ lcGo (lcStep T p f (wipeD δ (own.map (·.2)))) (ds.take i) = some r ∧ RpL X.K H2 (fun b => ok b ∧ b ≠ D) acc r,
          ⟨ds.length, by omega, upd_ext hD, [], [], upd_same, rfl, .nil⟩, fun i m H2 ⟨hm, e2, acc, r, hacc, hr, ra⟩ => ?_⟩
        have kp : ∀ b o, H1 b = some o → (ok b ∨ root b) ∨ Stab o → H2 b = some o := fun b o q _ => e2 b o q
        have Wi := W H2 kp i
        obtain ⟨r0, w1, w2, w3⟩ := lcGo_at (i := i) q2
        rw [hr] at w1
        cases w1
        by_cases hi : i < ds.length
        · obtain ⟨hgo, hy⟩ := Wi.1 ds[i] (List.getElem?_eq_getElem hi)
          obtain ⟨o, ho, hlt⟩ := w3 ds[i] (List.getElem?_eq_getElem hi)
          refine .inr ⟨hgo, fun H3 => Ext H1 H3 ∧ ∃ acc r, H3 D = some (.lst acc) ∧ lcGo (lcStep T p f (wipeD δ (own.map (·.2)))) (ds.take (i + 1)) = some r ∧ RpL X.K H3 (fun b => ok b ∧ b ≠ D) acc r, fun H3 ⟨e3, z⟩ => ⟨m - 1, by omega, by omega, e3, z⟩, fun x H3 y => ?_⟩
          obtain ⟨e3, rx⟩ := hy x H3 y
          have hD2 : H1 D = none := hD
          -- the slots, in the block
          have ok' : Fresh H3 (fun b => ok b ∧ b ≠ D) := fun b q => by
            have q2 : H2 b = none := e3.free q
            refine ⟨h1 b (e1.free (e2.free q2)), fun z => ?_⟩
            subst z
            rw [hacc] at q2; cases q2
          have sl : SlE X.K (fun b => ok b ∧ b ≠ D) esc' (wipe σ (own.map (·.2))) H3 (wipeD δ (own.map (·.2))) := by
            have z := (h2.r.wipe (own.map (·.2)))
            exact (z.imp (ok' := fun b => ok b ∧ b ≠ D) fun b q n => ⟨q, fun w => n (by rw [w]; exact e1.free hD)⟩).ext ((e1.trans e2).trans e3)
          have rx' : Rp X.K H3 (fun b => ok b ∧ b ≠ D) x ds[i] := rx _ fun b q n => ⟨q, fun w => n (by rw [w]; exact hD)⟩
          unfold lcStep at ho
          cases b1 : bindT T ds[i] (wipeD δ (own.map (·.2))) with
          | none => rw [b1] at ho; cases ho
          | some δ' =>
            rw [b1] at ho
            have ho' : ((p δ').bind fun b => if b = true then (f δ').map some else some none) = some o := ho
            cases b2 : p δ' with
            | none => rw [b2] at ho'; cases ho'
            | some k =>
              rw [b2] at ho'
              have ho'' : (if k = true then (f δ').map some else some none) = some o := ho'
              refine tgV_step hT sl rx' b1 fun σ' s' ⟨vs, hvs, eσ⟩ => ⟨?_, δ', k, s'.tru _, b2, fun H4 e4 => ?_⟩
              · rw [eσ, wipe_all_in hs, wipe_idem]
              · have hacc4 : H4 D = some (.lst acc) := e4 _ _ (e3 _ _ hacc)
                have ra4 : RpL X.K H4 (fun b => ok b ∧ b ≠ D) acc r := (ra.ext e3).ext e4
                have tk : ds.take (i + 1) = ds.take i ++ [ds[i]] := by rw [List.take_add_one, List.getElem?_eq_getElem hi]; rfl
                have hst : lcStep T p f (wipeD δ (own.map (·.2))) ds[i] = some o := by unfold lcStep; rw [b1]; show (p δ').bind _ = _; rw [b2]; exact ho''
                cases k with
                | true =>
                  have ho3 : (f δ').map some = some o := ho''
                  cases b3 : f δ' with
                  | none => rw [b3] at ho3; cases ho3
                  | some y =>
                    rw [b3] at ho3
                    cases ho3
                    refine iteT ⟨_, δ', y, ok'.ext e4, s'.ext e4, b3, fun v H5 e5 r5 => ⟨acc, e5 _ _ hacc4, line_lt ?_, fun b o q => ?_, acc ++ [v], r ++ [y], upd_same, ?_, ?_⟩⟩
                    · rw [ra.length]
                      have := hlt y rfl
                      omega
                    · have nb : b ≠ D := fun z => by rw [z, hD] at q; cases q
                      rw [upd_ne nb]
                      exact e5 _ _ (e4 _ _ (e3 _ _ (e2 _ _ q)))
                    · rw [tk]; exact lcGo_app hr hst
                    · have r6 : RpL X.K H5 (fun b => ok b ∧ b ≠ D) (acc ++ [v]) (r ++ [y]) := (ra4.ext e5).append (.one r5.1)
                      refine r6.to (fun b q _ => q) fun b o q z => ?_
                      have nb : b ≠ D := fun w => by
                        subst w
                        rcases z with z | z
                        · exact z.2 rfl
                        · have hh := e5 _ _ hacc4
                          rw [q] at hh; cases hh; exact z
                      rw [upd_ne nb]; exact q
                | false =>
                  cases ho''
                  refine iteF ⟨fun b o q => e4 _ _ (e3 _ _ (e2 _ _ q)), acc, r, hacc4, ?_, ra4⟩
                  rw [tk]; exact lcGo_app hr hst
        · have ei : ds.take i = ds := List.take_of_length_le (by omega)
          rw [ei, q2] at hr
          cases hr
          refine .inl ⟨Wi.2 (by omega), h4 _ H2 (e1.trans e2) ⟨.lst (h1 D (e1.free hD)) hacc (ra.imp fun _ q _ => q.1), fun _ _ => ⟨D, rfl, e1.free hD, .lst hacc ra⟩⟩⟩
      · cases h3''
theorem ei_lc (hc : X.calm = true) (hN : X.N.Nodup) (hi : PII X tg iter s esc bv) (ok : BlkOk X.N X.env.scope scope own)
    (hg : ∀ (s : Shared) (H : Hp) (C : Addr) (cl : List (Str × Addr)) (fp : List Addr), PG (X.blk s H scope (compEnvC scope cl C X.env) fp) tg gt) (hT : TgV X.K gt T) (hs : ∀ i ∈ T.slots, i ∈ own.map (·.2))
    (ht : ∀ (s : Shared) (H : Hp) (C : Addr) (cl : List (Str × Addr)) (fp : List Addr), PTsI (X.blk s H scope (compEnvC scope cl C X.env) fp) ifs p)
    (he : ∀ (s : Shared) (H : Hp) (C : Addr) (cl : List (Str × Addr)) (fp : List Addr), PEI (X.blk s H scope (compEnvC scope cl C X.env) fp) elt f esc' fr) (hf : ∀ x, foldedSetIterable iter X.env x = pure x := by intro _; rfl) :
    PEI X (.ListComp elt [⟨tg, iter, ifs, 0⟩] scope pos) (lcD s T (own.map (·.2)) p f) (esc ++ esc') true :=
  pe_imp (pe_lc (tt := tT X.K p) (te := tE X.K f esc' fr) hc hN hi ok hg ht he hf) (lc_t hT hs)
end
end PM

set_option Elab.async false
set_option linter.all false
set_option maxRecDepth 100000
set_option maxHeartbeats 4000000
/-! PM: frames and statements. -/
namespace PM
open PySem PySem.Spec PyProof.Rows L2

/-- what a slot's value is to its def: shared; held by this slot alone; the same, while a loop walks it -/
inductive Own where
  | sh | ow | lk
  deriving DecidableEq
abbrev PEnv := List (Option (PyData × Own))
def dat (ρ : PEnv) : Dt := ρ.map fun s => s.map (·.1)
/-- the objects that the i-th slot alone holds -/
abbrev Ex := Nat → Addr → Prop
def okF (okA : Addr → Prop) (E : Ex) : Addr → Prop := fun a => okA a ∧ ∀ j, ¬ E j a
inductive SlotR (K : PySem.W.Frag) (H : Hp) (okA : Addr → Prop) (E : Ex) (i : Nat) : V → PyData → Own → Prop
  | sh {v : V} {d : PyData} : Rp K H (okF okA E) v d → SlotR K H okA E i v d .sh
  | ow {a : Addr} {d : PyData} : E i a → Shell K H (okF okA E) a d → SlotR K H okA E i (.ref a) d .ow
  | lk {a : Addr} {d : PyData} : E i a → Shell K H (okF okA E) a d → SlotR K H okA E i (.ref a) d .lk
structure FR (K : PySem.W.Frag) (okA : Addr → Prop) (H0 : Hp) (E : Ex) (σ : Sg) (H : Hp) (ρ : PEnv) : Prop where
  len : ρ.length = σ.length
  apart : ∀ i j a, E i a → E j a → i = j
  new : ∀ i a, E i a → H0 a = none ∧ H a ≠ none
  one : ∀ i a d o, E i a → ρ[i]? = some (some (d, o)) → σ[i]? = some (some (.ref a))
  fresh : Fresh H0 okA
  grow : ∀ a, H a = none → H0 a = none
  slot : ∀ i d o, ρ[i]? = some (some (d, o)) → ∃ v, σ[i]? = some (some v) ∧ SlotR K H okA E i v d o
/-- what the def may change -/
def Mo (E : Ex) (ρ : PEnv) (a : Addr) : Prop := ∃ i d, E i a ∧ ρ[i]? = some (some (d, .ow))
structure EvR (E : Ex) (ρ : PEnv) (H H' : Hp) : Prop where
  keep : ∀ a o, H a = some o → ¬ Mo E ρ a → H' a = some o
  dom : ∀ a, H' a = none → H a = none
structure Ev (E : Ex) (ρ : PEnv) (H : Hp) (E' : Ex) (ρ' : PEnv) (H' : Hp) : Prop where
  r : EvR E ρ H H'
  own : ∀ i a, E' i a → E i a ∨ H a = none
  mo : ∀ a, Mo E' ρ' a → Mo E ρ a ∨ H a = none
section
variable {K : PySem.W.Frag} {okA : Addr → Prop} {H0 H H' H'' : Hp} {E E' E'' : Ex} {σ σ' : Sg} {ρ ρ' : PEnv}
theorem EvR.ext (e : Ext H H') : EvR E ρ H H' := ⟨fun a o q _ => e a o q, fun a q => e.free q⟩
theorem Ev.transR (a : Ev E ρ H E' ρ' H') (b : EvR E' ρ' H' H'') : EvR E ρ H H'' := by
  refine ⟨fun x u q n => b.keep x u (a.r.keep x u q n) fun z => ?_, fun x q => a.r.dom x (b.dom x q)⟩
  rcases a.mo x z with w | w
  · exact n w
  · rw [q] at w; cases w
theorem Ev.trans {ρ'' : PEnv} (a : Ev E ρ H E' ρ' H') (b : Ev E' ρ' H' E'' ρ'' H'') : Ev E ρ H E'' ρ'' H'' := by
  refine ⟨a.transR b.r, fun i x q => ?_, fun x q => ?_⟩
  · rcases b.own i x q with w | w
    · exact a.own i x w
    · exact .inr (a.r.dom x w)
  · rcases b.mo x q with w | w
    · exact a.mo x w
    · exact .inr (a.r.dom x w)
theorem Ev.ext (e : Ext H H') : Ev E ρ H E ρ H' := ⟨EvR.ext e, fun i a z => .inl z, fun a z => .inl z⟩
theorem Ev.refl : Ev E ρ H E ρ H := Ev.ext (Same.refl H)
theorem SlotR.to {i : Nat} {v : V} {d : PyData} {o : Own} (h : SlotR K H okA E i v d o) (hE : ∀ a, E i a → E' i a) (hN : ∀ j a, E' j a → (∃ k, E k a) ∨ H a = none)
    (hk : ∀ a u, H a = some u → okF okA E a ∨ E i a ∨ Stab u → H' a = some u) : SlotR K H' okA E' i v d o := by
  have he : ∀ a, okF okA E a → H a ≠ none → okF okA E' a := fun a q n => ⟨q.1, fun j z => by
    rcases hN j a z with ⟨k, w⟩ | w
    · exact q.2 k w
    · exact n w⟩
  have hk' : ∀ a u, H a = some u → okF okA E a ∨ Stab u → H' a = some u := fun a u q z => hk a u q (z.elim .inl fun z => .inr (.inr z))
  cases h with
  | sh r => exact .sh (r.to he hk')
  | ow e s => exact .ow (hE _ e) (s.to (fun u q => hk _ u q (.inr (.inl e))) he hk')
  | lk e s => exact .lk (hE _ e) (s.to (fun u q => hk _ u q (.inr (.inl e))) he hk')
theorem SlotR.rpb {i : Nat} {v : V} {d : PyData} {o : Own} (h : SlotR K H okA E i v d o) : RpB K H (okF okA E) v d := by
  cases h with
  | sh r => exact .of r
  | ow e s => exact .sh s
  | lk e s => exact .sh s
theorem dat_get {i : Nat} {d : PyData} (h : (dat ρ)[i]? = some (some d)) : ∃ o, ρ[i]? = some (some (d, o)) := by
  unfold dat at h
  rw [List.getElem?_map] at h
  cases q : ρ[i]? with
  | none => rw [q] at h; cases h
  | some s =>
    rw [q] at h
    cases s with
    | none => cases h
    | some p => obtain ⟨d', o⟩ := p; cases h; exact ⟨o, rfl⟩
/-- the slots in esc lose what they hold alone -/
def dropE (esc : List Nat) (ρ : PEnv) : PEnv := esc.foldl (fun ρ i => match ρ[i]? with | some (some (d, _)) => ρ.set i (some (d, .sh)) | _ => ρ) ρ
def cutE (esc : List Nat) (E : Ex) : Ex := fun i a => E i a ∧ i ∉ esc
theorem drop1 {i : Nat} (F : FR K okA H0 E σ H ρ) : FR K okA H0 (cutE [i] E) σ H (match ρ[i]? with | some (some (d, _)) => ρ.set i (some (d, .sh)) | _ => ρ) := by
  have base : ∀ (ρ' : PEnv), ρ'.length = ρ.length → (∀ j d o, ρ'[j]? = some (some (d, o)) → (j ≠ i ∧ ρ[j]? = some (some (d, o))) ∨ (j = i ∧ (o = .sh ∨ False) ∧ ∃ o', ρ[j]? = some (some (d, o')))) → FR K okA H0 (cutE [i] E) σ H ρ' := fun ρ' hl hs => by
    refine ⟨hl.trans F.len, fun a b x p q => F.apart a b x p.1 q.1, fun a x p => F.new a x p.1, fun j a d o z q => ?_, F.fresh, F.grow, fun j d o q => ?_⟩
    · rcases hs j d o q with ⟨ne, q'⟩ | ⟨e, _⟩
      · exact F.one j a d o z.1 q'
      · exact absurd (by simp [e]) z.2
    have he : ∀ a, okF okA E a → H a ≠ none → okF okA (cutE [i] E) a := fun a q _ => ⟨q.1, fun j z => q.2 j z.1⟩
    rcases hs j d o q with ⟨ne, q'⟩ | ⟨e, h1, o', q'⟩
    · obtain ⟨v, s1, s2⟩ := F.slot j d o q'
      exact ⟨v, s1, s2.to (fun a z => ⟨z, by simpa using ne⟩) (fun k a z => .inl ⟨k, z.1⟩) fun a u q _ => q⟩
    · subst e
      rcases h1 with rfl | h1
      · obtain ⟨v, s1, s2⟩ := F.slot j d o' q'
        refine ⟨v, s1, .sh ?_⟩
        cases s2 with
        | sh r => exact r.imp he
        | ow e s =>
          refine (s.to (fun _ q => q) he fun _ _ q _ => q).rp ⟨F.fresh _ (F.new _ _ e).1, fun k z => ?_⟩
          have := F.apart _ _ _ z.1 e
          subst this
          exact z.2 (by simp)
        | lk e s =>
          refine (s.to (fun _ q => q) he fun _ _ q _ => q).rp ⟨F.fresh _ (F.new _ _ e).1, fun k z => ?_⟩
          have := F.apart _ _ _ z.1 e
          subst this
          exact z.2 (by simp)
      · exact h1.elim
  cases q : ρ[i]? with
  | none =>
    refine base ρ rfl fun j d o h => .inl ⟨fun z => ?_, h⟩
    subst z; rw [q] at h; cases h
  | some s =>
    cases s with
    | none =>
      refine base ρ rfl fun j d o h => .inl ⟨fun z => ?_, h⟩
      subst z; rw [q] at h; cases h
    | some p =>
      obtain ⟨d, o⟩ := p
      refine base _ (by rw [List.length_set]) fun j d' o' h => ?_
      by_cases hj : i = j
      · subst hj
        have hl := (List.getElem?_eq_some_iff.mp q).1
        rw [List.getElem?_set_self hl] at h
        cases h
        exact .inr ⟨rfl, .inl rfl, o, q⟩
      · rw [List.getElem?_set_ne hj] at h
        exact .inl ⟨fun z => hj z.symm, h⟩
theorem FR.congrE (F : FR K okA H0 E σ H ρ) (h : ∀ i a, E' i a ↔ E i a) : FR K okA H0 E' σ H ρ := by
  have : E' = E := by funext i a; exact propext (h i a)
  rw [this]; exact F
theorem dropF : ∀ (esc : List Nat) {ρ : PEnv} {E : Ex}, FR K okA H0 E σ H ρ → FR K okA H0 (cutE esc E) σ H (dropE esc ρ)
  | [], ρ, E, F => F.congrE fun i a => ⟨fun z => z.1, fun z => ⟨z, by simp⟩⟩
  | i :: es, ρ, E, F => by
    have F1 := drop1 (i := i) F
    have F2 := dropF es F1
    refine FR.congrE F2 fun j a => ?_
    unfold cutE
    simp only [List.mem_cons, List.not_mem_nil, or_false, not_or]
    constructor
    · rintro ⟨h1, h2, h3⟩; exact ⟨⟨h1, h2⟩, h3⟩
    · rintro ⟨⟨h1, h2⟩, h3⟩; exact ⟨h1, h2, h3⟩
theorem dat_drop1 {i : Nat} : dat (match ρ[i]? with | some (some (d, _)) => ρ.set i (some (d, .sh)) | _ => ρ) = dat ρ := by
  cases q : ρ[i]? with
  | none => rfl
  | some s =>
    cases s with
    | none => rfl
    | some p =>
      obtain ⟨d, o⟩ := p
      show dat (ρ.set i (some (d, .sh))) = dat ρ
      unfold dat
      rw [List.map_set]
      have hl := (List.getElem?_eq_some_iff.mp q).1
      refine List.ext_getElem? fun j => ?_
      by_cases hj : i = j
      · subst hj
        rw [List.getElem?_set_self (by rw [List.length_map]; exact hl), List.getElem?_map, q]
        rfl
      · rw [List.getElem?_set_ne hj]
theorem dat_drop : ∀ (esc : List Nat) {ρ : PEnv}, dat (dropE esc ρ) = dat ρ
  | [], _ => rfl
  | i :: es, ρ => by
    show dat (dropE es _) = dat ρ
    rw [dat_drop es]
    exact dat_drop1
theorem dat_len : (dat ρ).length = ρ.length := by unfold dat; rw [List.length_map]
/-- the slots for an expression whose value holds nothing that can be changed -/
theorem FR.all (F : FR K okA H0 E σ H ρ) (esc : List Nat) : SlE K (fun _ => True) esc σ H (dat ρ) := ⟨dat_len.trans F.len, fun i d q => by
  obtain ⟨o, q'⟩ := dat_get q
  obtain ⟨v, s1, s2⟩ := F.slot i d o q'
  exact ⟨v, s1, .of s2.rpb.tru, fun _ => s2.rpb.tru⟩⟩
/-- .. for one whose value may hold the slots' objects: those in esc are shared -/
theorem FR.esc (F : FR K okA H0 E σ H ρ) (esc : List Nat) : SlE K (okF okA (cutE esc E)) esc σ H (dat ρ) := by
  have F' := dropF esc F
  refine ⟨dat_len.trans F.len, fun i d q => ?_⟩
  rw [← dat_drop esc] at q
  obtain ⟨o, q'⟩ := dat_get q
  obtain ⟨v, s1, s2⟩ := F'.slot i d o q'
  refine ⟨v, s1, s2.rpb, fun m => ?_⟩
  cases s2 with
  | sh r => exact r
  | ow e s => exact absurd m e.2
  | lk e s => exact absurd m e.2
theorem FR.freshF (F : FR K okA H0 E σ H ρ) : Fresh H (okF okA E) := fun a q => ⟨F.fresh a (F.grow a q), fun j z => (F.new j a z).2 q⟩
theorem cut_fresh (F : FR K okA H0 E σ H ρ) (esc : List Nat) : Fresh H (okF okA (cutE esc E)) := (dropF esc F).freshF
theorem drop_get : ∀ {esc : List Nat} {ρ : PEnv} {j : Nat}, j ∉ esc → (dropE esc ρ)[j]? = ρ[j]?
  | [], _, _, _ => rfl
  | i :: es, ρ, j, h => by
    rw [List.mem_cons, not_or] at h
    show (dropE es (match ρ[i]? with | some (some (d, _)) => ρ.set i (some (d, .sh)) | _ => ρ))[j]? = ρ[j]?
    rw [drop_get h.2]
    cases q : ρ[i]? with
    | none => rfl
    | some s =>
      cases s with
      | none => rfl
      | some p => obtain ⟨d, o⟩ := p; exact List.getElem?_set_ne (Ne.symm h.1)
theorem ev_cut {esc : List Nat} : Ev E ρ H (cutE esc E) (dropE esc ρ) H := ⟨EvR.ext (Same.refl H), fun i a z => .inl z.1, fun a ⟨i, d, z, w⟩ => .inl ⟨i, d, z.1, by rw [drop_get z.2] at w; exact w⟩⟩
/-- the heap grows -/
theorem FR.ext (F : FR K okA H0 E σ H ρ) (e : Ext H H') : FR K okA H0 E σ H' ρ :=
  ⟨F.len, F.apart, fun i a z => ⟨(F.new i a z).1, fun q => (F.new i a z).2 (e.free q)⟩, F.one, F.fresh, fun a q => F.grow a (e.free q), fun i d o q => by
    obtain ⟨v, s1, s2⟩ := F.slot i d o q
    exact ⟨v, s1, s2.to (fun _ z => z) (fun j a z => .inl ⟨j, z⟩) fun a u q _ => e a u q⟩⟩
/-- a slot gets a shared value -/
def clrE (i : Nat) (E : Ex) : Ex := fun j a => E j a ∧ j ≠ i
theorem FR.setSh (F : FR K okA H0 E σ H ρ) {i : Nat} {v : V} {d : PyData} (r : Rp K H (okF okA (clrE i E)) v d) : FR K okA H0 (clrE i E) (σ.set i (some v)) H (ρ.set i (some (d, .sh))) := by
  refine ⟨by rw [List.length_set, List.length_set]; exact F.len, fun a b x p q => F.apart a b x p.1 q.1, fun a x p => F.new a x p.1, fun j a d o z q => ?_, F.fresh, F.grow, fun j d' o q => ?_⟩
  · rw [List.getElem?_set_ne (Ne.symm z.2)] at q ⊢
    exact F.one j a d o z.1 q
  by_cases hj : i = j
  · subst hj
    by_cases hv : i < ρ.length
    · rw [List.getElem?_set_self hv] at q
      cases q
      exact ⟨v, List.getElem?_set_self (by rw [← F.len]; exact hv), .sh r⟩
    · rw [List.getElem?_eq_none (by simpa using hv)] at q; cases q
  · rw [List.getElem?_set_ne hj] at q ⊢
    obtain ⟨w, s1, s2⟩ := F.slot j d' o q
    exact ⟨w, s1, s2.to (fun a z => ⟨z, fun e => hj e.symm⟩) (fun k a z => .inl ⟨k, z.1⟩) fun a u q _ => q⟩
/-- a slot gets a new object that nothing else holds -/
def newE (i : Nat) (b : Addr) (E : Ex) : Ex := fun j a => (j = i ∧ a = b) ∨ (E j a ∧ j ≠ i)
theorem FR.setOw (F : FR K okA H0 E σ H ρ) (e : Ext H H') {i : Nat} {b : Addr} {d : PyData} (hb : H b = none) (s : Shell K H' (fun a => okF okA E a ∧ a ≠ b) b d) : FR K okA H0 (newE i b E) (σ.set i (some (.ref b))) H' (ρ.set i (some (d, .ow))) := by
  have nb : ∀ j, ¬ E j b := fun j z => (F.new j b z).2 hb
  refine ⟨by rw [List.length_set, List.length_set]; exact F.len, fun a c x p q => ?_, fun a x p => ?_, fun j a d o z q => ?_, F.fresh, fun a q => F.grow a (e.free q), fun j d' o q => ?_⟩
  · rcases p with ⟨rfl, rfl⟩ | ⟨p, p'⟩ <;> rcases q with ⟨rfl, h⟩ | ⟨q, q'⟩
    · rfl
    · exact absurd q (nb c)
    · subst h; exact absurd p (nb a)
    · exact F.apart a c x p q
  · rcases p with ⟨rfl, rfl⟩ | ⟨p, _⟩
    · exact ⟨F.grow _ hb, s.ne⟩
    · exact ⟨(F.new a x p).1, fun q => (F.new a x p).2 (e.free q)⟩
  · rcases z with ⟨rfl, rfl⟩ | ⟨z, n⟩
    · have hv : j < ρ.length := by
        have := (List.getElem?_eq_some_iff.mp q).1
        rw [List.length_set] at this
        exact this
      exact List.getElem?_set_self (by rw [← F.len]; exact hv)
    · rw [List.getElem?_set_ne (Ne.symm n)] at q ⊢
      exact F.one j a d o z q
  · by_cases hj : i = j
    · subst hj
      by_cases hv : i < ρ.length
      · rw [List.getElem?_set_self hv] at q
        cases q
        refine ⟨.ref b, List.getElem?_set_self (by rw [← F.len]; exact hv), .ow (.inl ⟨rfl, rfl⟩) (s.to (fun _ q => q) (fun a q n => ⟨q.1.1, fun k z => ?_⟩) fun _ _ q _ => q)⟩
        rcases z with ⟨_, rfl⟩ | ⟨z, _⟩
        · exact q.2 rfl
        · exact q.1.2 k z
      · rw [List.getElem?_eq_none (by simpa using hv)] at q; cases q
    · rw [List.getElem?_set_ne hj] at q ⊢
      obtain ⟨w, s1, s2⟩ := F.slot j d' o q
      refine ⟨w, s1, s2.to (fun a z => .inr ⟨z, fun e => hj e.symm⟩) (fun k a z => ?_) fun a u q _ => e a u q⟩
      rcases z with ⟨_, rfl⟩ | ⟨z, _⟩
      · exact .inr hb
      · exact .inl ⟨k, z⟩
theorem ev_new {i : Nat} {b : Addr} {x : Option (PyData × Own)} (hb : H b = none) (e : Ext H H') : Ev E ρ H (newE i b E) (ρ.set i x) H' := by
  refine ⟨EvR.ext e, fun j a q => ?_, fun a ⟨j, d, q, w⟩ => ?_⟩
  · rcases q with ⟨_, rfl⟩ | ⟨q, _⟩
    · exact .inr hb
    · exact .inl q
  · rcases q with ⟨_, rfl⟩ | ⟨q, n⟩
    · exact .inr hb
    · rw [List.getElem?_set_ne (Ne.symm n)] at w
      exact .inl ⟨j, d, q, w⟩
theorem ev_clr {i : Nat} {x : Option (PyData × Own)} (e : Ext H H') : Ev E ρ H (clrE i E) (ρ.set i x) H' := by
  refine ⟨EvR.ext e, fun j a q => .inl q.1, fun a ⟨j, d, q, w⟩ => ?_⟩
  rw [List.getElem?_set_ne (Ne.symm q.2)] at w
  exact .inl ⟨j, d, q.1, w⟩
end
end PM

set_option Elab.async false
set_option linter.all false
set_option maxRecDepth 100000
set_option maxHeartbeats 4000000
/-! PM: statements. -/
namespace PM
open PySem PySem.Spec PyProof.Rows L2

inductive Fl where
  | nx (ρ : PEnv)
  | rt (d : PyData) (own : Bool)
abbrev GS := PEnv → Option Fl
def tS (K : PySem.W.Frag) (g : GS) : TS := fun D σ H => ∃ okA H0 E ρ fl, FR K okA H0 E σ H ρ ∧ g ρ = some fl ∧
  (∀ ρ', fl = .nx ρ' → ∀ σ' H' E', FR K okA H0 E' σ' H' ρ' → Ev E ρ H E' ρ' H' → D.nx σ' H') ∧
  (∀ d own, fl = .rt d own → ∀ v H', EvR E ρ H H' → ResR K H0 okA H' v d own → D.rt v H')
def PSI (X : Cx) (st : Stmt) (g : GS) : Prop := PS X st (tS X.K g)
def PBI (X : Cx) (sts : List Stmt) (g : GS) : Prop := PSs X sts (tS X.K g)
def seqG (g1 g2 : GS) : GS := fun ρ => (g1 ρ).bind fun fl => match fl with
  | .nx ρ' => g2 ρ'
  | .rt d o => some (.rt d o)
section
variable {X : Cx} {st : Stmt} {sts rest : List Stmt} {tg e a b c : Expr} {pos p p2 : Pos} {f f1 f2 : FE} {fs : FA} {g g1 g2 : GS} {esc esc' : List Nat} {fr fr' : Bool} {pt : FT} {i j : Nat} {T : Tg} {gt : TG}
theorem ps_imp {t u : TS} (h : PS X st t) (i : ∀ D σ H, u D σ H → t D σ H) : PS X st u := ⟨fun pins s σ H D I w => h.run pins s σ H D I (i _ _ _ w)⟩
theorem pss_imp {t u : TS} (h : PSs X sts t) (i : ∀ D σ H, u D σ H → t D σ H) : PSs X sts u := ⟨fun pins s σ H D I w => h.run pins s σ H D I (i _ _ _ w)⟩
theorem evr_refl {E : Ex} {ρ : PEnv} {H : Hp} : EvR E ρ H H := EvR.ext (Same.refl H)
theorem bi_nil : PBI X [] (fun ρ => some (.nx ρ)) := pss_imp pss_nil fun D σ H ⟨okA, H0, E, ρ, fl, F, h1, h2, h3⟩ => by
  cases h1
  exact h2 ρ rfl σ H E F Ev.refl
theorem seq_t : ∀ D σ H, tS X.K (seqG g1 g2) D σ H → tSeq (tS X.K g1) (tS X.K g2) D σ H := fun D σ H ⟨okA, H0, E, ρ, fl, F, h1, h2, h3⟩ => by
  unfold seqG at h1
  cases q : g1 ρ with
  | none => rw [q] at h1; cases h1
  | some fl1 =>
    rw [q] at h1
    refine ⟨okA, H0, E, ρ, fl1, F, q, fun ρ' e σ' H' E' F' v => ?_, fun d own e v H' ev r => ?_⟩
    · subst e
      have h1' : g2 ρ' = some fl := h1
      exact ⟨okA, H0, E', ρ', fl, F', h1', fun ρ'' e σ'' H'' E'' F'' v' => h2 ρ'' e σ'' H'' E'' F'' (v.trans v'), fun d own e x H'' v' r => h3 d own e x H'' (v.transR v') r⟩
    · subst e
      cases h1
      exact h3 d own rfl v H' ev r
theorem bi_cons (h1 : PSI X st g1) (h2 : PBI X rest g2) : PBI X (st :: rest) (seqG g1 g2) := pss_imp (pss_cons h1 h2) seq_t
theorem bi_one (h1 : PSI X st g1) : PBI X [st] g1 := pss_one h1

/-! ### x = e -/
def setS (i : Nat) (f : FE) (esc : List Nat) (fr : Bool) : GS := fun ρ => (f (dat ρ)).bind fun d =>
  some (.nx ((if nn d = true then ρ else dropE esc ρ).set i (some (d, if (fr && isMut d) = true then .ow else .sh))))
theorem nn_mut {d : PyData} (h : nn d = true) : isMut d = false := by cases d <;> first | rfl | (simp [nn] at h)
theorem set_t : ∀ D σ H, tS X.K (setS i f esc fr) D σ H → tAsg (tE X.K f esc fr) (gName i) D σ H := fun D σ H ⟨okA, H0, E, ρ, fl, F, h1, h2, h3⟩ => by
  unfold setS at h1
  cases q : f (dat ρ) with
  | none => rw [q] at h1; cases h1
  | some d =>
    rw [q] at h1
    have h1' : some (Fl.nx ((if nn d = true then ρ else dropE esc ρ).set i (some (d, if (fr && isMut d) = true then .ow else .sh)))) = some fl := h1
    cases h1'
    by_cases hn : nn d = true
    · have hm := nn_mut hn
      rw [if_pos hn, hm, Bool.and_false, if_neg Bool.false_ne_true] at h2
      refine ⟨fun _ => True, dat ρ, d, fun _ _ => trivial, F.all esc, q, fun v H' e r => ?_⟩
      exact h2 _ rfl _ H' _ ((F.ext e).setSh (r.1.any hn)) (ev_clr e)
    · rw [if_neg hn] at h2
      have F' := dropF esc F
      refine ⟨okF okA (cutE esc E), dat ρ, d, cut_fresh F esc, F.esc esc, q, fun v H' e r => ?_⟩
      by_cases hm : (fr && isMut d) = true
      · rw [if_pos hm] at h2
        rw [Bool.and_eq_true] at hm
        obtain ⟨b, rfl, hb, s⟩ := r.2 hm.1 hm.2
        exact h2 _ rfl _ H' _ (F'.setOw e hb s) (ev_cut.trans (ev_new hb e))
      · rw [if_neg hm] at h2
        exact h2 _ rfl _ H' _ ((F'.ext e).setSh (r.1.imp fun a z _ => ⟨z.1, fun j w => z.2 j w.1⟩)) (ev_cut.trans (ev_clr e))
theorem si_asg (h : PS X st (tAsg (tE X.K f esc fr) (gName i))) : PSI X st (setS i f esc fr) := ps_imp h set_t
theorem si_set {x : Str} {pos' : Pos} (hN : X.N.Nodup) (hi : X.N[i]? = some x) (hx : Loc X.env.scope x) (he : PEI X e f esc fr) (hs : swapsWith e (some (.Name x pos')) pos.line X.env = pure false := by rfl) (hf : X.fn x = true ∨ X.env.scope.names.lookup x = some .local := by first | exact .inl rfl | exact .inr rfl | assumption) :
    PSI X (.Assign [.Name x pos'] e pos) (setS i f esc fr) := si_asg (ps_set hN hi hx he hs hf)
section
variable {iter elt : Expr} {ifs : List Expr} {scope : Scope} {own : List (Str × Nat)} {s : FS} {bv : Option Nat}
theorem si_setLc {y : Str} {py lpos spos : Pos} (hc : X.calm = true) (hN : X.N.Nodup) (hy : X.N[i]? = some y) (hyl : X.env.scope.names.lookup y = some .local)
    (hsw : swapsWith (.ListComp elt [⟨tg, iter, ifs, 0⟩] scope lpos) (some (.Name y py)) spos.line X.env = pure true) (hi : PII X tg iter s esc bv) (ok : BlkOk X.N X.env.scope scope own)
    (hg : ∀ (s : Shared) (H : Hp) (C : Addr) (cl : List (Str × Addr)) (fp : List Addr), PG (X.blk s H scope (compEnvC scope cl C X.env) fp) tg gt) (hT : TgV X.K gt T) (hs : ∀ i ∈ T.slots, i ∈ own.map (·.2))
    (ht : ∀ (s : Shared) (H : Hp) (C : Addr) (cl : List (Str × Addr)) (fp : List Addr), PTsI (X.blk s H scope (compEnvC scope cl C X.env) fp) ifs pt)
    (he : ∀ (s : Shared) (H : Hp) (C : Addr) (cl : List (Str × Addr)) (fp : List Addr), PEI (X.blk s H scope (compEnvC scope cl C X.env) fp) elt f esc' fr) (hf : ∀ x, foldedSetIterable iter X.env x = pure x := by intro _; rfl) :
    PSI X (.Assign [.Name y py] (.ListComp elt [⟨tg, iter, ifs, 0⟩] scope lpos) spos) (setS i (lcD s T (own.map (·.2)) pt f) (esc ++ esc') true) :=
  si_asg (ps_imp (ps_setLc (tt := tT X.K pt) (te := tE X.K f esc' fr) hc hN hy hyl hsw hi ok hg ht he hf) fun D σ H w => lc_t hT hs σ H _ w)
end
/-! ### a, b = e -/
def setAllE : List Nat → List PyData → PEnv → PEnv
  | i :: is, d :: ds, ρ => setAllE is ds (ρ.set i (some (d, .sh)))
  | _, _, ρ => ρ
def clrs : List Nat → Ex → Ex
  | [], E => E
  | i :: is, E => clrs is (clrE i E)
theorem clrs_sub : ∀ {is : List Nat} {E : Ex} {j : Nat} {a : Addr}, clrs is E j a → E j a
  | [], _, _, _, h => h
  | i :: is, E, _, _, h => (clrs_sub (is := is) h).1
theorem FR.setAll {K : PySem.W.Frag} {okA : Addr → Prop} {H0 H : Hp} : ∀ {is : List Nat} {xs : List V} {ds : List PyData} {E : Ex} {σ : Sg} {ρ : PEnv}, FR K okA H0 E σ H ρ → RpL K H (okF okA E) xs ds → ∃ E', FR K okA H0 E' (setAllV is xs σ) H (setAllE is ds ρ) ∧ Ev E ρ H E' (setAllE is ds ρ) H
  | [], _, _, E, _, _, F, _ => ⟨E, by unfold setAllV setAllE; exact F, by unfold setAllE; exact Ev.refl⟩
  | _ :: _, _, _, E, _, _, F, .nil => ⟨E, F, Ev.refl⟩
  | i :: is, _, _, E, _, _, F, .cons r t => by
    have mono : ∀ a, okF okA E a → H a ≠ none → okF okA (clrE i E) a := fun a z _ => ⟨z.1, fun j w => z.2 j w.1⟩
    obtain ⟨E', F', o⟩ := FR.setAll (is := is) (F.setSh (i := i) (r.imp mono)) (t.imp mono)
    exact ⟨E', F', (ev_clr (Same.refl H)).trans o⟩
def setTS (is : List Nat) (f : FE) (esc : List Nat) : GS := fun ρ => (f (dat ρ)).bind fun d => match d with
  | .tuple ds => if ds.length = is.length then some (.nx (setAllE is ds (if nn d = true then ρ else dropE esc ρ))) else none
  | _ => none
theorem setT_t {is : List Nat} (hT : TgV X.K gt (.tp is)) : ∀ D σ H, tS X.K (setTS is f esc) D σ H → tAsg (tE X.K f esc fr) gt D σ H := fun D σ H ⟨okA, H0, E, ρ, fl, F, h1, h2, h3⟩ => by
  unfold setTS at h1
  cases q : f (dat ρ) with
  | none => rw [q] at h1; cases h1
  | some d =>
    rw [q] at h1
    cases d with
    | tuple ds =>
      have h1' : (if ds.length = is.length then some (Fl.nx (setAllE is ds (if nn (.tuple ds) = true then ρ else dropE esc ρ))) else none) = some fl := h1
      split at h1'
      · rename_i hl
        cases h1'
        by_cases hn : nn (.tuple ds) = true
        · rw [if_pos hn] at h2
          refine ⟨fun _ => True, dat ρ, _, fun _ _ => trivial, F.all esc, q, fun v H' e r => ?_⟩
          have r' : Rp X.K H' (okF okA E) v (.tuple ds) := r.1.any hn
          cases r' with
          | tup ha ra =>
            obtain ⟨E', F', o⟩ := FR.setAll (is := is) (F.ext e) ra
            exact hT _ _ _ _ ⟨_, _, rfl, SqT.of ha, by rw [ra.length]; exact hl, h2 _ rfl _ H' E' F' ((Ev.ext e).trans o)⟩
        · rw [if_neg hn] at h2
          refine ⟨okF okA (cutE esc E), dat ρ, _, cut_fresh F esc, F.esc esc, q, fun v H' e r => ?_⟩
          cases r.1 with
          | tup ha ra =>
            obtain ⟨E', F', o⟩ := FR.setAll (is := is) ((dropF esc F).ext e) ra
            exact hT _ _ _ _ ⟨_, _, rfl, SqT.of ha, by rw [ra.length]; exact hl, h2 _ rfl _ H' E' F' (ev_cut.trans ((Ev.ext e).trans o))⟩
      · cases h1'
    | _ => cases h1
theorem si_setT {is : List Nat} (he : PEI X e f esc fr) (hg : PG X tg gt) (hT : TgV X.K gt (.tp is)) (hs : swapsWithSole [tg] e pos.line X.env = pure false := by rfl) (hw : swappedStores [tg] e X.env = pure none := by rfl)
    (h1 : (assignEach [tg] X.env).map (·.2) = [assign tg X.env] := by rfl) : PSI X (.Assign [tg] e pos) (setTS is f esc) := ps_imp (ps_asg he hg hs hw h1) (setT_t hT)
/-- a, b = e1, e2, both plain local names -/
def parS (i j : Nat) (fs : FA) (esc : List Nat) : GS := fun ρ => (fs (dat ρ)).bind fun ds => if ds.length = 2 then some (.nx (setAllE [i, j] ds (if nnL ds = true then ρ else dropE esc ρ))) else none
theorem si_par {x y : Str} {px py pt' : Pos} {kt k2 : Nat} {pt2 : Pos} (hc : X.calm = true) (hN : X.N.Nodup) (hi : X.N[i]? = some x) (hj : X.N[j]? = some y) (hij : i ≠ j)
    (hx : X.env.scope.names.lookup x = some .local) (hy : X.env.scope.names.lookup y = some .local) (ha : PAI X [a, b] fs esc)
    (hw : swappedStores [.Tuple [.Name x px, .Name y py] kt pt'] (.Tuple [a, b] k2 pt2) X.env = pure (some [x, y]))
    (hs : swapsWithSole [.Tuple [.Name x px, .Name y py] kt pt'] (.Tuple [a, b] k2 pt2) pos.line X.env = pure false := by rfl) :
    PSI X (.Assign [.Tuple [.Name x px, .Name y py] kt pt'] (.Tuple [a, b] k2 pt2) pos) (parS i j fs esc) := ps_imp (ps_par hc hN hi hj hij hx hy ha hw hs) fun D σ H ⟨okA, H0, E, ρ, fl, F, h1, h2, h3⟩ => by
  unfold parS at h1
  cases q : fs (dat ρ) with
  | none => rw [q] at h1; cases h1
  | some ds =>
    rw [q] at h1
    have h1' : (if ds.length = 2 then some (Fl.nx (setAllE [i, j] ds (if nnL ds = true then ρ else dropE esc ρ))) else none) = some fl := h1
    split at h1'
    · rename_i hl
      cases h1'
      have two : ∀ {H' : Hp} {ok : Addr → Prop} {vs : List V}, RpL X.K H' ok vs ds → ∃ v w, vs = [v, w] ∧ (σ.set i (some v)).set j (some w) = setAllV [i, j] vs σ := fun {H' ok vs} r => by
        have := r.length
        match vs, this.trans hl with
        | [v, w], _ => exact ⟨v, w, rfl, rfl⟩
      by_cases hn : nnL ds = true
      · rw [if_pos hn] at h2
        refine ⟨fun _ => True, dat ρ, ds, fun _ _ => trivial, F.all esc, q, fun vs H' e r => ?_⟩
        have r' : RpL X.K H' (okF okA E) vs ds := r.any hn
        obtain ⟨v, w, e1, e2⟩ := two r'
        obtain ⟨E', F', o⟩ := FR.setAll (is := [i, j]) (F.ext e) r'
        exact ⟨v, w, e1, by rw [e2]; exact h2 _ rfl _ H' E' F' ((Ev.ext e).trans o)⟩
      · rw [if_neg hn] at h2
        refine ⟨okF okA (cutE esc E), dat ρ, ds, cut_fresh F esc, F.esc esc, q, fun vs H' e r => ?_⟩
        obtain ⟨v, w, e1, e2⟩ := two r
        obtain ⟨E', F', o⟩ := FR.setAll (is := [i, j]) ((dropF esc F).ext e) r
        exact ⟨v, w, e1, by rw [e2]; exact h2 _ rfl _ H' E' F' (ev_cut.trans ((Ev.ext e).trans o))⟩
    · cases h1'

/-! ### return -/
theorem FR.retE {K : PySem.W.Frag} {okA : Addr → Prop} {H0 H : Hp} {E : Ex} {σ : Sg} {ρ : PEnv} (F : FR K okA H0 E σ H ρ) (esc : List Nat) : SlE K okA esc σ H (dat ρ) := ⟨dat_len.trans F.len, fun i d q => by
  obtain ⟨o, q'⟩ := dat_get q
  obtain ⟨v, s1, s2⟩ := F.slot i d o q'
  have r : Rp K H okA v d := by
    cases s2 with
    | sh r => exact r.imp fun _ z _ => z.1
    | ow e s => exact (s.to (fun _ q => q) (fun _ z _ => z.1) fun _ _ q _ => q).rp (F.fresh _ (F.new _ _ e).1)
    | lk e s => exact (s.to (fun _ q => q) (fun _ z _ => z.1) fun _ _ q _ => q).rp (F.fresh _ (F.new _ _ e).1)
  exact ⟨v, s1, .of r, fun _ => r⟩⟩
def retS (f : FE) (fr : Bool) : GS := fun ρ => (f (dat ρ)).bind fun d => some (.rt d fr)
theorem si_ret (he : PEI X e f esc fr) : PSI X (.Return (some e) pos) (retS f fr) := ps_imp (ps_ret he) fun D σ H ⟨okA, H0, E, ρ, fl, F, h1, h2, h3⟩ => by
  unfold retS at h1
  cases q : f (dat ρ) with
  | none => rw [q] at h1; cases h1
  | some d =>
    rw [q] at h1
    have h1' : some (Fl.rt d fr) = some fl := h1
    cases h1'
    exact ⟨okA, dat ρ, d, fun a z => F.fresh a (F.grow a z), F.retE esc, q, fun v H' e r => h3 d fr rfl v H' (EvR.ext e) ⟨r.1, fun z z' => let ⟨a, w1, w2, w3⟩ := r.2 z z'; ⟨a, w1, F.grow a w2, w3⟩⟩⟩
def isOw : Own → Bool
  | .ow => true
  | _ => false
def retV (i : Nat) : GS := fun ρ => match ρ[i]? with
  | some (some (d, o)) => some (.rt d (isOw o))
  | _ => none
theorem si_retV (h : PE X e (tVar i)) : PSI X (.Return (some e) pos) (retV i) := ps_imp (ps_ret h) fun D σ H ⟨okA, H0, E, ρ, fl, F, h1, h2, h3⟩ => by
  unfold retV at h1
  split at h1
  · rename_i d o q
    cases h1
    obtain ⟨v, s1, s2⟩ := F.slot i d o q
    refine ⟨v, s1, h3 d _ rfl v H evr_refl ?_⟩
    cases s2 with
    | sh r => exact .no (r.imp fun _ z _ => z.1)
    | ow e s => exact ⟨(s.to (fun _ q => q) (fun _ z _ => z.1) fun _ _ q _ => q).rp (F.fresh _ (F.new _ _ e).1), fun _ _ => ⟨_, rfl, (F.new _ _ e).1, s.to (fun _ q => q) (fun b z _ => ⟨z.1, fun w => z.2 i (by rw [w]; exact e)⟩) fun _ _ q _ => q⟩⟩
    | lk e s => exact .no ((s.to (fun _ q => q) (fun _ z _ => z.1) fun _ _ q _ => q).rp (F.fresh _ (F.new _ _ e).1))
  · cases h1
def retN : GS := fun _ => some (.rt .none true)
theorem si_retN : PSI X (.Return none pos) retN := ps_imp ps_retN fun D σ H ⟨okA, H0, E, ρ, fl, F, h1, h2, h3⟩ => by
  cases h1
  exact h3 .none true rfl .non H evr_refl (.im .non rfl)

/-! ### if -/
def ifS (pt : FT) (g1 g2 : GS) : GS := fun ρ => (pt (dat ρ)).bind fun b => if b = true then g1 ρ else g2 ρ
theorem si_if {s1 s2 : List Stmt} (hc : PTI X c pt) (ha : PBI X s1 g1) (hb : PBI X s2 g2) : PSI X (.If c s1 s2 pos) (ifS pt g1 g2) := ps_imp (ps_if hc ha hb) fun D σ H ⟨okA, H0, E, ρ, fl, F, h1, h2, h3⟩ => by
  unfold ifS at h1
  cases q : pt (dat ρ) with
  | none => rw [q] at h1; cases h1
  | some b =>
    rw [q] at h1
    have h1' : (if b = true then g1 ρ else g2 ρ) = some fl := h1
    refine ⟨dat ρ, b, F.all [], q, fun H' e => ?_⟩
    have fin : ∀ g, g ρ = some fl → tS X.K g D σ H' := fun g hg => ⟨okA, H0, E, ρ, fl, F.ext e, hg, fun ρ' w σ' H'' E' F' v => h2 ρ' w σ' H'' E' F' ((Ev.ext e).trans v), fun d own w v H'' ev r => h3 d own w v H'' ((Ev.ext e).transR ev) r⟩
    cases b with
    | true => exact iteT (fin g1 h1')
    | false => exact iteF (fin g2 h1')
end
end PM

set_option Elab.async false
set_option linter.all false
set_option maxRecDepth 100000
set_option maxHeartbeats 4000000
/-! PM: what changes lists; loops. -/
namespace PM
open PySem PySem.Spec PyProof.Rows L2

section
variable {K : PySem.W.Frag} {okA : Addr → Prop} {H0 H H' H'' : Hp} {E E' E'' : Ex} {σ σ' : Sg} {ρ ρ' : PEnv}
theorem upd_dom {a : Addr} {o : HO} (h : H a ≠ none) : ∀ b, upd H a o b = none → H b = none := fun b q => by
  by_cases e : b = a
  · subst e; rw [upd_same] at q; cases q
  · rw [upd_ne e] at q; exact q
/-- an object that the i-th slot alone holds is changed -/
theorem FR.mut (F : FR K okA H0 E σ H ρ) {i : Nat} {d d' : PyData} {a : Addr} {o : HO} (hi : ρ[i]? = some (some (d, .ow))) (hs : σ[i]? = some (some (.ref a))) (ea : E i a) (ns : ∀ u, H a = some u → ¬ Stab u) (s : Shell K (upd H a o) (okF okA E) a d') :
    FR K okA H0 E σ (upd H a o) (ρ.set i (some (d', .ow))) := by
  have ha : H a ≠ none := (F.new i a ea).2
  refine ⟨by rw [List.length_set]; exact F.len, F.apart, fun j b z => ⟨(F.new j b z).1, fun q => (F.new j b z).2 (upd_dom ha b q)⟩, fun j b d2 o2 z q => ?_, F.fresh, fun b q => F.grow b (upd_dom ha b q), fun j d2 o2 q => ?_⟩
  · by_cases hj : i = j
    · subst hj; exact F.one i b d _ z hi
    · rw [List.getElem?_set_ne hj] at q; exact F.one j b d2 o2 z q
  by_cases hj : i = j
  · subst hj
    rw [List.getElem?_set_self (List.getElem?_eq_some_iff.mp hi).1] at q
    cases q
    exact ⟨_, hs, .ow ea s⟩
  · rw [List.getElem?_set_ne hj] at q
    obtain ⟨v, s1, s2⟩ := F.slot j d2 o2 q
    refine ⟨v, s1, s2.to (fun _ z => z) (fun k b z => .inl ⟨k, z⟩) fun b u qb z => ?_⟩
    have nb : b ≠ a := fun w => by
      subst w
      rcases z with z | z | z
      · exact z.2 i ea
      · exact hj (F.apart _ _ _ ea z)
      · exact ns u qb z
    rw [upd_ne nb]; exact qb
theorem ev_mut {i : Nat} {d d' : PyData} {a : Addr} {o : HO} (hi : ρ[i]? = some (some (d, .ow))) (ea : E i a) (ha : H a ≠ none) : Ev E ρ H E (ρ.set i (some (d', .ow))) (upd H a o) := by
  refine ⟨⟨fun b u q n => ?_, fun b q => upd_dom ha b q⟩, fun j b z => .inl z, fun b ⟨j, d2, z, w⟩ => .inl ?_⟩
  · have nb : b ≠ a := fun w => by subst w; exact n ⟨i, d, ea, hi⟩
    rw [upd_ne nb]; exact q
  · by_cases hj : i = j
    · subst hj; exact ⟨i, d, z, hi⟩
    · rw [List.getElem?_set_ne hj] at w; exact ⟨j, d2, z, w⟩
/-- the list of the slot, and the same with other items -/
theorem FR.owL (F : FR K okA H0 E σ H ρ) {i : Nat} {ds : List PyData} (hi : ρ[i]? = some (some (.list ds, .ow))) : ∃ a xs, σ[i]? = some (some (.ref a)) ∧ E i a ∧ H a = some (.lst xs) ∧ RpL K H (okF okA E) xs ds := by
  obtain ⟨v, s1, s2⟩ := F.slot i _ _ hi
  cases s2 with
  | ow e s => cases s with | lst h1 h2 => exact ⟨_, _, s1, e, h1, h2⟩
theorem RpL.upd {a : Addr} {o : HO} {xs ys : List V} {ds : List PyData} {ok : Addr → Prop} (ha : H a = some (.lst xs)) (n : ¬ ok a) (r : RpL K H ok ys ds) : RpL K (upd H a o) ok ys ds := r.to (fun _ q _ => q) fun b u q z => by
  have nb : b ≠ a := fun w => by
    subst w
    rcases z with z | z
    · exact n z
    · rw [ha] at q; cases q; exact z
  rw [upd_ne nb]; exact q
theorem FR.putL (F : FR K okA H0 E σ H ρ) {i : Nat} {ds ds' : List PyData} {a : Addr} {xs xs' : List V} (hi : ρ[i]? = some (some (.list ds, .ow))) (hs : σ[i]? = some (some (.ref a))) (ea : E i a) (ha : H a = some (.lst xs)) (r : RpL K H (okF okA E) xs' ds') :
    FR K okA H0 E σ (upd H a (.lst xs')) (ρ.set i (some (.list ds', .ow))) ∧ Ev E ρ H E (ρ.set i (some (.list ds', .ow))) (upd H a (.lst xs')) := by
  refine ⟨F.mut hi hs ea (fun u q z => by rw [ha] at q; cases q; exact z) (.lst upd_same (r.upd ha fun z => z.2 i ea)), ev_mut hi ea (none_ne ha)⟩
end

/-! ### methods of a list that the def holds alone: one argument, nothing handed back -/
def Mt1 (K : PySem.W.Frag) (r : V → List V → Hp → VK → Prop) (u : List PyData → PyData → Option (List PyData)) : Prop :=
  ∀ (ok : Addr → Prop) (H : Hp) (a : Addr) (xs : List V) (y : V) (ds ds' : List PyData) (d : PyData), H a = some (.lst xs) → RpL K H ok xs ds → Rp K H ok y d → u ds d = some ds' → ∃ xs', RpL K H ok xs' ds' ∧ ∀ Q : VK, Q .non (upd H a (.lst xs')) → r (.ref a) [y] H Q
def apD (ds : List PyData) (d : PyData) : Option (List PyData) := if ds.length < LINE then some (ds ++ [d]) else none
def exD (ds : List PyData) : PyData → Option (List PyData)
  | .list es => if ds.length + es.length ≤ LINE then some (ds ++ es) else none
  | _ => none
theorem mt1_append {K : PySem.W.Frag} : Mt1 K rAppend apD := fun ok H a xs y ds ds' d ha r ry e => by
  unfold apD at e
  split at e
  · cases e
    exact ⟨xs ++ [y], r.append (.one ry), fun Q q => ⟨a, xs, y, rfl, rfl, ha, line_lt (by rw [r.length]; assumption), q⟩⟩
  · cases e
theorem mt1_extend {K : PySem.W.Frag} : Mt1 K rExtend exD := fun ok H a xs y ds ds' d ha r ry e => by
  unfold exD at e
  split at e
  · split at e
    · cases e
      cases ry with
      | lst o hb rb => exact ⟨_, r.append rb, fun Q q => ⟨a, _, xs, _, rfl, rfl, ha, hb, line_le (by rw [r.length, rb.length]; assumption), q⟩⟩
    · cases e
  · cases e
def mutS (i : Nat) (f : FE) (esc : List Nat) (u : List PyData → PyData → Option (List PyData)) : GS := fun ρ => (f (dat ρ)).bind fun d =>
  match (if nn d = true then ρ else dropE esc ρ)[i]? with
  | some (some (.list ds, .ow)) => (u ds d).bind fun ds' => some (.nx ((if nn d = true then ρ else dropE esc ρ).set i (some (.list ds', .ow))))
  | _ => none
section
variable {X : Cx} {st : Stmt} {sts rest : List Stmt} {tg e a b c o : Expr} {es : List Expr} {pos p p2 apos cpos : Pos} {f f1 f2 : FE} {fs : FA} {g g1 g2 : GS} {esc esc' : List Nat} {fr fr' : Bool} {pt : FT} {i j : Nat} {T : Tg} {gt : TG}
theorem mut_t {r : V → List V → Hp → VK → Prop} {u : List PyData → PyData → Option (List PyData)} (hu : Mt1 X.K r u) : ∀ D σ H, tS X.K (mutS i f esc u) D σ H → tDrop (tBM X.K "list" r (tVar i) (tCons (tE X.K f esc fr) tNil)) D σ H := fun D σ H ⟨okA, H0, E, ρ, fl, F, h1, h2, h3⟩ => by
  unfold mutS at h1
  cases q : f (dat ρ) with
  | none => rw [q] at h1; cases h1
  | some d =>
    rw [q] at h1
    simp only [Option.bind_some] at h1
    -- the frame ahead of the call, and what it promises of the argument
    have key : ∀ (E1 : Ex) (ρ1 : PEnv) (ok : Addr → Prop) (ds ds' : List PyData), FR X.K okA H0 E1 σ H ρ1 → Ev E ρ H E1 ρ1 H → Fresh H ok → SlE X.K ok esc σ H (dat ρ) → (∀ H' v, Rp X.K H' ok v d → Rp X.K H' (okF okA E1) v d) →
        ρ1[i]? = some (some (.list ds, .ow)) → u ds d = some ds' → fl = .nx (ρ1.set i (some (.list ds', .ow))) → tDrop (tBM X.K "list" r (tVar i) (tCons (tE X.K f esc fr) tNil)) D σ H := by
      intro E1 ρ1 ok ds ds' F1 v1 hf hsl hok hi hd hfl
      obtain ⟨a, xs, s1, ea, ha, ra⟩ := F1.owL hi
      refine ⟨.ref a, s1, .inl ⟨rfl, xs, SqL.of ha⟩, ok, dat ρ, d, hf, hsl, q, fun y H' e ry => ?_⟩
      have F2 := F1.ext e
      obtain ⟨xs', r', hr⟩ := hu (okF okA E1) H' a xs y ds ds' d (e _ _ ha) (ra.ext e) (hok _ _ ry.1) hd
      obtain ⟨F3, v3⟩ := F2.putL hi s1 ea (e _ _ ha) r'
      exact hr _ (h2 _ hfl _ _ _ F3 (v1.trans ((Ev.ext e).trans v3)))
    by_cases hn : nn d = true
    · rw [if_pos hn] at h1
      split at h1
      · rename_i ds hi
        cases hd : u ds d with
        | none => rw [hd] at h1; cases h1
        | some ds' =>
          rw [hd] at h1
          cases h1
          exact key E ρ (fun _ => True) ds ds' F Ev.refl (fun _ _ => trivial) (F.all esc) (fun H' v r => r.any hn) hi hd rfl
      · cases h1
    · rw [if_neg hn] at h1
      split at h1
      · rename_i ds hi
        cases hd : u ds d with
        | none => rw [hd] at h1; cases h1
        | some ds' =>
          rw [hd] at h1
          cases h1
          exact key _ _ _ ds ds' (dropF esc F) ev_cut (cut_fresh F esc) (F.esc esc) (fun H' v r => r) hi hd rfl
      · cases h1
theorem si_mut {r : V → List V → Hp → VK → Prop} {u : List PyData → PyData → Option (List PyData)} {name : Str} {id : String} (hu : Mt1 X.K r u) (slot : Slot "list" name id) (hty : typeOf (.builtin id) = pure (.type "method_descriptor")) (hm : MtR X id r) (ho : PE X o (tVar i)) (ha : PEI X e f esc fr)
    (hbase : attributeBase o name X.env (eval o X.env) = eval o X.env := by rfl)
    (hfew : ((backTo cpos (starEach [e] X.env)).all (fun x => !x.1) && (backToKw cpos (keywordEach [] X.env)).all (fun x => x.1.isSome) && decide (([e] : List Expr).length + ([] : List Keyword).length + (if ([] : List Keyword).isEmpty then 0 else 1) < 30)) = true := by rfl)
    (hline : (apos.endLine == cpos.line) = true := by rfl) (hs : starEach [e] X.env = (false, eval e X.env) :: starEach [] X.env := by rfl) (hplain : (backTo cpos (starEach [] X.env)).any (·.1) = false := by rfl)
    (hsw : swapsWith (.Call (.Attribute o name apos) [e] [] cpos) none pos.line X.env = pure false := by rfl) : PSI X (.Expr (.Call (.Attribute o name apos) [e] [] cpos) pos) (mutS i f esc u) :=
  ps_imp (ps_expr (pe_bm PySem.F.plainAttrs_list slot hty hm ho (pa_cons ha pa_nil hs) hbase hfew hline hs hplain) hsw) (mut_t hu)

/-! ### x[i] = e -/
def sitS (i : Nat) (fi : FE) (f : FE) (esc : List Nat) : GS := fun ρ => (f (dat ρ)).bind fun d =>
  match (if nn d = true then ρ else dropE esc ρ)[i]? with
  | some (some (.list ds, .ow)) => (fi (dat ρ)).bind fun k => (int1 k).bind fun k => (ixN ds.length k).bind fun j => some (.nx ((if nn d = true then ρ else dropE esc ρ).set i (some (.list (ds.set j d), .ow))))
  | _ => none
theorem sit_t {fi : FE} : ∀ D σ H, tS X.K (sitS i fi f esc) D σ H → tAsg (tE X.K f esc fr) (gSub (tVar i) (tB X.K fi esc') rSetL) D σ H := fun D σ H ⟨okA, H0, E, ρ, fl, F, h1, h2, h3⟩ => by
  unfold sitS at h1
  cases q : f (dat ρ) with
  | none => rw [q] at h1; cases h1
  | some d =>
    rw [q] at h1
    simp only [Option.bind_some] at h1
    have key : ∀ (E1 : Ex) (ρ1 : PEnv) (ok : Addr → Prop) (ds : List PyData) (k : Int) (j : Nat), FR X.K okA H0 E1 σ H ρ1 → Ev E ρ H E1 ρ1 H → Fresh H ok → SlE X.K ok esc σ H (dat ρ) → (∀ H' v, Rp X.K H' ok v d → Rp X.K H' (okF okA E1) v d) →
        ρ1[i]? = some (some (.list ds, .ow)) → fi (dat ρ) = some (.int k) → ixN ds.length k = some j → fl = .nx (ρ1.set i (some (.list (ds.set j d), .ow))) → tAsg (tE X.K f esc fr) (gSub (tVar i) (tB X.K fi esc') rSetL) D σ H := by
      intro E1 ρ1 ok ds k j F1 v1 hf hsl hok hi hk hj hfl
      refine ⟨ok, dat ρ, d, hf, hsl, q, fun y H' e ry => ?_⟩
      have F2 := F1.ext e
      obtain ⟨a, xs, s1, ea, ha, ra⟩ := F2.owL hi
      refine ⟨.ref a, s1, fun _ => True, dat ρ, .int k, fun _ _ => trivial, (hsl.ext e).tru _, hk, fun v H2 e2 rv => ?_⟩
      have ev := rv.int
      subst ev
      have F3 := F2.ext e2
      obtain ⟨F4, v4⟩ := F3.putL (ds' := ds.set j d) hi s1 ea (e2 _ _ ha) (RpL.set ((hok _ _ ry.1).ext e2) j (ra.ext e2))
      exact ⟨a, xs, k, j, rfl, rfl, e2 _ _ ha, by rw [ra.length]; exact hj, h2 _ hfl _ _ _ F4 (v1.trans ((Ev.ext e).trans ((Ev.ext e2).trans v4)))⟩
    have fin : ∀ {ds : List PyData} {ρ1 : PEnv}, ((fi (dat ρ)).bind fun k => (int1 k).bind fun k => (ixN ds.length k).bind fun j => some (Fl.nx (ρ1.set i (some (.list (ds.set j d), .ow))))) = some fl → ∃ k j, fi (dat ρ) = some (.int k) ∧ ixN ds.length k = some j ∧ fl = .nx (ρ1.set i (some (.list (ds.set j d), .ow))) := fun {ds ρ1} h => by
      cases w1 : fi (dat ρ) with
      | none => rw [w1] at h; cases h
      | some z =>
        rw [w1] at h
        simp only [Option.bind_some] at h
        cases w2 : int1 z with
        | none => rw [w2] at h; cases h
        | some k =>
          rw [w2] at h
          simp only [Option.bind_some] at h
          cases w3 : ixN ds.length k with
          | none => rw [w3] at h; cases h
          | some j =>
            rw [w3] at h
            cases h
            exact ⟨k, j, by rw [int1_some w2], w3, rfl⟩
    by_cases hn : nn d = true
    · rw [if_pos hn] at h1
      split at h1
      · rename_i ds hi
        obtain ⟨k, j, w1, w2, w3⟩ := fin h1
        exact key E ρ (fun _ => True) ds k j F Ev.refl (fun _ _ => trivial) (F.all esc) (fun H' v r => r.any hn) hi w1 w2 w3
      · cases h1
    · rw [if_neg hn] at h1
      split at h1
      · rename_i ds hi
        obtain ⟨k, j, w1, w2, w3⟩ := fin h1
        exact key _ _ _ ds k j (dropF esc F) ev_cut (cut_fresh F esc) (F.esc esc) (fun H' v r => r) hi w1 w2 w3
      · cases h1
theorem si_sit {k : Expr} {fi : FE} {spos : Pos} (he : PEI X e f esc fr) (ho : PE X o (tVar i)) (hk : PEB X k fi esc')
    (ha : ∀ v, assign (.Subscript o k spos) X.env v = (do
      let ov ← holding [v] (eval o X.env)
      let iv ← holding [v, ov] (eval k X.env)
      standAt spos
      holding [v, ov, iv] (setItem ov iv v)
      release [v, ov, iv] []) := by intro _; rfl)
    (hs : swapsWithSole [.Subscript o k spos] e pos.line X.env = pure false := by rfl) (hw : swappedStores [.Subscript o k spos] e X.env = pure none := by rfl)
    (h1 : (assignEach [.Subscript o k spos] X.env).map (·.2) = [assign (.Subscript o k spos) X.env] := by rfl) : PSI X (.Assign [.Subscript o k spos] e pos) (sitS i fi f esc) :=
  ps_imp (ps_asg he (pg_sub ho hk set_list ha) hs hw h1) sit_t

/-! ### loops -/
/-- the walked slot's list must stay -/
def lockE (bv : Option Nat) (ρ : PEnv) : PEnv × Bool := match bv with
  | none => (ρ, false)
  | some i => match ρ[i]? with
    | some (some (d, .ow)) => (ρ.set i (some (d, .lk)), true)
    | _ => (ρ, false)
def unlockE (bv : Option Nat) (lk : Bool) (ρ : PEnv) : PEnv := match bv, lk with
  | some i, true => (match ρ[i]? with
    | some (some (d, .lk)) => ρ.set i (some (d, .ow))
    | _ => ρ)
  | _, _ => ρ
def bindE : Tg → PyData → PEnv → Option PEnv
  | .nm i, d, ρ => some (ρ.set i (some (d, .sh)))
  | .tp is, .tuple ds, ρ => if ds.length = is.length then some (setAllE is ds ρ) else none
  | _, _, _ => none
def goF (T : Tg) (body : GS) : List PyData → GS
  | [], ρ => some (.nx ρ)
  | d :: ds, ρ => (bindE T d ρ).bind fun ρ' => (body ρ').bind fun fl => match fl with
    | .nx ρ'' => goF T body ds ρ''
    | .rt d o => some (.rt d o)
def forS (s : FS) (esc : List Nat) (bv : Option Nat) (T : Tg) (body : GS) : GS := fun ρ => (s (dat ρ)).bind fun ds =>
  (goF T body ds (lockE bv (dropE esc ρ)).1).bind fun fl => match fl with
    | .nx ρ' => some (.nx (unlockE bv (lockE bv (dropE esc ρ)).2 ρ'))
    | .rt d o => some (.rt d o)
end
section
variable {K : PySem.W.Frag} {okA : Addr → Prop} {H0 H H' H'' : Hp} {E E' E'' : Ex} {σ σ' : Sg} {ρ ρ' : PEnv}
theorem FR.flag (F : FR K okA H0 E σ H ρ) {i : Nat} {d : PyData} {o o' : Own} (hi : ρ[i]? = some (some (d, o))) (h : (o = .ow ∧ o' = .lk) ∨ (o = .lk ∧ o' = .ow)) : FR K okA H0 E σ H (ρ.set i (some (d, o'))) := by
  refine ⟨by rw [List.length_set]; exact F.len, F.apart, F.new, fun j b d2 o2 z q => ?_, F.fresh, F.grow, fun j d2 o2 q => ?_⟩
  · by_cases hj : i = j
    · subst hj; exact F.one i b d _ z hi
    · rw [List.getElem?_set_ne hj] at q; exact F.one j b d2 o2 z q
  by_cases hj : i = j
  · subst hj
    rw [List.getElem?_set_self (List.getElem?_eq_some_iff.mp hi).1] at q
    cases q
    obtain ⟨v, s1, s2⟩ := F.slot i d o hi
    refine ⟨v, s1, ?_⟩
    rcases h with ⟨rfl, rfl⟩ | ⟨rfl, rfl⟩
    · cases s2 with | ow e s => exact .lk e s
    · cases s2 with | lk e s => exact .ow e s
  · rw [List.getElem?_set_ne hj] at q
    exact F.slot j d2 o2 q
theorem FR.bind (F : FR K okA H0 E σ H ρ) {T : Tg} {g : TG} {v : V} {d : PyData} {ρ' : PEnv} {Q : Sg → Hp → Prop} (hT : TgV K g T) (r : Rp K H (okF okA E) v d) (e : bindE T d ρ = some ρ') (q : ∀ σ' E', FR K okA H0 E' σ' H ρ' → Ev E ρ H E' ρ' H → Q σ' H) : g v σ H Q := by
  cases T with
  | nm i =>
    cases (show g = gName i from hT)
    cases e
    exact q _ _ (F.setSh (r.imp fun a z _ => ⟨z.1, fun j w => z.2 j w.1⟩)) (ev_clr (Same.refl H))
  | tp is =>
    unfold bindE at e
    split at e
    · rename_i hh; cases hh
    · rename_i is' ds' ρ'' h1
      split at e
      · rename_i hl
        cases h1
        cases e
        cases r with
        | tup ha ra =>
          obtain ⟨E', F', o⟩ := FR.setAll (is := is) F ra
          exact hT _ _ _ _ ⟨_, _, rfl, SqT.of ha, by rw [ra.length]; exact hl, q _ E' F' o⟩
      · cases e
    · cases e
theorem lock_fr (F : FR K okA H0 E σ H ρ) (bv : Option Nat) : FR K okA H0 E σ H (lockE bv ρ).1 := by
  unfold lockE
  cases bv with
  | none => exact F
  | some i =>
    simp only
    split
    · rename_i d q; exact F.flag q (.inl ⟨rfl, rfl⟩)
    · exact F
theorem lock_mo {bv : Option Nat} {a : Addr} (h : Mo E (lockE bv ρ).1 a) : Mo E ρ a := by
  unfold lockE at h
  cases bv with
  | none => exact h
  | some i =>
    simp only at h
    split at h
    · rename_i d q
      obtain ⟨j, d2, z, w⟩ := h
      by_cases hj : i = j
      · subst hj
        rw [List.getElem?_set_self (List.getElem?_eq_some_iff.mp q).1] at w
        cases w
      · rw [List.getElem?_set_ne hj] at w
        exact ⟨j, d2, z, w⟩
    · exact h
theorem lock_ev {bv : Option Nat} : Ev E ρ H E (lockE bv ρ).1 H := ⟨EvR.ext (Same.refl H), fun i a z => .inl z, fun a z => .inl (lock_mo z)⟩
/-- the walked list is not one that the body may change -/
theorem lock_root {bv : Option Nat} {i : Nat} {a : Addr} (F : FR K okA H0 E σ H ρ) (hb : bv = some i) (hs : σ[i]? = some (some (.ref a))) (d : PyData) (o : Own) (hi : ρ[i]? = some (some (d, o))) (hl : ∃ ds, d = .list ds) : ¬ Mo E (lockE bv ρ).1 a := fun ⟨j, d2, z, w⟩ => by
  subst hb
  obtain ⟨v, s1, s2⟩ := F.slot i d o hi
  rw [hs] at s1
  cases s1
  obtain ⟨ds, rfl⟩ := hl
  have only : ∀ k, E k a → o ≠ .sh → k = i := fun k z n => by
    cases s2 with
    | sh r => exact absurd rfl n
    | ow e s => exact F.apart _ _ _ z e
    | lk e s => exact F.apart _ _ _ z e
  have nsh : o ≠ .sh := fun e => by
    subst e
    cases s2 with
    | sh r => cases r with | lst o _ _ => exact o.2 j z
  have e := only j z nsh
  subst e
  unfold lockE at w
  simp only [hi] at w
  cases o with
  | sh => exact nsh rfl
  | ow =>
    simp only at w
    rw [List.getElem?_set_self (List.getElem?_eq_some_iff.mp hi).1] at w
    cases w
  | lk => simp only at w; rw [hi] at w; cases w
theorem mo_nst (F : FR K okA H0 E σ H ρ) {a : Addr} {o : HO} (m : Mo E ρ a) (h : H a = some o) : ¬ Stab o := fun z => by
  obtain ⟨i, d, ea, hi⟩ := m
  have s0 := F.one i a d _ ea hi
  obtain ⟨v, s1, s2⟩ := F.slot i d _ hi
  rw [s0] at s1
  cases s1
  cases s2 with
  | ow e s =>
    cases s with
    | lst q _ => rw [q] at h; cases h; exact z
    | dK q _ => rw [q] at h; cases h; exact z
    | dT q _ => rw [q] at h; cases h; exact z
theorem unlock_ev {bv : Option Nat} {E1 : Ex} {ρ1 : PEnv} {σ1 : Sg} (v : Ev E1 (lockE bv ρ1).1 H E' ρ' H') (F' : FR K okA H0 E' σ' H' ρ') : FR K okA H0 E' σ' H' (unlockE bv (lockE bv ρ1).2 ρ') ∧ Ev E1 ρ1 H E' (unlockE bv (lockE bv ρ1).2 ρ') H' := by
  have v1 : Ev E1 ρ1 H E' ρ' H' := lock_ev.trans v
  unfold unlockE
  cases bv with
  | none => exact ⟨F', v1⟩
  | some i =>
    cases hl : (lockE (some i) ρ1).2 with
    | false => exact ⟨F', v1⟩
    | true =>
      simp only
      split
      · rename_i d q
        refine ⟨F'.flag q (.inr ⟨rfl, rfl⟩), v1.r, v1.own, fun a m => ?_⟩
        obtain ⟨j, d2, z, w⟩ := m
        by_cases hj : i = j
        · subst hj
          rcases v1.own i a z with k | k
          · left
            unfold lockE at hl
            simp only at hl
            split at hl
            · rename_i d3 q3; exact ⟨i, d3, k, q3⟩
            · cases hl
          · exact .inr k
        · rw [List.getElem?_set_ne hj] at w
          exact v1.mo a ⟨j, d2, z, w⟩
      · exact ⟨F', v1⟩
end
end PM

set_option Elab.async false
set_option linter.all false
set_option maxRecDepth 100000
set_option maxHeartbeats 4000000
/-! PM: for, while, defs. -/
namespace PM
open PySem PySem.Spec PyProof.Rows L2

section
variable {X : Cx} {st : Stmt} {sts body rest : List Stmt} {tg iter e a b c o : Expr} {es : List Expr} {pos p p2 apos cpos : Pos} {f f1 f2 : FE} {fs : FA} {g g1 g2 : GS} {esc esc' : List Nat} {fr fr' : Bool} {pt : FT} {i j : Nat} {T : Tg} {gt : TG} {s : FS} {bv : Option Nat}
theorem for_t (hT : TgV X.K gt T) : ∀ D σ H, tS X.K (forS s esc bv T g) D σ H → tFor (wI X.K s esc bv) gt (tS X.K g) D σ H := fun D σ H ⟨okA, H0, E, ρ, fl, F, h1, h2, h3⟩ => by
  unfold forS at h1
  cases q : s (dat ρ) with
  | none => rw [q] at h1; cases h1
  | some ds =>
    rw [q] at h1
    simp only [Option.bind_some] at h1
    cases q2 : goF T g ds (lockE bv (dropE esc ρ)).1 with
    | none => rw [q2] at h1; cases h1
    | some flx =>
      rw [q2] at h1
      refine ⟨okF okA (cutE esc E), dat ρ, ds, cut_fresh F esc, F.esc esc, q, fun J H1 root e1 W hroot => ?_⟩
      have F1 : FR X.K okA H0 (cutE esc E) σ H1 (dropE esc ρ) := (dropF esc F).ext e1
      have F2 := lock_fr F1 bv
      have v0 : Ev E ρ H (cutE esc E) (dropE esc ρ) H1 := ev_cut.trans (Ev.ext e1)
      have v1 : Ev E ρ H (cutE esc E) (lockE bv (dropE esc ρ)).1 H1 := v0.trans lock_ev
      refine ⟨fun i m σ' H' => i + m = ds.length ∧ ∃ E' ρ', FR X.K okA H0 E' σ' H' ρ' ∧ Ev (cutE esc E) (lockE bv (dropE esc ρ)).1 H1 E' ρ' H' ∧ goF T g (ds.drop i) ρ' = some flx,
        ⟨ds.length, by omega, _, _, F2, Ev.refl, by rw [List.drop_zero]; exact q2⟩, fun i m σ' H' ⟨hm, E', ρ', F', v', hgo⟩ => ?_⟩
      have kp : ∀ b u, H1 b = some u → (okF okA (cutE esc E) b ∨ root b) ∨ Stab u → H' b = some u := fun b u qb z => v'.r.keep b u qb fun mo => by
        rcases z with (z | z) | z
        · obtain ⟨j, d, ej, _⟩ := mo; exact z.2 j ej
        · obtain ⟨k, ws, hb, hs, hd⟩ := hroot b z
          rw [← dat_drop esc] at hd
          obtain ⟨o, hd'⟩ := dat_get hd
          exact lock_root F1 hb hs _ o hd' ⟨ws, rfl⟩ mo
        · exact mo_nst F2 mo qb z
      have Wi := W H' kp i
      by_cases hi : i < ds.length
      · obtain ⟨hg, hy⟩ := Wi.1 ds[i] (List.getElem?_eq_getElem hi)
        have hdr : ds.drop i = ds[i] :: ds.drop (i + 1) := List.drop_eq_getElem_cons hi
        rw [hdr, goF] at hgo
        cases b1 : bindE T ds[i] ρ' with
        | none => rw [b1] at hgo; cases hgo
        | some ρ2 =>
          rw [b1] at hgo
          simp only [Option.bind_some] at hgo
          cases b2 : g ρ2 with
          | none => rw [b2] at hgo; cases hgo
          | some fl1 =>
            rw [b2] at hgo
            refine .inr ⟨hg, fun σ'' H'' => ∃ E'' ρ'', FR X.K okA H0 E'' σ'' H'' ρ'' ∧ Ev (cutE esc E) (lockE bv (dropE esc ρ)).1 H1 E'' ρ'' H'' ∧ goF T g (ds.drop (i + 1)) ρ'' = some flx, fun σ'' H'' z => ⟨m - 1, by omega, by omega, z⟩, fun x H3 y => ?_⟩
            obtain ⟨e3, rx⟩ := hy x H3 y
            have F3 := F'.ext e3
            have rx' : Rp X.K H3 (okF okA E') x ds[i] := rx _ fun b z n => ⟨z.1, fun k w => (v'.own k b w).elim (fun w => z.2 k w) n⟩
            refine F3.bind hT rx' b1 fun σ4 E4 F4 v4 => ?_
            have v5 := v'.trans ((Ev.ext e3).trans v4)
            refine ⟨okA, H0, E4, ρ2, fl1, F4, b2, fun ρ5 w σ5 H5 E5 F5 v6 => ?_, fun d own w v H5 ev r => ?_⟩
            · subst w
              exact ⟨E5, ρ5, F5, v5.trans v6, hgo⟩
            · subst w
              have hx : some (Fl.rt d own) = some flx := hgo
              cases hx
              cases h1
              exact h3 d own rfl v H5 (v1.transR (v5.transR ev)) r
      · have ei : ds.drop i = [] := List.drop_eq_nil_of_le (by omega)
        rw [ei] at hgo
        have hx : some (Fl.nx ρ') = some flx := hgo
        cases hx
        cases h1
        obtain ⟨F6, v6⟩ := unlock_ev (bv := bv) (ρ1 := dropE esc ρ) (σ1 := σ) v' F'
        exact .inl ⟨Wi.2 (by omega), h2 _ rfl σ' H' E' F6 (v0.trans v6)⟩
theorem si_for (hc : X.calm = true) (hi : PII X tg iter s esc bv) (hg : PG X tg gt) (hT : TgV X.K gt T) (hb : PBI X body g) (hp : PassesOwn (model X.prog X.w) X.A X.env X.xe)
    (hs : ∀ x, foldedSetIterable iter X.env x = pure x := by intro _; rfl) : PSI X (.For tg iter body [] pos) (forS s esc bv T g) := ps_imp (ps_for hp hc hi hg hb hs) (for_t hT)

/-! ### while: at most N turns -/
def whileS (N : Nat) (pt : FT) (body : GS) : GS := fun ρ => match N with
  | 0 => none
  | N + 1 => (pt (dat ρ)).bind fun b => if b = true then (body ρ).bind fun fl => match fl with
      | .nx ρ' => whileS N pt body ρ'
      | .rt d o => some (.rt d o)
    else some (.nx ρ)
theorem while_t {N : Nat} : ∀ D σ H, tS X.K (whileS N pt g) D σ H → tWhile (tT X.K pt) (tS X.K g) D σ H := fun D σ H ⟨okA, H0, E, ρ, fl, F, h1, h2, h3⟩ => by
  refine ⟨fun m σ' H' => ∃ E' ρ', FR X.K okA H0 E' σ' H' ρ' ∧ Ev E ρ H E' ρ' H' ∧ whileS m pt g ρ' = some fl, ⟨N, E, ρ, F, Ev.refl, h1⟩, fun m σ' H' ⟨E', ρ', F', v', hw⟩ => ?_⟩
  cases m with
  | zero => cases hw
  | succ m =>
    rw [whileS] at hw
    cases q : pt (dat ρ') with
    | none => rw [q] at hw; cases hw
    | some b =>
      rw [q] at hw
      simp only [Option.bind_some] at hw
      refine ⟨dat ρ', b, F'.all [], q, fun H3 e3 => ?_⟩
      have F3 := F'.ext e3
      cases b with
      | false =>
        rw [if_neg Bool.false_ne_true] at hw
        cases hw
        exact iteF (h2 ρ' rfl σ' H3 E' F3 (v'.trans (Ev.ext e3)))
      | true =>
        rw [if_pos rfl] at hw
        cases b2 : g ρ' with
        | none => rw [b2] at hw; cases hw
        | some fl1 =>
          rw [b2] at hw
          refine iteT ⟨fun σ'' H'' => ∃ E'' ρ'', FR X.K okA H0 E'' σ'' H'' ρ'' ∧ Ev E ρ H E'' ρ'' H'' ∧ whileS m pt g ρ'' = some fl, fun σ'' H'' z => ⟨m, Nat.lt_succ_self m, z⟩, ?_⟩
          refine ⟨okA, H0, E', ρ', fl1, F3, b2, fun ρ5 w σ5 H5 E5 F5 v6 => ?_, fun d own w v H5 ev r => ?_⟩
          · subst w
            exact ⟨E5, ρ5, F5, v'.trans ((Ev.ext e3).trans v6), hw⟩
          · subst w
            have hx : some (Fl.rt d own) = some fl := hw
            cases hx
            exact h3 d own rfl v H5 ((v'.trans (Ev.ext e3)).transR ev) r
theorem si_while (N : Nat) (hc : PTI X c pt) (hb : PBI X body g) (hp : PassesOwn (model X.prog X.w) X.A X.env X.xe) : PSI X (.While c body [] pos) (whileS N pt g) := ps_imp (ps_while hp hc hb) while_t
end

/-! ### a def's denotation -/
def stE (n : Nat) (ds : List PyData) : PEnv := ds.map (fun d => some (d, .sh)) ++ List.replicate (n - ds.length) none
/-- np parameters, n slots; fr: what is handed back is a new object -/
def mkF (np n : Nat) (fr : Bool) (g : GS) : Fn := fun ds => if ds.length = np then (g (stE n ds)).bind fun fl => match fl with
  | .nx _ => some .none
  | .rt d own => if fr = true ∧ isMut d = true ∧ own = false then none else some d
  else none
theorem stE_get {n : Nat} {ds : List PyData} {i : Nat} {d : PyData} {o : Own} (h : (stE n ds)[i]? = some (some (d, o))) : ds[i]? = some d ∧ o = .sh := by
  unfold stE at h
  by_cases hi : i < ds.length
  · rw [List.getElem?_append_left (by simpa using hi), List.getElem?_map] at h
    cases q : ds[i]? with
    | none => rw [q] at h; cases h
    | some d' => rw [q] at h; cases h; exact ⟨rfl, rfl⟩
  · rw [List.getElem?_append_right (by simpa using hi), List.getElem?_replicate] at h
    split at h <;> cases h
theorem start_fr {K : PySem.W.Frag} {H : Hp} {ok : Addr → Prop} {N : List Str} {vs : List V} {ds : List PyData} (hf : Fresh H ok) (r : RpL K H ok vs ds) : FR K ok H (fun _ _ => False) (L2.start N vs) H (stE N.length ds) := by
  refine ⟨?_, fun _ _ _ z => z.elim, fun _ _ z => z.elim, fun _ _ _ _ z => z.elim, hf, fun _ z => z, fun i d o q => ?_⟩
  · unfold stE L2.start
    rw [List.length_append, List.length_append, List.length_map, List.length_map, List.length_replicate, List.length_replicate, r.length]
  · obtain ⟨h1, rfl⟩ := stE_get q
    obtain ⟨v, h2, h3⟩ := r.get h1
    refine ⟨v, ?_, .sh (h3.imp fun a z _ => ⟨z, fun _ w => w⟩)⟩
    unfold L2.start
    have hi : i < vs.length := (List.getElem?_eq_some_iff.mp h2).1
    rw [List.getElem?_append_left (by simpa using hi), List.getElem?_map, h2]
    rfl
section
variable {P : Program} {w : World} {K : PySem.W.Frag} {mg : Str → Option Value} {base : Heap}
/-- THE RULE for a def -/
theorem fn_ok {x qual : Str} {st : Stmt} {f : Addr} {fd : FuncData} {N ps : List Str} {k : Nat} {g : GS} {fr : Bool} (F : L2.Fun K x qual st f fd) (S : FnScope N ps (defScope st))
    (hb : ∀ (cdv : Value) (A : Around) (outer : List PySem.Env) (s : Shared) (H : Hp) (E : XK), Room k (A.deeper (envOfC qual (defScope st) s.heap.objs.size f cdv)) →
      PBI (cxOf CX0 P w K mg base N qual (defScope st) f cdv A outer s H E).nox (defBody st) g) : FnOk P w K mg base CX0 (k + 1) f fd ps (spF K (mkF ps.length N.length fr g) fr) := by
  refine F.ok S (fun vs H Q E ⟨ok, ds, r, h1, h2, h3, _⟩ => ?_) (fun cdv A outer s H vs Q E hr ⟨ok, ds, r, h1, h2, h3, h4⟩ => ⟨_, hb cdv A outer s H E hr, ?_⟩)
  · unfold mkF at h3
    split at h3
    · rw [h2.length]; assumption
    · cases h3
  · unfold mkF at h3
    split at h3
    · cases q : g (stE N.length ds) with
      | none => rw [q] at h3; cases h3
      | some fl =>
        rw [q] at h3
        simp only [Option.bind_some] at h3
        refine ⟨ok, H, _, _, fl, start_fr h1 h2, q, fun ρ' e σ' H' E' F' v => ?_, fun d own e v H' ev r' => ?_⟩
        · subst e
          cases h3
          exact h4 .non H' (fun a o q => v.r.keep a o q fun ⟨_, _, z, _⟩ => z) (.im .non rfl)
        · subst e
          simp only at h3
          split at h3
          · cases h3
          · rename_i hn
            cases h3
            refine h4 v H' (fun a o q => ev.keep a o q fun ⟨_, _, z, _⟩ => z) ⟨r'.1, fun hfr hm => r'.2 ?_ hm⟩
            cases own with
            | true => rfl
            | false => exact absurd ⟨hfr, hm, rfl⟩ hn
    · cases h3
theorem dn_mk {x : Str} {st : Stmt} {f : Addr} {fd : FuncData} {N ps : List Str} {k : Nat} {g : GS} {fr : Bool} (F : L2.Fun K x x st f fd) (S : FnScope N ps (defScope st)) (hm : mg x = some (.ref f)) (hbd : Binds K fd ps [])
    (hb : ∀ (cdv : Value) (A : Around) (outer : List PySem.Env) (s : Shared) (H : Hp) (E : XK), Room k (A.deeper (envOfC x (defScope st) s.heap.objs.size f cdv)) →
      PBI (cxOf CX0 P w K mg base N x (defScope st) f cdv A outer s H E).nox (defBody st) g) : Dn P w K mg base (k + 1) x (mkF ps.length N.length fr g) fr :=
  ⟨f, fd, ps, fn_ok F S hb, hm, F.kp, hbd⟩
end
end PM

set_option Elab.async false
set_option linter.all false
set_option maxRecDepth 100000
set_option maxHeartbeats 8000000
/-! PM: sets of ints: sorted(set(..)), len(set(..)). -/
namespace PM
open PySem PySem.Spec PyProof.Rows L2

section
variable {P : Program} {w : World} {A : Around} {E : Value → Shared → Prop} {s : Shared}
/-- the object that set.__new__ lays -/
abbrev emptySet (w : World) : Obj := { cls := .type "set", dict := none, data := .set #[] 0 (.fresh 0 0 (!w.params.followText "set-order")) }
/-- set(xs), xs a list of ints, told so that it can be sorted -/
theorem call_setL {l : Addr} {vs : Array Value} (ns : List Int) {Q : Value → Shared → Prop} (hh : A.handled = none) (hl : s.heap.IsList l vs) (hi : IntsAre vs.toList ns) (hb : ns.length + 1 < scanBound)
    (h : ∀ (h' : Heap) (tk c : Nat), SetR w h' s.heap.objs.size (fun j => decide (j ∈ ns)) c → c ≤ ns.length → (∀ b o, s.heap.get? b = some o → h'.get? b = some o) → Q (.ref s.heap.objs.size) { s with heap := h', toks := tk }) :
    wpAny (model P w) A (call (.type "set") [.ref l]) Q E s := by
  have sz : vs.size = ns.length := by have q := hi.length; simpa using q
  obtain ⟨m1, m2, hmro⟩ := F.called_set.mro
  have g1 := F.called_set.made
  have g2 := F.called_set.sub
  have g3 := F.called_set.notType
  have g4 := F.called_set.canCreate
  have g5 := F.typeCall_set_1 (.ref l)
  refine wpAny_call (codeAny_of_tree ?_)
  show wpAny _ _ (callAny (.type "set") _) _ _ _
  refine wpAny_pure ⟨Code.quiet_builtin _ (by decide +kernel), codeAny_builtin F.entry_type_call ?_⟩
  rw [Around.under_plain (weight_type_call_type "set" [.ref l] []) rfl]
  repeat (any_goals (first | assumption | wp_step))
  refine codeAny_mono (code_set_led1 (.ref l) (E := E) (Q₁ := fun x s1 => x = .ref s.heap.objs.size ∧ s1 = { s with heap := s.heap.push (emptySet w) }) ⟨rfl, rfl⟩) fun r s1 hr => ?_
  rcases r with er | fl
  · exact hr
  cases fl with
  | ret x =>
    obtain ⟨rfl, rfl⟩ := hr
    have oS : (s.heap.push (emptySet w)).get? s.heap.objs.size = some (emptySet w) := Heap.get?_push_size _ rfl
    have tS : Shared.TypeIs { s with heap := s.heap.push (emptySet w) } (.ref s.heap.objs.size) "set" := ⟨_, oS, rfl⟩
    have j1 := F.called_set.init.lookup
    have j2 := F.called_set.init.bind (.ref s.heap.objs.size)
    repeat (any_goals (first | assumption | wp_step))
    refine codeAny_mono (codeAny_call_builtin (R := wants (fun r s2 => r = .none ∧ ∃ h' tk c, s2 = { s with heap := h', toks := tk } ∧ SetR w h' s.heap.objs.size (fun j => decide (j ∈ ns)) c ∧ c ≤ ns.length ∧ (∀ b o, s.heap.get? b = some o → h'.get? b = some o)) E) F.called_set.init.plain F.entry_set_init (check_set_init_1 tS ?_)) fun r2 s2 hr2 => ?_
    · have lt : l < s.heap.objs.size := by obtain ⟨o, e, _⟩ := hl; exact Heap.lt_size e
      obtain ⟨⟨oc, od, odt, osl⟩, ol, c1, nl, c2⟩ := hl
      simp only at c1 c2
      subst c1 c2
      have ol' : (s.heap.push (emptySet w)).get? l = some { cls := .type "list", dict := od, data := .seq vs nl, slots := osl } := Heap.get?_push_of_some _ ol
      have l1 : (s.heap.push (emptySet w)).IsList l vs := ⟨_, ol', rfl, nl, rfl⟩
      have k1 := F.sub_list_set
      have k2 := F.sub_list_frozenset
      have k3 : (Value.type "list" == Value.type "dict") = false := by decide
      unfold Builtin.«set.__init__» noKeywords Builtin.Frozenset.updateFrom
      generalize hIt : pyIter = It
      wp_walk
      subst hIt
      refine wpAny_pyIter_list l1 (wpAny_bind (wpAny_runValue ?_))
      have h3 : A.in1.in1.in1.handled = none := by simp [hh]
      have z1 : (s.heap.push (emptySet w)).objs.size = s.heap.objs.size + 1 := Heap.size_push ..
      have lI : l ≠ (s.heap.push (emptySet w)).objs.size := fun e => by rw [z1] at e; have := lt; rw [e] at this; exact absurd this (by simp [Nat.not_lt])
      have nS : s.heap.objs.size ∉ [(s.heap.push (emptySet w)).objs.size, l] := fun e => by
        rw [z1] at e
        rcases List.mem_cons.mp e with e | e
        · exact absurd e (Nat.ne_of_lt (Nat.lt_succ_self _))
        · exact absurd (List.mem_singleton.mp e) (Nat.ne_of_gt lt)
      refine set_update_ints ((Walks.list h3 _ l lI vs).toS) s.heap.objs.size nS ns sz hb (fun i v hv => ?_) (vs.size - 0) 0 _ (by omega) (Nat.zero_le _) ⟨⟨_, Heap.get?_push_size _ rfl, rfl, rfl⟩, l1.push _⟩ ⟨0, Nat.le_refl 0, setR_new_at (Heap.get?_push_of_some _ oS)⟩ fun s3 c mv cl R => ?_
      · have ilt : i < ns.length := by rw [← sz]; exact (Array.getElem?_eq_some_iff.mp hv).1
        obtain ⟨t, e⟩ := IntsAre.int_at hi i v (by rw [Array.getElem?_toList]; exact hv)
        rw [List.getD_eq_getElem?_getD, List.getElem?_eq_getElem ilt] at e
        exact ⟨ns[i], t, List.getElem?_eq_getElem ilt, e⟩
      · obtain ⟨h', g', d', tk', os'⟩ := s3
        obtain rfl : g' = s.gens := mv.gens
        obtain rfl : d' = s.drawn := mv.drawn
        obtain rfl : os' = s.os := mv.os
        show wpAny _ _ _ _ _ _
        refine wpAny_pure ?_
        show wpAny _ _ (ret Value.none) _ _ _
        refine wpAny_pure ⟨rfl, h', tk', c, rfl, R, by rw [← sz]; exact cl, fun b o e => ?_⟩
        have blt := Heap.lt_size e
        refine mv.heap b o (fun q => ?_) (Heap.get?_push_of_some _ (Heap.get?_push_of_some _ e))
        rcases List.mem_cons.mp q with q | q
        · exact absurd q (Nat.ne_of_lt blt)
        · rw [List.mem_singleton.mp q, z1] at blt
          exact absurd blt (by simp [Nat.not_lt])
    · rcases r2 with er | fl2
      · exact hr2
      cases fl2 with
      | ret x =>
        obtain ⟨rfl, h', tk, c, rfl, R, cl, kp⟩ := hr2
        repeat (any_goals (first | assumption | wp_step))
        exact h _ _ _ R cl kp
      | _ => exact hr2.elim
  | _ => exact hr.elim
end
section
variable {X : Cx}
def rSetI (K : PySem.W.Frag) (w : World) : List V → Hp → VK → Prop := fun xs H Q => ∃ (l : Addr) (ns : List Int), xs = [V.ref l] ∧ (SqL K H l (ns.map V.int) ∨ SqT K H l (ns.map V.int)) ∧ ns.length < 4000 ∧ ∀ p c, H p = none → c ≤ ns.length → Q (.ref p) (upd H p (SetO w p (fun j => decide (j ∈ ns)) c))
theorem cr_setI (hc : X.calm = true) : CallR X (.type "set") (rSetI X.K X.w) := by
  intro pins s σ H vs us Q I r h
  obtain ⟨l, ns, rfl, hl, hz, q⟩ := h
  rw [Vals.ref1 r]
  have hn : H s.heap.objs.size = none := I.hok.fresh (Nat.le_refl _)
  have fin : ∀ (h' : Heap) (tk c : Nat), SetR X.w h' s.heap.objs.size (fun j => decide (j ∈ ns)) c → c ≤ ns.length → (∀ b o, s.heap.get? b = some o → h'.get? b = some o) → EP X pins σ Q (.ref s.heap.objs.size) { s with heap := h', toks := tk } := fun h' tk c R cl k =>
    ⟨.ref s.heap.objs.size, upd H s.heap.objs.size (SetO X.w s.heap.objs.size (fun j => decide (j ∈ ns)) c), I.laid (t' := tk) k (Nat.le_refl _) (setO_new R), rfl, q _ c hn cl⟩
  rcases hl with hl | hl
  · obtain ⟨its, rv, pl, _⟩ := I.list hl
    exact call_setL ns (I.ok.hd hc) pl.isList (by simpa using rv.ints) (by unfold scanBound; omega) fin
  · obtain ⟨its, rv, pl, _⟩ := I.tuple hl
    exact call_set_tupI ns (I.ok.hd hc) pl (by simpa using rv.ints) (by unfold scanBound; omega) fun h' tk c R cl k => fin h' tk c R cl k
def rLenSet (w : World) : List V → Hp → VK → Prop := fun vs H Q => ∃ (a : Addr) (S : Int → Bool) (n : Nat), vs = [V.ref a] ∧ H a = some (SetO w a S n) ∧ n < 4000 ∧ ∀ ks : List Int, ks.Nodup → (∀ k : Int, k ∈ ks ↔ S k = true) → ks.length = n → Q (.int (n : Nat)) H
theorem cr_lenSet : CallR X (.builtin "len") (rLenSet X.w) := by
  intro pins s σ H vs us Q I r h
  obtain ⟨a, S, n, rfl, ha, hz, q⟩ := h
  rw [Vals.ref1 r]
  obtain ⟨o, es, ep, t, ho, hex, hd, hg, nd, hm, _, hf, hn, _⟩ := setO_get I ha
  refine call_len_set ho hex hd hf (by omega) ⟨.int n, H, I.tok _, ⟨_, by rw [hn]⟩, q (es.toList.map keyOf) nd (fun k => (hm k).symm) (by simpa using hn)⟩
end

/-! ### ascending, each once -/
def insU (x : Int) : List Int → List Int
  | [] => [x]
  | y :: l => if x < y then x :: y :: l else if x = y then y :: l else y :: insU x l
def usort : List Int → List Int
  | [] => []
  | x :: l => insU x (usort l)
theorem insU_mem {x z : Int} : ∀ {l : List Int}, z ∈ insU x l ↔ z = x ∨ z ∈ l
  | [] => by simp [insU]
  | y :: l => by
    unfold insU
    split
    · simp
    · split
      · rename_i h; subst h; simp
      · simp only [List.mem_cons, insU_mem (l := l)]
        constructor
        · rintro (h | h | h)
          · exact .inr (.inl h)
          · exact .inl h
          · exact .inr (.inr h)
        · rintro (h | h | h)
          · exact .inr (.inl h)
          · exact .inl h
          · exact .inr (.inr h)
theorem insU_pw {x : Int} : ∀ {l : List Int}, l.Pairwise (· < ·) → (insU x l).Pairwise (· < ·)
  | [], _ => by simp [insU]
  | y :: l, h => by
    have h' := List.pairwise_cons.mp h
    unfold insU
    split
    · rename_i hx
      refine List.pairwise_cons.mpr ⟨fun z hz => ?_, h⟩
      rcases List.mem_cons.mp hz with rfl | hz
      · exact hx
      · exact Int.lt_trans hx (h'.1 z hz)
    · split
      · exact h
      · rename_i h1 h2
        refine List.pairwise_cons.mpr ⟨fun z hz => ?_, insU_pw h'.2⟩
        rcases insU_mem.mp hz with rfl | hz
        · omega
        · exact h'.1 z hz
theorem usort_mem {z : Int} : ∀ {l : List Int}, z ∈ usort l ↔ z ∈ l
  | [] => by simp [usort]
  | x :: l => by rw [usort, insU_mem, usort_mem (l := l), List.mem_cons]
theorem usort_pw : ∀ (l : List Int), (usort l).Pairwise (· < ·)
  | [] => .nil
  | x :: l => insU_pw (usort_pw l)
theorem pw_uniq : ∀ {l m : List Int}, l.Pairwise (· < ·) → m.Pairwise (· < ·) → (∀ z, z ∈ l ↔ z ∈ m) → l = m
  | [], [], _, _, _ => rfl
  | [], y :: m, _, _, h => by have := (h y).mpr List.mem_cons_self; cases this
  | x :: l, [], _, _, h => by have := (h x).mp List.mem_cons_self; cases this
  | x :: l, y :: m, hl, hm, h => by
    have hl' := List.pairwise_cons.mp hl
    have hm' := List.pairwise_cons.mp hm
    have e : x = y := by
      rcases List.mem_cons.mp ((h x).mp List.mem_cons_self) with q | q
      · exact q
      · rcases List.mem_cons.mp ((h y).mpr List.mem_cons_self) with q2 | q2
        · exact q2.symm
        · have a := hl'.1 y q2
          have b := hm'.1 x q
          omega
    subst e
    rw [pw_uniq hl'.2 hm'.2 fun z => ?_]
    constructor
    · intro hz
      rcases List.mem_cons.mp ((h z).mp (List.mem_cons_of_mem _ hz)) with q | q
      · subst q; exact absurd (hl'.1 z hz) (Int.lt_irrefl _)
      · exact q
    · intro hz
      rcases List.mem_cons.mp ((h z).mpr (List.mem_cons_of_mem _ hz)) with q | q
      · subst q; exact absurd (hm'.1 z hz) (Int.lt_irrefl _)
      · exact q
theorem pw_nodup {l : List Int} (h : l.Pairwise (· < ·)) : l.Nodup := h.imp fun {a b} q e => by omega
theorem nodup_len {l m : List Int} (h : l.Nodup) (s : ∀ z ∈ l, z ∈ m) : l.length ≤ m.length := by
  induction l generalizing m with
  | nil => simp
  | cons x l ih =>
    have hx := List.nodup_cons.mp h
    have hm := s x (List.mem_cons_self ..)
    have h2 := ih (m := m.erase x) hx.2 (fun z hz => (List.mem_erase_of_ne (fun (e : z = x) => hx.1 (e ▸ hz))).mpr (s z (List.mem_cons_of_mem _ hz)))
    have h3 := List.length_erase_of_mem hm
    have h4 := List.length_pos_of_mem hm
    simp only [List.length_cons]
    omega
def seqOf : PyData → Option (List PyData)
  | .list ds => some ds
  | .tuple ds => some ds
  | _ => none
def sortSetD (d : PyData) : Option PyData := (seqOf d).bind fun ds => (intsOf ds).bind fun ns => if ns.length < 64 then some (.list ((usort ns).map .int)) else none
def lenSetD (d : PyData) : Option PyData := (seqOf d).bind fun ds => (intsOf ds).bind fun ns => if ns.length < 4000 then some (.int ((usort ns).length : Nat)) else none
theorem seq_rp {K : PySem.W.Frag} {H : Hp} {ok : Addr → Prop} {v : V} {d : PyData} {ds : List PyData} {ns : List Int} (r : RpB K H ok v d) (h : seqOf d = some ds) (hi : intsOf ds = some ns) : ∃ a, v = .ref a ∧ (SqL K H a (ns.map V.int) ∨ SqT K H a (ns.map V.int)) := by
  have e := intsOf_some hi
  subst e
  unfold seqOf at h
  split at h
  · cases h
    obtain ⟨a, xs, rfl, ha, ra⟩ := r.list
    have := ra.ints; subst this
    exact ⟨a, rfl, .inl (SqL.of ha)⟩
  · cases h
    obtain ⟨a, xs, rfl, ha, ra⟩ := r.tuple
    have := ra.ints; subst this
    exact ⟨a, rfl, .inr (SqT.of ha)⟩
  · cases h
section
variable {X : Cx} {a : Expr} {pos p p2 p3 : Pos} {f : FE} {esc : List Nat}
theorem set_pe (hc : X.calm = true) (hg : Gl X "set") (hm : X.mg "set" = none) (ha : PEB X a f esc) (hs : starEach [a] X.env = (false, eval a X.env) :: starEach [] X.env := by rfl) (hpl : (backTo pos (starEach [] X.env)).any (·.1) = false := by rfl) :
    PE X (.Call (.Name "set" p) [a] [] pos) (tCB (rSetI X.K X.w) (fun σ H Q => tB X.K f esc σ H fun x H' => Q [x] H')) :=
  pe_callTy (cr_setI hc) hg hm PyProof.Rows.boot_set (ab_one ha hs) (by decide) (by decide) hs hpl
theorem ei_sortSet {k : Nat} (hr : Room k X.A) (hc : X.calm = true) (hg : Gl X "sorted") (hm : X.mg "sorted" = none) (hg2 : Gl X "set") (hm2 : X.mg "set" = none) (ha : PEB X a f esc)
    (hs : starEach [a] X.env = (false, eval a X.env) :: starEach [] X.env := by rfl) (hpl : (backTo p3 (starEach [] X.env)).any (·.1) = false := by rfl)
    (hs2 : starEach [.Call (.Name "set" p2) [a] [] p3] X.env = (false, eval (.Call (.Name "set" p2) [a] [] p3) X.env) :: starEach [] X.env := by rfl) (hpl2 : (backTo pos (starEach [] X.env)).any (·.1) = false := by rfl) :
    PEI X (.Call (.Name "sorted" p) [.Call (.Name "set" p2) [a] [] p3] [] pos) (bind1 f sortSetD) [] true :=
  pe_imp (pe_callB (cr_sortedSet hc) hg hm (by decide +kernel) (pa_cons (set_pe hc hg2 hm2 ha hs hpl) pa_nil hs2) (by decide) (by decide) hs2 hpl2) fun σ H Q ⟨ok, δ, d, h1, h2, h3, h4⟩ => by
    unfold bind1 at h3
    cases q1 : f δ with
    | none => rw [q1] at h3; cases h3
    | some dx =>
      rw [q1] at h3
      have h3' : (seqOf dx).bind (fun ds => (intsOf ds).bind fun ns => if ns.length < 64 then some (PyData.list ((usort ns).map .int)) else none) = some d := h3
      cases q2 : seqOf dx with
      | none => rw [q2] at h3'; cases h3'
      | some ds =>
        rw [q2] at h3'
        cases q3 : intsOf ds with
        | none => rw [Option.bind_some, q3] at h3'; cases h3'
        | some ns =>
          rw [Option.bind_some, q3, Option.bind_some] at h3'
          split at h3'
          · rename_i hz
            cases h3'
            refine ⟨fun _ => True, δ, dx, fun _ _ => trivial, h2.tru _, q1, fun x H1 e1 r1 => ?_⟩
            obtain ⟨b, rfl, hb⟩ := seq_rp r1 q2 q3
            refine ⟨b, ns, rfl, hb, by omega, fun p c hp hcl => ?_⟩
            have e2 := e1.trans (upd_ext (o := SetO X.w p (fun j => decide (j ∈ ns)) c) hp)
            refine ⟨p, _, c, rfl, upd_same, by omega, fun ms q hpw hms _ hq => ?_⟩
            have em : ms = usort ns := pw_uniq hpw (usort_pw ns) fun z => by rw [hms, usort_mem, decide_eq_true_eq]
            subst em
            obtain ⟨w1, w2⟩ := fresh_lst hq (h1.ext e2) (RpL.of_ints (K := X.K) (usort ns))
            exact h4 _ _ (e2.trans (upd_ext hq)) ⟨w1, fun z z' => let ⟨a, y1, y2, y3⟩ := w2 rfl rfl; ⟨a, y1, e2.free y2, y3⟩⟩
          · cases h3'
theorem ei_lenSet (hc : X.calm = true) (hg : Gl X "len") (hm : X.mg "len" = none) (hg2 : Gl X "set") (hm2 : X.mg "set" = none) (ha : PEB X a f esc)
    (hs : starEach [a] X.env = (false, eval a X.env) :: starEach [] X.env := by rfl) (hpl : (backTo p3 (starEach [] X.env)).any (·.1) = false := by rfl)
    (hs2 : starEach [.Call (.Name "set" p2) [a] [] p3] X.env = (false, eval (.Call (.Name "set" p2) [a] [] p3) X.env) :: starEach [] X.env := by rfl) (hpl2 : (backTo pos (starEach [] X.env)).any (·.1) = false := by rfl) :
    PEI X (.Call (.Name "len" p) [.Call (.Name "set" p2) [a] [] p3] [] pos) (bind1 f lenSetD) [] true :=
  pe_imp (pe_callB cr_lenSet hg hm PySem.boot_len (pa_cons (set_pe hc hg2 hm2 ha hs hpl) pa_nil hs2) (by decide) (by decide) hs2 hpl2) fun σ H Q ⟨ok, δ, d, h1, h2, h3, h4⟩ => by
    unfold bind1 at h3
    cases q1 : f δ with
    | none => rw [q1] at h3; cases h3
    | some dx =>
      rw [q1] at h3
      have h3' : (seqOf dx).bind (fun ds => (intsOf ds).bind fun ns => if ns.length < 4000 then some (PyData.int ((usort ns).length : Nat)) else none) = some d := h3
      cases q2 : seqOf dx with
      | none => rw [q2] at h3'; cases h3'
      | some ds =>
        rw [q2] at h3'
        cases q3 : intsOf ds with
        | none => rw [Option.bind_some, q3] at h3'; cases h3'
        | some ns =>
          rw [Option.bind_some, q3, Option.bind_some] at h3'
          split at h3'
          · rename_i hz
            cases h3'
            refine ⟨fun _ => True, δ, dx, fun _ _ => trivial, h2.tru _, q1, fun x H1 e1 r1 => ?_⟩
            obtain ⟨b, rfl, hb⟩ := seq_rp r1 q2 q3
            refine ⟨b, ns, rfl, hb, hz, fun p c hp hcl => ?_⟩
            have e2 := e1.trans (upd_ext (o := SetO X.w p (fun j => decide (j ∈ ns)) c) hp)
            refine ⟨p, _, c, rfl, upd_same, by omega, fun ks nd hks hl => ?_⟩
            have ec : c = (usort ns).length := by
              rw [← hl]
              refine Nat.le_antisymm (nodup_len nd fun z hz => ?_) (nodup_len (pw_nodup (usort_pw ns)) fun z hz => ?_)
              · rw [usort_mem]; simpa using (hks z).mp hz
              · rw [hks]; simpa using usort_mem.mp hz
            subst ec
            exact h4 _ _ e2 (.im (.int _) rfl)
          · cases h3'
end
theorem hu200 {A : Around} {k : Nat} (hr : Room k A) : A.units + 200 < cLine := by have := hr.un; omega
theorem scr_of {K : PySem.W.Frag} {H : Hp} {a : Addr} {xs : List V} (o : Only H) (h : SqL K H a xs) : ScrL K H a xs := by
  rcases h with (h | h) | h
  · rcases o a with z | ⟨ob, ys, z⟩
    · rw [h] at z; cases z
    · rw [h] at z; cases z
  · exact .inl h
  · exact .inr h
end PM

set_option Elab.async false
set_option linter.all false
set_option maxRecDepth 100000
set_option maxHeartbeats 4000000
/-! PM: dicts. The data of a dict begin with a mark: whether its keys are tuples. -/
namespace PM
open PySem PySem.Spec PyProof.Rows L2

abbrev KK := Key ⊕ List Key
def toK : PyData → Option Key
  | .int i => some (.inl i)
  | .str x => some (.inr x)
  | _ => none
def toKs : List PyData → Option (List Key)
  | [] => some []
  | d :: ds => (toK d).bind fun k => (toKs ds).map (k :: ·)
def toKK : PyData → Option KK
  | .int i => some (.inl (.inl i))
  | .str x => some (.inl (.inr x))
  | .tuple ds => (toKs ds).map .inr
  | _ => none
theorem toK_keyD (k : Key) : toK (keyD k) = some k := by cases k <;> rfl
theorem toKK_keyD (k : Key) : toKK (keyD k) = some (.inl k) := by cases k <;> rfl
theorem toKs_map : ∀ l : List Key, toKs (l.map keyD) = some l
  | [] => rfl
  | k :: l => by rw [List.map_cons, toKs, toK_keyD, toKs_map l]; rfl
theorem toKK_tup (l : List Key) : toKK (.tuple (l.map keyD)) = some (.inr l) := by rw [toKK, toKs_map]; rfl
theorem toK_some {d : PyData} {k : Key} (h : toK d = some k) : d = keyD k := by
  cases d <;> first | cases h; rfl | cases h
theorem toKs_some : ∀ {ds : List PyData} {l : List Key}, toKs ds = some l → ds = l.map keyD
  | [], l, h => by cases h; rfl
  | d :: ds, l, h => by
    rw [toKs] at h
    cases q : toK d with
    | none => rw [q] at h; cases h
    | some k =>
      rw [q] at h
      have h' : (toKs ds).map (k :: ·) = some l := h
      cases q2 : toKs ds with
      | none => rw [q2] at h'; cases h'
      | some l' =>
        rw [q2] at h'
        cases h'
        rw [toK_some q, toKs_some q2]
        rfl
abbrev DPs := List (PyData × PyData)
def getP (kvs : DPs) (k : KK) : Option PyData := (kvs.find? fun p => decide (toKK p.1 = some k)).map (·.2)
def putP (kvs : DPs) (kd : PyData) (k : KK) (v : PyData) : DPs :=
  if (kvs.any fun p => decide (toKK p.1 = some k)) = true then kvs.map (fun p => if toKK p.1 = some k then (p.1, v) else p) else kvs ++ [(kd, v)]
/-- a dict's pairs, and the key, of its kind -/
def dk : PyData → PyData → Option (DPs × KK)
  | .dict ((.bool false, .none) :: kvs), k => (toK k).map fun x => (kvs, .inl x)
  | .dict ((.bool true, .none) :: kvs), .tuple ds => (toKs ds).map fun x => (kvs, .inr x)
  | _, _ => none
def prs : PyData → Option DPs
  | .dict ((.bool false, .none) :: kvs) => some kvs
  | .dict ((.bool true, .none) :: kvs) => some kvs
  | _ => none
def mkd : PyData → DPs → PyData
  | .dict (m :: _), kvs => .dict (m :: kvs)
  | d, _ => d
section
variable {K : PySem.W.Frag} {H H' : Hp} {ok : Addr → Prop} {κ : Type} [DecidableEq κ] {enc : κ → PyData} {inj : κ → KK}
theorem key_iff (he : ∀ k, toKK (enc k) = some (inj k)) (hi : ∀ a b, inj a = inj b → a = b) (a b : κ) : toKK (enc a) = some (inj b) ↔ a = b := by
  rw [he]
  constructor
  · intro e; exact hi _ _ (by injection e)
  · intro e; rw [e]
theorem get_zip (he : ∀ k, toKK (enc k) = some (inj k)) (hi : ∀ a b, inj a = inj b → a = b) (k : κ) : ∀ {kvs : List (κ × V)} {vs : List PyData}, RpL K H ok (kvs.map (·.2)) vs →
    (valV kvs k = none ∧ getP ((kvs.map fun p => enc p.1).zip vs) (inj k) = none) ∨ ∃ v d, valV kvs k = some v ∧ getP ((kvs.map fun p => enc p.1).zip vs) (inj k) = some d ∧ Rp K H ok v d
  | [], _, .nil => .inl ⟨rfl, rfl⟩
  | p :: kvs, d :: vs, .cons h t => by
    have hk := key_iff (enc := enc) he hi p.1 k
    by_cases e : p.1 = k
    · refine .inr ⟨p.2, d, valV_pos e, ?_, h⟩
      rw [List.map_cons, List.zip_cons_cons]
      unfold getP
      rw [List.find?_cons_of_pos (by simpa using hk.mpr e)]
      rfl
    · have g := get_zip he hi k t
      rw [valV_neg e]
      have e2 : getP ((enc p.1, d) :: (kvs.map fun p => enc p.1).zip vs) (inj k) = getP ((kvs.map fun p => enc p.1).zip vs) (inj k) := by
        unfold getP
        rw [List.find?_cons_of_neg (by simpa using fun z => e (hk.mp z))]
      rw [List.map_cons, List.zip_cons_cons, e2]
      exact g
theorem any_zip (he : ∀ k, toKK (enc k) = some (inj k)) (hi : ∀ a b, inj a = inj b → a = b) (k : κ) : ∀ {kvs : List (κ × V)} {vs : List PyData}, RpL K H ok (kvs.map (·.2)) vs →
    (((kvs.map fun p => enc p.1).zip vs).any fun p => decide (toKK p.1 = some (inj k))) = (kvs.any fun kv => decide (kv.1 = k))
  | [], _, .nil => rfl
  | p :: kvs, d :: vs, .cons h t => by
    have hk := key_iff (enc := enc) he hi p.1 k
    rw [List.map_cons, List.zip_cons_cons, List.any_cons, List.any_cons, any_zip he hi k t]
    congr 1
    exact decide_eq_decide.mpr hk
theorem repl_zip (he : ∀ k, toKK (enc k) = some (inj k)) (hi : ∀ a b, inj a = inj b → a = b) (k : κ) {y : V} {z : PyData} (r : Rp K H ok y z) : ∀ {kvs : List (κ × V)} {vs : List PyData}, RpL K H ok (kvs.map (·.2)) vs →
    ∃ vs', RpL K H ok ((kvs.map fun kv => if kv.1 = k then (kv.1, y) else kv).map (·.2)) vs' ∧ ((kvs.map fun p => enc p.1).zip vs).map (fun p => if toKK p.1 = some (inj k) then (p.1, z) else p) = ((kvs.map fun kv => if kv.1 = k then (kv.1, y) else kv).map fun p => enc p.1).zip vs'
  | [], _, .nil => ⟨[], .nil, rfl⟩
  | p :: kvs, d :: vs, .cons h t => by
    obtain ⟨vs', h1, h2⟩ := repl_zip he hi k r t
    have hk := key_iff (enc := enc) he hi p.1 k
    by_cases e : p.1 = k
    · refine ⟨z :: vs', ?_, ?_⟩
      · rw [List.map_cons, List.map_cons, if_pos e]; exact .cons r h1
      · rw [List.map_cons, List.zip_cons_cons, List.map_cons, h2, List.map_cons, List.map_cons, if_pos e, if_pos (hk.mpr e), List.zip_cons_cons]
    · refine ⟨d :: vs', ?_, ?_⟩
      · rw [List.map_cons, List.map_cons, if_neg e]; exact .cons h h1
      · rw [List.map_cons, List.zip_cons_cons, List.map_cons, h2, List.map_cons, List.map_cons, if_neg e, if_neg (fun q => e (hk.mp q)), List.zip_cons_cons]
theorem put_zip (he : ∀ k, toKK (enc k) = some (inj k)) (hi : ∀ a b, inj a = inj b → a = b) (k : κ) {y : V} {z : PyData} (r : Rp K H ok y z) {kvs : List (κ × V)} {vs : List PyData} (t : RpL K H ok (kvs.map (·.2)) vs) :
    ∃ vs', RpL K H ok ((putK kvs k y).map (·.2)) vs' ∧ putP ((kvs.map fun p => enc p.1).zip vs) (enc k) (inj k) z = ((putK kvs k y).map fun p => enc p.1).zip vs' := by
  unfold putP putK
  rw [any_zip he hi k t]
  by_cases e : (kvs.any fun kv => decide (kv.1 = k)) = true
  · rw [if_pos e, if_pos e]
    exact repl_zip he hi k r t
  · rw [if_neg e, if_neg e]
    refine ⟨vs ++ [z], ?_, ?_⟩
    · rw [List.map_append]; exact t.append (.one r)
    · rw [List.map_append, List.zip_append (by rw [List.length_map, ← t.length, List.length_map])]
      rfl
theorem RpB.dctK {v : V} {kvs : DPs} (h : RpB K H ok v (.dict ((.bool false, .none) :: kvs))) : ∃ (a : Addr) (ks : List (Key × V)) (vs : List PyData), v = .ref a ∧ Rd H a (.dK ks) ∧ RpL K H ok (ks.map (·.2)) vs ∧ kvs = (ks.map fun p => keyD p.1).zip vs := by
  cases h with
  | of h => cases h with | dK h1 h2 h3 => exact ⟨_, _, _, rfl, h2, h3, rfl⟩
  | sh h => cases h with | dK h1 h2 => exact ⟨_, _, _, rfl, .inl h1, h2, rfl⟩
theorem RpB.dctT {v : V} {kvs : DPs} (h : RpB K H ok v (.dict ((.bool true, .none) :: kvs))) : ∃ (a : Addr) (ks : List (List Key × V)) (vs : List PyData), v = .ref a ∧ Rd H a (.dT ks) ∧ RpL K H ok (ks.map (·.2)) vs ∧ kvs = (ks.map fun p => PyData.tuple (p.1.map keyD)).zip vs := by
  cases h with
  | of h => cases h with | dT h1 h2 h3 => exact ⟨_, _, _, rfl, h2, h3, rfl⟩
  | sh h => cases h with | dT h1 h2 => exact ⟨_, _, _, rfl, .inl h1, h2, rfl⟩
theorem RpB.keyK {v : V} {k : Key} (h : RpB K H ok v (keyD k)) : v = kV k := by
  cases k with
  | inl i => exact h.int
  | inr x => exact h.str
theorem RpL.keys : ∀ {vs : List V} {l : List Key}, RpL K H ok vs (l.map keyD) → vs = l.map kV
  | _, [], h => by cases h; rfl
  | _, k :: l, h => by
    cases h with
    | cons h t => rw [(RpB.of h).keyK, RpL.keys t]; rfl
theorem RpB.keyT {v : V} {l : List Key} (h : RpB K H ok v (.tuple (l.map keyD))) : ∃ b, v = .ref b ∧ H b = some (.tup (l.map kV)) := by
  obtain ⟨a, xs, rfl, h1, h2⟩ := h.tuple
  exact ⟨a, rfl, by rw [h1, h2.keys]⟩
theorem inl_inj (a b : Key) (e : (Sum.inl a : KK) = .inl b) : a = b := by injection e
theorem inr_inj (a b : List Key) (e : (Sum.inr a : KK) = .inr b) : a = b := by injection e
/-- what stands under the key -/
theorem dget_ok {x y : V} {d k : PyData} {p : DPs × KK} (rx : RpB K H ok x d) (ry : RpB K H ok y k) (h : dk d k = some p) :
    ∃ a o, x = .ref a ∧ DGet H a y o ∧ ((o = none ∧ getP p.1 p.2 = none) ∨ ∃ v z, o = some v ∧ getP p.1 p.2 = some z ∧ Rp K H ok v z) := by
  unfold dk at h
  split at h
  · cases q : toK k with
    | none => rw [q] at h; cases h
    | some κ =>
      rw [q] at h
      cases h
      have ek := toK_some q
      subst ek
      obtain ⟨a, ks, vs, rfl, h1, h2, rfl⟩ := rx.dctK
      exact ⟨a, _, rfl, .inl ⟨ks, κ, h1, ry.keyK, rfl⟩, (get_zip toKK_keyD inl_inj κ h2)⟩
  · rename_i kvs ds
    cases q : toKs ds with
    | none => rw [q] at h; cases h
    | some l =>
      rw [q] at h
      cases h
      have ek := toKs_some q
      subst ek
      obtain ⟨a, ks, vs, rfl, h1, h2, rfl⟩ := rx.dctT
      obtain ⟨b, rfl, hb⟩ := ry.keyT
      exact ⟨a, _, rfl, .inr ⟨ks, l, b, h1, rfl, hb, rfl⟩, (get_zip (enc := fun l : List Key => PyData.tuple (l.map keyD)) toKK_tup inr_inj l h2)⟩
  · cases h
def dgetD (d k : PyData) : Option PyData := (dk d k).bind fun p => getP p.1 p.2
def dinD (k d : PyData) : Option PyData := (dk d k).map fun p => .bool (getP p.1 p.2).isSome
def dnotinD (k d : PyData) : Option PyData := (dk d k).map fun p => .bool (!(getP p.1 p.2).isSome)
theorem ad_dget : Op2 K (fun x y H Q => ∃ a v, x = .ref a ∧ DGet H a y (some v) ∧ Q v H) dgetD false := fun ok H x y dx dy d Q hf rx ry e h => by
  unfold dgetD at e
  cases q : dk dx dy with
  | none => rw [q] at e; cases e
  | some p =>
    rw [q] at e
    obtain ⟨a, o, rfl, g, (⟨rfl, w⟩ | ⟨v, z, rfl, w, r⟩)⟩ := dget_ok rx ry q
    · rw [Option.bind_some, w] at e; cases e
    · rw [Option.bind_some, w] at e
      cases e
      exact ⟨a, v, rfl, g, h v H (Same.refl H) (.no r)⟩
theorem ad_din : Op2 K (fun y x H Q => ∃ a o, x = .ref a ∧ DGet H a y o ∧ Q (.bl o.isSome) H) dinD true := fun ok H x y dx dy d Q hf rx ry e h => by
  unfold dinD at e
  cases q : dk dy dx with
  | none => rw [q] at e; cases e
  | some p =>
    rw [q] at e
    cases e
    obtain ⟨a, o, rfl, g, w⟩ := dget_ok ry rx q
    refine ⟨a, o, rfl, g, ?_⟩
    rcases w with ⟨rfl, w⟩ | ⟨v, z, rfl, w, r⟩
    · exact out_im (.bl _) rfl (by simp only [w] at h; exact h)
    · exact out_im (.bl _) rfl (by simp only [w] at h; exact h)
theorem ad_dnotin : Op2 K (fun y x H Q => ∃ a o, x = .ref a ∧ DGet H a y o ∧ Q (.bl (!o.isSome)) H) dnotinD true := fun ok H x y dx dy d Q hf rx ry e h => by
  unfold dnotinD at e
  cases q : dk dy dx with
  | none => rw [q] at e; cases e
  | some p =>
    rw [q] at e
    cases e
    obtain ⟨a, o, rfl, g, w⟩ := dget_ok ry rx q
    refine ⟨a, o, rfl, g, ?_⟩
    rcases w with ⟨rfl, w⟩ | ⟨v, z, rfl, w, r⟩
    · exact out_im (.bl _) rfl (by simp only [w] at h; exact h)
    · exact out_im (.bl _) rfl (by simp only [w] at h; exact h)
end
theorem hu1 {A : Around} {k : Nat} (hr : Room k A) : A.units + 1 < cLine := by have := hr.un; omega
section
variable {X : Cx} {e a b c : Expr} {es : List Expr} {pos p p2 : Pos} {f g k : FE} {fs : FA} {esc esc' esc'' : List Nat} {fr fr' : Bool}
theorem ei_dix (hu : X.A.units + 1 < cLine) (ha : PEB X a f esc) (hb : PEB X b g esc') (hs : NoSl b := by exact fun _ _ => rfl) : PEI X (.Subscript a b pos) (bind2 f g dgetD) (esc ++ esc') false :=
  pe_imp (pe_dget hu ha hb hs) (op2_t ad_dget)
theorem ei_din (hu : X.A.units + 1 < cLine) (ha : PEB X a f esc) (hb : PEB X b g esc') (hm : behindInMarks .In b = false) : PEI X (.Compare a [.In] [b] pos) (bind2 f g dinD) (esc ++ esc') true :=
  pe_imp (pe_cmp (pc_din hu ha hb) hm) (op2_t ad_din)
theorem ei_dnotin (hu : X.A.units + 1 < cLine) (ha : PEB X a f esc) (hb : PEB X b g esc') (hm : behindInMarks .NotIn b = false) : PEI X (.Compare a [.NotIn] [b] pos) (bind2 f g dnotinD) (esc ++ esc') true :=
  pe_imp (pe_cmp (pc_dnotin hu ha hb) hm) (op2_t ad_dnotin)
theorem ti_din (hu : X.A.units + 1 < cLine) (ha : PEB X a f esc) (hb : PEB X b g esc') (hm : behindInMarks .In b = false) : PTI X (.Compare a [.In] [b] pos) (tst (bind2 f g dinD)) :=
  ti_val (esc := esc ++ esc') (fr := true) (pt_imp (pt_cmp (pc_din hu ha hb) hm) fun σ H Q w => op2_t ad_din σ H _ w)
theorem ti_dnotin (hu : X.A.units + 1 < cLine) (ha : PEB X a f esc) (hb : PEB X b g esc') (hm : behindInMarks .NotIn b = false) : PTI X (.Compare a [.NotIn] [b] pos) (tst (bind2 f g dnotinD)) :=
  ti_val (esc := esc ++ esc') (fr := true) (pt_imp (pt_cmp (pc_dnotin hu ha hb) hm) fun σ H Q w => op2_t ad_dnotin σ H _ w)
/-- {} -/
theorem ei_dnewK : PEI X (.Dict [] [] pos) (kst (.dict [(.bool false, .none)])) [] true := pe_imp pe_dnewK fun σ H Q ⟨ok, δ, d, h1, h2, h3, h4⟩ p hp => by
  cases h3
  exact h4 _ _ (upd_ext hp) ⟨.dK (kvs := []) (vs := []) (h1 p hp) (.inl upd_same) .nil, fun _ _ => ⟨p, rfl, hp, .dK (kvs := []) (vs := []) upd_same .nil⟩⟩
theorem ei_dnewT : PEI X (.Dict [] [] pos) (kst (.dict [(.bool true, .none)])) [] true := pe_imp pe_dnewT fun σ H Q ⟨ok, δ, d, h1, h2, h3, h4⟩ p hp => by
  cases h3
  exact h4 _ _ (upd_ext hp) ⟨.dT (kvs := []) (vs := []) (h1 p hp) (.inl upd_same) .nil, fun _ _ => ⟨p, rfl, hp, .dT (kvs := []) (vs := []) upd_same .nil⟩⟩
end

/-! ### d[k] = v -/
section
variable {K : PySem.W.Frag} {okA : Addr → Prop} {H0 H H' : Hp} {E : Ex} {σ : Sg} {ρ : PEnv} {ok : Addr → Prop}
theorem dk_mk {d k : PyData} {p : DPs × KK} (h : dk d k = some p) : ∃ b, d = .dict ((.bool b, .none) :: p.1) := by
  unfold dk at h
  split at h
  · cases q : toK k with
    | none => rw [q] at h; cases h
    | some κ => rw [q] at h; cases h; exact ⟨_, rfl⟩
  · rename_i kvs ds
    cases q : toKs ds with
    | none => rw [q] at h; cases h
    | some l => rw [q] at h; cases h; exact ⟨_, rfl⟩
  · cases h
theorem RpL.updG {a : Addr} {o u : HO} {ys : List V} {ds : List PyData} (ha : H a = some u) (hu : ¬ Stab u) (n : ¬ ok a) (r : RpL K H ok ys ds) : RpL K (L2.upd H a o) ok ys ds := r.to (fun _ q _ => q) fun b w q z => by
  have nb : b ≠ a := fun e => by
    subst e
    rcases z with z | z
    · exact n z
    · rw [ha] at q; cases q; exact hu z
  rw [upd_ne nb]; exact q
theorem FR.owD (F : FR K okA H0 E σ H ρ) {i : Nat} {kvs : DPs} {b : Bool} (hi : ρ[i]? = some (some (.dict ((.bool b, .none) :: kvs), .ow))) : ∃ a, σ[i]? = some (some (.ref a)) ∧ E i a ∧ Shell K H (okF okA E) a (.dict ((.bool b, .none) :: kvs)) := by
  obtain ⟨v, s1, s2⟩ := F.slot i _ _ hi
  cases s2 with
  | ow e s => exact ⟨_, s1, e, s⟩
/-- the pair is put -/
theorem FR.putD (F : FR K okA H0 E σ H ρ) {i : Nat} {a : Addr} {b : Bool} {k z : PyData} {v y : V} {p : DPs × KK} (hi : ρ[i]? = some (some (.dict ((.bool b, .none) :: p.1), .ow))) (hs : σ[i]? = some (some (.ref a))) (ea : E i a) (sh : Shell K H (okF okA E) a (.dict ((.bool b, .none) :: p.1)))
    (hd : dk (.dict ((.bool b, .none) :: p.1)) k = some p) (ry : RpB K H (fun _ => True) y k) (rz : Rp K H (okF okA E) v z) (hl : p.1.length < LINE) :
    ∃ H2, DPut H a y v H2 ∧ FR K okA H0 E σ H2 (ρ.set i (some (.dict ((.bool b, .none) :: putP p.1 k p.2 z), .ow))) ∧ Ev E ρ H E (ρ.set i (some (.dict ((.bool b, .none) :: putP p.1 k p.2 z), .ow))) H2 := by
  have na : ¬ okF okA E a := fun q => q.2 i ea
  cases b with
  | false =>
    have hd' : (toK k).map (fun x => (p.1, (Sum.inl x : KK))) = some p := hd
    cases q : toK k with
    | none => rw [q] at hd'; cases hd'
    | some κ =>
      rw [q] at hd'
      have ek := toK_some q
      have e2 : p.2 = .inl κ := (congrArg Prod.snd (Option.some.inj hd')).symm
      rw [e2]
      subst ek
      generalize hkv : p.1 = kvs at *
      cases sh with
      | @dK ks vs h1 h2 =>
        obtain ⟨vs', w1, w2⟩ := put_zip (enc := keyD) (inj := Sum.inl) toKK_keyD inl_inj κ rz h2
        refine ⟨_, .inl ⟨ks, κ, h1, ry.keyK, line_lt ?_, rfl⟩, ?_⟩
        · rw [List.length_zip, List.length_map, ← h2.length, List.length_map, Nat.min_self] at hl; exact hl
        · rw [w2]
          exact ⟨F.mut hi hs ea (fun u q z => by rw [h1] at q; cases q; exact z) (.dK upd_same (RpL.updG h1 (fun z => z) na w1)), ev_mut hi ea (none_ne h1)⟩
  | true =>
    cases k with
    | tuple ds =>
      have hd' : (toKs ds).map (fun x => (p.1, (Sum.inr x : KK))) = some p := hd
      cases q : toKs ds with
      | none => rw [q] at hd'; cases hd'
      | some l =>
        rw [q] at hd'
        have ek := toKs_some q
        have e2 : p.2 = .inr l := (congrArg Prod.snd (Option.some.inj hd')).symm
        rw [e2]
        subst ek
        generalize hkv : p.1 = kvs at *
        cases sh with
        | @dT ks vs h1 h2 =>
          obtain ⟨vs', w1, w2⟩ := put_zip (enc := fun l : List Key => PyData.tuple (l.map keyD)) (inj := Sum.inr) toKK_tup inr_inj l rz h2
          obtain ⟨c, rfl, hc⟩ := ry.keyT
          refine ⟨_, .inr ⟨ks, l, c, h1, rfl, hc, line_lt ?_, rfl⟩, ?_⟩
          · rw [List.length_zip, List.length_map, ← h2.length, List.length_map, Nat.min_self] at hl; exact hl
          · rw [w2]
            exact ⟨F.mut hi hs ea (fun u q z => by rw [h1] at q; cases q; exact z) (.dT upd_same (RpL.updG h1 (fun z => z) na w1)), ev_mut hi ea (none_ne h1)⟩
    | _ => cases hd
/-- d[k] = e, the dict held by the i-th slot alone -/
def putS (i : Nat) (fk f : FE) (esc : List Nat) : GS := fun ρ => (f (dat ρ)).bind fun z =>
  match (if nn z = true then ρ else dropE esc ρ)[i]? with
  | some (some (d, .ow)) => (fk (dat ρ)).bind fun k => (dk d k).bind fun p => if p.1.length < LINE then some (.nx ((if nn z = true then ρ else dropE esc ρ).set i (some (mkd d (putP p.1 k p.2 z), .ow)))) else none
  | _ => none
end
section
variable {X : Cx} {st : Stmt} {sts rest : List Stmt} {tg e a b c o k : Expr} {es : List Expr} {pos p p2 apos cpos spos : Pos} {f f1 f2 fk : FE} {fs : FA} {g g1 g2 : GS} {esc esc' : List Nat} {fr fr' : Bool} {pt : FT} {i j : Nat} {T : Tg} {gt : TG}
theorem put_t : ∀ D σ H, tS X.K (putS i fk f esc) D σ H → sDPut (tVar i) (tB X.K fk esc') (tE X.K f esc fr) D σ H := fun D σ H ⟨okA, H0, E, ρ, fl, F, h1, h2, h3⟩ => by
  unfold putS at h1
  cases q : f (dat ρ) with
  | none => rw [q] at h1; cases h1
  | some z =>
    rw [q] at h1
    simp only [Option.bind_some] at h1
    have key : ∀ (E1 : Ex) (ρ1 : PEnv) (ok : Addr → Prop) (d kd : PyData) (p : DPs × KK), FR X.K okA H0 E1 σ H ρ1 → Ev E ρ H E1 ρ1 H → Fresh H ok → SlE X.K ok esc σ H (dat ρ) → (∀ H' v, Rp X.K H' ok v z → Rp X.K H' (okF okA E1) v z) →
        ρ1[i]? = some (some (d, .ow)) → fk (dat ρ) = some kd → dk d kd = some p → p.1.length < LINE → fl = .nx (ρ1.set i (some (mkd d (putP p.1 kd p.2 z), .ow))) → sDPut (tVar i) (tB X.K fk esc') (tE X.K f esc fr) D σ H := by
      intro E1 ρ1 ok d kd p F1 v1 hf hsl hok hi hk hd hlen hfl
      obtain ⟨bb, rfl⟩ := dk_mk hd
      refine ⟨ok, dat ρ, z, hf, hsl, q, fun v H' e rv => ?_⟩
      have F2 := F1.ext e
      obtain ⟨a, s1, ea, sh⟩ := F2.owD hi
      refine ⟨.ref a, s1, fun _ => True, dat ρ, kd, fun _ _ => trivial, (hsl.ext e).tru _, hk, fun y H2 e2 ry => ?_⟩
      have F3 := F2.ext e2
      obtain ⟨a', s1', ea', sh'⟩ := F3.owD hi
      have ea2 : a' = a := by rw [s1] at s1'; cases s1'; rfl
      subst ea2
      obtain ⟨H4, w1, F4, v4⟩ := F3.putD hi s1 ea' sh' hd ry ((hok _ _ rv.1).ext e2) hlen
      exact ⟨_, H4, rfl, w1, h2 _ hfl _ _ _ F4 (v1.trans ((Ev.ext e).trans ((Ev.ext e2).trans v4)))⟩
    have fin : ∀ {d : PyData} {ρ1 : PEnv}, ((fk (dat ρ)).bind fun kd => (dk d kd).bind fun p => if p.1.length < LINE then some (Fl.nx (ρ1.set i (some (mkd d (putP p.1 kd p.2 z), .ow)))) else none) = some fl → ∃ kd p, fk (dat ρ) = some kd ∧ dk d kd = some p ∧ p.1.length < LINE ∧ fl = .nx (ρ1.set i (some (mkd d (putP p.1 kd p.2 z), .ow))) := fun {d ρ1} h => by
      cases w1 : fk (dat ρ) with
      | none => rw [w1] at h; cases h
      | some kd =>
        rw [w1] at h
        simp only [Option.bind_some] at h
        cases w2 : dk d kd with
        | none => rw [w2] at h; cases h
        | some p =>
          rw [w2] at h
          simp only [Option.bind_some] at h
          split at h
          · rename_i hl
            cases h
            exact ⟨kd, p, rfl, w2, hl, rfl⟩
          · cases h
    by_cases hn : nn z = true
    · rw [if_pos hn] at h1
      split at h1
      · rename_i d hi
        obtain ⟨kd, p, w1, w2, w3, w4⟩ := fin h1
        exact key E ρ (fun _ => True) d kd p F Ev.refl (fun _ _ => trivial) (F.all esc) (fun H' v r => r.any hn) hi w1 w2 w3 w4
      · cases h1
    · rw [if_neg hn] at h1
      split at h1
      · rename_i d hi
        obtain ⟨kd, p, w1, w2, w3, w4⟩ := fin h1
        exact key _ _ _ d kd p (dropF esc F) ev_cut (cut_fresh F esc) (F.esc esc) (fun H' v r => r) hi w1 w2 w3 w4
      · cases h1
theorem si_put (hu : X.A.units + 1 < cLine) (he : PEI X e f esc fr) (ho : PE X o (tVar i)) (hk : PEB X k fk esc') (hs : swapsWith e (some (.Subscript o k spos)) pos.line X.env = pure false := by rfl) : PSI X (.Assign [.Subscript o k spos] e pos) (putS i fk f esc) :=
  ps_imp (ps_dput hu ho hk he hs) put_t
end
end PM

set_option Elab.async false
set_option linter.all false
set_option maxRecDepth 100000
set_option maxHeartbeats 4000000
/-! PM: dicts: displays of one pair, len, for. -/
namespace PM
open PySem PySem.Spec PyProof.Rows L2
/-- {k: v}, the key a tuple -/
def tDisp1T (tk tv : TE) : TE := fun σ H Q => ∀ p, H p = none → tk σ (upd H p (.dT [])) fun x H1 => tv σ H1 fun y H2 => H2 p = some (.dT []) ∧ ∃ (b : Addr) (k : List Key), x = .ref b ∧ H2 b = some (.tup (k.map kV)) ∧ Q (.ref p) (upd H2 p (.dT [(k, y)]))
theorem pe_disp1T {X : Cx} {pos : Pos} {k v : Expr} {tk tv : TE} (hu : X.A.units + 1 < cLine) (hk : PE X k tk) (hv : PE X v tv) : PE X (.Dict [some k] [v] pos) (tDisp1T tk tv) := by
  refine ⟨fun pins s σ H Q I q => ?_⟩
  have hn := I.hok.fresh (Nat.le_refl s.heap.objs.size)
  have I1 := I.laid (a := s.heap.objs.size) (o := .dT []) (h' := s.heap.push { cls := .type "dict", data := .dict #[] }) (t' := s.toks) (fun _ _ q => Heap.get?_push_of_some _ q) (Nat.le_refl _) (dt_empty s.heap I.big)
  have hsh : (evalEachOpt [some k] X.env).zip ((evalEach [v] X.env).map fun v => do let x ← v; standAt pos; pure x) = (pairTrees [some k] [v] X.env pos).map fun p => (some p.1, p.2) := rfl
  rw [arm_eval_Dict, hsh, dictDisplay_pairs _ (by rw [pairTrees]; exact fun z => nomatch z) (by show 1 < 17; decide)]
  refine wpAny_bind (wpAny_standAt (wpAny_bind ?_))
  refine wpAny_subDictH (knd := tupleKind (mixKind X.prog X.w)) (show X.A.units < cLine by omega) (by show 1 ≤ 15; decide) ?_
  refine pairTrees_cons_walk (thn (hk.run pins _ σ _ _ I1 (q _ hn)) fun u s1 ⟨x, H1, I2, rx, q1⟩ => thn (hv.run pins s1 σ H1 _ I2 q1) fun w2 s2 ⟨y, H2, I3, ry, e, b, ks, ex, hb, q2⟩ => ?_)
  subst ex
  obtain rfl : u = Value.ref b := rx
  refine pairTrees_nil_walk ?_
  obtain ⟨z, hd, xs, rel, dd⟩ := dt_of I3.hok e
  cases rel
  refine ⟨[(ks, b, w2)], ⟨rfl, rfl, key_of I3.hok hb, True.intro⟩, dd, fun h' tk' dd' hs => wpAny_pure ?_⟩
  obtain ⟨o, es, ep, hq, h2, h3, h4, _, h5⟩ := dd'
  refine ⟨.ref s.heap.objs.size, _, d_write (ob := .dT [(ks, y)]) I3 (by rw [e]; exact True.intro) hs ⟨o, hq⟩ ⟨by show 1 ≤ sizeLine; rw [sizeLine_eq]; decide, hd, [(ks, b, w2)], .cons ⟨rfl, ?_, ry⟩ .nil, o, es, ep, hq, h2, h3, h4, h5⟩, rfl, q2⟩
  have nb : b ≠ s.heap.objs.size := fun z => by rw [z, e] at hb; cases hb
  show upd H2 _ _ b = _
  rw [upd_ne nb]
  exact hb
def d1T (k v : PyData) : Option PyData := match k with
  | .tuple ds => (toKs ds).map fun _ => .dict [(.bool true, .none), (k, v)]
  | _ => none
def d1K (k v : PyData) : Option PyData := (toK k).map fun _ => .dict [(.bool false, .none), (k, v)]
section
variable {X : Cx} {e a b c : Expr} {es : List Expr} {pos p p2 : Pos} {f g k : FE} {fs : FA} {esc esc' esc'' : List Nat} {fr fr' : Bool}
theorem ei_disp1T (hu : X.A.units + 1 < cLine) (ha : PEI X a f esc fr) (hb : PEI X b g esc' fr') : PEI X (.Dict [some a] [b] pos) (bind2 f g d1T) (esc ++ esc') true :=
  pe_imp (pe_disp1T hu ha hb) fun σ H Q ⟨ok, δ, d, h1, h2, h3, h4⟩ p hp => by
    unfold bind2 at h3
    cases q1 : f δ with
    | none => rw [q1] at h3; cases h3
    | some dk =>
      cases q2 : g δ with
      | none => rw [q1, q2] at h3; cases h3
      | some dv =>
        rw [q1, q2] at h3
        have h3' : d1T dk dv = some d := h3
        unfold d1T at h3'
        split at h3'
        · rename_i ds
          cases q3 : toKs ds with
          | none => rw [q3] at h3'; cases h3'
          | some l =>
            rw [q3] at h3'
            cases h3'
            have el := toKs_some q3
            subst el
            have e0 : Ext H (upd H p (.dT [])) := upd_ext hp
            have ok1 : ∀ {H'}, Ext H H' → H' p ≠ none → Fresh H' (fun a => ok a ∧ a ≠ p) := fun {H'} e n a q => ⟨h1 a (e.free q), fun z => n (by rw [← z]; exact q)⟩
            have sl1 : ∀ {H'}, Ext H H' → SlE X.K (fun a => ok a ∧ a ≠ p) (esc ++ esc') σ H' δ := fun {H'} e => (h2.imp (ok' := fun a => ok a ∧ a ≠ p) fun b q n => ⟨q, fun w => n (by rw [w]; exact hp)⟩).ext e
            refine ⟨fun a => ok a ∧ a ≠ p, δ, _, ok1 e0 (by rw [upd_same]; exact fun z => nomatch z), (sl1 e0).l, q1, fun x H1 e1 r1 => ?_⟩
            have e01 := e0.trans e1
            have p1 : H1 p = some (.dT []) := e1 _ _ upd_same
            refine ⟨fun a => ok a ∧ a ≠ p, δ, dv, ok1 e01 (by rw [p1]; exact fun z => nomatch z), (sl1 e01).r, q2, fun y H2 e2 r2 => ?_⟩
            have p2 : H2 p = some (.dT []) := e2 _ _ p1
            obtain ⟨b, rfl, hb'⟩ := (RpB.of r1.1).keyT
            refine ⟨p2, b, l, rfl, e2 _ _ hb', ?_⟩
            have hne : ∀ c u, H c = some u → c ≠ p := fun c u q z => by rw [z, hp] at q; cases q
            have e3 : Ext H (upd H2 p (.dT [(l, y)])) := fun c u q => by
              rw [upd_ne (hne c u q)]
              exact e2 _ _ (e01 _ _ q)
            have ryl : RpL X.K (upd H2 p (.dT [(l, y)])) (fun a => ok a ∧ a ≠ p) [y] [dv] := RpL.updG p2 (fun z => z) (fun z => z.2 rfl) (.one r2.1)
            have ry : Rp X.K (upd H2 p (.dT [(l, y)])) (fun a => ok a ∧ a ≠ p) y dv := by cases ryl with | cons h _ => exact h
            have sh : Shell X.K (upd H2 p (.dT [(l, y)])) (fun a => ok a ∧ a ≠ p) p (.dict [(.bool true, .none), (.tuple (l.map keyD), dv)]) := .dT (kvs := [(l, y)]) (vs := [dv]) upd_same (.one ry)
            exact h4 _ _ e3 ⟨.dT (kvs := [(l, y)]) (vs := [dv]) (h1 p hp) (.inl upd_same) (.one (ry.imp fun a q _ => q.1)), fun _ _ => ⟨p, rfl, hp, sh⟩⟩
        · cases h3'
end
end PM

set_option Elab.async false
set_option linter.all false
set_option maxRecDepth 100000
set_option maxHeartbeats 4000000
/-! PM: len of a dict; for over a dict. -/
namespace PM
open PySem PySem.Spec PyProof.Rows L2
def rLenDD : List V → Hp → VK → Prop := fun xs H Q => ∃ a n, xs = [V.ref a] ∧ ((∃ kvs, Rd H a (.dK kvs) ∧ n = kvs.length) ∨ ∃ kvs, Rd H a (.dT kvs) ∧ n = kvs.length) ∧ Q (.int (n : Nat)) H
theorem cr_lenDD {X : Cx} : CallR X (.builtin "len") rLenDD := by
  intro pins s σ H xs us Q I r h
  obtain ⟨a, n, rfl, hn, q⟩ := h
  obtain ⟨u, rfl, ru⟩ := vals1 r
  obtain rfl : u = Value.ref a := ru
  rcases hn with ⟨kvs, hd, rfl⟩ | ⟨kvs, hd, rfl⟩
  · exact d_len I hd fun t s' I' => ⟨.int kvs.length, H, I', ⟨t, rfl⟩, q⟩
  · obtain ⟨z, hy, ys, rel, dd⟩ := dt_rd I.hok hd
    have hl : kvs.length = ys.length := Paired.length rel
    have hs : ys.length ≤ sizeLine := by omega
    refine call_len_dictH hy dd (by rw [sizeLine_eq] at hs; omega) ?_
    exact ⟨.int kvs.length, H, I.tok _, ⟨_, by rw [hl]⟩, q⟩
def lenDD (d : PyData) : Option PyData := (prs d).map fun kvs => .int (kvs.length : Nat)
theorem prs_some {d : PyData} {kvs : DPs} (h : prs d = some kvs) : d = .dict ((.bool false, .none) :: kvs) ∨ d = .dict ((.bool true, .none) :: kvs) := by
  unfold prs at h
  split at h
  · cases h; exact .inl rfl
  · cases h; exact .inr rfl
  · cases h
theorem ad_lenDD {K : PySem.W.Frag} : Cal1 K rLenDD lenDD true := fun ok H x dx d Q hf rx e h => by
  unfold lenDD at e
  cases q : prs dx with
  | none => rw [q] at e; cases e
  | some kvs =>
    rw [q] at e
    cases e
    rcases prs_some q with rfl | rfl
    · obtain ⟨a, ks, vs, rfl, h1, h2, rfl⟩ := rx.dctK
      refine ⟨a, _, rfl, .inl ⟨ks, h1, rfl⟩, out_im (K := K) (ok := ok) (fr := true) (.int _) rfl ?_⟩
      simp only [List.length_zip, List.length_map, ← h2.length, Nat.min_self] at h
      exact h
    · obtain ⟨a, ks, vs, rfl, h1, h2, rfl⟩ := rx.dctT
      refine ⟨a, _, rfl, .inr ⟨ks, h1, rfl⟩, out_im (K := K) (ok := ok) (fr := true) (.int _) rfl ?_⟩
      simp only [List.length_zip, List.length_map, ← h2.length, Nat.min_self] at h
      exact h

/-! ### a dict is locked and unlocked -/
structure Fz (a : Addr) (H H' : Hp) : Prop where
  ne : ∀ b, b ≠ a → H' b = H b
  kK : ∀ ks, Rd H a (.dK ks) → Rd H' a (.dK ks)
  kT : ∀ ks, Rd H a (.dT ks) → Rd H' a (.dT ks)
  l : ∀ xs, H a ≠ some (.lst xs)
  t : ∀ xs, H a ≠ some (.tup xs)
  f : ∀ o xs, H a ≠ some (.frz o (.lst xs))
  n : H a ≠ none
  n' : H' a ≠ none
section
variable {K : PySem.W.Frag} {okA : Addr → Prop} {H0 H H' : Hp} {E E' : Ex} {σ : Sg} {ρ ρ' : PEnv} {ok : Addr → Prop} {a : Addr}
theorem Fz.rdK (z : Fz a H H') {b : Addr} {ks : List (Key × V)} (r : Rd H b (.dK ks)) : Rd H' b (.dK ks) := by
  by_cases e : b = a
  · subst e; exact z.kK ks r
  · unfold Rd; rw [z.ne b e]; exact r
theorem Fz.rdT (z : Fz a H H') {b : Addr} {ks : List (List Key × V)} (r : Rd H b (.dT ks)) : Rd H' b (.dT ks) := by
  by_cases e : b = a
  · subst e; exact z.kT ks r
  · unfold Rd; rw [z.ne b e]; exact r
mutual
theorem Rp.fz (z : Fz a H H') : ∀ {v : V} {d : PyData}, Rp K H ok v d → Rp K H' ok v d
  | _, _, .non => .non
  | _, _, .bl b => .bl b
  | _, _, .int i => .int i
  | _, _, .str x => .str x
  | _, _, .lst h1 h2 h3 => .lst h1 ((z.ne _ fun e => z.l _ (e ▸ h2)).trans h2) (RpL.fz z h3)
  | _, _, .tup h2 h3 => .tup ((z.ne _ fun e => z.t _ (e ▸ h2)).trans h2) (RpL.fz z h3)
  | _, _, .dK h1 h2 h3 => .dK h1 (z.rdK h2) (RpL.fz z h3)
  | _, _, .dT h1 h2 h3 => .dT h1 (z.rdT h2) (RpL.fz z h3)
  | _, _, .scr h => .scr (by
      rcases h with ⟨o, h⟩ | h
      · exact .inl ⟨o, (z.ne _ fun e => z.f _ _ (e ▸ h)).trans h⟩
      · exact .inr h)
theorem RpL.fz (z : Fz a H H') : ∀ {vs : List V} {ds : List PyData}, RpL K H ok vs ds → RpL K H' ok vs ds
  | _, _, .nil => .nil
  | _, _, .cons h t => .cons (Rp.fz z h) (RpL.fz z t)
end
theorem Shell.fz (z : Fz a H H') {b : Addr} {d : PyData} (hb : b ≠ a) (h : Shell K H ok b d) : Shell K H' ok b d := by
  cases h with
  | lst h1 h2 => exact .lst ((z.ne _ hb).trans h1) (h2.fz z)
  | dK h1 h2 => exact .dK ((z.ne _ hb).trans h1) (h2.fz z)
  | dT h1 h2 => exact .dT ((z.ne _ hb).trans h1) (h2.fz z)
theorem FR.fz (z : Fz a H H') (F : FR K okA H0 E σ H ρ) (na : ∀ j, ¬ E j a) : FR K okA H0 E σ H' ρ := by
  have dm : ∀ b, H' b = none → H b = none := fun b q => by
    by_cases e : b = a
    · subst e; exact absurd q z.n'
    · rw [← z.ne b e]; exact q
  refine ⟨F.len, F.apart, fun i b q => ⟨(F.new i b q).1, fun w => (F.new i b q).2 (dm b w)⟩, F.one, F.fresh, fun b q => F.grow b (dm b q), fun i d o q => ?_⟩
  obtain ⟨v, s1, s2⟩ := F.slot i d o q
  refine ⟨v, s1, ?_⟩
  cases s2 with
  | sh r => exact .sh (r.fz z)
  | ow e s => exact .ow e (s.fz z fun w => na i (w ▸ e))
  | lk e s => exact .lk e (s.fz z fun w => na i (w ▸ e))
theorem fz_lock {u : HO} {od : Obj} (h : H a = some u) (hu : (∃ ks, u = .dK ks) ∨ ∃ ks, u = .dT ks) : Fz a H (upd H a (.frz od u)) := by
  refine ⟨fun b e => upd_ne e, fun ks r => .inr ⟨od, ?_⟩, fun ks r => .inr ⟨od, ?_⟩, fun xs q => ?_, fun xs q => ?_, fun o xs q => ?_, none_ne h, by rw [upd_same]; exact fun z => nomatch z⟩
  · rw [upd_same]
    rcases r with r | ⟨o, r⟩ <;> rw [h] at r <;> cases r
    · rfl
    · rcases hu with ⟨_, e⟩ | ⟨_, e⟩ <;> cases e
  · rw [upd_same]
    rcases r with r | ⟨o, r⟩ <;> rw [h] at r <;> cases r
    · rfl
    · rcases hu with ⟨_, e⟩ | ⟨_, e⟩ <;> cases e
  · rw [h] at q; cases q; rcases hu with ⟨_, e⟩ | ⟨_, e⟩ <;> cases e
  · rw [h] at q; cases q; rcases hu with ⟨_, e⟩ | ⟨_, e⟩ <;> cases e
  · rw [h] at q; cases q; rcases hu with ⟨_, e⟩ | ⟨_, e⟩ <;> cases e
theorem fz_unlock {u : HO} {od : Obj} (h : H a = some (.frz od u)) (hu : (∃ ks, u = .dK ks) ∨ ∃ ks, u = .dT ks) : Fz a H (upd H a u) := by
  refine ⟨fun b e => upd_ne e, fun ks r => .inl ?_, fun ks r => .inl ?_, fun xs q => ?_, fun xs q => ?_, fun o xs q => ?_, none_ne h, by rw [upd_same]; exact fun z => nomatch z⟩
  · rw [upd_same]
    rcases r with r | ⟨o, r⟩ <;> rw [h] at r <;> cases r
    rfl
  · rw [upd_same]
    rcases r with r | ⟨o, r⟩ <;> rw [h] at r <;> cases r
    rfl
  · rw [h] at q; cases q
  · rw [h] at q; cases q
  · rw [h] at q; cases q; rcases hu with ⟨_, e⟩ | ⟨_, e⟩ <;> cases e
theorem RpL.of_keys : ∀ l : List Key, RpL K H ok (l.map kV) (l.map keyD)
  | [] => .nil
  | .inl i :: l => .cons (.int i) (RpL.of_keys l)
  | .inr x :: l => .cons (.str x) (RpL.of_keys l)
theorem Rp.of_key (k : Key) : Rp K H ok (kV k) (keyD k) := by
  cases k with
  | inl i => exact .int i
  | inr x => exact .str x
end
/-- for T in d, d a dict in the i-th slot (shared from here on) -/
def forDS (i : Nat) (T : Tg) (g : GS) : GS := fun ρ => match ρ[i]? with
  | some (some (d, _)) => (prs d).bind fun kvs => (goF T g (kvs.map (·.1)) (dropE [i] ρ)).bind fun fl => match fl with
    | .nx ρ' => some (.nx ρ')
    | .rt d o => if nn d = true then some (.rt d o) else none
  | _ => none
section
variable {X : Cx} {st : Stmt} {sts body rest : List Stmt} {tg iter e a b c o : Expr} {pos p p2 : Pos} {g g1 g2 : GS} {i j : Nat} {T : Tg} {gt : TG}
/-- the loop, over a locked dict -/
theorem forD_core {D : Ends} {okA : Addr → Prop} {H0 H : Hp} {E : Ex} {σ : Sg} {ρ : PEnv} {fl : Fl} {q : Addr} {od : Obj} {u : HO} {ds : List PyData} (hT : TgV X.K gt T) (F : FR X.K okA H0 E σ H ρ) (hs : σ[i]? = some (some (.ref q))) (na : ∀ j, ¬ E j q) (hq : H q = some (.frz od u))
    (hu : (∃ ks, u = .dK ks ∧ ds = ks.map fun p => keyD p.1) ∨ ∃ ks, u = .dT ks ∧ ds = ks.map fun p => PyData.tuple (p.1.map keyD)) (hgo : goF T g ds ρ = some fl)
    (h2 : ∀ ρ', fl = .nx ρ' → ∀ σ' H' E', FR X.K okA H0 E' σ' H' ρ' → Ev E ρ H E' ρ' H' → D.nx σ' H')
    (h3 : ∀ d own, fl = .rt d own → ∀ v H', EvR E ρ H H' → ResR X.K H0 okA H' v d own → D.rt v H') : tFor (iKeys (tVar i)) gt (tS X.K g) D σ H := by
  -- one walk for both kinds of keys
  have core : ∀ J : It, (∀ n H', H' q = some (.frz od u) → n < ds.length → J.go n H' ∧ ∀ x H3, J.yld n H' x H3 → H3 = H' ∧ ∃ d, ds[n]? = some d ∧ ∀ ok, Rp X.K H' ok x d) → (∀ n H', H' q = some (.frz od u) → ds.length ≤ n → J.stop n H') →
      ∃ W : Nat → Nat → Sg → Hp → Prop, (∃ m, W 0 m σ H) ∧ ∀ i m σ H, W i m σ H →
        (J.stop i H ∧ D.nx σ H) ∨ (J.go i H ∧ ∃ N : Sg → Hp → Prop, (∀ σ' H', N σ' H' → ∃ m', m' < m ∧ W (i + 1) m' σ' H') ∧ ∀ x H', J.yld i H x H' → gt x σ H' fun σ2 H2 => tS X.K g { D with nx := N, ct := N, bk := D.nx } σ2 H2) := by
    intro J hJ hE
    refine ⟨fun n m σ' H' => n + m = ds.length ∧ ∃ E' ρ', FR X.K okA H0 E' σ' H' ρ' ∧ Ev E ρ H E' ρ' H' ∧ goF T g (ds.drop n) ρ' = some fl, ⟨ds.length, by omega, _, _, F, Ev.refl, by rw [List.drop_zero]; exact hgo⟩, fun n m σ' H' ⟨hm, E', ρ', F', v', hgo'⟩ => ?_⟩
    have hf : H' q = some (.frz od u) := v'.r.keep q _ hq fun ⟨j, d, ej, _⟩ => na j ej
    by_cases hi : n < ds.length
    · obtain ⟨hg, hy⟩ := hJ n H' hf hi
      have hdr : ds.drop n = ds[n] :: ds.drop (n + 1) := List.drop_eq_getElem_cons hi
      rw [hdr, goF] at hgo'
      cases b1 : bindE T ds[n] ρ' with
      | none => rw [b1] at hgo'; cases hgo'
      | some ρ2 =>
        rw [b1] at hgo'
        simp only [Option.bind_some] at hgo'
        cases b2 : g ρ2 with
        | none => rw [b2] at hgo'; cases hgo'
        | some fl1 =>
          rw [b2] at hgo'
          refine .inr ⟨hg, fun σ'' H'' => ∃ E'' ρ'', FR X.K okA H0 E'' σ'' H'' ρ'' ∧ Ev E ρ H E'' ρ'' H'' ∧ goF T g (ds.drop (n + 1)) ρ'' = some fl, fun σ'' H'' z => ⟨m - 1, by omega, by omega, z⟩, fun x H3 y => ?_⟩
          obtain ⟨e3, d, hd, rx⟩ := hy x H3 y
          subst e3
          rw [List.getElem?_eq_getElem hi] at hd
          cases hd
          refine F'.bind hT (rx _) b1 fun σ4 E4 F4 v4 => ?_
          have v5 := v'.trans v4
          refine ⟨okA, H0, E4, ρ2, fl1, F4, b2, fun ρ5 w σ5 H5 E5 F5 v6 => ?_, fun d own w v H5 ev r => ?_⟩
          · subst w
            exact ⟨E5, ρ5, F5, v5.trans v6, hgo'⟩
          · subst w
            have hx : some (Fl.rt d own) = some fl := hgo'
            cases hx
            exact h3 d own rfl v H5 (v5.transR ev) r
    · have ei : ds.drop n = [] := List.drop_eq_nil_of_le (by omega)
      rw [ei] at hgo'
      have hx : some (Fl.nx ρ') = some fl := hgo'
      cases hx
      exact .inl ⟨hE n H' hf (by omega), h2 _ rfl σ' H' E' F' v'⟩
  refine ⟨.ref q, hs, q, od, rfl, ?_⟩
  rcases hu with ⟨ks, rfl, rfl⟩ | ⟨ks, rfl, rfl⟩
  · refine .inl ⟨ks, hq, core _ (fun n H' hf hn => ⟨⟨hf, by simpa using hn⟩, fun x H3 ⟨e, k, v, hk, ex⟩ => ⟨e, keyD k, ?_, fun ok => ?_⟩⟩) fun n H' hf hn => ⟨hf, by simpa using hn⟩⟩
    · rw [List.getElem?_map, hk]; rfl
    · rw [ex]; exact Rp.of_key k
  · refine .inr ⟨ks, hq, core _ (fun n H' hf hn => ⟨⟨hf, by simpa using hn⟩, fun x H3 ⟨e, k, v, w, hk, ex, hw⟩ => ⟨e, PyData.tuple (k.map keyD), ?_, fun ok => ?_⟩⟩) fun n H' hf hn => ⟨hf, by simpa using hn⟩⟩
    · rw [List.getElem?_map, hk]; rfl
    · rw [ex]; exact .tup hw (RpL.of_keys k)
theorem zip_fst {α β : Type} : ∀ (l : List α) (m : List β), l.length = m.length → (l.zip m).map (·.1) = l
  | [], _, _ => rfl
  | x :: l, y :: m, h => by rw [List.zip_cons_cons, List.map_cons, zip_fst l m (by simpa using h)]
  | _ :: _, [], h => by simp at h
theorem forD_t (hT : TgV X.K gt T) : ∀ D σ H, tS X.K (forDS i T g) D σ H → tFor (iKeys (tVar i)) gt (tS X.K g) D σ H ∨ tLock (tFor (iKeys (tVar i)) gt (tS X.K g)) D σ H := fun D σ H ⟨okA, H0, E0, ρ0, fl, F0, h1, h2, h3⟩ => by
  unfold forDS at h1
  split at h1
  · rename_i d ow hi
    cases q1 : prs d with
    | none => rw [q1] at h1; cases h1
    | some kvs =>
      rw [q1] at h1
      simp only [Option.bind_some] at h1
      cases q2 : goF T g (kvs.map (·.1)) (dropE [i] ρ0) with
      | none => rw [q2] at h1; cases h1
      | some flx =>
        rw [q2] at h1
        have F := dropF [i] F0
        have v0 : Ev E0 ρ0 H (cutE [i] E0) (dropE [i] ρ0) H := ev_cut
        have hi' : (dropE [i] ρ0)[i]? = some (some (d, .sh)) := by
          show (match ρ0[i]? with | some (some (d, _)) => ρ0.set i (some (d, .sh)) | _ => ρ0)[i]? = _
          rw [hi]
          show (ρ0.set i (some (d, .sh)))[i]? = _
          rw [List.getElem?_set_self (List.getElem?_eq_some_iff.mp hi).1]
        obtain ⟨v, s1, s2⟩ := F.slot i d _ hi'
        cases s2 with
        | sh r =>
          -- the dict, its keys
          have hdic : ∃ (q : Addr) (u : HO), v = .ref q ∧ okF okA (cutE [i] E0) q ∧ Rd H q u ∧ ((∃ ks, u = .dK ks ∧ kvs.map (·.1) = ks.map fun p => keyD p.1) ∨ ∃ ks, u = .dT ks ∧ kvs.map (·.1) = ks.map fun p => PyData.tuple (p.1.map keyD)) := by
            rcases prs_some q1 with rfl | rfl
            · cases r with | @dK a ks vs o1 o2 o3 => exact ⟨_, _, rfl, o1, o2, .inl ⟨ks, rfl, zip_fst _ _ (by rw [List.length_map, ← o3.length, List.length_map])⟩⟩
            · cases r with | @dT a ks vs o1 o2 o3 => exact ⟨_, _, rfl, o1, o2, .inr ⟨ks, rfl, zip_fst _ _ (by rw [List.length_map, ← o3.length, List.length_map])⟩⟩
          obtain ⟨q, u, rfl, okq, rd, hu⟩ := hdic
          have hu' : (∃ ks, u = .dK ks) ∨ ∃ ks, u = .dT ks := by
            rcases hu with ⟨ks, e, _⟩ | ⟨ks, e, _⟩
            · exact .inl ⟨ks, e⟩
            · exact .inr ⟨ks, e⟩
          have na : ∀ j, ¬ cutE [i] E0 j q := fun j => okq.2 j
          rcases rd with hq | ⟨od, hq⟩
          · -- unlocked: it is locked for the loop
            refine .inr ⟨q, u, hq, by rcases hu' with ⟨_, rfl⟩ | ⟨_, rfl⟩ <;> exact True.intro, fun od => ?_⟩
            have z1 := fz_lock (od := od) hq hu'
            have F1 := F.fz z1 na
            have dm1 : ∀ b, upd H q (.frz od u) b = none → H b = none := fun b w => by
              by_cases e : b = q
              · subst e; rw [upd_same] at w; cases w
              · rw [upd_ne e] at w; exact w
            -- from the locked heap back
            have back : ∀ {H'}, EvR (cutE [i] E0) (dropE [i] ρ0) (upd H q (.frz od u)) H' → H' q = some (.frz od u) ∧ EvR E0 ρ0 H (upd H' q u) := fun {H'} ev => by
              have hf : H' q = some (.frz od u) := ev.keep q _ upd_same fun ⟨j, d, ej, _⟩ => na j ej
              refine ⟨hf, fun b o w n => ?_, fun b w => ?_⟩
              · by_cases e : b = q
                · subst e; rw [hq] at w; cases w; exact upd_same
                · rw [upd_ne e]
                  refine ev.keep b o (by rw [upd_ne e]; exact w) fun mo => ?_
                  rcases v0.mo b mo with x | x
                  · exact n x
                  · rw [w] at x; cases x
              · by_cases e : b = q
                · subst e; rw [upd_same] at w; cases w
                · rw [upd_ne e] at w; exact dm1 b (ev.dom b w)
            refine forD_core hT F1 s1 na upd_same hu q2 (fun ρ' w σ' H' E' F' v' => ?_) (fun d own w v H' ev r => ?_)
            · subst w
              cases h1
              obtain ⟨hf, ev⟩ := back v'.r
              have na' : ∀ j, ¬ E' j q := fun j ej => by
                rcases v'.own j q ej with x | x
                · exact na j x
                · rw [upd_same] at x; cases x
              refine ⟨hf, h2 _ rfl σ' _ E' (F'.fz (fz_unlock hf hu') na') ⟨ev, fun j b w => ?_, fun b w => ?_⟩⟩
              · rcases v'.own j b w with x | x
                · exact v0.own j b x
                · exact .inr (dm1 b x)
              · rcases v'.mo b w with x | x
                · exact v0.mo b x
                · exact .inr (dm1 b x)
            · subst w
              have h1' : (if nn d = true then some (Fl.rt d own) else none) = some fl := h1
              split at h1'
              · rename_i hn
                cases h1'
                obtain ⟨hf, ev'⟩ := back ev
                have nm : isMut d = false := by cases d <;> first | rfl | cases hn
                exact ⟨hf, h3 d own rfl v _ ev' (.im (r.1.fz (fz_unlock hf hu')) nm)⟩
              · cases h1'
          · refine .inl (forD_core hT F s1 na hq hu q2 (fun ρ' w σ' H' E' F' v' => ?_) (fun d own w v H' ev r => ?_))
            · subst w
              cases h1
              exact h2 _ rfl σ' H' E' F' (v0.trans v')
            · subst w
              have h1' : (if nn d = true then some (Fl.rt d own) else none) = some fl := h1
              split at h1'
              · cases h1'
                exact h3 d own rfl v H' (v0.transR ev) r
              · cases h1'
  · cases h1
theorem ps_or {t u : TS} (h1 : PS X st t) (h2 : PS X st u) : PS X st (fun D σ H => t D σ H ∨ u D σ H) := ⟨fun pins s σ H D I w => w.elim (h1.run pins s σ H D I) (h2.run pins s σ H D I)⟩
theorem si_forD (hc : X.calm = true) (hi : PE X iter (tVar i)) (hg : PG X tg gt) (hT : TgV X.K gt T) (hb : PBI X body g) (hp : PassesOwn (model X.prog X.w) X.A X.env X.xe)
    (hs : ∀ x, foldedSetIterable iter X.env x = pure x := by intro _; rfl) : PSI X (.For tg iter body [] pos) (forDS i T g) :=
  ps_imp (ps_or (ps_for hp hc (pi_keys hi) hg hb hs) (ps_lock (ps_for hp hc (pi_keys hi) hg hb hs))) (forD_t hT)
end
end PM

set_option Elab.async false
set_option linter.all false
set_option maxRecDepth 100000
set_option maxHeartbeats 4000000
/-! PM: range with the step -1; two stores at once. -/
namespace PM
open PySem PySem.Spec PyProof.Rows L2
def rgDn (i j : Int) : Option (List PyData) := if -4611686018427387904 ≤ i ∧ i < 4611686018427387904 ∧ -4611686018427387904 ≤ j ∧ j < 4611686018427387904 then some ((List.range (i - j).toNat).map fun k => .int (i - (k : Nat))) else none
def itr3 (f g h : FE) : FS := fun δ => (f δ).bind fun x => (g δ).bind fun y => (h δ).bind fun z => (int1 x).bind fun i => (int1 y).bind fun j => (int1 z).bind fun c => if c = -1 then rgDn i j else none
section
variable {K : PySem.W.Frag} {H : Hp} {ok root : Addr → Prop}
theorem walk_down (i : Int) (n : Nat) : WalkD K (fun a => ok a ∨ root a) ok (Itc i (-1) n) H ((List.range n).map fun k => .int (i - (k : Nat))) := fun H2 hk j => by
  refine ⟨fun d hd => ?_, fun hl => by rw [List.length_map, List.length_range] at hl; exact hl⟩
  rw [List.getElem?_map] at hd
  by_cases hi : j < n
  · rw [List.getElem?_range hi] at hd
    cases hd
    refine ⟨hi, fun x H3 ⟨e, y⟩ => ?_⟩
    subst e y
    have : i + ((j : Nat) : Int) * -1 = i - (j : Nat) := by omega
    rw [this]
    exact ⟨Same.refl _, fun _ _ => .int _⟩
  · rw [List.getElem?_eq_none (by simpa using hi)] at hd
    cases hd
end
section
variable {X : Cx} {tg e a b c : Expr} {es : List Expr} {pos p p2 : Pos} {f g h : FE} {fs : FA} {esc esc' esc'' : List Nat} {fr fr' : Bool}
theorem ii_rg3 (hg : Gl X "range") (hm : X.mg "range" = none) (ha : PEB X a f esc) (hb : PEB X b g esc') (hc : PEB X c h esc'')
    (hs : starEach [a, b, c] X.env = (false, eval a X.env) :: starEach [b, c] X.env := by rfl) (hs2 : starEach [b, c] X.env = (false, eval b X.env) :: starEach [c] X.env := by rfl) (hs3 : starEach [c] X.env = (false, eval c X.env) :: starEach [] X.env := by rfl) (hpl : (backTo pos (starEach [b, c] X.env)).any (·.1) = false := by rfl) :
    PII X tg (.Call (.Name "range" p) [a, b, c] [] pos) (itr3 f g h) [] none :=
  pi_imp (pi_range3 hg hm (pa_cons ha (pa_cons hb (pa_cons hc pa_nil hs3) hs2) hs) hs hpl) fun σ H R ⟨ok, δ, ds, h1, h2, h3, h4⟩ => by
    unfold itr3 at h3
    cases q1 : f δ with
    | none => rw [q1] at h3; cases h3
    | some x =>
      cases q2 : g δ with
      | none => rw [q1, q2] at h3; cases h3
      | some y =>
        cases q3 : h δ with
        | none => rw [q1, q2, q3] at h3; cases h3
        | some z =>
          rw [q1, q2, q3] at h3
          simp only [Option.bind_some] at h3
          cases w1 : int1 x with
          | none => rw [w1] at h3; cases h3
          | some i =>
            cases w2 : int1 y with
            | none => rw [w1, w2] at h3; cases h3
            | some j =>
              cases w3 : int1 z with
              | none => rw [w1, w2, w3] at h3; cases h3
              | some k =>
                rw [w1, w2, w3] at h3
                simp only [Option.bind_some] at h3
                split at h3
                · rename_i hk
                  subst hk
                  have ed := int1_some w1
                  have ed' := int1_some w2
                  have ed'' := int1_some w3
                  subst ed ed' ed''
                  refine ⟨fun _ => True, δ, .int i, fun _ _ => trivial, h2.tru _, q1, fun v H1 e1 r1 => ⟨fun _ => True, δ, .int j, fun _ _ => trivial, (h2.ext e1).tru _, q2, fun u H2 e2 r2 => ⟨fun _ => True, δ, .int (-1), fun _ _ => trivial, (h2.ext (e1.trans e2)).tru _, q3, fun t H3 e3 r3 => ?_⟩⟩⟩
                  have ev := r1.int
                  have eu := r2.int
                  have et := r3.int
                  subst ev eu et
                  unfold rgDn at h3
                  split at h3
                  · rename_i hb
                    cases h3
                    exact ⟨i, j, -1, _, rfl, .neg (by omega) (by omega) (by omega) (by omega), h4 _ H3 (fun _ => False) (e1.trans (e2.trans e3)) (walk_down i _) fun _ z => z.elim⟩
                  · cases h3
                · cases h3
end

/-! ### x[i], y[j] = a, b -/
def stS (i : Nat) (fi : FE) (d : PyData) (ρ : PEnv) : Option PEnv := match ρ[i]? with
  | some (some (.list ds, .ow)) => (fi (dat ρ)).bind fun k => (int1 k).bind fun k => (ixN ds.length k).bind fun j => some (ρ.set i (some (.list (ds.set j d), .ow)))
  | _ => none
def swpS (i : Nat) (fi : FE) (j : Nat) (fj : FE) (f : FE) : GS := fun ρ => (f (dat ρ)).bind fun d => match d with
  | .tuple [d1, d2] => if (nn d1 && nn d2) = true then (stS i fi d1 ρ).bind fun ρ1 => (stS j fj d2 ρ1).bind fun ρ2 => some (.nx ρ2) else none
  | _ => none
section
variable {X : Cx} {tg e a b o o' k k' : Expr} {es : List Expr} {pos p p2 spos spos' : Pos} {f g h fi fj : FE} {fs : FA} {esc esc' esc'' : List Nat} {fr fr' : Bool} {i j : Nat}
theorem st_t {okA : Addr → Prop} {H0 H : Hp} {E : Ex} {σ : Sg} {ρ ρ' : PEnv} {v : V} {d : PyData} {Q : Sg → Hp → Prop} (F : FR X.K okA H0 E σ H ρ) (r : Rp X.K H (fun _ => True) v d) (hn : nn d = true) (h : stS i fi d ρ = some ρ') (q : ∀ H', FR X.K okA H0 E σ H' ρ' → Ev E ρ H E ρ' H' → Q σ H') :
    gSub (tVar i) (tB X.K fi esc) rSetL v σ H Q := by
  unfold stS at h
  split at h
  · rename_i ds hi
    cases w1 : fi (dat ρ) with
    | none => rw [w1] at h; cases h
    | some z =>
      rw [w1] at h
      simp only [Option.bind_some] at h
      cases w2 : int1 z with
      | none => rw [w2] at h; cases h
      | some n =>
        rw [w2] at h
        simp only [Option.bind_some] at h
        cases w3 : ixN ds.length n with
        | none => rw [w3] at h; cases h
        | some m =>
          rw [w3] at h
          cases h
          have ez := int1_some w2
          subst ez
          obtain ⟨a, xs, s1, ea, ha, ra⟩ := F.owL hi
          refine ⟨.ref a, s1, fun _ => True, dat ρ, .int n, fun _ _ => trivial, F.all esc, w1, fun y H2 e2 ry => ?_⟩
          have ey := ry.int
          subst ey
          obtain ⟨F4, v4⟩ := (F.ext e2).putL (ds' := ds.set m d) hi s1 ea (e2 _ _ ha) (RpL.set ((r.any hn).ext e2) m (ra.ext e2))
          exact ⟨a, xs, n, m, rfl, rfl, e2 _ _ ha, by rw [ra.length]; exact w3, q _ F4 ((Ev.ext e2).trans v4)⟩
  · cases h
theorem swp_t : ∀ D σ H, tS X.K (swpS i fi j fj f) D σ H → tAsg (tE X.K f esc fr) (gTup X.K 2 (gCons (gSub (tVar i) (tB X.K fi esc') rSetL) (gCons (gSub (tVar j) (tB X.K fj esc'') rSetL) gNil))) D σ H := fun D σ H ⟨okA, H0, E, ρ, fl, F, h1, h2, h3⟩ => by
  unfold swpS at h1
  cases q : f (dat ρ) with
  | none => rw [q] at h1; cases h1
  | some d =>
    rw [q] at h1
    simp only [Option.bind_some] at h1
    split at h1
    · rename_i d1 d2
      split at h1
      · rename_i hn
        rw [Bool.and_eq_true] at hn
        cases w1 : stS i fi d1 ρ with
        | none => rw [w1] at h1; cases h1
        | some ρ1 =>
          rw [w1] at h1
          simp only [Option.bind_some] at h1
          cases w2 : stS j fj d2 ρ1 with
          | none => rw [w2] at h1; cases h1
          | some ρ2 =>
            rw [w2] at h1
            cases h1
            refine ⟨fun _ => True, dat ρ, _, fun _ _ => trivial, F.all esc, q, fun v H' e r => ?_⟩
            cases r.1 with
            | @tup a xs _ ha ra =>
              cases ra with
              | @cons x xs' _ _ rx ra =>
                cases ra with
                | @cons y xs'' _ _ ry ra =>
                  cases ra
                  refine ⟨a, _, rfl, SqT.of ha, rfl, x, [y], rfl, st_t (F.ext e) rx hn.1 w1 fun H2 F2 v2 => ⟨y, [], rfl, ?_⟩⟩
                  have ry2 : Rp X.K H2 (fun _ => True) y d2 := (ry.any (ok' := fun _ => False) hn.2).to (fun _ z => z.elim) fun b u qb z => v2.r.keep b u qb fun mo => z.elim (fun z => z) fun z => mo_nst (F.ext e) mo qb z
                  exact st_t F2 ry2 hn.2 w2 fun H3 F3 v3 => ⟨rfl, h2 _ rfl _ _ _ F3 ((Ev.ext e).trans (v2.trans v3))⟩
      · cases h1
    · cases h1
theorem si_swp {kt : Nat} {tp : Pos} (hc : X.calm = true) (he : PEI X e f esc fr) (ho : PE X o (tVar i)) (hk : PEB X k fi esc') (ho' : PE X o' (tVar j)) (hk' : PEB X k' fj esc'')
    (ha : ∀ v, assign (.Subscript o k spos) X.env v = (do
      let ov ← holding [v] (eval o X.env)
      let iv ← holding [v, ov] (eval k X.env)
      standAt spos
      holding [v, ov, iv] (setItem ov iv v)
      release [v, ov, iv] []) := by intro _; rfl)
    (ha' : ∀ v, assign (.Subscript o' k' spos') X.env v = (do
      let ov ← holding [v] (eval o' X.env)
      let iv ← holding [v, ov] (eval k' X.env)
      standAt spos'
      holding [v, ov, iv] (setItem ov iv v)
      release [v, ov, iv] []) := by intro _; rfl)
    (hs : swapsWithSole [.Tuple [.Subscript o k spos, .Subscript o' k' spos'] kt tp] e pos.line X.env = pure false := by rfl) (hw : swappedStores [.Tuple [.Subscript o k spos, .Subscript o' k' spos'] kt tp] e X.env = pure none := by rfl)
    (h1 : (assignEach [.Tuple [.Subscript o k spos, .Subscript o' k' spos'] kt tp] X.env).map (·.2) = [assign (.Tuple [.Subscript o k spos, .Subscript o' k' spos'] kt tp) X.env] := by rfl)
    (hn : (assignEach [.Subscript o k spos, .Subscript o' k' spos'] X.env).length = 2 := by rfl) (hst : (assignEach [.Subscript o k spos, .Subscript o' k' spos'] X.env).findIdx? (·.1) = none := by rfl)
    (hc1 : (assignEach [.Subscript o k spos, .Subscript o' k' spos'] X.env).map (·.2) = assign (.Subscript o k spos) X.env :: (assignEach [.Subscript o' k' spos'] X.env).map (·.2) := by rfl)
    (hc2 : (assignEach [.Subscript o' k' spos'] X.env).map (·.2) = assign (.Subscript o' k' spos') X.env :: (assignEach [] X.env).map (·.2) := by rfl) :
    PSI X (.Assign [.Tuple [.Subscript o k spos, .Subscript o' k' spos'] kt tp] e pos) (swpS i fi j fj f) :=
  ps_imp (ps_asg he (pg_tup hc (pgs_cons (pg_sub ho hk set_list ha) (pgs_cons (pg_sub ho' hk' set_list ha') pgs_nil hc2) hc1) hn hst) hs hw h1) swp_t
end
end PM

set_option Elab.async false
set_option linter.all false
set_option maxRecDepth 100000
set_option maxHeartbeats 4000000
/-! PM: comprehensions with two fors. -/
namespace PM
open PySem PySem.Spec PyProof.Rows L2
def flGo (h : PyData → Option (List PyData)) : List PyData → Option (List PyData)
  | [] => some []
  | d :: ds => (h d).bind fun r => (flGo h ds).bind fun r' => some (r ++ r')
def lcStep2 (T : Tg) (p : FT) (s1 : FS) (T1 : Tg) (vs1 : List Nat) (p1 : FT) (f : FE) (δ : Dt) (d : PyData) : Option (List PyData) := (bindT T d δ).bind fun δ' => (p δ').bind fun b => if b = true then (s1 δ').bind fun ds1 => lcGo (lcStep T1 p1 f (wipeD δ' vs1)) ds1 else some []
def lcD2 (s : FS) (T : Tg) (vs : List Nat) (p : FT) (s1 : FS) (T1 : Tg) (vs1 : List Nat) (p1 : FT) (f : FE) : FE := fun δ => (s δ).bind fun ds => (flGo (lcStep2 T p s1 T1 vs1 p1 f (wipeD δ vs)) ds).bind fun rs => if rs.length ≤ LINE then some (.list rs) else none
theorem flGo_app {h : PyData → Option (List PyData)} {d : PyData} {o : List PyData} : ∀ {ds r : List PyData}, flGo h ds = some r → h d = some o → flGo h (ds ++ [d]) = some (r ++ o)
  | [], r, e, hd => by
    cases e
    show (h d).bind _ = _
    rw [hd]
    show some (o ++ []) = some ([] ++ o)
    rw [List.append_nil, List.nil_append]
  | x :: ds, r, e, hd => by
    rw [flGo] at e
    cases q : h x with
    | none => rw [q] at e; cases e
    | some r1 =>
      rw [q] at e
      cases q2 : flGo h ds with
      | none => rw [q2] at e; cases e
      | some r2 =>
        rw [q2] at e
        cases e
        rw [List.cons_append, flGo, q, flGo_app q2 hd]
        show some (r1 ++ (r2 ++ o)) = some (r1 ++ r2 ++ o)
        rw [List.append_assoc]
theorem flGo_at {h : PyData → Option (List PyData)} : ∀ {ds rs : List PyData} {i : Nat}, flGo h ds = some rs → ∃ r, flGo h (ds.take i) = some r ∧ r.length ≤ rs.length ∧ (∀ d, ds[i]? = some d → ∃ o, h d = some o ∧ r.length + o.length ≤ rs.length)
  | [], rs, i, e => by
    cases e
    exact ⟨[], by rw [List.take_nil]; rfl, Nat.le_refl _, fun d hd => by simp at hd⟩
  | x :: ds, rs, 0, e => by
    refine ⟨[], rfl, Nat.zero_le _, fun d hd => ?_⟩
    cases hd
    rw [flGo] at e
    cases q : h x with
    | none => rw [q] at e; cases e
    | some o =>
      rw [q] at e
      cases q2 : flGo h ds with
      | none => rw [q2] at e; cases e
      | some r' => rw [q2] at e; cases e; exact ⟨o, rfl, by simp⟩
  | x :: ds, rs, i + 1, e => by
    rw [flGo] at e
    cases q : h x with
    | none => rw [q] at e; cases e
    | some o =>
      rw [q] at e
      cases q2 : flGo h ds with
      | none => rw [q2] at e; cases e
      | some r' =>
        rw [q2] at e
        cases e
        obtain ⟨r, h1, h2, h3⟩ := flGo_at (i := i) q2
        refine ⟨o ++ r, by rw [List.take_succ_cons, flGo, q, h1]; rfl, by simp; exact h2, fun d hd => ?_⟩
        obtain ⟨o2, w1, w2⟩ := h3 d (by simpa using hd)
        exact ⟨o2, w1, by simp; omega⟩
/-- a target is bound; what holds of the slots in every heap to come -/
theorem tgV_stepP {K : PySem.W.Frag} {H : Hp} {ok : Addr → Prop} {esc : List Nat} {σ : Sg} {δ δ' : Dt} {g : TG} {T : Tg} {v : V} {d : PyData} {Q : Sg → Hp → Prop} {Kp : Hp → Prop} (h : TgV K g T) (h0 : Kp H) (ht : ∀ H', Kp H' → ∀ a xs, H a = some (.tup xs) → H' a = some (.tup xs)) (s : ∀ H', Kp H' → SlE K ok esc σ H' δ) (r : ∀ H', Kp H' → Rp K H' ok v d) (e : bindT T d δ = some δ')
    (q : ∀ σ', (∀ H', Kp H' → SlE K ok esc σ' H' δ') → (∃ vs : List V, vs.length ≤ T.slots.length ∧ σ' = setAllV T.slots vs σ) → Q σ' H) : g v σ H Q := by
  cases T with
  | nm i =>
    cases (show g = gName i from h)
    cases e
    exact q _ (fun H' k => (s H' k).set (r H' k) i) ⟨[v], by simp [Tg.slots], rfl⟩
  | tp is =>
    unfold bindT at e
    split at e
    · rename_i hh; cases hh
    · rename_i is' ds' δ'' h1
      split at e
      · rename_i hl
        cases h1
        cases e
        cases r H h0 with
        | @tup a xs _ ha ra =>
          refine h _ _ _ _ ⟨_, xs, rfl, SqT.of ha, by rw [ra.length]; exact hl, q _ (fun H' k => sle_all (s H' k) ?_) ⟨_, by rw [ra.length, hl]; exact Nat.le_refl _, rfl⟩⟩
          cases r H' k with
          | tup ha' ra' =>
            rw [ht H' k a xs ha] at ha'
            cases ha'
            exact ra'
      · cases e
    · cases e
section
variable {X : Cx} {tg iter tg1 iter1 elt a b c : Expr} {ifs ifs1 : List Expr} {scope : Scope} {own : List (Str × Nat)} {vs1 : List Nat} {pos : Pos} {s s1 : FS} {f g : FE} {p p1 : FT} {T T1 : Tg} {gt gt1 : TG} {esc esc1 esc' : List Nat} {fr : Bool} {bv : Option Nat}
theorem lc2_t (hT : TgV X.K gt T) (hT1 : TgV X.K gt1 T1) (hs : ∀ i ∈ T.slots, i ∈ own.map (·.2)) (hs1 : ∀ i ∈ T1.slots, i ∈ vs1) :
    ∀ σ H Q, tE X.K (lcD2 s T (own.map (·.2)) p s1 T1 vs1 p1 f) (esc ++ (esc1 ++ esc')) true σ H Q → tLc2 (wI X.K s esc bv) gt (tT X.K p) (wI X.K s1 esc1 none) gt1 (tT X.K p1) (tE X.K f esc' fr) (own.map (·.2)) vs1 σ H Q := fun σ H Q ⟨ok, δ, d, h1, h2, h3, h4⟩ => by
  unfold lcD2 at h3
  generalize hst : lcStep2 T p s1 T1 vs1 p1 f (wipeD δ (own.map (·.2))) = st at h3
  cases q1 : s δ with
  | none => rw [q1] at h3; cases h3
  | some ds =>
    rw [q1, Option.bind_some] at h3
    cases q2 : flGo st ds with
    | none => rw [q2] at h3; cases h3
    | some rs =>
      rw [q2, Option.bind_some] at h3
      split at h3
      · rename_i hL
        cases h3
        refine ⟨ok, δ, ds, h1, h2.l, q1, fun J H1 root e1 W _ D hD => ?_⟩
        refine ⟨fun i m H2 => i + m = ds.length ∧ Ext H1 H2 ∧ ∃ acc r, H2 D = some (.lst acc) ∧ flGo st (ds.take i) = some r ∧ RpL X.K H2 (fun b => ok b ∧ b ≠ D) acc r,
          ⟨ds.length, by omega, upd_ext hD, [], [], upd_same, rfl, .nil⟩, fun i m H2 ⟨hm, e2, acc, r, hacc, hr, ra⟩ => ?_⟩
        have kp : ∀ b o, H1 b = some o → (ok b ∨ root b) ∨ Stab o → H2 b = some o := fun b o q _ => e2 b o q
        have Wi := W H2 kp i
        obtain ⟨r0, w1, w2, w3⟩ := flGo_at (i := i) q2
        rw [hr] at w1
        cases w1
        have nD : ∀ b o, H b = some o → b ≠ D := fun b o q z => by rw [z, e1.free hD] at q; cases q
        by_cases hi : i < ds.length
        · obtain ⟨hgo, hy⟩ := Wi.1 ds[i] (List.getElem?_eq_getElem hi)
          obtain ⟨o, ho, hlt⟩ := w3 ds[i] (List.getElem?_eq_getElem hi)
          have tk : ds.take (i + 1) = ds.take i ++ [ds[i]] := by rw [List.take_add_one, List.getElem?_eq_getElem hi]; rfl
          refine .inr ⟨hgo, fun H3 => Ext H1 H3 ∧ ∃ acc r, H3 D = some (.lst acc) ∧ flGo st (ds.take (i + 1)) = some r ∧ RpL X.K H3 (fun b => ok b ∧ b ≠ D) acc r, fun H3 ⟨e3, z⟩ => ⟨m - 1, by omega, by omega, e3, z⟩, fun x H3 y => ?_⟩
          obtain ⟨e3, rx⟩ := hy x H3 y
          have hD3 : H3 D = some (.lst acc) := e3 _ _ hacc
          -- heaps to come: all but D stays
          let Kp : Hp → Prop := fun H' => Ext H1 H' ∧ (∀ b u, H3 b = some u → b ≠ D → H' b = some u) ∧ H' D ≠ none
          have okF' : ∀ H', Kp H' → Fresh H' (fun b => ok b ∧ b ≠ D) := fun H' k b q => ⟨h1 b (e1.free (k.1.free q)), fun z => k.2.2 (by rw [← z]; exact q)⟩
          have slK : ∀ H', Kp H' → SlE X.K (fun b => ok b ∧ b ≠ D) (esc1 ++ esc') (wipe σ (own.map (·.2))) H' (wipeD δ (own.map (·.2))) := fun H' k =>
            ((h2.r.wipe (own.map (·.2))).imp (ok' := fun b => ok b ∧ b ≠ D) fun b q n => ⟨q, fun w => n (by rw [w]; exact e1.free hD)⟩).ext (e1.trans k.1)
          have rxK : ∀ H', Kp H' → Rp X.K H' (fun b => ok b ∧ b ≠ D) x ds[i] := fun H' k => (rx (fun b => ok b ∧ b ≠ D) fun b q n => ⟨q, fun w => n (by rw [w]; exact hD)⟩).to (fun _ q _ => q) fun b u q z => k.2.1 b u q fun w => by
            subst w
            rcases z with z | z
            · exact z.2 rfl
            · rw [hD3] at q; cases q; exact z
          have k3 : Kp H3 := ⟨e2.trans e3, fun b u q _ => q, by rw [hD3]; exact fun z => nomatch z⟩
          have ktup : ∀ H', Kp H' → ∀ a xs, H3 a = some (.tup xs) → H' a = some (.tup xs) := fun H' k a xs q => k.2.1 a _ q fun w => by rw [w, hD3] at q; cases q
          have hoS : st ds[i] = some o := ho
          rw [← hst] at ho
          unfold lcStep2 at ho
          cases b1 : bindT T ds[i] (wipeD δ (own.map (·.2))) with
          | none => rw [b1] at ho; cases ho
          | some δ' =>
            rw [b1, Option.bind_some] at ho
            cases b2 : p δ' with
            | none => rw [b2] at ho; cases ho
            | some kk =>
              rw [b2, Option.bind_some] at ho
              refine tgV_stepP hT k3 ktup slK rxK b1 fun σ' sK ⟨vs, hvs, eσ⟩ => ⟨?_, δ', kk, (sK H3 k3).tru _, b2, fun H4 e4 => ?_⟩
              · rw [eσ, wipe_all_in hs, wipe_idem]
              · have k4 : Kp H4 := ⟨(e2.trans e3).trans e4, fun b u q _ => e4 _ _ q, by rw [e4 _ _ hD3]; exact fun z => nomatch z⟩
                have hacc4 : H4 D = some (.lst acc) := e4 _ _ hD3
                have ra4 : RpL X.K H4 (fun b => ok b ∧ b ≠ D) acc r := (ra.ext e3).ext e4
                cases kk with
                | false =>
                  cases ho
                  refine iteF ⟨k4.1, acc, r, hacc4, ?_, ra4⟩
                  rw [tk, flGo_app hr hoS, List.append_nil]
                | true =>
                  rw [if_pos rfl] at ho
                  cases c1 : s1 δ' with
                  | none => rw [c1] at ho; cases ho
                  | some ds1 =>
                    rw [c1, Option.bind_some] at ho
                    refine iteT ⟨fun b => ok b ∧ b ≠ D, δ', ds1, okF' H4 k4, (sK H4 k4).l, c1, fun J1 H5 root1 e5 W1 hroot1 => ?_⟩
                    have k5 : Kp H5 := ⟨k4.1.trans e5, fun b u q n => e5 _ _ (k4.2.1 b u q n), by rw [e5 _ _ hacc4]; exact fun z => nomatch z⟩
                    have hacc5 : H5 D = some (.lst acc) := e5 _ _ hacc4
                    refine ⟨fun j n H6 => j + n = ds1.length ∧ Kp H6 ∧ (∀ b u, H5 b = some u → b ≠ D → H6 b = some u) ∧ ∃ acc6 r6, H6 D = some (.lst acc6) ∧ lcGo (lcStep T1 p1 f (wipeD δ' vs1)) (ds1.take j) = some r6 ∧ RpL X.K H6 (fun b => ok b ∧ b ≠ D) acc6 (r ++ r6),
                      ⟨ds1.length, by omega, k5, fun b u q _ => q, acc, [], hacc5, rfl, by rw [List.append_nil]; exact ra4.ext e5⟩, fun j n H6 ⟨hn, k6, keep6, acc6, r6, ha6, hr6, ra6⟩ => ?_⟩
                    have kp1 : ∀ b u, H5 b = some u → ((ok b ∧ b ≠ D) ∨ root1 b) ∨ Stab u → H6 b = some u := fun b u q z => keep6 b u q fun w => by
                      subst w
                      rcases z with (z | z) | z
                      · exact z.2 rfl
                      · obtain ⟨_, _, zz, _⟩ := hroot1 b z; cases zz
                      · rw [hacc5] at q; cases q; exact z
                    have Wj := W1 H6 kp1 j
                    obtain ⟨r7, v1, v2, v3⟩ := lcGo_at (i := j) ho
                    rw [hr6] at v1
                    cases v1
                    by_cases hj : j < ds1.length
                    · obtain ⟨hgo1, hy1⟩ := Wj.1 ds1[j] (List.getElem?_eq_getElem hj)
                      obtain ⟨o1, ho1, hlt1⟩ := v3 ds1[j] (List.getElem?_eq_getElem hj)
                      have tk1 : ds1.take (j + 1) = ds1.take j ++ [ds1[j]] := by rw [List.take_add_one, List.getElem?_eq_getElem hj]; rfl
                      have hstep1 := ho1
                      refine .inr ⟨hgo1, fun H7 => Kp H7 ∧ (∀ b u, H5 b = some u → b ≠ D → H7 b = some u) ∧ ∃ acc6 r6, H7 D = some (.lst acc6) ∧ lcGo (lcStep T1 p1 f (wipeD δ' vs1)) (ds1.take (j + 1)) = some r6 ∧ RpL X.K H7 (fun b => ok b ∧ b ≠ D) acc6 (r ++ r6), fun H7 ⟨k7, z⟩ => ⟨n - 1, by omega, by omega, k7, z⟩, fun x1 H7 y1 => ?_⟩
                      obtain ⟨e7, rx1⟩ := hy1 x1 H7 y1
                      have k7 : Kp H7 := ⟨k6.1.trans e7, fun b u q n => e7 _ _ (k6.2.1 b u q n), by rw [e7 _ _ ha6]; exact fun z => nomatch z⟩
                      have rx1' : Rp X.K H7 (fun b => ok b ∧ b ≠ D) x1 ds1[j] := rx1 _ fun b q n => q
                      unfold lcStep at ho1
                      cases d1 : bindT T1 ds1[j] (wipeD δ' vs1) with
                      | none => rw [d1] at ho1; cases ho1
                      | some δ2 =>
                        rw [d1, Option.bind_some] at ho1
                        cases d2 : p1 δ2 with
                        | none => rw [d2] at ho1; cases ho1
                        | some k2 =>
                          rw [d2, Option.bind_some] at ho1
                          refine tgV_step hT1 (((sK H7 k7).wipe vs1).sub (esc' := esc') fun z hz => List.mem_append_right _ hz) rx1' d1 fun σ2 s2 ⟨ws, hws, eσ2⟩ => ⟨?_, δ2, k2, s2.tru _, d2, fun H8 e8 => ?_⟩
                          · rw [eσ2, wipe_all_in hs1, wipe_idem]
                          · have k8 : Kp H8 := ⟨k7.1.trans e8, fun b u q n => e8 _ _ (k7.2.1 b u q n), by rw [e8 _ _ (e7 _ _ ha6)]; exact fun z => nomatch z⟩
                            have ha8 : H8 D = some (.lst acc6) := e8 _ _ (e7 _ _ ha6)
                            have ra8 : RpL X.K H8 (fun b => ok b ∧ b ≠ D) acc6 (r ++ r6) := (ra6.ext e7).ext e8
                            have kee8 : ∀ b u, H5 b = some u → b ≠ D → H8 b = some u := fun b u q n => e8 _ _ (e7 _ _ (keep6 b u q n))
                            cases k2 with
                            | false =>
                              cases ho1
                              refine iteF ⟨k8, kee8, acc6, r6, ha8, ?_, ra8⟩
                              rw [tk1]; exact lcGo_app hr6 hstep1
                            | true =>
                              rw [if_pos rfl] at ho1
                              cases b3 : f δ2 with
                              | none => rw [b3] at ho1; cases ho1
                              | some y =>
                                rw [b3] at ho1
                                cases ho1
                                refine iteT ⟨_, δ2, y, okF' H8 k8, s2.ext e8, b3, fun v H9 e9 r9 => ⟨acc6, e9 _ _ ha8, line_lt ?_, ⟨fun b u q => ?_, fun b u q n => ?_, by rw [upd_same]; exact fun z => nomatch z⟩, fun b u q n => ?_, acc6 ++ [v], r6 ++ [y], upd_same, ?_, ?_⟩⟩
                                · rw [ra6.length, List.length_append]
                                  have := hlt1 y rfl
                                  omega
                                · have nb : b ≠ D := fun z => by rw [z, hD] at q; cases q
                                  rw [upd_ne nb]
                                  exact e9 _ _ (k8.1 _ _ q)
                                · rw [upd_ne n]; exact e9 _ _ (k8.2.1 b u q n)
                                · rw [upd_ne n]; exact e9 _ _ (kee8 b u q n)
                                · rw [tk1]; exact lcGo_app hr6 hstep1
                                · have r10 : RpL X.K H9 (fun b => ok b ∧ b ≠ D) (acc6 ++ [v]) (r ++ r6 ++ [y]) := (ra8.ext e9).append (.one r9.1)
                                  rw [List.append_assoc] at r10
                                  refine RpL.updG (e9 _ _ ha8) (fun z => z) (fun z => z.2 rfl) r10
                    · have ei : ds1.take j = ds1 := List.take_of_length_le (by omega)
                      rw [ei, ho] at hr6
                      cases hr6
                      exact .inl ⟨Wj.2 (by omega), k6.1, acc6, r ++ o, ha6, by rw [tk]; exact flGo_app hr hoS, ra6⟩
        · have ei : ds.take i = ds := List.take_of_length_le (by omega)
          rw [ei, q2] at hr
          cases hr
          refine .inl ⟨Wi.2 (by omega), h4 _ H2 (e1.trans e2) ⟨.lst (h1 D (e1.free hD)) hacc (ra.imp fun _ q _ => q.1), fun _ _ => ⟨D, rfl, e1.free hD, .lst hacc ra⟩⟩⟩
      · cases h3
theorem ei_lc2 (hc : X.calm = true) (hN : X.N.Nodup) (hi : PII X tg iter s esc bv) (ok : BlkOk X.N X.env.scope scope own) (hv : ∀ i ∈ vs1, i ∈ own.map (·.2))
    (hg : ∀ (s : Shared) (H : Hp) (C : Addr) (cl : List (Str × Addr)) (fp : List Addr), PG (X.blk s H scope (compEnvC scope cl C X.env) fp) tg gt) (hT : TgV X.K gt T) (hs : ∀ i ∈ T.slots, i ∈ own.map (·.2))
    (ht : ∀ (s : Shared) (H : Hp) (C : Addr) (cl : List (Str × Addr)) (fp : List Addr), PTsI (X.blk s H scope (compEnvC scope cl C X.env) fp) ifs p)
    (hi1 : ∀ (s : Shared) (H : Hp) (C : Addr) (cl : List (Str × Addr)) (fp : List Addr), PII (X.blk s H scope (compEnvC scope cl C X.env) fp) tg1 iter1 s1 esc1 none)
    (hg1 : ∀ (s : Shared) (H : Hp) (C : Addr) (cl : List (Str × Addr)) (fp : List Addr), PG (X.blk s H scope (compEnvC scope cl C X.env) fp) tg1 gt1) (hT1 : TgV X.K gt1 T1) (hs1 : ∀ i ∈ T1.slots, i ∈ vs1)
    (ht1 : ∀ (s : Shared) (H : Hp) (C : Addr) (cl : List (Str × Addr)) (fp : List Addr), PTsI (X.blk s H scope (compEnvC scope cl C X.env) fp) ifs1 p1)
    (he : ∀ (s : Shared) (H : Hp) (C : Addr) (cl : List (Str × Addr)) (fp : List Addr), PEI (X.blk s H scope (compEnvC scope cl C X.env) fp) elt f esc' fr) (hf : ∀ x, foldedSetIterable iter X.env x = pure x := by intro _; rfl) (hf1 : ∀ env x, foldedSetIterable iter1 env x = pure x := by intro _ _; rfl) :
    PEI X (.ListComp elt [⟨tg, iter, ifs, 0⟩, ⟨tg1, iter1, ifs1, 0⟩] scope pos) (lcD2 s T (own.map (·.2)) p s1 T1 vs1 p1 f) (esc ++ (esc1 ++ esc')) true :=
  pe_imp (pe_lc2 (tt := tT X.K p) (tt1 := tT X.K p1) (wi1 := wI X.K s1 esc1 none) (te := tE X.K f esc' fr) hc hN hi ok hv hg ht hi1 hg1 ht1 he hf hf1) (lc2_t hT hT1 hs hs1)
end
end PM

set_option Elab.async false
set_option linter.all false
set_option maxRecDepth 100000
set_option maxHeartbeats 4000000
/-! PM: y = [.. for .. for ..]; xs.index(e), xs.count(e), xs.insert(k, e). -/
namespace PM
open PySem PySem.Spec PyProof.Rows L2
def indexD : PyData → PyData → Option PyData
  | .list ds, d => if dOkL DEP ds = true ∧ dOk DEP d = true then (ds.findIdx? fun z => PyData.eqv z d).map fun j => .int (j : Nat) else none
  | _, _ => none
def countD : PyData → PyData → Option PyData
  | .list ds, .int k => (intsOf ds).map fun ns => .int (ns.count k : Nat)
  | _, _ => none
def insS (i : Nat) (fk f : FE) (esc : List Nat) : GS := fun ρ => (fk (dat ρ)).bind fun k => (f (dat ρ)).bind fun d =>
  match (if nn d = true then ρ else dropE esc ρ)[i]? with
  | some (some (.list ds, .ow)) => (int1 k).bind fun k => if 0 ≤ k ∧ k < 9223372036854775808 ∧ ds.length < LINE then some (.nx ((if nn d = true then ρ else dropE esc ρ).set i (some (.list (ds.take k.toNat ++ [d] ++ ds.drop k.toNat), .ow)))) else none
  | _ => none
section
variable {X : Cx} {st : Stmt} {tg iter tg1 iter1 elt e a b c o k : Expr} {ifs ifs1 : List Expr} {scope : Scope} {own : List (Str × Nat)} {vs1 : List Nat} {pos p2 apos cpos : Pos} {s s1 : FS} {f g fk : FE} {p p1 : FT} {T T1 : Tg} {gt gt1 : TG} {esc esc1 esc' : List Nat} {fr fr' : Bool} {bv : Option Nat} {i : Nat}
theorem si_setLc2 {y : Str} {py lpos spos : Pos} (hc : X.calm = true) (hN : X.N.Nodup) (hy : X.N[i]? = some y) (hyl : X.env.scope.names.lookup y = some .local)
    (hsw : swapsWith (.ListComp elt [⟨tg, iter, ifs, 0⟩, ⟨tg1, iter1, ifs1, 0⟩] scope lpos) (some (.Name y py)) spos.line X.env = pure true) (hi : PII X tg iter s esc bv) (ok : BlkOk X.N X.env.scope scope own) (hv : ∀ i ∈ vs1, i ∈ own.map (·.2))
    (hg : ∀ (s : Shared) (H : Hp) (C : Addr) (cl : List (Str × Addr)) (fp : List Addr), PG (X.blk s H scope (compEnvC scope cl C X.env) fp) tg gt) (hT : TgV X.K gt T) (hs : ∀ i ∈ T.slots, i ∈ own.map (·.2))
    (ht : ∀ (s : Shared) (H : Hp) (C : Addr) (cl : List (Str × Addr)) (fp : List Addr), PTsI (X.blk s H scope (compEnvC scope cl C X.env) fp) ifs p)
    (hi1 : ∀ (s : Shared) (H : Hp) (C : Addr) (cl : List (Str × Addr)) (fp : List Addr), PII (X.blk s H scope (compEnvC scope cl C X.env) fp) tg1 iter1 s1 esc1 none)
    (hg1 : ∀ (s : Shared) (H : Hp) (C : Addr) (cl : List (Str × Addr)) (fp : List Addr), PG (X.blk s H scope (compEnvC scope cl C X.env) fp) tg1 gt1) (hT1 : TgV X.K gt1 T1) (hs1 : ∀ i ∈ T1.slots, i ∈ vs1)
    (ht1 : ∀ (s : Shared) (H : Hp) (C : Addr) (cl : List (Str × Addr)) (fp : List Addr), PTsI (X.blk s H scope (compEnvC scope cl C X.env) fp) ifs1 p1)
    (he : ∀ (s : Shared) (H : Hp) (C : Addr) (cl : List (Str × Addr)) (fp : List Addr), PEI (X.blk s H scope (compEnvC scope cl C X.env) fp) elt f esc' fr) (hf : ∀ x, foldedSetIterable iter X.env x = pure x := by intro _; rfl) (hf1 : ∀ env x, foldedSetIterable iter1 env x = pure x := by intro _ _; rfl) :
    PSI X (.Assign [.Name y py] (.ListComp elt [⟨tg, iter, ifs, 0⟩, ⟨tg1, iter1, ifs1, 0⟩] scope lpos) spos) (setS i (lcD2 s T (own.map (·.2)) p s1 T1 vs1 p1 f) (esc ++ (esc1 ++ esc')) true) :=
  si_asg (ps_imp (ps_setLc2 (tt := tT X.K p) (tt1 := tT X.K p1) (wi1 := wI X.K s1 esc1 none) (te := tE X.K f esc' fr) hc hN hy hyl hsw hi ok hv hg ht hi1 hg1 ht1 he hf hf1) fun D σ H w => lc2_t hT hT1 hs hs1 σ H _ w)
theorem ei_index (hu : X.A.units + 65 < cLine) (ho : PEB X o f esc) (ha : PEB X e g esc')
    (hbase : attributeBase o "index" X.env (eval o X.env) = eval o X.env := by rfl)
    (hfew : ((backTo cpos (starEach [e] X.env)).all (fun x => !x.1) && (backToKw cpos (keywordEach [] X.env)).all (fun x => x.1.isSome) && decide (([e] : List Expr).length + ([] : List Keyword).length + (if ([] : List Keyword).isEmpty then 0 else 1) < 30)) = true := by rfl)
    (hline : (apos.endLine == cpos.line) = true := by rfl) (hs : starEach [e] X.env = (false, eval e X.env) :: starEach [] X.env := by rfl) (hplain : (backTo cpos (starEach [] X.env)).any (·.1) = false := by rfl) :
    PEI X (.Call (.Attribute o "index" apos) [e] [] cpos) (bind2 f g indexD) (esc ++ esc') true :=
  pe_imp (pe_bm PySem.F.plainAttrs_list PySem.F.slot_list_index PySem.F.type_list_index (mt_indexD hu) ho (pa_cons ha pa_nil hs) hbase hfew hline hs hplain) fun σ H Q ⟨ok, δ, d, h1, h2, h3, h4⟩ => by
    unfold bind2 at h3
    cases q1 : f δ with
    | none => rw [q1] at h3; cases h3
    | some dx =>
      cases q2 : g δ with
      | none => rw [q1, q2] at h3; cases h3
      | some dy =>
        rw [q1, q2] at h3
        have h3' : indexD dx dy = some d := h3
        unfold indexD at h3'
        split at h3'
        · rename_i ds
          split at h3'
          · rename_i hok
            cases q3 : ds.findIdx? (fun z => PyData.eqv z dy) with
            | none => rw [q3] at h3'; cases h3'
            | some j =>
              rw [q3] at h3'
              cases h3'
              refine ⟨ok, δ, .list ds, h1, h2.l, q1, fun x H1 e1 r1 => ?_⟩
              obtain ⟨aa, xs, rfl, ha1, ra1⟩ := r1.list
              refine ⟨.inl ⟨rfl, xs, SqL.of ha1⟩, ok, δ, dy, h1.ext e1, h2.r.ext e1, q2, fun y H2 e2 r2 => ?_⟩
              have sh := dOkL_sh hok.1
              have sh2 := dOk_sh hok.2 (by decide)
              obtain ⟨hj, hjd, hjn⟩ := List.findIdx?_eq_some_iff_getElem.mp q3
              have dpl : Dp X.K H2 (.ref aa) (.list ds) := (r1.ext e2).dp sh.2
              have dpe : Dp X.K H2 y dy := r2.dp (by have := dOkL_sh (ds := [dy]) (by rw [dOkL, dOkL, hok.2]; rfl); have h := this.2; unfold noDict noDictL at h; rw [Bool.and_eq_true] at h; exact h.1)
              refine ⟨aa, y, dy, ds, j, ds[j], rfl, rfl, dpl, dpe, sh.1, sh2, List.getElem?_eq_getElem hj, hjd, fun m z' hm hz' => ?_, h4 _ H2 (e1.trans e2) (.im (.int _) rfl)⟩
              have hml : m < ds.length := by omega
              rw [List.getElem?_eq_getElem hml] at hz'
              cases hz'
              have := hjn m hm
              simpa using this
          · cases h3'
        · cases h3'
theorem ei_count (ho : PEB X o f esc) (ha : PEB X e g esc')
    (hbase : attributeBase o "count" X.env (eval o X.env) = eval o X.env := by rfl)
    (hfew : ((backTo cpos (starEach [e] X.env)).all (fun x => !x.1) && (backToKw cpos (keywordEach [] X.env)).all (fun x => x.1.isSome) && decide (([e] : List Expr).length + ([] : List Keyword).length + (if ([] : List Keyword).isEmpty then 0 else 1) < 30)) = true := by rfl)
    (hline : (apos.endLine == cpos.line) = true := by rfl) (hs : starEach [e] X.env = (false, eval e X.env) :: starEach [] X.env := by rfl) (hplain : (backTo cpos (starEach [] X.env)).any (·.1) = false := by rfl) :
    PEI X (.Call (.Attribute o "count" apos) [e] [] cpos) (bind2 f g countD) (esc ++ esc') true :=
  pe_imp (pe_bm PySem.F.plainAttrs_list PySem.F.slot_list_count PySem.F.type_list_count mt_lcount ho (pa_cons ha pa_nil hs) hbase hfew hline hs hplain) fun σ H Q ⟨ok, δ, d, h1, h2, h3, h4⟩ => by
    unfold bind2 at h3
    cases q1 : f δ with
    | none => rw [q1] at h3; cases h3
    | some dx =>
      cases q2 : g δ with
      | none => rw [q1, q2] at h3; cases h3
      | some dy =>
        rw [q1, q2] at h3
        have h3' : countD dx dy = some d := h3
        unfold countD at h3'
        split at h3'
        · rename_i ds k
          cases q3 : intsOf ds with
          | none => rw [q3] at h3'; cases h3'
          | some ns =>
            rw [q3] at h3'
            cases h3'
            have ens := intsOf_some q3
            subst ens
            refine ⟨ok, δ, _, h1, h2.l, q1, fun x H1 e1 r1 => ?_⟩
            obtain ⟨aa, xs, rfl, ha1, ra1⟩ := r1.list
            refine ⟨.inl ⟨rfl, xs, SqL.of ha1⟩, ok, δ, _, h1.ext e1, h2.r.ext e1, q2, fun y H2 e2 r2 => ?_⟩
            have ey := r2.int
            subst ey
            have ex := ra1.ints
            subst ex
            exact ⟨aa, ns, k, rfl, rfl, SqL.of (e2 _ _ ha1), h4 _ H2 (e1.trans e2) (.im (.int _) rfl)⟩
        · cases h3'
def rIns : V → List V → Hp → VK → Prop := fun x vs H Q => ∃ (l : Addr) (xs : List V) (i : Int) (y : V), x = .ref l ∧ vs = [.int i, y] ∧ H l = some (.lst xs) ∧ xs.length < sizeLine ∧ 0 ≤ i ∧ i < 2 ^ 63 ∧ Q .non (upd H l (.lst (xs.take i.toNat ++ [y] ++ xs.drop i.toNat)))
theorem ins_t : ∀ D σ H, tS X.K (insS i fk f esc) D σ H → tDrop (tBM X.K "list" rIns (tVar i) (tCons (tB X.K fk esc') (tCons (tE X.K f esc fr) tNil))) D σ H := fun D σ H ⟨okA, H0, E, ρ, fl, F, h1, h2, h3⟩ => by
  unfold insS at h1
  cases q0 : fk (dat ρ) with
  | none => rw [q0] at h1; cases h1
  | some kd =>
    rw [q0, Option.bind_some] at h1
    cases q : f (dat ρ) with
    | none => rw [q] at h1; cases h1
    | some d =>
      rw [q, Option.bind_some] at h1
      have key : ∀ (E1 : Ex) (ρ1 : PEnv) (ok : Addr → Prop) (ds : List PyData) (n : Int), FR X.K okA H0 E1 σ H ρ1 → Ev E ρ H E1 ρ1 H → Fresh H ok → SlE X.K ok esc σ H (dat ρ) → (∀ H' v, Rp X.K H' ok v d → Rp X.K H' (okF okA E1) v d) →
          ρ1[i]? = some (some (.list ds, .ow)) → kd = .int n → 0 ≤ n → n < 9223372036854775808 → ds.length < LINE → fl = .nx (ρ1.set i (some (.list (ds.take n.toNat ++ [d] ++ ds.drop n.toNat), .ow))) → tDrop (tBM X.K "list" rIns (tVar i) (tCons (tB X.K fk esc') (tCons (tE X.K f esc fr) tNil))) D σ H := by
        intro E1 ρ1 ok ds n F1 v1 hf hsl hok hi hk hn0 hn1 hlen hfl
        subst hk
        obtain ⟨a, xs, s1, ea, ha, ra⟩ := F1.owL hi
        refine ⟨.ref a, s1, .inl ⟨rfl, xs, SqL.of ha⟩, fun _ => True, dat ρ, .int n, fun _ _ => trivial, hsl.tru _, q0, fun u H1 e1 r1 => ?_⟩
        have eu := r1.int
        subst eu
        refine ⟨ok, dat ρ, d, hf.ext e1, hsl.ext e1, q, fun y H' e ry => ?_⟩
        have e' := e1.trans e
        have F2 := F1.ext e'
        obtain ⟨F3, v3⟩ := F2.putL (ds' := ds.take n.toNat ++ [d] ++ ds.drop n.toNat) hi s1 ea (e' _ _ ha) ((((ra.ext e').take _).append (.one (hok _ _ ry.1))).append ((ra.ext e').drop _))
        exact ⟨a, xs, n, y, rfl, rfl, e' _ _ ha, line_lt (by rw [ra.length]; exact hlen), hn0, hn1, h2 _ hfl _ _ _ F3 (v1.trans ((Ev.ext e').trans v3))⟩
      by_cases hn : nn d = true
      · rw [if_pos hn] at h1
        split at h1
        · rename_i ds hi
          cases w : int1 kd with
          | none => rw [w] at h1; cases h1
          | some n =>
            rw [w, Option.bind_some] at h1
            split at h1
            · rename_i hh
              cases h1
              exact key E ρ (fun _ => True) ds n F Ev.refl (fun _ _ => trivial) (F.all esc) (fun H' v r => r.any hn) hi (int1_some w) hh.1 hh.2.1 hh.2.2 rfl
            · cases h1
        · cases h1
      · rw [if_neg hn] at h1
        split at h1
        · rename_i ds hi
          cases w : int1 kd with
          | none => rw [w] at h1; cases h1
          | some n =>
            rw [w, Option.bind_some] at h1
            split at h1
            · rename_i hh
              cases h1
              exact key _ _ _ ds n (dropF esc F) ev_cut (cut_fresh F esc) (F.esc esc) (fun H' v r => r) hi (int1_some w) hh.1 hh.2.1 hh.2.2 rfl
            · cases h1
        · cases h1
theorem si_ins (ho : PE X o (tVar i)) (hk : PEB X k fk esc') (ha : PEI X e f esc fr)
    (hbase : attributeBase o "insert" X.env (eval o X.env) = eval o X.env := by rfl)
    (hfew : ((backTo cpos (starEach [k, e] X.env)).all (fun x => !x.1) && (backToKw cpos (keywordEach [] X.env)).all (fun x => x.1.isSome) && decide (([k, e] : List Expr).length + ([] : List Keyword).length + (if ([] : List Keyword).isEmpty then 0 else 1) < 30)) = true := by rfl)
    (hline : (apos.endLine == cpos.line) = true := by rfl) (hs : starEach [k, e] X.env = (false, eval k X.env) :: starEach [e] X.env := by rfl) (hs2 : starEach [e] X.env = (false, eval e X.env) :: starEach [] X.env := by rfl) (hplain : (backTo cpos (starEach [e] X.env)).any (·.1) = false := by rfl)
    (hsw : swapsWith (.Call (.Attribute o "insert" apos) [k, e] [] cpos) none pos.line X.env = pure false := by rfl) : PSI X (.Expr (.Call (.Attribute o "insert" apos) [k, e] [] cpos) pos) (insS i fk f esc) :=
  ps_imp (ps_expr (pe_bm PySem.F.plainAttrs_list PySem.F.slot_list_insert PySem.F.type_list_insert (r := rIns) mt_insert ho (pa_cons hk (pa_cons ha pa_nil hs2) hs) hbase hfew hline hs hplain) hsw) ins_t
end
end PM

set_option Elab.async false
set_option linter.all false
set_option maxRecDepth 100000
set_option maxHeartbeats 4000000
/-! PM: three names at once. -/
namespace PM
open PySem PySem.Spec PyProof.Rows L2
def parS3 (i j l : Nat) (fs : FA) (esc : List Nat) : GS := fun ρ => (fs (dat ρ)).bind fun ds => if ds.length = 3 then some (.nx (setAllE [i, j, l] ds (if nnL ds = true then ρ else dropE esc ρ))) else none
section
variable {X : Cx} {a b c : Expr} {fs : FA} {esc : List Nat} {i j l : Nat} {pos : Pos}
theorem si_par3 {x y z : Str} {px py pz pt' : Pos} {kt k2 : Nat} {pt2 : Pos} (hc : X.calm = true) (hN : X.N.Nodup) (hi : X.N[i]? = some x) (hj : X.N[j]? = some y) (hl : X.N[l]? = some z) (hij : i ≠ j) (hil : i ≠ l) (hjl : j ≠ l)
    (hx : X.env.scope.names.lookup x = some .local) (hy : X.env.scope.names.lookup y = some .local) (hz : X.env.scope.names.lookup z = some .local) (ha : PAI X [a, b, c] fs esc)
    (hw : swappedStores [.Tuple [.Name x px, .Name y py, .Name z pz] kt pt'] (.Tuple [a, b, c] k2 pt2) X.env = pure (some [x, y, z]))
    (hs : swapsWithSole [.Tuple [.Name x px, .Name y py, .Name z pz] kt pt'] (.Tuple [a, b, c] k2 pt2) pos.line X.env = pure false := by rfl) :
    PSI X (.Assign [.Tuple [.Name x px, .Name y py, .Name z pz] kt pt'] (.Tuple [a, b, c] k2 pt2) pos) (parS3 i j l fs esc) := ps_imp (ps_par3 hc hN hi hj hl hij hil hjl hx hy hz ha hw hs) fun D σ H ⟨okA, H0, E, ρ, fl, F, h1, h2, h3⟩ => by
  unfold parS3 at h1
  cases q : fs (dat ρ) with
  | none => rw [q] at h1; cases h1
  | some ds =>
    rw [q, Option.bind_some] at h1
    split at h1
    · rename_i hlen
      cases h1
      have three : ∀ {H' : Hp} {ok : Addr → Prop} {vs : List V}, RpL X.K H' ok vs ds → ∃ u v w, vs = [u, v, w] ∧ ((σ.set i (some u)).set j (some v)).set l (some w) = setAllV [i, j, l] vs σ := fun {H' ok vs} r => by
        have := r.length
        match vs, this.trans hlen with
        | [u, v, w], _ => exact ⟨u, v, w, rfl, rfl⟩
      by_cases hn : nnL ds = true
      · rw [if_pos hn] at h2
        refine ⟨fun _ => True, dat ρ, ds, fun _ _ => trivial, F.all esc, q, fun vs H' e r => ?_⟩
        have r' : RpL X.K H' (okF okA E) vs ds := r.any hn
        obtain ⟨u, v, w, e1, e2⟩ := three r'
        obtain ⟨E', F', o⟩ := FR.setAll (is := [i, j, l]) (F.ext e) r'
        exact ⟨u, v, w, e1, by rw [e2]; exact h2 _ rfl _ H' E' F' ((Ev.ext e).trans o)⟩
      · rw [if_neg hn] at h2
        refine ⟨okF okA (cutE esc E), dat ρ, ds, cut_fresh F esc, F.esc esc, q, fun vs H' e r => ?_⟩
        obtain ⟨u, v, w, e1, e2⟩ := three r
        obtain ⟨E', F', o⟩ := FR.setAll (is := [i, j, l]) ((dropF esc F).ext e) r
        exact ⟨u, v, w, e1, by rw [e2]; exact h2 _ rfl _ H' E' F' (ev_cut.trans ((Ev.ext e).trans o))⟩
    · cases h1
end
end PM

set_option Elab.async false
set_option linter.all false
set_option maxRecDepth 100000
set_option maxHeartbeats 4000000
/-! PM: d.get(k, z). -/
namespace PM
open PySem PySem.Spec PyProof.Rows L2
def dgetS (f g h : FE) : FE := fun δ => (f δ).bind fun d => (g δ).bind fun k => (h δ).bind fun z => (dk d k).map fun p => (getP p.1 p.2).getD z
section
variable {X : Cx} {o e e2 : Expr} {pos apos cpos : Pos} {f g h : FE} {esc esc' esc'' : List Nat} {fr : Bool}
theorem ei_dgetd (hu : X.A.units + 1 < cLine) (ho : PEB X o f esc) (he : PEB X e g esc') (hf : PEI X e2 h esc'' fr) (m : M2 X o "get" apos e e2 cpos := by exact ⟨rfl, rfl, rfl, rfl⟩) : PEI X (.Call (.Attribute o "get" apos) [e, e2] [] cpos) (dgetS f g h) (esc ++ (esc' ++ esc'')) false :=
  pe_imp (pe_dget2 hu ho he hf m) fun σ H Q ⟨ok, δ, d, h1, h2, h3, h4⟩ => by
    unfold dgetS at h3
    cases q1 : f δ with
    | none => rw [q1] at h3; cases h3
    | some dx =>
      cases q2 : g δ with
      | none => rw [q1, q2] at h3; cases h3
      | some dy =>
        cases q3 : h δ with
        | none => rw [q1, q2, q3] at h3; cases h3
        | some dz =>
          rw [q1, q2, q3] at h3
          simp only [Option.bind_some] at h3
          cases q4 : dk dx dy with
          | none => rw [q4] at h3; cases h3
          | some p =>
            rw [q4] at h3
            cases h3
            refine ⟨ok, δ, dx, h1, h2.l, q1, fun x H1 e1 r1 => ?_⟩
            have isd : ∃ a, x = .ref a ∧ IsD H1 a := by
              obtain ⟨b, rfl⟩ := dk_mk q4
              cases b with
              | false => obtain ⟨a, ks, vs, rfl, w, _⟩ := r1.dctK; exact ⟨a, rfl, .inl ⟨ks, w⟩⟩
              | true => obtain ⟨a, ks, vs, rfl, w, _⟩ := r1.dctT; exact ⟨a, rfl, .inr ⟨ks, w⟩⟩
            obtain ⟨a, rfl, hd⟩ := isd
            refine ⟨a, rfl, hd, ok, δ, dy, h1.ext e1, h2.r.l.ext e1, q2, fun y H2 e2 r2 => ⟨ok, δ, dz, h1.ext (e1.trans e2), h2.r.r.ext (e1.trans e2), q3, fun z H3 e3 r3 => ?_⟩⟩
            obtain ⟨a', oo, ea, gg, w⟩ := dget_ok (r1.ext (e2.trans e3)) (r2.ext e3) q4
            cases ea
            refine ⟨oo, gg, h4 _ H3 (e1.trans (e2.trans e3)) (.no ?_)⟩
            rcases w with ⟨rfl, w⟩ | ⟨v, zz, rfl, w, r⟩
            · simp only [w]; exact r3.1
            · simp only [w]; exact r
end
end PM

open PySem PySem.Spec PyProof.Rows L2
namespace PM
/-! plain data: how numbers, lists and tuples are written, and what the operations do on them -/
def N (k : Nat) : PyData := .int (k : Int)
def Ls {α : Type} (e : α → PyData) (l : List α) : PyData := .list (l.map e)
def Tp {α : Type} (e : α → PyData) (l : List α) : PyData := .tuple (l.map e)
def Pr {α β : Type} (e : α → PyData) (f : β → PyData) (p : α × β) : PyData := .tuple [e p.1, f p.2]
section
variable {α β : Type} {e : α → PyData} {f : β → PyData} {l m : List α} {x y : α}
@[simp] theorem fold_Ls : PyData.list (l.map e) = Ls e l := id rfl
@[simp] theorem fold_Tp : PyData.tuple (l.map e) = Tp e l := id rfl
@[simp] theorem fold_Ls1 (x : Nat) (l : List Nat) : PyData.list (l.map N ++ [N x]) = Ls N (l ++ [x]) := by unfold Ls; rw [List.map_append]; rfl
@[simp] theorem fold_Ls2 (x : List α) (l : List (List α)) : PyData.list (l.map (Ls e) ++ [Ls e x]) = Ls (Ls e) (l ++ [x]) := by unfold Ls; rw [List.map_append]; rfl
@[simp] theorem fold_Ls3 (x : List α) (l : List (List α)) : PyData.list (l.map (Tp e) ++ [Tp e x]) = Ls (Tp e) (l ++ [x]) := by unfold Ls; rw [List.map_append]; rfl
@[simp] theorem fold_Ls4 (x : α × β) (l : List (α × β)) : PyData.list (l.map (Pr e f) ++ [Pr e f x]) = Ls (Pr e f) (l ++ [x]) := by unfold Ls; rw [List.map_append]; rfl
@[simp] theorem fold_Pr (a b : Nat) : PyData.tuple [N a, N b] = Pr N N (a, b) := id rfl
@[simp] theorem nn_Pr (x : Nat × Nat) : nn (Pr N N x) = true := id rfl
@[simp] theorem mut_Pr (x : α × β) : isMut (Pr e f x) = false := id rfl
@[simp] theorem fold_set1 (x k : Nat) (l : List Nat) : PyData.list ((l.map N).set k (N x)) = Ls N (l.set k x) := by unfold Ls; rw [List.map_set]
@[simp] theorem fold_set2 (x : List α) (k : Nat) (l : List (List α)) : PyData.list ((l.map (Ls e)).set k (Ls e x)) = Ls (Ls e) (l.set k x) := by unfold Ls; rw [List.map_set]
@[simp] theorem fold_set3 (x : List α) (k : Nat) (l : List (List α)) : PyData.list ((l.map (Tp e)).set k (Tp e x)) = Ls (Tp e) (l.set k x) := by unfold Ls; rw [List.map_set]
@[simp] theorem lit_N (n : Nat) : PyData.int (no_index (OfNat.ofNat n)) = N (OfNat.ofNat n) := id rfl
@[simp] theorem lit_0 : PyData.int 0 = N 0 := id rfl
@[simp] theorem lit_1 : PyData.int 1 = N 1 := id rfl
@[simp] theorem lit_c (n : Nat) : PyData.int (n : Int) = N n := id rfl
theorem N_inj {a b : Nat} : N a = N b ↔ a = b := by simp only [N, PyData.int.injEq]; omega

/-! alike and deep -/
class GE {α : Type} [DecidableEq α] (e : α → PyData) (k : outParam Nat) : Prop where
  dok : ∀ n x, k ≤ n → dOk n (e x) = true
  eqv : ∀ x y, PyData.eqv (e x) (e y) = decide (x = y)
instance : GE N 0 := ⟨fun n x _ => by unfold N dOk; rfl, fun x y => by
  unfold N PyData.eqv
  rw [Bool.eq_iff_iff]
  simp only [beq_iff_eq, decide_eq_true_eq]
  omega⟩
instance : GE PyData.bool 0 := ⟨fun n x _ => by unfold dOk; rfl, fun x y => by
  unfold PyData.eqv
  cases x <;> cases y <;> rfl⟩
instance : GE PyData.int 0 := ⟨fun n x _ => by unfold dOk; rfl, fun x y => by
  unfold PyData.eqv
  rw [Bool.eq_iff_iff]
  simp only [beq_iff_eq, decide_eq_true_eq]⟩
theorem dOkL_all {n : Nat} {ds : List PyData} : dOkL n ds = ds.all (dOk n) := by
  induction ds with
  | nil => rfl
  | cons d ds ih => rw [dOkL, ih]; rfl
theorem eqvAll_map [DecidableEq α] {k : Nat} [GE e k] : ∀ l m : List α, PyData.eqvAll (l.map e) (m.map e) = decide (l = m)
  | [], [] => by simp [PyData.eqvAll]
  | [], y :: m => by simp [PyData.eqvAll]
  | x :: l, [] => by simp [PyData.eqvAll]
  | x :: l, y :: m => by
    rw [List.map_cons, List.map_cons, PyData.eqvAll, GE.eqv, eqvAll_map l m, Bool.eq_iff_iff]
    simp
instance [DecidableEq α] {k : Nat} [GE e k] : GE (Ls e) (k + 1) := ⟨fun n x h => by
  cases n with
  | zero => omega
  | succ n =>
    unfold Ls
    rw [dOk, dOkL_all, List.all_eq_true]
    intro d hd
    obtain ⟨z, _, rfl⟩ := List.mem_map.mp hd
    exact GE.dok n z (by omega), fun x y => by
  unfold Ls
  rw [PyData.eqv, eqvAll_map]⟩
instance [DecidableEq α] {k : Nat} [GE e k] : GE (Tp e) (k + 1) := ⟨fun n x h => by
  cases n with
  | zero => omega
  | succ n =>
    unfold Tp
    rw [dOk, dOkL_all, List.all_eq_true]
    intro d hd
    obtain ⟨z, _, rfl⟩ := List.mem_map.mp hd
    exact GE.dok n z (by omega), fun x y => by
  unfold Tp
  rw [PyData.eqv, eqvAll_map]⟩
instance [DecidableEq α] [DecidableEq β] {j k : Nat} [GE e j] [GE f k] : GE (Pr e f) (j + k + 1) := ⟨fun n x h => by
  cases n with
  | zero => omega
  | succ n =>
    unfold Pr
    rw [dOk, dOkL, dOkL, dOkL, GE.dok n x.1 (by omega), GE.dok n x.2 (by omega)]
    rfl, fun x y => by
  unfold Pr
  rw [PyData.eqv, PyData.eqvAll, PyData.eqvAll, PyData.eqvAll, GE.eqv, GE.eqv, Bool.eq_iff_iff]
  cases x
  cases y
  simp⟩
theorem eqD_ge [DecidableEq α] {k : Nat} [GE e k] (h : k ≤ 40) (x y : α) : eqD (e x) (e y) = some (.bool (decide (x = y))) := by
  unfold eqD
  rw [if_pos ⟨GE.dok _ _ h, GE.dok _ _ h⟩, GE.eqv]
theorem neD_ge [DecidableEq α] {k : Nat} [GE e k] (h : k ≤ 40) (x y : α) : neD (e x) (e y) = some (.bool (!decide (x = y))) := by
  unfold neD
  rw [if_pos ⟨GE.dok _ _ h, GE.dok _ _ h⟩, GE.eqv]
@[simp] theorem eqD_N (a b : Nat) : eqD (N a) (N b) = some (.bool (decide (a = b))) := eqD_ge (by decide) a b
@[simp] theorem neD_N (a b : Nat) : neD (N a) (N b) = some (.bool (!decide (a = b))) := neD_ge (by decide) a b
@[simp] theorem eqD_Ls [DecidableEq α] {k : Nat} [GE e k] (a b : List α) (h : k + 1 ≤ 40 := by decide) : eqD (Ls e a) (Ls e b) = some (.bool (decide (a = b))) := eqD_ge h a b
@[simp] theorem neD_Ls [DecidableEq α] {k : Nat} [GE e k] (a b : List α) (h : k + 1 ≤ 40 := by decide) : neD (Ls e a) (Ls e b) = some (.bool (!decide (a = b))) := neD_ge h a b
@[simp] theorem eqD_Tp [DecidableEq α] {k : Nat} [GE e k] (a b : List α) (h : k + 1 ≤ 40 := by decide) : eqD (Tp e a) (Tp e b) = some (.bool (decide (a = b))) := eqD_ge h a b
@[simp] theorem neD_Tp [DecidableEq α] {k : Nat} [GE e k] (a b : List α) (h : k + 1 ≤ 40 := by decide) : neD (Tp e a) (Tp e b) = some (.bool (!decide (a = b))) := neD_ge h a b
@[simp] theorem eqD_Pr (a b : Nat × Nat) : eqD (Pr N N a) (Pr N N b) = some (.bool (decide (a = b))) := eqD_ge (by decide) a b
@[simp] theorem neD_Pr (a b : Nat × Nat) : neD (Pr N N a) (Pr N N b) = some (.bool (!decide (a = b))) := neD_ge (by decide) a b
@[simp] theorem eqD_nil [DecidableEq α] {k : Nat} [GE e k] (a : List α) (h : k + 1 ≤ 40 := by decide) : eqD (Ls e a) (.list []) = some (.bool (decide (a = []))) := eqD_Ls a [] h
@[simp] theorem neD_nil [DecidableEq α] {k : Nat} [GE e k] (a : List α) (h : k + 1 ≤ 40 := by decide) : neD (Ls e a) (.list []) = some (.bool (!decide (a = []))) := neD_Ls a [] h
/-- x == x, for data as deep as may be -/
theorem eqv_self : ∀ n (d : PyData), dOk n d = true → PyData.eqv d d = true := by
  intro n
  induction n with
  | zero => intro d h; cases d <;> simp_all [dOk, PyData.eqv]
  | succ n ih =>
    have all : ∀ ds : List PyData, dOkL n ds = true → PyData.eqvAll ds ds = true := by
      intro ds
      induction ds with
      | nil => intro _; rfl
      | cons d ds ih2 =>
        intro h
        rw [dOkL, Bool.and_eq_true] at h
        rw [PyData.eqvAll, ih d h.1, ih2 h.2]
        rfl
    intro d h
    cases d with
    | list xs => rw [dOk] at h; rw [PyData.eqv]; exact all _ h
    | tuple xs => rw [dOk] at h; rw [PyData.eqv]; exact all _ h
    | _ => simp_all [dOk, PyData.eqv]
theorem neD_self {d : PyData} (h : dOk 40 d = true) : neD d d = some (.bool false) := by
  unfold neD
  rw [if_pos ⟨h, h⟩, eqv_self _ _ h]
  rfl
theorem eqD_self {d : PyData} (h : dOk 40 d = true) : eqD d d = some (.bool true) := by
  unfold eqD
  rw [if_pos ⟨h, h⟩, eqv_self _ _ h]

/-! what may be changed -/
@[simp] theorem nn_N (k : Nat) : nn (N k) = true := id rfl
@[simp] theorem nn_Ls : nn (Ls e l) = false := id rfl
theorem nnL_all {ds : List PyData} : nnL ds = ds.all nn := by
  induction ds with
  | nil => rfl
  | cons d ds ih => rw [nnL, ih]; rfl
@[simp] theorem nn_Tp : nn (Tp e l) = l.all (fun x => nn (e x)) := by
  unfold Tp
  rw [nn, nnL_all, List.all_map]
  rfl
@[simp] theorem mut_list (ds) : isMut (.list ds) = true := id rfl
@[simp] theorem mut_tuple (ds) : isMut (.tuple ds) = false := id rfl
@[simp] theorem mut_int (z) : isMut (.int z) = false := id rfl
@[simp] theorem isi_I_int (z : Int) : isiD "int" (.int z) = some (.bool true) := id rfl
@[simp] theorem isi_I_bool (z : Int) : isiD "bool" (.int z) = some (.bool false) := id rfl
@[simp] theorem mut_bool (b) : isMut (.bool b) = false := id rfl
@[simp] theorem mut_none : isMut .none = false := id rfl
@[simp] theorem nn_list (ds) : nn (.list ds) = false := id rfl
@[simp] theorem nn_bool (b) : nn (.bool b) = true := id rfl
@[simp] theorem nn_int (b) : nn (.int b) = true := id rfl
@[simp] theorem nn_none : nn .none = true := id rfl
@[simp] theorem nn_tuple (ds : List PyData) : nn (.tuple ds) = ds.all nn := by rw [nn, nnL_all]
@[simp] theorem mut_N (k : Nat) : isMut (N k) = false := id rfl
@[simp] theorem mut_Ls : isMut (Ls e l) = true := id rfl
@[simp] theorem mut_Tp : isMut (Tp e l) = false := id rfl

/-! numbers -/
@[simp] theorem addD_N (a b : Nat) : addD (N a) (N b) = some (N (a + b)) := by
  show some (PyData.int _) = some (PyData.int _)
  rw [Int.natCast_add]
theorem subD_N (a b : Nat) (h : b ≤ a) : subD (N a) (N b) = some (N (a - b)) := by
  show some (PyData.int _) = some (PyData.int _)
  rw [Int.natCast_sub h]
theorem mulD_N (a b : Nat) (h : a < 18446744073709551616 ∨ b < 18446744073709551616) : mulD (N a) (N b) = some (N (a * b)) := by
  have : mulOk a b = true := by
    unfold mulOk small
    simp only [Bool.or_eq_true, Bool.and_eq_true, decide_eq_true_eq]
    omega
  unfold N mulD
  dsimp only
  rw [if_pos this, Int.natCast_mul]
@[simp] theorem mulD_N1 (a b : Nat) (h : a < 18446744073709551616) : mulD (N a) (N b) = some (N (a * b)) := mulD_N a b (.inl h)
@[simp] theorem mulD_N2 (a b : Nat) (h : b < 18446744073709551616) : mulD (N a) (N b) = some (N (a * b)) := mulD_N a b (.inr h)
@[simp] theorem fdivD_N (a b : Nat) (h : 0 < b) (h2 : b < 1073741824) : fdivD (N a) (N b) = some (N (a / b)) := by
  show (if (0 : Int) < b ∧ ((b : Int) < 1073741824 ∨ _) then some (PyData.int _) else none) = _
  rw [if_pos ⟨by omega, .inl (by omega)⟩]
  rfl
@[simp] theorem modD_N (a b : Nat) (h : 0 < b) : modD (N a) (N b) = some (N (a % b)) := by
  show (if (0 : Int) < b then some (PyData.int _) else none) = _
  rw [if_pos (by omega)]
  rfl
@[simp] theorem ltD_N (a b : Nat) : cmpD (fun i j => decide (i < j)) (N a) (N b) = some (.bool (decide (a < b))) := by
  show some (PyData.bool (decide ((a : Int) < b))) = _
  simp
@[simp] theorem gtD_N (a b : Nat) : cmpD (fun i j => decide (j < i)) (N a) (N b) = some (.bool (decide (b < a))) := by
  show some (PyData.bool (decide ((b : Int) < a))) = _
  simp
@[simp] theorem leD_N (a b : Nat) : cmpD (fun i j => decide (i ≤ j)) (N a) (N b) = some (.bool (decide (a ≤ b))) := by
  show some (PyData.bool (decide ((a : Int) ≤ b))) = _
  simp
@[simp] theorem geD_N (a b : Nat) : cmpD (fun i j => decide (j ≤ i)) (N a) (N b) = some (.bool (decide (b ≤ a))) := by
  show some (PyData.bool (decide ((b : Int) ≤ a))) = _
  simp
@[simp] theorem powD_N (a b : Nat) (h : b ≤ 1000000) (h2 : a < 18446744073709551616) : powD (N a) (N b) = some (N (a ^ b)) := by
  unfold powD N
  dsimp only
  rw [if_pos ⟨by omega, by omega, by omega⟩, Int.toNat_natCast, Int.natCast_pow]
@[simp] theorem min2_N (a b : Nat) : min2D (N a) (N b) = some (N (min a b)) := by
  show some (PyData.int (if (b : Int) < a then (b : Int) else a)) = some (PyData.int _)
  rw [Nat.min_def]
  split <;> split <;> first | rfl | (congr 2; omega)
@[simp] theorem max2_N (a b : Nat) : max2D (N a) (N b) = some (N (max a b)) := by
  show some (PyData.int (if (a : Int) < b then (b : Int) else a)) = some (PyData.int _)
  rw [Nat.max_def]
  split <;> split <;> first | rfl | (congr 2; omega)
@[simp] theorem intD_N (a : Nat) : intD (N a) = some (N a) := id rfl
@[simp] theorem intD_b (b : Bool) : intD (.bool b) = some (N (if b then 1 else 0)) := by cases b <;> rfl
@[simp] theorem int1_N (a : Nat) : int1 (N a) = some (a : Int) := id rfl
@[simp] theorem intOf_N (a : Nat) : intOf (N a) = some (some (a : Int)) := id rfl
@[simp] theorem boolOf_b (b : Bool) : boolOf (.bool b) = some b := id rfl
@[simp] theorem truD_b (b : Bool) : truD (.bool b) = some b := id rfl
@[simp] theorem truD_N (a : Nat) : truD (N a) = some (decide (a ≠ 0)) := by
  show some ((a : Int) != 0) = _
  congr 1
  rw [Bool.eq_iff_iff]
  simp
@[simp] theorem truD_Ls : truD (Ls e l) = some (!l.isEmpty) := by
  show some (!(l.map e).isEmpty) = _
  cases l <;> rfl
@[simp] theorem truD_Tp : truD (Tp e l) = some (!l.isEmpty) := by
  show some (!(l.map e).isEmpty) = _
  cases l <;> rfl

theorem absD_i (i : Int) : absD (.int i) = some (N i.natAbs) := by
  unfold absD N
  dsimp only
  congr 2
  split <;> omega
/-! lists and tuples -/
@[simp] theorem lenD_Ls : lenD (Ls e l) = some (N l.length) := by
  show some (PyData.int ((l.map e).length : Nat)) = _
  rw [List.length_map]
  rfl
@[simp] theorem lenD_Tp : lenD (Tp e l) = some (N l.length) := by
  show some (PyData.int ((l.map e).length : Nat)) = _
  rw [List.length_map]
  rfl
@[simp] theorem listD_Ls : listD (Ls e l) = some (Ls e l) := id rfl
@[simp] theorem listD_Tp : listD (Tp e l) = some (Ls e l) := id rfl
@[simp] theorem tupleD_Ls : tupleD (Ls e l) = some (Tp e l) := id rfl
@[simp] theorem tupleD_Tp : tupleD (Tp e l) = some (Tp e l) := id rfl
@[simp] theorem revD_Ls : revD (Ls e l) = some (Ls e l.reverse) := by
  show some (PyData.list (l.map e).reverse) = _
  rw [← List.map_reverse]
  rfl
@[simp] theorem items_Ls : itemsOf (Ls e l) = some (l.map e) := id rfl
@[simp] theorem items_Tp : itemsOf (Tp e l) = some (l.map e) := id rfl
theorem ixN_lt {n k : Nat} (h : k < n) : ixN n (k : Int) = some k := by
  unfold ixN
  rw [if_pos (by omega), if_pos (by omega)]
  simp
@[simp] theorem atI_nat (ds : List PyData) (k : Nat) (h : k < ds.length) : L2.atI ds (k : Int) = some ds[k] := by
  unfold L2.atI
  rw [ixN_lt h]
  simp
@[simp] theorem ixD_Ls (k : Nat) (h : k < l.length) : ixD (Ls e l) (N k) = some (e l[k]) := by
  show L2.atI (l.map e) (k : Int) = _
  rw [atI_nat _ _ (by simpa using h)]
  simp
@[simp] theorem ixD_Tp (k : Nat) (h : k < l.length) : ixD (Tp e l) (N k) = some (e l[k]) := by
  show L2.atI (l.map e) (k : Int) = _
  rw [atI_nat _ _ (by simpa using h)]
  simp
@[simp] theorem negD_N1 : negD (N 1) = some (.int (-1)) := id rfl
@[simp] theorem ixD_last (h : 0 < l.length) : ixD (Ls e l) (.int (-1)) = some (e (l[l.length - 1]'(by omega))) := by
  show L2.atI (l.map e) (-1) = _
  have : ixN (l.map e).length (-1) = some (l.length - 1) := by
    rw [List.length_map]
    unfold ixN
    rw [if_neg (by omega), if_pos (by omega)]
    congr 1
    omega
  unfold L2.atI
  rw [this, Option.bind_some, List.getElem?_map, List.getElem?_eq_getElem (by omega)]
  rfl
@[simp] theorem ixD_lastT (h : 0 < l.length) : ixD (Tp e l) (.int (-1)) = some (e (l[l.length - 1]'(by omega))) := ixD_last h
theorem addD_Ls {m : List α} (h : l.length + m.length ≤ LINE) : addD (Ls e l) (Ls e m) = some (Ls e (l ++ m)) := by
  show mkL (l.map e ++ m.map e) = _
  unfold mkL
  rw [if_pos (by simpa using h), ← List.map_append]
  rfl
theorem addD_Tp {m : List α} (h : l.length + m.length ≤ LINE) : addD (Tp e l) (Tp e m) = some (Tp e (l ++ m)) := by
  show mkT (l.map e ++ m.map e) = _
  unfold mkT
  rw [if_pos (by simpa using h), ← List.map_append]
  rfl
theorem exD_Ls {m : List α} (h : l.length + m.length ≤ LINE) : exD (l.map e) (Ls e m) = some ((l ++ m).map e) := by
  show (if (l.map e).length + (m.map e).length ≤ LINE then some (l.map e ++ m.map e) else none) = _
  rw [if_pos (by simpa using h), ← List.map_append]
theorem mul_tupN (a k : Nat) (h : 1 ≤ k) (h2 : k ≤ 1000) : mulD (.tuple [N a]) (N k) = some (Tp N (List.replicate k a)) := by
  unfold N mulD
  dsimp only
  by_cases hk : k = 1
  · subst hk; rfl
  · have hh : [PyData.int (a : Int)] ≠ [] ∧ (2 : Int) ≤ (k : Int) ∧ (k : Int) ≤ 1000 ∧ [PyData.int (a : Int)].length ≤ 1000 := ⟨by simp, by omega, by omega, by simp⟩
    rw [if_neg (by omega), if_pos hh, Int.toNat_natCast]
    unfold Tp
    rw [List.map_replicate]
    congr 2
    clear h h2 hk hh
    induction k with
    | zero => rfl
    | succ k ih => rw [List.replicate_succ, List.flatten_cons, ih, List.replicate_succ]; rfl
@[simp] theorem items_list (ds : List PyData) : itemsOf (.list ds) = some ds := id rfl
@[simp] theorem items_tuple (ds : List PyData) : itemsOf (.tuple ds) = some ds := id rfl
@[simp] theorem listD_Pr (x : Nat × Nat) : listD (Pr N N x) = some (Ls N [x.1, x.2]) := id rfl
@[simp] theorem isi_Pr (x : α × β) : isiD "tuple" (Pr e f x) = some (.bool true) := id rfl
@[simp] theorem isi_N_tuple (k : Nat) : isiD "tuple" (N k) = some (.bool false) := id rfl
@[simp] theorem mkL_one (d : PyData) : mkL [d] = some (.list [d]) := id rfl
@[simp] theorem mkL_nil : mkL [] = some (.list []) := id rfl
@[simp] theorem mkL_two (d d' : PyData) : mkL [d, d'] = some (.list [d, d']) := id rfl
@[simp] theorem mkT_nil : mkT [] = some (.tuple []) := id rfl
@[simp] theorem mkT_one (d : PyData) : mkT [d] = some (.tuple [d]) := id rfl
@[simp] theorem mkT_two (d d' : PyData) : mkT [d, d'] = some (.tuple [d, d']) := id rfl
@[simp] theorem mkT_four (a b c d : PyData) : mkT [a, b, c, d] = some (.tuple [a, b, c, d]) := id rfl
@[simp] theorem mkL_three (a b c : PyData) : mkL [a, b, c] = some (.list [a, b, c]) := id rfl
@[simp] theorem mkL_four (a b c d : PyData) : mkL [a, b, c, d] = some (.list [a, b, c, d]) := id rfl
@[simp] theorem mkT_three (d d' d2 : PyData) : mkT [d, d', d2] = some (.tuple [d, d', d2]) := id rfl
@[simp] theorem ixl0 (d : PyData) (ds : List PyData) : ixD (.list (d :: ds)) (N 0) = some d := by
  show L2.atI (d :: ds) ((0 : Nat) : Int) = _
  rw [atI_nat _ _ (by simp)]
  rfl
@[simp] theorem ixl1 (d d' : PyData) (ds : List PyData) : ixD (.list (d :: d' :: ds)) (N 1) = some d' := by
  show L2.atI (d :: d' :: ds) ((1 : Nat) : Int) = _
  rw [atI_nat _ _ (by simp)]
  rfl
@[simp] theorem ixt0 (d : PyData) (ds : List PyData) : ixD (.tuple (d :: ds)) (N 0) = some d := by
  show L2.atI (d :: ds) ((0 : Nat) : Int) = _
  rw [atI_nat _ _ (by simp)]
  rfl
@[simp] theorem ixt1 (d d' : PyData) (ds : List PyData) : ixD (.tuple (d :: d' :: ds)) (N 1) = some d' := by
  show L2.atI (d :: d' :: ds) ((1 : Nat) : Int) = _
  rw [atI_nat _ _ (by simp)]
  rfl
theorem repOk_of {n k : Nat} (h : n * k ≤ LINE) (hk : k < 9223372036854775808) : repOk n (k : Int) = true := by
  unfold repOk
  rw [Int.toNat_natCast]
  simp only [Bool.and_eq_true, decide_eq_true_eq]
  omega
theorem mul_rep (d : PyData) (k : Nat) (h : k ≤ LINE) : mulD (.list [d]) (N k) = some (.list (List.replicate k d)) := by
  show (if repOk [d].length (k : Int) = true then some (PyData.list (List.replicate (k : Int).toNat [d]).flatten) else none) = _
  rw [if_pos (repOk_of (by simpa using h) (by unfold LINE at h; omega)), Int.toNat_natCast]
  congr 2
  induction k with
  | zero => rfl
  | succ k ih => rw [List.replicate_succ, List.flatten_cons, ih (by omega), List.replicate_succ]; rfl
@[simp] theorem mul_repN (a k : Nat) (h : k ≤ LINE) : mulD (.list [N a]) (N k) = some (Ls N (List.replicate k a)) := by
  rw [mul_rep _ _ h]
  unfold Ls
  rw [List.map_replicate]
theorem rgD_N {k : Nat} (h : k < 4611686018427387904) : rgD 0 (k : Int) = some ((List.range k).map N) := by
  unfold rgD
  rw [if_pos ⟨by omega, by omega, by omega, by omega⟩, Int.sub_zero, Int.toNat_natCast]
  refine congrArg some (List.map_congr_left fun x _ => ?_)
  rw [Int.zero_add]
  rfl
theorem rgD_N2 {j k : Nat} (h : j < 4611686018427387904) (h2 : k < 4611686018427387904) : rgD (j : Int) (k : Int) = some ((List.range' j (k - j)).map N) := by
  unfold rgD
  rw [if_pos ⟨by omega, by omega, by omega, by omega⟩, List.range'_eq_map_range]
  have : ((k : Int) - j).toNat = k - j := by omega
  rw [this, List.map_map]
  refine congrArg some (List.map_congr_left fun x _ => ?_)
  show PyData.int _ = PyData.int _
  simp
theorem rgDn_N {i j : Nat} (h : i < 4611686018427387904) (h2 : j < 4611686018427387904) : rgDn (i : Int) (j : Int) = some (((List.range (i - j)).map fun k => i - k).map N) := by
  unfold rgDn
  rw [if_pos ⟨by omega, by omega, by omega, by omega⟩, List.map_map]
  have : ((i : Int) - j).toNat = i - j := by omega
  rw [this]
  refine congrArg some (List.map_congr_left fun k hk => ?_)
  have := List.mem_range.mp hk
  show PyData.int _ = PyData.int ((i - k : Nat) : Int)
  congr 1
  omega
theorem itr3_eq {f g : FE} {δ : Dt} {i j : Nat} (h : f δ = some (N i)) (h2 : g δ = some (N j)) (hi : i < 4611686018427387904) (hj : j < 4611686018427387904) : itr3 f g (bind1 (kst (N 1)) negD) δ = some (((List.range (i - j)).map fun k => i - k).map N) := by
  unfold itr3
  rw [h, h2]
  simp -implicitDefEqProofs only [Option.bind_some, bind1, kst, negD_N1, int1_N]
  rw [show int1 (.int (-1)) = some (-1) from rfl, Option.bind_some, if_pos rfl]
  exact rgDn_N hi hj
theorem itr2_eq {f g : FE} {δ : Dt} {i j : Nat} (h : f δ = some (N i)) (h2 : g δ = some (N j)) (hi : i < 4611686018427387904) (hj : j < 4611686018427387904) : itr2 f g δ = some ((List.range' i (j - i)).map N) := by
  unfold itr2
  rw [h, h2]
  simp -implicitDefEqProofs only [Option.bind_some, int1_N]
  exact rgD_N2 hi hj
theorem rgL_N (k : Nat) : rgL 0 (k : Int) = (List.range k).map N := by
  unfold rgL
  rw [Int.sub_zero, Int.toNat_natCast]
  refine List.map_congr_left fun x _ => ?_
  rw [Int.zero_add]
  rfl
theorem rgOk_N {k : Nat} (h : k ≤ LINE) : rgOk 0 (k : Int) = true := by
  unfold rgOk
  unfold LINE at *
  simp only [Bool.and_eq_true, decide_eq_true_eq]
  omega
@[simp] theorem itr1_eq {g : FE} {δ : Dt} {k : Nat} (h : g δ = some (N k)) (hk : k ≤ LINE) : itr1 g δ = some ((List.range k).map N) := by
  unfold itr1
  rw [h, Option.bind_some, int1_N, Option.bind_some]
  exact rgD_N (by unfold LINE at hk; omega)
theorem lst_eq {g : FE} {δ : Dt} {k : Nat} (h : g δ = some (N k)) (hk : k ≤ LINE) : lstRg (rg1 g) δ = some (Ls N (List.range k)) := by
  unfold lstRg rg1
  rw [h, Option.bind_some, int1_N, Option.map_some, Option.bind_some, if_pos (rgOk_N hk), rgL_N]
  rfl
theorem tup_eq {g : FE} {δ : Dt} {k : Nat} (h : g δ = some (N k)) (hk : k ≤ LINE) : tupRg (rg1 g) δ = some (Tp N (List.range k)) := by
  unfold tupRg rg1
  rw [h, Option.bind_some, int1_N, Option.map_some, Option.bind_some, if_pos (rgOk_N hk), rgL_N]
  rfl
@[simp] theorem apD_N {l : List Nat} {x : Nat} (h : l.length < LINE) : apD (l.map N) (N x) = some ((l ++ [x]).map N) := by
  unfold apD
  rw [List.length_map, if_pos h, List.map_append]
  rfl
@[simp] theorem apD_Ls {l : List (List α)} {x : List α} (h : l.length < LINE) : apD (l.map (Ls e)) (Ls e x) = some ((l ++ [x]).map (Ls e)) := by
  unfold apD
  rw [List.length_map, if_pos h, List.map_append]
  rfl
@[simp] theorem apD_Tp {l : List (List α)} {x : List α} (h : l.length < LINE) : apD (l.map (Tp e)) (Tp e x) = some ((l ++ [x]).map (Tp e)) := by
  unfold apD
  rw [List.length_map, if_pos h, List.map_append]
  rfl
@[simp] theorem apD_P {l : List (α × β)} {x : α × β} (h : l.length < LINE) : apD (l.map (Pr e f)) (Pr e f x) = some ((l ++ [x]).map (Pr e f)) := by
  unfold apD
  rw [List.length_map, if_pos h, List.map_append]
  rfl
theorem apD_e {l : List α} {x : α} (h : l.length < LINE) : apD (l.map e) (e x) = some ((l ++ [x]).map e) := by
  unfold apD
  rw [List.length_map, if_pos h, List.map_append]
  rfl
theorem set_e {l : List α} {x : α} {k : Nat} : (l.map e).set k (e x) = (l.set k x).map e := (List.map_set ..).symm
theorem intsOf_N (l : List Nat) : intsOf (l.map N) = some (l.map (fun (k : Nat) => (k : Int))) := by
  induction l with
  | nil => rfl
  | cons x l ih =>
    rw [List.map_cons]
    show (intsOf (l.map N)).map _ = _
    rw [ih]
    rfl
@[simp] theorem isi_N_int (k : Nat) : isiD "int" (N k) = some (.bool true) := id rfl
@[simp] theorem isi_N_bool (k : Nat) : isiD "bool" (N k) = some (.bool false) := id rfl
@[simp] theorem isi_Ls_list : isiD "list" (Ls e l) = some (.bool true) := id rfl
@[simp] theorem isi_Tp_tuple : isiD "tuple" (Tp e l) = some (.bool true) := id rfl
end

/-! in, index, min -/
section
variable {α : Type} {e : α → PyData} {l : List α}
theorem any_eqv [DecidableEq α] {k : Nat} [GE e k] (l : List α) (x : α) : ((l.map e).any fun z => PyData.eqv z (e x)) = decide (x ∈ l) := by
  rw [List.any_map, Bool.eq_iff_iff, List.any_eq_true, decide_eq_true_eq]
  constructor
  · rintro ⟨y, hy, h⟩
    have : decide (y = x) = true := by rw [← GE.eqv (e := e)]; exact h
    rw [decide_eq_true_eq] at this
    exact this ▸ hy
  · intro h
    exact ⟨x, h, by show PyData.eqv (e x) (e x) = true; rw [GE.eqv]; simp⟩
theorem dOkL_map [DecidableEq α] {k : Nat} [GE e k] (h : k ≤ 40) (l : List α) : dOkL DEP (l.map e) = true := by
  rw [dOkL_all, List.all_eq_true]
  intro d hd
  obtain ⟨z, _, rfl⟩ := List.mem_map.mp hd
  exact GE.dok _ _ h
theorem inD_ge [DecidableEq α] {k : Nat} [GE e k] (h : k ≤ 40) (x : α) (l : List α) : inD (e x) (Ls e l) = some (.bool (decide (x ∈ l))) := by
  show (if dOk DEP (e x) = true ∧ dOkL DEP (l.map e) = true then some (PyData.bool ((l.map e).any fun z => PyData.eqv z (e x))) else none) = _
  rw [if_pos ⟨GE.dok _ _ h, dOkL_map h l⟩, any_eqv]
theorem notInD_ge [DecidableEq α] {k : Nat} [GE e k] (h : k ≤ 40) (x : α) (l : List α) : notInD (e x) (Ls e l) = some (.bool (!decide (x ∈ l))) := by
  show (if dOk DEP (e x) = true ∧ dOkL DEP (l.map e) = true then some (PyData.bool (!(l.map e).any fun z => PyData.eqv z (e x))) else none) = _
  rw [if_pos ⟨GE.dok _ _ h, dOkL_map h l⟩, any_eqv]
@[simp] theorem inD_N (x : Nat) (l : List Nat) : inD (N x) (Ls N l) = some (.bool (decide (x ∈ l))) := inD_ge (by decide) x l
@[simp] theorem notInD_N (x : Nat) (l : List Nat) : notInD (N x) (Ls N l) = some (.bool (!decide (x ∈ l))) := notInD_ge (by decide) x l
@[simp] theorem notInD_nil (d : PyData) (h : dOk DEP d = true) : notInD d (.list []) = some (.bool true) := by
  show (if dOk DEP d = true ∧ dOkL DEP [] = true then some (PyData.bool (!([] : List PyData).any fun z => PyData.eqv z d)) else none) = _
  rw [if_pos ⟨h, rfl⟩]
  rfl
@[simp] theorem inD_Ls [DecidableEq α] {k : Nat} [GE e k] (x : List α) (l : List (List α)) (h : k + 1 ≤ 40 := by decide) : inD (Ls e x) (Ls (Ls e) l) = some (.bool (decide (x ∈ l))) := (inD_ge (e := Ls e) h x l).trans (congrArg (fun b => some (PyData.bool b)) (decide_eq_decide.mpr Iff.rfl))
@[simp] theorem notInD_Ls [DecidableEq α] {k : Nat} [GE e k] (x : List α) (l : List (List α)) (h : k + 1 ≤ 40 := by decide) : notInD (Ls e x) (Ls (Ls e) l) = some (.bool (!decide (x ∈ l))) := (notInD_ge (e := Ls e) h x l).trans (congrArg (fun b => some (PyData.bool (!b))) (decide_eq_decide.mpr Iff.rfl))
@[simp] theorem inD_Tp [DecidableEq α] {k : Nat} [GE e k] (x : List α) (l : List (List α)) (h : k + 1 ≤ 40 := by decide) : inD (Tp e x) (Ls (Tp e) l) = some (.bool (decide (x ∈ l))) := (inD_ge (e := Tp e) h x l).trans (congrArg (fun b => some (PyData.bool b)) (decide_eq_decide.mpr Iff.rfl))
@[simp] theorem notInD_Tp [DecidableEq α] {k : Nat} [GE e k] (x : List α) (l : List (List α)) (h : k + 1 ≤ 40 := by decide) : notInD (Tp e x) (Ls (Tp e) l) = some (.bool (!decide (x ∈ l))) := (notInD_ge (e := Tp e) h x l).trans (congrArg (fun b => some (PyData.bool (!b))) (decide_eq_decide.mpr Iff.rfl))
theorem indexD_N {l : List Nat} {j : Nat} (hj : j < l.length) (hn : ∀ i, (h : i < j) → l[i] ≠ l[j]) : indexD (Ls N l) (N l[j]) = some (N j) := by
  show (if dOkL DEP (l.map N) = true ∧ dOk DEP (N l[j]) = true then ((l.map N).findIdx? fun z => PyData.eqv z (N l[j])).map fun j => PyData.int (j : Nat) else none) = _
  rw [if_pos ⟨dOkL_map (by decide) l, GE.dok _ _ (by decide)⟩]
  have : (l.map N).findIdx? (fun z => PyData.eqv z (N l[j])) = some j := by
    rw [List.findIdx?_eq_some_iff_getElem]
    refine ⟨by simpa using hj, ?_, fun i hi => ?_⟩
    · rw [List.getElem_map, GE.eqv]; simp
    · rw [List.getElem_map, GE.eqv]
      simpa using hn i hi
  rw [this]
  rfl
theorem minD_N {l : List Nat} (h : l ≠ []) : ∃ g ∈ l, (∀ x ∈ l, g ≤ x) ∧ minD (Ls N l) = some (N g) := by
  cases l with
  | nil => exact absurd rfl h
  | cons a l =>
    have key : ∀ (l : List Nat) (a : Nat), ∃ g, (g = a ∨ g ∈ l) ∧ g ≤ a ∧ (∀ x ∈ l, g ≤ x) ∧ mn (a : Int) (l.map fun (k : Nat) => (k : Int)) = (g : Int) := by
      intro l
      induction l with
      | nil => intro a; exact ⟨a, .inl rfl, Nat.le_refl _, fun x hx => (by cases hx), rfl⟩
      | cons b l ih =>
        intro a
        have e : mn (a : Int) ((b :: l).map fun (k : Nat) => (k : Int)) = mn (if (b : Int) < a then (b : Int) else a) (l.map fun (k : Nat) => (k : Int)) := rfl
        rw [e]
        by_cases hab : (b : Int) < a
        · rw [if_pos hab]
          obtain ⟨g, h1, h2, h3, h4⟩ := ih b
          refine ⟨g, .inr (by rcases h1 with h1 | h1 <;> simp [h1]), by omega, fun x hx => ?_, h4⟩
          rcases List.mem_cons.mp hx with rfl | hx
          · exact h2
          · exact h3 x hx
        · rw [if_neg hab]
          obtain ⟨g, h1, h2, h3, h4⟩ := ih a
          refine ⟨g, by rcases h1 with h1 | h1 <;> simp [h1], h2, fun x hx => ?_, h4⟩
          rcases List.mem_cons.mp hx with rfl | hx
          · omega
          · exact h3 x hx
    obtain ⟨g, h1, h2, h3, h4⟩ := key l a
    refine ⟨g, by simpa using h1, fun x hx => ?_, ?_⟩
    · rcases List.mem_cons.mp hx with rfl | hx
      · exact h2
      · exact h3 x hx
    · show (intsOf ((a :: l).map N)).bind _ = _
      rw [intsOf_N]
      show some (PyData.int (mn (a : Int) (l.map fun (k : Nat) => (k : Int)))) = _
      rw [h4]
      rfl
theorem cut_d (ds : List PyData) (k : Nat) : cutD ds (some (k : Int)) none = ds.drop k := by
  unfold cutD
  rw [HT.sIx_none, HT.sIx_nat, Nat.min_def]
  split
  · rw [List.take_of_length_le (by simp)]
  · rw [List.drop_of_length_le (Nat.le_refl _), List.drop_of_length_le (by omega)]; simp
@[simp] theorem slD_LsD {α : Type} {e : α → PyData} {l : List α} (k : Nat) : slD (Ls e l) (some (k : Int)) none = some (Ls e (l.drop k)) := by
  show some (PyData.list (cutD (l.map e) (some (k : Int)) none)) = _
  rw [cut_d, ← List.map_drop]
  rfl
end
/-! how the parts run -/
section
variable {f g h : FE} {δ : Dt} {ρ : PEnv}
@[simp] theorem ap_kst (d : PyData) : kst d δ = some d := rfl
@[simp] theorem ap_vr (i : Nat) : vr i δ = (δ[i]?).join := rfl
@[simp] theorem ap_bind1 (h) : bind1 f h δ = (f δ).bind h := rfl
@[simp] theorem ap_bind2 (h) : bind2 f g h δ = (f δ).bind fun x => (g δ).bind fun y => h x y := rfl
@[simp] theorem ap_ac (fs : FA) : ac f fs δ = (f δ).bind fun x => (fs δ).bind fun xs => some (x :: xs) := rfl
@[simp] theorem ap_mkLs (fs : FA) : mkLs fs δ = (fs δ).bind mkL := rfl
@[simp] theorem ap_mkTs (fs : FA) : mkTs fs δ = (fs δ).bind mkT := rfl
@[simp] theorem ap_callD (F : Fn) (fs : FA) : callD F fs δ = (fs δ).bind F := rfl
@[simp] theorem ap_itm : itm f δ = (f δ).bind itemsOf := rfl
@[simp] theorem ap_tst : tst f δ = (f δ).bind boolOf := rfl
@[simp] theorem ap_tru : tru f δ = (f δ).bind truD := rfl
@[simp] theorem ap_andT (p q : FT) : andT p q δ = (p δ).bind fun b => if b = true then q δ else some false := rfl
@[simp] theorem ap_orT (p q : FT) : orT p q δ = (p δ).bind fun b => if b = true then some true else q δ := rfl
@[simp] theorem ap_notT (p : FT) : notT p δ = (p δ).map (!·) := rfl
@[simp] theorem ap_andV : andV f g δ = ((f δ).bind boolOf).bind fun b => if b = true then g δ else some (.bool false) := rfl
@[simp] theorem ap_orV : orV f g δ = ((f δ).bind boolOf).bind fun b => if b = true then some (.bool true) else g δ := rfl
@[simp] theorem ap_notV : notV f δ = ((f δ).bind boolOf).map fun b => .bool (!b) := rfl
@[simp] theorem ap_ifE (p : FT) : ifE p f g δ = (p δ).bind fun b => if b = true then f δ else g δ := rfl
@[simp] theorem ap_slS (fl fh : FO) : slS f fl fh δ = (f δ).bind fun x => (fl δ).bind fun l => (fh δ).bind fun u => slD x l u := rfl
@[simp] theorem ap_ioS : ioS f δ = (f δ).bind intOf := rfl
@[simp] theorem ap_step (i p f) (d : PyData) : lcStep (.nm i) p f δ d = (p (δ.set i (some d))).bind fun b => if b = true then (f (δ.set i (some d))).map some else some none := rfl
theorem ap_stepP (is p f) (ds : List PyData) (h : ds.length = is.length) : lcStep (.tp is) p f δ (.tuple ds) = (p (setAll is ds δ)).bind fun b => if b = true then (f (setAll is ds δ)).map some else some none := by
  show (if ds.length = is.length then some (setAll is ds δ) else none).bind _ = _
  rw [if_pos h]
  rfl
/-! statements -/
def nxt (k : GS) : Fl → Option Fl
  | .nx ρ => k ρ
  | .rt d o => some (.rt d o)
@[simp] theorem nxt_nx (k : GS) (ρ) : nxt k (.nx ρ) = k ρ := rfl
@[simp] theorem nxt_rt (k : GS) (d o) : nxt k (.rt d o) = some (.rt d o) := rfl
@[simp] theorem ap_seqG (g1 g2 : GS) : seqG g1 g2 ρ = (g1 ρ).bind (nxt g2) := by
  unfold seqG
  congr 1
@[simp] theorem ap_ifS (pt : FT) (g1 g2 : GS) : ifS pt g1 g2 ρ = (pt (dat ρ)).bind fun b => if b = true then g1 ρ else g2 ρ := rfl
@[simp] theorem ap_retS (fr) : retS f fr ρ = (f (dat ρ)).bind fun d => some (.rt d fr) := rfl
@[simp] theorem ap_retN : retN ρ = some (.rt .none true) := rfl
@[simp] theorem ap_setS (i esc fr) : setS i f esc fr ρ = (f (dat ρ)).bind fun d =>
  some (.nx ((if nn d = true then ρ else dropE esc ρ).set i (some (d, if (fr && isMut d) = true then .ow else .sh)))) := rfl
def retO : Option (Option (PyData × Own)) → Option Fl
  | some (some (d, o)) => some (.rt d (isOw o))
  | _ => none
@[simp] theorem retO_some (d o) : retO (some (some (d, o))) = some (.rt d (isOw o)) := rfl
@[simp] theorem isOw_ow : isOw .ow = true := rfl
@[simp] theorem ap_retV (i) : retV i ρ = retO ρ[i]? := by
  unfold retV retO
  congr 1
def getOw : Option (Option (PyData × Own)) → Option (List PyData)
  | some (some (.list ds, .ow)) => some ds
  | _ => none
@[simp] theorem getOw_Ls {α : Type} {e : α → PyData} {l : List α} : getOw (some (some (Ls e l, .ow))) = some (l.map e) := id rfl
@[simp] theorem getOw_list {ds : List PyData} : getOw (some (some (.list ds, .ow))) = some ds := id rfl
@[simp] theorem ap_mutS (i esc u) : mutS i f esc u ρ = (f (dat ρ)).bind fun d => (getOw ((if nn d = true then ρ else dropE esc ρ)[i]?)).bind fun ds => (u ds d).bind fun ds' => some (.nx ((if nn d = true then ρ else dropE esc ρ).set i (some (.list ds', .ow)))) := by
  unfold mutS
  congr 1
  funext d
  split
  · rename_i h; rw [h]; rfl
  · rename_i h
    unfold getOw
    split
    · rename_i h2; exact absurd h2 (h _)
    · rfl
@[simp] theorem ap_sitS (i fi esc) : sitS i fi f esc ρ = (f (dat ρ)).bind fun d => (getOw ((if nn d = true then ρ else dropE esc ρ)[i]?)).bind fun ds => (fi (dat ρ)).bind fun k => (int1 k).bind fun k => (ixN ds.length k).bind fun j => some (.nx ((if nn d = true then ρ else dropE esc ρ).set i (some (.list (ds.set j d), .ow)))) := by
  unfold sitS
  congr 1
  funext d
  split
  · rename_i h; rw [h]; rfl
  · rename_i h
    unfold getOw
    split
    · rename_i h2; exact absurd h2 (h _)
    · rfl
@[simp] theorem ap_insS (i fk esc) : insS i fk f esc ρ = (fk (dat ρ)).bind fun k => (f (dat ρ)).bind fun d => (getOw ((if nn d = true then ρ else dropE esc ρ)[i]?)).bind fun ds => (int1 k).bind fun k => if 0 ≤ k ∧ k < 9223372036854775808 ∧ ds.length < LINE then some (.nx ((if nn d = true then ρ else dropE esc ρ).set i (some (.list (ds.take k.toNat ++ [d] ++ ds.drop k.toNat), .ow)))) else none := by
  unfold insS
  congr 1
  funext k
  congr 1
  funext d
  split
  · rename_i h; rw [h]; rfl
  · rename_i h
    unfold getOw
    split
    · rename_i h2; exact absurd h2 (h _)
    · rfl
@[simp] theorem fold_ins (k x : Nat) (l : List Nat) : PyData.list (List.take k (List.map N l) ++ N x :: List.drop k (List.map N l)) = Ls N (l.take k ++ x :: l.drop k) := by unfold Ls; rw [List.map_append, List.map_take, List.map_cons, List.map_drop]
@[simp] theorem dropE_nil : dropE [] ρ = ρ := rfl
def shE (ρ : PEnv) (i : Nat) : Option (Option (PyData × Own)) → PEnv
  | some (some (d, _)) => ρ.set i (some (d, .sh))
  | _ => ρ
@[simp] theorem shE_some (i d o) : shE ρ i (some (some (d, o))) = ρ.set i (some (d, .sh)) := rfl
@[simp] theorem shE_none (i) : shE ρ i (some none) = ρ := rfl
@[simp] theorem dropE_cons (i is) : dropE (i :: is) ρ = dropE is (shE ρ i ρ[i]?) := by
  unfold dropE
  rw [List.foldl_cons]
  congr 1
def lckE (i : Nat) (ρ : PEnv) : Option (Option (PyData × Own)) → PEnv × Bool
  | some (some (d, .ow)) => (ρ.set i (some (d, .lk)), true)
  | _ => (ρ, false)
@[simp] theorem lckE_ow (i d) : lckE i ρ (some (some (d, .ow))) = (ρ.set i (some (d, .lk)), true) := rfl
@[simp] theorem lckE_sh (i d) : lckE i ρ (some (some (d, .sh))) = (ρ, false) := rfl
@[simp] theorem lockE_n : lockE none ρ = (ρ, false) := rfl
@[simp] theorem lockE_s (i) : lockE (some i) ρ = lckE i ρ ρ[i]? := by
  show (match ρ[i]? with | some (some (d, .ow)) => (ρ.set i (some (d, .lk)), true) | _ => (ρ, false)) = _
  unfold lckE
  congr 1
def ulkE (i : Nat) (ρ : PEnv) : Option (Option (PyData × Own)) → PEnv
  | some (some (d, .lk)) => ρ.set i (some (d, .ow))
  | _ => ρ
@[simp] theorem ulkE_lk (i d) : ulkE i ρ (some (some (d, .lk))) = ρ.set i (some (d, .ow)) := rfl
@[simp] theorem unlockE_f (bv) : unlockE bv false ρ = ρ := by unfold unlockE; cases bv <;> rfl
@[simp] theorem unlockE_t (i) : unlockE (some i) true ρ = ulkE i ρ ρ[i]? := by
  show (match ρ[i]? with | some (some (d, .lk)) => ρ.set i (some (d, .ow)) | _ => ρ) = _
  unfold ulkE
  congr 1
def unl (bv : Option Nat) (lk : Bool) : Fl → Option Fl
  | .nx ρ => some (.nx (unlockE bv lk ρ))
  | .rt d o => some (.rt d o)
@[simp] theorem unl_nx (bv lk ρ) : unl bv lk (.nx ρ) = some (.nx (unlockE bv lk ρ)) := rfl
@[simp] theorem unl_rt (bv lk d o) : unl bv lk (.rt d o) = some (.rt d o) := rfl
@[simp] theorem ap_forS (s esc bv T body) : forS s esc bv T body ρ = (s (dat ρ)).bind fun ds => (goF T body ds (lockE bv (dropE esc ρ)).1).bind (unl bv (lockE bv (dropE esc ρ)).2) := by
  unfold forS
  congr 1
def outF (fr : Bool) : Fl → Option PyData
  | .nx _ => some .none
  | .rt d own => if fr = true ∧ isMut d = true ∧ own = false then none else some d
@[simp] theorem outF_nx (fr ρ) : outF fr (.nx ρ) = some .none := rfl
@[simp] theorem outF_rt (fr d own) : outF fr (.rt d own) = if fr = true ∧ isMut d = true ∧ own = false then none else some d := rfl
@[simp] theorem ap_mkF (np n fr g ds) : mkF np n fr g ds = if ds.length = np then (g (stE n ds)).bind (outF fr) else none := by
  unfold mkF
  congr 1
@[simp] theorem ap_stE (n ds) : stE n ds = ds.map (fun d => some (d, .sh)) ++ List.replicate (n - ds.length) none := rfl
@[simp] theorem dat_cons (x : Option (PyData × Own)) (ρ : PEnv) : dat (x :: ρ) = x.map (·.1) :: dat ρ := rfl
@[simp] theorem dat_nil : dat [] = [] := rfl
@[simp] theorem bindE_nm (i d) : bindE (.nm i) d ρ = some (ρ.set i (some (d, .sh))) := rfl
@[simp] theorem bindE_tp2 {α β : Type} {e : α → PyData} {f : β → PyData} (i j : Nat) (x : α × β) : bindE (.tp [i, j]) (Pr e f x) ρ = some ((ρ.set i (some (e x.1, .sh))).set j (some (f x.2, .sh))) := rfl
def par2 (i j : Nat) (esc : List Nat) (ρ : PEnv) (ds : List PyData) : Option Fl := if ds.length = 2 then some (.nx (setAllE [i, j] ds (if nnL ds = true then ρ else dropE esc ρ))) else none
@[simp] theorem ap_parS (i j fs esc) : parS i j fs esc ρ = (fs (dat ρ)).bind (par2 i j esc ρ) := rfl
@[simp] theorem par2_two (i j esc) (a b : PyData) : par2 i j esc ρ [a, b] = some (.nx (((if (nn a && nn b) = true then ρ else dropE esc ρ).set i (some (a, .sh))).set j (some (b, .sh)))) := by
  unfold par2
  simp [setAllE, nnL_all]
def par3 (i j l : Nat) (esc : List Nat) (ρ : PEnv) (ds : List PyData) : Option Fl := if ds.length = 3 then some (.nx (setAllE [i, j, l] ds (if nnL ds = true then ρ else dropE esc ρ))) else none
@[simp] theorem ap_parS3 (i j l fs esc) : parS3 i j l fs esc ρ = (fs (dat ρ)).bind (par3 i j l esc ρ) := rfl
@[simp] theorem par3_three (i j l esc) (a b c : PyData) : par3 i j l esc ρ [a, b, c] = some (.nx ((((if (nn a && (nn b && nn c)) = true then ρ else dropE esc ρ).set i (some (a, .sh))).set j (some (b, .sh))).set l (some (c, .sh)))) := by
  unfold par3
  simp [setAllE, nnL_all]
theorem whileS_succ (N pt body) : whileS (N + 1) pt body ρ = (pt (dat ρ)).bind fun b => if b = true then (body ρ).bind (nxt (whileS N pt body)) else some (.nx ρ) := by
  rw [whileS]
  congr 1
def tupS (is esc : List Nat) (ρ : PEnv) : PyData → Option Fl
  | .tuple ds => if ds.length = is.length then some (.nx (setAllE is ds (if nn (.tuple ds) = true then ρ else dropE esc ρ))) else none
  | _ => none
@[simp] theorem ap_setTS (is esc) : setTS is f esc ρ = (f (dat ρ)).bind (tupS is esc ρ) := by
  unfold setTS
  congr 1
  funext d
  cases d <;> rfl
@[simp] theorem tupS_2 (i j : Nat) (esc) (a b : PyData) : tupS [i, j] esc ρ (.tuple [a, b]) = some (.nx (((if (nn a && nn b) = true then ρ else dropE esc ρ).set i (some (a, .sh))).set j (some (b, .sh)))) := by
  unfold tupS
  simp [setAllE]
@[simp] theorem tupS_P (i j : Nat) (esc) (x : Nat × Nat) : tupS [i, j] esc ρ (Pr N N x) = some (.nx ((ρ.set i (some (N x.1, .sh))).set j (some (N x.2, .sh)))) := tupS_2 ..
theorem whileS_meas {pt : FT} {body : GS} (I : Nat → PEnv → Prop) (hs : ∀ k ρ, I k ρ → pt (dat ρ) = some false ∨ (pt (dat ρ) = some true ∧ ∃ ρ' k', k' < k ∧ body ρ = some (.nx ρ') ∧ I k' ρ')) : ∀ N k ρ, k < N → I k ρ → ∃ ρ' k', whileS N pt body ρ = some (.nx ρ') ∧ I k' ρ' ∧ pt (dat ρ') = some false
  | 0, _, _, h, _ => by omega
  | N + 1, k, ρ, hk, h => by
    rw [whileS_succ]
    rcases hs k ρ h with h1 | ⟨h1, ρ', k', h2, h3, h4⟩
    · exact ⟨ρ, k, by rw [h1]; rfl, h, h1⟩
    · obtain ⟨ρ2, k2, e1, e2, e3⟩ := whileS_meas I hs N k' ρ' (by omega) h4
      exact ⟨ρ2, k2, by rw [h1, Option.bind_some, if_pos rfl, h3]; exact e1, e2, e3⟩
theorem goF_nil (T body) : goF T body [] ρ = some (.nx ρ) := rfl
theorem goF_cons (T body d ds) : goF T body (d :: ds) ρ = (bindE T d ρ).bind fun ρ' => (body ρ').bind (nxt (goF T body ds)) := by
  rw [goF]
  congr 1
/-- a loop that goes on -/
theorem goF_fold {α S : Type} {e : α → PyData} {T : Tg} {body : GS} (R : S → PEnv → Prop) (F : S → α → S) : ∀ (l : List α) (s : S) (ρ : PEnv),
    (∀ s x ρ, x ∈ l → R s ρ → ∃ ρ', (bindE T (e x) ρ).bind body = some (.nx ρ') ∧ R (F s x) ρ') → R s ρ → ∃ ρ', goF T body (l.map e) ρ = some (.nx ρ') ∧ R (l.foldl F s) ρ'
  | [], s, ρ, _, h => ⟨ρ, rfl, h⟩
  | x :: l, s, ρ, hs, h => by
    obtain ⟨ρ1, h1, h2⟩ := hs s x ρ (List.mem_cons_self ..) h
    obtain ⟨ρ2, h3, h4⟩ := goF_fold R F l (F s x) ρ1 (fun s y ρ hy => hs s y ρ (List.mem_cons_of_mem _ hy)) h2
    refine ⟨ρ2, ?_, h4⟩
    rw [List.map_cons, goF_cons]
    cases hb : bindE T (e x) ρ with
    | none => rw [hb] at h1; cases h1
    | some ρ' =>
      rw [hb] at h1
      rw [Option.bind_some] at h1 ⊢
      rw [h1]
      exact h3
/-- a loop that goes on, with what holds after each part -/
theorem goF_inv {α : Type} {e : α → PyData} {T : Tg} {body : GS} (I : List α → PEnv → Prop) (l : List α) (ρ : PEnv) (h0 : I [] ρ)
    (hs : ∀ pre x post ρ, l = pre ++ x :: post → I pre ρ → ∃ ρ', (bindE T (e x) ρ).bind body = some (.nx ρ') ∧ I (pre ++ [x]) ρ') : ∃ ρ', goF T body (l.map e) ρ = some (.nx ρ') ∧ I l ρ' := by
  suffices H : ∀ (r pre : List α) (ρ : PEnv), l = pre ++ r → I pre ρ → ∃ ρ', goF T body (r.map e) ρ = some (.nx ρ') ∧ I l ρ' from H l [] ρ rfl h0
  intro r
  induction r with
  | nil => intro pre ρ hl h; exact ⟨ρ, rfl, by rw [hl, List.append_nil]; exact h⟩
  | cons x r ih =>
    intro pre ρ hl h
    obtain ⟨ρ1, h1, h2⟩ := hs pre x r ρ hl h
    obtain ⟨ρ2, h3, h4⟩ := ih (pre ++ [x]) ρ1 (by rw [hl, List.append_assoc]; rfl) h2
    refine ⟨ρ2, ?_, h4⟩
    rw [List.map_cons, goF_cons]
    cases hb : bindE T (e x) ρ with
    | none => rw [hb] at h1; cases h1
    | some ρ' =>
      rw [hb] at h1
      rw [Option.bind_some] at h1 ⊢
      rw [h1]
      exact h3
theorem lcGo_map {α β : Type} {e : α → PyData} {e' : β → PyData} {st : PyData → Option (Option PyData)} (g : α → β) : ∀ {l : List α}, (∀ x ∈ l, st (e x) = some (some (e' (g x)))) → lcGo st (l.map e) = some ((l.map g).map e')
  | [], _ => rfl
  | x :: l, h => by
    rw [List.map_cons, lcGo, h x (List.mem_cons_self ..), lcGo_map g (fun y hy => h y (List.mem_cons_of_mem _ hy))]
    rfl
theorem lcGo_filter {α β : Type} {e : α → PyData} {e' : β → PyData} {st : PyData → Option (Option PyData)} (p : α → Bool) (g : α → β) : ∀ {l : List α}, (∀ x ∈ l, st (e x) = some (if p x = true then some (e' (g x)) else none)) → lcGo st (l.map e) = some (((l.filter p).map g).map e')
  | [], _ => rfl
  | x :: l, h => by
    rw [List.map_cons, lcGo, h x (List.mem_cons_self ..), lcGo_filter p g (fun y hy => h y (List.mem_cons_of_mem _ hy))]
    by_cases hp : p x = true
    · simp [hp, optCons]
    · simp [hp, optCons]
@[simp] theorem wipe_nil (δ : Dt) : wipeD δ [] = δ := rfl
@[simp] theorem wipe_cons (δ : Dt) (i is) : wipeD δ (i :: is) = (wipeD δ is).set i none := rfl
theorem lcD_map {α β : Type} {e : α → PyData} {e' : β → PyData} {s T vs p f} {δ : Dt} (l : List α) (g : α → β) (hs : s δ = some (l.map e)) (h : ∀ x ∈ l, lcStep T p f (wipeD δ vs) (e x) = some (some (e' (g x)))) (hl : l.length ≤ LINE) : lcD s T vs p f δ = some (Ls e' (l.map g)) := by
  unfold lcD
  rw [hs, Option.bind_some, lcGo_map g h, Option.bind_some, if_pos (by simpa using hl)]
  rfl
theorem lcD_filter {α β : Type} {e : α → PyData} {e' : β → PyData} {s T vs p f} {δ : Dt} (l : List α) (q : α → Bool) (g : α → β) (hs : s δ = some (l.map e)) (h : ∀ x ∈ l, lcStep T p f (wipeD δ vs) (e x) = some (if q x = true then some (e' (g x)) else none)) (hl : l.length ≤ LINE) : lcD s T vs p f δ = some (Ls e' ((l.filter q).map g)) := by
  unfold lcD
  rw [hs, Option.bind_some, lcGo_filter q g h, Option.bind_some, if_pos (by have := List.length_filter_le q l; simp; omega)]
  rfl
end
end PM

open PySem PySem.Spec PyProof.Rows L2
namespace PM
def topS (i : Nat) : Stmt := PySem.Challenge.pw_pointmaps_k85_orders_and_signs.main.body.getD i (.Pass ⟨0, 0, 0, 0⟩)
/-! ### walk_from -/
abbrev s_p_walk_from : Stmt := topS 1
theorem sc_p_walk_from : FnScope ["mapping", "start", "found", "point"] ["mapping", "start"] (defScope s_p_walk_from) := ⟨rfl, rfl, rfl, by decide +kernel, rfl, by decide +kernel, by decide +kernel⟩
def B1_p_walk_from : GS :=
  (seqG (mutS 2 (vr 3) [3] apD)
    (setS 3 (bind2 (vr 0) (vr 3) ixD) ([] ++ []) false))
def G_p_walk_from : GS :=
  (seqG (setS 2 (mkLs (fun _ => some [])) [] true)
    (seqG (setS 3 (vr 1) [1] false)
    (seqG (whileS 1000000 (tst (bind2 (vr 3) (vr 2) notInD))
    B1_p_walk_from)
    (retV 2))))
def F_p_walk_from : Fn := mkF 2 4 true G_p_walk_from
/-! ### loop_behind -/
abbrev s_p_loop_behind : Stmt := topS 2
theorem sc_p_loop_behind : FnScope ["mapping", "point", "walk", "loop", "least"] ["mapping", "point"] (defScope s_p_loop_behind) := ⟨rfl, rfl, rfl, by decide +kernel, rfl, by decide +kernel, by decide +kernel⟩
def G_p_loop_behind : GS :=
  (seqG (setS 2 (callD F_p_walk_from (ac (vr 0) (ac (vr 1) (fun _ => some [])))) ([0] ++ ([1] ++ [])) true)
    (seqG (setS 3 (slS (vr 2) (ioS (bind2 (vr 2) (bind2 (vr 0) (bind2 (vr 2) (bind1 (kst (.int 1)) negD) ixD) ixD) indexD)) (fun _ => some none)) [] true)
    (seqG (setS 4 (bind2 (vr 3) (bind1 (vr 3) minD) indexD) ([] ++ []) true)
    (retS (bind2 (slS (vr 3) (ioS (vr 4)) (fun _ => some none)) (slS (vr 3) (fun _ => some none) (ioS (vr 4))) addD) true))))
def F_p_loop_behind : Fn := mkF 2 5 true G_p_loop_behind
/-! ### loops -/
abbrev s_p_loops : Stmt := topS 3
theorem sc_p_loops : FnScope ["mapping", "found", "point", "loop"] ["mapping"] (defScope s_p_loops) := ⟨rfl, rfl, rfl, by decide +kernel, rfl, by decide +kernel, by decide +kernel⟩
def B1_p_loops : GS :=
  (seqG (setS 3 (callD F_p_loop_behind (ac (vr 0) (ac (vr 2) (fun _ => some [])))) ([0] ++ ([2] ++ [])) true)
    (ifS (tst (bind2 (vr 3) (vr 1) notInD))
    (mutS 1 (vr 3) [3] apD)
    (fun ρ => some (.nx ρ))))
def G_p_loops : GS :=
  (seqG (setS 1 (mkLs (fun _ => some [])) [] true)
    (seqG (forS (itr1 (bind1 (vr 0) lenD)) [] none (.nm 2)
    B1_p_loops)
    (retS (bind1 (vr 1) sortD) true)))
def F_p_loops : Fn := mkF 1 4 true G_p_loops
/-! ### common_part -/
abbrev s_p_common_part : Stmt := topS 5
theorem sc_p_common_part : FnScope ["first", "second"] ["first", "second"] (defScope s_p_common_part) := ⟨rfl, rfl, rfl, by decide +kernel, rfl, by decide +kernel, by decide +kernel⟩
def B1_p_common_part : GS :=
  (parS 0 1 (ac (vr 1) (ac (bind2 (vr 0) (vr 1) modD) (fun _ => some []))) ([1] ++ (([] ++ []) ++ [])))
def G_p_common_part : GS :=
  (seqG (whileS 1000000 (tst (bind2 (vr 1) (kst (.int 0)) (cmpD fun i j => decide (j < i))))
    B1_p_common_part)
    (retV 0))
def F_p_common_part : Fn := mkF 2 2 true G_p_common_part
/-! ### order_of -/
abbrev s_p_order_of : Stmt := topS 6
theorem sc_p_order_of : FnScope ["mapping", "order", "loop"] ["mapping"] (defScope s_p_order_of) := ⟨rfl, rfl, rfl, by decide +kernel, rfl, by decide +kernel, by decide +kernel⟩
def B1_p_order_of : GS :=
  (setS 1 (bind2 (bind2 (vr 1) (bind1 (vr 2) lenD) mulD) (callD F_p_common_part (ac (vr 1) (ac (bind1 (vr 2) lenD) (fun _ => some [])))) fdivD) (([] ++ []) ++ ([1] ++ ([] ++ []))) true)
def G_p_order_of : GS :=
  (seqG (setS 1 (kst (.int 1)) [] true)
    (seqG (forS (itm (callD F_p_loops (ac (vr 0) (fun _ => some [])))) ([0] ++ []) none (.nm 2)
    B1_p_order_of)
    (retV 1)))
def F_p_order_of : Fn := mkF 1 3 true G_p_order_of
/-! ### sign_of -/
abbrev s_p_sign_of : Stmt := topS 7
theorem sc_p_sign_of : FnScope ["mapping", "sign", "j", "i"] ["mapping"] (defScope s_p_sign_of) := ⟨rfl, rfl, rfl, by decide +kernel, rfl, by decide +kernel, by decide +kernel⟩
def B1_p_sign_of : GS :=
  (ifS (tst (bind2 (bind2 (vr 0) (vr 3) ixD) (bind2 (vr 0) (vr 2) ixD) (cmpD fun i j => decide (j < i))))
    (setS 1 (bind1 (vr 1) negD) [] true)
    (fun ρ => some (.nx ρ)))
def B2_p_sign_of : GS :=
  (forS (itr1 (vr 2)) [] none (.nm 3)
    B1_p_sign_of)
def G_p_sign_of : GS :=
  (seqG (setS 1 (kst (.int 1)) [] true)
    (seqG (forS (itr1 (bind1 (vr 0) lenD)) [] none (.nm 2)
    B2_p_sign_of)
    (retV 1)))
def F_p_sign_of : Fn := mkF 1 4 true G_p_sign_of
/-! ### _law_draws -/
abbrev s_law_draws : Stmt := topS 9
theorem sc_law_draws : FnScope ["script", "many", "found", "cell", "number", "k", "mixed", "base"] ["script", "many"] (defScope s_law_draws) := ⟨rfl, rfl, rfl, by decide +kernel, rfl, by decide +kernel, by decide +kernel⟩
def B1_law_draws : GS :=
  (ifS (tst (bind2 (vr 4) (kst (.int 0)) (cmpD fun i j => decide (j < i))))
    (seqG (mutS 2 (bind2 (vr 4) (kst (.int 1000003)) modD) ([] ++ []) apD)
    (setS 4 (bind2 (vr 4) (kst (.int 1000003)) fdivD) ([] ++ []) true))
    (fun ρ => some (.nx ρ)))
def B2_law_draws : GS :=
  (seqG (setS 6 (bind2 (bind2 (bind2 (bind2 (bind2 (vr 6) (kst (.int 69621)) mulD) (bind2 (vr 6) (kst (.int 65536)) fdivD) addD) (bind2 (kst (.int 13)) (vr 5) mulD) addD) (kst (.int 5)) addD) (kst (.int 2147483629)) modD) ((((([] ++ []) ++ ([] ++ [])) ++ ([] ++ [])) ++ []) ++ []) true)
    (mutS 2 (bind2 (bind2 (vr 6) (kst (.int 8)) fdivD) (kst (.int 1000003)) modD) (([] ++ []) ++ []) apD))
def B3_law_draws : GS :=
  (seqG (setS 4 (bind1 (bind1 (vr 3) intD) absD) [] true)
    (ifS (tst (bind2 (vr 4) (bind2 (kst (.int 10)) (kst (.int 18)) powD) (cmpD fun i j => decide (j ≤ i))))
    (forS (itr1 (kst (.int 60))) [] none (.nm 5)
    B1_law_draws)
    (seqG (setS 6 (bind2 (bind2 (bind2 (bind2 (vr 4) (kst (.int 48271)) mulD) (bind2 (kst (.int 7)) (bind1 (vr 2) lenD) mulD) addD) (kst (.int 11)) addD) (kst (.int 2147483647)) modD) (((([] ++ []) ++ ([] ++ [])) ++ []) ++ []) true)
    (forS (itr1 (kst (.int 4))) [] none (.nm 5)
    B2_law_draws))))
def B4_law_draws : GS :=
  (ifS (tst (bind2 (bind1 (vr 2) lenD) (vr 1) (cmpD fun i j => decide (i < j))))
    (seqG (setS 7 (kst (.int 0)) [] true)
    (seqG (ifS (tst (bind2 (bind1 (vr 2) lenD) (kst (.int 0)) (cmpD fun i j => decide (j < i))))
    (setS 7 (bind2 (vr 2) (bind2 (vr 5) (bind1 (vr 2) lenD) modD) ixD) ([] ++ ([] ++ [])) false)
    (fun ρ => some (.nx ρ)))
    (mutS 2 (bind2 (bind2 (bind2 (bind2 (vr 7) (kst (.int 16807)) mulD) (bind2 (kst (.int 31)) (bind1 (vr 2) lenD) mulD) addD) (kst (.int 17)) addD) (kst (.int 1000003)) modD) (((([] ++ []) ++ ([] ++ [])) ++ []) ++ []) apD)))
    (fun ρ => some (.nx ρ)))
def G_law_draws : GS :=
  (seqG (setS 2 (mkLs (fun _ => some [])) [] true)
    (seqG (forS (itm (slS (vr 0) (fun _ => some none) (ioS (kst (.int 63))))) [] none (.nm 3)
    B3_law_draws)
    (seqG (forS (itr1 (vr 1)) [] none (.nm 5)
    B4_law_draws)
    (retS (slS (vr 2) (fun _ => some none) (ioS (vr 1))) true))))
def F_law_draws : Fn := mkF 2 8 true G_law_draws
/-! ### _law_cell -/
abbrev s_law_cell : Stmt := topS 10
theorem sc_law_cell : FnScope ["draws", "k"] ["draws", "k"] (defScope s_law_cell) := ⟨rfl, rfl, rfl, by decide +kernel, rfl, by decide +kernel, by decide +kernel⟩
def G_law_cell : GS :=
  (seqG (ifS (tst (bind2 (vr 1) (bind1 (vr 0) lenD) (cmpD fun i j => decide (i < j))))
    (retS (bind2 (vr 0) (vr 1) ixD) false)
    (fun ρ => some (.nx ρ)))
    (retS (bind2 (bind2 (bind2 (bind2 (bind2 (vr 0) (bind2 (vr 1) (bind1 (vr 0) lenD) modD) ixD) (kst (.int 31)) mulD) (bind2 (bind2 (vr 0) (bind2 (bind2 (kst (.int 7)) (vr 1) mulD) (bind1 (vr 0) lenD) modD) ixD) (kst (.int 17)) mulD) addD) (bind2 (kst (.int 101)) (vr 1) mulD) addD) (kst (.int 1000003)) modD) true))
def F_law_cell : Fn := mkF 2 2 false G_law_cell
/-! ### _law_is_number -/
abbrev s_law_is_number : Stmt := topS 11
theorem sc_law_is_number : FnScope ["value"] ["value"] (defScope s_law_is_number) := ⟨rfl, rfl, rfl, by decide +kernel, rfl, by decide +kernel, by decide +kernel⟩
def G_law_is_number : GS :=
  (retS (andV (bind1 (vr 0) (isiD "int")) (notV (bind1 (vr 0) (isiD "bool")))) true)
def F_law_is_number : Fn := mkF 1 1 true G_law_is_number
/-! ### _law_turning -/
abbrev s_law_turning : Stmt := topS 12
theorem sc_law_turning : FnScope ["draws", "at", "n", "line", "point"] ["draws", "at", "n"] (defScope s_law_turning) := ⟨rfl, rfl, rfl, by decide +kernel, rfl, by decide +kernel, by decide +kernel⟩
def B1_law_turning : GS :=
  (insS 3 (bind2 (bind2 (callD F_law_cell (ac (vr 0) (ac (bind2 (vr 1) (vr 4) addD) (fun _ => some [])))) (kst (.int 5)) fdivD) (bind2 (vr 4) (kst (.int 1)) addD) modD) (vr 4) [4])
def G_law_turning : GS :=
  (seqG (setS 3 (mkLs (fun _ => some [])) [] true)
    (seqG (forS (itr1 (vr 2)) [] none (.nm 4)
    B1_law_turning)
    (retS (bind1 (vr 3) tupleD) true)))
def F_law_turning : Fn := mkF 3 5 true G_law_turning
/-! ### _law_then -/
abbrev s_law_then : Stmt := topS 13
theorem sc_law_then : FnScope ["first", "second", "point"] ["first", "second"] (defScope s_law_then) := ⟨rfl, rfl, rfl, by decide +kernel, rfl, by decide +kernel, by decide +kernel⟩
def G_law_then : GS :=
  (retS (bind1 (lcD (itm (vr 0)) (.nm 2) [2] (fun _ => some true) (bind2 (vr 1) (vr 2) ixD)) tupleD) true)
def F_law_then : Fn := mkF 2 3 true G_law_then
/-! ### _law_back -/
abbrev s_law_back : Stmt := topS 14
theorem sc_law_back : FnScope ["mapping", "found", "point"] ["mapping"] (defScope s_law_back) := ⟨rfl, rfl, rfl, by decide +kernel, rfl, by decide +kernel, by decide +kernel⟩
def B1_law_back : GS :=
  (sitS 1 (bind2 (vr 0) (vr 2) ixD) (vr 2) [2])
def G_law_back : GS :=
  (seqG (setS 1 (bind2 (mkLs (ac (kst (.int 0)) (fun _ => some []))) (bind1 (vr 0) lenD) mulD) (([] ++ []) ++ []) true)
    (seqG (forS (itr1 (bind1 (vr 0) lenD)) [] none (.nm 2)
    B1_law_back)
    (retS (bind1 (vr 1) tupleD) true)))
def F_law_back : Fn := mkF 1 3 true G_law_back
/-! ### _law_rest -/
abbrev s_law_rest : Stmt := topS 15
theorem sc_law_rest : FnScope ["n"] ["n"] (defScope s_law_rest) := ⟨rfl, rfl, rfl, by decide +kernel, rfl, by decide +kernel, by decide +kernel⟩
def G_law_rest : GS :=
  (retS (tupRg (rg1 (vr 0))) true)
def F_law_rest : Fn := mkF 1 1 true G_law_rest
/-! ### _law_on_loops -/
abbrev s_law_on_loops : Stmt := topS 16
theorem sc_law_on_loops : FnScope ["mapping", "found", "turn", "point"] ["mapping"] (defScope s_law_on_loops) := ⟨rfl, rfl, rfl, by decide +kernel, rfl, by decide +kernel, by decide +kernel⟩
def B1_law_on_loops : GS :=
  (setS 1 (bind1 (lcD (itm (vr 1)) (.nm 3) [3] (fun _ => some true) (bind2 (vr 0) (vr 3) ixD)) sortSetD) ([] ++ ([] ++ [])) true)
def G_law_on_loops : GS :=
  (seqG (setS 1 (lstRg (rg1 (bind1 (vr 0) lenD))) [] true)
    (seqG (forS (itr1 (bind1 (vr 0) lenD)) [] none (.nm 2)
    B1_law_on_loops)
    (retV 1)))
def F_law_on_loops : Fn := mkF 1 4 true G_law_on_loops
/-! ### _law_loops -/
abbrev s_law_loops : Stmt := topS 17
theorem sc_law_loops : FnScope ["mapping", "found", "seen", "point", "loop"] ["mapping"] (defScope s_law_loops) := ⟨rfl, rfl, rfl, by decide +kernel, rfl, by decide +kernel, by decide +kernel⟩
def B1_law_loops : GS :=
  (mutS 4 (bind2 (vr 0) (bind2 (vr 4) (bind1 (kst (.int 1)) negD) ixD) ixD) ([] ++ ([] ++ [])) apD)
def B2_law_loops : GS :=
  (ifS (tst (bind2 (vr 3) (vr 2) notInD))
    (seqG (setS 4 (mkLs (ac (vr 3) (fun _ => some []))) ([3] ++ []) true)
    (seqG (whileS 1000000 (tst (bind2 (bind2 (vr 0) (bind2 (vr 4) (bind1 (kst (.int 1)) negD) ixD) ixD) (vr 3) neD))
    B1_law_loops)
    (seqG (setS 2 (bind2 (vr 2) (vr 4) addD) ([] ++ []) true)
    (mutS 1 (vr 4) [4] apD))))
    (fun ρ => some (.nx ρ)))
def G_law_loops : GS :=
  (seqG (setS 1 (mkLs (fun _ => some [])) [] true)
    (seqG (setS 2 (mkLs (fun _ => some [])) [] true)
    (seqG (forS (itm (callD F_law_on_loops (ac (vr 0) (fun _ => some [])))) ([0] ++ []) none (.nm 3)
    B2_law_loops)
    (retV 1))))
def F_law_loops : Fn := mkF 1 5 true G_law_loops
/-! ### _law_moved -/
abbrev s_law_moved : Stmt := topS 18
theorem sc_law_moved : FnScope ["mapping", "h", "found", "point"] ["mapping", "h"] (defScope s_law_moved) := ⟨rfl, rfl, rfl, by decide +kernel, rfl, by decide +kernel, by decide +kernel⟩
def B1_law_moved : GS :=
  (sitS 2 (bind2 (vr 1) (vr 3) ixD) (bind2 (vr 1) (bind2 (vr 0) (vr 3) ixD) ixD) ([] ++ ([] ++ [])))
def G_law_moved : GS :=
  (seqG (setS 2 (bind2 (mkLs (ac (kst (.int 0)) (fun _ => some []))) (bind1 (vr 0) lenD) mulD) (([] ++ []) ++ []) true)
    (seqG (forS (itr1 (bind1 (vr 0) lenD)) [] none (.nm 3)
    B1_law_moved)
    (retS (bind1 (vr 2) tupleD) true)))
def F_law_moved : Fn := mkF 2 4 true G_law_moved
/-! ### _law_common -/
abbrev s_law_common : Stmt := topS 19
theorem sc_law_common : FnScope ["first", "second"] ["first", "second"] (defScope s_law_common) := ⟨rfl, rfl, rfl, by decide +kernel, rfl, by decide +kernel, by decide +kernel⟩
def B1_law_common : GS :=
  (parS 0 1 (ac (vr 1) (ac (bind2 (vr 0) (vr 1) modD) (fun _ => some []))) ([1] ++ (([] ++ []) ++ [])))
def G_law_common : GS :=
  (seqG (whileS 1000000 (tst (bind2 (vr 1) (kst (.int 0)) neD))
    B1_law_common)
    (retV 0))
def F_law_common : Fn := mkF 2 2 true G_law_common
/-! ### _law_order -/
abbrev s_law_order : Stmt := topS 20
theorem sc_law_order : FnScope ["mapping", "order", "loop"] ["mapping"] (defScope s_law_order) := ⟨rfl, rfl, rfl, by decide +kernel, rfl, by decide +kernel, by decide +kernel⟩
def B1_law_order : GS :=
  (setS 1 (bind2 (vr 1) (bind2 (bind1 (vr 2) lenD) (callD F_law_common (ac (vr 1) (ac (bind1 (vr 2) lenD) (fun _ => some [])))) fdivD) mulD) ([] ++ ([] ++ ([1] ++ ([] ++ [])))) true)
def G_law_order : GS :=
  (seqG (setS 1 (kst (.int 1)) [] true)
    (seqG (forS (itm (callD F_law_loops (ac (vr 0) (fun _ => some [])))) ([0] ++ []) none (.nm 2)
    B1_law_order)
    (retV 1)))
def F_law_order : Fn := mkF 1 3 true G_law_order
/-! ### _law_order_walked -/
abbrev s_law_order_walked : Stmt := topS 21
theorem sc_law_order_walked : FnScope ["mapping", "times", "made"] ["mapping"] (defScope s_law_order_walked) := ⟨rfl, rfl, rfl, by decide +kernel, rfl, by decide +kernel, by decide +kernel⟩
def B1_law_order_walked : GS :=
  (seqG (setS 2 (callD F_law_then (ac (vr 2) (ac (vr 0) (fun _ => some [])))) ([2] ++ ([0] ++ [])) true)
    (setS 1 (bind2 (vr 1) (kst (.int 1)) addD) ([] ++ []) true))
def G_law_order_walked : GS :=
  (seqG (parS 1 2 (ac (kst (.int 1)) (ac (vr 0) (fun _ => some []))) ([] ++ ([0] ++ [])))
    (seqG (whileS 1000000 (tst (bind2 (vr 2) (callD F_law_rest (ac (bind1 (vr 0) lenD) (fun _ => some []))) neD))
    B1_law_order_walked)
    (retV 1)))
def F_law_order_walked : Fn := mkF 1 3 true G_law_order_walked
/-! ### _law_sign -/
abbrev s_law_sign : Stmt := topS 22
theorem sc_law_sign : FnScope ["mapping", "turned", "j", "i"] ["mapping"] (defScope s_law_sign) := ⟨rfl, rfl, rfl, by decide +kernel, rfl, by decide +kernel, by decide +kernel⟩
def B1_law_sign : GS :=
  (setS 1 (bind2 (vr 1) (bind1 (lcD (itr1 (vr 2)) (.nm 3) [3] (tst (bind2 (bind2 (vr 0) (vr 3) ixD) (bind2 (vr 0) (vr 2) ixD) (cmpD fun i j => decide (j < i)))) (vr 3)) lenD) addD) ([] ++ ([] ++ [3])) true)
def G_law_sign : GS :=
  (seqG (setS 1 (kst (.int 0)) [] true)
    (seqG (forS (itr1 (bind1 (vr 0) lenD)) [] none (.nm 2)
    B1_law_sign)
    (retS (bind2 (kst (.int 1)) (bind2 (kst (.int 2)) (bind2 (vr 1) (kst (.int 2)) modD) mulD) subD) true)))
def F_law_sign : Fn := mkF 1 4 true G_law_sign
/-! ### _law_told -/
abbrev s_law_told : Stmt := topS 23
theorem sc_law_told : FnScope ["mapping", "n", "order", "sign"] ["mapping"] (defScope s_law_told) := ⟨rfl, rfl, rfl, by decide +kernel, rfl, by decide +kernel, by decide +kernel⟩
def G_law_told : GS :=
  (seqG (setS 1 (bind1 (vr 0) lenD) [] true)
    (seqG (parS 2 3 (ac (callD F_p_order_of (ac (vr 0) (fun _ => some []))) (ac (callD F_p_sign_of (ac (vr 0) (fun _ => some []))) (fun _ => some []))) (([0] ++ []) ++ (([0] ++ []) ++ [])))
    (seqG (ifS (orT (notT (tru (callD F_law_is_number (ac (vr 2) (fun _ => some []))))) (orT (notT (tru (callD F_law_is_number (ac (vr 3) (fun _ => some []))))) (orT (tst (bind2 (vr 2) (callD F_law_order (ac (vr 0) (fun _ => some []))) neD)) (tst (bind2 (vr 3) (callD F_law_sign (ac (vr 0) (fun _ => some []))) neD)))))
    (retS (kst .none) true)
    (fun ρ => some (.nx ρ)))
    (seqG (ifS (orT (andT (tst (bind2 (vr 1) (kst (.int 12)) (cmpD fun i j => decide (i ≤ j)))) (tst (bind2 (vr 2) (callD F_law_order_walked (ac (vr 0) (fun _ => some []))) neD))) (tst (bind2 (vr 3) (bind2 (kst (.int 1)) (bind2 (kst (.int 2)) (bind2 (bind2 (vr 1) (bind1 (callD F_law_loops (ac (vr 0) (fun _ => some []))) lenD) subD) (kst (.int 2)) modD) mulD) subD) neD)))
    (retS (kst .none) true)
    (fun ρ => some (.nx ρ)))
    (seqG (ifS (orT (tst (bind2 (callD F_p_order_of (ac (callD F_law_back (ac (vr 0) (fun _ => some []))) (fun _ => some []))) (vr 2) neD)) (tst (bind2 (callD F_p_sign_of (ac (callD F_law_back (ac (vr 0) (fun _ => some []))) (fun _ => some []))) (vr 3) neD)))
    (retS (kst .none) true)
    (fun ρ => some (.nx ρ)))
    (retS (mkTs (ac (vr 2) (ac (vr 3) (fun _ => some [])))) true))))))
def F_law_told : Fn := mkF 1 4 true G_law_told
/-! ### _law_of_loops -/
abbrev s_law_of_loops : Stmt := topS 24
theorem sc_law_of_loops : FnScope ["draws", "at", "n", "goals", "length", "start", "k"] ["draws", "at", "n"] (defScope s_law_of_loops) := ⟨rfl, rfl, rfl, by decide +kernel, rfl, by decide +kernel, by decide +kernel⟩
def B1_law_of_loops : GS :=
  (seqG (setS 4 (bind2 (bind2 (vr 2) (bind1 (vr 3) lenD) subD) (bind2 (mkLs (ac (kst (.int 2)) (ac (kst (.int 5)) (ac (kst (.int 1)) (ac (kst (.int 3)) (ac (kst (.int 4)) (ac (kst (.int 7)) (ac (kst (.int 2)) (ac (kst (.int 6)) (fun _ => some [])))))))))) (bind2 (callD F_law_cell (ac (vr 0) (ac (bind2 (vr 1) (bind1 (vr 3) lenD) addD) (fun _ => some [])))) (kst (.int 8)) modD) ixD) min2D) (([] ++ []) ++ (([] ++ ([] ++ ([] ++ ([] ++ ([] ++ ([] ++ ([] ++ ([] ++ [])))))))) ++ (([0] ++ (([] ++ []) ++ [])) ++ []))) true)
    (seqG (setS 5 (bind1 (vr 3) lenD) [] true)
    (setS 3 (bind2 (vr 3) (lcD (itr1 (vr 4)) (.nm 6) [6] (fun _ => some true) (bind2 (vr 5) (bind2 (bind2 (vr 6) (kst (.int 1)) addD) (vr 4) modD) addD)) addD) ([] ++ ([] ++ ([] ++ (([] ++ []) ++ [])))) true)))
def G_law_of_loops : GS :=
  (seqG (setS 3 (mkLs (fun _ => some [])) [] true)
    (seqG (whileS 1000000 (tst (bind2 (bind1 (vr 3) lenD) (vr 2) (cmpD fun i j => decide (i < j))))
    B1_law_of_loops)
    (retS (bind1 (vr 3) tupleD) true)))
def F_law_of_loops : Fn := mkF 3 7 true G_law_of_loops
/-! ### law -/
abbrev s_p_law : Stmt := topS 25
theorem sc_p_law : FnScope ["script", "draws", "n", "h", "looped", "ring", "point", "one", "other", "first", "second", "both", "i", "j", "swap", "told"] ["script"] (defScope s_p_law) := ⟨rfl, rfl, rfl, by decide +kernel, rfl, by decide +kernel, by decide +kernel⟩
def B1_p_law : GS :=
  (seqG (parS3 9 10 11 (ac (callD F_law_told (ac (vr 7) (fun _ => some []))) (ac (callD F_law_told (ac (vr 8) (fun _ => some []))) (ac (callD F_law_told (ac (callD F_law_then (ac (vr 7) (ac (vr 8) (fun _ => some [])))) (fun _ => some []))) (fun _ => some [])))) (([7] ++ []) ++ (([8] ++ []) ++ ((([7] ++ ([8] ++ [])) ++ []) ++ []))))
    (ifS (orT (tst (bind2 (vr 9) (kst .none) isND)) (orT (tst (bind2 (vr 10) (kst .none) isND)) (orT (tst (bind2 (vr 11) (kst .none) isND)) (orT (tst (bind2 (bind2 (vr 11) (kst (.int 1)) ixD) (bind2 (bind2 (vr 9) (kst (.int 1)) ixD) (bind2 (vr 10) (kst (.int 1)) ixD) mulD) neD)) (tst (bind2 (callD F_law_told (ac (callD F_law_moved (ac (vr 7) (ac (vr 3) (fun _ => some [])))) (fun _ => some []))) (vr 9) neD))))))
    (retS (kst (.bool false)) true)
    (fun ρ => some (.nx ρ))))
def G_p_law : GS :=
  (seqG (setS 1 (callD F_law_draws (ac (vr 0) (ac (kst (.int 60)) (fun _ => some [])))) ([0] ++ ([] ++ [])) true)
    (seqG (setS 2 (bind2 (kst (.int 1)) (bind2 (bind2 (vr 1) (kst (.int 0)) ixD) (kst (.int 12)) modD) addD) ([] ++ (([] ++ []) ++ [])) true)
    (seqG (ifS (tst (bind2 (bind2 (bind2 (vr 1) (kst (.int 1)) ixD) (kst (.int 16)) modD) (kst (.int 5)) eqD))
    (setS 2 (kst (.int 60)) [] true)
    (fun ρ => some (.nx ρ)))
    (seqG (setS 3 (callD F_law_turning (ac (vr 1) (ac (kst (.int 8)) (ac (vr 2) (fun _ => some []))))) ([1] ++ ([] ++ ([2] ++ []))) true)
    (seqG (setS 4 (callD F_law_of_loops (ac (vr 1) (ac (kst (.int 20)) (ac (vr 2) (fun _ => some []))))) ([1] ++ ([] ++ ([2] ++ []))) true)
    (seqG (setS 5 (bind1 (lcD (itr1 (vr 2)) (.nm 6) [6] (fun _ => some true) (bind2 (bind2 (vr 6) (kst (.int 1)) addD) (vr 2) modD)) tupleD) ([] ++ (([] ++ []) ++ [])) true)
    (seqG (forS (itm (mkLs (ac (mkTs (ac (vr 3) (ac (callD F_law_turning (ac (vr 1) (ac (kst (.int 30)) (ac (vr 2) (fun _ => some []))))) (fun _ => some [])))) (ac (mkTs (ac (vr 4) (ac (vr 3) (fun _ => some [])))) (ac (mkTs (ac (vr 5) (ac (vr 4) (fun _ => some [])))) (ac (mkTs (ac (callD F_law_rest (ac (vr 2) (fun _ => some []))) (ac (vr 3) (fun _ => some [])))) (fun _ => some []))))))) (([3] ++ (([1] ++ ([] ++ ([2] ++ []))) ++ [])) ++ (([4] ++ ([3] ++ [])) ++ (([5] ++ ([4] ++ [])) ++ ((([2] ++ []) ++ ([3] ++ [])) ++ [])))) none (.tp [7, 8])
    B1_p_law)
    (seqG (parS 12 13 (ac (bind2 (bind2 (vr 1) (kst (.int 2)) ixD) (vr 2) modD) (ac (bind2 (bind2 (vr 1) (kst (.int 3)) ixD) (vr 2) modD) (fun _ => some []))) ((([] ++ []) ++ []) ++ ((([] ++ []) ++ []) ++ [])))
    (seqG (setS 14 (bind1 (callD F_law_rest (ac (vr 2) (fun _ => some []))) listD) ([2] ++ []) true)
    (seqG (swpS 14 (vr 12) 14 (vr 13) (mkTs (ac (vr 13) (ac (vr 12) (fun _ => some [])))))
    (seqG (setS 15 (callD F_law_told (ac (bind1 (vr 14) tupleD) (fun _ => some []))) ([] ++ []) true)
    (seqG (ifS (orT (tst (bind2 (vr 15) (bind2 (mkLs (ac (mkTs (ac (kst (.int 2)) (ac (bind1 (kst (.int 1)) negD) (fun _ => some [])))) (ac (mkTs (ac (kst (.int 1)) (ac (kst (.int 1)) (fun _ => some [])))) (fun _ => some [])))) (bind1 (bind2 (vr 12) (vr 13) eqD) intD) ixD) neD)) (tst (bind2 (callD F_law_told (ac (vr 5) (fun _ => some []))) (mkTs (ac (vr 2) (ac (bind2 (kst (.int 1)) (bind2 (kst (.int 2)) (bind2 (bind2 (vr 2) (kst (.int 1)) subD) (kst (.int 2)) modD) mulD) subD) (fun _ => some [])))) neD)))
    (retS (kst (.bool false)) true)
    (fun ρ => some (.nx ρ)))
    (retS (andV (bind2 (callD F_law_told (ac (mkTs (ac (kst (.int 1)) (ac (kst (.int 0)) (ac (kst (.int 3)) (ac (kst (.int 4)) (ac (kst (.int 2)) (fun _ => some []))))))) (fun _ => some []))) (mkTs (ac (kst (.int 6)) (ac (bind1 (kst (.int 1)) negD) (fun _ => some [])))) eqD) (andV (bind2 (callD F_law_told (ac (mkTs (ac (kst (.int 0)) (fun _ => some []))) (fun _ => some []))) (mkTs (ac (kst (.int 1)) (ac (kst (.int 1)) (fun _ => some [])))) eqD) (bind2 (callD F_law_told (ac (mkTs (ac (kst (.int 1)) (ac (kst (.int 2)) (ac (kst (.int 0)) (fun _ => some []))))) (fun _ => some []))) (mkTs (ac (kst (.int 3)) (ac (kst (.int 1)) (fun _ => some [])))) eqD))) true)))))))))))))
def F_p_law : Fn := mkF 1 16 true G_p_law
theorem nodup_lenN {l m : List Nat} (h : l.Nodup) (s : ∀ z ∈ l, z ∈ m) : l.length ≤ m.length := by
  induction l generalizing m with
  | nil => simp
  | cons x l ih =>
    have hx := List.nodup_cons.mp h
    have hm := s x (List.mem_cons_self ..)
    have h2 := ih (m := m.erase x) hx.2 (fun z hz => (List.mem_erase_of_ne (fun (e : z = x) => hx.1 (e ▸ hz))).mpr (s z (List.mem_cons_of_mem _ hz)))
    have h3 := List.length_erase_of_mem hm
    have h4 := List.length_pos_of_mem hm
    simp only [List.length_cons]
    omega

/-! #### turning maps -/
structure Turn (n : Nat) (m : List Nat) : Prop where
  len : m.length = n
  lt : ∀ x ∈ m, x < n
  nd : m.Nodup
/-- where the point p goes -/
def go (m : List Nat) (p : Nat) : Nat := m.getD p 0
theorem Turn.go_lt {n m} (h : Turn n m) {p} (hp : p < n) : go m p < n := by
  have : p < m.length := by rw [h.len]; exact hp
  unfold go
  simp [this]
  exact h.lt _ (List.getElem_mem this)
theorem Turn.inj {n m} (h : Turn n m) {p q} (hp : p < n) (hq : q < n) (e : go m p = go m q) : p = q := by
  have h1 : p < m.length := by rw [h.len]; exact hp
  have h2 : q < m.length := by rw [h.len]; exact hq
  unfold go at e
  simp [h1, h2] at e
  have hp := List.pairwise_iff_getElem.mp h.nd
  rcases Nat.lt_trichotomy p q with hl | hl | hl
  · exact absurd e (hp p q h1 h2 hl)
  · exact hl
  · exact absurd e.symm (hp q p h2 h1 hl)
def it (m : List Nat) : Nat → Nat → Nat
  | 0, p => p
  | k + 1, p => go m (it m k p)
theorem it_add (m j k p) : it m (j + k) p = it m j (it m k p) := by
  induction j with
  | zero => rw [Nat.zero_add]; rfl
  | succ j ih => rw [show j + 1 + k = (j + k) + 1 by omega, it, ih, it]
theorem Turn.it_lt {n m} (h : Turn n m) {p} (hp : p < n) : ∀ k, it m k p < n
  | 0 => hp
  | k + 1 => h.go_lt (h.it_lt hp k)
theorem Turn.it_inj {n m} (h : Turn n m) {p q} (hp : p < n) (hq : q < n) : ∀ k, it m k p = it m k q → p = q
  | 0, e => e
  | k + 1, e => h.it_inj hp hq k (h.inj (h.it_lt hp k) (h.it_lt hq k) e)
/-- some power comes back -/
theorem Turn.back {n m} (h : Turn n m) {p} (hp : p < n) : ∃ k, k < n ∧ it m (k + 1) p = p := by
  -- among n + 1 points below n two are the same
  have key : ¬ ((List.range (n + 1)).map fun k => it m k p).Nodup := fun nd => by
    have := nodup_lenN (m := List.range n) nd (fun z hz => by
      obtain ⟨k, _, rfl⟩ := List.mem_map.mp hz
      exact List.mem_range.mpr (h.it_lt hp k))
    simp at this
    omega
  unfold List.Nodup at key
  rw [List.pairwise_map] at key
  have : ∃ i j, i < j ∧ j < n + 1 ∧ it m i p = it m j p := by
    refine Classical.byContradiction fun hc => key ?_
    refine List.Pairwise.imp_of_mem (R := (· < ·)) ?_ List.pairwise_lt_range
    intro a b ha hb hab e
    exact hc ⟨a, b, hab, List.mem_range.mp hb, e⟩
  obtain ⟨i, j, hij, hj, e⟩ := this
  refine ⟨j - i - 1, by omega, ?_⟩
  have e2 : it m j p = it m i (it m (j - i) p) := by rw [← it_add]; congr 1; omega
  rw [e2] at e
  have := h.it_inj hp (h.it_lt hp _) i e
  rw [show j - i - 1 + 1 = j - i by omega]
  exact this.symm
/-- the length of the loop of p -/
def per (m : List Nat) (p : Nat) : Nat := ((List.range m.length).find? fun k => decide (it m (k + 1) p = p)).getD 0 + 1
theorem Turn.per_spec {n m} (h : Turn n m) {p} (hp : p < n) : it m (per m p) p = p ∧ per m p ≤ n ∧ ∀ k, 0 < k → k < per m p → it m k p ≠ p := by
  obtain ⟨k0, hk0, e0⟩ := h.back hp
  unfold per
  cases q : (List.range m.length).find? (fun k => decide (it m (k + 1) p = p)) with
  | none =>
    rw [List.find?_eq_none] at q
    have := q k0 (by rw [List.mem_range, h.len]; exact hk0)
    simp [e0] at this
  | some k =>
    have hk : it m (k + 1) p = p := by simpa using List.find?_some q
    have hm : k < m.length := List.mem_range.mp (List.mem_of_find?_eq_some q)
    refine ⟨hk, by show k + 1 ≤ n; rw [h.len] at hm; omega, fun j hj0 hj => ?_⟩
    show it m j p ≠ p
    have hj' : j < k + 1 := hj
    intro e
    obtain ⟨as, bs, e1, e2⟩ := List.find?_eq_some_iff_append.mp q |>.2
    have hlen : as.length = k := by
      have hl : as.length < m.length := by have := congrArg List.length e1; simp at this; omega
      have e3 := congrArg (fun l => l[as.length]?) e1
      simp only [List.getElem?_range hl] at e3
      simpa using e3
    have hin : j - 1 ∈ as := by
      have e3 : (List.range m.length)[j - 1]? = (as ++ k :: bs)[j - 1]? := by rw [e1]
      rw [List.getElem?_range (by omega), List.getElem?_append_left (by omega)] at e3
      exact List.mem_of_getElem? e3.symm
    have := e2 (j - 1) hin
    rw [show j - 1 + 1 = j by omega, e] at this
    simp at this
theorem per_pos (m p) : 0 < per m p := by unfold per; omega
/-- the loop of p, from p on -/
def orb (m : List Nat) (p : Nat) : List Nat := (List.range (per m p)).map fun k => it m k p
@[simp] theorem orb_len (m p) : (orb m p).length = per m p := by simp [orb]
theorem Turn.it_ne {n m} (h : Turn n m) {p} (hp : p < n) {i j} (hij : i < j) (hj : j < per m p) : it m i p ≠ it m j p := fun e => by
  have e2 : it m j p = it m i (it m (j - i) p) := by rw [← it_add]; congr 1; omega
  rw [e2] at e
  exact (h.per_spec hp).2.2 (j - i) (by omega) (by omega) (h.it_inj hp (h.it_lt hp _) i e).symm
theorem Turn.orb_nd {n m} (h : Turn n m) {p} (hp : p < n) : (orb m p).Nodup := by
  unfold orb List.Nodup
  rw [List.pairwise_map]
  refine List.Pairwise.imp_of_mem (R := (· < ·)) ?_ List.pairwise_lt_range
  intro a b ha hb hab
  exact h.it_ne hp hab (List.mem_range.mp hb)
theorem Turn.it_mod {n m} (h : Turn n m) {p} (hp : p < n) (k : Nat) : it m k p = it m (k % per m p) p := by
  have hs := (h.per_spec hp).1
  have mul : ∀ c r, it m (r + per m p * c) p = it m r p := by
    intro c
    induction c with
    | zero => intro r; rw [Nat.mul_zero, Nat.add_zero]
    | succ c ih => intro r; rw [Nat.mul_succ, ← Nat.add_assoc, it_add, hs, ih]
  conv => lhs; rw [← Nat.mod_add_div k (per m p)]
  exact mul _ _
theorem Turn.mem_orb {n m} (h : Turn n m) {p} (hp : p < n) {q} : q ∈ orb m p ↔ ∃ k, it m k p = q := by
  unfold orb
  rw [List.mem_map]
  constructor
  · rintro ⟨k, _, e⟩; exact ⟨k, e⟩
  · rintro ⟨k, e⟩
    exact ⟨k % per m p, List.mem_range.mpr (Nat.mod_lt _ (per_pos m p)), by rw [← h.it_mod hp]; exact e⟩
theorem Turn.self_orb {n m} (h : Turn n m) {p} (hp : p < n) : p ∈ orb m p := (h.mem_orb hp).mpr ⟨0, rfl⟩
theorem Turn.orb_lt {n m} (h : Turn n m) {p} (hp : p < n) {q} (hq : q ∈ orb m p) : q < n := by
  obtain ⟨k, rfl⟩ := (h.mem_orb hp).mp hq
  exact h.it_lt hp k
theorem Turn.orb_symm {n m} (h : Turn n m) {p q} (hp : p < n) (hq : q ∈ orb m p) : p ∈ orb m q := by
  have hqn := h.orb_lt hp hq
  obtain ⟨k, rfl⟩ := (h.mem_orb hp).mp hq
  have hpp := per_pos m p
  refine (h.mem_orb hqn).mpr ⟨per m p * k - k % (per m p * (k + 1)) + 0, ?_⟩
  rw [← it_add, Nat.add_zero, h.it_mod hp]
  have hk : k < per m p * (k + 1) := by
    have := Nat.mul_le_mul_right (k + 1) hpp
    omega
  rw [Nat.mod_eq_of_lt hk]
  have hle : k ≤ per m p * k := by
    have := Nat.mul_le_mul_right k hpp
    omega
  rw [Nat.sub_add_cancel hle, Nat.mul_mod_right]
  rfl
theorem Turn.orb_trans {n m} (h : Turn n m) {p q r} (hp : p < n) (hq : q ∈ orb m p) (hr : r ∈ orb m q) : r ∈ orb m p := by
  have hqn := h.orb_lt hp hq
  obtain ⟨k, rfl⟩ := (h.mem_orb hp).mp hq
  obtain ⟨j, rfl⟩ := (h.mem_orb hqn).mp hr
  exact (h.mem_orb hp).mpr ⟨j + k, it_add ..⟩
/-- the least point of its loop -/
def isLeast (m : List Nat) (p : Nat) : Bool := (orb m p).all fun q => decide (p ≤ q)
/-- the loops, each from its least point on, in ascending order -/
def cyc (m : List Nat) : List (List Nat) := ((List.range m.length).filter (isLeast m)).map (orb m)
theorem Turn.least_ex {n m} (h : Turn n m) {p} (hp : p < n) : ∃ q, q < n ∧ q ∈ orb m p ∧ isLeast m q = true := by
  have key : ∀ k, ∀ q, q < n → q ∈ orb m p → q ≤ k → ∃ r, r < n ∧ r ∈ orb m p ∧ isLeast m r = true := by
    intro k
    induction k with
    | zero =>
      intro q hq hqo hk
      have : q = 0 := by omega
      subst this
      exact ⟨0, hq, hqo, by simp [isLeast]⟩
    | succ k ih =>
      intro q hq hqo hk
      by_cases hl : isLeast m q = true
      · exact ⟨q, hq, hqo, hl⟩
      · unfold isLeast at hl
        rw [List.all_eq_true] at hl
        have : ∃ x ∈ orb m q, x < q := Classical.byContradiction fun hc => hl fun x hx => by
          rw [decide_eq_true_eq]
          by_cases hxq : x < q
          · exact absurd ⟨x, hx, hxq⟩ hc
          · omega
        obtain ⟨x, hx, hxq⟩ := this
        exact ih x (h.orb_lt hq hx) (h.orb_trans hp hqo hx) (by omega)
  exact key p p hp (h.self_orb hp) (Nat.le_refl _)
theorem Turn.least_uniq {n m} (h : Turn n m) {p q} (hp : p < n) (hq : q ∈ orb m p) (l1 : isLeast m p = true) (l2 : isLeast m q = true) : p = q := by
  unfold isLeast at l1 l2
  rw [List.all_eq_true] at l1 l2
  have a := l1 q hq
  have b := l2 p (h.orb_symm hp hq)
  simp at a b
  omega

/-! #### partings -/
def setAt (k : Nat) (f L : List Nat) : List Nat := L.foldl (fun f p => f.set p k) f
@[simp] theorem setAt_len (k f L) : (setAt k f L).length = f.length := by
  unfold setAt
  induction L generalizing f with
  | nil => rfl
  | cons p L ih => rw [List.foldl_cons, ih, List.length_set]
theorem setAt_get (k f L) (p : Nat) (hp : p < f.length) : (setAt k f L)[p]? = if p ∈ L then some k else f[p]? := by
  unfold setAt
  induction L generalizing f with
  | nil => simp
  | cons q L ih =>
    rw [List.foldl_cons, ih (f.set q k) (by simpa using hp)]
    by_cases h1 : p ∈ L
    · simp [h1]
    · by_cases h2 : p = q
      · subst h2; simp [h1, hp]
      · simp [h1, h2, List.getElem?_set_ne (Ne.symm h2)]
def atN (n : Nat) (P : List (List Nat)) : List Nat := (List.range P.length).foldl (fun f k => setAt k f (P.getD k [])) (List.replicate n 0)
structure Part (n : Nat) (P : List (List Nat)) : Prop where
  ne : ∀ L ∈ P, L ≠ []
  nd : P.flatten.Nodup
  cov : ∀ p, p < n ↔ ∃ L ∈ P, p ∈ L
theorem Part.lt {n P} (h : Part n P) {L} (hL : L ∈ P) {p} (hp : p ∈ L) : p < n := (h.cov p).mpr ⟨L, hL, hp⟩
theorem Part.uniq {n P} (h : Part n P) {i j p : Nat} (hi : i < P.length) (hj : j < P.length) (h1 : p ∈ P[i]) (h2 : p ∈ P[j]) : i = j := by
  have := h.nd
  unfold List.Nodup at this
  rw [List.pairwise_flatten] at this
  have hp := List.pairwise_iff_getElem.mp this.2
  rcases Nat.lt_trichotomy i j with hl | hl | hl
  · exact absurd rfl (hp i j hi hj hl p h1 p h2)
  · exact hl
  · exact absurd rfl (hp j i hj hi hl p h2 p h1)
theorem Part.perm {n P Q} (h : Part n P) (e : Q.Perm P) : Part n Q := ⟨fun L hL => h.ne L (e.mem_iff.mp hL), e.flatten.nodup_iff.mpr h.nd, fun p => by
  rw [h.cov]
  constructor
  · rintro ⟨L, h1, h2⟩; exact ⟨L, e.mem_iff.mpr h1, h2⟩
  · rintro ⟨L, h1, h2⟩; exact ⟨L, e.mem_iff.mp h1, h2⟩⟩
theorem Part.flat {n P} (h : Part n P) : P.flatten.length ≤ n := by
  have := nodup_lenN (m := List.range n) h.nd (fun z hz => by
    obtain ⟨L, h1, h2⟩ := List.mem_flatten.mp hz
    exact List.mem_range.mpr (h.lt h1 h2))
  simpa using this
theorem Part.len {n P} (h : Part n P) : P.length ≤ n := by
  refine Nat.le_trans ?_ h.flat
  have := h.ne
  clear h
  induction P with
  | nil => simp
  | cons L P ih =>
    have h1 := ih (fun M hM => this M (List.mem_cons_of_mem _ hM))
    have h2 := List.length_pos_iff.mpr (this L (List.mem_cons_self ..))
    simp only [List.length_cons, List.flatten_cons, List.length_append]
    omega
theorem len_le_flat {P : List (List Nat)} {L} (h : L ∈ P) : L.length ≤ P.flatten.length := by
  induction P with
  | nil => cases h
  | cons M P ih =>
    simp only [List.flatten_cons, List.length_append]
    rcases List.mem_cons.mp h with rfl | h
    · omega
    · have := ih h; omega
theorem Part.line {n P} (h : Part n P) {L} (hL : L ∈ P) : L.length ≤ n := Nat.le_trans (len_le_flat hL) h.flat
theorem Part.nodup {n P} (h : Part n P) {L} (hL : L ∈ P) : L.Nodup := by
  have := h.nd
  unfold List.Nodup at this
  rw [List.pairwise_flatten] at this
  exact this.1 L hL
theorem atN_get {n P} (h : Part n P) {k p : Nat} (hk : k < P.length) (hp : p ∈ P[k]) : (atN n P)[p]? = some k := by
  have hpn : p < n := h.lt (List.getElem_mem hk) hp
  have : ∀ (m : Nat), m ≤ P.length → ((List.range m).foldl (fun f k => setAt k f (P.getD k [])) (List.replicate n 0)).length = n ∧ (k < m → ((List.range m).foldl (fun f k => setAt k f (P.getD k [])) (List.replicate n 0))[p]? = some k) := by
    intro m
    induction m with
    | zero => intro _; simp
    | succ m ih =>
      intro hm
      obtain ⟨i1, i2⟩ := ih (by omega)
      rw [List.range_succ, List.foldl_append]
      simp only [List.foldl_cons, List.foldl_nil, setAt_len]
      refine ⟨i1, fun hkm => ?_⟩
      rw [setAt_get _ _ _ _ (by rw [i1]; exact hpn)]
      have hmP : m < P.length := by omega
      have e : P.getD m [] = P[m] := by simp [hmP]
      rw [e]
      by_cases hc : p ∈ P[m]
      · rw [if_pos hc, h.uniq hmP hk hc hp]
      · rw [if_neg hc]
        refine i2 ?_
        by_cases hkm' : k = m
        · subst hkm'; exact absurd hp hc
        · omega
  exact (this P.length (Nat.le_refl _)).2 hk
theorem atN_len (n P) : (atN n P).length = n := by
  have : ∀ (ks : List Nat) (f : List Nat), (ks.foldl (fun f k => setAt k f (P.getD k [])) f).length = f.length := by
    intro ks
    induction ks with
    | nil => intro f; rfl
    | cons k ks ih => intro f; rw [List.foldl_cons, ih, setAt_len]
  unfold atN
  rw [this, List.length_replicate]
theorem atN_lt {n P} (h : Part n P) {p : Nat} (hp : p < n) : ∃ k, ∃ hk : k < P.length, p ∈ P[k] ∧ (atN n P)[p]? = some k := by
  obtain ⟨L, h1, h2⟩ := (h.cov p).mp hp
  obtain ⟨k, hk, rfl⟩ := List.mem_iff_getElem.mp h1
  exact ⟨k, hk, h2, atN_get h hk h2⟩
/-- both in one list -/
theorem at_same {n P} (h : Part n P) {L} (hL : L ∈ P) {x y} (hx : x ∈ L) (hy : y ∈ L) : (atN n P)[x]? = (atN n P)[y]? := by
  obtain ⟨k, hk, rfl⟩ := List.mem_iff_getElem.mp hL
  rw [atN_get h hk hx, atN_get h hk hy]

/-! #### _law_draws -/
@[simp] theorem cut_n (ds : List PyData) (k : Nat) : cutD ds none (some (k : Int)) = ds.take k := by
  unfold cutD
  rw [HT.sIx_none, HT.sIx_nat]
  simp only [List.drop_zero, Nat.sub_zero]
  rw [Nat.min_def]
  split
  · rfl
  · rw [List.take_of_length_le (Nat.le_refl _), List.take_of_length_le (by omega)]
@[simp] theorem cut_lit (ds : List PyData) (n : Nat) : cutD ds none (some (no_index (OfNat.ofNat n))) = ds.take (OfNat.ofNat n) := cut_n ds n
@[simp] theorem slD_scr {α : Type} (e : α → PyData) (l : List α) (n : Nat) : slD (.dict [(.none, Ls e l)]) none (some (no_index (OfNat.ofNat n))) = some (Ls e (l.take (OfNat.ofNat n))) := by
  show some (PyData.list (cutD (l.map e) none (some ((n : Nat) : Int)))) = _
  rw [cut_n, ← List.map_take]
  rfl
@[simp] theorem slD_Ls {α : Type} {e : α → PyData} {l : List α} (k : Nat) : slD (Ls e l) none (some (k : Int)) = some (Ls e (l.take k)) := by
  show some (PyData.list (cutD (l.map e) none (some (k : Int)))) = _
  rw [cut_n, ← List.map_take]
  rfl
def Good (f : List Nat) (k : Nat) : Prop := f.length ≤ k ∧ ∀ x ∈ f, x < 1000003
theorem Good.mono {f : List Nat} {j k : Nat} (h : Good f j) (hk : j ≤ k) : Good f k := ⟨by have := h.1; omega, h.2⟩
theorem Good.app {f : List Nat} {k x : Nat} (h : Good f k) (hx : x < 1000003) : Good (f ++ [x]) (k + 1) := ⟨by have := h.1; simp; omega, fun y hy => by
  rcases List.mem_append.mp hy with hy | hy
  · exact h.2 y hy
  · simp at hy; omega⟩
abbrev envD (scr : PyData) (many : Nat) (f : List Nat) (c nu k mi ba : Option (PyData × Own)) : PEnv := [some (scr, .sh), some (N many, .sh), some (Ls N f, .ow), c, nu, k, mi, ba]
theorem draws1 (scr many f c num k mi n) (h : Good f n) (hn : n + 60 < LINE) : ∃ f' num' k', goF (.nm 5) B1_law_draws ((List.range 60).map N) (envD scr many f c (some (N num, .sh)) k mi none) = some (.nx (envD scr many f' c (some (N num', .sh)) k' mi none)) ∧ Good f' (n + 60) := by
  obtain ⟨ρ', h1, f', num', k', rfl, h2⟩ := goF_inv (e := N) (T := .nm 5) (body := B1_law_draws) (fun pre ρ => ∃ f' num' k', ρ = envD scr many f' c (some (N num', .sh)) k' mi none ∧ Good f' (n + pre.length)) (List.range 60) _ ⟨f, num, k, rfl, h⟩ (by
    rintro pre x post _ hl ⟨f', num', k', rfl, g⟩
    have hp : pre.length < 60 := by have := congrArg List.length hl; simp at this; omega
    have hf : f'.length < LINE := by have := g.1; omega
    by_cases hz : 0 < num'
    · refine ⟨envD scr many (f' ++ [num' % 1000003]) c (some (N (num' / 1000003), .sh)) (some (N x, .sh)) mi none, ?_, _, _, _, rfl, ?_⟩
      · simp -implicitDefEqProofs [B1_law_draws, envD, hz, hf]
      · rw [List.length_append]; exact g.app (Nat.mod_lt _ (by decide))
    · refine ⟨envD scr many f' c (some (N num', .sh)) (some (N x, .sh)) mi none, ?_, _, _, _, rfl, ?_⟩
      · simp -implicitDefEqProofs [B1_law_draws, envD, hz]
      · rw [List.length_append]; exact g.mono (by omega))
  exact ⟨f', num', k', h1, by simpa using h2⟩
theorem draws2 (scr many f c nu k mixed n) (h : Good f n) (hn : n + 4 < LINE) (hm : mixed < 2147483648) : ∃ f' m' k', goF (.nm 5) B2_law_draws ((List.range 4).map N) (envD scr many f c nu k (some (N mixed, .sh)) none) = some (.nx (envD scr many f' c nu k' (some (N m', .sh)) none)) ∧ Good f' (n + 4) := by
  obtain ⟨ρ', h1, f', m', k', rfl, h2, _⟩ := goF_inv (e := N) (T := .nm 5) (body := B2_law_draws) (fun pre ρ => ∃ f' m' k', ρ = envD scr many f' c nu k' (some (N m', .sh)) none ∧ Good f' (n + pre.length) ∧ m' < 2147483648) (List.range 4) _ ⟨f, mixed, k, rfl, h, hm⟩ (by
    rintro pre x post _ hl ⟨f', m', k', rfl, g, gm⟩
    have hp : pre.length < 4 := by have := congrArg List.length hl; simp at this; omega
    have hf : f'.length < LINE := by have := g.1; omega
    refine ⟨envD scr many (f' ++ [(m' * 69621 + m' / 65536 + 13 * x + 5) % 2147483629 / 8 % 1000003]) c nu (some (N x, .sh)) (some (N ((m' * 69621 + m' / 65536 + 13 * x + 5) % 2147483629), .sh)) none, ?_, _, _, _, rfl, ?_, by omega⟩
    · simp -implicitDefEqProofs [B2_law_draws, envD, hf]
    · rw [List.length_append]; exact g.app (Nat.mod_lt _ (by decide)))
  exact ⟨f', m', k', h1, by simpa using h2⟩
theorem draws3 (scr many) (ns : List Int) (hs : ns.length ≤ 63) : ∃ f' c nu k mi, goF (.nm 3) B3_law_draws (ns.map .int) (envD scr many [] none none none none none) = some (.nx (envD scr many f' c nu k mi none)) ∧ Good f' (60 * ns.length) := by
  obtain ⟨ρ', h1, f', c, nu, k, mi, rfl, h2⟩ := goF_inv (e := PyData.int) (T := .nm 3) (body := B3_law_draws) (fun pre ρ => ∃ f' c nu k mi, ρ = envD scr many f' c nu k mi none ∧ Good f' (60 * pre.length)) ns _ ⟨[], none, none, none, none, rfl, by simp [Good]⟩ (by
    rintro pre x post _ hl ⟨f', c, nu, k, mi, rfl, g⟩
    have hp : pre.length < 63 := by have := congrArg List.length hl; simp at this; omega
    by_cases hz : 1000000000000000000 ≤ x.natAbs
    · obtain ⟨f2, num2, k2, e1, e2⟩ := draws1 scr many f' (some (.int x, .sh)) x.natAbs k mi _ g (by unfold LINE; omega)
      refine ⟨envD scr many f2 (some (.int x, .sh)) (some (N num2, .sh)) k2 mi none, ?_, _, _, _, _, _, rfl, ?_⟩
      · have e0 : itr1 (kst (N 60)) = fun _ => some ((List.range 60).map N) := funext fun δ => itr1_eq rfl (by decide)
        simp only [envD] at e1 ⊢
        simp -implicitDefEqProofs [B3_law_draws, intD, absD_i, hz, e0, e1]
      · rw [List.length_append]; exact e2.mono (by simp; omega)
    · obtain ⟨f2, num2, k2, e1, e2⟩ := draws2 scr many f' (some (.int x, .sh)) (some (N x.natAbs, .sh)) k ((x.natAbs * 48271 + 7 * f'.length + 11) % 2147483647) _ g (by unfold LINE; omega) (by omega)
      refine ⟨envD scr many f2 (some (.int x, .sh)) (some (N x.natAbs, .sh)) k2 (some (N num2, .sh)) none, ?_, _, _, _, _, _, rfl, ?_⟩
      · have e0 : itr1 (kst (N 4)) = fun _ => some ((List.range 4).map N) := funext fun δ => itr1_eq rfl (by decide)
        simp only [envD] at e1 ⊢
        simp -implicitDefEqProofs [B3_law_draws, intD, absD_i, hz, e0, e1, show x.natAbs < 18446744073709551616 by omega]
      · rw [List.length_append]; exact e2.mono (by simp; omega))
  exact ⟨f', c, nu, k, mi, h1, h2⟩
theorem draws4 (scr many f c nu k mi) (j : Nat) (h : Good f j) (hj : j + many < LINE) : ∃ f' k' ba, goF (.nm 5) B4_law_draws ((List.range many).map N) (envD scr many f c nu k mi none) = some (.nx (envD scr many f' c nu k' mi ba)) ∧ Good f' (j + many) ∧ many ≤ f'.length := by
  obtain ⟨ρ', h1, f', k', ba, rfl, h2, h3⟩ := goF_inv (e := N) (T := .nm 5) (body := B4_law_draws) (fun pre ρ => ∃ f' k' ba, ρ = envD scr many f' c nu k' mi ba ∧ Good f' (j + pre.length) ∧ (pre.length ≤ f'.length ∨ many ≤ f'.length)) (List.range many) _ ⟨f, k, none, rfl, h, .inl (by simp)⟩ (by
    rintro pre x post _ hl ⟨f', k', ba, rfl, g, gl⟩
    have hp : pre.length < many := by have := congrArg List.length hl; simp at this; omega
    have hf : f'.length < LINE := by have := g.1; omega
    by_cases hz : f'.length < many
    · by_cases h0 : 0 < f'.length
      · have hx : x % f'.length < f'.length := Nat.mod_lt _ h0
        refine ⟨envD scr many (f' ++ [(f'[x % f'.length] * 16807 + 31 * f'.length + 17) % 1000003]) c nu (some (N x, .sh)) mi (some (N f'[x % f'.length], .sh)), ?_, _, _, _, rfl, ?_, ?_⟩
        · simp -implicitDefEqProofs [B4_law_draws, envD, hz, h0, hf, hx]
        · rw [List.length_append]; exact g.app (Nat.mod_lt _ (by decide))
        · simp; omega
      · refine ⟨envD scr many (f' ++ [(0 * 16807 + 31 * f'.length + 17) % 1000003]) c nu (some (N x, .sh)) mi (some (N 0, .sh)), ?_, _, _, _, rfl, ?_, ?_⟩
        · simp -implicitDefEqProofs [B4_law_draws, envD, hz, h0, hf]
        · rw [List.length_append]; exact g.app (Nat.mod_lt _ (by decide))
        · simp; omega
    · refine ⟨envD scr many f' c nu (some (N x, .sh)) mi ba, ?_, _, _, _, rfl, ?_, .inr (by omega)⟩
      · simp -implicitDefEqProofs [B4_law_draws, envD, hz]
      · rw [List.length_append]; exact g.mono (by omega))
  exact ⟨f', k', ba, h1, by simpa using h2, by simp at h3; omega⟩
theorem draws_ok (ns : List Int) (hs : ns.length ≤ 63) (many : Nat) (hm : many ≤ 100000) : ∃ ds : List Nat, F_law_draws [.dict [(.none, .list (ns.map .int))], N many] = some (Ls N ds) ∧ ds.length = many ∧ ∀ x ∈ ds, x < 1000003 := by
  obtain ⟨f, c, nu, k, mi, e1, g1⟩ := draws3 (.dict [(.none, .list (ns.map .int))]) many ns hs
  obtain ⟨f2, k2, ba, e2, g2, l2⟩ := draws4 (.dict [(.none, .list (ns.map .int))]) many f c nu k mi _ g1 (by unfold LINE; omega)
  refine ⟨f2.take many, ?_, by simp; omega, fun x hx => g2.2 x (List.mem_of_mem_take hx)⟩
  have e0 := fun δ h => itr1_eq (g := vr 1) (δ := δ) (k := many) h (by unfold LINE; omega)
  have e3 : ns.take 63 = ns := List.take_of_length_le hs
  simp only [envD, show Ls N ([] : List Nat) = .list [] from rfl, fold_Ls] at e1 e2
  simp -implicitDefEqProofs [F_law_draws, G_law_draws, e3, e1, e0, e2]

/-! #### _law_cell -/
def cell (d : List Nat) (k : Nat) : Nat := if k < d.length then d.getD k 0 else (d.getD (k % d.length) 0 * 31 + d.getD (7 * k % d.length) 0 * 17 + 101 * k) % 1000003
@[simp] theorem cell_ok (d : List Nat) (k : Nat) (h : 0 < d.length) : F_law_cell [Ls N d, N k] = some (N (cell d k)) := by
  unfold cell
  have h1 : k % d.length < d.length := Nat.mod_lt _ h
  have h2 : 7 * k % d.length < d.length := Nat.mod_lt _ h
  by_cases hk : k < d.length
  · simp -implicitDefEqProofs [F_law_cell, G_law_cell, hk]
  · simp -implicitDefEqProofs [F_law_cell, G_law_cell, hk, h, h1, h2]

/-! #### _law_is_number -/
@[simp] theorem is_number_ok (k : Nat) : F_law_is_number [N k] = some (.bool true) := by
  simp -implicitDefEqProofs [F_law_is_number, G_law_is_number]

/-! #### _law_then -/
def thenN (f s : List Nat) : List Nat := f.map fun p => s.getD p 0
@[simp] theorem thenN_len (f s) : (thenN f s).length = f.length := by simp [thenN]
theorem law_then_ok (f s : List Nat) (h : ∀ p ∈ f, p < s.length) (hf : f.length ≤ LINE) : F_law_then [Tp N f, Tp N s] = some (Tp N (thenN f s)) := by
  simp -implicitDefEqProofs [F_law_then, G_law_then]
  rw [lcD_map (e' := N) f (fun p => s.getD p 0) rfl ?_ hf]
  · simp -implicitDefEqProofs [thenN]
  · intro x hx
    have hn : x < s.length := h x hx
    simp -implicitDefEqProofs [hn]

/-! #### _law_rest -/
theorem law_rest_ok (n : Nat) (hn : n ≤ LINE) : F_law_rest [N n] = some (Tp N (List.range n)) := by
  have e0 := fun δ h => tup_eq (g := vr 0) (δ := δ) (k := n) h hn
  simp -implicitDefEqProofs [F_law_rest, G_law_rest, e0]

/-! #### sorted(set(..)) -/
def us (l : List Nat) : List Nat := (usort (l.map fun (k : Nat) => (k : Int))).map Int.toNat
theorem mem_us {x : Nat} {l : List Nat} : x ∈ us l ↔ x ∈ l := by
  unfold us
  simp only [List.mem_map, usort_mem]
  constructor
  · rintro ⟨z, ⟨y, hy, rfl⟩, rfl⟩
    simpa using hy
  · intro h
    exact ⟨(x : Int), ⟨x, h, rfl⟩, by simp⟩
theorem us_pw (l : List Nat) : (us l).Pairwise (· < ·) := by
  unfold us
  rw [List.pairwise_map]
  refine (usort_pw _).imp_of_mem fun {a b} ha hb h => ?_
  rw [usort_mem] at ha hb
  obtain ⟨a', _, rfl⟩ := List.mem_map.mp ha
  obtain ⟨b', _, rfl⟩ := List.mem_map.mp hb
  simp
  omega
theorem us_nodup (l : List Nat) : (us l).Nodup := (us_pw l).imp fun h => by omega
theorem us_len (l : List Nat) : (us l).length ≤ l.length := nodup_lenN (us_nodup l) fun z hz => mem_us.mp hz
theorem us_const {l : List Nat} {k : Nat} (hne : l ≠ []) (h : ∀ x ∈ l, x = k) : us l = [k] := by
  have h1 : ∀ x ∈ us l, x = k := fun x hx => h x (mem_us.mp hx)
  have h2 := us_nodup l
  match e : us l, h1, h2 with
  | [], _, _ =>
    obtain ⟨x, hx⟩ := List.exists_mem_of_ne_nil l hne
    have := mem_us.mpr hx
    rw [e] at this
    cases this
  | [x], h1, _ => rw [h1 x (by simp)]
  | x :: y :: r, h1, h2 =>
    have a := h1 x (by simp)
    have b := h1 y (by simp)
    subst a
    simp [b] at h2
theorem us_map (l : List Nat) : (usort (l.map fun (k : Nat) => (k : Int))).map PyData.int = (us l).map N := by
  unfold us
  rw [List.map_map]
  refine List.map_congr_left fun z hz => ?_
  rw [usort_mem] at hz
  obtain ⟨b', _, rfl⟩ := List.mem_map.mp hz
  rfl
@[simp] theorem sortSet_N {l : List Nat} (h : l.length < 64) : sortSetD (Ls N l) = some (Ls N (us l)) := by
  unfold sortSetD
  show (some (l.map N)).bind _ = _
  rw [Option.bind_some, intsOf_N, Option.bind_some, if_pos (by simpa using h), us_map]
  rfl
@[simp] theorem sortSet_T {l : List Nat} (h : l.length < 64) : sortSetD (Tp N l) = some (Ls N (us l)) := sortSet_N h

theorem pw_uniqN : ∀ {l m : List Nat}, l.Pairwise (· < ·) → m.Pairwise (· < ·) → (∀ z, z ∈ l ↔ z ∈ m) → l = m := by
  intro l m hl hm h
  have a : (l.map fun k : Nat => (k : Int)) = m.map fun k : Nat => (k : Int) := pw_uniq (by rw [List.pairwise_map]; exact hl.imp fun h => by omega) (by rw [List.pairwise_map]; exact hm.imp fun h => by omega) fun z => by
    simp only [List.mem_map]
    constructor
    · rintro ⟨k, hk, rfl⟩; exact ⟨k, (h k).mp hk, rfl⟩
    · rintro ⟨k, hk, rfl⟩; exact ⟨k, (h k).mpr hk, rfl⟩
  have b := congrArg (List.map Int.toNat) a
  simpa [List.map_map, Function.comp_def] using b
/-- the greatest of a list that is not empty -/
theorem maxD_N {l : List Nat} (h : l ≠ []) : ∃ g ∈ l, (∀ x ∈ l, x ≤ g) ∧ maxD (Ls N l) = some (N g) := by
  cases l with
  | nil => exact absurd rfl h
  | cons a l =>
    have key : ∀ (l : List Nat) (a : Nat), ∃ g, (g = a ∨ g ∈ l) ∧ a ≤ g ∧ (∀ x ∈ l, x ≤ g) ∧ mx (a : Int) (l.map fun (k : Nat) => (k : Int)) = (g : Int) := by
      intro l
      induction l with
      | nil => intro a; exact ⟨a, .inl rfl, Nat.le_refl _, fun x hx => (by cases hx), rfl⟩
      | cons b l ih =>
        intro a
        have e : mx (a : Int) ((b :: l).map fun (k : Nat) => (k : Int)) = mx (if (a : Int) < b then (b : Int) else a) (l.map fun (k : Nat) => (k : Int)) := rfl
        rw [e]
        by_cases hab : (a : Int) < b
        · rw [if_pos hab]
          obtain ⟨g, h1, h2, h3, h4⟩ := ih b
          refine ⟨g, .inr (by rcases h1 with h1 | h1 <;> simp [h1]), by omega, fun x hx => ?_, h4⟩
          rcases List.mem_cons.mp hx with rfl | hx
          · exact h2
          · exact h3 x hx
        · rw [if_neg hab]
          obtain ⟨g, h1, h2, h3, h4⟩ := ih a
          refine ⟨g, by rcases h1 with h1 | h1 <;> simp [h1], h2, fun x hx => ?_, h4⟩
          rcases List.mem_cons.mp hx with rfl | hx
          · omega
          · exact h3 x hx
    obtain ⟨g, h1, h2, h3, h4⟩ := key l a
    refine ⟨g, by simpa using h1, fun x hx => ?_, ?_⟩
    · rcases List.mem_cons.mp hx with rfl | hx
      · exact h2
      · exact h3 x hx
    · show (intsOf ((a :: l).map N)).bind _ = _
      rw [intsOf_N]
      show some (PyData.int (mx (a : Int) (l.map fun (k : Nat) => (k : Int)))) = _
      rw [h4]
      rfl

/-! #### the loops of a turning map, as the program and the law find them -/
theorem map_range_getElem (l : List Nat) : (List.range l.length).map (fun p => l.getD p 0) = l := by
  refine List.ext_getElem (by simp) fun i h1 h2 => ?_
  simp [h2]
theorem Turn.per_eq {n m} (h : Turn n m) {p q} (hp : p < n) (hq : q ∈ orb m p) : per m q = per m p := by
  have hqn := h.orb_lt hp hq
  -- both loops have the same members, each once
  have e1 := nodup_lenN (h.orb_nd hp) (m := orb m q) fun z hz => h.orb_trans hqn (h.orb_symm hp hq) hz
  have e2 := nodup_lenN (h.orb_nd hqn) (m := orb m p) fun z hz => h.orb_trans hp hq hz
  simp at e1 e2
  omega
theorem Turn.rot {n m} (h : Turn n m) {p} (hp : p < n) {j} (hj : j < per m p) : (orb m p).drop j ++ (orb m p).take j = orb m (it m j p) := by
  have hq : it m j p ∈ orb m p := (h.mem_orb hp).mpr ⟨j, rfl⟩
  have hper := h.per_eq hp hq
  refine List.ext_getElem (by simp [hper]; omega) fun i h1 h2 => ?_
  have hi : i < per m p := by rw [orb_len, hper] at h2; exact h2
  have er : (orb m (it m j p))[i] = it m (i + j) p := by simp [orb, it_add]
  rw [er]
  by_cases hc : i < per m p - j
  · rw [List.getElem_append_left (by simp; exact hc)]
    simp [orb, Nat.add_comm]
  · rw [List.getElem_append_right (by simp; omega)]
    simp only [List.length_drop, orb_len]
    have : (i + j) % per m p = i - (per m p - j) := by
      have : i + j = (i - (per m p - j)) + per m p := by omega
      rw [this, Nat.add_mod_right, Nat.mod_eq_of_lt (by omega)]
    rw [h.it_mod hp, this]
    simp [orb]
theorem walk_from_ok {n m} (h : Turn n m) (hn : n ≤ 1000) {p} (hp : p < n) : F_p_walk_from [Tp N m, N p] = some (Ls N (orb m p)) := by
  have hs := h.per_spec hp
  have hlen := h.len
  obtain ⟨ρ', k', e1, ⟨k, rfl, hk, rfl⟩, e2⟩ := whileS_meas (pt := tst (bind2 (vr 3) (vr 2) notInD)) (body := B1_p_walk_from) (fun K ρ => ∃ k, K = per m p - k ∧ k ≤ per m p ∧ ρ = [some (Tp N m, .sh), some (N p, .sh), some (Ls N ((List.range k).map fun j => it m j p), .ow), some (N (it m k p), .sh)]) (by
    rintro K ρ ⟨k, rfl, hk, rfl⟩
    have hlt := h.it_lt hp k
    have hlt2 : it m k p < m.length := by rw [hlen]; exact hlt
    by_cases hkp : k = per m p
    · refine .inl ?_
      subst hkp
      have : it m (per m p) p ∈ (List.range (per m p)).map fun j => it m j p := by
        rw [hs.1]
        exact List.mem_map.mpr ⟨0, List.mem_range.mpr (per_pos m p), rfl⟩
      simp only [ap_tst, ap_bind2, ap_vr, dat_cons, dat_nil, Option.map_some]
      show ((notInD (N (it m (per m p) p)) (Ls N _)).bind boolOf) = _
      rw [notInD_N, decide_eq_true this]
      rfl
    · have hk' : k < per m p := by omega
      have hni : it m k p ∉ (List.range k).map fun j => it m j p := fun hc => by
        obtain ⟨j, hj, e⟩ := List.mem_map.mp hc
        exact h.it_ne hp (List.mem_range.mp hj) hk' e
      refine .inr ⟨?_, [some (Tp N m, .sh), some (N p, .sh), some (Ls N ((List.range (k + 1)).map fun j => it m j p), .ow), some (N (it m (k + 1) p), .sh)], per m p - (k + 1), by omega, ?_, k + 1, rfl, by omega, rfl⟩
      · simp only [ap_tst, ap_bind2, ap_vr, dat_cons, dat_nil, Option.map_some]
        show ((notInD (N (it m k p)) (Ls N _)).bind boolOf) = _
        rw [notInD_N, decide_eq_false hni]
        rfl
      · have hl : ((List.range k).map fun j => it m j p).length < LINE := by simp; unfold LINE; omega
        rw [List.range_succ, List.map_append]
        have eg : it m (k + 1) p = m[it m k p] := by simp [it, go, hlt2]
        rw [eg]
        generalize (List.range k).map (fun j => it m j p) = L at hl ⊢
        simp -implicitDefEqProofs [B1_p_walk_from, hl, hlt2]) 1000000 (per m p) [some (Tp N m, .sh), some (N p, .sh), some (.list [], .ow), some (N p, .sh)] (by omega) ⟨0, rfl, Nat.zero_le _, rfl⟩
  have hkp : k = per m p := by
    by_cases hkp : k = per m p
    · exact hkp
    · exfalso
      have hk' : k < per m p := by omega
      have hni : it m k p ∉ (List.range k).map fun j => it m j p := fun hc => by
        obtain ⟨j, hj, e⟩ := List.mem_map.mp hc
        exact h.it_ne hp (List.mem_range.mp hj) hk' e
      have e3 : ((notInD (N (it m k p)) (Ls N ((List.range k).map fun j => it m j p))).bind boolOf) = some false := e2
      rw [notInD_N, decide_eq_false hni] at e3
      cases e3
  subst hkp
  simp -implicitDefEqProofs [F_p_walk_from, G_p_walk_from, e1]
  rfl
theorem loop_behind_ok {n m} (h : Turn n m) (hn : n ≤ 1000) {p} (hp : p < n) : ∃ q, q ∈ orb m p ∧ isLeast m q = true ∧ F_p_loop_behind [Tp N m, N p] = some (Ls N (orb m q)) := by
  have c := walk_from_ok h hn hp
  have hs := h.per_spec hp
  have hpp := per_pos m p
  have hne : orb m p ≠ [] := List.ne_nil_of_length_pos (by simpa using hpp)
  obtain ⟨g, g1, g2, g3⟩ := minD_N hne
  obtain ⟨j, hj, ej⟩ := List.mem_iff_getElem.mp g1
  have hj' : j < per m p := by simpa using hj
  have hgq : it m j p = g := by rw [← ej]; simp [orb]
  have hq : g ∈ orb m p := g1
  refine ⟨g, hq, ?_, ?_⟩
  · unfold isLeast
    rw [List.all_eq_true]
    intro z hz
    rw [decide_eq_true_eq]
    exact g2 z (h.orb_trans hp hq hz)
  · have i0 := indexD_N (l := orb m p) (j := 0) (by simpa using hpp) (fun i hi => by omega)
    have e0 : (orb m p)[0]'(by simpa using hpp) = p := by simp [orb, it]
    rw [e0] at i0
    have ij := indexD_N (l := orb m p) (j := j) hj (fun i hi e => by
      simp [orb] at e
      exact h.it_ne hp hi hj' e)
    rw [ej] at ij
    have hlast : (orb m p)[per m p - 1]'(by simp; omega) = it m (per m p - 1) p := by simp [orb]
    have hb : it m (per m p - 1) p < m.length := by rw [h.len]; exact h.it_lt hp _
    have hnx : m[it m (per m p - 1) p] = p := by
      have : go m (it m (per m p - 1) p) = it m (per m p) p := by
        show it m (per m p - 1 + 1) p = _
        rw [Nat.sub_add_cancel hpp]
      rw [hs.1] at this
      simpa [go, hb] using this
    have hadd := addD_Ls (e := N) (l := (orb m p).drop j) (m := (orb m p).take j) (by simp; unfold LINE; omega)
    rw [h.rot hp hj', hgq] at hadd
    have hd0 : slD (Ls N (orb m p)) (some 0) none = some (Ls N (orb m p)) := slD_LsD 0

    simp -implicitDefEqProofs [F_p_loop_behind, G_p_loop_behind, c, hpp, hlast, hb, hnx, i0, hd0, g3, ij, hadd]

/-! #### the order of lists of numbers -/
theorem cast_lt : ∀ a b : List Nat, (a.map fun k : Nat => (k : Int)) < (b.map fun k : Nat => (k : Int)) ↔ a < b
  | [], [] => by simp
  | [], y :: b => by simp
  | x :: a, [] => by simp
  | x :: a, y :: b => by
    have h1 : ((x : Int) < y) ↔ x < y := by omega
    have h2 : ((x : Int) = y) ↔ x = y := by omega
    rw [List.map_cons, List.map_cons, List.cons_lt_cons_iff, List.cons_lt_cons_iff, cast_lt a b, h1, h2]
theorem ofMap (a : List Nat) : a.map N = (a.map fun k : Nat => (k : Int)).map PyData.int := by rw [List.map_map]; rfl
theorem sortLe_LN (a b : List Nat) : sortLe (Ls N a) (Ls N b) = !decide (b < a) := by
  unfold sortLe Ls
  rw [PySem.W.dataLt_list, ofMap a, ofMap b]
  congr 1
  refine Eq.trans (show _ = PySem.W.rowLt _ _ from rfl) ?_
  rw [PySem.W.dataLt_ints]
  exact decide_eq_decide.mpr (cast_lt b a)
theorem sortLe_TN (a b : List Nat) : sortLe (Tp N a) (Tp N b) = !decide (b < a) := by
  unfold sortLe Tp
  rw [PySem.W.dataLt_tuple, ofMap a, ofMap b]
  congr 1
  refine Eq.trans (show _ = PySem.W.rowLt _ _ from rfl) ?_
  rw [PySem.W.dataLt_ints]
  exact decide_eq_decide.mpr (cast_lt b a)

theorem alike_N (a b : List Nat) : PySem.W.alikeAll (a.map N) (b.map N) = true := by
  induction a generalizing b with
  | nil => cases b <;> rfl
  | cons x a ih =>
    cases b with
    | nil => rfl
    | cons y b => rw [List.map_cons, List.map_cons, PySem.W.alikeAll, ih]; rfl
theorem sortD_LN (ls : List (List Nat)) : sortD (Ls (Ls N) ls) = some (Ls (Ls N) (ls.mergeSort fun a b => sortLe (Ls N a) (Ls N b))) := by
  show (if srtOk (ls.map (Ls N)) = true then some (PyData.list ((ls.map (Ls N)).mergeSort sortLe)) else none) = _
  have : srtOk (ls.map (Ls N)) = true := by
    unfold srtOk
    simp only [Bool.and_eq_true, Bool.or_eq_true, List.all_eq_true, List.mem_map]
    refine ⟨?_, .inr ?_, ?_⟩
    · rintro _ ⟨a, _, rfl⟩ _ ⟨b, _, rfl⟩
      unfold Ls
      rw [PySem.W.alike]
      exact alike_N a b
    · rintro _ ⟨a, _, rfl⟩
      rfl
    · rw [dOkL_all, List.all_eq_true]
      intro d hd
      obtain ⟨a, _, rfl⟩ := List.mem_map.mp hd
      exact GE.dok _ _ (by decide)
  rw [if_pos this, ← List.map_mergeSort (r := fun a b => sortLe (Ls N a) (Ls N b)) (fun a _ b _ => rfl)]
  rfl

theorem orb_head {n m} (h : Turn n m) {p} (hp : p < n) : ∃ t, orb m p = p :: t := by
  unfold orb per
  rw [List.range_succ_eq_map, List.map_cons]
  exact ⟨_, rfl⟩
theorem orb_inj {n m} (h : Turn n m) {p q} (hp : p < n) (hq : q < n) (e : orb m p = orb m q) : p = q := by
  obtain ⟨t, e1⟩ := orb_head h hp
  obtain ⟨u, e2⟩ := orb_head h hq
  rw [e1, e2] at e
  injection e
theorem filter_snoc' {α : Type} (p : α → Bool) (l : List α) (x : α) : (l ++ [x]).filter p = l.filter p ++ (if p x = true then [x] else []) := by
  rw [List.filter_append]
  congr 1
  by_cases h : p x = true <;> simp [h]
theorem cyc_sorted {n m} (h : Turn n m) : (cyc m).mergeSort (fun a b => sortLe (Ls N a) (Ls N b)) = cyc m := by
  refine List.mergeSort_of_pairwise ?_
  unfold cyc
  rw [List.pairwise_map]
  refine List.Pairwise.imp_of_mem (R := (· < ·)) ?_ (List.Pairwise.filter _ List.pairwise_lt_range)
  intro a b ha hb hab
  have ha' : a < n := by have := List.mem_range.mp (List.mem_filter.mp ha).1; rwa [h.len] at this
  have hb' : b < n := by have := List.mem_range.mp (List.mem_filter.mp hb).1; rwa [h.len] at this
  obtain ⟨t, e1⟩ := orb_head h ha'
  obtain ⟨u, e2⟩ := orb_head h hb'
  rw [sortLe_LN, e1, e2, decide_eq_false]
  · rfl
  · rw [List.cons_lt_cons_iff]
    rintro (h | ⟨h, _⟩) <;> omega
theorem range_at {n : Nat} {pre post : List Nat} {x : Nat} (h : List.range n = pre ++ x :: post) : pre = List.range x ∧ x < n := by
  have hl : pre.length < n := by have := congrArg List.length h; simp at this; omega
  have e : (List.range n)[pre.length]? = (pre ++ x :: post)[pre.length]? := by rw [h]
  rw [List.getElem?_range hl] at e
  simp at e
  subst e
  refine ⟨?_, hl⟩
  have e2 := congrArg (List.take pre.length) h
  rw [List.take_left, List.take_range, Nat.min_eq_left (by omega)] at e2
  exact e2.symm
theorem loops_ok {n m} (h : Turn n m) (hn : n ≤ 1000) : F_p_loops [Tp N m] = some (Ls (Ls N) (cyc m)) := by
  obtain ⟨ρ', e1, a, b, rfl⟩ := goF_inv (e := N) (T := .nm 2) (body := B1_p_loops) (fun pre ρ => ∃ a b, ρ = [some (Tp N m, .sh), some (Ls (Ls N) ((pre.filter (isLeast m)).map (orb m)), .ow), a, b]) (List.range m.length) [some (Tp N m, .sh), some (.list [], .ow), none, none] ⟨none, none, rfl⟩ (by
    rintro pre x post _ hl ⟨a, b, rfl⟩
    obtain ⟨hpre, hx⟩ := range_at hl
    have hxn : x < n := by rw [← h.len]; exact hx
    obtain ⟨q, q1, q2, q3⟩ := loop_behind_ok h hn hxn
    have hqn := h.orb_lt hxn q1
    have hqx : q ≤ x := by
      unfold isLeast at q2
      rw [List.all_eq_true] at q2
      simpa using q2 x (h.orb_symm hxn q1)
    have hlen : ((pre.filter (isLeast m)).map (orb m)).length < LINE := by
      have := List.length_filter_le (isLeast m) pre
      rw [hpre, List.length_range] at this
      rw [List.length_map, hpre]
      unfold LINE
      have := h.len
      omega
    by_cases hlx : isLeast m x = true
    · have e : q = x := (h.least_uniq hxn q1 hlx q2).symm
      subst e
      have hni : orb m q ∉ (pre.filter (isLeast m)).map (orb m) := fun hc => by
        obtain ⟨r, hr, er⟩ := List.mem_map.mp hc
        have hr1 := (List.mem_filter.mp hr).1
        rw [hpre, List.mem_range] at hr1
        have := orb_inj h (by omega) hqn er
        omega
      refine ⟨[some (Tp N m, .sh), some (Ls (Ls N) (((pre ++ [q]).filter (isLeast m)).map (orb m)), .ow), some (N q, .sh), some (Ls N (orb m q), .sh)], ?_, _, _, rfl⟩
      rw [filter_snoc', if_pos hlx, List.map_append]
      generalize (pre.filter (isLeast m)).map (orb m) = L at hlen hni ⊢
      simp -implicitDefEqProofs [B1_p_loops, q3, hni, hlen]
    · have hne : q ≠ x := fun e => hlx (e ▸ q2)
      have hin : orb m q ∈ (pre.filter (isLeast m)).map (orb m) := List.mem_map.mpr ⟨q, List.mem_filter.mpr ⟨by rw [hpre, List.mem_range]; omega, q2⟩, rfl⟩
      refine ⟨[some (Tp N m, .sh), some (Ls (Ls N) (((pre ++ [x]).filter (isLeast m)).map (orb m)), .ow), some (N x, .sh), some (Ls N (orb m q), .ow)], ?_, _, _, rfl⟩
      rw [filter_snoc', if_neg hlx, List.append_nil]
      generalize (pre.filter (isLeast m)).map (orb m) = L at hlen hin ⊢
      simp -implicitDefEqProofs [B1_p_loops, q3, hin])
  have e0 := fun δ h => itr1_eq (g := bind1 (vr 0) lenD) (δ := δ) (k := m.length) h (by have := ‹Turn n m›.len; unfold LINE; omega)
  simp -implicitDefEqProofs [F_p_loops, G_p_loops, e0, e1, sortD_LN, -List.map_map]
  rw [show (List.map (orb m) (List.filter (isLeast m) (List.range m.length))) = cyc m from rfl, cyc_sorted h]

theorem Turn.surj {n m} (h : Turn n m) {z} (hz : z < n) : ∃ p, p < n ∧ go m p = z := by
  refine ⟨it m (per m z - 1) z, h.it_lt hz _, ?_⟩
  show it m (per m z - 1 + 1) z = z
  rw [Nat.sub_add_cancel (per_pos m z)]
  exact (h.per_spec hz).1
theorem Turn.us_map {n m} (h : Turn n m) : us ((List.range n).map (go m)) = List.range n := by
  refine pw_uniqN (us_pw _) List.pairwise_lt_range fun z => ?_
  rw [mem_us, List.mem_map, List.mem_range]
  constructor
  · rintro ⟨p, hp, rfl⟩; exact h.go_lt (List.mem_range.mp hp)
  · intro hz
    obtain ⟨p, hp, e⟩ := h.surj hz
    exact ⟨p, List.mem_range.mpr hp, e⟩
theorem on_loops_ok {n m} (h : Turn n m) (hn : n < 64) : F_law_on_loops [Tp N m] = some (Ls N (List.range n)) := by
  have hlen := h.len
  obtain ⟨ρ', e1, a, rfl⟩ := goF_inv (e := N) (T := .nm 2) (body := B1_law_on_loops) (fun _ ρ => ∃ a, ρ = [some (Tp N m, .sh), some (Ls N (List.range n), .ow), a, none]) (List.range m.length) [some (Tp N m, .sh), some (Ls N (List.range n), .ow), none, none] ⟨none, rfl⟩ (by
    rintro pre x post _ hl ⟨a, rfl⟩
    refine ⟨[some (Tp N m, .sh), some (Ls N (List.range n), .ow), some (N x, .sh), none], ?_, _, rfl⟩
    simp -implicitDefEqProofs [B1_law_on_loops]
    rw [lcD_map (e := N) (e' := N) (List.range n) (go m) (by simp) ?_ (by simp; unfold LINE; omega)]
    · simp -implicitDefEqProofs [hn, h.us_map, -List.map_map]
    · intro p hp
      have hp : p < m.length := by rw [hlen]; simpa using hp
      simp -implicitDefEqProofs [hp, go])
  have e0 := fun δ h => itr1_eq (g := bind1 (vr 0) lenD) (δ := δ) (k := m.length) h (by unfold LINE; omega)
  have e2 := fun δ h => lst_eq (g := bind1 (vr 0) lenD) (δ := δ) (k := m.length) h (by unfold LINE; omega)
  rw [← hlen] at e1 ⊢
  simp -implicitDefEqProofs [F_law_on_loops, G_law_on_loops, e0, e2, e1]
theorem law_loop1 {n m} (h : Turn n m) (hn : n ≤ 1000) {x} (hx : x < n) (fo se : Option (PyData × Own)) : whileS 1000000 (tst (bind2 (bind2 (vr 0) (bind2 (vr 4) (bind1 (kst (N 1)) negD) ixD) ixD) (vr 3) neD)) B1_law_loops [some (Tp N m, .sh), fo, se, some (N x, .sh), some (Ls N [x], .ow)] = some (.nx [some (Tp N m, .sh), fo, se, some (N x, .sh), some (Ls N (orb m x), .ow)]) := by
  have hs := h.per_spec hx
  have hpp := per_pos m x
  have hlen := h.len
  have test : ∀ k, 1 ≤ k → k ≤ per m x → tst (bind2 (bind2 (vr 0) (bind2 (vr 4) (bind1 (kst (N 1)) negD) ixD) ixD) (vr 3) neD) (dat [some (Tp N m, .sh), fo, se, some (N x, .sh), some (Ls N ((List.range k).map fun j => it m j x), .ow)]) = some (!decide (k = per m x)) := by
    intro k hk1 hk2
    have hb : it m (k - 1) x < m.length := by rw [hlen]; exact h.it_lt hx _
    have hl : ((List.range k).map fun j => it m j x)[k - 1]'(by simp; omega) = it m (k - 1) x := by simp
    have hg : m[it m (k - 1) x] = it m k x := by
      have : it m k x = go m (it m (k - 1) x) := by
        rw [show k = k - 1 + 1 by omega]; rfl
      rw [this]
      simp [go, hb]
    have hd : decide (it m k x = x) = decide (k = per m x) := by
      rw [decide_eq_decide]
      constructor
      · intro e
        by_cases hc : k = per m x
        · exact hc
        · exact absurd e (hs.2.2 k (by omega) (by omega))
      · intro e; rw [e]; exact hs.1
    have hk0 : 0 < k := by omega
    simp -implicitDefEqProofs [hk0, hb, hg, hd]
  obtain ⟨ρ', k', e1, ⟨k, hk1, hk, rfl, rfl⟩, e2⟩ := whileS_meas (pt := tst (bind2 (bind2 (vr 0) (bind2 (vr 4) (bind1 (kst (N 1)) negD) ixD) ixD) (vr 3) neD)) (body := B1_law_loops) (fun K ρ => ∃ k, 1 ≤ k ∧ k ≤ per m x ∧ K = per m x - k ∧ ρ = [some (Tp N m, .sh), fo, se, some (N x, .sh), some (Ls N ((List.range k).map fun j => it m j x), .ow)]) (by
    rintro K ρ ⟨k, hk1, hk, rfl, rfl⟩
    by_cases hkp : k = per m x
    · exact .inl (by rw [test k hk1 hk, decide_eq_true hkp]; rfl)
    · refine .inr ⟨by rw [test k hk1 hk, decide_eq_false hkp]; rfl, [some (Tp N m, .sh), fo, se, some (N x, .sh), some (Ls N ((List.range (k + 1)).map fun j => it m j x), .ow)], per m x - (k + 1), by omega, ?_, k + 1, by omega, by omega, rfl, rfl⟩
      have hb : it m (k - 1) x < m.length := by rw [hlen]; exact h.it_lt hx _
      have hl : ((List.range k).map fun j => it m j x)[k - 1]'(by simp; omega) = it m (k - 1) x := by simp
      have hg : m[it m (k - 1) x] = it m k x := by
        have : it m k x = go m (it m (k - 1) x) := by
          rw [show k = k - 1 + 1 by omega]; rfl
        rw [this]
        simp [go, hb]
      have hl2 : ((List.range k).map fun j => it m j x).length < LINE := by simp; unfold LINE; omega
      have hk0 : 0 < k := by omega
      rw [List.range_succ, List.map_append, List.map_singleton]
      have body : ∀ (L : List Nat) (h0 : 0 < L.length), L.length < LINE → L[L.length - 1]'(by omega) = it m (k - 1) x → B1_law_loops [some (Tp N m, .sh), fo, se, some (N x, .sh), some (Ls N L, .ow)] = some (.nx [some (Tp N m, .sh), fo, se, some (N x, .sh), some (Ls N (L ++ [it m k x]), .ow)]) := by
        intro L h0 hl2 hl'
        simp -implicitDefEqProofs [B1_law_loops, h0, hl', hb, hg, hl2]
      exact body _ (by simp; omega) hl2 (by simp)) 1000000 (per m x - 1) [some (Tp N m, .sh), fo, se, some (N x, .sh), some (Ls N [x], .ow)] (by omega) ⟨1, by omega, by omega, rfl, rfl⟩
  rw [test k hk1 hk] at e2
  have : k = per m x := by simpa using e2
  subst this
  exact e1
def seenN (m : List Nat) (x : Nat) : List Nat := ((List.range x).filter (isLeast m)).flatMap (orb m)
theorem law_loops_ok {n m} (h : Turn n m) (hn : n < 64) : F_law_loops [Tp N m] = some (Ls (Ls N) (cyc m)) := by
  have hlen := h.len
  have c := on_loops_ok h hn
  obtain ⟨ρ', e1, a, b, rfl, _⟩ := goF_inv (e := N) (T := .nm 3) (body := B2_law_loops) (fun pre ρ => ∃ a b, ρ = [some (Tp N m, .sh), some (Ls (Ls N) ((pre.filter (isLeast m)).map (orb m)), .ow), some (Ls N ((pre.filter (isLeast m)).flatMap (orb m)), .ow), a, b] ∧ ((pre.filter (isLeast m)).flatMap (orb m)).length ≤ 64 * pre.length) (List.range n) [some (Tp N m, .sh), some (.list [], .ow), some (.list [], .ow), none, none] ⟨none, none, rfl, by simp⟩ (by
    rintro pre x post _ hl ⟨a, b, rfl, hb⟩
    obtain ⟨hpre, hx⟩ := range_at hl
    have hpl : pre.length ≤ 64 := by rw [hpre]; simp; omega
    have hfl : ((pre.filter (isLeast m)).map (orb m)).length < LINE := by
      have := List.length_filter_le (isLeast m) pre
      rw [List.length_map]
      unfold LINE
      omega
    by_cases hlx : isLeast m x = true
    · have hni : x ∉ (pre.filter (isLeast m)).flatMap (orb m) := fun hc => by
        obtain ⟨r, hr, er⟩ := List.mem_flatMap.mp hc
        have hr1 := List.mem_filter.mp hr
        rw [hpre, List.mem_range] at hr1
        have := h.least_uniq (show r < n by omega) er hr1.2 hlx
        omega
      have w := law_loop1 h (by omega) hx (some (Ls (Ls N) ((pre.filter (isLeast m)).map (orb m)), .ow)) (some (Ls N ((pre.filter (isLeast m)).flatMap (orb m)), .ow))
      have hper := (h.per_spec hx).2.1
      have hadd := addD_Ls (e := N) (l := (pre.filter (isLeast m)).flatMap (orb m)) (m := orb m x) (by rw [orb_len]; unfold LINE; omega)
      refine ⟨[some (Tp N m, .sh), some (Ls (Ls N) (((pre ++ [x]).filter (isLeast m)).map (orb m)), .ow), some (Ls N (((pre ++ [x]).filter (isLeast m)).flatMap (orb m)), .ow), some (N x, .sh), some (Ls N (orb m x), .sh)], ?_, _, _, rfl, ?_⟩
      · rw [filter_snoc', if_pos hlx, List.map_append, List.flatMap_append, List.flatMap_singleton, List.map_singleton]
        have h1 : PyData.list [N x] = Ls N [x] := rfl
        generalize (pre.filter (isLeast m)).map (orb m) = L at hfl w ⊢
        generalize (pre.filter (isLeast m)).flatMap (orb m) = S at hni hadd w ⊢
        simp -implicitDefEqProofs [B2_law_loops, hni, h1, w, hadd, hfl]
      · rw [filter_snoc', if_pos hlx, List.flatMap_append, List.flatMap_singleton, List.length_append, orb_len, List.length_append, List.length_singleton]
        omega
    · have hin : x ∈ (pre.filter (isLeast m)).flatMap (orb m) := by
        obtain ⟨q, hq, hqo, hql⟩ := h.least_ex hx
        have hqx : q ≤ x := by
          have hql' := hql
          unfold isLeast at hql'
          rw [List.all_eq_true] at hql'
          simpa using hql' x (h.orb_symm hx hqo)
        have hne : q ≠ x := fun e => hlx (e ▸ hql)
        exact List.mem_flatMap.mpr ⟨q, List.mem_filter.mpr ⟨by rw [hpre, List.mem_range]; omega, hql⟩, h.orb_symm hx hqo⟩
      refine ⟨[some (Tp N m, .sh), some (Ls (Ls N) (((pre ++ [x]).filter (isLeast m)).map (orb m)), .ow), some (Ls N (((pre ++ [x]).filter (isLeast m)).flatMap (orb m)), .ow), some (N x, .sh), b], ?_, _, _, rfl, ?_⟩
      · rw [filter_snoc', if_neg hlx, List.append_nil]
        generalize (pre.filter (isLeast m)).map (orb m) = L at hfl ⊢
        generalize (pre.filter (isLeast m)).flatMap (orb m) = S at hin ⊢
        simp -implicitDefEqProofs [B2_law_loops, hin]
      · rw [filter_snoc', if_neg hlx, List.append_nil, List.length_append]
        omega)
  simp -implicitDefEqProofs [F_law_loops, G_law_loops, c, e1]
  rw [← hlen]
  rfl
/-- the loops are a parting -/
theorem cyc_part {n m} (h : Turn n m) : Part n (cyc m) := by
  have hlen := h.len
  refine ⟨fun L hL => ?_, ?_, fun p => ⟨fun hp => ?_, ?_⟩⟩
  · obtain ⟨q, _, rfl⟩ := List.mem_map.mp hL
    exact List.ne_nil_of_length_pos (by rw [orb_len]; exact per_pos m q)
  · unfold cyc List.Nodup
    rw [List.pairwise_flatten]
    refine ⟨fun L hL => ?_, ?_⟩
    · obtain ⟨q, hq, rfl⟩ := List.mem_map.mp hL
      exact h.orb_nd (by rw [← hlen]; exact List.mem_range.mp (List.mem_filter.mp hq).1)
    · rw [List.pairwise_map]
      refine List.Pairwise.imp_of_mem (R := (· < ·)) ?_ (List.Pairwise.filter _ List.pairwise_lt_range)
      intro a b ha hb hab x hx y hy e
      subst e
      have ha' := List.mem_filter.mp ha
      have hb' := List.mem_filter.mp hb
      have han : a < n := by rw [← hlen]; exact List.mem_range.mp ha'.1
      have hbn : b < n := by rw [← hlen]; exact List.mem_range.mp hb'.1
      have := h.least_uniq han (h.orb_trans han hx (h.orb_symm hbn hy)) ha'.2 hb'.2
      omega
  · obtain ⟨q, hq, hqo, hql⟩ := h.least_ex hp
    exact ⟨orb m q, List.mem_map.mpr ⟨q, List.mem_filter.mpr ⟨by rw [List.mem_range, hlen]; exact hq, hql⟩, rfl⟩, h.orb_symm hp hqo⟩
  · rintro ⟨L, hL, hp⟩
    obtain ⟨q, hq, rfl⟩ := List.mem_map.mp hL
    exact h.orb_lt (by rw [← hlen]; exact List.mem_range.mp (List.mem_filter.mp hq).1) hp

/-! #### orders -/
theorem common_part_ok (a b : Nat) (hb : b < 1000000) : F_p_common_part [N a, N b] = some (N (Nat.gcd a b)) := by
  obtain ⟨ρ', k', e1, ⟨x, y, rfl, rfl, hg⟩, e2⟩ := whileS_meas (pt := tst (bind2 (vr 1) (kst (N 0)) (cmpD fun i j => decide (j < i)))) (body := B1_p_common_part) (fun K ρ => ∃ x y, K = y ∧ ρ = [some (N x, .sh), some (N y, .sh)] ∧ Nat.gcd x y = Nat.gcd a b) (by
    rintro K ρ ⟨x, y, rfl, rfl, hg⟩
    by_cases hy : 0 < K
    · refine .inr ⟨by simp -implicitDefEqProofs [hy], [some (N K, .sh), some (N (x % K), .sh)], x % K, Nat.mod_lt _ hy, by simp -implicitDefEqProofs [B1_p_common_part, hy], K, x % K, rfl, rfl, ?_⟩
      rw [← hg, Nat.gcd_comm x K, Nat.gcd_rec K x, Nat.gcd_comm]
    · exact .inl (by simp -implicitDefEqProofs [hy])) 1000000 b [some (N a, .sh), some (N b, .sh)] hb ⟨a, b, rfl, rfl, rfl⟩
  have hy : k' = 0 := by
    have : tst (bind2 (vr 1) (kst (N 0)) (cmpD fun i j => decide (j < i))) (dat [some (N x, .sh), some (N k', .sh)]) = some (decide (0 < k')) := by simp -implicitDefEqProofs
    rw [this] at e2
    simpa using e2
  subst hy
  simp -implicitDefEqProofs [F_p_common_part, G_p_common_part, e1]
  rw [← hg, Nat.gcd_zero_right]
theorem law_common_ok (a b : Nat) (hb : b < 1000000) : F_law_common [N a, N b] = some (N (Nat.gcd a b)) := by
  obtain ⟨ρ', k', e1, ⟨x, y, rfl, rfl, hg⟩, e2⟩ := whileS_meas (pt := tst (bind2 (vr 1) (kst (N 0)) neD)) (body := B1_law_common) (fun K ρ => ∃ x y, K = y ∧ ρ = [some (N x, .sh), some (N y, .sh)] ∧ Nat.gcd x y = Nat.gcd a b) (by
    rintro K ρ ⟨x, y, rfl, rfl, hg⟩
    by_cases hy : 0 < K
    · have hne : K ≠ 0 := by omega
      refine .inr ⟨by simp -implicitDefEqProofs [hne], [some (N K, .sh), some (N (x % K), .sh)], x % K, Nat.mod_lt _ hy, by simp -implicitDefEqProofs [B1_law_common, hy], K, x % K, rfl, rfl, ?_⟩
      rw [← hg, Nat.gcd_comm x K, Nat.gcd_rec K x, Nat.gcd_comm]
    · have he : K = 0 := by omega
      exact .inl (by simp -implicitDefEqProofs [he])) 1000000 b [some (N a, .sh), some (N b, .sh)] hb ⟨a, b, rfl, rfl, rfl⟩
  have hy : k' = 0 := by
    have : tst (bind2 (vr 1) (kst (N 0)) neD) (dat [some (N x, .sh), some (N k', .sh)]) = some (!decide (k' = 0)) := by simp -implicitDefEqProofs
    rw [this] at e2
    simpa using e2
  subst hy
  simp -implicitDefEqProofs [F_law_common, G_law_common, e1]
  rw [← hg, Nat.gcd_zero_right]
def ordL (ls : List (List Nat)) : Nat := ls.foldl (fun o L => Nat.lcm o L.length) 1
def ordN (m : List Nat) : Nat := ordL (cyc m)
theorem lcm_fold_pos : ∀ (ls : List (List Nat)) (o : Nat), 0 < o → (∀ L ∈ ls, 0 < L.length) → 0 < ls.foldl (fun o L => Nat.lcm o L.length) o
  | [], o, ho, _ => ho
  | L :: ls, o, ho, h => lcm_fold_pos ls _ (Nat.lcm_pos ho (h L (by simp))) fun M hM => h M (List.mem_cons_of_mem _ hM)
theorem order_of_ok {n m} (h : Turn n m) (hn : n ≤ 1000) : F_p_order_of [Tp N m] = some (N (ordN m)) := by
  have c := loops_ok h hn
  have hP := cyc_part h
  obtain ⟨ρ', e1, ⟨hp, a, rfl⟩⟩ := goF_fold (e := Ls N) (T := .nm 2) (body := B1_p_order_of) (fun (o : Nat) ρ => 0 < o ∧ ∃ a, ρ = [some (Tp N m, .sh), some (N o, .sh), a]) (fun o L => Nat.lcm o L.length) (cyc m) 1 [some (Tp N m, .sh), some (N 1, .sh), none] (by
    rintro o L _ hL ⟨ho, a, rfl⟩
    have hl := hP.line hL
    have hl0 := hP.ne L hL
    have hl1 : 0 < L.length := List.length_pos_iff.mpr hl0
    have g := common_part_ok o L.length (by omega)
    have g1 : Nat.gcd o L.length ≤ L.length := Nat.gcd_le_right _ hl1
    have g0 : 0 < Nat.gcd o L.length := Nat.gcd_pos_of_pos_right _ hl1
    have g2 : Nat.gcd o L.length < 1073741824 := by omega
    have g3 : L.length < 18446744073709551616 := by omega
    refine ⟨[some (Tp N m, .sh), some (N (Nat.lcm o L.length), .sh), some (Ls N L, .sh)], ?_, Nat.lcm_pos ho hl1, _, rfl⟩
    simp -implicitDefEqProofs [B1_p_order_of, g, g0, g2, g3]
    rfl) ⟨by omega, none, rfl⟩
  simp -implicitDefEqProofs [F_p_order_of, G_p_order_of, c, e1]
  rfl
theorem law_order_ok {n m} (h : Turn n m) (hn : n < 64) : F_law_order [Tp N m] = some (N (ordN m)) := by
  have c := law_loops_ok h hn
  have hP := cyc_part h
  obtain ⟨ρ', e1, ⟨hp, a, rfl⟩⟩ := goF_fold (e := Ls N) (T := .nm 2) (body := B1_law_order) (fun (o : Nat) ρ => 0 < o ∧ ∃ a, ρ = [some (Tp N m, .sh), some (N o, .sh), a]) (fun o L => Nat.lcm o L.length) (cyc m) 1 [some (Tp N m, .sh), some (N 1, .sh), none] (by
    rintro o L _ hL ⟨ho, a, rfl⟩
    have hl := hP.line hL
    have hl0 := hP.ne L hL
    have hl1 : 0 < L.length := List.length_pos_iff.mpr hl0
    have g := law_common_ok o L.length (by omega)
    have g1 : Nat.gcd o L.length ≤ L.length := Nat.gcd_le_right _ hl1
    have g0 : 0 < Nat.gcd o L.length := Nat.gcd_pos_of_pos_right _ hl1
    have g2 : Nat.gcd o L.length < 1073741824 := by omega
    have g3 : L.length / Nat.gcd o L.length < 18446744073709551616 := Nat.lt_of_le_of_lt (Nat.div_le_self _ _) (by omega)
    have g4 : o * (L.length / Nat.gcd o L.length) = Nat.lcm o L.length := by
      unfold Nat.lcm
      rw [Nat.mul_div_assoc _ (Nat.gcd_dvd_right _ _)]
    refine ⟨[some (Tp N m, .sh), some (N (Nat.lcm o L.length), .sh), some (Ls N L, .sh)], ?_, Nat.lcm_pos ho hl1, _, rfl⟩
    simp -implicitDefEqProofs [B1_law_order, g, g0, g2, g3, g4]) ⟨by omega, none, rfl⟩
  simp -implicitDefEqProofs [F_law_order, G_law_order, c, e1]
  rfl
/-! the order is the least power that rests -/
theorem it_of_dvd {n m} (h : Turn n m) {p} (hp : p < n) {t} (ht : per m p ∣ t) : it m t p = p := by
  rw [h.it_mod hp, Nat.mod_eq_zero_of_dvd ht]
  rfl
theorem dvd_of_it {n m} (h : Turn n m) {p} (hp : p < n) {t} (ht : it m t p = p) : per m p ∣ t := by
  rw [h.it_mod hp] at ht
  have hlt := Nat.mod_lt t (per_pos m p)
  by_cases hc : t % per m p = 0
  · exact Nat.dvd_of_mod_eq_zero hc
  · exact absurd ht ((h.per_spec hp).2.2 _ (by omega) hlt)
theorem dvd_fold : ∀ (ls : List (List Nat)) (o : Nat), o ∣ ls.foldl (fun o L => Nat.lcm o L.length) o ∧ ∀ L ∈ ls, L.length ∣ ls.foldl (fun o L => Nat.lcm o L.length) o
  | [], o => ⟨Nat.dvd_refl _, fun L hL => by cases hL⟩
  | L :: ls, o => by
    obtain ⟨a, b⟩ := dvd_fold ls (Nat.lcm o L.length)
    refine ⟨Nat.dvd_trans (Nat.dvd_lcm_left _ _) a, fun M hM => ?_⟩
    rcases List.mem_cons.mp hM with rfl | hM
    · exact Nat.dvd_trans (Nat.dvd_lcm_right _ _) a
    · exact b M hM
theorem fold_dvd : ∀ (ls : List (List Nat)) (o t : Nat), o ∣ t → (∀ L ∈ ls, L.length ∣ t) → ls.foldl (fun o L => Nat.lcm o L.length) o ∣ t
  | [], o, t, ho, _ => ho
  | L :: ls, o, t, ho, h => fold_dvd ls _ t (Nat.lcm_dvd ho (h L (by simp))) fun M hM => h M (List.mem_cons_of_mem _ hM)
theorem ord_rest {n m} (h : Turn n m) {p} (hp : p < n) : it m (ordN m) p = p := by
  obtain ⟨q, hq, hqo, hql⟩ := h.least_ex hp
  refine it_of_dvd h hp ?_
  rw [← h.per_eq hp hqo, ← orb_len]
  exact (dvd_fold (cyc m) 1).2 _ (List.mem_map.mpr ⟨q, List.mem_filter.mpr ⟨by rw [List.mem_range, h.len]; exact hq, hql⟩, rfl⟩)
theorem ord_least {n m} (h : Turn n m) {t} (ht : ∀ p, p < n → it m t p = p) : ordN m ∣ t := by
  refine fold_dvd (cyc m) 1 t (Nat.one_dvd _) fun L hL => ?_
  obtain ⟨q, hq, rfl⟩ := List.mem_map.mp hL
  rw [orb_len]
  have hqn : q < n := by rw [← h.len]; exact List.mem_range.mp (List.mem_filter.mp hq).1
  exact dvd_of_it h hqn (ht q hqn)
theorem ord_pos {n m} (h : Turn n m) : 0 < ordN m := lcm_fold_pos _ _ (by omega) fun L hL => List.length_pos_iff.mpr ((cyc_part h).ne L hL)

/-! #### pairs in the other order -/
def sumTo : Nat → (Nat → Nat) → Nat
  | 0, _ => 0
  | n + 1, a => sumTo n a + a n
theorem sumTo_congr {a b : Nat → Nat} : ∀ {n : Nat}, (∀ i, i < n → a i = b i) → sumTo n a = sumTo n b
  | 0, _ => rfl
  | n + 1, h => by rw [sumTo, sumTo, sumTo_congr fun i hi => h i (by omega), h n (by omega)]
theorem sumTo_add (a b : Nat → Nat) : ∀ n, sumTo n (fun i => a i + b i) = sumTo n a + sumTo n b
  | 0 => rfl
  | n + 1 => by rw [sumTo, sumTo, sumTo, sumTo_add a b n]; omega
theorem sumTo_mul (c : Nat) (a : Nat → Nat) : ∀ n, sumTo n (fun i => c * a i) = c * sumTo n a
  | 0 => rfl
  | n + 1 => by rw [sumTo, sumTo, sumTo_mul c a n, Nat.mul_add]
theorem sumTo_list (a : Nat → Nat) : ∀ n, sumTo n a = ((List.range n).map a).sum
  | 0 => rfl
  | n + 1 => by rw [sumTo, List.range_succ, List.map_append, List.sum_append, sumTo_list a n]; simp
theorem perm_of_mem : ∀ {l m : List Nat}, l.Nodup → m.Nodup → (∀ x, x ∈ l ↔ x ∈ m) → l.Perm m
  | [], [], _, _, _ => .nil
  | [], y :: m, _, _, h => by have := (h y).mpr (by simp); cases this
  | x :: l, m, hl, hm, h => by
    have hx : x ∈ m := (h x).mp (by simp)
    have hl' := List.nodup_cons.mp hl
    refine (List.Perm.cons x (perm_of_mem hl'.2 (hm.erase x) fun z => ?_)).trans (List.perm_cons_erase hx).symm
    rw [hm.mem_erase_iff]
    constructor
    · intro hz
      exact ⟨fun e => hl'.1 (e ▸ hz), (h z).mp (List.mem_cons_of_mem _ hz)⟩
    · rintro ⟨h1, h2⟩
      rcases List.mem_cons.mp ((h z).mpr h2) with e | e
      · exact absurd e h1
      · exact e
/-- a bijection of the points below n -/
structure Bij (n : Nat) (f : Nat → Nat) : Prop where
  lt : ∀ p, p < n → f p < n
  inj : ∀ p q, p < n → q < n → f p = f q → p = q
theorem Bij.perm {n f} (h : Bij n f) : ((List.range n).map f).Perm (List.range n) := by
  have nd : ((List.range n).map f).Nodup := by
    unfold List.Nodup
    rw [List.pairwise_map]
    refine List.Pairwise.imp_of_mem (R := (· < ·)) ?_ List.pairwise_lt_range
    intro a b ha hb hab e
    have := h.inj a b (List.mem_range.mp ha) (List.mem_range.mp hb) e
    omega
  refine perm_of_mem nd List.nodup_range fun z => ⟨fun hz => ?_, fun hz => ?_⟩
  · obtain ⟨p, hp, rfl⟩ := List.mem_map.mp hz
    exact List.mem_range.mpr (h.lt p (List.mem_range.mp hp))
  · refine Classical.byContradiction fun hc => ?_
    have h1 := nodup_lenN (l := z :: (List.range n).map f) (m := List.range n) (List.nodup_cons.mpr ⟨hc, nd⟩) fun w hw => by
      rcases List.mem_cons.mp hw with rfl | hw
      · exact hz
      · obtain ⟨p, hp, rfl⟩ := List.mem_map.mp hw
        exact List.mem_range.mpr (h.lt p (List.mem_range.mp hp))
    simp at h1
    omega
theorem Bij.sum {n f} (h : Bij n f) (a : Nat → Nat) : sumTo n (fun i => a (f i)) = sumTo n a := by
  rw [sumTo_list, sumTo_list, ← (h.perm.map a).sum_nat, List.map_map]
  rfl
theorem Bij.comp {n f g} (h : Bij n f) (k : Bij n g) : Bij n fun p => g (f p) := ⟨fun p hp => k.lt _ (h.lt p hp), fun p q hp hq e => h.inj p q hp hq (k.inj _ _ (h.lt p hp) (h.lt q hq) e)⟩
/-- over all pairs i < j -/
def pairs (n : Nat) (a : Nat → Nat → Nat) : Nat := sumTo n fun j => sumTo j fun i => a i j
theorem full_pairs (a : Nat → Nat → Nat) (hs : ∀ i j, a i j = a j i) (h0 : ∀ i, a i i = 0) : ∀ n, sumTo n (fun j => sumTo n fun i => a i j) = 2 * pairs n a
  | 0 => rfl
  | n + 1 => by
    have e1 : sumTo n (fun j => sumTo (n + 1) fun i => a i j) = sumTo n (fun j => sumTo n fun i => a i j) + sumTo n (fun j => a n j) := by
      rw [← sumTo_add]
      rfl
    have e2 : sumTo n (fun j => a n j) = sumTo n (fun i => a i n) := sumTo_congr fun i _ => hs n i
    show sumTo n (fun j => sumTo (n + 1) fun i => a i j) + sumTo (n + 1) (fun i => a i n) = 2 * (pairs n a + sumTo n (fun i => a i n))
    rw [e1, full_pairs a hs h0 n, sumTo, h0, e2]
    omega
theorem Bij.pairs {n f} (h : Bij n f) (a : Nat → Nat → Nat) (hs : ∀ i j, a i j = a j i) (h0 : ∀ i, a i i = 0) : PM.pairs n (fun i j => a (f i) (f j)) = PM.pairs n a := by
  have e1 := full_pairs (fun i j => a (f i) (f j)) (fun i j => hs _ _) (fun i => h0 _) n
  have e2 := full_pairs a hs h0 n
  have e3 : sumTo n (fun j => sumTo n fun i => a (f i) (f j)) = sumTo n (fun j => sumTo n fun i => a i j) := by
    rw [← h.sum (fun j => sumTo n fun i => a i j)]
    exact sumTo_congr fun j _ => h.sum (fun i => a i (f j))
  rw [e1, e2] at e3
  omega
/-- 1 where f turns the pair round -/
def trn (f : Nat → Nat) (i j : Nat) : Nat := if i = j then 0 else if (i < j) = (f i < f j) then 0 else 1
theorem trn_symm {n f} (h : Bij n f) {i j} (hi : i < n) (hj : j < n) : trn f i j = trn f j i := by
  unfold trn
  by_cases e : i = j
  · subst e; rfl
  · have hne : f i ≠ f j := fun z => e (h.inj i j hi hj z)
    rw [if_neg e, if_neg (Ne.symm e)]
    simp only [eq_iff_iff]
    by_cases a : i < j <;> by_cases b : f i < f j <;> simp [a, b] <;> omega
def inv (n : Nat) (f : Nat → Nat) : Nat := pairs n (trn f)
theorem pairs_congr {n : Nat} {a b : Nat → Nat → Nat} (h : ∀ i j, i < j → j < n → a i j = b i j) : pairs n a = pairs n b := sumTo_congr fun j hj => sumTo_congr fun i hi => h i j hi hj
theorem pairs_add (n : Nat) (a b : Nat → Nat → Nat) : pairs n (fun i j => a i j + b i j) = pairs n a + pairs n b := by
  unfold pairs
  rw [← sumTo_add]
  exact sumTo_congr fun j _ => sumTo_add _ _ j
theorem pairs_mul (n c : Nat) (a : Nat → Nat → Nat) : pairs n (fun i j => c * a i j) = c * pairs n a := by
  unfold pairs
  rw [← sumTo_mul]
  exact sumTo_congr fun j _ => sumTo_mul c _ j
/-- cut to the points below n: symmetric everywhere -/
def cut (n : Nat) (a : Nat → Nat → Nat) (i j : Nat) : Nat := if i < n ∧ j < n then a i j else 0
theorem inv_comp {n f g} (hf : Bij n f) (hg : Bij n g) : inv n (fun p => g (f p)) % 2 = (inv n f + inv n g) % 2 := by
  have key : inv n (fun p => g (f p)) + 2 * pairs n (fun i j => trn f i j * trn g (f i) (f j)) = inv n f + pairs n (fun i j => trn g (f i) (f j)) := by
    unfold inv
    rw [← pairs_mul, ← pairs_add, ← pairs_add]
    refine pairs_congr fun i j hij hj => ?_
    have hne : f i ≠ f j := fun z => by have := hf.inj i j (by omega) hj z; omega
    unfold trn
    rw [if_neg (by omega : i ≠ j), if_neg (by omega : i ≠ j), if_neg hne]
    simp only [eq_iff_iff]
    by_cases a : i < j <;> by_cases b : f i < f j <;> by_cases c : g (f i) < g (f j) <;> simp [a, b, c]
  have e : pairs n (fun i j => trn g (f i) (f j)) = inv n g := by
    have h1 := hf.pairs (cut n (trn g)) (fun i j => by
      unfold cut
      by_cases hc : i < n ∧ j < n
      · rw [if_pos hc, if_pos ⟨hc.2, hc.1⟩, trn_symm hg hc.1 hc.2]
      · rw [if_neg hc, if_neg (fun z => hc ⟨z.2, z.1⟩)]) (fun i => by unfold cut trn; simp)
    have h2 : pairs n (fun i j => cut n (trn g) (f i) (f j)) = pairs n (fun i j => trn g (f i) (f j)) := pairs_congr fun i j hij hj => by
      unfold cut
      rw [if_pos ⟨hf.lt i (by omega), hf.lt j hj⟩]
    have h3 : pairs n (cut n (trn g)) = pairs n (trn g) := pairs_congr fun i j hij hj => by
      unfold cut
      rw [if_pos ⟨by omega, hj⟩]
    rw [h2, h3] at h1
    exact h1
  rw [e] at key
  omega
/-! exchanges -/
def xch (a b p : Nat) : Nat := if p = a then b else if p = b then a else p
theorem xch_xch (a b p : Nat) : xch a b (xch a b p) = p := by
  unfold xch
  by_cases h1 : p = a
  · subst h1; rw [if_pos rfl]; by_cases h2 : b = p <;> simp [h2]
  · by_cases h2 : p = b
    · subst h2; simp [h1]
    · simp [h1, h2]
theorem xch_l (a b : Nat) : xch a b a = b := by unfold xch; rw [if_pos rfl]
theorem xch_r (a b : Nat) : xch a b b = a := by
  unfold xch
  by_cases h : b = a
  · rw [if_pos h, h]
  · rw [if_neg h, if_pos rfl]
theorem xch_o {a b p : Nat} (h1 : p ≠ a) (h2 : p ≠ b) : xch a b p = p := by
  unfold xch
  rw [if_neg h1, if_neg h2]
theorem xch_bij {n a b} (ha : a < n) (hb : b < n) : Bij n (xch a b) := ⟨fun p hp => by
  unfold xch
  split
  · exact hb
  · split
    · exact ha
    · exact hp, fun p q _ _ e => by
  have := congrArg (xch a b) e
  rwa [xch_xch, xch_xch] at this⟩
theorem sumTo_zero {a : Nat → Nat} : ∀ {n : Nat}, (∀ i, i < n → a i = 0) → sumTo n a = 0
  | 0, _ => rfl
  | n + 1, h => by rw [sumTo, sumTo_zero fun i hi => h i (by omega), h n (by omega)]
theorem sumTo_one {a : Nat → Nat} {k : Nat} : ∀ {n : Nat}, k < n → (∀ i, i < n → i ≠ k → a i = 0) → sumTo n a = a k
  | 0, h, _ => by omega
  | n + 1, h, z => by
    rw [sumTo]
    by_cases e : k = n
    · subst e
      rw [sumTo_zero fun i hi => z i (by omega) (by omega), Nat.zero_add]
    · rw [sumTo_one (by omega) fun i hi hne => z i (by omega) hne, z n (by omega) (by omega), Nat.add_zero]
theorem inv_next {n k} (hk : k + 1 < n) : inv n (xch k (k + 1)) = 1 := by
  unfold inv pairs
  rw [sumTo_one (k := k + 1) hk fun j hj hne => ?_, sumTo_one (k := k) (by omega) fun i hi hne => ?_]
  · unfold trn xch
    simp
  · unfold trn xch
    have h1 : i < k := by omega
    rw [if_neg (by omega), if_neg (show ¬ i = k by omega), if_neg (show ¬ i = k + 1 by omega), if_neg (show ¬ k + 1 = k by omega), if_pos rfl, if_pos]
    simp only [eq_iff_iff]
    omega
  · refine sumTo_zero fun i hi => ?_
    unfold trn xch
    rw [if_neg (by omega), if_pos]
    simp only [eq_iff_iff]
    by_cases a1 : i = k <;> by_cases a2 : i = k + 1 <;> by_cases b1 : j = k <;> simp [a1, a2, b1, hne] <;> omega
/-- an exchange turns an odd number of pairs -/
theorem inv_xch {n a} : ∀ (d : Nat), a + d + 1 < n → inv n (xch a (a + d + 1)) % 2 = 1
  | 0, h => by rw [Nat.add_zero, inv_next h]
  | d + 1, h => by
    have ih := inv_xch (n := n) (a := a) d (by omega)
    have e : inv n (xch a (a + (d + 1) + 1)) = inv n (fun p => xch (a + d + 1) (a + d + 1 + 1) (xch a (a + d + 1) (xch (a + d + 1) (a + d + 1 + 1) p))) := by
      unfold inv
      refine pairs_congr fun i j hij hj => ?_
      have key : ∀ p, xch a (a + (d + 1) + 1) p = xch (a + d + 1) (a + d + 1 + 1) (xch a (a + d + 1) (xch (a + d + 1) (a + d + 1 + 1) p)) := by
        intro p
        rw [show a + (d + 1) + 1 = a + d + 1 + 1 by omega]
        by_cases h1 : p = a
        · subst h1
          rw [xch_l, xch_o (show p ≠ p + d + 1 by omega) (show p ≠ p + d + 1 + 1 by omega), xch_l, xch_l]
        · by_cases h2 : p = a + d + 1
          · subst h2
            rw [xch_l, xch_o (show a + d + 1 + 1 ≠ a by omega) (show a + d + 1 + 1 ≠ a + d + 1 by omega), xch_r, xch_o (by omega) (by omega)]
          · by_cases h3 : p = a + d + 1 + 1
            · subst h3
              rw [xch_r, xch_r, xch_r, xch_o (show a ≠ a + d + 1 by omega) (show a ≠ a + d + 1 + 1 by omega)]
            · rw [xch_o h2 h3, xch_o h1 h2, xch_o h2 h3, xch_o h1 h3]
      unfold trn
      rw [key i, key j]
    have b1 : Bij n (xch (a + d + 1) (a + d + 1 + 1)) := xch_bij (by omega) (by omega)
    have b2 : Bij n (xch a (a + d + 1)) := xch_bij (by omega) (by omega)
    have e1 := inv_comp (b1.comp b2) b1
    have e2 := inv_comp b1 b2
    rw [e]
    omega

/-! #### a loop as exchanges -/
def appX (ps : List (Nat × Nat)) (x : Nat) : Nat := ps.foldl (fun t q => xch q.1 q.2 t) x
def lpX : List Nat → List (Nat × Nat)
  | [] => []
  | p :: t => t.map fun o => (p, o)
theorem appX_app (ps qs : List (Nat × Nat)) (x : Nat) : appX (ps ++ qs) x = appX qs (appX ps x) := List.foldl_append
theorem appX_out {p x : Nat} : ∀ {t : List Nat}, x ≠ p → x ∉ t → appX (t.map fun o => (p, o)) x = x
  | [], _, _ => rfl
  | o :: t, h1, h2 => by
    show appX (t.map fun o => (p, o)) (xch p o x) = x
    rw [xch_o h1 (fun e => h2 (by rw [e]; simp))]
    exact appX_out h1 fun h => h2 (List.mem_cons_of_mem _ h)
theorem appX_head {p : Nat} : ∀ {t : List Nat}, p ∉ t → t.Nodup → appX (t.map fun o => (p, o)) p = t.headD p
  | [], _, _ => rfl
  | o :: t, h1, h2 => by
    show appX (t.map fun o => (p, o)) (xch p o p) = o
    rw [xch_l]
    exact appX_out (fun e => h1 (by rw [e]; simp)) (List.nodup_cons.mp h2).1
theorem appX_in {p x : Nat} {a b : List Nat} (h1 : p ∉ a ++ x :: b) (h2 : (a ++ x :: b).Nodup) : appX ((a ++ x :: b).map fun o => (p, o)) x = b.headD p := by
  have hx : x ≠ p := fun e => h1 (by rw [← e]; simp)
  have hnd := List.nodup_append.mp h2
  have hxa : x ∉ a := fun h => hnd.2.2 x h x (by simp) rfl
  rw [List.map_append, appX_app, appX_out hx hxa]
  show appX (b.map fun o => (p, o)) (xch p x x) = _
  rw [xch_r]
  exact appX_head (fun h => h1 (by simp [h])) (List.nodup_cons.mp hnd.2.1).2
theorem orb_cons (m : List Nat) (p : Nat) : orb m p = p :: (List.range (per m p - 1)).map fun k => it m (k + 1) p := by
  unfold orb
  have : per m p = per m p - 1 + 1 := by have := per_pos m p; omega
  conv => lhs; rw [this]
  rw [List.range_succ_eq_map, List.map_cons, List.map_map]
  rfl
theorem loop_app {n m} (h : Turn n m) {p} (hp : p < n) {x} (hx : x ∈ orb m p) : appX (lpX (orb m p)) x = go m x := by
  have hnd := h.orb_nd hp
  have hs := h.per_spec hp
  have hpp := per_pos m p
  rw [orb_cons] at hnd hx ⊢
  have hnd' := List.nodup_cons.mp hnd
  show appX (((List.range (per m p - 1)).map fun k => it m (k + 1) p).map fun o => (p, o)) x = go m x
  rcases List.mem_cons.mp hx with rfl | hx
  · rw [appX_head hnd'.1 hnd'.2]
    by_cases h1 : per m x = 1
    · rw [h1]
      have := hs.1
      rw [h1] at this
      exact this.symm
    · have : per m x - 1 = per m x - 2 + 1 := by omega
      rw [this, List.range_succ_eq_map]
      rfl
  · obtain ⟨k, hk, rfl⟩ := List.mem_map.mp hx
    have hk := List.mem_range.mp hk
    -- the list is cut at that point
    have cut : (List.range (per m p - 1)).map (fun k => it m (k + 1) p) = (List.range k).map (fun k => it m (k + 1) p) ++ it m (k + 1) p :: (List.range' (k + 1) (per m p - 1 - (k + 1))).map (fun k => it m (k + 1) p) := by
      have e : List.range (per m p - 1) = List.range k ++ k :: List.range' (k + 1) (per m p - 1 - (k + 1)) := by
        have e1 : per m p - 1 = k + (per m p - 1 - k) := by omega
        have e2 : per m p - 1 - k = (per m p - 1 - (k + 1)) + 1 := by omega
        rw [List.range_eq_range', List.range_eq_range']
        conv => lhs; rw [e1]
        rw [← List.range'_append_1, Nat.zero_add]
        congr 1
        rw [e2, List.range'_succ]
      rw [e, List.map_append, List.map_cons]
    rw [cut] at hnd' ⊢
    rw [appX_in hnd'.1 hnd'.2]
    show _ = it m (k + 1 + 1) p
    by_cases hl : per m p - 1 - (k + 1) = 0
    · rw [hl]
      have : k + 1 + 1 = per m p := by omega
      rw [this, hs.1]
      rfl
    · have : per m p - 1 - (k + 1) = per m p - 1 - (k + 1) - 1 + 1 := by omega
      rw [this, List.range'_succ]
      rfl
theorem loop_out {n m} (h : Turn n m) {p} (hp : p < n) {x} (hx : x ∉ orb m p) : appX (lpX (orb m p)) x = x := by
  rw [orb_cons] at hx ⊢
  exact appX_out (fun e => hx (by rw [e]; simp)) (fun hc => hx (List.mem_cons_of_mem _ hc))
theorem loops_out {n m} (h : Turn n m) {x} : ∀ (ps : List Nat), (∀ p ∈ ps, p < n ∧ x ∉ orb m p) → appX (ps.flatMap fun p => lpX (orb m p)) x = x
  | [], _ => rfl
  | p :: ps, hp => by
    rw [List.flatMap_cons, appX_app, loop_out h (hp p (by simp)).1 (hp p (by simp)).2]
    exact loops_out h ps fun q hq => hp q (List.mem_cons_of_mem _ hq)
theorem loops_app {n m} (h : Turn n m) {x} (hx : x < n) : ∀ (ps : List Nat), ps.Pairwise (· < ·) → (∀ p ∈ ps, p < n ∧ isLeast m p = true) → (∃ p ∈ ps, x ∈ orb m p) → appX (ps.flatMap fun p => lpX (orb m p)) x = go m x
  | [], _, _, he => by obtain ⟨p, hp, _⟩ := he; cases hp
  | p :: ps, hpw, hps, he => by
    obtain ⟨hpn, hpl⟩ := hps p (by simp)
    have hpw' := List.pairwise_cons.mp hpw
    rw [List.flatMap_cons, appX_app]
    by_cases hin : x ∈ orb m p
    · rw [loop_app h hpn hin]
      have hgo : go m x ∈ orb m p := by
        obtain ⟨k, rfl⟩ := (h.mem_orb hpn).mp hin
        exact (h.mem_orb hpn).mpr ⟨k + 1, rfl⟩
      refine loops_out h ps fun q hq => ⟨(hps q (List.mem_cons_of_mem _ hq)).1, fun hc => ?_⟩
      have hqn := (hps q (List.mem_cons_of_mem _ hq)).1
      have := h.least_uniq hpn (h.orb_trans hpn hgo (h.orb_symm hqn hc)) hpl (hps q (List.mem_cons_of_mem _ hq)).2
      have := hpw'.1 q hq
      omega
    · rw [loop_out h hpn hin]
      refine loops_app h hx ps hpw'.2 (fun q hq => hps q (List.mem_cons_of_mem _ hq)) ?_
      obtain ⟨q, hq, hqx⟩ := he
      rcases List.mem_cons.mp hq with rfl | hq
      · exact absurd hqx hin
      · exact ⟨q, hq, hqx⟩
/-- the exchanges of a turning map -/
def swp (m : List Nat) : List (Nat × Nat) := (cyc m).flatMap lpX
theorem swp_eq (m : List Nat) : swp m = ((List.range m.length).filter (isLeast m)).flatMap fun p => lpX (orb m p) := by
  unfold swp cyc
  rw [List.flatMap_map]
theorem swp_app {n m} (h : Turn n m) {x} (hx : x < n) : appX (swp m) x = go m x := by
  rw [swp_eq]
  refine loops_app h hx _ (List.Pairwise.filter _ List.pairwise_lt_range) (fun p hp => ?_) ?_
  · have := List.mem_filter.mp hp
    exact ⟨by rw [← h.len]; exact List.mem_range.mp this.1, this.2⟩
  · obtain ⟨q, hq, hqo, hql⟩ := h.least_ex hx
    exact ⟨q, List.mem_filter.mpr ⟨by rw [List.mem_range, h.len]; exact hq, hql⟩, h.orb_symm hx hqo⟩
theorem lpX_len (L : List Nat) (h : L ≠ []) : (lpX L).length + 1 = L.length := by
  cases L with
  | nil => exact absurd rfl h
  | cons p t => simp [lpX]
theorem flat_len : ∀ (P : List (List Nat)), (∀ L ∈ P, L ≠ []) → (P.flatMap lpX).length + P.length = P.flatten.length
  | [], _ => rfl
  | L :: P, h => by
    have h1 := lpX_len L (h L (by simp))
    have h2 := flat_len P fun M hM => h M (List.mem_cons_of_mem _ hM)
    simp only [List.flatMap_cons, List.flatten_cons, List.length_append, List.length_cons]
    omega
theorem Part.flat_eq {n P} (h : Part n P) : P.flatten.length = n := by
  have h1 := h.flat
  have h2 := nodup_lenN (l := List.range n) (m := P.flatten) List.nodup_range fun z hz => by
    obtain ⟨L, hL, hz⟩ := (h.cov z).mp (List.mem_range.mp hz)
    exact List.mem_flatten.mpr ⟨L, hL, hz⟩
  simp at h2
  simp at h1
  simp
  omega
theorem swp_len {n m} (h : Turn n m) : (swp m).length + (cyc m).length = n := by
  have hP := cyc_part h
  have := flat_len (cyc m) hP.ne
  rw [hP.flat_eq] at this
  exact this
theorem swp_mem {n m} (h : Turn n m) {q : Nat × Nat} (hq : q ∈ swp m) : q.1 < q.2 ∧ q.2 < n := by
  rw [swp_eq] at hq
  obtain ⟨p, hp, hq⟩ := List.mem_flatMap.mp hq
  have hp' := List.mem_filter.mp hp
  have hpn : p < n := by rw [← h.len]; exact List.mem_range.mp hp'.1
  have hnd := h.orb_nd hpn
  rw [orb_cons] at hq hnd
  have hnd' := List.nodup_cons.mp hnd
  obtain ⟨o, ho, rfl⟩ := List.mem_map.mp hq
  have hoo : o ∈ orb m p := by rw [orb_cons]; exact List.mem_cons_of_mem _ ho
  have hle : p ≤ o := by
    have hl := hp'.2
    unfold isLeast at hl
    rw [List.all_eq_true] at hl
    simpa using hl o hoo
  have hne : p ≠ o := fun e => hnd'.1 (e ▸ ho)
  exact ⟨by show p < o; omega, h.orb_lt hpn hoo⟩
theorem inv_app {n : Nat} : ∀ (ps : List (Nat × Nat)), (∀ q ∈ ps, q.1 < q.2 ∧ q.2 < n) → Bij n (appX ps) ∧ inv n (appX ps) % 2 = ps.length % 2
  | [], _ => by
    refine ⟨⟨fun p hp => hp, fun p q _ _ e => e⟩, ?_⟩
    have : inv n (appX []) = 0 := by
      unfold inv pairs
      refine sumTo_zero fun j _ => sumTo_zero fun i hi => ?_
      unfold trn appX
      simp
    rw [this]
    rfl
  | q :: ps, h => by
    obtain ⟨b1, e1⟩ := inv_app ps fun r hr => h r (List.mem_cons_of_mem _ hr)
    obtain ⟨q1, q2⟩ := h q (by simp)
    have bx : Bij n (xch q.1 q.2) := xch_bij (by omega) q2
    have ex : inv n (xch q.1 q.2) % 2 = 1 := by
      have := inv_xch (n := n) (a := q.1) (q.2 - q.1 - 1) (by omega)
      rwa [show q.1 + (q.2 - q.1 - 1) + 1 = q.2 by omega] at this
    have e2 := inv_comp bx b1
    refine ⟨bx.comp b1, ?_⟩
    show inv n (fun p => appX ps (xch q.1 q.2 p)) % 2 = (ps.length + 1) % 2
    omega
theorem Turn.bij {n m} (h : Turn n m) : Bij n (go m) := ⟨fun p hp => h.go_lt hp, fun p q hp hq e => h.inj hp hq e⟩
theorem inv_cong {n f g} (h : ∀ p, p < n → f p = g p) : inv n f = inv n g := by
  unfold inv
  refine pairs_congr fun i j hij hj => ?_
  unfold trn
  rw [h i (by omega), h j hj]
/-- inversions are as many as the points less the loops, even or odd -/
theorem inv_loops {n m} (h : Turn n m) : inv n (go m) % 2 = (n - (cyc m).length) % 2 := by
  obtain ⟨_, e⟩ := inv_app (n := n) (swp m) fun q hq => swp_mem h hq
  rw [← inv_cong (fun p hp => swp_app h hp), e]
  have := swp_len h
  congr 1
  omega

/-! #### the signs, as the program and the law find them -/
def sgnI (k : Nat) : Int := if k % 2 = 0 then 1 else -1
theorem sgn_next (k : Nat) : negD (.int (sgnI k)) = some (.int (sgnI (k + 1))) := by
  show some (PyData.int (-(sgnI k))) = some (PyData.int (sgnI (k + 1)))
  unfold sgnI
  rcases Nat.mod_two_eq_zero_or_one k with h | h
  · rw [if_pos h, if_neg (by omega)]
  · rw [if_neg (by omega), if_pos (by omega)]; rfl
theorem sgn_mod (k : Nat) : sgnI k = sgnI (k % 2) := by unfold sgnI; rw [Nat.mod_mod]
theorem sgn_eq (k : Nat) : (1 : Int) - ((2 * (k % 2) : Nat) : Int) = sgnI k := by
  unfold sgnI
  rcases Nat.mod_two_eq_zero_or_one k with h | h
  · rw [if_pos h, h]; rfl
  · rw [if_neg (by omega), h]; rfl
theorem trn_lt {f : Nat → Nat} {i j : Nat} (h : i < j) : trn f i j = if f i < f j then 0 else 1 := by
  unfold trn
  rw [if_neg (by omega)]
  by_cases c : f i < f j
  · rw [if_pos c, if_pos]; simp [h, c]
  · rw [if_neg c, if_neg]; simp [h, c]
theorem sign_of_ok {n m} (h : Turn n m) (hn : n ≤ 1000) : F_p_sign_of [Tp N m] = some (.int (sgnI (inv n (go m)))) := by
  have hlen := h.len
  have inner : ∀ (x k : Nat) (a : Option (PyData × Own)), x < n → ∃ a', goF (.nm 3) B1_p_sign_of ((List.range x).map N) [some (Tp N m, .sh), some (.int (sgnI k), .sh), some (N x, .sh), a] = some (.nx [some (Tp N m, .sh), some (.int (sgnI (k + sumTo x fun i => trn (go m) i x)), .sh), some (N x, .sh), a']) := by
    intro x k a hx
    obtain ⟨ρ', e1, a', rfl⟩ := goF_inv (e := N) (T := .nm 3) (body := B1_p_sign_of) (fun pre ρ => ∃ a', ρ = [some (Tp N m, .sh), some (.int (sgnI (k + sumTo pre.length fun i => trn (go m) i x)), .sh), some (N x, .sh), a']) (List.range x) [some (Tp N m, .sh), some (.int (sgnI k), .sh), some (N x, .sh), a] ⟨a, rfl⟩ (by
      rintro pre i post _ hl ⟨a', rfl⟩
      obtain ⟨hpre, hi⟩ := range_at hl
      have hpl : pre.length = i := by rw [hpre]; simp
      have hi' : i < m.length := by omega
      have hx' : x < m.length := by omega
      have hne : m[i] ≠ m[x] := fun e => by
        have := h.inj (show i < n by omega) hx (by simp [go, hi', hx', e])
        omega
      refine ⟨[some (Tp N m, .sh), some (.int (sgnI (k + sumTo (pre ++ [i]).length fun i => trn (go m) i x)), .sh), some (N x, .sh), some (N i, .sh)], ?_, _, rfl⟩
      rw [List.length_append, List.length_singleton, hpl, sumTo, trn_lt hi]
      have e1 : go m i = m[i] := by simp [go, hi']
      have e2 : go m x = m[x] := by simp [go, hx']
      rw [e1, e2]
      generalize sumTo i (fun i => trn (go m) i x) = S
      by_cases hc : m[i] < m[x]
      · have hc2 : ¬ m[x] < m[i] := by omega
        simp -implicitDefEqProofs [B1_p_sign_of, hi', hx', hc, hc2]
      · have hc2 : m[x] < m[i] := by omega
        have hs := sgn_next (k + S)
        simp -implicitDefEqProofs [B1_p_sign_of, hi', hx', hc, hc2, hs, Nat.add_assoc])
    exact ⟨a', by rw [e1, List.length_range]⟩
  obtain ⟨ρ', e1, a, b, rfl⟩ := goF_inv (e := N) (T := .nm 2) (body := B2_p_sign_of) (fun pre ρ => ∃ a b, ρ = [some (Tp N m, .sh), some (.int (sgnI (sumTo pre.length fun j => sumTo j fun i => trn (go m) i j)), .sh), a, b]) (List.range n) [some (Tp N m, .sh), some (.int (sgnI 0), .sh), none, none] ⟨none, none, rfl⟩ (by
    rintro pre x post _ hl ⟨a, b, rfl⟩
    obtain ⟨hpre, hx⟩ := range_at hl
    have hpl : pre.length = x := by rw [hpre]; simp
    obtain ⟨a', e2⟩ := inner x (sumTo x fun j => sumTo j fun i => trn (go m) i j) b hx
    refine ⟨[some (Tp N m, .sh), some (.int (sgnI (sumTo (pre ++ [x]).length fun j => sumTo j fun i => trn (go m) i j)), .sh), some (N x, .sh), a'], ?_, _, _, rfl⟩
    rw [List.length_append, List.length_singleton, hpl, sumTo]
    have e0 := fun δ h => itr1_eq (g := vr 2) (δ := δ) (k := x) h (by unfold LINE; omega)
    generalize sumTo x (fun j => sumTo j fun i => trn (go m) i j) = S at e2 ⊢
    generalize sumTo x (fun i => trn (go m) i x) = S2 at e2 ⊢
    simp -implicitDefEqProofs [B2_p_sign_of, e0, e2])
  rw [List.length_range] at e1
  have e0 := fun δ h => itr1_eq (g := bind1 (vr 0) lenD) (δ := δ) (k := n) h (by unfold LINE; omega)
  have h1 : PyData.int (sgnI 0) = N 1 := rfl
  rw [h1] at e1
  have e3 : (sumTo n fun j => sumTo j fun i => trn (go m) i j) = inv n (go m) := rfl
  rw [e3] at e1
  simp -implicitDefEqProofs [F_p_sign_of, G_p_sign_of, hlen, e0, e1]
theorem len_filter (q : Nat → Bool) : ∀ n, ((List.range n).filter q).length = sumTo n fun i => if q i = true then 1 else 0
  | 0 => rfl
  | n + 1 => by
    rw [List.range_succ, filter_snoc', List.length_append, len_filter q n, sumTo]
    congr 1
    split <;> rfl
theorem subD_I (a b : Nat) : subD (N a) (N b) = some (.int ((a : Int) - (b : Int))) := rfl
theorem law_sign_ok {n m} (h : Turn n m) (hn : n ≤ 1000) : F_law_sign [Tp N m] = some (.int (sgnI (inv n (go m)))) := by
  have hlen := h.len
  obtain ⟨ρ', e1, a, rfl⟩ := goF_inv (e := N) (T := .nm 2) (body := B1_law_sign) (fun pre ρ => ∃ a, ρ = [some (Tp N m, .sh), some (N (sumTo pre.length fun j => sumTo j fun i => trn (go m) i j), .sh), a, none]) (List.range n) [some (Tp N m, .sh), some (N 0, .sh), none, none] ⟨none, rfl⟩ (by
    rintro pre x post _ hl ⟨a, rfl⟩
    obtain ⟨hpre, hx⟩ := range_at hl
    have hpl : pre.length = x := by rw [hpre]; simp
    have hx' : x < m.length := by omega
    refine ⟨[some (Tp N m, .sh), some (N (sumTo (pre ++ [x]).length fun j => sumTo j fun i => trn (go m) i j), .sh), some (N x, .sh), none], ?_, _, rfl⟩
    rw [List.length_append, List.length_singleton, hpl, sumTo]
    have e5 : sumTo x (fun i => trn (go m) i x) = ((List.range x).filter fun i => decide (go m x < go m i)).length := by
      rw [len_filter]
      refine sumTo_congr fun i hi => ?_
      rw [trn_lt hi]
      have hne : go m i ≠ go m x := fun e => by
        have := h.inj (show i < n by omega) hx e
        omega
      by_cases hc : go m i < go m x
      · rw [if_pos hc, if_neg (by rw [decide_eq_true_eq]; omega)]
      · rw [if_neg hc, if_pos (by rw [decide_eq_true_eq]; omega)]
    rw [e5]
    generalize sumTo x (fun j => sumTo j fun i => trn (go m) i j) = S
    simp -implicitDefEqProofs [B1_law_sign]
    rw [lcD_filter (e := N) (e' := N) (List.range x) (fun i => decide (go m x < go m i)) id (itr1_eq (by simp) (by unfold LINE; omega)) ?_ (by simp; unfold LINE; omega)]
    · simp -implicitDefEqProofs [List.map_id]
    · intro i hi
      have hi : i < m.length := by have := List.mem_range.mp hi; omega
      have e1 : go m i = m[i] := by simp [go, hi]
      have e2 : go m x = m[x] := by simp [go, hx']
      rw [e1, e2]
      simp -implicitDefEqProofs [hi, hx']
      split <;> rfl)
  rw [List.length_range] at e1
  have e0 := fun δ h => itr1_eq (g := bind1 (vr 0) lenD) (δ := δ) (k := n) h (by unfold LINE; omega)
  have e3 : (sumTo n fun j => sumTo j fun i => trn (go m) i j) = inv n (go m) := rfl
  rw [e3] at e1
  have e4 := sgn_eq (inv n (go m))
  simp -implicitDefEqProofs [F_law_sign, G_law_sign, hlen, e0, e1, subD_I]
  rw [← e4]
  simp

/-! #### turning maps, made -/
theorem turning_ok (d : List Nat) (a n : Nat) (hd : 0 < d.length) (hn : n ≤ 1000) : ∃ m, F_law_turning [Ls N d, N a, N n] = some (Tp N m) ∧ Turn n m := by
  obtain ⟨ρ', e1, m, pt, rfl, hT⟩ := goF_inv (e := N) (T := .nm 4) (body := B1_law_turning) (fun pre ρ => ∃ m pt, ρ = [some (Ls N d, .sh), some (N a, .sh), some (N n, .sh), some (Ls N m, .ow), pt] ∧ Turn pre.length m) (List.range n) [some (Ls N d, .sh), some (N a, .sh), some (N n, .sh), some (.list [], .ow), none] ⟨[], none, rfl, ⟨rfl, fun x hx => (by cases hx), List.nodup_nil⟩⟩ (by
    rintro pre x post _ hl ⟨m, pt, rfl, hT⟩
    obtain ⟨hpre, hx⟩ := range_at hl
    have hpl : pre.length = x := by rw [hpre]; simp
    rw [hpl] at hT
    have hk : 0 < x + 1 := by omega
    have hL : m.length < LINE := by rw [hT.len]; unfold LINE; omega
    generalize hc : cell d (a + x) / 5 % (x + 1) = k
    have hkx : k < x + 1 := by rw [← hc]; exact Nat.mod_lt _ hk
    have hk2 : ((k : Nat) : Int) < 9223372036854775808 := by omega
    refine ⟨[some (Ls N d, .sh), some (N a, .sh), some (N n, .sh), some (Ls N (m.take k ++ x :: m.drop k), .ow), some (N x, .sh)], ?_, _, _, rfl, ?_⟩
    · simp -implicitDefEqProofs [B1_law_turning, hd, hc, hL, hk2]
    · have hp : (m.take k ++ x :: m.drop k).Perm (x :: m) := by
        refine List.perm_middle.trans ?_
        rw [List.take_append_drop]
      rw [List.length_append, List.length_singleton, hpl]
      refine ⟨by rw [hp.length_eq, List.length_cons, hT.len], fun y hy => ?_, hp.nodup_iff.mpr (List.nodup_cons.mpr ⟨fun hc => by have := hT.lt x hc; omega, hT.nd⟩)⟩
      rcases List.mem_cons.mp (hp.mem_iff.mp hy) with rfl | hy
      · omega
      · have := hT.lt y hy; omega)
  rw [List.length_range] at hT
  refine ⟨m, ?_, hT⟩
  have e0 := fun δ h => itr1_eq (g := vr 2) (δ := δ) (k := n) h (by unfold LINE; omega)
  simp -implicitDefEqProofs [F_law_turning, G_law_turning, e0, e1]
theorem turn_rest (n : Nat) : Turn n (List.range n) := ⟨by simp, by simp, List.nodup_range⟩
theorem go_rest {n p : Nat} (hp : p < n) : go (List.range n) p = p := by simp [go, hp]
/-- a list of goals that a bijection gives -/
theorem turn_of {n m} (hl : m.length = n) {f : Nat → Nat} (hf : Bij n f) (e : ∀ p, p < n → go m p = f p) : Turn n m := by
  have em : m = (List.range n).map f := by
    refine List.ext_getElem (by simp [hl]) fun i h1 h2 => ?_
    have := e i (by omega)
    simp [go, h1] at this
    simp [this]
  refine ⟨hl, fun x hx => ?_, ?_⟩
  · rw [em] at hx
    obtain ⟨p, hp, rfl⟩ := List.mem_map.mp hx
    exact hf.lt p (List.mem_range.mp hp)
  · rw [em]
    unfold List.Nodup
    rw [List.pairwise_map]
    refine List.Pairwise.imp_of_mem (R := (· < ·)) ?_ List.pairwise_lt_range
    intro a b ha hb hab ee
    have := hf.inj a b (List.mem_range.mp ha) (List.mem_range.mp hb) ee
    omega
theorem go_then {n f s : _} (hf : Turn n f) (hs : Turn n s) {p} (hp : p < n) : go (thenN f s) p = go s (go f p) := by
  have h1 : p < f.length := by rw [hf.len]; exact hp
  unfold go thenN
  simp [h1]
theorem turn_then {n f s} (hf : Turn n f) (hs : Turn n s) : Turn n (thenN f s) := turn_of (by simp [hf.len]) (hf.bij.comp hs.bij) fun p hp => go_then hf hs hp
/-- stores at places that a bijection gives -/
def stored (n : Nat) (g v : Nat → Nat) : List Nat := (List.range n).foldl (fun l p => l.set (g p) (v p)) (List.replicate n 0)
theorem stored_len (n g v) : (stored n g v).length = n := by
  have : ∀ (ks : List Nat) (l : List Nat), (ks.foldl (fun l p => l.set (g p) (v p)) l).length = l.length := by
    intro ks
    induction ks with
    | nil => intro l; rfl
    | cons k ks ih => intro l; rw [List.foldl_cons, ih, List.length_set]
  unfold stored
  rw [this, List.length_replicate]
theorem stored_get {n g v} (hg : Bij n g) {p} (hp : p < n) : go (stored n g v) (g p) = v p := by
  have : ∀ (k : Nat), k ≤ n → ((List.range k).foldl (fun l p => l.set (g p) (v p)) (List.replicate n 0)).length = n ∧ (p < k → ((List.range k).foldl (fun l p => l.set (g p) (v p)) (List.replicate n 0))[g p]? = some (v p)) := by
    intro k
    induction k with
    | zero => intro _; simp
    | succ k ih =>
      intro hk
      obtain ⟨i1, i2⟩ := ih (by omega)
      rw [List.range_succ, List.foldl_append]
      simp only [List.foldl_cons, List.foldl_nil, List.length_set]
      refine ⟨i1, fun hpk => ?_⟩
      by_cases e : p = k
      · subst e
        rw [List.getElem?_set_self (by rw [i1]; exact hg.lt p hp)]
      · rw [List.getElem?_set_ne (fun z => e (hg.inj p k hp (by omega) z.symm))]
        exact i2 (by omega)
  have h := (this n (Nat.le_refl _)).2 hp
  unfold go stored
  rw [List.getD_eq_getElem?_getD, h]
  rfl
theorem back_ok {n m} (h : Turn n m) (hn : n ≤ 1000) : F_law_back [Tp N m] = some (Tp N (stored n (go m) id)) := by
  have hlen := h.len
  obtain ⟨ρ', e1, hl, a, rfl⟩ := goF_fold (e := N) (T := .nm 2) (body := B1_law_back) (fun (l : List Nat) ρ => l.length = n ∧ ∃ a, ρ = [some (Tp N m, .sh), some (Ls N l, .ow), a]) (fun l p => l.set (go m p) (id p)) (List.range n) (List.replicate n 0) [some (Tp N m, .sh), some (Ls N (List.replicate n 0), .ow), none] (by
    rintro l x _ hx ⟨hl, a, rfl⟩
    have hx' : x < m.length := by rw [hlen]; simpa using hx
    have hb : m[x] < n := h.lt _ (List.getElem_mem hx')
    refine ⟨[some (Tp N m, .sh), some (Ls N (l.set (go m x) (id x)), .ow), some (N x, .sh)], ?_, by simpa using hl, _, rfl⟩
    have e : go m x = m[x] := by simp [go, hx']
    rw [e]
    simp -implicitDefEqProofs [B1_law_back, hx', ixN_lt, hl, hb]) ⟨by simp, none, rfl⟩
  have e0 := fun δ h => itr1_eq (g := bind1 (vr 0) lenD) (δ := δ) (k := n) h (by unfold LINE; omega)
  have hr := mul_repN 0 n (by unfold LINE; omega)
  generalize hrr : List.replicate n 0 = R at hr e1
  simp -implicitDefEqProofs [F_law_back, G_law_back, hlen, hr, e0, e1]
  rw [← hrr]
  rfl
theorem moved_ok {n m h} (hm : Turn n m) (hh : Turn n h) (hn : n ≤ 1000) : F_law_moved [Tp N m, Tp N h] = some (Tp N (stored n (go h) fun p => go h (go m p))) := by
  have hlen := hm.len
  have hlen2 := hh.len
  obtain ⟨ρ', e1, hl, a, rfl⟩ := goF_fold (e := N) (T := .nm 3) (body := B1_law_moved) (fun (l : List Nat) ρ => l.length = n ∧ ∃ a, ρ = [some (Tp N m, .sh), some (Tp N h, .sh), some (Ls N l, .ow), a]) (fun l p => l.set (go h p) (go h (go m p))) (List.range n) (List.replicate n 0) [some (Tp N m, .sh), some (Tp N h, .sh), some (Ls N (List.replicate n 0), .ow), none] (by
    rintro l x _ hx ⟨hl, a, rfl⟩
    have hx' : x < m.length := by rw [hlen]; simpa using hx
    have hx2 : x < h.length := by omega
    have hb : h[x] < n := hh.lt _ (List.getElem_mem hx2)
    have hb2 : m[x] < h.length := by rw [hlen2]; exact hm.lt _ (List.getElem_mem hx')
    refine ⟨[some (Tp N m, .sh), some (Tp N h, .sh), some (Ls N (l.set (go h x) (go h (go m x))), .ow), some (N x, .sh)], ?_, by simpa using hl, _, rfl⟩
    have e : go m x = m[x] := by simp [go, hx']
    have e2 : go h x = h[x] := by simp [go, hx2]
    have e3 : go h m[x] = h[m[x]] := by simp [go, hb2]
    rw [e, e2, e3]
    simp -implicitDefEqProofs [B1_law_moved, hx', hx2, hb2, ixN_lt, hl, hb]) ⟨by simp, none, rfl⟩
  have e0 := fun δ h => itr1_eq (g := bind1 (vr 0) lenD) (δ := δ) (k := n) h (by unfold LINE; omega)
  have hr := mul_repN 0 n (by unfold LINE; omega)
  generalize hrr : List.replicate n 0 = R at hr e1
  simp -implicitDefEqProofs [F_law_moved, G_law_moved, hlen, hr, e0, e1]
  rw [← hrr]
  rfl

/-! #### ways back, maps numbered anew -/
theorem Bij.surj {n f} (h : Bij n f) {z} (hz : z < n) : ∃ p, p < n ∧ f p = z := by
  have := (h.perm.mem_iff (a := z)).mpr (List.mem_range.mpr hz)
  obtain ⟨p, hp, e⟩ := List.mem_map.mp this
  exact ⟨p, List.mem_range.mp hp, e⟩
theorem bij_id (n : Nat) : Bij n id := ⟨fun p hp => hp, fun p q _ _ e => e⟩
theorem turn_stored {n g v} (hg : Bij n g) (hv : Bij n v) : Turn n (stored n g v) := by
  refine turn_of (stored_len n g v) (f := go (stored n g v)) ⟨fun z hz => ?_, fun z w hz hw e => ?_⟩ fun p _ => rfl
  · obtain ⟨p, hp, rfl⟩ := hg.surj hz
    rw [stored_get hg hp]
    exact hv.lt p hp
  · obtain ⟨p, hp, rfl⟩ := hg.surj hz
    obtain ⟨q, hq, rfl⟩ := hg.surj hw
    rw [stored_get hg hp, stored_get hg hq] at e
    rw [hv.inj p q hp hq e]
theorem inv_stored {n g v} (hg : Bij n g) (hv : Bij n v) : inv n (go (stored n g v)) % 2 = (inv n g + inv n v) % 2 := by
  have h1 := inv_comp hg (turn_stored hg hv).bij
  have h2 : inv n (fun p => go (stored n g v) (g p)) = inv n v := inv_cong fun p hp => stored_get hg hp
  rw [h2] at h1
  omega
theorem inv_id (n : Nat) : inv n id = 0 := by
  unfold inv pairs
  refine sumTo_zero fun j _ => sumTo_zero fun i hi => ?_
  unfold trn
  simp
theorem inv_back {n m} (h : Turn n m) : inv n (go (stored n (go m) id)) % 2 = inv n (go m) % 2 := by
  have := inv_stored h.bij (bij_id n)
  rw [inv_id] at this
  exact this
theorem inv_moved {n m h} (hm : Turn n m) (hh : Turn n h) : inv n (go (stored n (go h) fun p => go h (go m p))) % 2 = inv n (go m) % 2 := by
  have h1 := inv_stored hh.bij (hm.bij.comp hh.bij)
  have h2 := inv_comp hm.bij hh.bij
  omega
theorem inv_then {n f s} (hf : Turn n f) (hs : Turn n s) : inv n (go (thenN f s)) % 2 = (inv n (go f) + inv n (go s)) % 2 := by
  have h1 := inv_comp hf.bij hs.bij
  have h2 : inv n (go (thenN f s)) = inv n (fun p => go s (go f p)) := inv_cong fun p hp => go_then hf hs hp
  rw [h2]
  exact h1
theorem it_succ' (m t p) : it m (t + 1) p = it m t (go m p) := by rw [it_add]; rfl
theorem ord_same {n m s} (hm : Turn n m) (hs : Turn n s) (e : ∀ t, (∀ p, p < n → it m t p = p) ↔ ∀ p, p < n → it s t p = p) : ordN s = ordN m :=
  Nat.dvd_antisymm (ord_least hs ((e _).mp fun p hp => ord_rest hm hp)) (ord_least hm ((e _).mpr fun p hp => ord_rest hs hp))
theorem ord_back {n m} (h : Turn n m) : ordN (stored n (go m) id) = ordN m := by
  have hs := turn_stored h.bij (bij_id n)
  have key : ∀ t p, p < n → it (stored n (go m) id) t (it m t p) = p := by
    intro t
    induction t with
    | zero => intro p _; rfl
    | succ t ih =>
      intro p hp
      rw [it_succ', show it m (t + 1) p = go m (it m t p) from rfl, stored_get h.bij (h.it_lt hp t)]
      exact ih p hp
  refine ord_same h hs fun t => ⟨fun e p hp => ?_, fun e p hp => ?_⟩
  · have := key t p hp
    rwa [e p hp] at this
  · have := key t p hp
    rwa [e _ (h.it_lt hp t)] at this
theorem ord_moved {n m h} (hm : Turn n m) (hh : Turn n h) : ordN (stored n (go h) fun p => go h (go m p)) = ordN m := by
  have hs := turn_stored hh.bij (hm.bij.comp hh.bij)
  have key : ∀ t p, p < n → it (stored n (go h) fun p => go h (go m p)) t (go h p) = go h (it m t p) := by
    intro t
    induction t with
    | zero => intro p _; rfl
    | succ t ih =>
      intro p hp
      show go _ (it _ t (go h p)) = go h (go m (it m t p))
      rw [ih p hp, stored_get hh.bij (hm.it_lt hp t)]
  refine ord_same hm hs fun t => ⟨fun e z hz => ?_, fun e p hp => ?_⟩
  · obtain ⟨p, hp, rfl⟩ := hh.surj hz
    rw [key t p hp, e p hp]
  · have := key t p hp
    rw [e _ (hh.go_lt hp)] at this
    exact (hh.inj hp (hm.it_lt hp t) this).symm
theorem sgn_congr {a b : Nat} (h : a % 2 = b % 2) : sgnI a = sgnI b := by rw [sgn_mod a, sgn_mod b, h]
theorem sgn_mul (a b : Nat) : sgnI a * sgnI b = sgnI (a + b) := by
  unfold sgnI
  rcases Nat.mod_two_eq_zero_or_one a with h | h <;> rcases Nat.mod_two_eq_zero_or_one b with h' | h' <;> simp [h, h', Nat.add_mod]
/-! the ring, the exchange -/
theorem ring_bij (n : Nat) (h : 0 < n) : Bij n fun p => (p + 1) % n := ⟨fun p _ => Nat.mod_lt _ h, fun p q hp hq e => by
  by_cases h1 : p + 1 = n <;> by_cases h2 : q + 1 = n
  · omega
  · rw [h1, Nat.mod_self, Nat.mod_eq_of_lt (by omega)] at e; omega
  · rw [h2, Nat.mod_self, Nat.mod_eq_of_lt (by omega)] at e; omega
  · rw [Nat.mod_eq_of_lt (by omega), Nat.mod_eq_of_lt (by omega)] at e; omega⟩
def ringN (n : Nat) : List Nat := (List.range n).map fun p => (p + 1) % n
theorem go_ring {n p : Nat} (hp : p < n) : go (ringN n) p = (p + 1) % n := by simp [go, ringN, hp]
theorem turn_ring (n : Nat) (h : 0 < n) : Turn n (ringN n) := turn_of (by simp [ringN]) (ring_bij n h) fun p hp => go_ring hp
theorem ring_it {n : Nat} (h : 0 < n) : ∀ t p, p < n → it (ringN n) t p = (p + t) % n
  | 0, p, hp => by rw [Nat.add_zero, Nat.mod_eq_of_lt hp]; rfl
  | t + 1, p, hp => by
    show go (ringN n) (it (ringN n) t p) = _
    rw [ring_it h t p hp, go_ring (Nat.mod_lt _ h), Nat.mod_add_mod]
    rfl
theorem ring_ord {n : Nat} (h : 0 < n) : ordN (ringN n) = n := by
  refine Nat.dvd_antisymm (ord_least (turn_ring n h) fun p hp => by rw [ring_it h n p hp, Nat.add_mod_right, Nat.mod_eq_of_lt hp]) ?_
  have := ord_rest (turn_ring n h) (p := 0) h
  rw [ring_it h _ 0 h, Nat.zero_add] at this
  exact Nat.dvd_of_mod_eq_zero this
theorem sumTo_const : ∀ n : Nat, sumTo n (fun _ => 1) = n
  | 0 => rfl
  | n + 1 => by rw [sumTo, sumTo_const n]
theorem ring_inv {n : Nat} (h : 0 < n) : inv n (go (ringN n)) = n - 1 := by
  unfold inv pairs
  rw [sumTo_one (k := n - 1) (by omega) fun j hj hne => ?_]
  · rw [show n - 1 = sumTo (n - 1) (fun _ => 1) from (sumTo_const _).symm, sumTo_const]
    refine Eq.trans (sumTo_congr (b := fun _ => 1) fun i hi => ?_) (sumTo_const _)
    rw [trn_lt hi, go_ring (by omega), go_ring (by omega), show n - 1 + 1 = n by omega, Nat.mod_self, if_neg (by omega)]
  · refine sumTo_zero fun i hi => ?_
    rw [trn_lt hi, go_ring (by omega), go_ring (by omega), Nat.mod_eq_of_lt (by omega), Nat.mod_eq_of_lt (by omega), if_pos (by omega)]
def xchN (n a b : Nat) : List Nat := ((List.range n).set a b).set b a
theorem go_xch {n a b p : Nat} (ha : a < n) (hb : b < n) (hp : p < n) : go (xchN n a b) p = xch a b p := by
  unfold go xchN xch
  rw [List.getD_eq_getElem?_getD]
  by_cases h1 : p = b
  · subst h1
    rw [List.getElem?_set_self (by simpa using hp)]
    by_cases h2 : p = a
    · rw [if_pos h2, h2]; rfl
    · rw [if_neg h2, if_pos rfl]; rfl
  · rw [List.getElem?_set_ne (Ne.symm h1)]
    by_cases h2 : p = a
    · subst h2
      rw [List.getElem?_set_self (by simpa using hp), if_pos rfl]; rfl
    · rw [List.getElem?_set_ne (Ne.symm h2), if_neg h2, if_neg h1]
      simp [hp]
theorem turn_xch {n a b} (ha : a < n) (hb : b < n) : Turn n (xchN n a b) := turn_of (by simp [xchN]) (xch_bij ha hb) fun p hp => go_xch ha hb hp
theorem xch_self (a p : Nat) : xch a a p = p := by
  unfold xch
  by_cases h : p = a <;> simp [h]
theorem xch_comm (a b p : Nat) : xch a b p = xch b a p := by
  by_cases h1 : p = a
  · subst h1; rw [xch_l, xch_r]
  · by_cases h2 : p = b
    · subst h2; rw [xch_l, xch_r]
    · rw [xch_o h1 h2, xch_o h2 h1]
theorem xch_inv {n a b} (ha : a < n) (hb : b < n) : inv n (go (xchN n a b)) % 2 = if a = b then 0 else 1 := by
  rw [inv_cong fun p hp => go_xch ha hb hp]
  by_cases h : a = b
  · subst h
    rw [if_pos rfl, inv_cong (g := id) fun p _ => xch_self a p, inv_id]
  · rw [if_neg h]
    rcases Nat.lt_or_gt_of_ne h with h | h
    · have := inv_xch (n := n) (a := a) (b - a - 1) (by omega)
      rwa [show a + (b - a - 1) + 1 = b by omega] at this
    · have := inv_xch (n := n) (a := b) (a - b - 1) (by omega)
      rw [show b + (a - b - 1) + 1 = a by omega] at this
      rw [inv_cong (g := xch b a) fun p _ => xch_comm a b p]
      exact this
theorem xch_ord {n a b} (ha : a < n) (hb : b < n) : ordN (xchN n a b) = if a = b then 1 else 2 := by
  have ht := turn_xch ha hb
  by_cases h : a = b
  · subst h
    rw [if_pos rfl]
    refine Nat.dvd_one.mp (ord_least ht fun p hp => ?_)
    show go (xchN n a a) p = p
    rw [go_xch ha ha hp, xch_self]
  · rw [if_neg h]
    have h2 : ordN (xchN n a b) ∣ 2 := ord_least ht fun p hp => by
      show go (xchN n a b) (go (xchN n a b) p) = p
      rw [go_xch ha hb hp, go_xch ha hb ((xch_bij ha hb).lt p hp), xch_xch]
    have hle := Nat.le_of_dvd (by omega) h2
    have hpos := ord_pos ht
    have hne : ordN (xchN n a b) ≠ 1 := fun e => by
      have := ord_rest ht ha
      rw [e] at this
      have h3 : go (xchN n a b) a = a := this
      rw [go_xch ha hb ha, xch_l] at h3
      exact h h3.symm
    omega

/-! #### _law_order_walked, _law_of_loops, _law_told -/
def pw (n : Nat) (m : List Nat) (t : Nat) : List Nat := (List.range n).map (it m t)
theorem pw_one {n m} (h : Turn n m) : pw n m 1 = m := by
  refine List.ext_getElem (by simp [pw, h.len]) fun i h1 h2 => ?_
  simp [pw, it, go, h2]
theorem pw_then {n m} (h : Turn n m) (t : Nat) : thenN (pw n m t) m = pw n m (t + 1) := by
  unfold thenN pw
  rw [List.map_map]
  rfl
theorem pw_rest {n m} (t : Nat) : pw n m t = List.range n ↔ ∀ p, p < n → it m t p = p := by
  constructor
  · intro e p hp
    have := congrArg (fun l => l[p]?) e
    simp [pw, hp] at this
    exact this
  · intro e
    refine List.ext_getElem (by simp [pw]) fun i h1 h2 => ?_
    simp [pw]
    exact e i (by simpa using h2)
theorem ord_le : ∀ (ls : List (List Nat)) (o : Nat), ls.foldl (fun o L => Nat.lcm o L.length) o ≤ o * 2 ^ ls.flatten.length
  | [], o => by simp
  | L :: ls, o => by
    rw [List.foldl_cons, List.flatten_cons, List.length_append, Nat.pow_add, ← Nat.mul_assoc]
    refine Nat.le_trans (ord_le ls _) (Nat.mul_le_mul_right _ ?_)
    unfold Nat.lcm
    refine Nat.le_trans (Nat.div_le_self _ _) (Nat.mul_le_mul_left _ ?_)
    exact Nat.le_of_lt Nat.lt_two_pow_self
theorem ord_small {n m} (h : Turn n m) (hn : n ≤ 12) : ordN m < 10000 := by
  have h1 := ord_le (cyc m) 1
  rw [(cyc_part h).flat_eq] at h1
  have h2 : 2 ^ n ≤ 2 ^ 12 := Nat.pow_le_pow_right (by omega) hn
  unfold ordN ordL
  omega
theorem walked_ok {n m} (h : Turn n m) (hn : n ≤ 12) : F_law_order_walked [Tp N m] = some (N (ordN m)) := by
  have hlen := h.len
  have hop := ord_pos h
  have hos := ord_small h hn
  have cr := law_rest_ok n (by unfold LINE; omega)
  have test : ∀ t, 1 ≤ t → t ≤ ordN m → tst (bind2 (vr 2) (callD F_law_rest (ac (bind1 (vr 0) lenD) (fun _ => some []))) neD) (dat [some (Tp N m, .sh), some (N t, .sh), some (Tp N (pw n m t), .sh)]) = some (!decide (t = ordN m)) := by
    intro t ht1 ht2
    have hd : decide (pw n m t = List.range n) = decide (t = ordN m) := by
      rw [decide_eq_decide, pw_rest]
      constructor
      · intro e
        have := Nat.le_of_dvd (by omega) (ord_least h e)
        omega
      · intro e p hp; rw [e]; exact ord_rest h hp
    simp -implicitDefEqProofs [hlen, cr, hd]
  obtain ⟨ρ', k', e1, ⟨t, ht1, ht2, rfl, rfl⟩, e2⟩ := whileS_meas (pt := tst (bind2 (vr 2) (callD F_law_rest (ac (bind1 (vr 0) lenD) (fun _ => some []))) neD)) (body := B1_law_order_walked) (fun K ρ => ∃ t, 1 ≤ t ∧ t ≤ ordN m ∧ K = ordN m - t ∧ ρ = [some (Tp N m, .sh), some (N t, .sh), some (Tp N (pw n m t), .sh)]) (by
    rintro K ρ ⟨t, ht1, ht2, rfl, rfl⟩
    by_cases he : t = ordN m
    · exact .inl (by rw [test t ht1 ht2, decide_eq_true he]; rfl)
    · refine .inr ⟨by rw [test t ht1 ht2, decide_eq_false he]; rfl, [some (Tp N m, .sh), some (N (t + 1), .sh), some (Tp N (pw n m (t + 1)), .sh)], ordN m - (t + 1), by omega, ?_, t + 1, by omega, by omega, rfl, rfl⟩
      have ct := law_then_ok (pw n m t) m (fun p hp => by
        obtain ⟨q, hq, rfl⟩ := List.mem_map.mp hp
        rw [hlen]
        exact h.it_lt (List.mem_range.mp hq) t) (by simp [pw]; unfold LINE; omega)
      rw [pw_then h] at ct
      simp -implicitDefEqProofs [B1_law_order_walked, ct]) 1000000 (ordN m - 1) [some (Tp N m, .sh), some (N 1, .sh), some (Tp N m, .sh)] (by omega) ⟨1, by omega, by omega, rfl, by rw [pw_one h]⟩
  rw [test t ht1 ht2] at e2
  have : t = ordN m := by simpa using e2
  subst this
  simp -implicitDefEqProofs [F_law_order_walked, G_law_order_walked, e1]
theorem of_loops_ok (d : List Nat) (a n : Nat) (hd : 0 < d.length) (hn : n ≤ 1000) : ∃ m, F_law_of_loops [Ls N d, N a, N n] = some (Tp N m) ∧ Turn n m := by
  obtain ⟨ρ', k', e1, ⟨m, s, hs, hT, rfl, u, v, rfl⟩, e2⟩ := whileS_meas (pt := tst (bind2 (bind1 (vr 3) lenD) (vr 2) (cmpD fun i j => decide (i < j)))) (body := B1_law_of_loops) (fun K ρ => ∃ m s, s ≤ n ∧ Turn s m ∧ K = n - s ∧ ∃ u v, ρ = [some (Ls N d, .sh), some (N a, .sh), some (N n, .sh), some (Ls N m, .ow), u, v, none]) (by
    rintro K ρ ⟨m, s, hs, hT, rfl, u, v, rfl⟩
    have hml := hT.len
    by_cases hc : s < n
    · obtain ⟨w, hw1, hw⟩ : ∃ w, 1 ≤ w ∧ ixD (Ls N [2, 5, 1, 3, 4, 7, 2, 6]) (N (cell d (a + s) % 8)) = some (N w) := by
        have hk : cell d (a + s) % 8 < 8 := Nat.mod_lt _ (by decide)
        generalize cell d (a + s) % 8 = k at hk
        refine ⟨[2, 5, 1, 3, 4, 7, 2, 6][k], ?_, ixD_Ls (e := N) (l := [2, 5, 1, 3, 4, 7, 2, 6]) k hk⟩
        have : ∀ x ∈ [2, 5, 1, 3, 4, 7, 2, 6], 1 ≤ x := by decide
        exact this _ (List.getElem_mem hk)
      have ht : PyData.list [N 2, N 5, N 1, N 3, N 4, N 7, N 2, N 6] = Ls N [2, 5, 1, 3, 4, 7, 2, 6] := rfl
      have hmk : mkL [N 2, N 5, N 1, N 3, N 4, N 7, N 2, N 6] = some (Ls N [2, 5, 1, 3, 4, 7, 2, 6]) := rfl
      generalize hL : min (n - s) w = L
      have hL1 : 1 ≤ L ∧ L ≤ n - s := by omega
      have hb := ring_bij L (by omega)
      refine .inr ⟨by simp -implicitDefEqProofs [hml, hc], [some (Ls N d, .sh), some (N a, .sh), some (N n, .sh), some (Ls N (m ++ (List.range L).map fun k => s + (k + 1) % L), .ow), some (N L, .sh), some (N s, .sh), none], n - (s + L), by omega, ?_, _, s + L, by omega, ⟨by simp [hml], fun x hx => ?_, ?_⟩, rfl, _, _, rfl⟩
      · have hle : s ≤ n := hs
        have hl0 : 0 < L := by omega
        have hadd := addD_Ls (e := N) (l := m) (m := (List.range L).map fun k => s + (k + 1) % L) (by simp [hml]; unfold LINE; omega)
        simp -implicitDefEqProofs [B1_law_of_loops, hml, subD_N _ _ hle, hd, hmk, hw, hL, -List.map_map]
        rw [lcD_map (e := N) (e' := N) (List.range L) (fun k => s + (k + 1) % L) (itr1_eq (by simp) (by unfold LINE; omega)) ?_ (by simp; unfold LINE; omega)]
        · simp -implicitDefEqProofs [hadd]
        · intro k _
          simp -implicitDefEqProofs [hl0]
      · rcases List.mem_append.mp hx with hx | hx
        · have := hT.lt x hx; omega
        · obtain ⟨k, hk, rfl⟩ := List.mem_map.mp hx
          have := Nat.mod_lt (k + 1) (show 0 < L by omega)
          omega
      · rw [List.nodup_append]
        refine ⟨hT.nd, ?_, fun x hx y hy e => ?_⟩
        · unfold List.Nodup
          rw [List.pairwise_map]
          refine List.Pairwise.imp_of_mem (R := (· < ·)) ?_ List.pairwise_lt_range
          intro i j hi hj hij e
          have := hb.inj i j (List.mem_range.mp hi) (List.mem_range.mp hj) (by omega)
          omega
        · obtain ⟨k, hk, rfl⟩ := List.mem_map.mp hy
          have := hT.lt x hx
          omega
    · exact .inl (by simp -implicitDefEqProofs [hml, hc])) 1000000 n [some (Ls N d, .sh), some (N a, .sh), some (N n, .sh), some (.list [], .ow), none, none, none] (by omega) ⟨[], 0, by omega, ⟨rfl, fun x hx => (by cases hx), List.nodup_nil⟩, rfl, none, none, rfl⟩
  have hsn : s = n := by
    have : tst (bind2 (bind1 (vr 3) lenD) (vr 2) (cmpD fun i j => decide (i < j))) (dat [some (Ls N d, .sh), some (N a, .sh), some (N n, .sh), some (Ls N m, .ow), u, v, none]) = some (decide (s < n)) := by simp -implicitDefEqProofs [hT.len]
    rw [this] at e2
    have : ¬ s < n := by simpa using e2
    omega
  subst hsn
  refine ⟨m, ?_, hT⟩
  simp -implicitDefEqProofs [F_law_of_loops, G_law_of_loops, e1]
/-- what is told of a turning map -/
def tol (n : Nat) (m : List Nat) : Nat × Int := (ordN m, sgnI (inv n (go m)))
theorem neD_I (a b : Int) : neD (.int a) (.int b) = some (.bool (!decide (a = b))) := neD_ge (e := PyData.int) (by decide) a b
theorem told_ok {n m} (h : Turn n m) (hn : n < 64) : F_law_told [Tp N m] = some (Pr N PyData.int (tol n m)) := by
  have hlen := h.len
  have hb := turn_stored h.bij (bij_id n)
  have c1 := order_of_ok h (by omega)
  have c2 := sign_of_ok h (by omega)
  have c3 := law_order_ok h hn
  have c4 := law_sign_ok h (by omega)
  have c5 := law_loops_ok h hn
  have c6 := back_ok h (by omega)
  have c7 := order_of_ok hb (by omega)
  have c8 := sign_of_ok hb (by omega)
  rw [ord_back h] at c7
  rw [sgn_congr (inv_back h)] at c8
  have c9 : F_law_is_number [.int (sgnI (inv n (go m)))] = some (.bool true) := by simp -implicitDefEqProofs [F_law_is_number, G_law_is_number]
  have hs := swp_len h
  have hle : (cyc m).length ≤ n := by omega
  have c10 : (1 : Int) - ((2 * ((n - (cyc m).length) % 2) : Nat) : Int) = sgnI (inv n (go m)) := by rw [sgn_eq, sgn_congr (inv_loops h)]
  have c11 : PyData.tuple [N (ordN m), .int (sgnI (inv n (go m)))] = Pr N PyData.int (tol n m) := rfl
  have c12 := @neD_I
  have c14 : (1 : Int) - 2 * (((n - (cyc m).length : Nat) : Int) % 2) = sgnI (inv n (go m)) := by rw [← c10]; simp
  by_cases h12 : n ≤ 12
  · have c13 := walked_ok h h12
    simp -implicitDefEqProofs [F_law_told, G_law_told, hlen, c1, c2, c3, c4, c5, c6, c7, c8, c9, subD_N _ _ hle, subD_I, c12, h12, c13, c11, c14]
  · simp -implicitDefEqProofs [F_law_told, G_law_told, hlen, c1, c2, c3, c4, c5, c6, c7, c8, c9, subD_N _ _ hle, subD_I, c12, h12, c11, c14]

@[simp] theorem nn_PrI (x : Nat × Int) : nn (Pr N PyData.int x) = true := id rfl
@[simp] theorem isND_Pr {α β : Type} (e : α → PyData) (f : β → PyData) (x : α × β) : isND (Pr e f x) .none = some (.bool false) := id rfl
@[simp] theorem ixPr1 {α β : Type} (e : α → PyData) (f : β → PyData) (x : α × β) : ixD (Pr e f x) (N 1) = some (f x.2) := ixt1 _ _ _
theorem mul_sgn (a b : Nat) : mulD (.int (sgnI a)) (.int (sgnI b)) = some (.int (sgnI (a + b))) := by
  have h : mulOk (sgnI a) (sgnI b) = true := by
    unfold mulOk small sgnI
    split <;> simp
  show (if mulOk (sgnI a) (sgnI b) = true then some (PyData.int (sgnI a * sgnI b)) else none) = _
  rw [if_pos h, sgn_mul]
theorem neD_PrI (a b : Nat × Int) : neD (Pr N PyData.int a) (Pr N PyData.int b) = some (.bool (!decide (a = b))) := neD_ge (e := Pr N PyData.int) (by decide) a b
theorem eqD_PrI (a b : Nat × Int) : eqD (Pr N PyData.int a) (Pr N PyData.int b) = some (.bool (decide (a = b))) := eqD_ge (e := Pr N PyData.int) (by decide) a b
theorem fold_PrI (a : Nat) (b : Int) : PyData.tuple [N a, .int b] = Pr N PyData.int (a, b) := rfl
theorem PrN (a b : Nat) : Pr N N (a, b) = Pr N PyData.int (a, (b : Int)) := rfl
theorem swp_run (n a b : Nat) (ha : a < n) (hb : b < n) (e0 e1 e3 e4 e5 e6 e7 e8 e9 e10 e11 e15 : Option (PyData × Own)) :
    swpS 14 (vr 12) 14 (vr 13) (mkTs (ac (vr 13) (ac (vr 12) (fun _ => some [])))) [e0, e1, some (N n, .sh), e3, e4, e5, e6, e7, e8, e9, e10, e11, some (N a, .sh), some (N b, .sh), some (Ls N (List.range n), .ow), e15] = some (.nx [e0, e1, some (N n, .sh), e3, e4, e5, e6, e7, e8, e9, e10, e11, some (N a, .sh), some (N b, .sh), some (Ls N (xchN n a b), .ow), e15]) := by
  have s1 : stS 14 (vr 12) (N b) [e0, e1, some (N n, .sh), e3, e4, e5, e6, e7, e8, e9, e10, e11, some (N a, .sh), some (N b, .sh), some (Ls N (List.range n), .ow), e15] = some [e0, e1, some (N n, .sh), e3, e4, e5, e6, e7, e8, e9, e10, e11, some (N a, .sh), some (N b, .sh), some (Ls N ((List.range n).set a b), .ow), e15] := by
    show ((int1 (N a)).bind fun k => (ixN ((List.range n).map N).length k).bind fun j => some [e0, e1, some (N n, .sh), e3, e4, e5, e6, e7, e8, e9, e10, e11, some (N a, .sh), some (N b, .sh), some (.list (((List.range n).map N).set j (N b)), .ow), e15]) = _
    rw [int1_N, Option.bind_some, ixN_lt (by simpa using ha), Option.bind_some, fold_set1]
  have s2 : stS 14 (vr 13) (N a) [e0, e1, some (N n, .sh), e3, e4, e5, e6, e7, e8, e9, e10, e11, some (N a, .sh), some (N b, .sh), some (Ls N ((List.range n).set a b), .ow), e15] = some [e0, e1, some (N n, .sh), e3, e4, e5, e6, e7, e8, e9, e10, e11, some (N a, .sh), some (N b, .sh), some (Ls N (xchN n a b), .ow), e15] := by
    show ((int1 (N b)).bind fun k => (ixN (((List.range n).set a b).map N).length k).bind fun j => some [e0, e1, some (N n, .sh), e3, e4, e5, e6, e7, e8, e9, e10, e11, some (N a, .sh), some (N b, .sh), some (.list ((((List.range n).set a b).map N).set j (N a)), .ow), e15]) = _
    rw [int1_N, Option.bind_some, ixN_lt (by simpa using hb), Option.bind_some, fold_set1]
    rfl
  show (stS 14 (vr 12) (N b) _).bind (fun ρ1 => (stS 14 (vr 13) (N a) ρ1).bind fun ρ2 => some (Fl.nx ρ2)) = _
  rw [s1, Option.bind_some, s2, Option.bind_some]
theorem body_ok {n h a b} (hn : n < 64) (hh : Turn n h) (ha : Turn n a) (hb : Turn n b) (e0 e1 e2 e4 e5 e6 x7 x8 x9 x10 x11) : ∃ y7 y8 y9 y10 y11, (bindE (.tp [7, 8]) (Pr (Tp N) (Tp N) (a, b)) [e0, e1, e2, some (Tp N h, .sh), e4, e5, e6, x7, x8, x9, x10, x11, none, none, none, none]).bind B1_p_law = some (.nx [e0, e1, e2, some (Tp N h, .sh), e4, e5, e6, y7, y8, y9, y10, y11, none, none, none, none]) := by
  have c1 := told_ok ha hn
  have c2 := told_ok hb hn
  have c3 := told_ok (turn_then ha hb) hn
  have c4 := law_then_ok a b (by rw [hb.len]; exact ha.lt) (by rw [ha.len]; unfold LINE; omega)
  have c5 := moved_ok ha hh (by omega)
  have c6 := told_ok (turn_stored hh.bij (ha.bij.comp hh.bij)) hn
  have c7 : tol n (stored n (go h) fun p => go h (go a p)) = tol n a := by
    unfold tol
    rw [ord_moved ha hh, sgn_congr (inv_moved ha hh)]
  rw [c7] at c6
  have c8 : mulD (.int (tol n a).2) (.int (tol n b).2) = some (.int (tol n (thenN a b)).2) := by
    unfold tol
    rw [mul_sgn, sgn_congr (inv_then ha hb)]
  have c9 := @neD_I
  have c10 := @neD_PrI
  exact ⟨some (Tp N a, .sh), some (Tp N b, .sh), some (Pr N PyData.int (tol n a), .sh), some (Pr N PyData.int (tol n b), .sh), some (Pr N PyData.int (tol n (thenN a b)), .sh), by
    simp -implicitDefEqProofs [B1_p_law, c1, c2, c3, c4, c5, c6, c8, c9, c10]⟩
theorem plain_law (ns : List Int) (hs : ns.length ≤ 63) : F_p_law [.dict [(.none, .list (ns.map .int))]] = some (.bool true) := by
  obtain ⟨d, c1, hd, _⟩ := draws_ok ns hs 60 (by decide)
  have hd0 : 0 < d.length := by omega
  have g (k : Nat) (hk : k < 60) : k < d.length := by omega
  rw [fold_Ls] at c1 ⊢
  have t1 := told_ok (n := 5) (m := [1, 0, 3, 4, 2]) ⟨rfl, by decide, by decide⟩ (by decide)
  rw [show tol 5 [1, 0, 3, 4, 2] = (6, -1) from by decide] at t1
  have t2 := told_ok (n := 1) (m := [0]) ⟨rfl, by decide, by decide⟩ (by decide)
  rw [show tol 1 [0] = (1, 1) from by decide] at t2
  have t3 := told_ok (n := 3) (m := [1, 2, 0]) ⟨rfl, by decide, by decide⟩ (by decide)
  rw [show tol 3 [1, 2, 0] = (3, 1) from by decide] at t3
  have f1 : PyData.tuple [N 1, N 0, N 3, N 4, N 2] = Tp N [1, 0, 3, 4, 2] := rfl
  have f2 : PyData.tuple [N 0] = Tp N [0] := rfl
  have f3 : PyData.tuple [N 1, N 2, N 0] = Tp N [1, 2, 0] := rfl
  have m1 : mkT [N 1, N 0, N 3, N 4, N 2] = some (Tp N [1, 0, 3, 4, 2]) := rfl
  have fin : ∀ n, 0 < n → n ≤ 60 → (if d[1]'(g 1 (by decide)) % 16 = 5 then 60 else 1 + d[0]'(g 0 (by decide)) % 12) = n → F_p_law [.dict [(.none, Ls PyData.int ns)]] = some (.bool true) := by
    intro n h0 hn hnn
    obtain ⟨h, a1, hh⟩ := turning_ok d 8 n hd0 (by omega)
    obtain ⟨h2, a2, hh2⟩ := turning_ok d 30 n hd0 (by omega)
    obtain ⟨lo, a3, hlo⟩ := of_loops_ok d 20 n hd0 (by omega)
    have hri := turn_ring n h0
    have a4 := law_rest_ok n (by unfold LINE; omega)
    have s1 : ∀ δ : Dt, vr 2 δ = some (N n) → 6 < δ.length → lcD (itr1 (vr 2)) (.nm 6) [6] (fun _ => some true) (bind2 (bind2 (vr 6) (kst (N 1)) addD) (vr 2) modD) δ = some (Ls N (ringN n)) := fun δ hv h6 => by
      rw [lcD_map (e := N) (e' := N) (List.range n) (fun p => (p + 1) % n) (itr1_eq hv (by unfold LINE; omega)) ?_ (by simp; unfold LINE; omega)]
      · rfl
      · intro p _
        have hv2 : ((wipeD δ [6]).set 6 (some (N p)))[2]?.join = some (N n) := by
          simp -implicitDefEqProofs
          exact hv
        simp -implicitDefEqProofs [h6] at hv2 ⊢
        simp -implicitDefEqProofs [hv2, h0]
    have hw : ∀ z, z = n → True := fun _ _ => trivial
    have ri := told_ok hri (by omega)
    rw [show tol n (ringN n) = (n, sgnI (n - 1)) by unfold tol; rw [ring_ord h0, ring_inv h0]] at ri
    have cr : (1 : Int) - 2 * (((n - 1 : Nat) : Int) % 2) = sgnI (n - 1) := by rw [← sgn_eq]; simp
    generalize hA : d[2]'(g 2 (by decide)) % n = A
    generalize hB : d[3]'(g 3 (by decide)) % n = B
    have hAn : A < n := by rw [← hA]; exact Nat.mod_lt _ h0
    have hBn : B < n := by rw [← hB]; exact Nat.mod_lt _ h0
    have xt := told_ok (turn_xch hAn hBn) (by omega)
    have sw := swp_run n A B hAn hBn
    obtain ⟨ρ', e1, y7, y8, y9, y10, y11, rfl⟩ := goF_inv (e := Pr (Tp N) (Tp N)) (T := .tp [7, 8]) (body := B1_p_law) (fun _ ρ => ∃ y7 y8 y9 y10 y11, ρ = [some (.dict [(.none, Ls PyData.int ns)], .sh), some (Ls N d, .sh), some (N n, .sh), some (Tp N h, .sh), some (Tp N lo, .sh), some (Tp N (ringN n), .sh), none, y7, y8, y9, y10, y11, none, none, none, none]) [(h, h2), (lo, h), (ringN n, lo), (List.range n, h)] [some (.dict [(.none, Ls PyData.int ns)], .sh), some (Ls N d, .sh), some (N n, .sh), some (Tp N h, .sh), some (Tp N lo, .sh), some (Tp N (ringN n), .sh), none, none, none, none, none, none, none, none, none, none] ⟨none, none, none, none, none, rfl⟩ (by
      rintro pre ⟨a, b⟩ post _ hl ⟨y7, y8, y9, y10, y11, rfl⟩
      have hab : Turn n a ∧ Turn n b := by
        have : (a, b) ∈ [(h, h2), (lo, h), (ringN n, lo), (List.range n, h)] := by rw [hl]; simp
        simp only [List.mem_cons, Prod.mk.injEq, List.not_mem_nil, or_false] at this
        rcases this with ⟨rfl, rfl⟩ | ⟨rfl, rfl⟩ | ⟨rfl, rfl⟩ | ⟨rfl, rfl⟩
        · exact ⟨hh, hh2⟩
        · exact ⟨hlo, hh⟩
        · exact ⟨hri, hlo⟩
        · exact ⟨turn_rest n, hh⟩
      obtain ⟨z7, z8, z9, z10, z11, e⟩ := body_ok (by omega) hh hab.1 hab.2 (some (.dict [(.none, Ls PyData.int ns)], .sh)) (some (Ls N d, .sh)) (some (N n, .sh)) (some (Tp N lo, .sh)) (some (Tp N (ringN n), .sh)) none y7 y8 y9 y10 y11
      exact ⟨_, e, z7, z8, z9, z10, z11, rfl⟩)
    have fT (a b : List Nat) : PyData.tuple [Tp N a, Tp N b] = Pr (Tp N) (Tp N) (a, b) := rfl
    have e2 : goF (.tp [7, 8]) B1_p_law [Pr (Tp N) (Tp N) (h, h2), Pr (Tp N) (Tp N) (lo, h), Pr (Tp N) (Tp N) (ringN n, lo), Pr (Tp N) (Tp N) (List.range n, h)] _ = _ := e1
    have c10 := @neD_PrI
    have c11 := @eqD_PrI
    have hle : 1 ≤ n := h0
    have tx : tol n (xchN n A B) = (if A = B then 1 else 2, if A = B then 1 else -1) := by
      unfold tol
      rw [xch_ord hAn hBn, sgn_mod, xch_inv hAn hBn]
      by_cases h : A = B <;> simp [h, sgnI]
    rw [tx] at xt
    have r1 : neD (Pr N PyData.int (1, 1)) (Pr N N (1, 1)) = some (.bool false) := by rfl
    have r2 : neD (Pr N PyData.int (2, -1)) (.tuple [N 2, .int (-1)]) = some (.bool false) := by rfl
    have r3 : eqD (Pr N PyData.int (6, -1)) (.tuple [N 6, .int (-1)]) = some (.bool true) := by rfl
    have r4 : eqD (Pr N PyData.int (1, 1)) (Pr N N (1, 1)) = some (.bool true) := by rfl
    have r5 : eqD (Pr N PyData.int (3, 1)) (Pr N N (3, 1)) = some (.bool true) := by rfl
    have fr : PyData.tuple [N n, .int (sgnI (n - 1))] = Pr N PyData.int (n, sgnI (n - 1)) := rfl
    have g2 : 2 < d.length := g 2 (by decide)
    have g3 : 3 < d.length := g 3 (by decide)
    by_cases hab : A = B
    · subst hab
      simp only [if_true] at xt
      by_cases hw : d[1]'(g 1 (by decide)) % 16 = 5
      all_goals
        simp only [hw, if_true, if_false] at hnn
        simp -implicitDefEqProofs [F_p_law, G_p_law, c1, g, hw]
        simp -implicitDefEqProofs [hnn, g2, g3, a1, a2, a3, a4, s1, fT, e2, hA, hB, h0, sw, xt, r1, r2, ri, subD_N _ _ hle, subD_I, cr, fr, c10, m1, t1, t2, t3, f2, f3, r3, r4, r5]
    · simp only [hab, if_false] at xt
      by_cases hw : d[1]'(g 1 (by decide)) % 16 = 5
      all_goals
        simp only [hw, if_true, if_false] at hnn
        simp -implicitDefEqProofs [F_p_law, G_p_law, c1, g, hw]
        simp -implicitDefEqProofs [hnn, g2, g3, a1, a2, a3, a4, s1, fT, e2, hA, hB, h0, sw, xt, hab, r1, r2, ri, subD_N _ _ hle, subD_I, cr, fr, c10, m1, t1, t2, t3, f2, f3, r3, r4, r5]
  by_cases hw : d[1]'(g 1 (by decide)) % 16 = 5
  · exact fin 60 (by decide) (by decide) (by rw [if_pos hw])
  · exact fin (1 + d[0]'(g 0 (by decide)) % 12) (by omega) (by omega) (by rw [if_neg hw])

/-- the built-ins that the module leaves as they are -/
structure Bl (mg : Str → Option Value) : Prop where
  abs : mg "abs" = none
  bool : mg "bool" = none
  int : mg "int" = none
  isinstance : mg "isinstance" = none
  len : mg "len" = none
  list : mg "list" = none
  min : mg "min" = none
  range : mg "range" = none
  set : mg "set" = none
  sorted : mg "sorted" = none
  tuple : mg "tuple" = none
section
variable {P : Program} {w : World} {K : PySem.W.Frag} {mg : Str → Option Value} {base : Heap}
set_option maxHeartbeats 4000000 in
theorem dn_p_walk_from {f : Addr} {fd : FuncData} (Fu : L2.Fun K "walk_from" "walk_from" s_p_walk_from f fd) (hm : mg "walk_from" = some (.ref f)) (hb : Binds K fd ["mapping", "start"] []) (M : Bl mg) : Dn P w K mg base 1 "walk_from" F_p_walk_from true :=
  dn_mk (N := ["mapping", "start", "found", "point"]) Fu sc_p_walk_from hm hb fun cdv A outer s H E hr =>
    (bi_cons (si_set (i := 2) sc_p_walk_from.nd rfl (by first | exact .inl rfl | exact .inr rfl) (ei_list ai_nil))
    (bi_cons (si_set (i := 3) sc_p_walk_from.nd rfl (by first | exact .inl rfl | exact .inr rfl) (ei_var (pv 1)))
    (bi_cons (si_while 1000000 (ti_cmp (op_notInX (hu65 hr)) ad_notIn (eb_var (pv 3)) (eb_var (pv 2)) (by rfl))
    (bi_cons (si_mut mt1_append PySem.F.slot_list_append PySem.F.type_list_append mt_append (pv 2) (ei_var (pv 3)))
    (bi_one (si_set (i := 3) sc_p_walk_from.nd rfl (by first | exact .inl rfl | exact .inr rfl) (ei_ix (eb_var (pv 0)) (eb_var (pv 3)))))) PassesOwn.never)
    (bi_one (si_retV (pv 2))))))
set_option maxHeartbeats 4000000 in
theorem dn_p_loop_behind {f : Addr} {fd : FuncData} (Fu : L2.Fun K "loop_behind" "loop_behind" s_p_loop_behind f fd) (hm : mg "loop_behind" = some (.ref f)) (hb : Binds K fd ["mapping", "point"] []) (M : Bl mg) (C_p_walk_from : Dn P w K mg base 1 "walk_from" F_p_walk_from true) : Dn P w K mg base 2 "loop_behind" F_p_loop_behind true :=
  dn_mk (N := ["mapping", "point", "walk", "loop", "least"]) Fu sc_p_loop_behind hm hb fun cdv A outer s H E hr =>
    (bi_cons (si_set (i := 2) sc_p_loop_behind.nd rfl (by first | exact .inl rfl | exact .inr rfl) (ei_call C_p_walk_from (hr.mono (by decide)) (by rfl) (ai_cons (ei_var (pv 0)) (ai_cons (ei_var (pv 1)) ai_nil))))
    (bi_cons (si_set (i := 3) sc_p_loop_behind.nd rfl (by first | exact .inl rfl | exact .inr rfl) (ei_slice (eb_var (pv 2)) (oi_some (eb (ei_index (hu65 hr) (eb_var (pv 2)) (eb (ei_ix (eb_var (pv 0)) (eb (ei_ix (eb_var (pv 2)) (eb (ei_un un_neg ad_neg (eb ei_int)))))))))) oi_none))
    (bi_cons (si_set (i := 4) sc_p_loop_behind.nd rfl (by first | exact .inl rfl | exact .inr rfl) (ei_index (hu65 hr) (eb_var (pv 3)) (eb (ei_b1 (cr_min rfl) ad_min (by rfl) M.min (by decide +kernel) (eb_var (pv 3))))))
    (bi_one (si_ret (ei_bin op_addX ad_add (eb (ei_slice (eb_var (pv 3)) (oi_some (eb_var (pv 4))) oi_none)) (eb (ei_slice (eb_var (pv 3)) oi_none (oi_some (eb_var (pv 4)))))))))))
set_option maxHeartbeats 4000000 in
theorem dn_p_loops {f : Addr} {fd : FuncData} (Fu : L2.Fun K "loops" "loops" s_p_loops f fd) (hm : mg "loops" = some (.ref f)) (hb : Binds K fd ["mapping"] []) (M : Bl mg) (C_p_loop_behind : Dn P w K mg base 2 "loop_behind" F_p_loop_behind true) : Dn P w K mg base 3 "loops" F_p_loops true :=
  dn_mk (N := ["mapping", "found", "point", "loop"]) Fu sc_p_loops hm hb fun cdv A outer s H E hr =>
    (bi_cons (si_set (i := 1) sc_p_loops.nd rfl (by first | exact .inl rfl | exact .inr rfl) (ei_list ai_nil))
    (bi_cons (si_for rfl (ii_rg1 (by rfl) M.range (eb (ei_b1 call_len_seq ad_len (by rfl) M.len (by decide +kernel) (eb_var (pv 0))))) (pg_name (i := 2) sc_p_loops.nd rfl (by first | exact .inl rfl | exact .inr rfl)) (tgv_nm 2)
    (bi_cons (si_set (i := 3) sc_p_loops.nd rfl (by first | exact .inl rfl | exact .inr rfl) (ei_call C_p_loop_behind (hr.mono (by decide)) (by rfl) (ai_cons (ei_var (pv 0)) (ai_cons (ei_var (pv 2)) ai_nil))))
    (bi_one (si_if (ti_cmp (op_notInX (hu65 hr)) ad_notIn (eb_var (pv 3)) (eb_var (pv 1)) (by rfl))
    (bi_one (si_mut mt1_append PySem.F.slot_list_append PySem.F.type_list_append mt_append (pv 1) (ei_var (pv 3))))
    bi_nil))) PassesOwn.never)
    (bi_one (si_ret (ei_b1 (cr_sortX (hu200 hr)) ad_sort (by rfl) M.sorted (by decide +kernel) (eb_var (pv 1)))))))
set_option maxHeartbeats 4000000 in
theorem dn_p_common_part {f : Addr} {fd : FuncData} (Fu : L2.Fun K "common_part" "common_part" s_p_common_part f fd) (hm : mg "common_part" = some (.ref f)) (hb : Binds K fd ["first", "second"] []) (M : Bl mg) : Dn P w K mg base 1 "common_part" F_p_common_part true :=
  dn_mk (N := ["first", "second"]) Fu sc_p_common_part hm hb fun cdv A outer s H E hr =>
    (bi_cons (si_while 1000000 (ti_cmp op_gt ad_cmp (eb_var (pv 1)) (eb ei_int) (nomark _))
    (bi_one (si_par (i := 0) (j := 1) rfl sc_p_common_part.nd rfl rfl (by decide) rfl rfl (ai_cons (ei_var (pv 1)) (ai_cons (ei_bin op_mod ad_mod (eb_var (pv 0)) (eb_var (pv 1))) ai_nil)) (by rfl))) PassesOwn.never)
    (bi_one (si_retV (pv 0))))
set_option maxHeartbeats 4000000 in
theorem dn_p_order_of {f : Addr} {fd : FuncData} (Fu : L2.Fun K "order_of" "order_of" s_p_order_of f fd) (hm : mg "order_of" = some (.ref f)) (hb : Binds K fd ["mapping"] []) (M : Bl mg) (C_p_loops : Dn P w K mg base 3 "loops" F_p_loops true) (C_p_common_part : Dn P w K mg base 1 "common_part" F_p_common_part true) : Dn P w K mg base 4 "order_of" F_p_order_of true :=
  dn_mk (N := ["mapping", "order", "loop"]) Fu sc_p_order_of hm hb fun cdv A outer s H E hr =>
    (bi_cons (si_set (i := 1) sc_p_order_of.nd rfl (by first | exact .inl rfl | exact .inr rfl) ei_int)
    (bi_cons (si_for rfl (ii_e (ei_call C_p_loops (hr.mono (by decide)) (by rfl) (ai_cons (ei_var (pv 0)) ai_nil))) (pg_name (i := 2) sc_p_order_of.nd rfl (by first | exact .inl rfl | exact .inr rfl)) (tgv_nm 2)
    (bi_one (si_set (i := 1) sc_p_order_of.nd rfl (by first | exact .inl rfl | exact .inr rfl) (ei_bin op_divX ad_fdiv (eb (ei_bin op_mulX ad_mul (eb_var (pv 1)) (eb (ei_b1 call_len_seq ad_len (by rfl) M.len (by decide +kernel) (eb_var (pv 2)))))) (eb (ei_call C_p_common_part (hr.mono (by decide)) (by rfl) (ai_cons (ei_var (pv 1)) (ai_cons (ei_b1 call_len_seq ad_len (by rfl) M.len (by decide +kernel) (eb_var (pv 2))) ai_nil))))))) PassesOwn.never)
    (bi_one (si_retV (pv 1)))))
set_option maxHeartbeats 4000000 in
theorem dn_p_sign_of {f : Addr} {fd : FuncData} (Fu : L2.Fun K "sign_of" "sign_of" s_p_sign_of f fd) (hm : mg "sign_of" = some (.ref f)) (hb : Binds K fd ["mapping"] []) (M : Bl mg) : Dn P w K mg base 1 "sign_of" F_p_sign_of true :=
  dn_mk (N := ["mapping", "sign", "j", "i"]) Fu sc_p_sign_of hm hb fun cdv A outer s H E hr =>
    (bi_cons (si_set (i := 1) sc_p_sign_of.nd rfl (by first | exact .inl rfl | exact .inr rfl) ei_int)
    (bi_cons (si_for rfl (ii_rg1 (by rfl) M.range (eb (ei_b1 call_len_seq ad_len (by rfl) M.len (by decide +kernel) (eb_var (pv 0))))) (pg_name (i := 2) sc_p_sign_of.nd rfl (by first | exact .inl rfl | exact .inr rfl)) (tgv_nm 2)
    (bi_one (si_for rfl (ii_rg1 (by rfl) M.range (eb_var (pv 2))) (pg_name (i := 3) sc_p_sign_of.nd rfl (by first | exact .inl rfl | exact .inr rfl)) (tgv_nm 3)
    (bi_one (si_if (ti_cmp op_gt ad_cmp (eb (ei_ix (eb_var (pv 0)) (eb_var (pv 3)))) (eb (ei_ix (eb_var (pv 0)) (eb_var (pv 2)))) (nomark _))
    (bi_one (si_set (i := 1) sc_p_sign_of.nd rfl (by first | exact .inl rfl | exact .inr rfl) (ei_un un_neg ad_neg (eb_var (pv 1)))))
    bi_nil)) PassesOwn.never)) PassesOwn.never)
    (bi_one (si_retV (pv 1)))))
set_option maxHeartbeats 4000000 in
theorem dn_law_draws {f : Addr} {fd : FuncData} (Fu : L2.Fun K "_law_draws" "_law_draws" s_law_draws f fd) (hm : mg "_law_draws" = some (.ref f)) (hb : Binds K fd ["script", "many"] []) (M : Bl mg) : Dn P w K mg base 1 "_law_draws" F_law_draws true :=
  dn_mk (N := ["script", "many", "found", "cell", "number", "k", "mixed", "base"]) Fu sc_law_draws hm hb fun cdv A outer s H E hr =>
    (bi_cons (si_set (i := 2) sc_law_draws.nd rfl (by first | exact .inl rfl | exact .inr rfl) (ei_list ai_nil))
    (bi_cons (si_for rfl (ii_e (ei_slice (eb_var (pv 0)) oi_none (oi_some (eb ei_int)))) (pg_name (i := 3) sc_law_draws.nd rfl (by first | exact .inl rfl | exact .inr rfl)) (tgv_nm 3)
    (bi_cons (si_set (i := 4) sc_law_draws.nd rfl (by first | exact .inl rfl | exact .inr rfl) (ei_b1 call_abs ad_abs (by rfl) M.abs (by decide +kernel) (eb (ei_t1 call_int1 ad_int (by rfl) M.int (by decide +kernel) (eb_var (pv 3))))))
    (bi_one (si_if (ti_cmp op_ge ad_cmp (eb_var (pv 4)) (eb (ei_bin op_pow ad_pow (eb ei_int) (eb ei_int))) (nomark _))
    (bi_one (si_for rfl (ii_rg1 (by rfl) M.range (eb ei_int)) (pg_name (i := 5) sc_law_draws.nd rfl (by first | exact .inl rfl | exact .inr rfl)) (tgv_nm 5)
    (bi_one (si_if (ti_cmp op_gt ad_cmp (eb_var (pv 4)) (eb ei_int) (nomark _))
    (bi_cons (si_mut mt1_append PySem.F.slot_list_append PySem.F.type_list_append mt_append (pv 2) (ei_bin op_mod ad_mod (eb_var (pv 4)) (eb ei_int)))
    (bi_one (si_set (i := 4) sc_law_draws.nd rfl (by first | exact .inl rfl | exact .inr rfl) (ei_bin op_divX ad_fdiv (eb_var (pv 4)) (eb ei_int)))))
    bi_nil)) PassesOwn.never))
    (bi_cons (si_set (i := 6) sc_law_draws.nd rfl (by first | exact .inl rfl | exact .inr rfl) (ei_bin op_mod ad_mod (eb (ei_bin op_addX ad_add (eb (ei_bin op_addX ad_add (eb (ei_bin op_mulX ad_mul (eb_var (pv 4)) (eb ei_int))) (eb (ei_bin op_mulX ad_mul (eb ei_int) (eb (ei_b1 call_len_seq ad_len (by rfl) M.len (by decide +kernel) (eb_var (pv 2)))))))) (eb ei_int))) (eb ei_int)))
    (bi_one (si_for rfl (ii_rg1 (by rfl) M.range (eb ei_int)) (pg_name (i := 5) sc_law_draws.nd rfl (by first | exact .inl rfl | exact .inr rfl)) (tgv_nm 5)
    (bi_cons (si_set (i := 6) sc_law_draws.nd rfl (by first | exact .inl rfl | exact .inr rfl) (ei_bin op_mod ad_mod (eb (ei_bin op_addX ad_add (eb (ei_bin op_addX ad_add (eb (ei_bin op_addX ad_add (eb (ei_bin op_mulX ad_mul (eb_var (pv 6)) (eb ei_int))) (eb (ei_bin op_divX ad_fdiv (eb_var (pv 6)) (eb ei_int))))) (eb (ei_bin op_mulX ad_mul (eb ei_int) (eb_var (pv 5)))))) (eb ei_int))) (eb ei_int)))
    (bi_one (si_mut mt1_append PySem.F.slot_list_append PySem.F.type_list_append mt_append (pv 2) (ei_bin op_mod ad_mod (eb (ei_bin op_divX ad_fdiv (eb_var (pv 6)) (eb ei_int))) (eb ei_int))))) PassesOwn.never)))))) PassesOwn.never)
    (bi_cons (si_for rfl (ii_rg1 (by rfl) M.range (eb_var (pv 1))) (pg_name (i := 5) sc_law_draws.nd rfl (by first | exact .inl rfl | exact .inr rfl)) (tgv_nm 5)
    (bi_one (si_if (ti_cmp op_lt ad_cmp (eb (ei_b1 call_len_seq ad_len (by rfl) M.len (by decide +kernel) (eb_var (pv 2)))) (eb_var (pv 1)) (nomark _))
    (bi_cons (si_set (i := 7) sc_law_draws.nd rfl (by first | exact .inl rfl | exact .inr rfl) ei_int)
    (bi_cons (si_if (ti_cmp op_gt ad_cmp (eb (ei_b1 call_len_seq ad_len (by rfl) M.len (by decide +kernel) (eb_var (pv 2)))) (eb ei_int) (nomark _))
    (bi_one (si_set (i := 7) sc_law_draws.nd rfl (by first | exact .inl rfl | exact .inr rfl) (ei_ix (eb_var (pv 2)) (eb (ei_bin op_mod ad_mod (eb_var (pv 5)) (eb (ei_b1 call_len_seq ad_len (by rfl) M.len (by decide +kernel) (eb_var (pv 2)))))))))
    bi_nil)
    (bi_one (si_mut mt1_append PySem.F.slot_list_append PySem.F.type_list_append mt_append (pv 2) (ei_bin op_mod ad_mod (eb (ei_bin op_addX ad_add (eb (ei_bin op_addX ad_add (eb (ei_bin op_mulX ad_mul (eb_var (pv 7)) (eb ei_int))) (eb (ei_bin op_mulX ad_mul (eb ei_int) (eb (ei_b1 call_len_seq ad_len (by rfl) M.len (by decide +kernel) (eb_var (pv 2)))))))) (eb ei_int))) (eb ei_int))))))
    bi_nil)) PassesOwn.never)
    (bi_one (si_ret (ei_slice (eb_var (pv 2)) oi_none (oi_some (eb_var (pv 1)))))))))
set_option maxHeartbeats 4000000 in
theorem dn_law_cell {f : Addr} {fd : FuncData} (Fu : L2.Fun K "_law_cell" "_law_cell" s_law_cell f fd) (hm : mg "_law_cell" = some (.ref f)) (hb : Binds K fd ["draws", "k"] []) (M : Bl mg) : Dn P w K mg base 1 "_law_cell" F_law_cell false :=
  dn_mk (N := ["draws", "k"]) Fu sc_law_cell hm hb fun cdv A outer s H E hr =>
    (bi_cons (si_if (ti_cmp op_lt ad_cmp (eb_var (pv 1)) (eb (ei_b1 call_len_seq ad_len (by rfl) M.len (by decide +kernel) (eb_var (pv 0)))) (nomark _))
    (bi_one (si_ret (ei_ix (eb_var (pv 0)) (eb_var (pv 1)))))
    bi_nil)
    (bi_one (si_ret (ei_bin op_mod ad_mod (eb (ei_bin op_addX ad_add (eb (ei_bin op_addX ad_add (eb (ei_bin op_mulX ad_mul (eb (ei_ix (eb_var (pv 0)) (eb (ei_bin op_mod ad_mod (eb_var (pv 1)) (eb (ei_b1 call_len_seq ad_len (by rfl) M.len (by decide +kernel) (eb_var (pv 0)))))))) (eb ei_int))) (eb (ei_bin op_mulX ad_mul (eb (ei_ix (eb_var (pv 0)) (eb (ei_bin op_mod ad_mod (eb (ei_bin op_mulX ad_mul (eb ei_int) (eb_var (pv 1)))) (eb (ei_b1 call_len_seq ad_len (by rfl) M.len (by decide +kernel) (eb_var (pv 0)))))))) (eb ei_int))))) (eb (ei_bin op_mulX ad_mul (eb ei_int) (eb_var (pv 1)))))) (eb ei_int)))))
set_option maxHeartbeats 4000000 in
theorem dn_law_is_number {f : Addr} {fd : FuncData} (Fu : L2.Fun K "_law_is_number" "_law_is_number" s_law_is_number f fd) (hm : mg "_law_is_number" = some (.ref f)) (hb : Binds K fd ["value"] []) (M : Bl mg) : Dn P w K mg base 1 "_law_is_number" F_law_is_number true :=
  dn_mk (N := ["value"]) Fu sc_law_is_number hm hb fun cdv A outer s H E hr =>
    (bi_one (si_ret (ei_and (ei_isi (T := "int") (by rfl) M.isinstance (by decide +kernel) (eb_var (pv 0)) (pe_bltn (by rfl) M.int (by decide +kernel) rfl)) (ei_one (ei_not (ei_isi (T := "bool") (by rfl) M.isinstance (by decide +kernel) (eb_var (pv 0)) (pe_bltn (by rfl) M.bool (by decide +kernel) rfl)))))))
set_option maxHeartbeats 4000000 in
theorem dn_law_turning {f : Addr} {fd : FuncData} (Fu : L2.Fun K "_law_turning" "_law_turning" s_law_turning f fd) (hm : mg "_law_turning" = some (.ref f)) (hb : Binds K fd ["draws", "at", "n"] []) (M : Bl mg) (C_law_cell : Dn P w K mg base 1 "_law_cell" F_law_cell false) : Dn P w K mg base 2 "_law_turning" F_law_turning true :=
  dn_mk (N := ["draws", "at", "n", "line", "point"]) Fu sc_law_turning hm hb fun cdv A outer s H E hr =>
    (bi_cons (si_set (i := 3) sc_law_turning.nd rfl (by first | exact .inl rfl | exact .inr rfl) (ei_list ai_nil))
    (bi_cons (si_for rfl (ii_rg1 (by rfl) M.range (eb_var (pv 2))) (pg_name (i := 4) sc_law_turning.nd rfl (by first | exact .inl rfl | exact .inr rfl)) (tgv_nm 4)
    (bi_one (si_ins (pv 3) (eb (ei_bin op_mod ad_mod (eb (ei_bin op_divX ad_fdiv (eb (ei_call C_law_cell (hr.mono (by decide)) (by rfl) (ai_cons (ei_var (pv 0)) (ai_cons (ei_bin op_addX ad_add (eb_var (pv 1)) (eb_var (pv 4))) ai_nil)))) (eb ei_int))) (eb (ei_bin op_addX ad_add (eb_var (pv 4)) (eb ei_int))))) (ei_var (pv 4)))) PassesOwn.never)
    (bi_one (si_ret (ei_t1 call_tuple_of ad_tuple (by rfl) M.tuple (by decide +kernel) (eb_var (pv 3)))))))
set_option maxHeartbeats 4000000 in
theorem dn_law_then {f : Addr} {fd : FuncData} (Fu : L2.Fun K "_law_then" "_law_then" s_law_then f fd) (hm : mg "_law_then" = some (.ref f)) (hb : Binds K fd ["first", "second"] []) (M : Bl mg) : Dn P w K mg base 1 "_law_then" F_law_then true :=
  dn_mk (N := ["first", "second", "point"]) Fu sc_law_then hm hb fun cdv A outer s H E hr =>
    (bi_one (si_ret (ei_t1 call_tuple_of ad_tuple (by rfl) M.tuple (by decide +kernel) (eb (ei_lc (s := _) rfl sc_law_then.nd (ii_v (pv 0)) (blkOk_by (own := [("point", 2)]) (by show blkC ["first", "second", "point"] (defScope s_law_then) _ _ = true; decide +kernel)) (fun _ _ _ _ _ => (pg_name (i := 2) sc_law_then.nd rfl (by first | exact .inl rfl | exact .inr rfl))) (tgv_nm 2) (by decide) (fun _ _ _ _ _ => tsi_nil) (fun _ _ _ _ _ => (ei_ix (eb_var (pv 1)) (eb_var (pv 2)))))))))
set_option maxHeartbeats 4000000 in
theorem dn_law_back {f : Addr} {fd : FuncData} (Fu : L2.Fun K "_law_back" "_law_back" s_law_back f fd) (hm : mg "_law_back" = some (.ref f)) (hb : Binds K fd ["mapping"] []) (M : Bl mg) : Dn P w K mg base 1 "_law_back" F_law_back true :=
  dn_mk (N := ["mapping", "found", "point"]) Fu sc_law_back hm hb fun cdv A outer s H E hr =>
    (bi_cons (si_set (i := 1) sc_law_back.nd rfl (by first | exact .inl rfl | exact .inr rfl) (ei_bin op_mulX ad_mul (eb (ei_list (ai_cons ei_int ai_nil))) (eb (ei_b1 call_len_seq ad_len (by rfl) M.len (by decide +kernel) (eb_var (pv 0))))))
    (bi_cons (si_for rfl (ii_rg1 (by rfl) M.range (eb (ei_b1 call_len_seq ad_len (by rfl) M.len (by decide +kernel) (eb_var (pv 0))))) (pg_name (i := 2) sc_law_back.nd rfl (by first | exact .inl rfl | exact .inr rfl)) (tgv_nm 2)
    (bi_one (si_sit (ei_var (pv 2)) (pv 1) (eb (ei_ix (eb_var (pv 0)) (eb_var (pv 2)))))) PassesOwn.never)
    (bi_one (si_ret (ei_t1 call_tuple_of ad_tuple (by rfl) M.tuple (by decide +kernel) (eb_var (pv 1)))))))
set_option maxHeartbeats 4000000 in
theorem dn_law_rest {f : Addr} {fd : FuncData} (Fu : L2.Fun K "_law_rest" "_law_rest" s_law_rest f fd) (hm : mg "_law_rest" = some (.ref f)) (hb : Binds K fd ["n"] []) (M : Bl mg) : Dn P w K mg base 1 "_law_rest" F_law_rest true :=
  dn_mk (N := ["n"]) Fu sc_law_rest hm hb fun cdv A outer s H E hr =>
    (bi_one (si_ret (ei_tupRg rfl (by rfl) M.tuple (ri_1 (by rfl) M.range (eb_var (pv 0))))))
set_option maxHeartbeats 4000000 in
theorem dn_law_on_loops {f : Addr} {fd : FuncData} (Fu : L2.Fun K "_law_on_loops" "_law_on_loops" s_law_on_loops f fd) (hm : mg "_law_on_loops" = some (.ref f)) (hb : Binds K fd ["mapping"] []) (M : Bl mg) : Dn P w K mg base 1 "_law_on_loops" F_law_on_loops true :=
  dn_mk (N := ["mapping", "found", "turn", "point"]) Fu sc_law_on_loops hm hb fun cdv A outer s H E hr =>
    (bi_cons (si_set (i := 1) sc_law_on_loops.nd rfl (by first | exact .inl rfl | exact .inr rfl) (ei_listRg rfl (by rfl) M.list (ri_1 (by rfl) M.range (eb (ei_b1 call_len_seq ad_len (by rfl) M.len (by decide +kernel) (eb_var (pv 0)))))))
    (bi_cons (si_for rfl (ii_rg1 (by rfl) M.range (eb (ei_b1 call_len_seq ad_len (by rfl) M.len (by decide +kernel) (eb_var (pv 0))))) (pg_name (i := 2) sc_law_on_loops.nd rfl (by first | exact .inl rfl | exact .inr rfl)) (tgv_nm 2)
    (bi_one (si_set (i := 1) sc_law_on_loops.nd rfl (by first | exact .inl rfl | exact .inr rfl) (ei_sortSet hr rfl (by rfl) M.sorted (by rfl) M.set (eb (ei_lc (s := _) rfl sc_law_on_loops.nd (ii_v (pv 1)) (blkOk_by (own := [("point", 3)]) (by show blkC ["mapping", "found", "turn", "point"] (defScope s_law_on_loops) _ _ = true; decide +kernel)) (fun _ _ _ _ _ => (pg_name (i := 3) sc_law_on_loops.nd rfl (by first | exact .inl rfl | exact .inr rfl))) (tgv_nm 3) (by decide) (fun _ _ _ _ _ => tsi_nil) (fun _ _ _ _ _ => (ei_ix (eb_var (pv 0)) (eb_var (pv 3))))))))) PassesOwn.never)
    (bi_one (si_retV (pv 1)))))
set_option maxHeartbeats 4000000 in
theorem dn_law_loops {f : Addr} {fd : FuncData} (Fu : L2.Fun K "_law_loops" "_law_loops" s_law_loops f fd) (hm : mg "_law_loops" = some (.ref f)) (hb : Binds K fd ["mapping"] []) (M : Bl mg) (C_law_on_loops : Dn P w K mg base 1 "_law_on_loops" F_law_on_loops true) : Dn P w K mg base 2 "_law_loops" F_law_loops true :=
  dn_mk (N := ["mapping", "found", "seen", "point", "loop"]) Fu sc_law_loops hm hb fun cdv A outer s H E hr =>
    (bi_cons (si_set (i := 1) sc_law_loops.nd rfl (by first | exact .inl rfl | exact .inr rfl) (ei_list ai_nil))
    (bi_cons (si_set (i := 2) sc_law_loops.nd rfl (by first | exact .inl rfl | exact .inr rfl) (ei_list ai_nil))
    (bi_cons (si_for rfl (ii_e (ei_call C_law_on_loops (hr.mono (by decide)) (by rfl) (ai_cons (ei_var (pv 0)) ai_nil))) (pg_name (i := 3) sc_law_loops.nd rfl (by first | exact .inl rfl | exact .inr rfl)) (tgv_nm 3)
    (bi_one (si_if (ti_cmp (op_notInX (hu65 hr)) ad_notIn (eb_var (pv 3)) (eb_var (pv 2)) (by rfl))
    (bi_cons (si_set (i := 4) sc_law_loops.nd rfl (by first | exact .inl rfl | exact .inr rfl) (ei_list (ai_cons (ei_var (pv 3)) ai_nil)))
    (bi_cons (si_while 1000000 (ti_cmp (op_neD hr.units) ad_ne (eb (ei_ix (eb_var (pv 0)) (eb (ei_ix (eb_var (pv 4)) (eb (ei_un un_neg ad_neg (eb ei_int))))))) (eb_var (pv 3)) (nomark _))
    (bi_one (si_mut mt1_append PySem.F.slot_list_append PySem.F.type_list_append mt_append (pv 4) (ei_ix (eb_var (pv 0)) (eb (ei_ix (eb_var (pv 4)) (eb (ei_un un_neg ad_neg (eb ei_int)))))))) PassesOwn.never)
    (bi_cons (si_set (i := 2) sc_law_loops.nd rfl (by first | exact .inl rfl | exact .inr rfl) (ei_bin op_addX ad_add (eb_var (pv 2)) (eb_var (pv 4))))
    (bi_one (si_mut mt1_append PySem.F.slot_list_append PySem.F.type_list_append mt_append (pv 1) (ei_var (pv 4)))))))
    bi_nil)) PassesOwn.never)
    (bi_one (si_retV (pv 1))))))
set_option maxHeartbeats 4000000 in
theorem dn_law_moved {f : Addr} {fd : FuncData} (Fu : L2.Fun K "_law_moved" "_law_moved" s_law_moved f fd) (hm : mg "_law_moved" = some (.ref f)) (hb : Binds K fd ["mapping", "h"] []) (M : Bl mg) : Dn P w K mg base 1 "_law_moved" F_law_moved true :=
  dn_mk (N := ["mapping", "h", "found", "point"]) Fu sc_law_moved hm hb fun cdv A outer s H E hr =>
    (bi_cons (si_set (i := 2) sc_law_moved.nd rfl (by first | exact .inl rfl | exact .inr rfl) (ei_bin op_mulX ad_mul (eb (ei_list (ai_cons ei_int ai_nil))) (eb (ei_b1 call_len_seq ad_len (by rfl) M.len (by decide +kernel) (eb_var (pv 0))))))
    (bi_cons (si_for rfl (ii_rg1 (by rfl) M.range (eb (ei_b1 call_len_seq ad_len (by rfl) M.len (by decide +kernel) (eb_var (pv 0))))) (pg_name (i := 3) sc_law_moved.nd rfl (by first | exact .inl rfl | exact .inr rfl)) (tgv_nm 3)
    (bi_one (si_sit (ei_ix (eb_var (pv 1)) (eb (ei_ix (eb_var (pv 0)) (eb_var (pv 3))))) (pv 2) (eb (ei_ix (eb_var (pv 1)) (eb_var (pv 3)))))) PassesOwn.never)
    (bi_one (si_ret (ei_t1 call_tuple_of ad_tuple (by rfl) M.tuple (by decide +kernel) (eb_var (pv 2)))))))
set_option maxHeartbeats 4000000 in
theorem dn_law_common {f : Addr} {fd : FuncData} (Fu : L2.Fun K "_law_common" "_law_common" s_law_common f fd) (hm : mg "_law_common" = some (.ref f)) (hb : Binds K fd ["first", "second"] []) (M : Bl mg) : Dn P w K mg base 1 "_law_common" F_law_common true :=
  dn_mk (N := ["first", "second"]) Fu sc_law_common hm hb fun cdv A outer s H E hr =>
    (bi_cons (si_while 1000000 (ti_cmp (op_neD hr.units) ad_ne (eb_var (pv 1)) (eb ei_int) (nomark _))
    (bi_one (si_par (i := 0) (j := 1) rfl sc_law_common.nd rfl rfl (by decide) rfl rfl (ai_cons (ei_var (pv 1)) (ai_cons (ei_bin op_mod ad_mod (eb_var (pv 0)) (eb_var (pv 1))) ai_nil)) (by rfl))) PassesOwn.never)
    (bi_one (si_retV (pv 0))))
set_option maxHeartbeats 4000000 in
theorem dn_law_order {f : Addr} {fd : FuncData} (Fu : L2.Fun K "_law_order" "_law_order" s_law_order f fd) (hm : mg "_law_order" = some (.ref f)) (hb : Binds K fd ["mapping"] []) (M : Bl mg) (C_law_loops : Dn P w K mg base 2 "_law_loops" F_law_loops true) (C_law_common : Dn P w K mg base 1 "_law_common" F_law_common true) : Dn P w K mg base 3 "_law_order" F_law_order true :=
  dn_mk (N := ["mapping", "order", "loop"]) Fu sc_law_order hm hb fun cdv A outer s H E hr =>
    (bi_cons (si_set (i := 1) sc_law_order.nd rfl (by first | exact .inl rfl | exact .inr rfl) ei_int)
    (bi_cons (si_for rfl (ii_e (ei_call C_law_loops (hr.mono (by decide)) (by rfl) (ai_cons (ei_var (pv 0)) ai_nil))) (pg_name (i := 2) sc_law_order.nd rfl (by first | exact .inl rfl | exact .inr rfl)) (tgv_nm 2)
    (bi_one (si_set (i := 1) sc_law_order.nd rfl (by first | exact .inl rfl | exact .inr rfl) (ei_bin op_mulX ad_mul (eb_var (pv 1)) (eb (ei_bin op_divX ad_fdiv (eb (ei_b1 call_len_seq ad_len (by rfl) M.len (by decide +kernel) (eb_var (pv 2)))) (eb (ei_call C_law_common (hr.mono (by decide)) (by rfl) (ai_cons (ei_var (pv 1)) (ai_cons (ei_b1 call_len_seq ad_len (by rfl) M.len (by decide +kernel) (eb_var (pv 2))) ai_nil))))))))) PassesOwn.never)
    (bi_one (si_retV (pv 1)))))
set_option maxHeartbeats 4000000 in
theorem dn_law_order_walked {f : Addr} {fd : FuncData} (Fu : L2.Fun K "_law_order_walked" "_law_order_walked" s_law_order_walked f fd) (hm : mg "_law_order_walked" = some (.ref f)) (hb : Binds K fd ["mapping"] []) (M : Bl mg) (C_law_then : Dn P w K mg base 1 "_law_then" F_law_then true) (C_law_rest : Dn P w K mg base 1 "_law_rest" F_law_rest true) : Dn P w K mg base 2 "_law_order_walked" F_law_order_walked true :=
  dn_mk (N := ["mapping", "times", "made"]) Fu sc_law_order_walked hm hb fun cdv A outer s H E hr =>
    (bi_cons (si_par (i := 1) (j := 2) rfl sc_law_order_walked.nd rfl rfl (by decide) rfl rfl (ai_cons ei_int (ai_cons (ei_var (pv 0)) ai_nil)) (by rfl))
    (bi_cons (si_while 1000000 (ti_cmp (op_neD hr.units) ad_ne (eb_var (pv 2)) (eb (ei_call C_law_rest (hr.mono (by decide)) (by rfl) (ai_cons (ei_b1 call_len_seq ad_len (by rfl) M.len (by decide +kernel) (eb_var (pv 0))) ai_nil))) (nomark _))
    (bi_cons (si_set (i := 2) sc_law_order_walked.nd rfl (by first | exact .inl rfl | exact .inr rfl) (ei_call C_law_then (hr.mono (by decide)) (by rfl) (ai_cons (ei_var (pv 2)) (ai_cons (ei_var (pv 0)) ai_nil))))
    (bi_one (si_set (i := 1) sc_law_order_walked.nd rfl (by first | exact .inl rfl | exact .inr rfl) (ei_bin op_addX ad_add (eb_var (pv 1)) (eb ei_int))))) PassesOwn.never)
    (bi_one (si_retV (pv 1)))))
set_option maxHeartbeats 4000000 in
theorem dn_law_sign {f : Addr} {fd : FuncData} (Fu : L2.Fun K "_law_sign" "_law_sign" s_law_sign f fd) (hm : mg "_law_sign" = some (.ref f)) (hb : Binds K fd ["mapping"] []) (M : Bl mg) : Dn P w K mg base 1 "_law_sign" F_law_sign true :=
  dn_mk (N := ["mapping", "turned", "j", "i"]) Fu sc_law_sign hm hb fun cdv A outer s H E hr =>
    (bi_cons (si_set (i := 1) sc_law_sign.nd rfl (by first | exact .inl rfl | exact .inr rfl) ei_int)
    (bi_cons (si_for rfl (ii_rg1 (by rfl) M.range (eb (ei_b1 call_len_seq ad_len (by rfl) M.len (by decide +kernel) (eb_var (pv 0))))) (pg_name (i := 2) sc_law_sign.nd rfl (by first | exact .inl rfl | exact .inr rfl)) (tgv_nm 2)
    (bi_one (si_set (i := 1) sc_law_sign.nd rfl (by first | exact .inl rfl | exact .inr rfl) (ei_bin op_addX ad_add (eb_var (pv 1)) (eb (ei_b1 call_len_seq ad_len (by rfl) M.len (by decide +kernel) (eb (ei_lc (s := _) rfl sc_law_sign.nd (ii_rg1 (by rfl) M.range (eb_var (pv 2))) (blkOk_by (own := [("i", 3)]) (by show blkC ["mapping", "turned", "j", "i"] (defScope s_law_sign) _ _ = true; decide +kernel)) (fun _ _ _ _ _ => (pg_name (i := 3) sc_law_sign.nd rfl (by first | exact .inl rfl | exact .inr rfl))) (tgv_nm 3) (by decide) (fun _ _ _ _ _ => (tsi_one (ti_cmp op_gt ad_cmp (eb (ei_ix (eb_var (pv 0)) (eb_var (pv 3)))) (eb (ei_ix (eb_var (pv 0)) (eb_var (pv 2)))) (nomark _)))) (fun _ _ _ _ _ => (ei_var (pv 3)))))))))) PassesOwn.never)
    (bi_one (si_ret (ei_bin op_sub ad_sub (eb ei_int) (eb (ei_bin op_mulX ad_mul (eb ei_int) (eb (ei_bin op_mod ad_mod (eb_var (pv 1)) (eb ei_int))))))))))
set_option maxHeartbeats 4000000 in
theorem dn_law_told {f : Addr} {fd : FuncData} (Fu : L2.Fun K "_law_told" "_law_told" s_law_told f fd) (hm : mg "_law_told" = some (.ref f)) (hb : Binds K fd ["mapping"] []) (M : Bl mg) (C_p_order_of : Dn P w K mg base 4 "order_of" F_p_order_of true) (C_p_sign_of : Dn P w K mg base 1 "sign_of" F_p_sign_of true) (C_law_is_number : Dn P w K mg base 1 "_law_is_number" F_law_is_number true) (C_law_back : Dn P w K mg base 1 "_law_back" F_law_back true) (C_law_loops : Dn P w K mg base 2 "_law_loops" F_law_loops true) (C_law_order : Dn P w K mg base 3 "_law_order" F_law_order true) (C_law_order_walked : Dn P w K mg base 2 "_law_order_walked" F_law_order_walked true) (C_law_sign : Dn P w K mg base 1 "_law_sign" F_law_sign true) : Dn P w K mg base 5 "_law_told" F_law_told true :=
  dn_mk (N := ["mapping", "n", "order", "sign"]) Fu sc_law_told hm hb fun cdv A outer s H E hr =>
    (bi_cons (si_set (i := 1) sc_law_told.nd rfl (by first | exact .inl rfl | exact .inr rfl) (ei_b1 call_len_seq ad_len (by rfl) M.len (by decide +kernel) (eb_var (pv 0))))
    (bi_cons (si_par (i := 2) (j := 3) rfl sc_law_told.nd rfl rfl (by decide) rfl rfl (ai_cons (ei_call C_p_order_of (hr.mono (by decide)) (by rfl) (ai_cons (ei_var (pv 0)) ai_nil)) (ai_cons (ei_call C_p_sign_of (hr.mono (by decide)) (by rfl) (ai_cons (ei_var (pv 0)) ai_nil)) ai_nil)) (by rfl))
    (bi_cons (si_if (ti_pw (wi_or (ti_not (ti_truth (eb (ei_call C_law_is_number (hr.mono (by decide)) (by rfl) (ai_cons (ei_var (pv 2)) ai_nil))))) (wi_or (ti_not (ti_truth (eb (ei_call C_law_is_number (hr.mono (by decide)) (by rfl) (ai_cons (ei_var (pv 3)) ai_nil))))) (wi_or (ti_cmp (op_neD hr.units) ad_ne (eb_var (pv 2)) (eb (ei_call C_law_order (hr.mono (by decide)) (by rfl) (ai_cons (ei_var (pv 0)) ai_nil))) (nomark _)) (wi_or1 (ti_cmp (op_neD hr.units) ad_ne (eb_var (pv 3)) (eb (ei_call C_law_sign (hr.mono (by decide)) (by rfl) (ai_cons (ei_var (pv 0)) ai_nil))) (nomark _)))))))
    (bi_one (si_ret ei_non))
    bi_nil)
    (bi_cons (si_if (ti_pw (wi_or (ti_pw (wi_and (ti_cmp op_le ad_cmp (eb_var (pv 1)) (eb ei_int) (nomark _)) (wi_and1 (ti_cmp (op_neD hr.units) ad_ne (eb_var (pv 2)) (eb (ei_call C_law_order_walked (hr.mono (by decide)) (by rfl) (ai_cons (ei_var (pv 0)) ai_nil))) (nomark _))))) (wi_or1 (ti_cmp (op_neD hr.units) ad_ne (eb_var (pv 3)) (eb (ei_bin op_sub ad_sub (eb ei_int) (eb (ei_bin op_mulX ad_mul (eb ei_int) (eb (ei_bin op_mod ad_mod (eb (ei_bin op_sub ad_sub (eb_var (pv 1)) (eb (ei_b1 call_len_seq ad_len (by rfl) M.len (by decide +kernel) (eb (ei_call C_law_loops (hr.mono (by decide)) (by rfl) (ai_cons (ei_var (pv 0)) ai_nil))))))) (eb ei_int))))))) (nomark _)))))
    (bi_one (si_ret ei_non))
    bi_nil)
    (bi_cons (si_if (ti_pw (wi_or (ti_cmp (op_neD hr.units) ad_ne (eb (ei_call C_p_order_of (hr.mono (by decide)) (by rfl) (ai_cons (ei_call C_law_back (hr.mono (by decide)) (by rfl) (ai_cons (ei_var (pv 0)) ai_nil)) ai_nil))) (eb_var (pv 2)) (nomark _)) (wi_or1 (ti_cmp (op_neD hr.units) ad_ne (eb (ei_call C_p_sign_of (hr.mono (by decide)) (by rfl) (ai_cons (ei_call C_law_back (hr.mono (by decide)) (by rfl) (ai_cons (ei_var (pv 0)) ai_nil)) ai_nil))) (eb_var (pv 3)) (nomark _)))))
    (bi_one (si_ret ei_non))
    bi_nil)
    (bi_one (si_ret (ei_tuple (ai_cons (ei_var (pv 2)) (ai_cons (ei_var (pv 3)) ai_nil))))))))))
set_option maxHeartbeats 4000000 in
theorem dn_law_of_loops {f : Addr} {fd : FuncData} (Fu : L2.Fun K "_law_of_loops" "_law_of_loops" s_law_of_loops f fd) (hm : mg "_law_of_loops" = some (.ref f)) (hb : Binds K fd ["draws", "at", "n"] []) (M : Bl mg) (C_law_cell : Dn P w K mg base 1 "_law_cell" F_law_cell false) : Dn P w K mg base 2 "_law_of_loops" F_law_of_loops true :=
  dn_mk (N := ["draws", "at", "n", "goals", "length", "start", "k"]) Fu sc_law_of_loops hm hb fun cdv A outer s H E hr =>
    (bi_cons (si_set (i := 3) sc_law_of_loops.nd rfl (by first | exact .inl rfl | exact .inr rfl) (ei_list ai_nil))
    (bi_cons (si_while 1000000 (ti_cmp op_lt ad_cmp (eb (ei_b1 call_len_seq ad_len (by rfl) M.len (by decide +kernel) (eb_var (pv 3)))) (eb_var (pv 2)) (nomark _))
    (bi_cons (si_set (i := 4) sc_law_of_loops.nd rfl (by first | exact .inl rfl | exact .inr rfl) (ei_b2 (call_min2 rfl) ad_min2 (by rfl) M.min (by decide +kernel) (eb (ei_bin op_sub ad_sub (eb_var (pv 2)) (eb (ei_b1 call_len_seq ad_len (by rfl) M.len (by decide +kernel) (eb_var (pv 3)))))) (eb (ei_ix (eb (ei_list (ai_cons ei_int (ai_cons ei_int (ai_cons ei_int (ai_cons ei_int (ai_cons ei_int (ai_cons ei_int (ai_cons ei_int (ai_cons ei_int ai_nil)))))))))) (eb (ei_bin op_mod ad_mod (eb (ei_call C_law_cell (hr.mono (by decide)) (by rfl) (ai_cons (ei_var (pv 0)) (ai_cons (ei_bin op_addX ad_add (eb_var (pv 1)) (eb (ei_b1 call_len_seq ad_len (by rfl) M.len (by decide +kernel) (eb_var (pv 3))))) ai_nil)))) (eb ei_int)))))))
    (bi_cons (si_set (i := 5) sc_law_of_loops.nd rfl (by first | exact .inl rfl | exact .inr rfl) (ei_b1 call_len_seq ad_len (by rfl) M.len (by decide +kernel) (eb_var (pv 3))))
    (bi_one (si_set (i := 3) sc_law_of_loops.nd rfl (by first | exact .inl rfl | exact .inr rfl) (ei_bin op_addX ad_add (eb_var (pv 3)) (eb (ei_lc (s := _) rfl sc_law_of_loops.nd (ii_rg1 (by rfl) M.range (eb_var (pv 4))) (blkOk_by (own := [("k", 6)]) (by show blkC ["draws", "at", "n", "goals", "length", "start", "k"] (defScope s_law_of_loops) _ _ = true; decide +kernel)) (fun _ _ _ _ _ => (pg_name (i := 6) sc_law_of_loops.nd rfl (by first | exact .inl rfl | exact .inr rfl))) (tgv_nm 6) (by decide) (fun _ _ _ _ _ => tsi_nil) (fun _ _ _ _ _ => (ei_bin op_addX ad_add (eb_var (pv 5)) (eb (ei_bin op_mod ad_mod (eb (ei_bin op_addX ad_add (eb_var (pv 6)) (eb ei_int))) (eb_var (pv 4))))))))))))) PassesOwn.never)
    (bi_one (si_ret (ei_t1 call_tuple_of ad_tuple (by rfl) M.tuple (by decide +kernel) (eb_var (pv 3)))))))
set_option maxHeartbeats 4000000 in
theorem dn_p_law {f : Addr} {fd : FuncData} (Fu : L2.Fun K "law" "law" s_p_law f fd) (hm : mg "law" = some (.ref f)) (hb : Binds K fd ["script"] []) (M : Bl mg) (C_law_draws : Dn P w K mg base 1 "_law_draws" F_law_draws true) (C_law_turning : Dn P w K mg base 2 "_law_turning" F_law_turning true) (C_law_then : Dn P w K mg base 1 "_law_then" F_law_then true) (C_law_rest : Dn P w K mg base 1 "_law_rest" F_law_rest true) (C_law_moved : Dn P w K mg base 1 "_law_moved" F_law_moved true) (C_law_told : Dn P w K mg base 5 "_law_told" F_law_told true) (C_law_of_loops : Dn P w K mg base 2 "_law_of_loops" F_law_of_loops true) : Dn P w K mg base 6 "law" F_p_law true :=
  dn_mk (N := ["script", "draws", "n", "h", "looped", "ring", "point", "one", "other", "first", "second", "both", "i", "j", "swap", "told"]) Fu sc_p_law hm hb fun cdv A outer s H E hr =>
    (bi_cons (si_set (i := 1) sc_p_law.nd rfl (by first | exact .inl rfl | exact .inr rfl) (ei_call C_law_draws (hr.mono (by decide)) (by rfl) (ai_cons (ei_var (pv 0)) (ai_cons ei_int ai_nil))))
    (bi_cons (si_set (i := 2) sc_p_law.nd rfl (by first | exact .inl rfl | exact .inr rfl) (ei_bin op_addX ad_add (eb ei_int) (eb (ei_bin op_mod ad_mod (eb (ei_ix (eb_var (pv 1)) (eb ei_int))) (eb ei_int)))))
    (bi_cons (si_if (ti_cmp (op_eqD hr.units) ad_eq (eb (ei_bin op_mod ad_mod (eb (ei_ix (eb_var (pv 1)) (eb ei_int))) (eb ei_int))) (eb ei_int) (nomark _))
    (bi_one (si_set (i := 2) sc_p_law.nd rfl (by first | exact .inl rfl | exact .inr rfl) ei_int))
    bi_nil)
    (bi_cons (si_set (i := 3) sc_p_law.nd rfl (by first | exact .inl rfl | exact .inr rfl) (ei_call C_law_turning (hr.mono (by decide)) (by rfl) (ai_cons (ei_var (pv 1)) (ai_cons ei_int (ai_cons (ei_var (pv 2)) ai_nil)))))
    (bi_cons (si_set (i := 4) sc_p_law.nd rfl (by first | exact .inl rfl | exact .inr rfl) (ei_call C_law_of_loops (hr.mono (by decide)) (by rfl) (ai_cons (ei_var (pv 1)) (ai_cons ei_int (ai_cons (ei_var (pv 2)) ai_nil)))))
    (bi_cons (si_set (i := 5) sc_p_law.nd rfl (by first | exact .inl rfl | exact .inr rfl) (ei_t1 call_tuple_of ad_tuple (by rfl) M.tuple (by decide +kernel) (eb (ei_lc (s := _) rfl sc_p_law.nd (ii_rg1 (by rfl) M.range (eb_var (pv 2))) (blkOk_by (own := [("point", 6)]) (by show blkC ["script", "draws", "n", "h", "looped", "ring", "point", "one", "other", "first", "second", "both", "i", "j", "swap", "told"] (defScope s_p_law) _ _ = true; decide +kernel)) (fun _ _ _ _ _ => (pg_name (i := 6) sc_p_law.nd rfl (by first | exact .inl rfl | exact .inr rfl))) (tgv_nm 6) (by decide) (fun _ _ _ _ _ => tsi_nil) (fun _ _ _ _ _ => (ei_bin op_mod ad_mod (eb (ei_bin op_addX ad_add (eb_var (pv 6)) (eb ei_int))) (eb_var (pv 2))))))))
    (bi_cons (si_for rfl (ii_e (ei_list (ai_cons (ei_tuple (ai_cons (ei_var (pv 3)) (ai_cons (ei_call C_law_turning (hr.mono (by decide)) (by rfl) (ai_cons (ei_var (pv 1)) (ai_cons ei_int (ai_cons (ei_var (pv 2)) ai_nil)))) ai_nil))) (ai_cons (ei_tuple (ai_cons (ei_var (pv 4)) (ai_cons (ei_var (pv 3)) ai_nil))) (ai_cons (ei_tuple (ai_cons (ei_var (pv 5)) (ai_cons (ei_var (pv 4)) ai_nil))) (ai_cons (ei_tuple (ai_cons (ei_call C_law_rest (hr.mono (by decide)) (by rfl) (ai_cons (ei_var (pv 2)) ai_nil)) (ai_cons (ei_var (pv 3)) ai_nil))) ai_nil)))))) (pg_tup rfl (pgs_cons (pg_name (i := 7) sc_p_law.nd rfl (by first | exact .inl rfl | exact .inr rfl)) (pgs_cons (pg_name (i := 8) sc_p_law.nd rfl (by first | exact .inl rfl | exact .inr rfl)) pgs_nil))) (tgv_tp [7, 8])
    (bi_cons (si_par3 (i := 9) (j := 10) (l := 11) rfl sc_p_law.nd rfl rfl rfl (by decide) (by decide) (by decide) rfl rfl rfl (ai_cons (ei_call C_law_told (hr.mono (by decide)) (by rfl) (ai_cons (ei_var (pv 7)) ai_nil)) (ai_cons (ei_call C_law_told (hr.mono (by decide)) (by rfl) (ai_cons (ei_var (pv 8)) ai_nil)) (ai_cons (ei_call C_law_told (hr.mono (by decide)) (by rfl) (ai_cons (ei_call C_law_then (hr.mono (by decide)) (by rfl) (ai_cons (ei_var (pv 7)) (ai_cons (ei_var (pv 8)) ai_nil))) ai_nil)) ai_nil))) (by rfl))
    (bi_one (si_if (ti_pw (wi_or (ti_cmp op_isN ad_isN (eb_var (pv 9)) (eb ei_non) (nomark _)) (wi_or (ti_cmp op_isN ad_isN (eb_var (pv 10)) (eb ei_non) (nomark _)) (wi_or (ti_cmp op_isN ad_isN (eb_var (pv 11)) (eb ei_non) (nomark _)) (wi_or (ti_cmp (op_neD hr.units) ad_ne (eb (ei_ix (eb_var (pv 11)) (eb ei_int))) (eb (ei_bin op_mulX ad_mul (eb (ei_ix (eb_var (pv 9)) (eb ei_int))) (eb (ei_ix (eb_var (pv 10)) (eb ei_int))))) (nomark _)) (wi_or1 (ti_cmp (op_neD hr.units) ad_ne (eb (ei_call C_law_told (hr.mono (by decide)) (by rfl) (ai_cons (ei_call C_law_moved (hr.mono (by decide)) (by rfl) (ai_cons (ei_var (pv 7)) (ai_cons (ei_var (pv 3)) ai_nil))) ai_nil))) (eb_var (pv 9)) (nomark _))))))))
    (bi_one (si_ret ei_bl))
    bi_nil))) PassesOwn.never)
    (bi_cons (si_par (i := 12) (j := 13) rfl sc_p_law.nd rfl rfl (by decide) rfl rfl (ai_cons (ei_bin op_mod ad_mod (eb (ei_ix (eb_var (pv 1)) (eb ei_int))) (eb_var (pv 2))) (ai_cons (ei_bin op_mod ad_mod (eb (ei_ix (eb_var (pv 1)) (eb ei_int))) (eb_var (pv 2))) ai_nil)) (by rfl))
    (bi_cons (si_set (i := 14) sc_p_law.nd rfl (by first | exact .inl rfl | exact .inr rfl) (ei_t1 call_list_of ad_list (by rfl) M.list (by decide +kernel) (eb (ei_call C_law_rest (hr.mono (by decide)) (by rfl) (ai_cons (ei_var (pv 2)) ai_nil)))))
    (bi_cons (si_swp rfl (ei_tuple (ai_cons (ei_var (pv 13)) (ai_cons (ei_var (pv 12)) ai_nil))) (pv 14) (eb_var (pv 12)) (pv 14) (eb_var (pv 13)))
    (bi_cons (si_set (i := 15) sc_p_law.nd rfl (by first | exact .inl rfl | exact .inr rfl) (ei_call C_law_told (hr.mono (by decide)) (by rfl) (ai_cons (ei_t1 call_tuple_of ad_tuple (by rfl) M.tuple (by decide +kernel) (eb_var (pv 14))) ai_nil)))
    (bi_cons (si_if (ti_pw (wi_or (ti_cmp (op_neD hr.units) ad_ne (eb_var (pv 15)) (eb (ei_ix (eb (ei_list (ai_cons (ei_tuple (ai_cons ei_int (ai_cons (ei_un un_neg ad_neg (eb ei_int)) ai_nil))) (ai_cons (ei_tuple (ai_cons ei_int (ai_cons ei_int ai_nil))) ai_nil)))) (eb (ei_t1 call_int1 ad_int (by rfl) M.int (by decide +kernel) (eb (ei_cmp (op_eqD hr.units) ad_eq (eb_var (pv 12)) (eb_var (pv 13)) (nomark _))))))) (nomark _)) (wi_or1 (ti_cmp (op_neD hr.units) ad_ne (eb (ei_call C_law_told (hr.mono (by decide)) (by rfl) (ai_cons (ei_var (pv 5)) ai_nil))) (eb (ei_tuple (ai_cons (ei_var (pv 2)) (ai_cons (ei_bin op_sub ad_sub (eb ei_int) (eb (ei_bin op_mulX ad_mul (eb ei_int) (eb (ei_bin op_mod ad_mod (eb (ei_bin op_sub ad_sub (eb_var (pv 2)) (eb ei_int))) (eb ei_int)))))) ai_nil)))) (nomark _)))))
    (bi_one (si_ret ei_bl))
    bi_nil)
    (bi_one (si_ret (ei_and (ei_cmp (op_eqD hr.units) ad_eq (eb (ei_call C_law_told (hr.mono (by decide)) (by rfl) (ai_cons (ei_tuple (ai_cons ei_int (ai_cons ei_int (ai_cons ei_int (ai_cons ei_int (ai_cons ei_int ai_nil)))))) ai_nil))) (eb (ei_tuple (ai_cons ei_int (ai_cons (ei_un un_neg ad_neg (eb ei_int)) ai_nil)))) (nomark _)) (ei_and (ei_cmp (op_eqD hr.units) ad_eq (eb (ei_call C_law_told (hr.mono (by decide)) (by rfl) (ai_cons (ei_tuple (ai_cons ei_int ai_nil)) ai_nil))) (eb (ei_tuple (ai_cons ei_int (ai_cons ei_int ai_nil)))) (nomark _)) (ei_one (ei_cmp (op_eqD hr.units) ad_eq (eb (ei_call C_law_told (hr.mono (by decide)) (by rfl) (ai_cons (ei_tuple (ai_cons ei_int (ai_cons ei_int (ai_cons ei_int ai_nil)))) ai_nil))) (eb (ei_tuple (ai_cons ei_int (ai_cons ei_int ai_nil)))) (nomark _)))))))))))))))))))
end
set_option maxHeartbeats 4000000 in
theorem fn_p_law {P : Program} {w : World} {K : PySem.W.Frag} {mg : Str → Option Value} {base : Heap} {f : Addr} {fd : FuncData} (Fu : L2.Fun K "law" "law" s_p_law f fd) (M : Bl mg) (C_law_draws : Dn P w K mg base 1 "_law_draws" F_law_draws true) (C_law_turning : Dn P w K mg base 2 "_law_turning" F_law_turning true) (C_law_then : Dn P w K mg base 1 "_law_then" F_law_then true) (C_law_rest : Dn P w K mg base 1 "_law_rest" F_law_rest true) (C_law_moved : Dn P w K mg base 1 "_law_moved" F_law_moved true) (C_law_told : Dn P w K mg base 5 "_law_told" F_law_told true) (C_law_of_loops : Dn P w K mg base 2 "_law_of_loops" F_law_of_loops true) : FnOk P w K mg base CX0 6 f fd ["script"] (spF K F_p_law true) :=
  fn_ok (N := ["script", "draws", "n", "h", "looped", "ring", "point", "one", "other", "first", "second", "both", "i", "j", "swap", "told"]) Fu sc_p_law fun cdv A outer s H E hr =>
    (bi_cons (si_set (i := 1) sc_p_law.nd rfl (by first | exact .inl rfl | exact .inr rfl) (ei_call C_law_draws (hr.mono (by decide)) (by rfl) (ai_cons (ei_var (pv 0)) (ai_cons ei_int ai_nil))))
    (bi_cons (si_set (i := 2) sc_p_law.nd rfl (by first | exact .inl rfl | exact .inr rfl) (ei_bin op_addX ad_add (eb ei_int) (eb (ei_bin op_mod ad_mod (eb (ei_ix (eb_var (pv 1)) (eb ei_int))) (eb ei_int)))))
    (bi_cons (si_if (ti_cmp (op_eqD hr.units) ad_eq (eb (ei_bin op_mod ad_mod (eb (ei_ix (eb_var (pv 1)) (eb ei_int))) (eb ei_int))) (eb ei_int) (nomark _))
    (bi_one (si_set (i := 2) sc_p_law.nd rfl (by first | exact .inl rfl | exact .inr rfl) ei_int))
    bi_nil)
    (bi_cons (si_set (i := 3) sc_p_law.nd rfl (by first | exact .inl rfl | exact .inr rfl) (ei_call C_law_turning (hr.mono (by decide)) (by rfl) (ai_cons (ei_var (pv 1)) (ai_cons ei_int (ai_cons (ei_var (pv 2)) ai_nil)))))
    (bi_cons (si_set (i := 4) sc_p_law.nd rfl (by first | exact .inl rfl | exact .inr rfl) (ei_call C_law_of_loops (hr.mono (by decide)) (by rfl) (ai_cons (ei_var (pv 1)) (ai_cons ei_int (ai_cons (ei_var (pv 2)) ai_nil)))))
    (bi_cons (si_set (i := 5) sc_p_law.nd rfl (by first | exact .inl rfl | exact .inr rfl) (ei_t1 call_tuple_of ad_tuple (by rfl) M.tuple (by decide +kernel) (eb (ei_lc (s := _) rfl sc_p_law.nd (ii_rg1 (by rfl) M.range (eb_var (pv 2))) (blkOk_by (own := [("point", 6)]) (by show blkC ["script", "draws", "n", "h", "looped", "ring", "point", "one", "other", "first", "second", "both", "i", "j", "swap", "told"] (defScope s_p_law) _ _ = true; decide +kernel)) (fun _ _ _ _ _ => (pg_name (i := 6) sc_p_law.nd rfl (by first | exact .inl rfl | exact .inr rfl))) (tgv_nm 6) (by decide) (fun _ _ _ _ _ => tsi_nil) (fun _ _ _ _ _ => (ei_bin op_mod ad_mod (eb (ei_bin op_addX ad_add (eb_var (pv 6)) (eb ei_int))) (eb_var (pv 2))))))))
    (bi_cons (si_for rfl (ii_e (ei_list (ai_cons (ei_tuple (ai_cons (ei_var (pv 3)) (ai_cons (ei_call C_law_turning (hr.mono (by decide)) (by rfl) (ai_cons (ei_var (pv 1)) (ai_cons ei_int (ai_cons (ei_var (pv 2)) ai_nil)))) ai_nil))) (ai_cons (ei_tuple (ai_cons (ei_var (pv 4)) (ai_cons (ei_var (pv 3)) ai_nil))) (ai_cons (ei_tuple (ai_cons (ei_var (pv 5)) (ai_cons (ei_var (pv 4)) ai_nil))) (ai_cons (ei_tuple (ai_cons (ei_call C_law_rest (hr.mono (by decide)) (by rfl) (ai_cons (ei_var (pv 2)) ai_nil)) (ai_cons (ei_var (pv 3)) ai_nil))) ai_nil)))))) (pg_tup rfl (pgs_cons (pg_name (i := 7) sc_p_law.nd rfl (by first | exact .inl rfl | exact .inr rfl)) (pgs_cons (pg_name (i := 8) sc_p_law.nd rfl (by first | exact .inl rfl | exact .inr rfl)) pgs_nil))) (tgv_tp [7, 8])
    (bi_cons (si_par3 (i := 9) (j := 10) (l := 11) rfl sc_p_law.nd rfl rfl rfl (by decide) (by decide) (by decide) rfl rfl rfl (ai_cons (ei_call C_law_told (hr.mono (by decide)) (by rfl) (ai_cons (ei_var (pv 7)) ai_nil)) (ai_cons (ei_call C_law_told (hr.mono (by decide)) (by rfl) (ai_cons (ei_var (pv 8)) ai_nil)) (ai_cons (ei_call C_law_told (hr.mono (by decide)) (by rfl) (ai_cons (ei_call C_law_then (hr.mono (by decide)) (by rfl) (ai_cons (ei_var (pv 7)) (ai_cons (ei_var (pv 8)) ai_nil))) ai_nil)) ai_nil))) (by rfl))
    (bi_one (si_if (ti_pw (wi_or (ti_cmp op_isN ad_isN (eb_var (pv 9)) (eb ei_non) (nomark _)) (wi_or (ti_cmp op_isN ad_isN (eb_var (pv 10)) (eb ei_non) (nomark _)) (wi_or (ti_cmp op_isN ad_isN (eb_var (pv 11)) (eb ei_non) (nomark _)) (wi_or (ti_cmp (op_neD hr.units) ad_ne (eb (ei_ix (eb_var (pv 11)) (eb ei_int))) (eb (ei_bin op_mulX ad_mul (eb (ei_ix (eb_var (pv 9)) (eb ei_int))) (eb (ei_ix (eb_var (pv 10)) (eb ei_int))))) (nomark _)) (wi_or1 (ti_cmp (op_neD hr.units) ad_ne (eb (ei_call C_law_told (hr.mono (by decide)) (by rfl) (ai_cons (ei_call C_law_moved (hr.mono (by decide)) (by rfl) (ai_cons (ei_var (pv 7)) (ai_cons (ei_var (pv 3)) ai_nil))) ai_nil))) (eb_var (pv 9)) (nomark _))))))))
    (bi_one (si_ret ei_bl))
    bi_nil))) PassesOwn.never)
    (bi_cons (si_par (i := 12) (j := 13) rfl sc_p_law.nd rfl rfl (by decide) rfl rfl (ai_cons (ei_bin op_mod ad_mod (eb (ei_ix (eb_var (pv 1)) (eb ei_int))) (eb_var (pv 2))) (ai_cons (ei_bin op_mod ad_mod (eb (ei_ix (eb_var (pv 1)) (eb ei_int))) (eb_var (pv 2))) ai_nil)) (by rfl))
    (bi_cons (si_set (i := 14) sc_p_law.nd rfl (by first | exact .inl rfl | exact .inr rfl) (ei_t1 call_list_of ad_list (by rfl) M.list (by decide +kernel) (eb (ei_call C_law_rest (hr.mono (by decide)) (by rfl) (ai_cons (ei_var (pv 2)) ai_nil)))))
    (bi_cons (si_swp rfl (ei_tuple (ai_cons (ei_var (pv 13)) (ai_cons (ei_var (pv 12)) ai_nil))) (pv 14) (eb_var (pv 12)) (pv 14) (eb_var (pv 13)))
    (bi_cons (si_set (i := 15) sc_p_law.nd rfl (by first | exact .inl rfl | exact .inr rfl) (ei_call C_law_told (hr.mono (by decide)) (by rfl) (ai_cons (ei_t1 call_tuple_of ad_tuple (by rfl) M.tuple (by decide +kernel) (eb_var (pv 14))) ai_nil)))
    (bi_cons (si_if (ti_pw (wi_or (ti_cmp (op_neD hr.units) ad_ne (eb_var (pv 15)) (eb (ei_ix (eb (ei_list (ai_cons (ei_tuple (ai_cons ei_int (ai_cons (ei_un un_neg ad_neg (eb ei_int)) ai_nil))) (ai_cons (ei_tuple (ai_cons ei_int (ai_cons ei_int ai_nil))) ai_nil)))) (eb (ei_t1 call_int1 ad_int (by rfl) M.int (by decide +kernel) (eb (ei_cmp (op_eqD hr.units) ad_eq (eb_var (pv 12)) (eb_var (pv 13)) (nomark _))))))) (nomark _)) (wi_or1 (ti_cmp (op_neD hr.units) ad_ne (eb (ei_call C_law_told (hr.mono (by decide)) (by rfl) (ai_cons (ei_var (pv 5)) ai_nil))) (eb (ei_tuple (ai_cons (ei_var (pv 2)) (ai_cons (ei_bin op_sub ad_sub (eb ei_int) (eb (ei_bin op_mulX ad_mul (eb ei_int) (eb (ei_bin op_mod ad_mod (eb (ei_bin op_sub ad_sub (eb_var (pv 2)) (eb ei_int))) (eb ei_int)))))) ai_nil)))) (nomark _)))))
    (bi_one (si_ret ei_bl))
    bi_nil)
    (bi_one (si_ret (ei_and (ei_cmp (op_eqD hr.units) ad_eq (eb (ei_call C_law_told (hr.mono (by decide)) (by rfl) (ai_cons (ei_tuple (ai_cons ei_int (ai_cons ei_int (ai_cons ei_int (ai_cons ei_int (ai_cons ei_int ai_nil)))))) ai_nil))) (eb (ei_tuple (ai_cons ei_int (ai_cons (ei_un un_neg ad_neg (eb ei_int)) ai_nil)))) (nomark _)) (ei_and (ei_cmp (op_eqD hr.units) ad_eq (eb (ei_call C_law_told (hr.mono (by decide)) (by rfl) (ai_cons (ei_tuple (ai_cons ei_int ai_nil)) ai_nil))) (eb (ei_tuple (ai_cons ei_int (ai_cons ei_int ai_nil)))) (nomark _)) (ei_one (ei_cmp (op_eqD hr.units) ad_eq (eb (ei_call C_law_told (hr.mono (by decide)) (by rfl) (ai_cons (ei_tuple (ai_cons ei_int (ai_cons ei_int (ai_cons ei_int ai_nil)))) ai_nil))) (eb (ei_tuple (ai_cons ei_int (ai_cons ei_int ai_nil)))) (nomark _)))))))))))))))))))
def spLaw (K : PySem.W.Frag) : Sp := fun vs H Q _ => ∃ (a : Addr) (ns : List Int), vs = [.ref a] ∧ ns.length ≤ 63 ∧ ScrL K H a (ns.map V.int) ∧ ∀ H', Q (.bl true) H'
set_option maxHeartbeats 4000000 in
theorem all_mk {l : PySem.W.OpenLaw} {w : World} {K : PySem.W.Frag} {h : Heap} {mg : Str → Option Value} {fa : Addr} (X : K.In h) (G : h.Ns mainGlobals mg) (hfa : mg "law" = some (.ref fa))
    {f0 : Addr} {od0 an0 : Option Addr} {sl0 : Array (Option Value)} {oc0 kV0 dc0 pm0 cd0 ct0 : Value}
    (a0 : PySem.W.nsIn K mainGlobals "walk_from" = some (some (.ref f0))) (l0 : K.lookup f0 = some ⟨oc0, od0, .func (PySem.W.fnOf "walk_from" "walk_from" (defArgs s_p_walk_from) (defBody s_p_walk_from) (defScope s_p_walk_from) .none kV0 dc0 pm0 an0 cd0 ct0), sl0⟩) (c0 : PySem.W.codeIn K cd0 "walk_from" = true) (k0 : PySem.W.keepIn K (.ref f0) = true)
    {f1 : Addr} {od1 an1 : Option Addr} {sl1 : Array (Option Value)} {oc1 kV1 dc1 pm1 cd1 ct1 : Value}
    (a1 : PySem.W.nsIn K mainGlobals "loop_behind" = some (some (.ref f1))) (l1 : K.lookup f1 = some ⟨oc1, od1, .func (PySem.W.fnOf "loop_behind" "loop_behind" (defArgs s_p_loop_behind) (defBody s_p_loop_behind) (defScope s_p_loop_behind) .none kV1 dc1 pm1 an1 cd1 ct1), sl1⟩) (c1 : PySem.W.codeIn K cd1 "loop_behind" = true) (k1 : PySem.W.keepIn K (.ref f1) = true)
    {f2 : Addr} {od2 an2 : Option Addr} {sl2 : Array (Option Value)} {oc2 kV2 dc2 pm2 cd2 ct2 : Value}
    (a2 : PySem.W.nsIn K mainGlobals "loops" = some (some (.ref f2))) (l2 : K.lookup f2 = some ⟨oc2, od2, .func (PySem.W.fnOf "loops" "loops" (defArgs s_p_loops) (defBody s_p_loops) (defScope s_p_loops) .none kV2 dc2 pm2 an2 cd2 ct2), sl2⟩) (c2 : PySem.W.codeIn K cd2 "loops" = true) (k2 : PySem.W.keepIn K (.ref f2) = true)
    {f3 : Addr} {od3 an3 : Option Addr} {sl3 : Array (Option Value)} {oc3 kV3 dc3 pm3 cd3 ct3 : Value}
    (a3 : PySem.W.nsIn K mainGlobals "common_part" = some (some (.ref f3))) (l3 : K.lookup f3 = some ⟨oc3, od3, .func (PySem.W.fnOf "common_part" "common_part" (defArgs s_p_common_part) (defBody s_p_common_part) (defScope s_p_common_part) .none kV3 dc3 pm3 an3 cd3 ct3), sl3⟩) (c3 : PySem.W.codeIn K cd3 "common_part" = true) (k3 : PySem.W.keepIn K (.ref f3) = true)
    {f4 : Addr} {od4 an4 : Option Addr} {sl4 : Array (Option Value)} {oc4 kV4 dc4 pm4 cd4 ct4 : Value}
    (a4 : PySem.W.nsIn K mainGlobals "order_of" = some (some (.ref f4))) (l4 : K.lookup f4 = some ⟨oc4, od4, .func (PySem.W.fnOf "order_of" "order_of" (defArgs s_p_order_of) (defBody s_p_order_of) (defScope s_p_order_of) .none kV4 dc4 pm4 an4 cd4 ct4), sl4⟩) (c4 : PySem.W.codeIn K cd4 "order_of" = true) (k4 : PySem.W.keepIn K (.ref f4) = true)
    {f5 : Addr} {od5 an5 : Option Addr} {sl5 : Array (Option Value)} {oc5 kV5 dc5 pm5 cd5 ct5 : Value}
    (a5 : PySem.W.nsIn K mainGlobals "sign_of" = some (some (.ref f5))) (l5 : K.lookup f5 = some ⟨oc5, od5, .func (PySem.W.fnOf "sign_of" "sign_of" (defArgs s_p_sign_of) (defBody s_p_sign_of) (defScope s_p_sign_of) .none kV5 dc5 pm5 an5 cd5 ct5), sl5⟩) (c5 : PySem.W.codeIn K cd5 "sign_of" = true) (k5 : PySem.W.keepIn K (.ref f5) = true)
    {f6 : Addr} {od6 an6 : Option Addr} {sl6 : Array (Option Value)} {oc6 kV6 dc6 pm6 cd6 ct6 : Value}
    (a6 : PySem.W.nsIn K mainGlobals "_law_draws" = some (some (.ref f6))) (l6 : K.lookup f6 = some ⟨oc6, od6, .func (PySem.W.fnOf "_law_draws" "_law_draws" (defArgs s_law_draws) (defBody s_law_draws) (defScope s_law_draws) .none kV6 dc6 pm6 an6 cd6 ct6), sl6⟩) (c6 : PySem.W.codeIn K cd6 "_law_draws" = true) (k6 : PySem.W.keepIn K (.ref f6) = true)
    {f7 : Addr} {od7 an7 : Option Addr} {sl7 : Array (Option Value)} {oc7 kV7 dc7 pm7 cd7 ct7 : Value}
    (a7 : PySem.W.nsIn K mainGlobals "_law_cell" = some (some (.ref f7))) (l7 : K.lookup f7 = some ⟨oc7, od7, .func (PySem.W.fnOf "_law_cell" "_law_cell" (defArgs s_law_cell) (defBody s_law_cell) (defScope s_law_cell) .none kV7 dc7 pm7 an7 cd7 ct7), sl7⟩) (c7 : PySem.W.codeIn K cd7 "_law_cell" = true) (k7 : PySem.W.keepIn K (.ref f7) = true)
    {f8 : Addr} {od8 an8 : Option Addr} {sl8 : Array (Option Value)} {oc8 kV8 dc8 pm8 cd8 ct8 : Value}
    (a8 : PySem.W.nsIn K mainGlobals "_law_is_number" = some (some (.ref f8))) (l8 : K.lookup f8 = some ⟨oc8, od8, .func (PySem.W.fnOf "_law_is_number" "_law_is_number" (defArgs s_law_is_number) (defBody s_law_is_number) (defScope s_law_is_number) .none kV8 dc8 pm8 an8 cd8 ct8), sl8⟩) (c8 : PySem.W.codeIn K cd8 "_law_is_number" = true) (k8 : PySem.W.keepIn K (.ref f8) = true)
    {f9 : Addr} {od9 an9 : Option Addr} {sl9 : Array (Option Value)} {oc9 kV9 dc9 pm9 cd9 ct9 : Value}
    (a9 : PySem.W.nsIn K mainGlobals "_law_turning" = some (some (.ref f9))) (l9 : K.lookup f9 = some ⟨oc9, od9, .func (PySem.W.fnOf "_law_turning" "_law_turning" (defArgs s_law_turning) (defBody s_law_turning) (defScope s_law_turning) .none kV9 dc9 pm9 an9 cd9 ct9), sl9⟩) (c9 : PySem.W.codeIn K cd9 "_law_turning" = true) (k9 : PySem.W.keepIn K (.ref f9) = true)
    {f10 : Addr} {od10 an10 : Option Addr} {sl10 : Array (Option Value)} {oc10 kV10 dc10 pm10 cd10 ct10 : Value}
    (a10 : PySem.W.nsIn K mainGlobals "_law_then" = some (some (.ref f10))) (l10 : K.lookup f10 = some ⟨oc10, od10, .func (PySem.W.fnOf "_law_then" "_law_then" (defArgs s_law_then) (defBody s_law_then) (defScope s_law_then) .none kV10 dc10 pm10 an10 cd10 ct10), sl10⟩) (c10 : PySem.W.codeIn K cd10 "_law_then" = true) (k10 : PySem.W.keepIn K (.ref f10) = true)
    {f11 : Addr} {od11 an11 : Option Addr} {sl11 : Array (Option Value)} {oc11 kV11 dc11 pm11 cd11 ct11 : Value}
    (a11 : PySem.W.nsIn K mainGlobals "_law_back" = some (some (.ref f11))) (l11 : K.lookup f11 = some ⟨oc11, od11, .func (PySem.W.fnOf "_law_back" "_law_back" (defArgs s_law_back) (defBody s_law_back) (defScope s_law_back) .none kV11 dc11 pm11 an11 cd11 ct11), sl11⟩) (c11 : PySem.W.codeIn K cd11 "_law_back" = true) (k11 : PySem.W.keepIn K (.ref f11) = true)
    {f12 : Addr} {od12 an12 : Option Addr} {sl12 : Array (Option Value)} {oc12 kV12 dc12 pm12 cd12 ct12 : Value}
    (a12 : PySem.W.nsIn K mainGlobals "_law_rest" = some (some (.ref f12))) (l12 : K.lookup f12 = some ⟨oc12, od12, .func (PySem.W.fnOf "_law_rest" "_law_rest" (defArgs s_law_rest) (defBody s_law_rest) (defScope s_law_rest) .none kV12 dc12 pm12 an12 cd12 ct12), sl12⟩) (c12 : PySem.W.codeIn K cd12 "_law_rest" = true) (k12 : PySem.W.keepIn K (.ref f12) = true)
    {f13 : Addr} {od13 an13 : Option Addr} {sl13 : Array (Option Value)} {oc13 kV13 dc13 pm13 cd13 ct13 : Value}
    (a13 : PySem.W.nsIn K mainGlobals "_law_on_loops" = some (some (.ref f13))) (l13 : K.lookup f13 = some ⟨oc13, od13, .func (PySem.W.fnOf "_law_on_loops" "_law_on_loops" (defArgs s_law_on_loops) (defBody s_law_on_loops) (defScope s_law_on_loops) .none kV13 dc13 pm13 an13 cd13 ct13), sl13⟩) (c13 : PySem.W.codeIn K cd13 "_law_on_loops" = true) (k13 : PySem.W.keepIn K (.ref f13) = true)
    {f14 : Addr} {od14 an14 : Option Addr} {sl14 : Array (Option Value)} {oc14 kV14 dc14 pm14 cd14 ct14 : Value}
    (a14 : PySem.W.nsIn K mainGlobals "_law_loops" = some (some (.ref f14))) (l14 : K.lookup f14 = some ⟨oc14, od14, .func (PySem.W.fnOf "_law_loops" "_law_loops" (defArgs s_law_loops) (defBody s_law_loops) (defScope s_law_loops) .none kV14 dc14 pm14 an14 cd14 ct14), sl14⟩) (c14 : PySem.W.codeIn K cd14 "_law_loops" = true) (k14 : PySem.W.keepIn K (.ref f14) = true)
    {f15 : Addr} {od15 an15 : Option Addr} {sl15 : Array (Option Value)} {oc15 kV15 dc15 pm15 cd15 ct15 : Value}
    (a15 : PySem.W.nsIn K mainGlobals "_law_moved" = some (some (.ref f15))) (l15 : K.lookup f15 = some ⟨oc15, od15, .func (PySem.W.fnOf "_law_moved" "_law_moved" (defArgs s_law_moved) (defBody s_law_moved) (defScope s_law_moved) .none kV15 dc15 pm15 an15 cd15 ct15), sl15⟩) (c15 : PySem.W.codeIn K cd15 "_law_moved" = true) (k15 : PySem.W.keepIn K (.ref f15) = true)
    {f16 : Addr} {od16 an16 : Option Addr} {sl16 : Array (Option Value)} {oc16 kV16 dc16 pm16 cd16 ct16 : Value}
    (a16 : PySem.W.nsIn K mainGlobals "_law_common" = some (some (.ref f16))) (l16 : K.lookup f16 = some ⟨oc16, od16, .func (PySem.W.fnOf "_law_common" "_law_common" (defArgs s_law_common) (defBody s_law_common) (defScope s_law_common) .none kV16 dc16 pm16 an16 cd16 ct16), sl16⟩) (c16 : PySem.W.codeIn K cd16 "_law_common" = true) (k16 : PySem.W.keepIn K (.ref f16) = true)
    {f17 : Addr} {od17 an17 : Option Addr} {sl17 : Array (Option Value)} {oc17 kV17 dc17 pm17 cd17 ct17 : Value}
    (a17 : PySem.W.nsIn K mainGlobals "_law_order" = some (some (.ref f17))) (l17 : K.lookup f17 = some ⟨oc17, od17, .func (PySem.W.fnOf "_law_order" "_law_order" (defArgs s_law_order) (defBody s_law_order) (defScope s_law_order) .none kV17 dc17 pm17 an17 cd17 ct17), sl17⟩) (c17 : PySem.W.codeIn K cd17 "_law_order" = true) (k17 : PySem.W.keepIn K (.ref f17) = true)
    {f18 : Addr} {od18 an18 : Option Addr} {sl18 : Array (Option Value)} {oc18 kV18 dc18 pm18 cd18 ct18 : Value}
    (a18 : PySem.W.nsIn K mainGlobals "_law_order_walked" = some (some (.ref f18))) (l18 : K.lookup f18 = some ⟨oc18, od18, .func (PySem.W.fnOf "_law_order_walked" "_law_order_walked" (defArgs s_law_order_walked) (defBody s_law_order_walked) (defScope s_law_order_walked) .none kV18 dc18 pm18 an18 cd18 ct18), sl18⟩) (c18 : PySem.W.codeIn K cd18 "_law_order_walked" = true) (k18 : PySem.W.keepIn K (.ref f18) = true)
    {f19 : Addr} {od19 an19 : Option Addr} {sl19 : Array (Option Value)} {oc19 kV19 dc19 pm19 cd19 ct19 : Value}
    (a19 : PySem.W.nsIn K mainGlobals "_law_sign" = some (some (.ref f19))) (l19 : K.lookup f19 = some ⟨oc19, od19, .func (PySem.W.fnOf "_law_sign" "_law_sign" (defArgs s_law_sign) (defBody s_law_sign) (defScope s_law_sign) .none kV19 dc19 pm19 an19 cd19 ct19), sl19⟩) (c19 : PySem.W.codeIn K cd19 "_law_sign" = true) (k19 : PySem.W.keepIn K (.ref f19) = true)
    {f20 : Addr} {od20 an20 : Option Addr} {sl20 : Array (Option Value)} {oc20 kV20 dc20 pm20 cd20 ct20 : Value}
    (a20 : PySem.W.nsIn K mainGlobals "_law_told" = some (some (.ref f20))) (l20 : K.lookup f20 = some ⟨oc20, od20, .func (PySem.W.fnOf "_law_told" "_law_told" (defArgs s_law_told) (defBody s_law_told) (defScope s_law_told) .none kV20 dc20 pm20 an20 cd20 ct20), sl20⟩) (c20 : PySem.W.codeIn K cd20 "_law_told" = true) (k20 : PySem.W.keepIn K (.ref f20) = true)
    {f21 : Addr} {od21 an21 : Option Addr} {sl21 : Array (Option Value)} {oc21 kV21 dc21 pm21 cd21 ct21 : Value}
    (a21 : PySem.W.nsIn K mainGlobals "_law_of_loops" = some (some (.ref f21))) (l21 : K.lookup f21 = some ⟨oc21, od21, .func (PySem.W.fnOf "_law_of_loops" "_law_of_loops" (defArgs s_law_of_loops) (defBody s_law_of_loops) (defScope s_law_of_loops) .none kV21 dc21 pm21 an21 cd21 ct21), sl21⟩) (c21 : PySem.W.codeIn K cd21 "_law_of_loops" = true) (k21 : PySem.W.keepIn K (.ref f21) = true)
    {f22 : Addr} {od22 an22 : Option Addr} {sl22 : Array (Option Value)} {oc22 kV22 dc22 pm22 cd22 ct22 : Value}
    (a22 : PySem.W.nsIn K mainGlobals "law" = some (some (.ref f22))) (l22 : K.lookup f22 = some ⟨oc22, od22, .func (PySem.W.fnOf "law" "law" (defArgs s_p_law) (defBody s_p_law) (defScope s_p_law) .none kV22 dc22 pm22 an22 cd22 ct22), sl22⟩) (c22 : PySem.W.codeIn K cd22 "law" = true) (k22 : PySem.W.keepIn K (.ref f22) = true)
    (z_abs : PySem.W.nsIn K mainGlobals "abs" = some none)
    (z_bool : PySem.W.nsIn K mainGlobals "bool" = some none)
    (z_int : PySem.W.nsIn K mainGlobals "int" = some none)
    (z_isinstance : PySem.W.nsIn K mainGlobals "isinstance" = some none)
    (z_len : PySem.W.nsIn K mainGlobals "len" = some none)
    (z_list : PySem.W.nsIn K mainGlobals "list" = some none)
    (z_min : PySem.W.nsIn K mainGlobals "min" = some none)
    (z_range : PySem.W.nsIn K mainGlobals "range" = some none)
    (z_set : PySem.W.nsIn K mainGlobals "set" = some none)
    (z_sorted : PySem.W.nsIn K mainGlobals "sorted" = some none)
    (z_tuple : PySem.W.nsIn K mainGlobals "tuple" = some none)
    : ∃ fd : FuncData, (∀ (s : Shared) (v : Value), BindsTo s fd ⟨[v], []⟩ [("script", v)]) ∧ ∀ base : Heap, K.In base → base.Ns mainGlobals mg → FnOk l.prog w K mg base CX0 6 fa fd ["script"] (spLaw K) := by
  have e := hfa.symm.trans (PySem.W.mg_of X G a22)
  cases e
  have M : Bl mg := ⟨PySem.W.mg_none_of X G z_abs, PySem.W.mg_none_of X G z_bool, PySem.W.mg_none_of X G z_int, PySem.W.mg_none_of X G z_isinstance, PySem.W.mg_none_of X G z_len, PySem.W.mg_none_of X G z_list, PySem.W.mg_none_of X G z_min, PySem.W.mg_none_of X G z_range, PySem.W.mg_none_of X G z_set, PySem.W.mg_none_of X G z_sorted, PySem.W.mg_none_of X G z_tuple⟩
  have F0 := fun_mk (st := s_p_walk_from) l0 c0 k0
  have b0 := F0.binds (ps := ["mapping", "start"]) fun _ _ _ _ _ _ us hl => match us, hl with | [_, _], _ => rfl
  have F1 := fun_mk (st := s_p_loop_behind) l1 c1 k1
  have b1 := F1.binds (ps := ["mapping", "point"]) fun _ _ _ _ _ _ us hl => match us, hl with | [_, _], _ => rfl
  have F2 := fun_mk (st := s_p_loops) l2 c2 k2
  have b2 := F2.binds (ps := ["mapping"]) fun _ _ _ _ _ _ us hl => match us, hl with | [_], _ => rfl
  have F3 := fun_mk (st := s_p_common_part) l3 c3 k3
  have b3 := F3.binds (ps := ["first", "second"]) fun _ _ _ _ _ _ us hl => match us, hl with | [_, _], _ => rfl
  have F4 := fun_mk (st := s_p_order_of) l4 c4 k4
  have b4 := F4.binds (ps := ["mapping"]) fun _ _ _ _ _ _ us hl => match us, hl with | [_], _ => rfl
  have F5 := fun_mk (st := s_p_sign_of) l5 c5 k5
  have b5 := F5.binds (ps := ["mapping"]) fun _ _ _ _ _ _ us hl => match us, hl with | [_], _ => rfl
  have F6 := fun_mk (st := s_law_draws) l6 c6 k6
  have b6 := F6.binds (ps := ["script", "many"]) fun _ _ _ _ _ _ us hl => match us, hl with | [_, _], _ => rfl
  have F7 := fun_mk (st := s_law_cell) l7 c7 k7
  have b7 := F7.binds (ps := ["draws", "k"]) fun _ _ _ _ _ _ us hl => match us, hl with | [_, _], _ => rfl
  have F8 := fun_mk (st := s_law_is_number) l8 c8 k8
  have b8 := F8.binds (ps := ["value"]) fun _ _ _ _ _ _ us hl => match us, hl with | [_], _ => rfl
  have F9 := fun_mk (st := s_law_turning) l9 c9 k9
  have b9 := F9.binds (ps := ["draws", "at", "n"]) fun _ _ _ _ _ _ us hl => match us, hl with | [_, _, _], _ => rfl
  have F10 := fun_mk (st := s_law_then) l10 c10 k10
  have b10 := F10.binds (ps := ["first", "second"]) fun _ _ _ _ _ _ us hl => match us, hl with | [_, _], _ => rfl
  have F11 := fun_mk (st := s_law_back) l11 c11 k11
  have b11 := F11.binds (ps := ["mapping"]) fun _ _ _ _ _ _ us hl => match us, hl with | [_], _ => rfl
  have F12 := fun_mk (st := s_law_rest) l12 c12 k12
  have b12 := F12.binds (ps := ["n"]) fun _ _ _ _ _ _ us hl => match us, hl with | [_], _ => rfl
  have F13 := fun_mk (st := s_law_on_loops) l13 c13 k13
  have b13 := F13.binds (ps := ["mapping"]) fun _ _ _ _ _ _ us hl => match us, hl with | [_], _ => rfl
  have F14 := fun_mk (st := s_law_loops) l14 c14 k14
  have b14 := F14.binds (ps := ["mapping"]) fun _ _ _ _ _ _ us hl => match us, hl with | [_], _ => rfl
  have F15 := fun_mk (st := s_law_moved) l15 c15 k15
  have b15 := F15.binds (ps := ["mapping", "h"]) fun _ _ _ _ _ _ us hl => match us, hl with | [_, _], _ => rfl
  have F16 := fun_mk (st := s_law_common) l16 c16 k16
  have b16 := F16.binds (ps := ["first", "second"]) fun _ _ _ _ _ _ us hl => match us, hl with | [_, _], _ => rfl
  have F17 := fun_mk (st := s_law_order) l17 c17 k17
  have b17 := F17.binds (ps := ["mapping"]) fun _ _ _ _ _ _ us hl => match us, hl with | [_], _ => rfl
  have F18 := fun_mk (st := s_law_order_walked) l18 c18 k18
  have b18 := F18.binds (ps := ["mapping"]) fun _ _ _ _ _ _ us hl => match us, hl with | [_], _ => rfl
  have F19 := fun_mk (st := s_law_sign) l19 c19 k19
  have b19 := F19.binds (ps := ["mapping"]) fun _ _ _ _ _ _ us hl => match us, hl with | [_], _ => rfl
  have F20 := fun_mk (st := s_law_told) l20 c20 k20
  have b20 := F20.binds (ps := ["mapping"]) fun _ _ _ _ _ _ us hl => match us, hl with | [_], _ => rfl
  have F21 := fun_mk (st := s_law_of_loops) l21 c21 k21
  have b21 := F21.binds (ps := ["draws", "at", "n"]) fun _ _ _ _ _ _ us hl => match us, hl with | [_, _, _], _ => rfl
  have F22 := fun_mk (st := s_p_law) l22 c22 k22
  have b22 := F22.binds (ps := ["script"]) fun _ _ _ _ _ _ us hl => match us, hl with | [_], _ => rfl
  refine ⟨PySem.W.fnOf "law" "law" (defArgs s_p_law) (defBody s_p_law) (defScope s_p_law) .none kV22 dc22 pm22 an22 cd22 ct22, fun s v => .of_eq rfl, fun base _ _ => ?_⟩
  have D_p_walk_from : Dn l.prog w K mg base 1 "walk_from" F_p_walk_from true := dn_p_walk_from F0 (PySem.W.mg_of X G a0) b0 M 
  have D_p_loop_behind : Dn l.prog w K mg base 2 "loop_behind" F_p_loop_behind true := dn_p_loop_behind F1 (PySem.W.mg_of X G a1) b1 M D_p_walk_from
  have D_p_loops : Dn l.prog w K mg base 3 "loops" F_p_loops true := dn_p_loops F2 (PySem.W.mg_of X G a2) b2 M D_p_loop_behind
  have D_p_common_part : Dn l.prog w K mg base 1 "common_part" F_p_common_part true := dn_p_common_part F3 (PySem.W.mg_of X G a3) b3 M 
  have D_p_order_of : Dn l.prog w K mg base 4 "order_of" F_p_order_of true := dn_p_order_of F4 (PySem.W.mg_of X G a4) b4 M D_p_loops D_p_common_part
  have D_p_sign_of : Dn l.prog w K mg base 1 "sign_of" F_p_sign_of true := dn_p_sign_of F5 (PySem.W.mg_of X G a5) b5 M 
  have D_law_draws : Dn l.prog w K mg base 1 "_law_draws" F_law_draws true := dn_law_draws F6 (PySem.W.mg_of X G a6) b6 M 
  have D_law_cell : Dn l.prog w K mg base 1 "_law_cell" F_law_cell false := dn_law_cell F7 (PySem.W.mg_of X G a7) b7 M 
  have D_law_is_number : Dn l.prog w K mg base 1 "_law_is_number" F_law_is_number true := dn_law_is_number F8 (PySem.W.mg_of X G a8) b8 M 
  have D_law_turning : Dn l.prog w K mg base 2 "_law_turning" F_law_turning true := dn_law_turning F9 (PySem.W.mg_of X G a9) b9 M D_law_cell
  have D_law_then : Dn l.prog w K mg base 1 "_law_then" F_law_then true := dn_law_then F10 (PySem.W.mg_of X G a10) b10 M 
  have D_law_back : Dn l.prog w K mg base 1 "_law_back" F_law_back true := dn_law_back F11 (PySem.W.mg_of X G a11) b11 M 
  have D_law_rest : Dn l.prog w K mg base 1 "_law_rest" F_law_rest true := dn_law_rest F12 (PySem.W.mg_of X G a12) b12 M 
  have D_law_on_loops : Dn l.prog w K mg base 1 "_law_on_loops" F_law_on_loops true := dn_law_on_loops F13 (PySem.W.mg_of X G a13) b13 M 
  have D_law_loops : Dn l.prog w K mg base 2 "_law_loops" F_law_loops true := dn_law_loops F14 (PySem.W.mg_of X G a14) b14 M D_law_on_loops
  have D_law_moved : Dn l.prog w K mg base 1 "_law_moved" F_law_moved true := dn_law_moved F15 (PySem.W.mg_of X G a15) b15 M 
  have D_law_common : Dn l.prog w K mg base 1 "_law_common" F_law_common true := dn_law_common F16 (PySem.W.mg_of X G a16) b16 M 
  have D_law_order : Dn l.prog w K mg base 3 "_law_order" F_law_order true := dn_law_order F17 (PySem.W.mg_of X G a17) b17 M D_law_loops D_law_common
  have D_law_order_walked : Dn l.prog w K mg base 2 "_law_order_walked" F_law_order_walked true := dn_law_order_walked F18 (PySem.W.mg_of X G a18) b18 M D_law_then D_law_rest
  have D_law_sign : Dn l.prog w K mg base 1 "_law_sign" F_law_sign true := dn_law_sign F19 (PySem.W.mg_of X G a19) b19 M 
  have D_law_told : Dn l.prog w K mg base 5 "_law_told" F_law_told true := dn_law_told F20 (PySem.W.mg_of X G a20) b20 M D_p_order_of D_p_sign_of D_law_is_number D_law_back D_law_loops D_law_order D_law_order_walked D_law_sign
  have D_law_of_loops : Dn l.prog w K mg base 2 "_law_of_loops" F_law_of_loops true := dn_law_of_loops F21 (PySem.W.mg_of X G a21) b21 M D_law_cell
  refine FnOk.imp (fn_p_law F22 M D_law_draws D_law_turning D_law_then D_law_rest D_law_moved D_law_told D_law_of_loops) fun vs H Q E ⟨a, ns, e1, e2, e3, e4⟩ => ?_
  exact ⟨fun _ => True, [.dict [(.none, .list (ns.map .int))]], .bool true, fun _ _ => trivial, by rw [e1]; exact .one (.scr e3), plain_law ns e2, fun v H' _ r => by have ev := (RpB.of r.1).bl; rw [ev]; exact e4 H'⟩
end PM
open PySem PySem.W PyProof.Rows
set_option maxHeartbeats 0 in
theorem PySem.Challenge.cw_pointmaps_k85_orders_and_signs_holds : PySem.Challenge.rw_pointmaps_k85_orders_and_signs.Holds := by
  w_on; o_law; k_head; (case hw => w_witness2)
  k_fill
  refine L2.walk_of (l := PySem.Challenge.rw_pointmaps_k85_orders_and_signs) (n := 63) (k := 6) (x := "script") (CX := fun _ => L2.CX0) (sp := fun w => PM.spLaw _) rfl (by decide) rfl ⟨rfl, by decide, by decide⟩ (fun w h Y => PySem.W.kIn_of Y) ?F (fun _ H a ns hl ho hS => ⟨a, ns, rfl, hl, PM.scr_of ho hS, fun _ => rfl⟩) (fun _ _ _ _ _ h => h)
  case F =>
    intro w mg fa h KX G hmg
    refine' PM.all_mk KX G hmg ?a0 ?l0 ?c0 ?k0 ?a1 ?l1 ?c1 ?k1 ?a2 ?l2 ?c2 ?k2 ?a3 ?l3 ?c3 ?k3 ?a4 ?l4 ?c4 ?k4 ?a5 ?l5 ?c5 ?k5 ?a6 ?l6 ?c6 ?k6 ?a7 ?l7 ?c7 ?k7 ?a8 ?l8 ?c8 ?k8 ?a9 ?l9 ?c9 ?k9 ?a10 ?l10 ?c10 ?k10 ?a11 ?l11 ?c11 ?k11 ?a12 ?l12 ?c12 ?k12 ?a13 ?l13 ?c13 ?k13 ?a14 ?l14 ?c14 ?k14 ?a15 ?l15 ?c15 ?k15 ?a16 ?l16 ?c16 ?k16 ?a17 ?l17 ?c17 ?k17 ?a18 ?l18 ?c18 ?k18 ?a19 ?l19 ?c19 ?k19 ?a20 ?l20 ?c20 ?k20 ?a21 ?l21 ?c21 ?k21 ?a22 ?l22 ?c22 ?k22 ?z_abs ?z_bool ?z_int ?z_isinstance ?z_len ?z_list ?z_min ?z_range ?z_set ?z_sorted ?z_tuple
    (case a0 => k_is); (case l0 => k_is); (case c0 => k_is); (case k0 => k_is); (case a1 => k_is); (case l1 => k_is); (case c1 => k_is); (case k1 => k_is)
    (case a2 => k_is); (case l2 => k_is); (case c2 => k_is); (case k2 => k_is); (case a3 => k_is); (case l3 => k_is); (case c3 => k_is); (case k3 => k_is)
    (case a4 => k_is); (case l4 => k_is); (case c4 => k_is); (case k4 => k_is); (case a5 => k_is); (case l5 => k_is); (case c5 => k_is); (case k5 => k_is)
    (case a6 => k_is); (case l6 => k_is); (case c6 => k_is); (case k6 => k_is); (case a7 => k_is); (case l7 => k_is); (case c7 => k_is); (case k7 => k_is)
    (case a8 => k_is); (case l8 => k_is); (case c8 => k_is); (case k8 => k_is); (case a9 => k_is); (case l9 => k_is); (case c9 => k_is); (case k9 => k_is)
    (case a10 => k_is); (case l10 => k_is); (case c10 => k_is); (case k10 => k_is); (case a11 => k_is); (case l11 => k_is); (case c11 => k_is); (case k11 => k_is)
    (case a12 => k_is); (case l12 => k_is); (case c12 => k_is); (case k12 => k_is); (case a13 => k_is); (case l13 => k_is); (case c13 => k_is); (case k13 => k_is)
    (case a14 => k_is); (case l14 => k_is); (case c14 => k_is); (case k14 => k_is); (case a15 => k_is); (case l15 => k_is); (case c15 => k_is); (case k15 => k_is)
    (case a16 => k_is); (case l16 => k_is); (case c16 => k_is); (case k16 => k_is); (case a17 => k_is); (case l17 => k_is); (case c17 => k_is); (case k17 => k_is)
    (case a18 => k_is); (case l18 => k_is); (case c18 => k_is); (case k18 => k_is); (case a19 => k_is); (case l19 => k_is); (case c19 => k_is); (case k19 => k_is)
    (case a20 => k_is); (case l20 => k_is); (case c20 => k_is); (case k20 => k_is); (case a21 => k_is); (case l21 => k_is); (case c21 => k_is); (case k21 => k_is)
    (case a22 => k_is); (case l22 => k_is); (case c22 => k_is); (case k22 => k_is); (case z_abs => k_is); (case z_bool => k_is); (case z_int => k_is); (case z_isinstance => k_is)
    (case z_len => k_is); (case z_list => k_is); (case z_min => k_is); (case z_range => k_is); (case z_set => k_is); (case z_sorted => k_is); (case z_tuple => k_is)
