import PyProof.Rows.All
import Wide.All
import OpenK.AllK
import Wide.FinOn
import HandS.ForMost
import HandS.ForExc
import HandS.Flow
import HandS.Style
import HandS.Conv
import HandS.IsInst
import HandS.CallSlots
import HandS.TryMany
import HandS.TupMul
import HandS.RevTup
import HandS.Strs
import HandS.SetFor
import HandS.DictComp
import HandS.Zip
import HandS.Rev
import HandS.NoneIn
import HandS.DictEq
import HandS.HeadHook4
import HandS.WordsDict
import HandS.Small
import HandS.More
import HandS.SortInts
import HandS.Deep
import HandS.Finally
import HandS.Defaults
import HandS.Exc
import HandS.ExcOwn
import HandS.Set
import PyProof.Rows.SortShellAny
import HandS.DeepEq
import HandS.Words
import KE.KStateDown
import HandS.Head0
import HandS.Head1
import HandS.Head2
import HandS.HeadEnd
import HandS.HeadHook1
import HandS.HeadHook2
import PySem.Challenge.RW_usecounts_k09_whole_counts_of_names
set_option Elab.async false
set_option linter.all false
set_option maxRecDepth 100000
set_option maxHeartbeats 2000000
/-! The generic layer, part 1: tree values, worlds, the relation to the abstract heap. -/
namespace U
open PySem PySem.Spec PyProof.Rows L2

/-- a value: tuples are trees, texts lists of codes; ref: a place of the own heap; scr: the script (a list that nobody changes) -/
inductive PV where
  | non | bl (b : Bool) | int (i : Int) | str (x : List Nat) | tup (xs : List PV) | ref (i : Nat) | scr (ns : List Int)
instance : Inhabited PV := ⟨.non⟩
mutual
def PV.beq : PV → PV → Bool
  | .non, .non => true
  | .bl a, .bl b => a == b
  | .int a, .int b => a == b
  | .str a, .str b => a == b
  | .tup a, .tup b => PV.beqs a b
  | .ref a, .ref b => a == b
  | .scr a, .scr b => a == b
  | _, _ => false
def PV.beqs : List PV → List PV → Bool
  | [], [] => true
  | a :: as, b :: bs => PV.beq a b && PV.beqs as bs
  | _, _ => false
end
mutual
theorem PV.beq_eq : ∀ {a b : PV}, PV.beq a b = true → a = b
  | .non, b, h => by cases b <;> simp [PV.beq] at h ⊢
  | .bl _, b, h => by cases b <;> simp [PV.beq] at h ⊢; exact h
  | .int _, b, h => by cases b <;> simp [PV.beq] at h ⊢; exact h
  | .str _, b, h => by cases b <;> simp [PV.beq] at h ⊢; exact h
  | .tup as, b, h => by
    cases b <;> simp [PV.beq] at h ⊢
    exact PV.beqs_eq h
  | .ref _, b, h => by cases b <;> simp [PV.beq] at h ⊢; exact h
  | .scr _, b, h => by cases b <;> simp [PV.beq] at h ⊢; exact h
theorem PV.beqs_eq : ∀ {a b : List PV}, PV.beqs a b = true → a = b
  | [], b, h => by cases b <;> simp [PV.beqs] at h ⊢
  | x :: xs, b, h => by
    cases b <;> simp [PV.beqs] at h ⊢
    exact ⟨PV.beq_eq h.1, PV.beqs_eq h.2⟩
end
mutual
theorem PV.beq_rfl : ∀ (a : PV), PV.beq a a = true
  | .non => rfl
  | .bl _ => by simp [PV.beq]
  | .int _ => by simp [PV.beq]
  | .str _ => by simp [PV.beq]
  | .tup as => by simp only [PV.beq]; exact PV.beqs_rfl as
  | .ref _ => by simp [PV.beq]
  | .scr _ => by simp [PV.beq]
theorem PV.beqs_rfl : ∀ (a : List PV), PV.beqs a a = true
  | [] => rfl
  | x :: xs => by simp only [PV.beqs, PV.beq_rfl x, PV.beqs_rfl xs, Bool.and_self]
end
instance : DecidableEq PV := fun a b => if h : PV.beq a b = true then .isTrue (PV.beq_eq h) else .isFalse fun e => h (e ▸ PV.beq_rfl a)
abbrev PKey := Sum Int (List Nat)
def keyOf : PKey → Key
  | .inl i => .inl i
  | .inr x => .inr ⟨x.toArray⟩
inductive Cell where
  | lst (xs : List PV)
  | dic (kvs : List (PKey × PV))
  | dif (kvs : List (PKey × PV))
  | ins (c : Nat) (fs : List (Option PV))
  deriving DecidableEq
abbrev Hh := List Cell
/-- the classes of the text, by number: name, fields -/
class Tab where
  ct : Nat → Str × List Str
def cN [Tab] (c : Nat) : Str := (Tab.ct c).1
def cF [Tab] (c : Nat) : List Str := (Tab.ct c).2
/-- what the written part says of a class -/
structure CF [Tab] (K : PySem.W.Frag) (c : Nat) : Prop where
  cls : Cls K (He.ga K (cN c))
  noat : ∀ f ∈ cF c, NoAttr K (He.ga K (cN c)) f
  nd : (cF c).Nodup
  few : (cF c).length ≤ 100
  ha : PySem.W.findIn K (.ref (He.ga K (cN c))) "__class__" = some (some (.builtin "object.__class__"))
  hn : PySem.W.specialIn K (.builtin "object.__class__") "__get__" = some (some (.builtin "getset_descriptor.__get__"))
  htk : PySem.W.takesIn K (.builtin "object.__class__") = some true
  hm : PySem.W.mroIn K (He.ga K (cN c)) (.type "object") = some true

/-- a world: how many places, where each stands, the abstract heap -/
structure Wd where
  n : Nat
  ρ : Nat → Addr
  H : Hp

/-- the script's list -/
def SqF (K : PySem.W.Frag) (H : Hp) (a : Addr) (vs : List V) : Prop :=
  (∃ o, H a = some (.frz o (.lst vs))) ∨
    ∃ (o : Obj) (its : Array Value) (n : Nat), K.lookup a = some o ∧ o.cls = .type "list" ∧ o.dict = none ∧ o.data = .seq its n ∧ its.size ≤ sizeLine ∧ Vals vs its.toList
theorem SqF.sq {K : PySem.W.Frag} {H : Hp} {a : Addr} {vs : List V} (h : SqF K H a vs) : SqL K H a vs := by
  rcases h with ⟨o, h⟩ | h
  · exact .inl (.inr ⟨o, h⟩)
  · exact .inr h

/-- a tuple of no dict -/
def SqN (K : PySem.W.Frag) (H : Hp) (a : Addr) (vs : List V) : Prop :=
  (∃ o, H a = some (.frz o (.tup vs)) ∧ o.dict = none) ∨
    ∃ (o : Obj) (its : Array Value) (n : Nat), K.lookup a = some o ∧ o.cls = .type "tuple" ∧ o.dict = none ∧ o.data = .seq its n ∧ its.size ≤ sizeLine ∧ Vals vs its.toList
theorem SqN.sq {K : PySem.W.Frag} {H : Hp} {a : Addr} {vs : List V} (h : SqN K H a vs) : SqT K H a vs := by
  rcases h with ⟨o, h, _⟩ | ⟨o, its, n, h1, h2, _, h3, h4, h5⟩
  · exact .inl (.inr ⟨o, h⟩)
  · exact .inr ⟨o, its, n, h1, h2, h3, h4, h5⟩
section
variable (K : PySem.W.Frag) (w : Wd)
mutual
def RV : PV → V → Prop
  | .non, x => x = .non
  | .bl b, x => x = .bl b
  | .int i, x => x = .int i
  | .str y, x => x = .str ⟨y.toArray⟩
  | .tup xs, x => ∃ a vs, x = .ref a ∧ SqN K w.H a vs ∧ RVs xs vs
  | .ref i, x => i < w.n ∧ x = .ref (w.ρ i)
  | .scr ns, x => ∃ a, x = .ref a ∧ SqF K w.H a (ns.map V.int)
def RVs : List PV → List V → Prop
  | [], vs => vs = []
  | x :: xs, vs => ∃ v r, vs = v :: r ∧ RV x v ∧ RVs xs r
end
end

/-- what was true of values is true still -/
structure Le0 (w w' : Wd) : Prop where
  n : w.n ≤ w'.n
  ρ : ∀ i, i < w.n → w'.ρ i = w.ρ i
  tup : ∀ a xs, w.H a = some (.tup xs) → w'.H a = some (.tup xs)
  frz : ∀ a o u, (∀ ks, u ≠ .dK ks) → w.H a = some (.frz o u) → w'.H a = some (.frz o u)
/-- .. and no locked dict was opened -/
structure Le (w w' : Wd) : Prop where
  n : w.n ≤ w'.n
  ρ : ∀ i, i < w.n → w'.ρ i = w.ρ i
  tup : ∀ a xs, w.H a = some (.tup xs) → w'.H a = some (.tup xs)
  frz : ∀ a o u, w.H a = some (.frz o u) → w'.H a = some (.frz o u)
theorem Le.to0 {w w' : Wd} (x : Le w w') : Le0 w w' := ⟨x.n, x.ρ, x.tup, fun a o u _ h => x.frz a o u h⟩
/-- the world went on -/
structure Ext (K : PySem.W.Frag) (w w' : Wd) : Prop extends Le w w' where
  frame : ∀ b o, w.H b = some o → (∀ i, i < w.n → w.ρ i ≠ b) → w'.H b = some o
  new : ∀ i, w.n ≤ i → i < w'.n → w.H (w'.ρ i) = none
  there : ∀ b o, w.H b = some o → ∃ o', w'.H b = some o'
section
variable {K : PySem.W.Frag} {a b c w w' : Wd}
theorem Ext.refl (w : Wd) : Ext K w w := ⟨⟨Nat.le_refl _, fun _ _ => rfl, fun _ _ h => h, fun _ _ _ h => h⟩, fun _ _ h _ => h, fun i h1 h2 => by omega, fun _ o h => ⟨o, h⟩⟩
theorem Ext.trans (x : Ext K a b) (y : Ext K b c) : Ext K a c where
  n := Nat.le_trans x.n y.n
  ρ := fun i hi => (y.ρ i (Nat.lt_of_lt_of_le hi x.n)).trans (x.ρ i hi)
  tup := fun p xs h => y.tup p xs (x.tup p xs h)
  frz := fun p o u h => y.frz p o u (x.frz p o u h)
  frame := fun p o h hf => y.frame p o (x.frame p o h hf) fun i hi e => by
    by_cases hia : i < a.n
    · exact hf i hia ((x.ρ i hia).symm.trans e)
    · have q := x.new i (by omega) hi
      rw [e, h] at q
      cases q
  new := fun i h1 h2 => by
    by_cases hib : i < b.n
    · rw [y.ρ i hib]
      exact x.new i h1 hib
    · have q := y.new i (by omega) h2
      cases e : a.H (c.ρ i) with
      | none => rfl
      | some o =>
        obtain ⟨o', e'⟩ := x.there _ _ e
        rw [q] at e'
        cases e'
  there := fun p o h => by
    obtain ⟨o', h'⟩ := x.there p o h
    exact y.there p o' h'
theorem sqt_le {p : Addr} {xs : List V} (h : SqT K w.H p xs) (x : Le0 w w') : SqT K w'.H p xs := by
  rcases h with (h | ⟨o, h⟩) | h
  · exact .inl (.inl (x.tup _ _ h))
  · exact .inl (.inr ⟨o, x.frz _ _ _ (fun _ e => nomatch e) h⟩)
  · exact .inr h
theorem sqn_le {p : Addr} {xs : List V} (h : SqN K w.H p xs) (x : Le0 w w') : SqN K w'.H p xs := by
  rcases h with ⟨o, h, hd⟩ | h
  · exact .inl ⟨o, x.frz _ _ _ (fun _ e => nomatch e) h, hd⟩
  · exact .inr h
theorem sqf_le {p : Addr} {xs : List V} (h : SqF K w.H p xs) (x : Le0 w w') : SqF K w'.H p xs := by
  rcases h with ⟨o, h⟩ | h
  · exact .inl ⟨o, x.frz _ _ _ (fun _ e => nomatch e) h⟩
  · exact .inr h
theorem sqt_ext {p : Addr} {xs : List V} (h : SqT K w.H p xs) (x : Ext K w w') : SqT K w'.H p xs := sqt_le h x.toLe.to0
theorem sqf_ext {p : Addr} {xs : List V} (h : SqF K w.H p xs) (x : Ext K w w') : SqF K w'.H p xs := sqf_le h x.toLe.to0
mutual
theorem RV.le (x : Le0 w w') : ∀ {p : PV} {v : V}, RV K w p v → RV K w' p v
  | .non, _, h => h
  | .bl _, _, h => h
  | .int _, _, h => h
  | .str _, _, h => h
  | .tup _, _, h => let ⟨a, vs, e, s, r⟩ := h; ⟨a, vs, e, sqn_le s x, RVs.le x r⟩
  | .ref i, _, h => ⟨Nat.lt_of_lt_of_le h.1 x.n, by rw [x.ρ i h.1]; exact h.2⟩
  | .scr _, _, h => let ⟨a, e, s⟩ := h; ⟨a, e, sqf_le s x⟩
theorem RVs.le (x : Le0 w w') : ∀ {p : List PV} {v : List V}, RVs K w p v → RVs K w' p v
  | [], _, h => h
  | _ :: _, _, h => let ⟨v, r, e, h1, h2⟩ := h; ⟨v, r, e, RV.le x h1, RVs.le x h2⟩
end
theorem RV.ext (x : Ext K w w') {p : PV} {v : V} (h : RV K w p v) : RV K w' p v := RV.le x.toLe.to0 h
theorem RVs.ext (x : Ext K w w') {p : List PV} {v : List V} (h : RVs K w p v) : RVs K w' p v := RVs.le x.toLe.to0 h
end

/-! ### lists of values -/
section
variable {K : PySem.W.Frag} {w : Wd}
theorem RVs.nil : RVs K w [] [] := rfl
theorem RVs.cons {x : PV} {xs : List PV} {v : V} {vs : List V} (h : RV K w x v) (r : RVs K w xs vs) : RVs K w (x :: xs) (v :: vs) := ⟨v, vs, rfl, h, r⟩
theorem RVs.len : ∀ {xs : List PV} {vs : List V}, RVs K w xs vs → vs.length = xs.length
  | [], _, h => by rw [show _ = [] from h]; rfl
  | _ :: _, _, h => by obtain ⟨v, r, rfl, _, h2⟩ := h; simp [RVs.len h2]
theorem RVs.app : ∀ {xs ys : List PV} {vs us : List V}, RVs K w xs vs → RVs K w ys us → RVs K w (xs ++ ys) (vs ++ us)
  | [], _, _, _, h, q => by rw [show _ = [] from h]; exact q
  | _ :: _, _, _, _, h, q => by obtain ⟨v, r, rfl, h1, h2⟩ := h; exact ⟨v, _, rfl, h1, h2.app q⟩
theorem RVs.get : ∀ {xs : List PV} {vs : List V} {i : Nat} {x : PV}, RVs K w xs vs → xs[i]? = some x → ∃ v, vs[i]? = some v ∧ RV K w x v
  | [], _, _, _, _, e => by simp at e
  | y :: ys, _, 0, x, h, e => by obtain ⟨v, r, rfl, h1, _⟩ := h; simp at e; subst e; exact ⟨v, by simp, h1⟩
  | y :: ys, _, i + 1, x, h, e => by
    obtain ⟨v, r, rfl, _, h2⟩ := h
    obtain ⟨u, e1, e2⟩ := h2.get (i := i) (x := x) (by simpa using e)
    exact ⟨u, by simpa using e1, e2⟩
theorem RVs.set {x : PV} {v : V} (q : RV K w x v) : ∀ {xs : List PV} {vs : List V} (i : Nat), RVs K w xs vs → RVs K w (xs.set i x) (vs.set i v)
  | [], _, _, h => by rw [show _ = [] from h]; exact rfl
  | _ :: _, _, 0, h => by obtain ⟨u, r, rfl, _, h2⟩ := h; exact ⟨v, r, rfl, q, h2⟩
  | _ :: _, _, i + 1, h => by obtain ⟨u, r, rfl, h1, h2⟩ := h; exact ⟨u, _, rfl, h1, h2.set q i⟩
theorem RVs.take : ∀ {xs : List PV} {vs : List V} (i : Nat), RVs K w xs vs → RVs K w (xs.take i) (vs.take i)
  | _, _, 0, _ => by simp [RVs]
  | [], _, _ + 1, h => by rw [show _ = [] from h]; exact rfl
  | _ :: _, _, i + 1, h => by obtain ⟨u, r, rfl, h1, h2⟩ := h; exact ⟨u, _, rfl, h1, h2.take i⟩
theorem RVs.drop : ∀ {xs : List PV} {vs : List V} (i : Nat), RVs K w xs vs → RVs K w (xs.drop i) (vs.drop i)
  | _, _, 0, h => h
  | [], _, _ + 1, h => by rw [show _ = [] from h]; exact rfl
  | _ :: _, _, i + 1, h => by obtain ⟨u, r, rfl, h1, h2⟩ := h; exact h2.drop i
theorem RVs.rev : ∀ {xs : List PV} {vs : List V}, RVs K w xs vs → RVs K w xs.reverse vs.reverse
  | [], _, h => by rw [show _ = [] from h]; exact rfl
  | _ :: _, _, h => by
    obtain ⟨u, r, rfl, h1, h2⟩ := h
    rw [List.reverse_cons, List.reverse_cons]
    exact h2.rev.app (.cons h1 .nil)
theorem RVs.erase : ∀ {xs : List PV} {vs : List V} (i : Nat), RVs K w xs vs → RVs K w (xs.eraseIdx i) (vs.eraseIdx i)
  | [], _, _, h => by rw [show _ = [] from h]; exact rfl
  | _ :: _, _, 0, h => by obtain ⟨u, r, rfl, _, h2⟩ := h; exact h2
  | _ :: _, _, i + 1, h => by obtain ⟨u, r, rfl, h1, h2⟩ := h; exact ⟨u, _, rfl, h1, h2.erase i⟩
theorem RVs.rep {x : PV} {v : V} (q : RV K w x v) : ∀ n : Nat, RVs K w (List.replicate n x) (List.replicate n v)
  | 0 => rfl
  | n + 1 => ⟨v, _, rfl, q, RVs.rep q n⟩
theorem RVs.reps {xs : List PV} {vs : List V} (q : RVs K w xs vs) : ∀ n : Nat, RVs K w (List.replicate n xs).flatten (List.replicate n vs).flatten
  | 0 => rfl
  | n + 1 => by
    rw [List.replicate_succ, List.replicate_succ, List.flatten_cons, List.flatten_cons]
    exact q.app (RVs.reps q n)
theorem RVs.dropLast : ∀ {xs : List PV} {vs : List V}, RVs K w xs vs → RVs K w xs.dropLast vs.dropLast := fun {xs vs} h => by
  rw [List.dropLast_eq_take, List.dropLast_eq_take, h.len]
  exact h.take _
theorem RVs.ints : ∀ {ns : List Int}, RVs K w (ns.map PV.int) (ns.map V.int)
  | [] => rfl
  | _ :: _ => ⟨_, _, rfl, rfl, RVs.ints⟩
theorem RVs.of_ints : ∀ {ns : List Int} {vs : List V}, RVs K w (ns.map PV.int) vs → vs = ns.map V.int
  | [], _, h => h
  | n :: ns, _, h => by
    obtain ⟨v, r, rfl, h1, h2⟩ := h
    rw [show v = V.int n from h1, RVs.of_ints h2]
    rfl
theorem RVs.of_bls : ∀ {ns : List Bool} {vs : List V}, RVs K w (ns.map PV.bl) vs → vs = ns.map V.bl
  | [], _, h => h
  | n :: ns, _, h => by
    obtain ⟨v, r, rfl, h1, h2⟩ := h
    rw [show v = V.bl n from h1, RVs.of_bls h2]
    rfl
theorem RVs.of_strs : ∀ {ns : List (List Nat)} {vs : List V}, RVs K w (ns.map PV.str) vs → vs = (ns.map fun x => (⟨x.toArray⟩ : Str)).map V.str
  | [], _, h => h
  | n :: ns, _, h => by
    obtain ⟨v, r, rfl, h1, h2⟩ := h
    rw [show v = V.str ⟨n.toArray⟩ from h1, RVs.of_strs h2]
    rfl
end

/-! ### the heap -/
def RKs (K : PySem.W.Frag) (w : Wd) : List (PKey × PV) → List (Key × V) → Prop
  | [], ks => ks = []
  | p :: ps, ks => ∃ v r, ks = (keyOf p.1, v) :: r ∧ RV K w p.2 v ∧ RKs K w ps r
/-- an instance's attributes -/
structure RI [Tab] (K : PySem.W.Frag) (w : Wd) (c : Nat) (fs : List (Option PV)) (gs : List (Str × V)) : Prop where
  cf : CF K c
  len : fs.length = (cF c).length
  keys : gs.map (·.1) ⊆ cF c
  nd : (gs.map (·.1)).Nodup
  get : ∀ (j : Nat) (f : Str) (v : PV), (cF c)[j]? = some f → fs[j]? = some (some v) → ∃ x, gs.lookup f = some x ∧ RV K w v x
def RC [Tab] (K : PySem.W.Frag) (w : Wd) (a : Addr) : Cell → Prop
  | .lst xs => ∃ vs, w.H a = some (.lst vs) ∧ RVs K w xs vs
  | .dic kvs => ∃ ks, w.H a = some (.dK ks) ∧ RKs K w kvs ks
  | .dif kvs => ∃ o ks, w.H a = some (.frz o (.dK ks)) ∧ RKs K w kvs ks
  | .ins c fs => ∃ dx gs, w.H a = some (.ins (He.ga K (cN c)) dx gs) ∧ RI K w c fs gs
structure RH [Tab] (K : PySem.W.Frag) (w : Wd) (h : Hh) : Prop where
  len : h.length = w.n
  cell : ∀ i c, h[i]? = some c → RC K w (w.ρ i) c
  inj : ∀ i j, i < w.n → j < w.n → w.ρ i = w.ρ j → i = j
section
variable {K : PySem.W.Frag} {w w' : Wd} {h : Hh}
theorem RKs.le (x : Le0 w w') : ∀ {p : List (PKey × PV)} {v : List (Key × V)}, RKs K w p v → RKs K w' p v
  | [], _, h => h
  | _ :: _, _, h => let ⟨v, r, e, h1, h2⟩ := h; ⟨v, r, e, h1.le x, RKs.le x h2⟩
theorem RKs.ext (x : Ext K w w') {p : List (PKey × PV)} {v : List (Key × V)} (h : RKs K w p v) : RKs K w' p v := RKs.le x.toLe.to0 h
variable [Tab]
theorem RI.le {c : Nat} {fs : List (Option PV)} {gs : List (Str × V)} (r : RI K w c fs gs) (x : Le0 w w') : RI K w' c fs gs :=
  ⟨r.cf, r.len, r.keys, r.nd, fun j f v e1 e2 => let ⟨y, e, q⟩ := r.get j f v e1 e2; ⟨y, e, q.le x⟩⟩
theorem RI.ext {c : Nat} {fs : List (Option PV)} {gs : List (Str × V)} (r : RI K w c fs gs) (x : Ext K w w') : RI K w' c fs gs := r.le x.toLe.to0
theorem RC.there {a : Addr} {c : Cell} (q : RC K w a c) : ∃ o, w.H a = some o ∧ ∀ xs, o ≠ .tup xs := by
  cases c with
  | lst xs => obtain ⟨vs, e, _⟩ := q; exact ⟨_, e, fun _ z => nomatch z⟩
  | dic kvs => obtain ⟨vs, e, _⟩ := q; exact ⟨_, e, fun _ z => nomatch z⟩
  | dif kvs => obtain ⟨o, vs, e, _⟩ := q; exact ⟨_, e, fun _ z => nomatch z⟩
  | ins c fs => obtain ⟨dx, vs, e, _⟩ := q; exact ⟨_, e, fun _ z => nomatch z⟩
theorem RC.le {a : Addr} {c : Cell} (q : RC K w a c) (x : Le0 w w') (e : w'.H a = w.H a) : RC K w' a c := by
  cases c with
  | lst xs => obtain ⟨vs, e1, r⟩ := q; exact ⟨vs, e.trans e1, r.le x⟩
  | dic kvs => obtain ⟨vs, e1, r⟩ := q; exact ⟨vs, e.trans e1, r.le x⟩
  | dif kvs => obtain ⟨o, vs, e1, r⟩ := q; exact ⟨o, vs, e.trans e1, r.le x⟩
  | ins c fs => obtain ⟨dx, vs, e1, r⟩ := q; exact ⟨dx, vs, e.trans e1, r.le x⟩
theorem RC.ext {a : Addr} {c : Cell} (q : RC K w a c) (x : Ext K w w') (e : w'.H a = w.H a) : RC K w' a c := q.le x.toLe.to0 e
theorem RH.lt (r : RH K w h) {i : Nat} {c : Cell} (e : h[i]? = some c) : i < w.n := by
  rw [← r.len]
  exact (List.getElem?_eq_some_iff.mp e).1
theorem RH.there (r : RH K w h) {i : Nat} (hi : i < w.n) : ∃ o, w.H (w.ρ i) = some o ∧ ∀ xs, o ≠ .tup xs := by
  rw [← r.len] at hi
  exact (r.cell i h[i] (List.getElem?_eq_getElem hi)).there
theorem RH.ne_free (r : RH K w h) {p : Addr} (hp : w.H p = none) : ∀ i, i < w.n → w.ρ i ≠ p := fun i hi e => by
  obtain ⟨o, e1, _⟩ := r.there hi
  rw [e, hp] at e1
  cases e1
theorem RH.ne_tup (r : RH K w h) {p : Addr} {xs : List V} (hp : w.H p = some (.tup xs)) : ∀ i, i < w.n → w.ρ i ≠ p := fun i hi e => by
  obtain ⟨o, e1, m⟩ := r.there hi
  rw [e, hp] at e1
  cases e1
  exact m _ rfl

/-! ### how the world goes on -/
/-- the abstract heap has grown -/
theorem Ext.grow {H' : Hp} (g : ∀ b o, w.H b = some o → H' b = some o) : Ext K w { w with H := H' } :=
  ⟨⟨Nat.le_refl _, fun _ _ => rfl, fun _ _ e => g _ _ e, fun _ _ _ e => g _ _ e⟩, fun _ _ e _ => g _ _ e, fun i h1 h2 => absurd h1 (by show ¬ w.n ≤ i; have : i < w.n := h2; omega), fun _ o e => ⟨o, g _ _ e⟩⟩
theorem RH.grow (r : RH K w h) {H' : Hp} (g : ∀ b o, w.H b = some o → H' b = some o) : RH K { w with H := H' } h :=
  ⟨r.len, fun i c e => (r.cell i c e).ext (Ext.grow g) (by
    obtain ⟨o, e1, _⟩ := (r.cell i c e).there
    show H' (w.ρ i) = w.H (w.ρ i)
    rw [e1, g _ _ e1]), r.inj⟩
theorem grow_upd {H : Hp} {p : Addr} {o : HO} (hp : H p = none) : ∀ b u, H b = some u → upd H p o b = some u := fun b u e => by
  rw [upd_ne (ne_of_none e hp)]
  exact e
/-- a new place -/
def Wd.add (w : Wd) (p : Addr) (o : HO) : Wd := ⟨w.n + 1, fun i => if i = w.n then p else w.ρ i, upd w.H p o⟩
theorem Wd.add_ρ (w : Wd) {p : Addr} {o : HO} : (w.add p o).ρ w.n = p := if_pos rfl
theorem Ext.add {p : Addr} {o : HO} (hp : w.H p = none) : Ext K w (w.add p o) where
  n := Nat.le_succ _
  ρ := fun i hi => if_neg (by omega)
  tup := fun a xs e => grow_upd hp _ _ e
  frz := fun a o u e => grow_upd hp _ _ e
  frame := fun b u e _ => grow_upd hp _ _ e
  new := fun i h1 h2 => by
    have e : i = w.n := by have : i < w.n + 1 := h2; omega
    subst e
    rw [Wd.add_ρ]
    exact hp
  there := fun b u e => ⟨u, grow_upd hp _ _ e⟩
theorem RH.add (r : RH K w h) {p : Addr} {o : HO} {c : Cell} (hp : w.H p = none) (q : RC K (w.add p o) p c) : RH K (w.add p o) (h ++ [c]) where
  len := by rw [List.length_append, r.len]; rfl
  cell := fun i d e => by
    by_cases hi : i < h.length
    · rw [List.getElem?_append_left hi] at e
      have z := r.cell i d e
      have hin : i ≠ w.n := by rw [← r.len]; omega
      show RC K (w.add p o) (if i = w.n then p else w.ρ i) d
      rw [if_neg hin]
      refine z.ext (Ext.add hp) ?_
      obtain ⟨u, e1, _⟩ := z.there
      exact (grow_upd hp _ _ e1).trans e1.symm
    · have e2 : i = h.length := by
        have := (List.getElem?_eq_some_iff.mp e).1
        rw [List.length_append] at this
        simp at this
        omega
      subst e2
      rw [List.getElem?_append_right (Nat.le_refl _), Nat.sub_self] at e
      cases e
      show RC K (w.add p o) (if h.length = w.n then p else _) c
      rw [if_pos r.len]
      exact q
  inj := fun i j hi hj e => by
    have hi' : i < w.n + 1 := hi
    have hj' : j < w.n + 1 := hj
    have e' : (if i = w.n then p else w.ρ i) = (if j = w.n then p else w.ρ j) := e
    by_cases h1 : i = w.n
    · by_cases h2 : j = w.n
      · rw [h1, h2]
      · rw [if_pos h1, if_neg h2] at e'
        exact absurd e'.symm (r.ne_free hp j (by omega))
    · by_cases h2 : j = w.n
      · rw [if_neg h1, if_pos h2] at e'
        exact absurd e' (r.ne_free hp i (by omega))
      · rw [if_neg h1, if_neg h2] at e'
        exact r.inj i j (by omega) (by omega) e'
/-- a place is written -/
theorem Ext.put (r : RH K w h) {i : Nat} (hi : i < w.n) {o0 o : HO} (s : w.H (w.ρ i) = some o0) (hm : ∀ ob u, o0 ≠ .frz ob u) : Ext K w { w with H := upd w.H (w.ρ i) o } where
  n := Nat.le_refl _
  ρ := fun _ _ => rfl
  tup := fun a xs e => by
    show upd w.H (w.ρ i) o a = _
    rw [upd_ne (fun q => r.ne_tup e i hi q.symm)]
    exact e
  frz := fun a ob u e => by
    show upd w.H (w.ρ i) o a = _
    rw [upd_ne (fun q => by rw [q, s] at e; exact hm _ _ (Option.some.inj e))]
    exact e
  frame := fun b u e hf => by
    show upd w.H (w.ρ i) o b = _
    rw [upd_ne (fun q => hf i hi q.symm)]
    exact e
  new := fun j h1 h2 => absurd h1 (by have : j < w.n := h2; omega)
  there := fun b u e => by
    by_cases q : b = w.ρ i
    · exact ⟨o, by show upd w.H (w.ρ i) o b = _; rw [q]; exact upd_same⟩
    · exact ⟨u, by show upd w.H (w.ρ i) o b = _; rw [upd_ne q]; exact e⟩
theorem RH.put (r : RH K w h) {i : Nat} (hi : i < w.n) {o0 o : HO} (s : w.H (w.ρ i) = some o0) (hm : ∀ ob u, o0 ≠ .frz ob u) {c : Cell} (q : RC K { w with H := upd w.H (w.ρ i) o } (w.ρ i) c) : RH K { w with H := upd w.H (w.ρ i) o } (h.set i c) where
  len := by rw [List.length_set]; exact r.len
  cell := fun j d e => by
    have hih : i < h.length := by rw [r.len]; exact hi
    by_cases hj : j = i
    · subst hj
      rw [List.getElem?_set_self hih] at e
      cases e
      exact q
    · rw [List.getElem?_set_ne (Ne.symm hj)] at e
      refine (r.cell j d e).ext (Ext.put r hi s hm) ?_
      show upd w.H (w.ρ i) o (w.ρ j) = _
      exact upd_ne (fun z => hj (r.inj j i (r.lt e) hi z))
  inj := r.inj
end

/-! ### the frame -/
abbrev Ev0 := List (Option PV)
structure RS (K : PySem.W.Frag) (w : Wd) (s : Ev0) (σ : L2.St) : Prop where
  len : σ.length = s.length
  get : ∀ (i : Nat) (v : PV), s[i]? = some (some v) → ∃ x, σ[i]? = some (some x) ∧ RV K w v x
section
variable {K : PySem.W.Frag} {w w' : Wd} {s : Ev0} {σ : L2.St}
theorem RS.ext (r : RS K w s σ) (x : Ext K w w') : RS K w' s σ := ⟨r.len, fun i v e => let ⟨y, e1, q⟩ := r.get i v e; ⟨y, e1, q.ext x⟩⟩
theorem RS.set (r : RS K w s σ) {i : Nat} {v : PV} {x : V} (q : RV K w v x) : RS K w (s.set i (some v)) (σ.set i (some x)) := by
  refine ⟨by rw [List.length_set, List.length_set]; exact r.len, fun j u e => ?_⟩
  by_cases hj : i = j
  · subst hj
    by_cases hi : i < s.length
    · rw [List.getElem?_set_self hi] at e
      cases e
      exact ⟨x, List.getElem?_set_self (by rw [r.len]; exact hi), q⟩
    · rw [List.getElem?_eq_none (by rw [List.length_set]; omega)] at e
      cases e
  · rw [List.getElem?_set_ne hj] at e
    rw [List.getElem?_set_ne hj]
    exact r.get j u e
theorem RS.unset (r : RS K w s σ) {i : Nat} {z : Option V} : RS K w (s.set i none) (σ.set i z) := by
  refine ⟨by rw [List.length_set, List.length_set]; exact r.len, fun j u e => ?_⟩
  by_cases hj : i = j
  · subst hj
    by_cases hi : i < s.length
    · rw [List.getElem?_set_self hi] at e
      cases e
    · rw [List.getElem?_eq_none (by rw [List.length_set]; omega)] at e
      cases e
  · rw [List.getElem?_set_ne hj] at e
    rw [List.getElem?_set_ne hj]
    exact r.get j u e
end
end U
set_option Elab.async false
set_option linter.all false
set_option maxRecDepth 100000
set_option maxHeartbeats 2000000
/-! The generic layer, part 1b: new tuples of no dict. -/
namespace L2
open PySem PySem.Spec PyProof.Rows
abbrev tupOb (its : List Value) : Obj := { cls := .type "tuple", data := .seq its.toArray }
/-- a new tuple of no dict -/
def NewT (H : Hp) (xs : List V) (Q : VK) : Prop := ∀ p ob, H p = none → ob.dict = none → Q (.ref p) (upd H p (.frz ob (.tup xs)))
section
variable {X : Cx} {pins : List (Addr × Obj)} {σ : St} {H : Hp} {s : Shared} {xs : List V} {Q : VK}
theorem Inv.newT {its : List Value} {t' : Nat} (I : Inv X pins σ H s) (hz : xs.length ≤ sizeLine) (r : Vals xs its) (q : NewT H xs Q) :
    EP X pins σ Q (.ref s.heap.objs.size) { s with heap := s.heap.push (tupOb its), toks := t' } :=
  ⟨.ref s.heap.objs.size, upd H s.heap.objs.size (.frz (tupOb its) (.tup xs)), I.laid (t' := t') (fun b ob q => Heap.get?_push_of_some _ q) (Nat.le_refl _)
    (show ObjOk X.prog X.w _ _ _ (.frz (tupOb its) (.tup xs)) from ⟨Heap.get?_push_size _ rfl, hz, its, r, IsTup.new _ _⟩), rfl, q _ _ (I.hok.fresh (Nat.le_refl _)) rfl⟩
end
section
variable {X : Cx} {es : List Expr} {t : TA} {pos : Pos}
def tTupN (t : TA) : TE := fun σ H Q => t σ H fun xs H1 => xs.length ≤ sizeLine ∧ NewT H1 xs Q
theorem pe_tupN {x1} (h : PA X es t) : PE X (.Tuple es x1 pos) (tTupN t) := by
  refine ⟨fun pins s σ H Q I hq => ?_⟩
  refine wpAny_Tuple_spliced (thn (h.run pos pins s σ H _ I hq) fun us s1 ⟨xs, H1, I1, r, z, q⟩ => ⟨by rw [← r.length]; exact z, ?_⟩)
  exact I1.newT (its := us) (t' := s1.toks) z r q
def rTupN (K : PySem.W.Frag) : List V → Hp → VK → Prop := fun xs H Q => ∃ p ys, xs = [.ref p] ∧ ((SqL K H p ys ∧ NewT H ys Q) ∨ (SqT K H p ys ∧ Q (.ref p) H))
theorem call_tupleN : CallR X (.type "tuple") (rTupN X.K) := by
  intro pins s σ H xs us Q I r h
  obtain ⟨p, ys, rfl, h⟩ := h
  obtain ⟨u, rfl, rx⟩ := vals1 r
  cases rx
  rcases h with ⟨hq, q⟩ | ⟨hq, q⟩
  · obtain ⟨its, r', pl, hz⟩ := I.list hq
    have hlen := r'.length
    refine call_tuple_list pl.isList (fun h' kp => ?_) (by simp only [List.size_toArray] <;> omega)
    have I1 : Inv X pins σ H { s with heap := h' } := I.kept (t' := s.toks) kp
    exact I1.newT (its := its) (t' := s.toks) hz r' q
  · obtain ⟨its, r', pl, hz⟩ := I.tuple hq
    exact call_tuple_same pl ⟨.ref p, H, I, rfl, q⟩
def rCatTN (K : PySem.W.Frag) : R2 := fun x y H Q => ∃ a b xs ys, x = .ref a ∧ y = .ref b ∧ SqT K H a xs ∧ SqT K H b ys ∧ xs ≠ [] ∧ xs.length + ys.length ≤ sizeLine ∧
  (ys = [] → Q (.ref a) H) ∧ (ys ≠ [] → NewT H (xs ++ ys) Q)
theorem op_catTN : OpR X (binaryOp .Add) (rCatTN X.K) := by
  intro pins s σ H x y v u Q I rx ry h
  obtain ⟨a, b, xs, ys, rfl, rfl, ha, hb, hx, hz, q1, q2⟩ := h
  cases rx
  cases ry
  obtain ⟨its, r1, p1, _⟩ := I.tuple ha
  obtain ⟨its2, r2, p2, _⟩ := I.tuple hb
  refine HT.cat_tup p1 p2 (fun z => hx (r1.nil_iff.mp z)) (fun z => ⟨.ref a, H, I, rfl, q1 (r2.nil_iff.mp z)⟩) (fun z => ?_) (by rw [← r1.length, ← r2.length]; exact hz)
  exact I.newT (its := its ++ its2) (t' := s.toks) (by rw [List.length_append]; exact hz) (r1.append r2) (q2 fun w => z (r2.nil_iff.mpr w))
def rRepTN (K : PySem.W.Frag) : R2 := fun x y H Q => ∃ l k xs, x = .ref l ∧ y = .int k ∧ SqT K H l xs ∧ xs ≠ [] ∧ 2 ≤ k ∧ k ≤ 1000 ∧ xs.length ≤ 1000 ∧ NewT H (List.replicate k.toNat xs).flatten Q
theorem op_repTN : OpR X (binaryOp .Mult) (rRepTN X.K) := by
  intro pins s σ H x y v u Q I rx ry h
  obtain ⟨l, k, xs, rfl, rfl, hT, hne, h1, h2, hz, q⟩ := h
  cases rx
  obtain ⟨t, rfl⟩ := ry
  obtain ⟨its, r, ⟨⟨cls, dd, data, sl⟩, ho, hc, n, hd⟩, hs⟩ := I.tuple hT
  simp only at hc hd
  subst hc hd
  have hle : its.length = xs.length := r.length.symm
  have hn : its ≠ [] := fun e => hne (by
    rw [e] at hle
    exact List.eq_nil_of_length_eq_zero hle.symm)
  have hi : its.toArray.isEmpty = false := by
    cases its with
    | nil => exact absurd rfl hn
    | cons a b => rfl
  have hsz0 : its.toArray.size = xs.length := by rw [List.size_toArray, hle]
  have hm : ((its.toArray.size : Nat) : Int) * k ≤ 1000000 := by
    rw [hsz0]
    have a1 : ((xs.length : Nat) : Int) * k ≤ 1000 * k := Int.mul_le_mul_of_nonneg_right (by omega) (by omega)
    omega
  have flen : (List.replicate k.toNat its).flatten.length ≤ sizeLine := by
    rw [PyProof.Rows.lm_len_rep_flat, hle, sizeLine_eq]
    have a1 : k.toNat * xs.length ≤ 1000 * 1000 := Nat.mul_le_mul (by omega) hz
    omega
  have c0 : (decide (k < -(2 ^ 63)) || decide (k ≥ 2 ^ 63)) = false := by
    rw [decide_eq_false (by omega), decide_eq_false (by omega)] <;> rfl
  have c1 : (its.toArray.isEmpty || k == 1) = false := by
    rw [hi, Bool.false_or]
    exact beq_eq_false_iff_ne.mpr (by omega)
  have c2 : (decide (k ≤ 0) || its.toArray.isEmpty) = false := by
    rw [hi, Bool.or_false]
    exact decide_eq_false (by omega)
  have c4 : Builtin.Tuple.tupleTooMany (((its.toArray.size : Nat) : Int) * k) = false := by
    unfold Builtin.Tuple.tupleTooMany
    rw [sizeLine_eq]
    exact decide_eq_false (by omega)
  refine wpAny_binaryOp_repeat_ref (T := "tuple") (U := "int") (by decide) ⟨_, ho, rfl⟩ (fun s' => typeIs_int s' k t) noFill_tuple_mul F.fills_int_mul F.slot_int_rmul repeat_tuple F.slot_int_index.lookup
    (call_meets F.slot_int_rmul (typeIs_int s k t) F.entry_int_rmul (F.args_int_rmul_2 _ _) (int_rmul_tuple k t l its.toArray n dd sl)
      ⟨ho, rfl, ⟨_, ho, rfl⟩, call_meets F.slot_tuple_mul ⟨_, ho, rfl⟩ F.entry_tuple_mul (F.args_tuple_mul_2 _ _) (tuple_mulW l its.toArray n dd sl k t c0 c1 c2 (by omega) c4 (by rw [size_rep, List.size_toArray]; exact flen)) ⟨ho, ?_⟩⟩)
  rw [size_rep]
  exact I.newT (its := (List.replicate k.toNat its).flatten) (t' := s.toks) (by rw [PyProof.Rows.lm_len_rep_flat, sizeLine_eq]; have a1 : k.toNat * xs.length ≤ 1000 * 1000 := Nat.mul_le_mul (by omega) hz; omega) (r.rep k.toNat) q
def rSlTN (K : PySem.W.Frag) : V → Option Int → Option Int → Hp → VK → Prop := fun x lo hi H Q => ∃ a xs, x = .ref a ∧ SqT K H a xs ∧
  ¬ (HT.sIx xs.length 0 lo = 0 ∧ HT.sIx xs.length xs.length hi = xs.length) ∧ NewT H (cutV xs lo hi) Q
theorem sl_tupN : SlR X (rSlTN X.K) := by
  intro pins s σ H x v vl vu lo hi sl Q I rx hs pl pu h
  obtain ⟨a, xs, rfl, hx, hw, q⟩ := h
  cases rx
  obtain ⟨its, r, ht, hz⟩ := I.tuple hx
  have hlen : its.toArray.size = xs.length := by rw [List.size_toArray]; exact r.length.symm
  refine ⟨"tuple", _, PyProof.Rows.slot_tuple_getitem.lookup, ht.typeIs, ?_⟩
  refine HT.getItem_tuple_cut ht hs pl pu (by rw [hlen]; exact hw) ?_ (by rw [hlen]; exact hz)
  rw [hlen]
  exact I.newT (t' := s.toks) (Nat.le_trans (cutV_length xs lo hi) hz) ((r.drop (HT.sIx xs.length 0 lo)).take (HT.sIx xs.length xs.length hi - HT.sIx xs.length 0 lo)) q
end
end L2
set_option Elab.async false
set_option linter.all false
set_option maxRecDepth 100000
set_option maxHeartbeats 4000000
/-! The generic layer, part 1c: enumerate of a list, of a tuple, the pairs of no dict. -/
namespace HT
open PySem
open PySem.AutoSeq1 (wpAny_loadPart')
theorem meets_enumerate_newT (l : Addr) (items : Array Value) (n : Nat) (dct : Option Addr) (sl : Array (Option Value)) :
    Meets (Builtin.«enumerate.__new__» ⟨[.type "enumerate", .ref l], []⟩) (fun _ R s => s.heap.get? l = some { cls := .type "tuple", dict := dct, data := .seq items n, slots := sl } ∧
      R (.ok (.ret (.ref (s.heap.push { cls := .type "tuple_iterator", data := .fields #[.ref l, .int 0 0] }).objs.size)))
        { s with heap := (s.heap.push { cls := .type "tuple_iterator", data := .fields #[.ref l, .int 0 0] }).push { cls := .type "enumerate", data := .fields #[.none, .bool false, .ref s.heap.objs.size, rawInt 0, .none, .none] } }) :=
  .of_wp fun prog w A R s h => by
    obtain ⟨hp, g, d, tk, os⟩ := s; obtain ⟨hl, h⟩ := h
    have hsub := sub_enumerate
    have hL : Heap.IsTuple (Shared.heap ⟨hp, g, d, tk, os⟩) l items := ⟨_, hl, rfl, n, rfl⟩
    wp_walk using wpAny_loadPart' hl
    refine wpAny_stack_any fun st => wpAny_pure ?_
    split
    · rename_i c _ _ _ _ _
      cases (c == Value.type "enumerate")
      · wp_walk using wpAny_loadPart' hl, wpAny_pyIter_tuple hL
        exact ⟨_, rfl, h⟩
      · wp_walk using wpAny_loadPart' hl, wpAny_pyIter_tuple hL
        exact ⟨_, rfl, h⟩
    · wp_walk using wpAny_loadPart' hl, wpAny_pyIter_tuple hL
      exact ⟨_, rfl, h⟩
section
variable {prog : Program} {w : World} {A : Around} {E : Value → Shared → Prop} {s : Shared}
theorem call_enumerate_tuple {l : Addr} {items : Array Value} {Q : Value → Shared → Prop} (hL : s.heap.IsTuple l items)
    (h : ∀ h', IsEnum h' (s.heap.objs.size + 1) s.heap.objs.size 0 .none → h'.IsTupleIter s.heap.objs.size l 0 → h'.objs.size = s.heap.objs.size + 2 →
      (∀ b o, s.heap.get? b = some o → h'.get? b = some o) → Q (.ref (s.heap.objs.size + 1)) { s with heap := h' }) :
    wpAny (model prog w) A (call (.type "enumerate") [.ref l]) Q E s := by
  obtain ⟨⟨c, dct, dt, sl⟩, hl, hc, n, hd⟩ := hL
  replace hc : c = .type "tuple" := hc
  replace hd : dt = .seq items n := hd
  subst hc hd
  refine callType_new F.called_enumerate (by decide) (F.typeCall_enumerate_1 _) (F.newCall_enumerate_1 _) (fun obj => F.args_object_init_2 obj _) F.entry_enumerate_new
    (meets_enumerate_newT l items n dct sl) ⟨hl, ?_⟩
  have hz : (s.heap.push { cls := .type "tuple_iterator", data := .fields #[.ref l, .int 0 0] }).objs.size = s.heap.objs.size + 1 := Heap.size_push ..
  show _ ∧ _
  rw [hz]
  have he : IsEnum ((s.heap.push { cls := .type "tuple_iterator", data := .fields #[.ref l, .int 0 0] }).push
      { cls := .type "enumerate", data := .fields #[.none, .bool false, .ref s.heap.objs.size, rawInt 0, .none, .none] }) (s.heap.objs.size + 1) s.heap.objs.size 0 .none := by
    have := Heap.get?_push_size (s.heap.push { cls := .type "tuple_iterator", data := .fields #[.ref l, .int 0 0] })
      (o := { cls := .type "enumerate", data := .fields #[.none, .bool false, .ref s.heap.objs.size, rawInt 0, .none, .none] }) rfl
    rw [hz] at this; exact this
  refine ⟨⟨_, he, rfl⟩, h _ he ⟨_, Heap.get?_push_of_some _ (Heap.get?_push_size _ rfl), rfl, rfl⟩ (by rw [Heap.size_push, hz]) fun b o x => Heap.get?_push_of_some _ (Heap.get?_push_of_some _ x)⟩
theorem nextOf_tuple_item {it l : Addr} {i : Nat} {items} {x : Value} {Q : Value → Shared → Prop} (hit : s.heap.IsTupleIter it l i)
    (hl : s.heap.IsTuple l items) (hx : items[i]? = some x)
    (hQ : ∀ h', h'.IsTupleIter it l (i + 1) → Heap.SameBut it s.heap h' → Q x { s with heap := h' }) :
    wpAny (model prog w) A (Builtin.SmallTypes.nextOf (.ref it)) Q E s := by
  obtain ⟨o, ho, hc, hd⟩ := id hit
  obtain ⟨ol, hol, _, nl, hdl⟩ := hl
  unfold Builtin.SmallTypes.nextOf
  refine wpAny_bind (wpAny_callSpecial?_slot (name := Str.ofString "__next__") hit.typeIs PyProof.Rows.slot_tupleiter_next
    (wpAny_call_entry PyProof.Rows.slot_tupleiter_next hit.typeIs PyProof.Rows.entry_tupleiter_next ?_ (PyProof.Rows.args_tupleiter_next _)))
  show wpAny _ _ (field (.ref it) 0 >>= _) _ _ s
  refine wpAny_bind (wpAny_field ho hd (x := .ref l) rfl ?_)
  show wpAny _ _ (if (Value.ref l == Value.none) = true then _ else _) _ _ s
  rw [if_neg (show ¬ ((Value.ref l == Value.none) = true) from Bool.false_ne_true)]
  show wpAny _ _ (field (.ref it) 1 >>= _) _ _ s
  refine wpAny_bind (wpAny_field ho hd (x := .int i 0) rfl ?_)
  show wpAny _ _ (seqItems? (.ref l) >>= _) _ _ s
  refine wpAny_bind (wpAny_seqItems hol hdl ?_)
  simp only [Int.toNat_natCast, hx]
  refine wpAny_bind (wpAny_setField ho hd (by simp) (wpAny_pure ⟨x, rfl, wpAny_pure (hQ _ ?_ (Heap.SameBut.update ..))⟩))
  exact ⟨_, Heap.get?_update_self _ ho (Obj.isFreed_of_fields (Obj.data_mapFields hd _)), (Obj.cls_mapFields ..).trans hc, by
    rw [Obj.data_mapFields hd]; simp [rawInt]⟩
theorem nextOf_tuple_end {it l : Addr} {i : Nat} {items} {Q : Value → Shared → Prop} (hh : A.handled = none)
    (hit : s.heap.IsTupleIter it l i) (hl : s.heap.IsTuple l items) (hx : items[i]? = none)
    (hE : ∀ h' e, Heap.ExtBut it s.heap h' → (∃ o, h'.get? e = some o ∧ o.cls = .type "StopIteration") → E (.ref e) { s with heap := h' }) :
    wpAny (model prog w) A (Builtin.SmallTypes.nextOf (.ref it)) Q E s := by
  obtain ⟨o, ho, hc, hd⟩ := id hit
  obtain ⟨ol, hol, _, nl, hdl⟩ := hl
  unfold Builtin.SmallTypes.nextOf
  refine wpAny_bind (wpAny_callSpecial?_slot (name := Str.ofString "__next__") hit.typeIs PyProof.Rows.slot_tupleiter_next
    (wpAny_call_entry PyProof.Rows.slot_tupleiter_next hit.typeIs PyProof.Rows.entry_tupleiter_next ?_ (PyProof.Rows.args_tupleiter_next _)))
  show wpAny _ _ (field (.ref it) 0 >>= _) _ _ s
  refine wpAny_bind (wpAny_field ho hd (x := .ref l) rfl ?_)
  show wpAny _ _ (if (Value.ref l == Value.none) = true then _ else _) _ _ s
  rw [if_neg (show ¬ ((Value.ref l == Value.none) = true) from Bool.false_ne_true)]
  show wpAny _ _ (field (.ref it) 1 >>= _) _ _ s
  refine wpAny_bind (wpAny_field ho hd (x := .int i 0) rfl ?_)
  show wpAny _ _ (seqItems? (.ref l) >>= _) _ _ s
  refine wpAny_bind (wpAny_seqItems hol hdl ?_)
  simp only [Int.toNat_natCast, hx]
  refine wpAny_bind (wpAny_rule (wpAny_bind (wpAny_setField ho hd (by simp) ?_)))
  show wpAny _ _ (newExc (.type "StopIteration") [] >>= _) _ _ _
  refine wpAny_bind ?_
  simp only [newExc, newTuple]
  refine wpAny_bind (wpAny_newObj_type ?_ (by size_fits))
  refine wpAny_bind (m := firstArgMember _ _) (wpAny_of_eq (a := Value.none) (by first | rfl | (simp only [firstArgMember]; rfl)) ?_)
  refine wpAny_newObj_type ?_ (by size_fits)
  simp only [raiseNew]
  refine wpAny_bind (wpAny_handled ?_)
  first | rw [show A.in1.handled = none from hh] | rw [hh]
  refine wpAny_bind (wpAny_pure (wpAny_throw ?_))
  exact hE _ _ (((Heap.SameBut.update ..).extBut.push _).push _) ⟨_, Heap.get?_push_size _ rfl, rfl⟩
theorem istup_at {h h' : Heap} {a : Addr} {its : Array Value} (x : h.IsTuple a its) (e : ∀ o, h.get? a = some o → h'.get? a = some o) : h'.IsTuple a its := let ⟨o, ho, r⟩ := x; ⟨o, e _ ho, r⟩
theorem draws_tuple {prog : Program} {w : World} {A : Around} (hh : A.handled = none) (it l : Addr) (hne : l ≠ it) (items : Array Value) :
    Draws prog w A it [it, l] items.size (fun i v => items[i]? = some v) (fun i h => h.IsTupleIter it l i ∧ h.IsTuple l items) where
  live := fun _ _ st => let ⟨o, ho, _⟩ := st.1; ⟨o, ho⟩
  frame := fun _ _ _ st hk => ⟨st.1.at fun o e => hk it (by simp) o e, istup_at st.2 fun o e => hk l (by simp) o e⟩
  item := fun i s Q E hi st hQ => by
    refine nextOf_tuple_item st.1 st.2 (x := items[i]) (by simp [hi]) fun h' hit' hs' => ?_
    exact hQ _ h' s.toks (by simp [hi]) ⟨hit', istup_at st.2 fun o e => hs'.extBut l o hne e⟩ hs'
  done := fun s Q E st hE => nextOf_tuple_end hh st.1 st.2 (by simp) hE
end
end HT
namespace L2
open PySem PySem.Spec PyProof.Rows
/-- the tuple at a, each item in a new pair -/
def IteT (K : PySem.W.Frag) (a : Addr) : It :=
  ⟨fun i H => ∃ (xs : List V) (x : V), SqT K H a xs ∧ xs[i]? = some x, fun i H v H' => ∃ T ob x, v = .ref T ∧ H T = none ∧ ob.dict = none ∧ H' = upd H T (.frz ob (.tup [.int (i : Nat), x])) ∧ ∀ xs, SqT K H a xs → xs[i]? = some x, fun i H => ∃ xs : List V, SqT K H a xs ∧ xs.length ≤ i⟩
theorem turn_enumT {P : Program} {w : World} {K : PySem.W.Frag} {elts : List Expr} {kk : Nat} {tpos : Pos} (a e it : Addr) :
    Turn P w K (.Tuple elts kk tpos) (IteT K a) [e, it] e (fun i h => (∃ old, IsEnum h e it ((i : Nat) : Int) old) ∧ h.IsTupleIter it a i ∧ e ≠ it ∧ a ≠ it ∧ a ≠ e) where
  mem := by simp
  obj := fun i h st b hb => by
    obtain ⟨⟨old, he⟩, ⟨o, ho, hc, hd⟩, _⟩ := st
    have e' : b = e ∨ b = it := by simpa using hb
    rcases e' with z | z
    · rw [z]; exact ⟨_, he, fun v q => nomatch q⟩
    · rw [z]; exact ⟨o, ho, fun v q => by rw [hd] at q; cases q⟩
  keep := fun i h h' st k => let ⟨⟨old, he⟩, hi, hne⟩ := st; ⟨⟨old, k e (by simp) _ he⟩, hi.at fun o q => k it (by simp) o q, hne⟩
  item := by
    intro X hP hw hK hc i pins s σ H E I hf st hg
    subst hP hw hK
    obtain ⟨⟨old, he⟩, hit, hne, hai, hae⟩ := st
    obtain ⟨xs, x, hq, hx⟩ := hg
    obtain ⟨its, rv, p, hz⟩ := I.tuple hq
    obtain ⟨u, hu, ru⟩ := rv.get hx
    have hel : e < s.heap.objs.size := Heap.lt_size he
    have hil : it < s.heap.objs.size := by obtain ⟨_, q, _⟩ := hit; exact Heap.lt_size q
    have hlt : i < its.toArray.size := by simpa using (List.getElem?_eq_some_iff.mp hu).1
    refine wpAny_pyNext_enum_itemD (HT.draws_tuple (show X.A.in1.handled = none from I.ok.hd hc) it a hai its.toArray) he ⟨hit, show s.heap.IsTuple a its.toArray from p⟩ hlt hne (by simp [hne, Ne.symm hae]) fun x' h' tk hPx ho hst' hT hsz hk => ?_
    have ex : x' = u := by
      have hPx : its.toArray[i]? = some x' := hPx
      rw [← Array.getElem?_toList] at hPx
      have e2 : its[i]? = some x' := hPx
      rw [hu] at e2
      exact (Option.some.inj e2).symm
    subst ex
    refine ⟨_, rfl, wpAny_letOwnedTupleGo_enum (s := { s with heap := h', toks := tk + 1 }) ho fun h'' he' sb => ?_⟩
    have hT2 : h''.get? s.heap.objs.size = some { cls := .type "tuple", data := .seq #[.int i tk, x'] } := (sb.2 _ (Nat.ne_of_gt hel)).trans hT
    have new : ObjOk X.prog X.w (upd H s.heap.objs.size (.frz (tupOb [.int i tk, x']) (.tup [.int (i : Nat), x]))) h'' s.heap.objs.size (.frz (tupOb [.int i tk, x']) (.tup [.int (i : Nat), x])) :=
      ⟨hT2, by show 2 ≤ sizeLine; decide, [.int i tk, x'], .cons ⟨_, rfl⟩ (.cons ru .nil), ⟨_, hT2, rfl, _, rfl⟩⟩
    have I1 : Inv X pins σ (upd H s.heap.objs.size (.frz (tupOb [.int i tk, x']) (.tup [.int (i : Nat), x]))) { s with heap := h'', toks := tk + 1 } :=
      I.turnedNew (ch := [e, it]) (fun b ob hb q => (sb.2 b (fun z => hb (by simp [z]))).trans (hk b ob (fun z => hb (by simp [z])) (fun z => hb (by simp [z])) q)) hf (Nat.le_refl _) new
    refine ⟨.ref s.heap.objs.size, _, I1, rfl, ⟨_, _, x, rfl, I.hok.fresh (Nat.le_refl _), rfl, rfl, fun ys hy => by rw [I.tuple_inj hy hq]; exact hx⟩, ⟨⟨x', ?_⟩, hst'.1.at fun o q => (sb.2 it (Ne.symm hne)).trans q, hne, hai, hae⟩, fun b hb => ?_⟩
    · have e1 : ((i + 1 : Nat) : Int) = (i : Int) + 1 := by omega
      rw [e1]; exact he'
    · have hb' : b < s.heap.objs.size := by
        have e' : b = e ∨ b = it := by simpa using hb
        rcases e' with z | z
        · rw [z]; exact hel
        · rw [z]; exact hil
      rw [upd_ne (Nat.ne_of_lt hb')]
      exact (hf b hb).1
  done := by
    intro X hP hw hK hc i pins s σ H E I hf st hg
    subst hP hw hK
    obtain ⟨⟨old, he⟩, hit, hne, hai, hae⟩ := st
    obtain ⟨xs, hq, hx⟩ := hg
    obtain ⟨its, rv, p, hz⟩ := I.tuple hq
    obtain ⟨f0, f1, f2, f3, f4, f5⟩ := hf it (by simp)
    have hl := rv.length
    have hT : s.TypeIs (.ref e) "enumerate" := ⟨_, he, rfl⟩
    unfold pyNext
    refine wpAny_bind (wpAny_attempt (wpAny_callSpecial?_slot (name := Str.ofString "__next__") hT F.slot_enumerate_next
      (wpAny_call_entry F.slot_enumerate_next hT F.entry_enumerate_next ?_ (F.args_enumerate_next_1 _))))
    show wpAny _ _ (field (.ref e) 2 >>= _) _ _ _
    refine wpAny_bind (wpAny_field he rfl (x := .ref it) rfl ?_)
    refine wpAny_bind (HT.nextOf_tuple_end (I.ok.hd hc) hit (show s.heap.IsTuple a its.toArray from p) (by simp; omega) fun h' x he' hx' => ?_)
    obtain ⟨o, ho, hc2⟩ := hx'
    refine wpAny_bind (wpAny_isInstance (T := "StopIteration") (b := true) ⟨o, ho, hc2⟩ isSubtype_stop ?_)
    exact wpAny_pure ⟨rfl, I.turned (t' := s.toks) (fun b o hb q => he' b o hb q) f0 f1 f3 f4 f5⟩
  self := fun A i s Q E st h => let ⟨⟨_, he⟩, _⟩ := st; wpAny_pyIter_enum he h
def iEnumT0 (K : PySem.W.Frag) (ta : TA) : TI := fun σ H R => ta σ H fun vs H1 => ∃ a xs, vs = [.ref a] ∧ SqT K H1 a xs ∧ R (IteT K a) H1
theorem pi_enumT {X : Cx} {e : Expr} {ta : TA} {p pos tpos : Pos} {elts : List Expr} {kk : Nat} (hg : Gl X "enumerate") (hm : X.mg "enumerate" = none) (ha : PA X [e] ta) (hs : starEach [e] X.env = [(false, eval e X.env)] := by rfl) :
    PI X (.Tuple elts kk tpos) (.Call (.Name "enumerate" p) [e] [] pos) (iEnumT0 X.K ta) := by
  refine ⟨fun pins s σ H R I h => ?_⟩
  refine Call_ (ld_blt I hg hm boot_enumerate (PyProof.Rows.callWith_type1 (thn (ha.run pos pins s σ H _ I h) fun us s1 ⟨vs, H1, I1, r1, q1⟩ => ?_) hs rfl))
  obtain ⟨a, xs, ex, hq, q⟩ := q1
  subst ex
  cases r1 with
  | cons r rr =>
    cases rr
    cases r
    obtain ⟨its, rv, p', hz⟩ := I1.tuple hq
    have hal : a < s1.heap.objs.size := by obtain ⟨o, ho, _⟩ := p'; exact Heap.lt_size ho
    refine HT.call_enumerate_tuple (show s1.heap.IsTuple a its.toArray from p') fun h' he hit hsz hk => wpAny_pyIter_enum he ?_
    have I2 : Inv X pins σ H1 { s1 with heap := h' } := I1.kept (t' := s1.toks) hk
    refine ⟨s1.heap.objs.size + 1, [s1.heap.objs.size + 1, s1.heap.objs.size], _, _, H1, rfl, I2, turn_enumT a (s1.heap.objs.size + 1) s1.heap.objs.size, ⟨⟨.none, he⟩, hit, Nat.succ_ne_self _, Nat.ne_of_lt hal, Nat.ne_of_lt (Nat.lt_succ_of_lt hal)⟩, fun b hb => ?_, q⟩
    have e' : b = s1.heap.objs.size + 1 ∨ b = s1.heap.objs.size := by simpa using hb
    have hle : s1.heap.objs.size ≤ b := by
      rcases e' with z | z
      · rw [z]; exact Nat.le_add_right _ _
      · rw [z]; exact Nat.le_refl _
    exact I1.fpOk hle (I1.hok.fresh hle)
/-- the list at a, each item in a new pair of no dict -/
def IteN (K : PySem.W.Frag) (a : Addr) : It :=
  ⟨fun i H => ∃ (xs : List V) (x : V), SqL K H a xs ∧ xs[i]? = some x, fun i H v H' => ∃ T ob x, v = .ref T ∧ H T = none ∧ ob.dict = none ∧ H' = upd H T (.frz ob (.tup [.int (i : Nat), x])) ∧ ∀ xs, SqL K H a xs → xs[i]? = some x, fun i H => ∃ xs : List V, SqL K H a xs ∧ xs.length ≤ i⟩
theorem turn_enumN {P : Program} {w : World} {K : PySem.W.Frag} {elts : List Expr} {kk : Nat} {tpos : Pos} (a e it : Addr) :
    Turn P w K (.Tuple elts kk tpos) (IteN K a) [e, it] e (fun i h => (∃ old, IsEnum h e it ((i : Nat) : Int) old) ∧ h.IsListIter it a i ∧ e ≠ it) where
  mem := by simp
  obj := fun i h st b hb => by
    obtain ⟨⟨old, he⟩, ⟨o, ho, hc, hd⟩, _⟩ := st
    have e' : b = e ∨ b = it := by simpa using hb
    rcases e' with z | z
    · rw [z]; exact ⟨_, he, fun v q => nomatch q⟩
    · rw [z]; exact ⟨o, ho, fun v q => by rw [hd] at q; cases q⟩
  keep := fun i h h' st k => let ⟨⟨old, he⟩, hi, hne⟩ := st; ⟨⟨old, k e (by simp) _ he⟩, hi.at fun o q => k it (by simp) o q, hne⟩
  item := by
    intro X hP hw hK hc i pins s σ H E I hf st hg
    subst hP hw hK
    obtain ⟨⟨old, he⟩, hit, hne⟩ := st
    obtain ⟨xs, x, hq, hx⟩ := hg
    obtain ⟨its, rv, p, hz⟩ := I.list hq
    obtain ⟨u, hu, ru⟩ := rv.get hx
    have hel : e < s.heap.objs.size := Heap.lt_size he
    have hil : it < s.heap.objs.size := by obtain ⟨_, q, _⟩ := hit; exact Heap.lt_size q
    refine wpAny_pyNext_enum_item he hit p.isList (x := u) (by simpa using hu) hne fun h' ho hit' hT hsz hk => ?_
    refine ⟨_, rfl, wpAny_letOwnedTupleGo_enum (s := { s with heap := h', toks := s.toks + 1 }) ho fun h'' he' sb => ?_⟩
    have hT2 : h''.get? s.heap.objs.size = some { cls := .type "tuple", data := .seq #[.int i s.toks, u] } := (sb.2 _ (Nat.ne_of_gt hel)).trans hT
    have new : ObjOk X.prog X.w (upd H s.heap.objs.size (.frz (tupOb [.int i s.toks, u]) (.tup [.int (i : Nat), x]))) h'' s.heap.objs.size (.frz (tupOb [.int i s.toks, u]) (.tup [.int (i : Nat), x])) :=
      ⟨hT2, by show 2 ≤ sizeLine; decide, [.int i s.toks, u], .cons ⟨_, rfl⟩ (.cons ru .nil), ⟨_, hT2, rfl, _, rfl⟩⟩
    have I1 : Inv X pins σ (upd H s.heap.objs.size (.frz (tupOb [.int i s.toks, u]) (.tup [.int (i : Nat), x]))) { s with heap := h'', toks := s.toks + 1 } :=
      I.turnedNew (ch := [e, it]) (fun b ob hb q => (sb.2 b (fun z => hb (by simp [z]))).trans (hk b ob (fun z => hb (by simp [z])) (fun z => hb (by simp [z])) q)) hf (Nat.le_refl _) new
    refine ⟨.ref s.heap.objs.size, _, I1, rfl, ⟨_, _, x, rfl, I.hok.fresh (Nat.le_refl _), rfl, rfl, fun ys hy => by rw [I.list_inj hy hq]; exact hx⟩, ⟨⟨u, ?_⟩, hit'.at fun o q => (sb.2 it (Ne.symm hne)).trans q, hne⟩, fun b hb => ?_⟩
    · have e1 : ((i + 1 : Nat) : Int) = (i : Int) + 1 := by omega
      rw [e1]; exact he'
    · have hb' : b < s.heap.objs.size := by
        have e' : b = e ∨ b = it := by simpa using hb
        rcases e' with z | z
        · rw [z]; exact hel
        · rw [z]; exact hil
      rw [upd_ne (Nat.ne_of_lt hb')]
      exact (hf b hb).1
  done := by
    intro X hP hw hK hc i pins s σ H E I hf st hg
    subst hP hw hK
    obtain ⟨⟨old, he⟩, hit, hne⟩ := st
    obtain ⟨xs, hq, hx⟩ := hg
    obtain ⟨its, rv, p, hz⟩ := I.list hq
    obtain ⟨f0, f1, f2, f3, f4, f5⟩ := hf it (by simp)
    have hl := rv.length
    exact wpAny_pyNext_enum_end (I.ok.hd hc) he hit p.isList (by simp; omega) fun h' eb => ⟨rfl, I.turned (t' := s.toks) (fun b o hb q => eb b o hb q) f0 f1 f3 f4 f5⟩
  self := fun A i s Q E st h => let ⟨⟨_, he⟩, _⟩ := st; wpAny_pyIter_enum he h
def iEnumN0 (K : PySem.W.Frag) (ta : TA) : TI := fun σ H R => ta σ H fun vs H1 => ∃ a xs, vs = [.ref a] ∧ SqL K H1 a xs ∧ R (IteN K a) H1
theorem pi_enumN {X : Cx} {e : Expr} {ta : TA} {p pos tpos : Pos} {elts : List Expr} {kk : Nat} (hg : Gl X "enumerate") (hm : X.mg "enumerate" = none) (ha : PA X [e] ta) (hs : starEach [e] X.env = [(false, eval e X.env)] := by rfl) :
    PI X (.Tuple elts kk tpos) (.Call (.Name "enumerate" p) [e] [] pos) (iEnumN0 X.K ta) := by
  refine ⟨fun pins s σ H R I h => ?_⟩
  refine Call_ (ld_blt I hg hm boot_enumerate (PyProof.Rows.callWith_type1 (thn (ha.run pos pins s σ H _ I h) fun us s1 ⟨vs, H1, I1, r1, q1⟩ => ?_) hs rfl))
  obtain ⟨a, xs, ex, hq, q⟩ := q1
  subst ex
  cases r1 with
  | cons r rr =>
    cases rr
    cases r
    obtain ⟨its, rv, p', hz⟩ := I1.list hq
    refine call_enumerate_list p'.isList fun h' he hit hsz hk => wpAny_pyIter_enum he ?_
    have I2 : Inv X pins σ H1 { s1 with heap := h' } := I1.kept (t' := s1.toks) hk
    refine ⟨s1.heap.objs.size + 1, [s1.heap.objs.size + 1, s1.heap.objs.size], _, _, H1, rfl, I2, turn_enumN a (s1.heap.objs.size + 1) s1.heap.objs.size, ⟨⟨.none, he⟩, hit, Nat.succ_ne_self _⟩, fun b hb => ?_, q⟩
    have e' : b = s1.heap.objs.size + 1 ∨ b = s1.heap.objs.size := by simpa using hb
    have hle : s1.heap.objs.size ≤ b := by
      rcases e' with z | z
      · rw [z]; exact Nat.le_add_right _ _
      · rw [z]; exact Nat.le_refl _
    exact I1.fpOk hle (I1.hok.fresh hle)
end L2
set_option Elab.async false
set_option linter.all false
set_option maxRecDepth 100000
set_option maxHeartbeats 2000000
/-! The generic layer, part 2: results, readings, their composition; names, constants, operators, tests. -/
namespace U
open PySem PySem.Spec PyProof.Rows L2

inductive Res (α : Type) where
  | ok (a : α) (h : Hh)
  | exn (c : Nat) (fs : List PV) (h : Hh)
  | stuck
@[simp] def Res.bind {α β : Type} (r : Res α) (k : α → Hh → Res β) : Res β := match r with
  | .ok a h => k a h
  | .exn c fs h => .exn c fs h
  | .stuck => .stuck
/-- a fact of the object: else the own semantics has no answer -/
@[simp] def Res.guard {α : Type} (b : Prop) [Decidable b] (r : Res α) : Res α := if b then r else .stuck
abbrev Mv (α : Type) := Ev0 → Hh → Res α
abbrev Ev := Mv PV
abbrev Tv := Mv Bool
abbrev Lv := Mv (List PV)

variable [Tab]
/-- an exception's own dict -/
def RX (K : PySem.W.Frag) (w : Wd) (c : Nat) (fs : List PV) (d : Option Addr) : Prop :=
  (fs = [] ∧ d = none) ∨ ∃ a gs, d = some a ∧ w.H a = some (.xd gs) ∧ ∀ (j : Nat) (f : Str) (v : PV), (cF c)[j]? = some f → fs[j]? = some v → ∃ x, gs.lookup f = some x ∧ RV K w v x
/-- what is wanted of a result, from the world w on -/
def Post {α β : Type} (K : PySem.W.Frag) (W : WX) (w : Wd) (R : Wd → Wd → α → β → Prop) (r : Res α) (σ : L2.St) (Q : β → Hp → Prop) : Prop := match r with
  | .ok v h => ∀ w' x, Ext K w w' → RH K w' h → R w w' v x → Q x w'.H
  | .exn c fs h => ∀ w' d, Ext K w w' → RH K w' h → RX K w' c fs d → W (.ref (He.ga K (cN c))) d σ w'.H
  | .stuck => False
/-- a relation that goes back -/
def Back {α β : Type} (K : PySem.W.Frag) (R : Wd → Wd → α → β → Prop) : Prop := ∀ w w1 w2 v x, Ext K w w1 → R w1 w2 v x → R w w2 v x
section
variable {K : PySem.W.Frag} {W : WX} {w w' : Wd} {σ : L2.St} {α β γ δ : Type} {R : Wd → Wd → α → β → Prop} {R2 : Wd → Wd → γ → δ → Prop}
theorem Post.ext (hb : Back K R) {r : Res α} {Q : β → Hp → Prop} (h : Post K W w R r σ Q) (x : Ext K w w') : Post K W w' R r σ Q := by
  cases r with
  | ok v h1 => exact fun w2 y e rh q => h w2 y (x.trans e) rh (hb _ _ _ _ _ x q)
  | exn c fs h1 => exact fun w2 d e rh q => h w2 d (x.trans e) rh q
  | stuck => exact h
/-- a step: what is known behind it -/
def Beh (K : PySem.W.Frag) (W : WX) (w : Wd) (R : Wd → Wd → α → β → Prop) (R2 : Wd → Wd → γ → δ → Prop) (k : α → Hh → Res γ) (σ : L2.St) (Q : δ → Hp → Prop) (x : β) (H1 : Hp) : Prop :=
  ∃ w' v h', w'.H = H1 ∧ Ext K w w' ∧ RH K w' h' ∧ R w w' v x ∧ Post K W w' R2 (k v h') σ Q
theorem Post.bind (hb : Back K R2) {r : Res α} {k : α → Hh → Res γ} {Q : δ → Hp → Prop} (h : Post K W w R2 (r.bind k) σ Q) : Post K W w R r σ (Beh K W w R R2 k σ Q) := by
  cases r with
  | ok v h1 => exact fun w' x e rh q => ⟨w', v, h1, rfl, e, rh, q, Post.ext hb h e⟩
  | exn c fs h1 => exact h
  | stuck => exact h
theorem Post.mono {r : Res α} {Q Q' : β → Hp → Prop} (h : Post K W w R r σ Q) (hq : ∀ x H, Q x H → Q' x H) : Post K W w R r σ Q' := by
  cases r with
  | ok v h1 => exact fun w' x e rh q => hq _ _ (h w' x e rh q)
  | exn c fs h1 => exact h
  | stuck => exact h
/-- a result that is had at once -/
theorem Post.now {v : α} {h : Hh} {Q : β → Hp → Prop} (p : Post K W w R (.ok v h) σ Q) {x : β} (rh : RH K w h) (q : R w w v x) : Q x w.H := p w x (Ext.refl w) rh q
end

/-- a reading by the own semantics -/
def tR {α β : Type} (K : PySem.W.Frag) (W : WX) (R : Wd → Wd → α → β → Prop) (m : Mv α) : L2.St → Hp → (β → Hp → Prop) → Prop := fun σ H Q =>
  ∃ w s h, w.H = H ∧ RH K w h ∧ RS K w s σ ∧ Post K W w R (m s h) σ Q
abbrev Re (K : PySem.W.Frag) : Wd → Wd → PV → V → Prop := fun _ w v x => RV K w v x
abbrev Rb : Wd → Wd → Bool → Bool → Prop := fun _ _ a b => a = b
/-- a list that nobody else holds -/
structure RL (K : PySem.W.Frag) (w : Wd) (xs : List PV) (p : Addr) (vs : List V) : Prop where
  at_ : w.H p = some (.lst vs)
  rel : RVs K w xs vs
  out : ∀ i, i < w.n → w.ρ i ≠ p
abbrev Rl (K : PySem.W.Frag) : Wd → Wd → List PV → V → Prop := fun w w' xs x => ∃ p vs, x = .ref p ∧ RL K w' xs p vs ∧ w.H p = none
/-- an argument: a value, or a list that nobody else holds -/
inductive AV where
  | val (v : PV) | tmp (xs : List PV)
def RA1 (K : PySem.W.Frag) (w : Wd) : AV → V → Prop
  | .val v, x => RV K w v x
  | .tmp xs, x => ∃ p vs, x = .ref p ∧ RL K w xs p vs
def RAs1 (K : PySem.W.Frag) (w : Wd) : List AV → List V → Prop
  | [], vs => vs = []
  | a :: as, vs => ∃ v r, vs = v :: r ∧ RA1 K w a v ∧ RAs1 K w as r
abbrev Ra (K : PySem.W.Frag) : Wd → Wd → AV → V → Prop := fun _ w a x => RA1 K w a x
abbrev Ras (K : PySem.W.Frag) : Wd → Wd → List AV → List V → Prop := fun _ w a x => RAs1 K w a x
section
variable {K : PySem.W.Frag} {w w' : Wd}
theorem back_e : Back K (Re K) := fun _ _ _ _ _ _ h => h
theorem back_b : Back K Rb := fun _ _ _ _ _ _ h => h
theorem back_a : Back K (Ra K) := fun _ _ _ _ _ _ h => h
theorem back_as : Back K (Ras K) := fun _ _ _ _ _ _ h => h
theorem back_l : Back K (Rl K) := fun w w1 w2 v x e h => by
  obtain ⟨p, vs, e1, q, n⟩ := h
  refine ⟨p, vs, e1, q, ?_⟩
  cases z : w.H p with
  | none => rfl
  | some o =>
    obtain ⟨o', z'⟩ := e.there p o z
    rw [n] at z'
    cases z'
theorem RL.ext {xs : List PV} {p : Addr} {vs : List V} (r : RL K w xs p vs) (x : Ext K w w') : RL K w' xs p vs where
  at_ := x.frame _ _ r.at_ r.out
  rel := r.rel.ext x
  out := fun i hi e => by
    by_cases h : i < w.n
    · rw [x.ρ i h] at e
      exact r.out i h e
    · have q := x.new i (by omega) hi
      rw [e, r.at_] at q
      cases q
theorem RA1.ext (x : Ext K w w') : ∀ {a : AV} {v : V}, RA1 K w a v → RA1 K w' a v
  | .val _, _, h => RV.ext x h
  | .tmp _, _, ⟨p, vs, e, h⟩ => ⟨p, vs, e, h.ext x⟩
theorem RAs1.ext (x : Ext K w w') : ∀ {as : List AV} {vs : List V}, RAs1 K w as vs → RAs1 K w' as vs
  | [], _, h => h
  | _ :: _, _, ⟨v, r, e, h1, h2⟩ => ⟨v, r, e, RA1.ext x h1, RAs1.ext x h2⟩
theorem RAs1.len : ∀ {xs : List AV} {vs : List V}, RAs1 K w xs vs → vs.length = xs.length
  | [], _, h => by rw [show _ = [] from h]; rfl
  | _ :: _, _, h => by obtain ⟨v, r, rfl, _, h2⟩ := h; simp [RAs1.len h2]
end

/-! ### judgements -/
section
variable {X : Cx} {W : WX} {e a b : Expr} {es : List Expr}
def SimE (X : Cx) (W : WX) (e : Expr) (m : Ev) : Prop := PE X e (tR X.K W (Re X.K) m)
def SimT (X : Cx) (W : WX) (e : Expr) (m : Tv) : Prop := PT X e (tR X.K W Rb m)
def SimW (X : Cx) (W : WX) (e : Expr) (m : Tv) : Prop := PW X e (tR X.K W Rb m)
def SimL (X : Cx) (W : WX) (e : Expr) (m : Lv) : Prop := PE X e (tR X.K W (Rl X.K) m)
def SimV (X : Cx) (W : WX) (e : Expr) (m : Mv AV) : Prop := PE X e (tR X.K W (Ra X.K) m)
def SimA (X : Cx) (W : WX) (es : List Expr) (m : Mv (List AV)) : Prop := PA X es (tR X.K W (Ras X.K) m)
theorem pe_imp {t t' : TE} (h : PE X e t) (i : ∀ σ H Q, t' σ H Q → t σ H Q) : PE X e t' := ⟨fun pins s σ H Q I q => h.run pins s σ H Q I (i σ H Q q)⟩
theorem pt_imp {t t' : TT} (h : PT X e t) (i : ∀ σ H Q, t' σ H Q → t σ H Q) : PT X e t' := ⟨fun pins s σ H Q I q => h.run pins s σ H Q I (i σ H Q q)⟩
theorem pw_imp {t t' : TT} (h : PW X e t) (i : ∀ σ H Q, t' σ H Q → t σ H Q) : PW X e t' := ⟨fun wh pins s σ H Q I q => h.run wh pins s σ H Q I (i σ H Q q)⟩
theorem pa_imp {t t' : TA} (h : PA X es t) (i : ∀ σ H Q, t' σ H Q → t σ H Q) : PA X es t' := ⟨fun pos pins s σ H Q I q => h.run pos pins s σ H Q I (i σ H Q q)⟩
theorem tR_bind {α β γ δ : Type} {K : PySem.W.Frag} {R : Wd → Wd → α → β → Prop} {R2 : Wd → Wd → γ → δ → Prop} (hb : Back K R2) {m : Mv α} {k : Ev0 → α → Hh → Res γ} {σ : L2.St} {H : Hp} {Q : δ → Hp → Prop} {C : β → Hp → Prop}
    (h : tR K W R2 (fun s h => (m s h).bind (k s)) σ H Q)
    (c : ∀ w w' s v x h', Ext K w w' → RS K w' s σ → RH K w' h' → R w w' v x → Post K W w' R2 (k s v h') σ Q → C x w'.H) : tR K W R m σ H C := by
  obtain ⟨w, s, hh, e, rh, rs, p⟩ := h
  refine ⟨w, s, hh, e, rh, rs, (Post.bind hb p).mono fun x H1 q => ?_⟩
  obtain ⟨w', v, h', e1, x1, rh1, q1, p1⟩ := q
  subst e1
  exact c w w' s v x h' x1 (rs.ext x1) rh1 q1 p1
theorem tR_mk {α β : Type} {K : PySem.W.Frag} {R : Wd → Wd → α → β → Prop} {m : Mv α} {σ : L2.St} {w : Wd} {s : Ev0} {h : Hh} {Q : β → Hp → Prop} (rh : RH K w h) (rs : RS K w s σ) (p : Post K W w R (m s h) σ Q) : tR K W R m σ w.H Q :=
  ⟨w, s, h, rfl, rh, rs, p⟩

/-- a part behind another -/
theorem tR_next {α β γ δ : Type} {K : PySem.W.Frag} {R : Wd → Wd → α → β → Prop} {R2 : Wd → Wd → γ → δ → Prop} (hb : Back K R2) {m : Mv α} {w : Wd} {s : Ev0} {h : Hh} {k : α → Hh → Res γ} {σ : L2.St} {Q : δ → Hp → Prop} {C : β → Hp → Prop}
    (rh : RH K w h) (rs : RS K w s σ) (p : Post K W w R2 ((m s h).bind k) σ Q)
    (c : ∀ w' v x h', Ext K w w' → RH K w' h' → R w w' v x → Post K W w' R2 (k v h') σ Q → C x w'.H) : tR K W R m σ w.H C :=
  tR_mk rh rs ((Post.bind hb p).mono fun x H1 q => by
    obtain ⟨w', v, h', e1, x1, rh1, q1, p1⟩ := q
    subst e1
    exact c w' v x h' x1 rh1 q1 p1)

/-! ### names, constants -/
@[simp] def eVar (i : Nat) : Ev := fun s h => match s[i]? with
  | some (some v) => .ok v h
  | _ => .stuck
@[simp] def eC (v : PV) : Ev := fun _ h => .ok v h
theorem se_var (i : Nat) {x : Str} {pos : Pos} (hN : X.N[i]? = some x := by rfl) (hv : Vis X.env.scope x := by first | exact Or.inl rfl | exact Or.inr (Or.inl rfl) | exact Or.inr (Or.inr rfl)) (hd : (x == ("__debug__" : Str)) = false := by decide)
    (hcd : (x == ("__classdict__" : Str)) = false := by decide) : SimE X W (.Name x pos) (eVar i) := by
  refine pe_imp (pe_var hN hv hd hcd) fun σ H Q h => ?_
  obtain ⟨w, s, hh, rfl, rh, rs, p⟩ := h
  unfold eVar at p
  split at p
  · rename_i v hv
    obtain ⟨x, e, r⟩ := rs.get i v hv
    exact ⟨x, e, p.now rh r⟩
  · exact p.elim
theorem se_const {t : TE} {v : PV} {x : V} (h : PE X e t) (ht : ∀ σ H Q, Q x H → t σ H Q) (r : ∀ w, RV X.K w v x) : SimE X W e (eC v) :=
  pe_imp h fun σ H Q q => by
    obtain ⟨w, s, hh, rfl, rh, rs, p⟩ := q
    exact ht σ _ Q (Post.now p rh (r w))
theorem se_int {i j pos} : SimE X W (.Constant (.int i) j pos) (eC (.int i)) := se_const pe_int (fun _ _ _ q => q) fun _ => rfl
theorem se_bl {b j pos} : SimE X W (.Constant (.bool b) j pos) (eC (.bl b)) := se_const pe_bl (fun _ _ _ q => q) fun _ => rfl
theorem se_non {j pos} : SimE X W (.Constant .none j pos) (eC .non) := se_const pe_non (fun _ _ _ q => q) fun _ => rfl
theorem se_str {x : Str} {y : List Nat} {j pos} (e : x = ⟨y.toArray⟩) : SimE X W (.Constant (.str x) j pos) (eC (.str y)) := se_const pe_str (fun _ _ _ q => q) fun _ => by subst e; rfl
/-- a constant of the module -/
theorem se_gint {x : Str} {pos : Pos} {i : Int} (hg : Gl X x) (hm : ∃ t, X.mg x = some (.int i t)) (hd : (x == ("__debug__" : Str)) = false := by decide) : SimE X W (.Name x pos) (eC (.int i)) := by
  obtain ⟨t, hm⟩ := hm
  exact se_const (x := .int i) (pe_glob hg hm (show RelV (.int i) _ from ⟨t, rfl⟩) hd) (fun _ _ _ q => q) fun _ => rfl
theorem se_gstr {x z : Str} {y : List Nat} {pos : Pos} (hg : Gl X x) (hm : ∃ t, X.mg x = some (.str z t)) (e : z = ⟨y.toArray⟩) (hd : (x == ("__debug__" : Str)) = false := by decide) : SimE X W (.Name x pos) (eC (.str y)) := by
  obtain ⟨t, hm⟩ := hm
  exact se_const (x := .str z) (pe_glob hg hm (show RelV (.str z) _ from ⟨t, rfl⟩) hd) (fun _ _ _ q => q) fun _ => by subst e; rfl

/-! ### arguments -/
@[simp] def aV (m : Ev) : Mv AV := fun s h => (m s h).bind fun v h => .ok (.val v) h
@[simp] def aT (m : Lv) : Mv AV := fun s h => (m s h).bind fun v h => .ok (.tmp v) h
@[simp] def aNil : Mv (List AV) := fun _ h => .ok [] h
@[simp] def aCons (a : Mv AV) (r : Mv (List AV)) : Mv (List AV) := fun s h => (a s h).bind fun v h => (r s h).bind fun vs h => .ok (v :: vs) h
theorem sv_val {m : Ev} (h : SimE X W e m) : SimV X W e (aV m) := pe_imp h fun σ H Q q => tR_bind back_a q fun w w' s v x h' x1 rs rh r p => p.now rh r
theorem sv_tmp {m : Lv} (h : SimL X W e m) : SimV X W e (aT m) := pe_imp h fun σ H Q q => tR_bind back_a q fun w w' s v x h' x1 rs rh r p => by
  obtain ⟨q, vs, e, r, _⟩ := r
  exact p.now rh ⟨q, vs, e, r⟩
theorem sa_nil : SimA X W [] aNil := pa_imp pa_nil fun σ H Q q => by
  obtain ⟨w, s, hh, rfl, rh, rs, p⟩ := q
  exact p.now rh rfl
theorem sa_cons {m : Mv AV} {r : Mv (List AV)} (h : SimV X W e m) (hr : SimA X W es r) (hs : starEach (e :: es) X.env = (false, eval e X.env) :: starEach es X.env := by rfl) : SimA X W (e :: es) (aCons m r) :=
  pa_imp (pa_cons h hr hs) fun σ H Q q => tR_bind back_as q fun w w' s v x h' x1 rs rh rv p =>
    tR_next back_as rh rs p fun w2 vs xs h2 x2 rh2 rvs p2 => p2.now rh2 ⟨x, xs, rfl, RA1.ext x2 rv, rvs⟩

/-! ### operators -/
/-- an operation on two values -/
abbrev F2 := PV → PV → Hh → Res PV
def OpSim (K : PySem.W.Frag) (f : F2) (r : R2) : Prop := ∀ (W : WX) (w : Wd) (σ : L2.St) (h : Hh) (v u : PV) (x y : V) (Q : VK), RH K w h → RV K w v x → RV K w u y → Post K W w (Re K) (f v u h) σ Q → r x y w.H Q
@[simp] def e2 (f : F2) (a b : Ev) : Ev := fun s h => (a s h).bind fun v h => (b s h).bind fun u h => f v u h
theorem two {f : F2} {r : R2} (hf : OpSim X.K f r) {ma mb : Ev} {σ : L2.St} {H : Hp} {Q : VK} (q : tR X.K W (Re X.K) (e2 f ma mb) σ H Q) : tOp r (tR X.K W (Re X.K) ma) (tR X.K W (Re X.K) mb) σ H Q :=
  tR_bind back_e q fun w w' s v x h' x1 rs rh rv p => tR_next back_e rh rs p fun w2 u y h2 x2 rh2 ru p2 => hf W w2 σ h2 v u x y Q rh2 (rv.ext x2) ru p2
theorem se_bin {op : Operator} {f : F2} {r : R2} {pos : Pos} {ma mb : Ev} (ho : OpR X (binaryOp op) r) (hf : OpSim X.K f r) (ha : SimE X W a ma) (hb : SimE X W b mb) : SimE X W (.BinOp a op b pos) (e2 f ma mb) :=
  pe_imp (pe_op ho ha hb) fun σ H Q q => two hf q
theorem se_cmp {op : CmpOp} {f : F2} {r : R2} {pos : Pos} {ma mb : Ev} (ho : OpR X (compareOp op) r) (hf : OpSim X.K f r) (ha : SimE X W a ma) (hb : SimE X W b mb) (hm : behindInMarks op b = false) : SimE X W (.Compare a [op] [b] pos) (e2 f ma mb) :=
  pe_imp (pe_cmpR ho ha hb hm) fun σ H Q q => two hf q
/-- the truth of a bool -/
@[simp] def isB (v : PV) (h : Hh) : Res Bool := match v with
  | .bl b => .ok b h
  | _ => .stuck
@[simp] def tB1 (m : Ev) : Tv := fun s h => (m s h).bind isB
theorem post_isB {K : PySem.W.Frag} {w : Wd} {h : Hh} {v : PV} {x : V} {σ : L2.St} {Q : Bool → Hp → Prop} (rh : RH K w h) (r : RV K w v x) (p : Post K W w Rb (isB v h) σ Q) : ∃ k, x = .bl k ∧ Q k w.H := by
  cases v with
  | bl b => exact ⟨b, r, p.now rh rfl⟩
  | _ => exact p.elim
theorem st_cmp {op : CmpOp} {f : F2} {r : R2} {pos : Pos} {ma mb : Ev} (ho : OpR X (compareOp op) r) (hf : OpSim X.K f r) (ha : SimE X W a ma) (hb : SimE X W b mb) (hm : behindInMarks op b = false) : SimT X W (.Compare a [op] [b] pos) (tB1 (e2 f ma mb)) :=
  pt_imp (pt_cmpR ho ha hb hm) fun σ H Q q => two hf (tR_bind back_b q fun w w' s v x h' x1 rs rh rv p => post_isB rh rv p)
/-- an expression that is a bool, as a test -/
theorem st_val {m : Ev} (h : SimE X W e m) (he : ∀ whole, isTrue e X.env whole = (do let v ← whole; standAt e.pos; holding [v] (truthy v)) := by intro _; rfl) : SimT X W e (tB1 m) :=
  pt_imp (pt_val h he) fun σ H Q q => tR_bind back_b q fun w w' s v x h' x1 rs rh rv p => post_isB rh rv p
/-! ### and, or, not, if -/
@[simp] def tAndE (a b : Tv) : Tv := fun s h => (a s h).bind fun c h => if c = true then b s h else .ok false h
@[simp] def tOrE (a b : Tv) : Tv := fun s h => (a s h).bind fun c h => if c = true then .ok true h else b s h
@[simp] def tNotE (a : Tv) : Tv := fun s h => (a s h).bind fun c h => .ok (!c) h
variable {rest : List Expr} {pos : Pos} {ta tb : Tv} {ma mb : Ev}
theorem tR_and {σ : L2.St} {H : Hp} {Q : Bool → Hp → Prop} (q : tR X.K W Rb (tAndE ta tb) σ H Q) : tAnd (tR X.K W Rb ta) (tR X.K W Rb tb) σ H Q :=
  tR_bind back_b q fun w w' s v x h' x1 rs rh rv p => by
    subst rv
    cases v with
    | true => exact tR_mk rh rs p
    | false => exact p.now rh rfl
theorem tR_or {σ : L2.St} {H : Hp} {Q : Bool → Hp → Prop} (q : tR X.K W Rb (tOrE ta tb) σ H Q) : tOr (tR X.K W Rb ta) (tR X.K W Rb tb) σ H Q :=
  tR_bind back_b q fun w w' s v x h' x1 rs rh rv p => by
    subst rv
    cases v with
    | true => exact p.now rh rfl
    | false => exact tR_mk rh rs p
end
end U
set_option Elab.async false
set_option linter.all false
set_option maxRecDepth 100000
set_option maxHeartbeats 2000000
/-! The generic layer, part 3: and, or, not as values; the operators. -/
namespace U
open PySem PySem.Spec PyProof.Rows L2
variable [Tab]
section
variable {X : Cx} {W : WX} {e a b c : Expr} {es rest : List Expr} {pos : Pos} {ta tb tc : Tv} {ma mb : Ev}
theorem st_and1 (ha : SimT X W a ta) : SimW X W (.BoolOp .And [a] pos) ta := pw_and1 ha
theorem st_or1 (ha : SimT X W a ta) : SimW X W (.BoolOp .Or [a] pos) ta := pw_or1 ha
theorem st_and (ha : SimT X W a ta) (hb : SimW X W (.BoolOp .And (b :: rest) pos) tb) : SimW X W (.BoolOp .And (a :: b :: rest) pos) (tAndE ta tb) := pw_imp (pw_and ha hb) fun σ H Q q => tR_and q
theorem st_or (ha : SimT X W a ta) (hb : SimW X W (.BoolOp .Or (b :: rest) pos) tb) : SimW X W (.BoolOp .Or (a :: b :: rest) pos) (tOrE ta tb) := pw_imp (pw_or ha hb) fun σ H Q q => tR_or q
theorem st_w (h : SimW X W e ta) : SimT X W e ta := PW.pt h
theorem st_not (ha : SimT X W a ta) : SimT X W (.UnaryOp .Not a pos) (tNotE ta) := pt_imp (pt_not ha) fun σ H Q q => tR_bind back_b q fun w w' s v x h' x1 rs rh rv p => by
  subst rv
  exact p.now rh rfl
/-- as values -/
@[simp] def eAnd (a b : Ev) : Ev := fun s h => (a s h).bind fun v h => match v with
  | .bl true => b s h
  | .bl false => .ok (.bl false) h
  | _ => .stuck
@[simp] def eOr (a b : Ev) : Ev := fun s h => (a s h).bind fun v h => match v with
  | .bl true => .ok (.bl true) h
  | .bl false => b s h
  | _ => .stuck
@[simp] def eNot (a : Ev) : Ev := fun s h => (a s h).bind fun v h => match v with
  | .bl b => .ok (.bl (!b)) h
  | _ => .stuck
theorem se_one {op : BoolOp} {m : Ev} (h : SimE X W a m) : SimE X W (.BoolOp op [a] pos) m := pe_one h
theorem se_and (ha : SimE X W a ma) (hb : SimE X W (.BoolOp .And (b :: rest) pos) mb) : SimE X W (.BoolOp .And (a :: b :: rest) pos) (eAnd ma mb) :=
  pe_imp (pe_and ha hb) fun σ H Q q => tR_bind back_e q fun w w' s v x h' x1 rs rh rv p => by
    cases v with
    | bl b =>
      cases b with
      | true => exact ⟨true, rv, by rw [if_pos rfl]; exact tR_mk rh rs p⟩
      | false => exact ⟨false, rv, by rw [if_neg Bool.false_ne_true]; exact p.now (x := .bl false) rh rfl⟩
    | _ => exact p.elim
theorem se_or (ha : SimE X W a ma) (hb : SimE X W (.BoolOp .Or (b :: rest) pos) mb) : SimE X W (.BoolOp .Or (a :: b :: rest) pos) (eOr ma mb) :=
  pe_imp (pe_or ha hb) fun σ H Q q => tR_bind back_e q fun w w' s v x h' x1 rs rh rv p => by
    cases v with
    | bl b =>
      cases b with
      | true => exact ⟨true, rv, by rw [if_pos rfl]; exact p.now (x := .bl true) rh rfl⟩
      | false => exact ⟨false, rv, by rw [if_neg Bool.false_ne_true]; exact tR_mk rh rs p⟩
    | _ => exact p.elim
theorem se_not (ha : SimE X W a ma) : SimE X W (.UnaryOp .Not a pos) (eNot ma) :=
  pe_imp (pe_not ha) fun σ H Q q => tR_bind back_e q fun w w' s v x h' x1 rs rh rv p => by
    cases v with
    | bl b => exact ⟨b, rv, p.now (x := .bl (!b)) rh rfl⟩
    | _ => exact p.elim
@[simp] def eIf {α : Type} (c : Tv) (a b : Mv α) : Mv α := fun s h => (c s h).bind fun k h => if k = true then a s h else b s h
theorem pe_ifR {R : Wd → Wd → PV → V → Prop} (hb : Back X.K R) {ma mb : Mv PV} (hc : SimT X W c tc) (h1 : PE X a (tR X.K W R ma)) (h2 : PE X b (tR X.K W R mb)) : PE X (.IfExp c a b pos) (tR X.K W R (eIf tc ma mb)) :=
  pe_imp (pe_ifExp hc h1 h2) fun σ H Q q => tR_bind hb q fun w w' s v x h' x1 rs rh rv p => by
    subst rv
    cases v with
    | true => rw [if_pos rfl]; exact tR_mk rh rs p
    | false => rw [if_neg Bool.false_ne_true]; exact tR_mk rh rs p
theorem se_if (hc : SimT X W c tc) (h1 : SimE X W a ma) (h2 : SimE X W b mb) : SimE X W (.IfExp c a b pos) (eIf tc ma mb) := pe_ifR back_e hc h1 h2
theorem sl_if {ma mb : Lv} (hc : SimT X W c tc) (h1 : SimL X W a ma) (h2 : SimL X W b mb) : SimL X W (.IfExp c a b pos) (eIf tc ma mb) :=
  pe_imp (pe_ifExp hc h1 h2) fun σ H Q q => tR_bind back_l q fun w w' s v x h' x1 rs rh rv p => by
    subst rv
    cases v with
    | true => rw [if_pos rfl]; exact tR_mk rh rs p
    | false => rw [if_neg Bool.false_ne_true]; exact tR_mk rh rs p
end

/-! ### a new list, a new tuple -/
section
variable {K : PySem.W.Frag} {W : WX} {w : Wd} {h : Hh} {σ : L2.St} {Q : VK}
/-- a new list has its place -/
@[simp] def newL (xs : List PV) (h : Hh) : Res PV := .ok (.ref h.length) (h ++ [.lst xs])
theorem post_newL {xs : List PV} {vs : List V} (rh : RH K w h) (r : RVs K w xs vs) (p : Post K W w (Re K) (newL xs h) σ Q) {q : Addr} (hq : w.H q = none) : Q (.ref q) (upd w.H q (.lst vs)) := by
  refine p (w.add q (.lst vs)) (.ref q) (Ext.add hq) (rh.add (o := .lst vs) hq ⟨vs, upd_same, r.ext (Ext.add hq)⟩) ?_
  show h.length < w.n + 1 ∧ V.ref q = V.ref ((w.add q (.lst vs)).ρ h.length)
  rw [rh.len, Wd.add_ρ]
  exact ⟨Nat.lt_succ_self _, rfl⟩
theorem post_newD {kvs : List (PKey × PV)} {ks : List (Key × V)} (rh : RH K w h) (r : RKs K w kvs ks) (p : Post K W w (Re K) (.ok (.ref h.length) (h ++ [.dic kvs])) σ Q) {q : Addr} (hq : w.H q = none) : Q (.ref q) (upd w.H q (.dK ks)) := by
  refine p (w.add q (.dK ks)) (.ref q) (Ext.add hq) (rh.add (o := .dK ks) hq ⟨ks, upd_same, r.ext (Ext.add hq)⟩) ?_
  show h.length < w.n + 1 ∧ V.ref q = V.ref ((w.add q (.dK ks)).ρ h.length)
  rw [rh.len, Wd.add_ρ]
  exact ⟨Nat.lt_succ_self _, rfl⟩
/-- a new tuple has none -/
theorem post_newT {xs : List PV} {vs : List V} (rh : RH K w h) (r : RVs K w xs vs) (p : Post K W w (Re K) (.ok (.tup xs) h) σ Q) : NewT w.H vs Q := fun q ob hq hd => by
  have x : Ext K w { w with H := upd w.H q (.frz ob (.tup vs)) } := Ext.grow (grow_upd hq)
  exact p _ (.ref q) x (rh.grow (grow_upd hq)) ⟨q, vs, rfl, .inl ⟨ob, upd_same, hd⟩, r.ext x⟩
/-- a list of ours, as the abstract heap has it -/
theorem RH.lst (rh : RH K w h) {i : Nat} {xs : List PV} (e : h[i]? = some (.lst xs)) : ∃ vs, w.H (w.ρ i) = some (.lst vs) ∧ RVs K w xs vs := rh.cell i _ e
theorem RH.dic (rh : RH K w h) {i : Nat} {xs : List (PKey × PV)} (e : h[i]? = some (.dic xs)) : ∃ vs, w.H (w.ρ i) = some (.dK vs) ∧ RKs K w xs vs := rh.cell i _ e
theorem RH.dif (rh : RH K w h) {i : Nat} {xs : List (PKey × PV)} (e : h[i]? = some (.dif xs)) : ∃ o vs, w.H (w.ρ i) = some (.frz o (.dK vs)) ∧ RKs K w xs vs := rh.cell i _ e
theorem RH.ins (rh : RH K w h) {i : Nat} {c : Nat} {fs : List (Option PV)} (e : h[i]? = some (.ins c fs)) : ∃ dx gs, w.H (w.ρ i) = some (.ins (He.ga K (cN c)) dx gs) ∧ RI K w c fs gs := rh.cell i _ e
end

/-! ### + - * // % ** -/
section
variable {X : Cx}
/-- () + u -/
def rCatT0 (K : PySem.W.Frag) : R2 := fun x y H Q => ∃ a b ys, x = .ref a ∧ y = .ref b ∧ SqT K H a [] ∧ SqT K H b ys ∧ Q (.ref b) H
theorem op_catT0 : OpR X (binaryOp .Add) (rCatT0 X.K) := by
  intro pins s σ H x y v u Q I rx ry h
  obtain ⟨a, b, ys, rfl, rfl, ha, hb, q⟩ := h
  cases rx
  cases ry
  obtain ⟨its, r1, p1, _⟩ := I.tuple ha
  obtain ⟨its2, r2, p2, _⟩ := I.tuple hb
  cases r1
  obtain ⟨⟨cls, dd, data, sl⟩, ho, hc, n, hd⟩ := id p1
  obtain ⟨⟨cls2, dd2, data2, sl2⟩, ho2, hc2, n2, hd2⟩ := id p2
  simp only at hc hd hc2 hd2
  subst hc hd hc2 hd2
  exact concat_meets ⟨_, ho, rfl⟩ ⟨_, ho2, rfl⟩ noFill_tuple_add seq_tuple_add PySem.F.slot_tuple_add PySem.F.entry_tuple_add (PySem.F.args_tuple_add_2 _ _)
      (tuple_addW0 a b _ _ n n2 dd dd2 sl sl2 (by rfl)) ⟨ho, ho2, ⟨.ref b, H, I, rfl, q⟩⟩
def fAdd : F2 := fun v u h => match v, u with
  | .int i, .int j => .ok (.int (i + j)) h
  | .str a, .str b => .guard (a.length + b.length ≤ sizeLine) (.ok (.str (a ++ b)) h)
  | .tup xs, .tup ys => .guard (xs.length + ys.length ≤ sizeLine) (.ok (.tup (xs ++ ys)) h)
  | .ref i, .ref j => (match h[i]?, h[j]? with
    | some (.lst xs), some (.lst ys) => .guard (xs.length + ys.length ≤ sizeLine) (newL (xs ++ ys) h)
    | _, _ => .stuck)
  | _, _ => .stuck
def rAdd4 (K : PySem.W.Frag) : R2 := fun x y H Q => rI0 (fun i j => .int (i + j)) x y H Q ∨ ((∃ i j, x = .str i ∧ y = .str j ∧ i.length + j.length ≤ sizeLine ∧ Q (.str (i ++ j)) H) ∨ (rCatTN K x y H Q ∨ (rCatT0 K x y H Q ∨ rCat x y H Q)))
theorem or_add : OpR X (binaryOp .Add) (rAdd4 X.K) := op_add.or (op_add_str.or (op_catTN.or (op_catT0.or op_cat)))
theorem str_app (a b : List Nat) : (⟨(a ++ b).toArray⟩ : Str) = (⟨a.toArray⟩ : Str) ++ (⟨b.toArray⟩ : Str) := by
  show (⟨(a ++ b).toArray⟩ : Str) = ⟨a.toArray ++ b.toArray⟩
  simp
theorem Post.of_guard {α β : Type} {K : PySem.W.Frag} {W : WX} {w : Wd} {R : Wd → Wd → α → β → Prop} {b : Prop} [Decidable b] {r : Res α} {σ : L2.St} {Q : β → Hp → Prop} (p : Post K W w R (Res.guard b r) σ Q) : b ∧ Post K W w R r σ Q := by
  unfold Res.guard at p
  split at p
  · exact ⟨by assumption, p⟩
  · exact p.elim
theorem os_add {K : PySem.W.Frag} : OpSim K fAdd (rAdd4 K) := by
  intro W w σ h v u x y Q rh rv ru p
  unfold fAdd at p
  split at p
  · obtain rfl := rv
    obtain rfl := ru
    exact .inl ⟨_, _, rfl, rfl, p.now (x := .int _) rh rfl⟩
  · obtain rfl := rv
    obtain rfl := ru
    obtain ⟨z, p⟩ := p.of_guard
    refine .inr (.inl ⟨_, _, rfl, rfl, ?_, p.now (x := .str _) rh ?_⟩)
    · show Array.size _ + Array.size _ ≤ sizeLine
      simpa using z
    · show V.str _ = V.str _
      rw [str_app]
  · rename_i xs ys
    obtain ⟨z, p⟩ := p.of_guard
    obtain ⟨a, vs, rfl, s1, r1⟩ := rv
    obtain ⟨b, us, rfl, s2, r2⟩ := ru
    cases xs with
    | nil =>
      obtain rfl := (show vs = [] from r1)
      exact .inr (.inr (.inr (.inl ⟨a, b, us, rfl, rfl, s1.sq, s2.sq, p.now (x := .ref b) rh ⟨b, us, rfl, s2, r2⟩⟩)))
    | cons x0 xs =>
      refine .inr (.inr (.inl ⟨a, b, vs, us, rfl, rfl, s1.sq, s2.sq, ?_, ?_, fun e => ?_, fun _ => ?_⟩))
      · intro e
        have := r1.len
        rw [e] at this
        simp at this
      · rw [r1.len, r2.len]
        exact z
      · subst e
        have e2 : ys = [] := List.eq_nil_of_length_eq_zero (by rw [← r2.len]; rfl)
        subst e2
        rw [List.append_nil] at p
        exact p.now (x := .ref a) rh ⟨a, vs, rfl, s1, r1⟩
      · exact post_newT rh (r1.app r2) p
  · rename_i i j
    obtain ⟨hi, rfl⟩ := rv
    obtain ⟨hj, rfl⟩ := ru
    split at p
    · rename_i xs ys e1 e2
      obtain ⟨z, p⟩ := p.of_guard
      obtain ⟨vs, s1, r1⟩ := rh.lst e1
      obtain ⟨us, s2, r2⟩ := rh.lst e2
      exact .inr (.inr (.inr (.inr ⟨_, _, vs, us, rfl, rfl, s1, s2, by rw [r1.len, r2.len]; exact z, fun q hq => post_newL rh (r1.app r2) p hq⟩)))
    · exact p.elim
  · exact p.elim
/-- two ints -/
@[simp] def fII (C : Int → Int → Prop) [∀ i j, Decidable (C i j)] (g : Int → Int → PV) : F2 := fun v u h => match v, u with
  | .int i, .int j => .guard (C i j) (.ok (g i j) h)
  | _, _ => .stuck
theorem os_ii {K : PySem.W.Frag} {C : Int → Int → Prop} [∀ i j, Decidable (C i j)] {g : Int → Int → PV} {k : Int → Int → V} (hg : ∀ w i j, RV K w (g i j) (k i j)) : OpSim K (fII C g) (rI C k) := by
  intro W w σ h v u x y Q rh rv ru p
  unfold fII at p
  split at p
  · obtain rfl := rv
    obtain rfl := ru
    obtain ⟨z, p⟩ := p.of_guard
    exact ⟨_, _, rfl, rfl, z, p.now rh (hg _ _ _)⟩
  · exact p.elim
@[simp] def fII0 (g : Int → Int → PV) : F2 := fun v u h => match v, u with
  | .int i, .int j => .ok (g i j) h
  | _, _ => .stuck
theorem os_ii0 {K : PySem.W.Frag} {g : Int → Int → PV} {k : Int → Int → V} (hg : ∀ w i j, RV K w (g i j) (k i j)) : OpSim K (fII0 g) (rI0 k) := by
  intro W w σ h v u x y Q rh rv ru p
  unfold fII0 at p
  split at p
  · obtain rfl := rv
    obtain rfl := ru
    exact ⟨_, _, rfl, rfl, p.now rh (hg _ _ _)⟩
  · exact p.elim
instance (i j : Int) : Decidable (CDiv i j) := inferInstanceAs (Decidable (_ ∧ _))
instance (i j : Int) : Decidable (CPow i j) := inferInstanceAs (Decidable (_ ∧ _))
instance (i j : Int) : Decidable (CMul i j) := inferInstanceAs (Decidable (_ ∨ _))
abbrev fSub : F2 := fII0 fun i j => .int (i - j)
abbrev fDiv : F2 := fII CDiv fun i j => .int (i / j)
abbrev fMod : F2 := fII (fun _ j => 0 < j) fun i j => .int (i % j)
abbrev fPow : F2 := fII CPow fun i j => .int (i ^ j.toNat)
abbrev fShl : F2 := fII CPow fun i j => .int (i * 2 ^ j.toNat)
abbrev fShr : F2 := fII (fun _ j => 0 ≤ j) fun i j => .int (i / 2 ^ j.toNat)
abbrev fBand : F2 := fII0 fun i j => .int (Builtin.bitAnd i j)
abbrev fBor : F2 := fII0 fun i j => .int (Builtin.bitOr i j)
abbrev fLt : F2 := fII0 fun i j => .bl (decide (i < j))
abbrev fLe : F2 := fII0 fun i j => .bl (decide (i ≤ j))
abbrev fGt : F2 := fII0 fun i j => .bl (decide (j < i))
abbrev fGe : F2 := fII0 fun i j => .bl (decide (j ≤ i))
theorem os_sub {K : PySem.W.Frag} : OpSim K fSub (rI0 fun i j => .int (i - j)) := os_ii0 fun _ _ _ => rfl
theorem os_div {K : PySem.W.Frag} : OpSim K fDiv (rI CDiv fun i j => .int (i / j)) := os_ii fun _ _ _ => rfl
theorem os_mod {K : PySem.W.Frag} : OpSim K fMod (rI (fun _ j => 0 < j) fun i j => .int (i % j)) := os_ii fun _ _ _ => rfl
theorem os_pow {K : PySem.W.Frag} : OpSim K fPow (rI CPow fun i j => .int (i ^ j.toNat)) := os_ii fun _ _ _ => rfl
theorem os_shl {K : PySem.W.Frag} : OpSim K fShl (rI CPow fun i j => .int (i * 2 ^ j.toNat)) := os_ii fun _ _ _ => rfl
theorem os_shr {K : PySem.W.Frag} : OpSim K fShr (rI (fun _ j => 0 ≤ j) fun i j => .int (i / 2 ^ j.toNat)) := os_ii fun _ _ _ => rfl
theorem os_band {K : PySem.W.Frag} : OpSim K fBand (rI0 fun i j => .int (Builtin.bitAnd i j)) := os_ii0 fun _ _ _ => rfl
theorem os_bor {K : PySem.W.Frag} : OpSim K fBor (rI0 fun i j => .int (Builtin.bitOr i j)) := os_ii0 fun _ _ _ => rfl
theorem os_lt {K : PySem.W.Frag} : OpSim K fLt (rI0 fun i j => .bl (decide (i < j))) := os_ii0 fun _ _ _ => rfl
theorem os_le {K : PySem.W.Frag} : OpSim K fLe (rI0 fun i j => .bl (decide (i ≤ j))) := os_ii0 fun _ _ _ => rfl
theorem os_gt {K : PySem.W.Frag} : OpSim K fGt (rI0 fun i j => .bl (decide (j < i))) := os_ii0 fun _ _ _ => rfl
theorem os_ge {K : PySem.W.Frag} : OpSim K fGe (rI0 fun i j => .bl (decide (j ≤ i))) := os_ii0 fun _ _ _ => rfl
/-- * : ints, list * int, tuple * int -/
def rMul3 (K : PySem.W.Frag) : R2 := fun x y H Q => rI CMul (fun i j => .int (i * j)) x y H Q ∨ (rRep x y H Q ∨ rRepTN K x y H Q)
theorem or_mul : OpR X (binaryOp .Mult) (rMul3 X.K) := op_mul.or (op_rep.or op_repTN)
def fMul : F2 := fun v u h => match v, u with
  | .int i, .int j => .guard (CMul i j) (.ok (.int (i * j)) h)
  | .ref i, .int k => (match h[i]? with
    | some (.lst xs) => .guard (-(2 ^ 63) ≤ k ∧ k < 2 ^ 63 ∧ xs.length * k.toNat ≤ sizeLine) (newL (List.replicate k.toNat xs).flatten h)
    | _ => .stuck)
  | .tup xs, .int k => .guard (xs ≠ [] ∧ 2 ≤ k ∧ k ≤ 1000 ∧ xs.length ≤ 1000) (.ok (.tup (List.replicate k.toNat xs).flatten) h)
  | _, _ => .stuck
theorem os_mul {K : PySem.W.Frag} : OpSim K fMul (rMul3 K) := by
  intro W w σ h v u x y Q rh rv ru p
  unfold fMul at p
  split at p
  · obtain rfl := rv
    obtain rfl := ru
    obtain ⟨z, p⟩ := p.of_guard
    exact .inl ⟨_, _, rfl, rfl, z, p.now (x := .int _) rh rfl⟩
  · obtain ⟨hi, rfl⟩ := rv
    obtain rfl := ru
    split at p
    · rename_i xs e1
      obtain ⟨z, p⟩ := p.of_guard
      obtain ⟨z1, z2, z3⟩ := z
      obtain ⟨vs, s1, r1⟩ := rh.lst e1
      exact .inr (.inl ⟨_, _, vs, rfl, rfl, s1, z1, z2, by rw [r1.len]; exact z3, fun q hq => post_newL rh (r1.reps _) p hq⟩)
    · exact p.elim
  · rename_i xs k
    obtain ⟨⟨z1, z2, z3, z4⟩, p⟩ := p.of_guard
    obtain ⟨a, vs, rfl, s1, r1⟩ := rv
    obtain rfl := ru
    exact .inr (.inr ⟨a, _, vs, rfl, rfl, s1.sq, fun e => z1 (List.eq_nil_of_length_eq_zero (by rw [← r1.len, e]; rfl)), z2, z3, by rw [r1.len]; exact z4, post_newT rh (r1.reps _) p⟩)
  · exact p.elim
/-! ### unary -/
@[simp] def eNeg (a : Ev) : Ev := fun s h => (a s h).bind fun v h => match v with
  | .int i => .ok (.int (-i)) h
  | _ => .stuck
theorem se_neg {W : WX} {a : Expr} {pos : Pos} {ma : Ev} (ha : SimE X W a ma) : SimE X W (.UnaryOp .USub a pos) (eNeg ma) :=
  pe_imp (pe_un un_neg ha) fun σ H Q q => tR_bind back_e q fun w w' s v x h' x1 rs rh rv p => by
    cases v with
    | int i => exact ⟨i, rv, p.now (x := .int _) rh rfl⟩
    | _ => exact p.elim
end
end U
set_option Elab.async false
set_option linter.all false
set_option maxRecDepth 100000
set_option maxHeartbeats 2000000
/-! The generic layer, part 4: comparisons. -/
namespace U
open PySem PySem.Spec PyProof.Rows L2
variable [Tab]
mutual
def datW (f : Nat → Option PyData) : PV → Option PyData
  | .non => some .none
  | .bl b => some (.bool b)
  | .int i => some (.int i)
  | .str x => some (.str ⟨x.toArray⟩)
  | .tup xs => match datsW f xs with
    | some ds => some (.tuple ds)
    | none => none
  | .ref i => f i
  | .scr ns => some (.list (ns.map PyData.int))
def datsW (f : Nat → Option PyData) : List PV → Option (List PyData)
  | [] => some []
  | x :: xs => match datW f x, datsW f xs with
    | some d, some ds => some (d :: ds)
    | _, _ => none
end
def refD (h : Hh) : Nat → Nat → Option PyData
  | 0, _ => none
  | n + 1, i => match h[i]? with
    | some (.lst xs) => (match datsW (refD h n) xs with
      | some ds => some (.list ds)
      | none => none)
    | _ => none
/-- a value as data: lists within are read in the heap -/
def dat (h : Hh) (v : PV) : Option PyData := datW (refD h 64) v
section
variable {K : PySem.W.Frag} {w : Wd} {h : Hh}
theorem dp_ints : ∀ ns : List Int, DpAll K w.H (ns.map V.int) (ns.map PyData.int)
  | [] => .nil
  | n :: ns => .cons (.int n) (dp_ints ns)
mutual
theorem datW_dp {f : Nat → Option PyData} (hf : ∀ i d, f i = some d → i < w.n → Dp K w.H (.ref (w.ρ i)) d) : ∀ (v : PV) (x : V) (d : PyData), RV K w v x → datW f v = some d → Dp K w.H x d
  | .non, _, _, r, e => by cases (show _ = V.non from r); cases e; exact .non
  | .bl _, _, _, r, e => by cases (show _ = V.bl _ from r); cases e; exact .bl _
  | .int _, _, _, r, e => by cases (show _ = V.int _ from r); cases e; exact .int _
  | .str _, _, _, r, e => by cases (show _ = V.str _ from r); cases e; exact .str _
  | .tup xs, _, d, r, e => by
    obtain ⟨a, vs, rfl, s, rs⟩ := r
    have e2 : (match datsW f xs with | some ds => some (PyData.tuple ds) | none => none) = some d := e
    split at e2
    · rename_i ds e3
      cases e2
      exact .tup s.sq (datsW_dp hf xs vs ds rs e3)
    · cases e2
  | .ref i, _, d, r, e => by
    obtain ⟨hi, rfl⟩ := r
    exact hf i d e hi
  | .scr ns, _, d, r, e => by
    obtain ⟨a, rfl, s⟩ := r
    cases e
    exact .lst s.sq (dp_ints ns)
theorem datsW_dp {f : Nat → Option PyData} (hf : ∀ i d, f i = some d → i < w.n → Dp K w.H (.ref (w.ρ i)) d) : ∀ (v : List PV) (x : List V) (d : List PyData), RVs K w v x → datsW f v = some d → DpAll K w.H x d
  | [], _, _, r, e => by cases (show _ = [] from r); cases e; exact .nil
  | y :: ys, _, d, r, e => by
    obtain ⟨v, r, rfl, h1, h2⟩ := r
    have e2 : (match datW f y, datsW f ys with | some d, some ds => some (d :: ds) | _, _ => none) = some d := e
    split at e2
    · rename_i d1 ds e3 e4
      cases e2
      exact .cons (datW_dp hf y v d1 h1 e3) (datsW_dp hf ys r ds h2 e4)
    · cases e2
end
theorem refD_dp (rh : RH K w h) : ∀ (n i : Nat) (d : PyData), refD h n i = some d → i < w.n → Dp K w.H (.ref (w.ρ i)) d
  | 0, _, _, e, _ => by cases e
  | n + 1, i, d, e, hi => by
    unfold refD at e
    split at e
    · rename_i xs e1
      split at e
      · rename_i ds e2
        cases e
        obtain ⟨vs, s, r⟩ := rh.lst e1
        exact .lst (SqL.of s) (datsW_dp (refD_dp rh n) xs vs ds r e2)
      · cases e
    · cases e
theorem dat_dp (rh : RH K w h) {v : PV} {x : V} {d : PyData} (r : RV K w v x) (e : dat h v = some d) : Dp K w.H x d := datW_dp (refD_dp rh 64) v x d r e
end

/-! ### == and != of data -/
def eqD (h : Hh) (v u : PV) : Option Bool := match dat h v, dat h u with
  | some d, some e => if SeqAt.shaped d = true ∧ SeqAt.shaped e = true then some (PyData.eqv d e) else none
  | _, _ => none
def fEq : F2 := fun v u h => match eqD h v u with
  | some b => .ok (.bl b) h
  | none => .stuck
def fNe : F2 := fun v u h => match eqD h v u with
  | some b => .ok (.bl (!b)) h
  | none => .stuck
theorem eqD_some {h : Hh} {v u : PV} {b : Bool} (e : eqD h v u = some b) : ∃ d e, dat h v = some d ∧ dat h u = some e ∧ SeqAt.shaped d = true ∧ SeqAt.shaped e = true ∧ PyData.eqv d e = b := by
  unfold eqD at e
  split at e
  · rename_i d1 d2 e1 e2
    split at e
    · rename_i z
      cases e
      exact ⟨d1, d2, e1, e2, z.1, z.2, rfl⟩
    · cases e
  · cases e
theorem os_eq {K : PySem.W.Frag} : OpSim K fEq (rEqD K) := by
  intro W w σ h v u x y Q rh rv ru p
  unfold fEq at p
  split at p
  · rename_i b e
    obtain ⟨d1, d2, e1, e2, z1, z2, e3⟩ := eqD_some e
    exact ⟨d1, d2, dat_dp rh rv e1, dat_dp rh ru e2, z1, z2, by rw [e3]; exact p.now (x := .bl _) rh rfl⟩
  · exact p.elim
theorem os_ne {K : PySem.W.Frag} : OpSim K fNe (rNeD K) := by
  intro W w σ h v u x y Q rh rv ru p
  unfold fNe at p
  split at p
  · rename_i b e
    obtain ⟨d1, d2, e1, e2, z1, z2, e3⟩ := eqD_some e
    exact ⟨d1, d2, dat_dp rh rv e1, dat_dp rh ru e2, z1, z2, by rw [e3]; exact p.now (x := .bl _) rh rfl⟩
  · exact p.elim
/-! simple cases -/
@[simp] theorem fEq_int (i j : Int) (h : Hh) : fEq (.int i) (.int j) h = .ok (.bl (decide (i = j))) h := by
  have e : eqD h (.int i) (.int j) = some (i == j) := rfl
  unfold fEq
  rw [e]
  by_cases q : i = j <;> simp [q]
@[simp] theorem fNe_int (i j : Int) (h : Hh) : fNe (.int i) (.int j) h = .ok (.bl (!decide (i = j))) h := by
  have e : eqD h (.int i) (.int j) = some (i == j) := rfl
  unfold fNe
  rw [e]
  by_cases q : i = j <;> simp [q]
@[simp] theorem fEq_bl (i j : Bool) (h : Hh) : fEq (.bl i) (.bl j) h = .ok (.bl (decide (i = j))) h := by
  cases i <;> cases j <;> rfl
@[simp] theorem fNe_bl (i j : Bool) (h : Hh) : fNe (.bl i) (.bl j) h = .ok (.bl (!decide (i = j))) h := by
  cases i <;> cases j <;> rfl
/-- a text that stands in the model -/
def okS (x : List Nat) : Bool := x.all (· < 0x110000)
theorem eqD_str {x y : List Nat} (hx : okS x = true) (hy : okS y = true) (h : Hh) : eqD h (.str x) (.str y) = some (decide (x = y)) := by
  have s1 : ∀ z : List Nat, okS z = true → SeqAt.shaped (.str ⟨z.toArray⟩) = true := fun z hz => by
    unfold SeqAt.shaped
    simp only [PyData.canLay0, PyData.depth, PyData.strOk]
    simpa [okS] using hz
  show (if SeqAt.shaped (.str ⟨x.toArray⟩) = true ∧ SeqAt.shaped (.str ⟨y.toArray⟩) = true then some (PyData.eqv (.str ⟨x.toArray⟩) (.str ⟨y.toArray⟩)) else none) = _
  rw [if_pos ⟨s1 x hx, s1 y hy⟩]
  show some ((⟨x.toArray⟩ : Str) == ⟨y.toArray⟩) = _
  by_cases q : x = y
  · subst q
    simp
  · rw [decide_eq_false q, beq_eq_false_iff_ne.mpr]
    intro e
    apply q
    have := congrArg Str.cps e
    simpa using this
theorem fEq_str {x y : List Nat} (hx : okS x = true) (hy : okS y = true) (h : Hh) : fEq (.str x) (.str y) h = .ok (.bl (decide (x = y))) h := by
  unfold fEq
  rw [eqD_str hx hy]
theorem fNe_str {x y : List Nat} (hx : okS x = true) (hy : okS y = true) (h : Hh) : fNe (.str x) (.str y) h = .ok (.bl (!decide (x = y))) h := by
  unfold fNe
  rw [eqD_str hx hy]

/-! ### is None, is of bools -/
@[simp] def PV.isN : PV → Bool
  | .non => true
  | _ => false
@[simp] def fIs : F2 := fun v u h => match u with
  | .non => .ok (.bl v.isN) h
  | .bl b => (match v with
    | .bl a => .ok (.bl (decide (a = b))) h
    | _ => .stuck)
  | _ => .stuck
@[simp] def fIsNot : F2 := fun v u h => match u with
  | .non => .ok (.bl (!v.isN)) h
  | .bl b => (match v with
    | .bl a => .ok (.bl (!decide (a = b))) h
    | _ => .stuck)
  | _ => .stuck
theorem isN_rel {K : PySem.W.Frag} {w : Wd} {v : PV} {x : V} (r : RV K w v x) : decide (x = .non) = v.isN := by
  cases v with
  | non => cases (show x = V.non from r); rfl
  | bl _ => cases (show x = V.bl _ from r); rfl
  | int _ => cases (show x = V.int _ from r); rfl
  | str _ => cases (show x = V.str _ from r); rfl
  | tup _ => obtain ⟨a, vs, rfl, _⟩ := r; rfl
  | ref _ => obtain ⟨_, rfl⟩ := r; rfl
  | scr _ => obtain ⟨a, rfl, _⟩ := r; rfl
def rIs2 : R2 := fun x y H Q => (y = .non ∧ Q (.bl (decide (x = .non))) H) ∨ rIsB x y H Q
def rIsNot2 : R2 := fun x y H Q => (y = .non ∧ Q (.bl (!decide (x = .non))) H) ∨ rNotB x y H Q
theorem or_is {X : Cx} : OpR X (compareOp .Is) rIs2 := op_isN.or op_isBl
theorem or_isNot {X : Cx} : OpR X (compareOp .IsNot) rIsNot2 := op_notN.or op_notBl
theorem os_is {K : PySem.W.Frag} : OpSim K fIs rIs2 := by
  intro W w σ h v u x y Q rh rv ru p
  unfold fIs at p
  split at p
  · cases (show y = V.non from ru)
    exact .inl ⟨rfl, by rw [isN_rel rv]; exact p.now (x := .bl _) rh rfl⟩
  · cases (show y = V.bl _ from ru)
    split at p
    · cases (show x = V.bl _ from rv)
      exact .inr ⟨_, _, rfl, rfl, p.now (x := .bl _) rh rfl⟩
    · exact p.elim
  · exact p.elim
theorem os_isNot {K : PySem.W.Frag} : OpSim K fIsNot rIsNot2 := by
  intro W w σ h v u x y Q rh rv ru p
  unfold fIsNot at p
  split at p
  · cases (show y = V.non from ru)
    exact .inl ⟨rfl, by rw [isN_rel rv]; exact p.now (x := .bl _) rh rfl⟩
  · cases (show y = V.bl _ from ru)
    split at p
    · cases (show x = V.bl _ from rv)
      exact .inr ⟨_, _, rfl, rfl, p.now (x := .bl _) rh rfl⟩
    · exact p.elim
  · exact p.elim
end U
set_option Elab.async false
set_option linter.all false
set_option maxRecDepth 100000
set_option maxHeartbeats 2000000
/-! The generic layer, part 5: in, not in; subscripts, stores; dicts. -/
namespace U
open PySem PySem.Spec PyProof.Rows L2
variable [Tab]

/-! ### keys -/
def PV.key? : PV → Option PKey
  | .int i => some (.inl i)
  | .str x => some (.inr x)
  | _ => none
def valP (kvs : List (PKey × PV)) (k : PKey) : Option PV := (kvs.find? fun kv => decide (kv.1 = k)).map (·.2)
def putP (kvs : List (PKey × PV)) (k : PKey) (v : PV) : List (PKey × PV) :=
  if (kvs.any fun kv => decide (kv.1 = k)) = true then kvs.map (fun kv => if kv.1 = k then (kv.1, v) else kv) else kvs ++ [(k, v)]
def dropP (kvs : List (PKey × PV)) (k : PKey) : List (PKey × PV) := kvs.filter fun kv => decide (kv.1 ≠ k)
theorem keyOf_inj {a b : PKey} (e : keyOf a = keyOf b) : a = b := by
  cases a with
  | inl i => cases b with
    | inl j => cases e; rfl
    | inr y => cases e
  | inr x => cases b with
    | inl j => cases e
    | inr y =>
      have e1 : (⟨x.toArray⟩ : Str) = ⟨y.toArray⟩ := Sum.inr.inj e
      have e2 := congrArg Str.cps e1
      have e3 : x = y := by simpa using e2
      rw [e3]
theorem keyOf_iff {a b : PKey} : decide (keyOf a = keyOf b) = decide (a = b) := by
  by_cases e : a = b
  · subst e; simp
  · rw [decide_eq_false e, decide_eq_false fun q => e (keyOf_inj q)]
section
variable {K : PySem.W.Frag} {w : Wd}
theorem key_rel {v : PV} {x : V} {k : PKey} (r : RV K w v x) (e : v.key? = some k) : x = kV (keyOf k) := by
  cases v with
  | int i => cases e; exact r
  | str y => cases e; exact r
  | _ => cases e
theorem RKs.val (k : PKey) : ∀ {ps : List (PKey × PV)} {ks : List (Key × V)}, RKs K w ps ks → match valP ps k with
    | some v => ∃ x, valV ks (keyOf k) = some x ∧ RV K w v x
    | none => valV ks (keyOf k) = none
  | [], _, h => by cases (show _ = [] from h); rfl
  | p :: ps, _, h => by
    obtain ⟨v, r, rfl, h1, h2⟩ := h
    have ih := RKs.val k h2
    by_cases e : p.1 = k
    · have e1 : valP (p :: ps) k = some p.2 := by simp [valP, List.find?_cons, e]
      rw [e1]
      exact ⟨v, valV_pos (by simp [e]), h1⟩
    · have e1 : valP (p :: ps) k = valP ps k := by simp [valP, List.find?_cons, e]
      have e2 : valV ((keyOf p.1, v) :: r) (keyOf k) = valV r (keyOf k) := valV_neg fun q => e (keyOf_inj q)
      rw [e1, e2]
      exact ih
theorem RKs.len : ∀ {ps : List (PKey × PV)} {ks : List (Key × V)}, RKs K w ps ks → ks.length = ps.length
  | [], _, h => by cases (show _ = [] from h); rfl
  | p :: ps, _, h => by obtain ⟨v, r, rfl, h1, h2⟩ := h; simp [RKs.len h2]
theorem RKs.any (k : PKey) : ∀ {ps : List (PKey × PV)} {ks : List (Key × V)}, RKs K w ps ks → (ks.any fun kv => decide (kv.1 = keyOf k)) = ps.any fun kv => decide (kv.1 = k)
  | [], _, h => by cases (show _ = [] from h); rfl
  | p :: ps, _, h => by
    obtain ⟨v, r, rfl, h1, h2⟩ := h
    rw [List.any_cons, List.any_cons, RKs.any k h2]
    show (decide (keyOf p.1 = keyOf k) || _) = _
    rw [keyOf_iff]
theorem RKs.map {k : PKey} {y : PV} {x : V} (q : RV K w y x) : ∀ {ps : List (PKey × PV)} {ks : List (Key × V)}, RKs K w ps ks →
    RKs K w (ps.map fun kv => if kv.1 = k then (kv.1, y) else kv) (ks.map fun kv => if kv.1 = keyOf k then (kv.1, x) else kv)
  | [], _, h => by cases (show _ = [] from h); exact rfl
  | p :: ps, _, h => by
    obtain ⟨v, r, rfl, h1, h2⟩ := h
    rw [List.map_cons, List.map_cons]
    by_cases e : p.1 = k
    · rw [if_pos e, if_pos (by rw [e])]
      exact ⟨x, _, rfl, q, RKs.map q h2⟩
    · rw [if_neg e, if_neg fun z => e (keyOf_inj z)]
      exact ⟨v, _, rfl, h1, RKs.map q h2⟩
theorem RKs.app : ∀ {ps qs : List (PKey × PV)} {ks ls : List (Key × V)}, RKs K w ps ks → RKs K w qs ls → RKs K w (ps ++ qs) (ks ++ ls)
  | [], _, _, _, h, q => by cases (show _ = [] from h); exact q
  | p :: ps, _, _, _, h, q => by obtain ⟨v, r, rfl, h1, h2⟩ := h; exact ⟨v, _, rfl, h1, h2.app q⟩
theorem RKs.put {k : PKey} {y : PV} {x : V} (q : RV K w y x) {ps : List (PKey × PV)} {ks : List (Key × V)} (h : RKs K w ps ks) : RKs K w (putP ps k y) (putK ks (keyOf k) x) := by
  unfold putP putK
  rw [h.any k]
  split
  · exact h.map q
  · exact h.app ⟨x, [], rfl, q, rfl⟩
theorem RKs.drop {k : PKey} : ∀ {ps : List (PKey × PV)} {ks : List (Key × V)}, RKs K w ps ks → RKs K w (dropP ps k) (dropK ks (keyOf k))
  | [], _, h => by cases (show _ = [] from h); exact rfl
  | p :: ps, _, h => by
    obtain ⟨v, r, rfl, h1, h2⟩ := h
    have ih := RKs.drop (k := k) h2
    unfold dropP dropK at ih ⊢
    rw [List.filter_cons, List.filter_cons]
    by_cases e : p.1 = k
    · rw [if_neg (by simp [e]), if_neg (by simp [e])]
      exact ih
    · rw [if_pos (by simp [e]), if_pos (by simpa using fun z => e (keyOf_inj z))]
      exact ⟨v, _, rfl, h1, ih⟩
end

/-! ### in -/
def PV.flat : PV → Bool
  | .non => true
  | .bl _ => true
  | .int _ => true
  | .str _ => true
  | _ => false
def PV.eqF : PV → PV → Bool
  | .non, .non => true
  | .bl a, .bl b => a == b
  | .bl a, .int b => (if a then 1 else 0) == b
  | .int a, .bl b => a == (if b then 1 else 0)
  | .int a, .int b => a == b
  | .str a, .str b => decide (a = b)
  | _, _ => false
def inF (v : PV) (xs : List PV) : Bool := xs.any fun y => y.eqF v
section
variable {K : PySem.W.Frag} {w : Wd}
theorem flat_rel {v : PV} {x : V} (r : RV K w v x) (f : v.flat = true) : flatV x = true := by
  cases v with
  | non => cases (show x = V.non from r); rfl
  | bl _ => cases (show x = V.bl _ from r); rfl
  | int _ => cases (show x = V.int _ from r); rfl
  | str _ => cases (show x = V.str _ from r); rfl
  | _ => cases f
theorem eqF_rel {v u : PV} {x y : V} (r : RV K w v x) (q : RV K w u y) (f : v.flat = true) (g : u.flat = true) : eqV x y = v.eqF u := by
  cases v with
  | non => cases (show x = V.non from r); cases u with
    | non => cases (show y = V.non from q); rfl
    | bl _ => cases (show y = V.bl _ from q); rfl
    | int _ => cases (show y = V.int _ from q); rfl
    | str _ => cases (show y = V.str _ from q); rfl
    | _ => cases g
  | bl _ => cases (show x = V.bl _ from r); cases u with
    | non => cases (show y = V.non from q); rfl
    | bl _ => cases (show y = V.bl _ from q); rfl
    | int _ => cases (show y = V.int _ from q); rfl
    | str _ => cases (show y = V.str _ from q); rfl
    | _ => cases g
  | int _ => cases (show x = V.int _ from r); cases u with
    | non => cases (show y = V.non from q); rfl
    | bl _ => cases (show y = V.bl _ from q); rfl
    | int _ => cases (show y = V.int _ from q); rfl
    | str _ => cases (show y = V.str _ from q); rfl
    | _ => cases g
  | str a => cases (show x = V.str _ from r); cases u with
    | non => cases (show y = V.non from q); rfl
    | bl _ => cases (show y = V.bl _ from q); rfl
    | int _ => cases (show y = V.int _ from q); rfl
    | str b =>
      cases (show y = V.str _ from q)
      show ((⟨a.toArray⟩ : Str) == ⟨b.toArray⟩) = decide (a = b)
      by_cases e : a = b
      · subst e; simp
      · rw [decide_eq_false e, beq_eq_false_iff_ne.mpr]
        intro z
        apply e
        have := congrArg Str.cps z
        simpa using this
    | _ => cases g
  | _ => cases f
theorem flats_rel : ∀ {xs : List PV} {vs : List V}, RVs K w xs vs → xs.all PV.flat = true → vs.all flatV = true
  | [], _, h, _ => by cases (show _ = [] from h); rfl
  | x :: xs, _, h, f => by
    obtain ⟨v, r, rfl, h1, h2⟩ := h
    rw [List.all_cons, Bool.and_eq_true] at f
    rw [List.all_cons, flat_rel h1 f.1, flats_rel h2 f.2]
    rfl
theorem inF_rel {v : PV} {x : V} (q : RV K w v x) (g : v.flat = true) : ∀ {xs : List PV} {vs : List V}, RVs K w xs vs → xs.all PV.flat = true → inV x vs = inF v xs
  | [], _, h, _ => by cases (show _ = [] from h); rfl
  | y :: ys, _, h, f => by
    obtain ⟨u, r, rfl, h1, h2⟩ := h
    rw [List.all_cons, Bool.and_eq_true] at f
    have ih := inF_rel q g h2 f.2
    unfold inV inF at ih ⊢
    rw [List.any_cons, List.any_cons, ih, eqF_rel h1 q f.1 g]
end
def fIn (neg : Bool) : F2 := fun v u h => match u with
  | .str z => (match v with
    | .str [c] => .ok (.bl (neg ^^ decide (c ∈ z))) h
    | _ => .stuck)
  | .tup xs => .guard (v.flat = true ∧ xs.all PV.flat = true) (.ok (.bl (neg ^^ inF v xs)) h)
  | .ref i => (match h[i]? with
    | some (.lst xs) => .guard (v.flat = true ∧ xs.all PV.flat = true) (.ok (.bl (neg ^^ inF v xs)) h)
    | some (.dic kvs) => (match v.key? with
      | some k => .ok (.bl (neg ^^ (valP kvs k).isSome)) h
      | none => .stuck)
    | some (.dif kvs) => (match v.key? with
      | some k => .ok (.bl (neg ^^ (valP kvs k).isSome)) h
      | none => .stuck)
    | _ => .stuck)
  | _ => .stuck
section
variable {X : Cx}
def rDIn (neg : Bool) : R2 := fun x y H Q => ∃ a o, y = .ref a ∧ DGet H a x o ∧ Q (.bl (neg ^^ o.isSome)) H
theorem op_dIn (hu : X.A.units + 1 < cLine) : OpR X (compareOp .In) (rDIn false) := by
  intro pins s σ H x y v u Q I rx ry h
  obtain ⟨a, o, rfl, g, q⟩ := h
  cases ry
  exact d_in hu I g rx fun s' I' => ⟨.bl o.isSome, H, I', rfl, by simpa using q⟩
theorem op_dNotIn (hu : X.A.units + 1 < cLine) : OpR X (compareOp .NotIn) (rDIn true) := by
  intro pins s σ H x y v u Q I rx ry h
  obtain ⟨a, o, rfl, g, q⟩ := h
  cases ry
  exact d_notIn hu I g rx fun s' I' => ⟨.bl (!o.isSome), H, I', rfl, by simpa using q⟩
def rSgn (neg : Bool) : R2 := fun x y H Q => ∃ (c : Nat) (z : Str), x = .str ⟨#[c]⟩ ∧ y = .str z ∧ Q (.bl (neg ^^ decide (c ∈ z.cps.toList))) H
def rInX (K : PySem.W.Frag) (neg : Bool) : R2 := fun x y H Q => rSgn neg x y H Q ∨ (rIn K neg x y H Q ∨ rDIn neg x y H Q)
theorem op_sgn : OpR X (compareOp .In) (rSgn false) := by
  intro pins s σ H x y v u Q I rx ry h
  obtain ⟨c, z, e1, e2, q⟩ := h
  exact op_in_sign pins s σ H x y v u Q I rx ry ⟨c, z, e1, e2, by simpa using q⟩
theorem op_notSgn : OpR X (compareOp .NotIn) (rSgn true) := by
  intro pins s σ H x y v u Q I rx ry h
  obtain ⟨c, z, e1, e2, q⟩ := h
  exact op_notIn_sign pins s σ H x y v u Q I rx ry ⟨c, z, e1, e2, by simpa using q⟩
theorem or_in (hu : X.A.units + 1 < cLine) : OpR X (compareOp .In) (rInX X.K false) := op_sgn.or (op_in_seq.or (op_dIn hu))
theorem or_notIn (hu : X.A.units + 1 < cLine) : OpR X (compareOp .NotIn) (rInX X.K true) := op_notSgn.or (op_notIn_seq.or (op_dNotIn hu))
theorem os_in {K : PySem.W.Frag} (neg : Bool) : OpSim K (fIn neg) (rInX K neg) := by
  intro W w σ h v u x y Q rh rv ru p
  unfold fIn at p
  have eb : ∀ b : Bool, (if neg = true then !b else b) = (neg ^^ b) := fun b => by cases neg <;> cases b <;> rfl
  split at p
  · cases (show y = V.str _ from ru)
    split at p
    · cases (show x = V.str _ from rv)
      exact .inl ⟨_, _, rfl, rfl, p.now (x := .bl _) rh rfl⟩
    · exact p.elim
  · obtain ⟨⟨z1, z2⟩, p⟩ := p.of_guard
    obtain ⟨a, vs, rfl, s, r⟩ := ru
    refine .inr (.inl ⟨a, vs, rfl, .inr s.sq, flat_rel rv z1, flats_rel r z2, ?_⟩)
    rw [inF_rel rv z1 r z2]
    refine p.now (x := .bl _) rh ?_
    show V.bl _ = V.bl _
    exact congrArg V.bl (eb _)
  · obtain ⟨hi, rfl⟩ := ru
    split at p
    · rename_i xs e
      obtain ⟨⟨z1, z2⟩, p⟩ := p.of_guard
      obtain ⟨vs, s, r⟩ := rh.lst e
      refine .inr (.inl ⟨_, vs, rfl, .inl (SqL.of s), flat_rel rv z1, flats_rel r z2, ?_⟩)
      rw [inF_rel rv z1 r z2]
      refine p.now (x := .bl _) rh ?_
      exact congrArg V.bl (eb _)
    · rename_i kvs e
      split at p
      · rename_i k ek
        obtain ⟨ks, s, r⟩ := rh.dic e
        have q := r.val k
        refine .inr (.inr ⟨_, valV ks (keyOf k), rfl, ?_, p.now (x := .bl _) rh ?_⟩)
        · rw [key_rel rv ek]
          exact DGet.k s
        · show V.bl _ = V.bl _
          cases ev : valP kvs k with
          | none => rw [ev] at q; rw [show valV ks (keyOf k) = none from q]; rfl
          | some z => rw [ev] at q; obtain ⟨x', e', _⟩ := q; rw [e']; rfl
      · exact p.elim
    · rename_i kvs e
      split at p
      · rename_i k ek
        obtain ⟨o, ks, s, r⟩ := rh.dif e
        have q := r.val k
        refine .inr (.inr ⟨_, valV ks (keyOf k), rfl, ?_, p.now (x := .bl _) rh ?_⟩)
        · rw [key_rel rv ek]
          exact .inl ⟨ks, _, .inr ⟨o, s⟩, rfl, rfl⟩
        · show V.bl _ = V.bl _
          cases ev : valP kvs k with
          | none => rw [ev] at q; rw [show valV ks (keyOf k) = none from q]; rfl
          | some z => rw [ev] at q; obtain ⟨x', e', _⟩ := q; rw [e']; rfl
      · exact p.elim
    · exact p.elim
  · exact p.elim

/-! ### a[i] -/
def fIx : F2 := fun v u h => match v with
  | .tup xs => (match u with
    | .int i => (match atI xs i with
      | some y => .ok y h
      | none => .stuck)
    | _ => .stuck)
  | .str x => (match u with
    | .int i => .guard (x.length ≤ sizeLine) (match atI x i with
      | some c => .ok (.str [c]) h
      | none => .stuck)
    | _ => .stuck)
  | .ref j => (match h[j]? with
    | some (.lst xs) => (match u with
      | .int i => (match atI xs i with
        | some y => .ok y h
        | none => .stuck)
      | _ => .stuck)
    | some (.dic kvs) => (match u.key? with
      | some k => (match valP kvs k with
        | some y => .ok y h
        | none => .stuck)
      | none => .stuck)
    | some (.dif kvs) => (match u.key? with
      | some k => (match valP kvs k with
        | some y => .ok y h
        | none => .stuck)
      | none => .stuck)
    | _ => .stuck)
  | _ => .stuck
def rIxD : R2 := fun x y H Q => ∃ a v, x = .ref a ∧ DGet H a y (some v) ∧ Q v H
theorem ix_dict (hu : X.A.units + 1 < cLine) : IxR X rIxD := by
  intro value slice pins s σ H x y v u Q I rx ry h hs
  obtain ⟨a, z, rfl, g, q⟩ := h
  obtain rfl : v = Value.ref a := rx
  have hT := dict_typeIs I g
  have h2 : wpAny (model X.prog X.w) X.A (getItem (.ref a) u) (EP X pins σ Q) X.xe s := d_getItem hu I g ry fun w' s' I' r' => ⟨z, H, I', r', q⟩
  unfold subscriptTail
  refine wpAny_bind ?_
  rw [getitemInPython_of_ne hT.not_modules]
  refine wpAny_bind (wpAny_specialOf hT PySem.F.slot_dict_getitem.lookup ?_)
  have fin : wpAny (model X.prog X.w) X.A (subscripted slice false (.ref a) u) (fun r s₃ => wpAny (model X.prog X.w) X.A (letTemporaryGo value (.ref a) r >>= fun _ => pure r) (EP X pins σ Q) X.xe s₃) X.xe s := by
    rw [hs]
    exact wpAny_operating (wpAny_mono h2 (fun r s₃ h₃ => wpAny_bind (wpAny_letTemporaryGo (wpAny_pure h₃))) fun _ _ x => x)
  first
    | exact wpAny_pure (wpAny_bind fin)
    | exact wpAny_bind (wpAny_pure (wpAny_bind fin))
    | exact wpAny_bind fin
def rIxX (K : PySem.W.Frag) : R2 := fun x y H Q => rIx K x y H Q ∨ rIxD x y H Q
theorem ix_any (hu : X.A.units + 1 < cLine) : IxR X (rIxX X.K) := ix_seq.or (ix_dict hu)
theorem atI_rel {K : PySem.W.Frag} {w : Wd} {xs : List PV} {vs : List V} (r : RVs K w xs vs) {i : Int} {y : PV} (e : atI xs i = some y) : ∃ x, atI vs i = some x ∧ RV K w y x := by
  unfold atI at e ⊢
  rw [r.len]
  cases q : ixN xs.length i with
  | none => rw [q] at e; cases e
  | some j =>
    rw [q] at e
    exact r.get (by simpa using e)
theorem os_ix {K : PySem.W.Frag} : OpSim K fIx (rIxX K) := by
  intro W w σ h v u x y Q rh rv ru p
  unfold fIx at p
  split at p
  · obtain ⟨a, vs, rfl, s, r⟩ := rv
    split at p
    · cases (show y = V.int _ from ru)
      split at p
      · rename_i z e
        obtain ⟨x', e', r'⟩ := atI_rel r e
        exact .inl (.inr (.inl ⟨a, vs, _, x', rfl, rfl, s.sq, e', p.now rh r'⟩))
      · exact p.elim
    · exact p.elim
  · cases (show x = V.str _ from rv)
    split at p
    · cases (show y = V.int _ from ru)
      obtain ⟨z, p⟩ := p.of_guard
      split at p
      · rename_i c e
        exact .inl (.inr (.inr ⟨_, _, c, rfl, rfl, (by show Array.size _ ≤ _; simpa using z), (by simpa using e), p.now (x := .str _) rh rfl⟩))
      · exact p.elim
    · exact p.elim
  · obtain ⟨hi, rfl⟩ := rv
    split at p
    · rename_i xs e0
      obtain ⟨vs, s, r⟩ := rh.lst e0
      split at p
      · cases (show y = V.int _ from ru)
        split at p
        · rename_i z e
          obtain ⟨x', e', r'⟩ := atI_rel r e
          exact .inl (.inl ⟨_, vs, _, x', rfl, rfl, SqL.of s, e', p.now rh r'⟩)
        · exact p.elim
      · exact p.elim
    · rename_i kvs e0
      obtain ⟨ks, s, r⟩ := rh.dic e0
      split at p
      · rename_i k ek
        split at p
        · rename_i z e
          have q := r.val k
          rw [e] at q
          obtain ⟨x', e', r'⟩ := q
          refine .inr ⟨_, x', rfl, ?_, p.now rh r'⟩
          rw [key_rel ru ek, ← e']
          exact DGet.k s
        · exact p.elim
      · exact p.elim
    · rename_i kvs e0
      obtain ⟨o, ks, s, r⟩ := rh.dif e0
      split at p
      · rename_i k ek
        split at p
        · rename_i z e
          have q := r.val k
          rw [e] at q
          obtain ⟨x', e', r'⟩ := q
          refine .inr ⟨_, x', rfl, ?_, p.now rh r'⟩
          rw [key_rel ru ek, ← e']
          exact .inl ⟨ks, _, .inr ⟨o, s⟩, rfl, rfl⟩
        · exact p.elim
      · exact p.elim
    · exact p.elim
  · exact p.elim
theorem se_ix {W : WX} {a b : Expr} {pos : Pos} {ma mb : Ev} (hu : X.A.units + 1 < cLine) (ha : SimE X W a ma) (hb : SimE X W b mb) (hs : PlainIx b := by exact fun _ _ => rfl) : SimE X W (.Subscript a b pos) (e2 fIx ma mb) :=
  pe_imp (pe_ix (ix_any hu) ha hb hs) fun σ H Q q => two os_ix q

/-! ### a[i] = v -/
def fSet : PV → PV → PV → Hh → Option Hh := fun o i v h => match o with
  | .ref j => (match h[j]? with
    | some (.lst xs) => (match i with
      | .int k => (match ixN xs.length k with
        | some n => some (h.set j (.lst (xs.set n v)))
        | none => none)
      | _ => none)
    | some (.dic kvs) => (match i.key? with
      | some k => if kvs.length < sizeLine then some (h.set j (.dic (putP kvs k v))) else none
      | none => none)
    | _ => none)
  | _ => none
def rSetD : V → V → V → Hp → (Hp → Prop) → Prop := fun o i v H Q => ∃ a H', o = .ref a ∧ DPut H a i v H' ∧ Q H'
theorem set_dict (hu : X.A.units + 1 < cLine) : PSet X rSetD := by
  intro pins s σ H o i v ov iv u Q I ro ri rv h
  obtain ⟨a, H', rfl, g, q⟩ := h
  cases ro
  exact d_setItem hu I g ri rv fun s' I' => ⟨H', I', q⟩
theorem PSet.or {t t' : V → V → V → Hp → (Hp → Prop) → Prop} (h : PSet X t) (h' : PSet X t') : PSet X (fun o i v H Q => t o i v H Q ∨ t' o i v H Q) := by
  intro pins s σ H o i v ov iv u Q I ro ri rv q
  rcases q with q | q
  · exact h pins s σ H o i v ov iv u Q I ro ri rv q
  · exact h' pins s σ H o i v ov iv u Q I ro ri rv q
def rSetX : V → V → V → Hp → (Hp → Prop) → Prop := fun o i v H Q => rSetL o i v H Q ∨ rSetD o i v H Q
theorem set_any (hu : X.A.units + 1 < cLine) : PSet X rSetX := PSet.or set_list (set_dict hu)
theorem os_set {K : PySem.W.Frag} {w : Wd} {h h' : Hh} {o i v : PV} {x y z : V} {Q : Hp → Prop} (rh : RH K w h) (ro : RV K w o x) (ri : RV K w i y) (rv : RV K w v z) (e : fSet o i v h = some h')
    (q : ∀ w', Ext K w w' → RH K w' h' → Q w'.H) : rSetX x y z w.H Q := by
  unfold fSet at e
  split at e
  · obtain ⟨hj, rfl⟩ := ro
    split at e
    · rename_i xs e0
      obtain ⟨vs, s, r⟩ := rh.lst e0
      split at e
      · cases (show y = V.int _ from ri)
        split at e
        · rename_i n e1
          cases e
          refine .inl ⟨_, vs, _, n, rfl, rfl, s, by rw [r.len]; exact e1, q _ (Ext.put rh hj s (fun _ _ z => nomatch z)) (rh.put hj s (fun _ _ z => nomatch z) ⟨vs.set n z, upd_same, ?_⟩)⟩
          exact (r.set rv n).ext (Ext.put rh hj s (fun _ _ z => nomatch z))
        · cases e
      · cases e
    · rename_i kvs e0
      obtain ⟨ks, s, r⟩ := rh.dic e0
      split at e
      · rename_i k ek
        split at e
        · rename_i hz
          cases e
          refine .inr ⟨_, _, rfl, by rw [key_rel ri ek]; exact DPut.k s (by rw [r.len]; exact hz), q _ (Ext.put rh hj s (fun _ _ z => nomatch z)) (rh.put hj s (fun _ _ z => nomatch z) ⟨putK ks (keyOf k) z, upd_same, ?_⟩)⟩
          exact (r.put rv).ext (Ext.put rh hj s (fun _ _ z => nomatch z))
        · cases e
      · cases e
    · cases e
  · cases e
end
end U
set_option Elab.async false
set_option linter.all false
set_option maxRecDepth 100000
set_option maxHeartbeats 2000000
/-! The generic layer, part 6: statements, targets, attributes, while, for. -/
namespace U
open PySem PySem.Spec PyProof.Rows L2
variable [Tab]

inductive SRes where
  | nx (s : Ev0) (h : Hh) | rt (v : PV) (h : Hh) | bk (s : Ev0) (h : Hh) | ct (s : Ev0) (h : Hh)
  | exn (c : Nat) (fs : List PV) (s : Ev0) (h : Hh) | stuck
abbrev Sv := Ev0 → Hh → SRes
@[simp] def Res.to {α : Type} (r : Res α) (s : Ev0) (k : α → Hh → SRes) : SRes := match r with
  | .ok a h => k a h
  | .exn c fs h => .exn c fs s h
  | .stuck => .stuck
def SPost (K : PySem.W.Frag) (W : WX) (w : Wd) (r : SRes) (D : Ends) : Prop := match r with
  | .nx s h => ∀ w' σ, Ext K w w' → RH K w' h → RS K w' s σ → D.nx σ w'.H
  | .rt v h => ∀ w' x, Ext K w w' → RH K w' h → RV K w' v x → D.rt x w'.H
  | .bk s h => ∀ w' σ, Ext K w w' → RH K w' h → RS K w' s σ → D.bk σ w'.H
  | .ct s h => ∀ w' σ, Ext K w w' → RH K w' h → RS K w' s σ → D.ct σ w'.H
  | .exn c fs s h => ∀ w' σ d, Ext K w w' → RH K w' h → RS K w' s σ → RX K w' c fs d → W (.ref (He.ga K (cN c))) d σ w'.H
  | .stuck => False
def tS (K : PySem.W.Frag) (W : WX) (m : Sv) : TS := fun D σ H => ∃ w s h, w.H = H ∧ RH K w h ∧ RS K w s σ ∧ SPost K W w (m s h) D
def SimS (X : Cx) (W : WX) (st : Stmt) (m : Sv) : Prop := PS X st (tS X.K W m)
def SimB (X : Cx) (W : WX) (st : List Stmt) (m : Sv) : Prop := PSs X st (tS X.K W m)
section
variable {K : PySem.W.Frag} {W : WX} {w w' : Wd} {D : Ends}
theorem SPost.ext {r : SRes} (h : SPost K W w r D) (x : Ext K w w') : SPost K W w' r D := by
  cases r with
  | nx s h1 => exact fun w2 σ e => h w2 σ (x.trans e)
  | rt v h1 => exact fun w2 σ e => h w2 σ (x.trans e)
  | bk s h1 => exact fun w2 σ e => h w2 σ (x.trans e)
  | ct s h1 => exact fun w2 σ e => h w2 σ (x.trans e)
  | exn c fs s h1 => exact fun w2 σ d e => h w2 σ d (x.trans e)
  | stuck => exact h
theorem tS_mk {m : Sv} {σ : L2.St} {s : Ev0} {h : Hh} (rh : RH K w h) (rs : RS K w s σ) (p : SPost K W w (m s h) D) : tS K W m D σ w.H := ⟨w, s, h, rfl, rh, rs, p⟩
/-- a value, then what follows -/
theorem tS_bind {α β : Type} {R : Wd → Wd → α → β → Prop} {m : Mv α} {k : Ev0 → α → Hh → SRes} {σ : L2.St} {H : Hp} {C : β → Hp → Prop} (h : tS K W (fun s h => (m s h).to s (k s)) D σ H)
    (c : ∀ w w' s v x h', Ext K w w' → RS K w' s σ → RH K w' h' → R w w' v x → SPost K W w' (k s v h') D → C x w'.H) : tR K W R m σ H C := by
  obtain ⟨w, s, hh, rfl, rh, rs, p⟩ := h
  refine ⟨w, s, hh, rfl, rh, rs, ?_⟩
  have p : SPost K W w ((m s hh).to s (k s)) D := p
  cases q : m s hh with
  | ok v h1 =>
    rw [q] at p
    exact fun w' x e rh' r => c w w' s v x h1 e (rs.ext e) rh' r (SPost.ext p e)
  | exn cc fs h1 =>
    rw [q] at p
    exact fun w' d e rh' rx => p w' σ d e rh' (rs.ext e) rx
  | stuck =>
    rw [q] at p
    exact p
/-- .. behind another -/
theorem tS_next {α β : Type} {R : Wd → Wd → α → β → Prop} {m : Mv α} {w : Wd} {s : Ev0} {h : Hh} {k : α → Hh → SRes} {σ : L2.St} {C : β → Hp → Prop} (rh : RH K w h) (rs : RS K w s σ) (p : SPost K W w ((m s h).to s k) D)
    (c : ∀ w' v x h', Ext K w w' → RH K w' h' → R w w' v x → SPost K W w' (k v h') D → C x w'.H) : tR K W R m σ w.H C := by
  refine ⟨w, s, h, rfl, rh, rs, ?_⟩
  cases q : m s h with
  | ok v h1 =>
    rw [q] at p
    exact fun w' x e rh' r => c w' v x h1 e rh' r (SPost.ext p e)
  | exn cc fs h1 =>
    rw [q] at p
    exact fun w' d e rh' rx => p w' σ d e rh' (rs.ext e) rx
  | stuck =>
    rw [q] at p
    exact p
end
section
variable {X : Cx} {W : WX} {st : Stmt} {rest a b : List Stmt} {e c o : Expr} {pos : Pos} {m ma mb : Sv} {me : Ev} {tc : Tv}
theorem ps_imp {t t' : TS} (h : PS X st t) (i : ∀ D σ H, t' D σ H → t D σ H) : PS X st t' := ⟨fun pins s σ H D I q => h.run pins s σ H D I (i D σ H q)⟩
theorem pss_imp {t t' : TS} (h : PSs X rest t) (i : ∀ D σ H, t' D σ H → t D σ H) : PSs X rest t' := ⟨fun pins s σ H D I q => h.run pins s σ H D I (i D σ H q)⟩
@[simp] def sNext : Sv := fun s h => .nx s h
@[simp] def sSeq (a b : Sv) : Sv := fun s h => match a s h with
  | .nx s h => b s h
  | r => r
theorem sb_nil : SimB X W [] sNext := pss_imp pss_nil fun D σ H q => by
  obtain ⟨w, s, hh, rfl, rh, rs, p⟩ := q
  exact p w σ (Ext.refl w) rh rs
theorem sb_cons (h1 : SimS X W st ma) (h2 : SimB X W rest mb) : SimB X W (st :: rest) (sSeq ma mb) := pss_imp (pss_cons h1 h2) fun D σ H q => by
  obtain ⟨w, s, hh, rfl, rh, rs, p⟩ := q
  refine ⟨w, s, hh, rfl, rh, rs, ?_⟩
  unfold sSeq at p
  cases q : ma s hh with
  | nx s1 h1 =>
    rw [q] at p
    exact fun w' σ' x rh' rs' => tS_mk rh' rs' (SPost.ext p x)
  | rt v h1 => rw [q] at p; exact p
  | bk v h1 => rw [q] at p; exact p
  | ct v h1 => rw [q] at p; exact p
  | exn c fs v h1 => rw [q] at p; exact p
  | stuck => rw [q] at p; exact p
theorem sb_one (h1 : SimS X W st ma) : SimB X W [st] ma := pss_one h1
theorem ss_pass : SimS X W (.Pass pos) sNext := ps_imp ps_pass fun D σ H q => by
  obtain ⟨w, s, hh, rfl, rh, rs, p⟩ := q
  exact p w σ (Ext.refl w) rh rs
@[simp] def sBreak : Sv := fun s h => .bk s h
theorem ss_break : SimS X W (.Break pos) sBreak := ps_imp ps_break fun D σ H q => by
  obtain ⟨w, s, hh, rfl, rh, rs, p⟩ := q
  exact p w σ (Ext.refl w) rh rs
@[simp] def sExpr (m : Ev) : Sv := fun s h => (m s h).to s fun _ h => .nx s h
theorem ss_expr (he : SimE X W e me) (hs : swapsWith e none pos.line X.env = pure false := by rfl) : SimS X W (.Expr e pos) (sExpr me) :=
  ps_imp (ps_expr he hs) fun D σ H q => tS_bind q fun w w' s v x h' x1 rs rh r p => p w' σ (Ext.refl _) rh rs
@[simp] def sRet (m : Ev) : Sv := fun s h => (m s h).to s fun v h => .rt v h
theorem ss_ret (he : SimE X W e me) : SimS X W (.Return (some e) pos) (sRet me) :=
  ps_imp (ps_ret he) fun D σ H q => tS_bind q fun w w' s v x h' x1 rs rh r p => p w' x (Ext.refl _) rh r
@[simp] def sIf (c : Tv) (a b : Sv) : Sv := fun s h => (c s h).to s fun k h => if k = true then a s h else b s h
theorem ss_if (hc : SimT X W c tc) (ha : SimB X W a ma) (hb : SimB X W b mb) : SimS X W (.If c a b pos) (sIf tc ma mb) :=
  ps_imp (ps_if hc ha hb) fun D σ H q => tS_bind q fun w w' s v x h' x1 rs rh r p => by
    subst r
    cases v with
    | true => rw [if_pos rfl]; exact tS_mk rh rs p
    | false => rw [if_neg Bool.false_ne_true]; exact tS_mk rh rs p

/-! ### targets -/
abbrev Tgt := PV → Ev0 → Hh → Res Ev0
def tG (K : PySem.W.Frag) (m : Tgt) : TG := fun v σ H Q => ∃ w s h p s' h', w.H = H ∧ RH K w h ∧ RS K w s σ ∧ RV K w p v ∧ m p s h = .ok s' h' ∧ ∀ w' σ', Ext K w w' → RH K w' h' → RS K w' s' σ' → Q σ' w'.H
abbrev Tgts := List PV → Ev0 → Hh → Res Ev0
def tGs (K : PySem.W.Frag) (m : Tgts) : TGs := fun v σ H Q => ∃ w s h p s' h', w.H = H ∧ RH K w h ∧ RS K w s σ ∧ RVs K w p v ∧ m p s h = .ok s' h' ∧ ∀ w' σ', Ext K w w' → RH K w' h' → RS K w' s' σ' → Q σ' w'.H
def SimG (X : Cx) (e : Expr) (m : Tgt) : Prop := PG X e (tG X.K m)
def SimGs (X : Cx) (es : List Expr) (m : Tgts) : Prop := PGs X es (tGs X.K m)
theorem pg_imp {t t' : TG} (h : PG X e t) (i : ∀ v σ H Q, t' v σ H Q → t v σ H Q) : PG X e t' := ⟨fun pins s σ H v u Q I r q => h.run pins s σ H v u Q I r (i v σ H Q q)⟩
theorem pgs_imp {es : List Expr} {t t' : TGs} (h : PGs X es t) (i : ∀ v σ H Q, t' v σ H Q → t v σ H Q) : PGs X es t' := ⟨fun pins s σ H v u Q I r q => h.run pins s σ H v u Q I r (i v σ H Q q)⟩
@[simp] def gN (i : Nat) : Tgt := fun v s h => .ok (s.set i (some v)) h
theorem sg_name {i : Nat} {x : Str} (hN : X.N.Nodup) (hi : X.N[i]? = some x) (hx : Loc X.env.scope x) (hf : X.fn x = true ∨ X.env.scope.names.lookup x = some .local := by first | exact .inl rfl | exact .inr rfl | assumption) : SimG X (.Name x pos) (gN i) :=
  pg_imp (pg_name hN hi hx hf) fun v σ H Q q => by
    obtain ⟨w, s, h, p, s', h', rfl, rh, rs, rv, e, q⟩ := q
    cases e
    exact q w _ (Ext.refl w) rh (rs.set rv)
@[simp] def gNil : Tgts := fun vs s h => match vs with
  | [] => .ok s h
  | _ => .stuck
@[simp] def gCons (t : Tgt) (r : Tgts) : Tgts := fun vs s h => match vs with
  | v :: vs => (t v s h).bind fun s h => r vs s h
  | [] => .stuck
theorem sgs_nil : SimGs X [] gNil := pgs_imp pgs_nil fun v σ H Q q => by
  obtain ⟨w, s, h, p, s', h', rfl, rh, rs, rv, e, q⟩ := q
  cases p with
  | nil => cases e; exact ⟨rv, q w _ (Ext.refl w) rh rs⟩
  | cons a b => cases e
theorem sgs_cons {es : List Expr} {t : Tgt} {r : Tgts} (h1 : SimG X e t) (h2 : SimGs X es r) (hs : (assignEach (e :: es) X.env).map (·.2) = assign e X.env :: (assignEach es X.env).map (·.2) := by rfl) : SimGs X (e :: es) (gCons t r) :=
  pgs_imp (pgs_cons h1 h2 hs) fun v σ H Q q => by
    obtain ⟨w, s, h, p, s', h', rfl, rh, rs, rv, e, q⟩ := q
    cases p with
    | nil => cases e
    | cons a b =>
      obtain ⟨x, xs, rfl, r1, r2⟩ := rv
      refine ⟨x, xs, rfl, ?_⟩
      have e' : (t a s h).bind (fun s h => r b s h) = .ok s' h' := e
      cases e1 : t a s h with
      | ok s1 h1 =>
        rw [e1] at e'
        exact ⟨w, s, h, a, s1, h1, rfl, rh, rs, r1, e1, fun w1 σ1 x1 rh1 rs1 => ⟨w1, s1, h1, b, s', h', rfl, rh1, rs1, r2.ext x1, e', fun w2 σ2 x2 => q w2 σ2 (x1.trans x2)⟩⟩
      | exn c fs h1 => rw [e1] at e'; cases e'
      | stuck => rw [e1] at e'; cases e'
@[simp] def gT (r : Tgts) : Tgt := fun v s h => match v with
  | .tup xs => r xs s h
  | _ => .stuck
/-- how many targets -/
theorem sg_tup {es : List Expr} {k : Nat} {r : Tgts} {n : Nat} (hc : X.calm = true) (h : SimGs X es r) (hl : ∀ xs s h s' h', r xs s h = .ok s' h' → xs.length = n)
    (hn : (assignEach es X.env).length = n := by rfl) (hst : (assignEach es X.env).findIdx? (·.1) = none := by rfl) : SimG X (.Tuple es k pos) (gT r) :=
  pg_imp (pg_tup hc h hn hst) fun v σ H Q q => by
    obtain ⟨w, s, h, p, s', h', rfl, rh, rs, rv, e, q⟩ := q
    cases p with
    | tup xs =>
      obtain ⟨a, vs, rfl, s1, r1⟩ := rv
      exact ⟨a, vs, rfl, s1.sq, by rw [r1.len]; exact hl _ _ _ _ _ e, w, s, h, xs, s', h', rfl, rh, rs, r1, e, q⟩
    | _ => cases e
theorem glen_nil {xs : List PV} {s : Ev0} {h : Hh} {s' : Ev0} {h' : Hh} (e : gNil xs s h = .ok s' h') : xs.length = 0 := by
  cases xs with
  | nil => rfl
  | cons a b => cases e
theorem glen_cons {t : Tgt} {r : Tgts} {n : Nat} (ih : ∀ xs s h s' h', r xs s h = .ok s' h' → xs.length = n) : ∀ xs s h s' h', gCons t r xs s h = .ok s' h' → xs.length = n + 1 := by
  intro xs s h s' h' e
  cases xs with
  | nil => cases e
  | cons a b =>
    have e' : (t a s h).bind (fun s h => r b s h) = .ok s' h' := e
    cases e1 : t a s h with
    | ok s1 h1 =>
      rw [e1] at e'
      rw [List.length_cons, ih b s1 h1 s' h' e']
    | exn c fs h1 => rw [e1] at e'; cases e'
    | stuck => rw [e1] at e'; cases e'
/-- o[i] = .. -/
@[simp] def gS (o i : Ev) : Tgt := fun v s h => match o s h with
  | .ok x h => (match i s h with
    | .ok y h => (match fSet x y v h with
      | some h => .ok s h
      | none => .stuck)
    | _ => .stuck)
  | _ => .stuck
theorem sg_sub {i : Expr} {mo mi : Ev} (hu : X.A.units + 1 < cLine) (ho : SimE X W o mo) (hi : SimE X W i mi) (ha : ∀ v, assign (.Subscript o i pos) X.env v = (do
      let ov ← holding [v] (eval o X.env)
      let iv ← holding [v, ov] (eval i X.env)
      standAt pos
      holding [v, ov, iv] (setItem ov iv v)
      release [v, ov, iv] []) := by intro _; rfl) : SimG X (.Subscript o i pos) (gS mo mi) :=
  pg_imp (pg_sub ho hi (set_any hu) ha) fun v σ H Q q => by
    obtain ⟨w, s, h, p, s', h', rfl, rh, rs, rv, e, q⟩ := q
    unfold gS at e
    split at e
    · rename_i x1 h1 e1
      split at e
      · rename_i y1 h2 e2
        split at e
        · rename_i h3 e3
          cases e
          refine ⟨w, s, h, rfl, rh, rs, ?_⟩
          rw [e1]
          intro w1 xo x1 rh1 ro
          refine ⟨w1, s, h1, rfl, rh1, rs.ext x1, ?_⟩
          rw [e2]
          intro w2 xi x2 rh2 ri
          exact os_set rh2 (ro.ext x2) ri (rv.ext (x1.trans x2)) e3 fun w3 x3 rh3 => q w3 σ ((x1.trans x2).trans x3) rh3 (rs.ext ((x1.trans x2).trans x3))
        · cases e
      · cases e
    · cases e
@[simp] def sAsg (m : Ev) (t : Tgt) : Sv := fun s h => (m s h).to s fun v h => (t v s h).to s fun s h => .nx s h
theorem asg_ok {K : PySem.W.Frag} {t : Tgt} {w : Wd} {s : Ev0} {h : Hh} {v : PV} {x : V} {σ : L2.St} {D : Ends} (rh : RH K w h) (rs : RS K w s σ) (r : RV K w v x) (p : SPost K W w ((t v s h).to s fun s h => .nx s h) D)
    (hx : ∀ c fs h', t v s h ≠ .exn c fs h') : tG K t x σ w.H D.nx := by
  cases e : t v s h with
  | ok s' h' =>
    rw [e] at p
    exact ⟨w, s, h, v, s', h', rfl, rh, rs, r, e, p⟩
  | exn c fs h' => exact absurd e (hx c fs h')
  | stuck => rw [e] at p; exact p.elim
/-- a target that raises nothing -/
def Still (t : Tgt) : Prop := ∀ v s h c fs h', t v s h ≠ .exn c fs h'
theorem still_gN {i : Nat} : Still (gN i) := fun _ _ _ _ _ _ e => by cases e
theorem still_gS {o i : Ev} : Still (gS o i) := fun v s h c fs h' e => by
  unfold gS at e
  split at e
  · split at e
    · split at e <;> cases e
    · cases e
  · cases e
def Stills (t : Tgts) : Prop := ∀ v s h c fs h', t v s h ≠ .exn c fs h'
theorem stills_nil : Stills gNil := fun v s h c fs h' e => by cases v <;> cases e
theorem stills_cons {t : Tgt} {r : Tgts} (h1 : Still t) (h2 : Stills r) : Stills (gCons t r) := fun v s h c fs h' e => by
  cases v with
  | nil => cases e
  | cons a b =>
    have e' : (t a s h).bind (fun s h => r b s h) = .exn c fs h' := e
    cases e1 : t a s h with
    | ok s1 h1 => rw [e1] at e'; exact h2 _ _ _ _ _ _ e'
    | exn c fs h1' => exact h1 _ _ _ _ _ _ e1
    | stuck => rw [e1] at e'; cases e'
theorem still_gT {r : Tgts} (h : Stills r) : Still (gT r) := fun v s hh c fs h' e => by
  cases v with
  | tup xs => exact h _ _ _ _ _ _ e
  | _ => cases e
theorem ss_set {i : Nat} {x : Str} {pos' : Pos} (hN : X.N.Nodup) (hi : X.N[i]? = some x) (hx : Loc X.env.scope x) (he : SimE X W e me) (hs : swapsWith e (some (.Name x pos')) pos.line X.env = pure false := by rfl) (hf : X.fn x = true ∨ X.env.scope.names.lookup x = some .local := by first | exact .inl rfl | exact .inr rfl | assumption) :
    SimS X W (.Assign [.Name x pos'] e pos) (sAsg me (gN i)) :=
  ps_imp (ps_set hN hi hx he hs hf) fun D σ H q => tS_bind q fun w w' s v x h' x1 rs rh r p => p w' _ (Ext.refl _) rh (rs.set r)
theorem ss_asg {tg : Expr} {t : Tgt} (he : SimE X W e me) (hg : SimG X tg t) (hx : Still t) (hs : swapsWithSole [tg] e pos.line X.env = pure false := by rfl) (hw : swappedStores [tg] e X.env = pure none := by rfl)
    (h1 : (assignEach [tg] X.env).map (·.2) = [assign tg X.env] := by rfl) : SimS X W (.Assign [tg] e pos) (sAsg me t) :=
  ps_imp (ps_asg he hg hs hw h1) fun D σ H q => tS_bind q fun w w' s v x h' x1 rs rh r p => asg_ok rh rs r p (hx v s h')
/-- a, b = x, y: local names -/
@[simp] def sPar (i j : Nat) (ma mb : Ev) : Sv := fun s h => (ma s h).to s fun v h => (mb s h).to s fun u h => .nx ((s.set i (some v)).set j (some u)) h
theorem ss_par {i j : Nat} {x y : Str} {a b : Expr} {ma mb : Ev} {px py pt : Pos} {kt k2 pt2} (hc : X.calm = true) (hN : X.N.Nodup) (hi : X.N[i]? = some x) (hj : X.N[j]? = some y) (hij : i ≠ j)
    (hx : X.env.scope.names.lookup x = some .local) (hy : X.env.scope.names.lookup y = some .local) (h1 : SimE X W a ma) (h2 : SimE X W b mb)
    (hq : ∀ t, PA X [a, b] t → PS X (.Assign [.Tuple [.Name x px, .Name y py] kt pt] (.Tuple [a, b] k2 pt2) pos) (tPar i j t)) (hs : starEach [a, b] X.env = (false, eval a X.env) :: starEach [b] X.env := by rfl) (hs2 : starEach [b] X.env = (false, eval b X.env) :: starEach [] X.env := by rfl) :
    SimS X W (.Assign [.Tuple [.Name x px, .Name y py] kt pt] (.Tuple [a, b] k2 pt2) pos) (sPar i j ma mb) :=
  ps_imp (hq _ (pa_cons h1 (pa_cons h2 pa_nil hs2) hs)) fun D σ H q => tS_bind q fun w w' s v x h' x1 rs rh r p =>
    tS_next rh rs p fun w2 u y h2 x2 rh2 r2 p2 => ⟨x, y, rfl, p2 w2 _ (Ext.refl _) rh2 (((rs.ext x2).set (r.ext x2)).set r2)⟩
/-- name op= value -/
@[simp] def sAug (i : Nat) (f : F2) (m : Ev) : Sv := fun s h => match s[i]? with
  | some (some v) => (m s h).to s fun u h => (f v u h).to s fun z h => .nx (s.set i (some z)) h
  | _ => .stuck
theorem ss_aug {i : Nat} {x : Str} {op : Operator} {f : F2} {ti : R2} {pos' : Pos} (hN : X.N.Nodup) (hi : X.N[i]? = some x) (hx : Loc X.env.scope x) (he : SimE X W e me) (ho : PIp X op ti) (hf2 : OpSim X.K f ti) (hnx : ∀ v u h c fs h', f v u h ≠ .exn c fs h')
    (hf : X.fn x = true ∨ X.env.scope.names.lookup x = some .local := by first | exact .inl rfl | exact .inr rfl | assumption) : SimS X W (.AugAssign (.Name x pos') op e pos) (sAug i f me) :=
  ps_imp (ps_aug hN hi hx he ho hf) fun D σ H q => by
    obtain ⟨w, s, hh, rfl, rh, rs, p⟩ := q
    unfold sAug at p
    split at p
    · rename_i v ev
      obtain ⟨x0, e0, r0⟩ := rs.get i v ev
      refine ⟨x0, e0, tS_next rh rs p fun w2 u y h2 x2 rh2 r2 p2 => ?_⟩
      refine hf2 W w2 σ h2 v u x0 y _ rh2 (r0.ext x2) r2 ?_
      cases q : f v u h2 with
      | ok z h3 =>
        rw [q] at p2
        exact fun w3 xz x3 rh3 r3 => p2 w3 _ x3 rh3 (((rs.ext x2).ext x3).set r3)
      | exn c fs h3 => exact absurd q (hnx _ _ _ _ _ _)
      | stuck => rw [q] at p2; exact p2
    · exact p.elim
end
end U
set_option Elab.async false
set_option linter.all false
set_option maxRecDepth 100000
set_option maxHeartbeats 2000000
/-! The generic layer, part 7: attributes, while, for, what a loop walks. -/
namespace U
open PySem PySem.Spec PyProof.Rows L2
variable [Tab]
section
variable {X : Cx} {W : WX} {e o : Expr} {pos pos' : Pos} {me mo : Ev}
/-- e.f, by the number of the field in each class that has it -/
@[simp] def fldOf (ix : Nat → Option Nat) (v : PV) (h : Hh) : Res PV := match v with
  | .ref i => (match h[i]? with
    | some (.ins c fs) => (match ix c with
      | some j => (match fs[j]? with
        | some (some u) => .ok u h
        | _ => .stuck)
      | none => .stuck)
    | _ => .stuck)
  | _ => .stuck
@[simp] def eFld (ix : Nat → Option Nat) (m : Ev) : Ev := fun s h => (m s h).bind (fldOf ix)
theorem se_fld {f : Str} {ix : Nat → Option Nat} (hix : ∀ c j, ix c = some j → (cF c)[j]? = some f) (he : SimE X W e me) (hb : attributeBase e f X.env (eval e X.env) = eval e X.env := by rfl) : SimE X W (.Attribute e f pos) (eFld ix me) :=
  pe_imp (pe_fld he hb) fun σ H Q q => tR_bind back_e q fun w w' s v x h' x1 rs rh r p => by
    unfold fldOf at p
    split at p
    · rename_i i
      obtain ⟨hi, rfl⟩ := r
      split at p
      · rename_i c fs e1
        obtain ⟨dx, gs, s1, ri⟩ := rh.ins e1
        split at p
        · rename_i j ej
          have hf := hix c j ej
          split at p
          · rename_i u eu
            obtain ⟨y, e2, ry⟩ := ri.get j f u hf eu
            exact ⟨_, _, dx, gs, y, rfl, s1, ri.cf.cls, ri.cf.noat f (List.mem_of_getElem? hf), e2, p.now rh ry⟩
          · exact p.elim
        · exact p.elim
      · exact p.elim
    · exact p.elim
theorem keys_put {f : Str} {y : V} : ∀ {gs : List (Str × V)}, (gs.map (·.1)).Nodup → ((putF f y gs).map (·.1)).Nodup ∧ (∀ g, g ∈ (putF f y gs).map (·.1) → g = f ∨ g ∈ gs.map (·.1))
  | [], _ => ⟨by simp [putF], fun g hg => by simp [putF] at hg; exact .inl hg⟩
  | (a, b) :: gs, h => by
    have h2 := List.nodup_cons.mp h
    unfold putF
    by_cases e : a = f
    · rw [if_pos e]
      subst e
      exact ⟨h, fun g hg => .inr hg⟩
    · rw [if_neg e]
      obtain ⟨i1, i2⟩ := keys_put (f := f) (y := y) (gs := gs) h2.2
      refine ⟨List.nodup_cons.mpr ⟨fun hm => ?_, i1⟩, fun g hg => ?_⟩
      · rcases i2 a hm with q | q
        · exact e q
        · exact h2.1 q
      · rcases List.mem_cons.mp hg with q | q
        · exact .inr (by rw [q]; exact List.mem_cons_self)
        · rcases i2 g q with z | z
          · exact .inl z
          · exact .inr (List.mem_cons_of_mem _ z)
theorem len_of_nodup : ∀ {xs ys : List Str}, xs.Nodup → xs ⊆ ys → xs.length ≤ ys.length
  | [], _, _, _ => Nat.zero_le _
  | x :: xs, ys, h, s => by
    have h2 := List.nodup_cons.mp h
    have hm : x ∈ ys := s List.mem_cons_self
    have ih := len_of_nodup (ys := ys.erase x) h2.2 fun z hz => by
      have hzx : z ≠ x := fun e => h2.1 (e ▸ hz)
      exact (List.mem_erase_of_ne hzx).mpr (s (List.mem_cons_of_mem _ hz))
    have l1 := List.length_erase_of_mem hm
    have l2 := List.length_pos_of_mem hm
    rw [List.length_cons]
    omega
theorem RI.put {K : PySem.W.Frag} {w : Wd} {c j : Nat} {f : Str} {fs : List (Option PV)} {gs : List (Str × V)} {v : PV} {y : V} (r : RI K w c fs gs) (hf : (cF c)[j]? = some f) (rv : RV K w v y) : RI K w c (fs.set j (some v)) (putF f y gs) where
  cf := r.cf
  len := by rw [List.length_set]; exact r.len
  keys := fun g hg => by
    rcases (keys_put r.nd).2 g hg with q | q
    · rw [q]; exact List.mem_of_getElem? hf
    · exact r.keys q
  nd := (keys_put r.nd).1
  get := fun i g u hg hu => by
    have hj : j < fs.length := by rw [r.len]; exact (List.getElem?_eq_some_iff.mp hf).1
    by_cases e : i = j
    · subst e
      rw [hf] at hg
      cases hg
      rw [List.getElem?_set_self hj] at hu
      cases hu
      exact ⟨y, by rw [lookup_putF, if_pos rfl], rv⟩
    · rw [List.getElem?_set_ne (Ne.symm e)] at hu
      obtain ⟨x, e1, rx⟩ := r.get i g u hg hu
      refine ⟨x, ?_, rx⟩
      rw [lookup_putF, if_neg]
      · exact e1
      · intro z
        subst z
        exact e (nodup_ix r.cf.nd hg hf)
theorem RI.few {K : PySem.W.Frag} {w : Wd} {c : Nat} {fs : List (Option PV)} {gs : List (Str × V)} (r : RI K w c fs gs) : gs.length < 1000 := by
  have := len_of_nodup r.nd r.keys
  rw [List.length_map] at this
  have := r.cf.few
  omega
/-- o.f = v in the heap -/
@[simp] def setFld (ix : Nat → Option Nat) (o v : PV) (h : Hh) : Option Hh := match o with
  | .ref i => (match h[i]? with
    | some (.ins c fs) => (match ix c with
      | some j => some (h.set i (.ins c (fs.set j (some v))))
      | none => none)
    | _ => none)
  | _ => none
theorem setFld_ok {K : PySem.W.Frag} {f : Str} {ix : Nat → Option Nat} (hix : ∀ c j, ix c = some j → (cF c)[j]? = some f) {w : Wd} {h h' : Hh} {o v : PV} {x y : V} (rh : RH K w h) (ro : RV K w o x) (rv : RV K w v y) (e : setFld ix o v h = some h') :
    ∃ a C dx fs, x = .ref a ∧ w.H a = some (.ins C dx fs) ∧ Cls K C ∧ NoAttr K C f ∧ fs.length < 1000 ∧ ∃ w', w'.H = upd w.H a (.ins C dx (putF f y fs)) ∧ Ext K w w' ∧ RH K w' h' := by
  unfold setFld at e
  split at e
  · rename_i i
    obtain ⟨hi, rfl⟩ := ro
    split at e
    · rename_i c fs e1
      obtain ⟨dx, gs, s1, ri⟩ := rh.ins e1
      split at e
      · rename_i j ej
        cases e
        have hf := hix c j ej
        exact ⟨_, _, dx, gs, rfl, s1, ri.cf.cls, ri.cf.noat f (List.mem_of_getElem? hf), ri.few, _, rfl, Ext.put rh hi s1 (fun _ _ z => nomatch z), rh.put hi s1 (fun _ _ z => nomatch z) ⟨dx, putF f y gs, upd_same, (ri.put hf rv).ext (Ext.put rh hi s1 (fun _ _ z => nomatch z))⟩⟩
      · cases e
    · cases e
  · cases e
@[simp] def sFldE (ix : Nat → Option Nat) (mo mv : Ev) : Sv := fun s h => (mv s h).to s fun v h => (mo s h).to s fun o h => match setFld ix o v h with
  | some h => .nx s h
  | none => .stuck
theorem ss_fld {value : Expr} {f : Str} {mv : Ev} {ix : Nat → Option Nat} (hix : ∀ c j, ix c = some j → (cF c)[j]? = some f) (ho : SimE X W o mo) (hv : SimE X W value mv) (hs : swapsWith value (some (.Attribute o f pos')) pos.line X.env = pure false := by rfl) :
    SimS X W (.Assign [.Attribute o f pos'] value pos) (sFldE ix mo mv) :=
  ps_imp (ps_fld ho hv hs) fun D σ H q => tS_bind q fun w w' s v y h' x1 rs rh rv p => tS_next rh rs p fun w2 ov x h2 x2 rh2 ro p2 => by
    split at p2
    · rename_i h3 e3
      obtain ⟨a, C, dx, gs, rfl, e1, c1, c2, c3, w3, eH, x3, rh3⟩ := setFld_ok hix rh2 ro (rv.ext x2) e3
      refine ⟨a, C, dx, gs, rfl, e1, c1, c2, c3, ?_⟩
      rw [← eH]
      exact p2 w3 σ x3 rh3 ((rs.ext x2).ext x3)
    · exact p2.elim
/-- o.f op= v -/
@[simp] def sFldAugE (ix : Nat → Option Nat) (f : F2) (mo mv : Ev) : Sv := fun s h => (mo s h).to s fun o h => match o with
  | .ref i => (match h[i]? with
    | some (.ins c fs) => (match ix c with
      | some j => (match fs[j]? with
        | some (some v) => (mv s h).to s fun u h => (f v u h).to s fun z h => (match h[i]? with
          | some (.ins c' fs') => if c' = c then .nx s (h.set i (.ins c (fs'.set j (some z)))) else .stuck
          | _ => .stuck)
        | _ => .stuck)
      | none => .stuck)
    | _ => .stuck)
  | _ => .stuck
theorem ss_fldaug {value : Expr} {fl : Str} {op : Operator} {f : F2} {rd : R2} {mv : Ev} {ix : Nat → Option Nat} {tpos : Pos} (hix : ∀ c j, ix c = some j → (cF c)[j]? = some fl) (ho : SimE X W o mo) (hv : SimE X W value mv) (hop : InOp X op rd) (hf2 : OpSim X.K f rd) (hnx : ∀ v u h c fs h', f v u h ≠ .exn c fs h') :
    SimS X W (.AugAssign (.Attribute o fl tpos) op value pos) (sFldAugE ix f mo mv) :=
  ps_imp (ps_fldaug ho hv hop) fun D σ H q => tS_bind q fun w w' s v x h' x1 rs rh r p => by
    split at p
    · rename_i i
      obtain ⟨hi, rfl⟩ := r
      split at p
      · rename_i c fs e1
        obtain ⟨dx, gs, s1, ri⟩ := rh.ins e1
        split at p
        · rename_i j ej
          have hf := hix c j ej
          split at p
          · rename_i u0 eu
            obtain ⟨y, e2, ry⟩ := ri.get j fl u0 hf eu
            refine ⟨_, _, dx, gs, y, rfl, s1, ri.cf.cls, ri.cf.noat fl (List.mem_of_getElem? hf), e2, ?_⟩
            refine tS_next rh rs p fun w2 b xb h3 x2 rh2 rb p2 => ?_
            refine hf2 W w2 σ h3 u0 b y xb _ rh2 (ry.ext x2) rb ?_
            cases q3 : f u0 b h3 with
            | exn c' fs' h4 => exact absurd q3 (hnx _ _ _ _ _ _)
            | stuck => rw [q3] at p2; exact p2
            | ok z h4 =>
              rw [q3] at p2
              intro w4 xz x4 rh4 rz
              have p4 := SPost.ext p2 x4
              have x24 := x2.trans x4
              have hi4 : i < w4.n := Nat.lt_of_lt_of_le hi x24.n
              have p5 : SPost X.K W w4 (match h4[i]? with | some (.ins c' fs') => if c' = c then .nx s (h4.set i (.ins c (fs'.set j (some z)))) else .stuck | _ => .stuck) D := p4
              split at p5
              · rename_i c' fs' e5
                split at p5
                · rename_i ec
                  subst ec
                  obtain ⟨dx', gs', s5', ri5⟩ := rh4.ins e5
                  have s5 := s5'
                  rw [x24.ρ i hi] at s5
                  refine ⟨dx', gs', s5, ri5.few, ?_⟩
                  have e6 : w4.ρ i = w'.ρ i := x24.ρ i hi
                  rw [← e6]
                  exact p5 _ σ (Ext.put rh4 hi4 s5' (fun _ _ z => nomatch z)) (rh4.put hi4 s5' (fun _ _ z => nomatch z) ⟨dx', putF fl xz gs', upd_same, (ri5.put hf rz).ext (Ext.put rh4 hi4 s5' (fun _ _ z => nomatch z))⟩) (((rs.ext x2).ext x4).ext (Ext.put rh4 hi4 s5' (fun _ _ z => nomatch z)))
                · exact p5.elim
              · exact p5.elim
          · exact p.elim
        · exact p.elim
      · exact p.elim
    · exact p.elim
end

/-! ### o[i] op= v -/
section
variable {X : Cx} {W : WX} {e o i : Expr} {pos tpos : Pos} {me mo mi : Ev}
theorem pg_list : PGet X (rIxL X.K) := by
  intro pins s σ H x y v u Q I rx ry h
  obtain ⟨p, xs, k, z, rfl, rfl, hq, he, q⟩ := h
  cases rx
  obtain ⟨t, rfl⟩ := ry
  obtain ⟨its, r, pl, hz⟩ := I.list hq
  obtain ⟨j, h1, h2, h3, h4, h5⟩ := atI_get he
  obtain ⟨w, ew, rw'⟩ := r.get h2
  have hl := r.length
  have hn := line63
  have fin : EP X pins σ Q w s := ⟨z, H, I, rw', q⟩
  by_cases h0 : 0 ≤ k
  · have hj : k.toNat = j := by
      rw [seqIndex_of h0 h5] at h1
      exact Option.some.inj h1
    exact PySem.wpAny_getItem_list pl.isList h0 (by omega) (by rw [hj]; simpa using ew) fin
  · have hj : (k + (its.toArray.size : Int)).toNat = j := by
      rw [seqIndex_neg (by omega) h4] at h1
      rw [List.size_toArray, ← hl]
      exact Option.some.inj h1
    exact wpAny_getItem_list_neg pl.isList (by omega) (by rw [List.size_toArray] <;> omega) (by omega) (by rw [hj]; simpa using ew) fin
theorem pg_dict (hu : X.A.units + 1 < cLine) : PGet X rIxD := by
  intro pins s σ H x y v u Q I rx ry h
  obtain ⟨a, z, rfl, g, q⟩ := h
  cases rx
  exact d_getItem hu I g ry fun w' s' I' r' => ⟨z, H, I', r', q⟩
theorem PGet.or {t t' : R2} (h : PGet X t) (h' : PGet X t') : PGet X (fun x y H Q => t x y H Q ∨ t' x y H Q) := by
  intro pins s σ H o i ov iv Q I ro ri q
  rcases q with q | q
  · exact h pins s σ H o i ov iv Q I ro ri q
  · exact h' pins s σ H o i ov iv Q I ro ri q
/-- a subscript of a list or a dict -/
def rIxM (K : PySem.W.Frag) : R2 := fun x y H Q => rIxL K x y H Q ∨ rIxD x y H Q
def fIxM : F2 := fun v u h => match v with
  | .ref j => (match h[j]? with
    | some (.lst xs) => (match u with
      | .int i => (match atI xs i with
        | some y => .ok y h
        | none => .stuck)
      | _ => .stuck)
    | some (.dic kvs) => (match u.key? with
      | some k => (match valP kvs k with
        | some y => .ok y h
        | none => .stuck)
      | none => .stuck)
    | _ => .stuck)
  | _ => .stuck
theorem os_ixM {K : PySem.W.Frag} : OpSim K fIxM (rIxM K) := by
  intro W w σ h v u x y Q rh rv ru p
  unfold fIxM at p
  split at p
  · obtain ⟨hi, rfl⟩ := rv
    split at p
    · rename_i xs e0
      obtain ⟨vs, s, r⟩ := rh.lst e0
      split at p
      · cases (show y = V.int _ from ru)
        split at p
        · rename_i z e
          obtain ⟨x', e', r'⟩ := atI_rel r e
          exact .inl ⟨_, vs, _, x', rfl, rfl, SqL.of s, e', p.now rh r'⟩
        · exact p.elim
      · exact p.elim
    · rename_i kvs e0
      obtain ⟨ks, s, r⟩ := rh.dic e0
      split at p
      · rename_i k ek
        split at p
        · rename_i z e
          have q := r.val k
          rw [e] at q
          obtain ⟨x', e', r'⟩ := q
          refine .inr ⟨_, x', rfl, ?_, p.now rh r'⟩
          rw [key_rel ru ek, ← e']
          exact DGet.k s
        · exact p.elim
      · exact p.elim
    · exact p.elim
  · exact p.elim
@[simp] def sSubAug (f : F2) (mo mi mv : Ev) : Sv := fun s h => (mo s h).to s fun o h => (mi s h).to s fun i h => match fIxM o i h with
  | .ok x h => (mv s h).to s fun u h => (f x u h).to s fun z h => (match fSet o i z h with
    | some h => .nx s h
    | none => .stuck)
  | _ => .stuck
theorem ss_subaug {op : Operator} {f : F2} {tip : R2} (hu : X.A.units + 1 < cLine) (ho : SimE X W o mo) (hi : SimE X W i mi) (he : SimE X W e me) (hp : PIp X op tip) (hf : OpSim X.K f tip) (hnx : ∀ v u h c fs h', f v u h ≠ .exn c fs h')
    (ha : ∀ ov iv new, augStore i ov iv new = (do holding [new, ov, iv] (setItem ov iv new); release [new, ov, iv] []; pure .next) := by intros; rfl) : SimS X W (.AugAssign (.Subscript o i tpos) op e pos) (sSubAug f mo mi me) :=
  ps_imp (ps_augS ho hi (PGet.or pg_list (pg_dict hu)) he hp (set_any hu) ha) fun D σ H q => tS_bind q fun w w1 s v x h1 x1 rs rh1 rv p => tS_next rh1 rs p fun w2 k y h2 x2 rh2 rk p2 => by
    cases q1 : fIxM v k h2 with
    | exn c fs h' => rw [q1] at p2; exact p2.elim
    | stuck => rw [q1] at p2; exact p2.elim
    | ok z h3 =>
      rw [q1] at p2
      refine os_ixM W w2 σ h2 v k x y _ rh2 (rv.ext x2) rk ?_
      rw [q1]
      intro w3 xz x3 rh3 rz
      have p3 := SPost.ext p2 x3
      refine tS_next rh3 ((rs.ext x2).ext x3) p3 fun w4 u xu h4 x4 rh4 ru p4 => ?_
      refine hf W w4 σ h4 z u xz xu _ rh4 (rz.ext x4) ru ?_
      cases q2 : f z u h4 with
      | exn c fs h' => exact absurd q2 (hnx _ _ _ _ _ _)
      | stuck => rw [q2] at p4; exact p4
      | ok n h5 =>
        rw [q2] at p4
        intro w5 xn x5 rh5 rn
        have p5 : SPost X.K W w5 (match fSet v k n h5 with | some h => SRes.nx s h | none => SRes.stuck) D := SPost.ext p4 x5
        have xx := (x3.trans x4).trans x5
        split at p5
        · rename_i h6 e6
          exact os_set rh5 (rv.ext (x2.trans xx)) (rk.ext xx) rn e6 fun w6 x6 rh6 => p5 w6 σ x6 rh6 (rs.ext (x2.trans (xx.trans x6)))
        · exact p5.elim
end
end U
set_option Elab.async false
set_option linter.all false
set_option maxRecDepth 100000
set_option maxHeartbeats 2000000
/-! The generic layer, part 8: while, for, what is walked. -/
namespace U
open PySem PySem.Spec PyProof.Rows L2
variable [Tab]

/-! ### while -/
def whileF (c : Tv) (b : Sv) : Nat → Sv
  | 0, _, _ => .stuck
  | n + 1, s, h => match c s h with
    | .ok true h1 => (match b s h1 with
      | .nx s2 h2 => whileF c b n s2 h2
      | .ct s2 h2 => whileF c b n s2 h2
      | .bk s2 h2 => .nx s2 h2
      | r => r)
    | .ok false h1 => .nx s h1
    | .exn x fs h1 => .exn x fs s h1
    | .stuck => .stuck
theorem whileF_more (c : Tv) (b : Sv) : ∀ (n : Nat) (s : Ev0) (h : Hh), whileF c b n s h ≠ .stuck → whileF c b (n + 1) s h = whileF c b n s h
  | 0, s, h, q => absurd rfl q
  | n + 1, s, h, q => by
    unfold whileF at q ⊢
    cases e : c s h with
    | ok k h1 =>
      rw [e] at q
      cases k with
      | false => rfl
      | true =>
        simp only at q ⊢
        cases e2 : b s h1 with
        | nx s2 h2 => rw [e2] at q; exact whileF_more c b n s2 h2 q
        | ct s2 h2 => rw [e2] at q; exact whileF_more c b n s2 h2 q
        | _ => rfl
    | exn x fs h1 => rfl
    | stuck => rfl
theorem whileF_le (c : Tv) (b : Sv) {n m : Nat} (hn : n ≤ m) (s : Ev0) (h : Hh) (q : whileF c b n s h ≠ .stuck) : whileF c b m s h = whileF c b n s h := by
  induction hn with
  | refl => rfl
  | step _ ih => rw [whileF_more c b _ s h (by rw [ih]; exact q), ih]
open Classical in
/-- a while: the answer of any number of turns that gives one -/
noncomputable def sWhile (c : Tv) (b : Sv) : Sv := fun s h => if q : ∃ n, whileF c b n s h ≠ .stuck then whileF c b q.choose s h else .stuck
theorem sWhile_of {c : Tv} {b : Sv} {s : Ev0} {h : Hh} {r : SRes} (n : Nat) (e : whileF c b n s h = r) (hr : r ≠ .stuck) : sWhile c b s h = r := by
  have q : ∃ n, whileF c b n s h ≠ .stuck := ⟨n, by rw [e]; exact hr⟩
  unfold sWhile
  rw [dif_pos q]
  have z := q.choose_spec
  have y : whileF c b n s h ≠ .stuck := by rw [e]; exact hr
  rw [← whileF_le c b (Nat.le_max_left q.choose n) s h z, whileF_le c b (Nat.le_max_right q.choose n) s h y, e]
theorem sWhile_some {c : Tv} {b : Sv} {s : Ev0} {h : Hh} (q : sWhile c b s h ≠ .stuck) : ∃ n, whileF c b n s h = sWhile c b s h := by
  unfold sWhile at q ⊢
  split
  · rename_i z
    exact ⟨_, rfl⟩
  · rename_i z
    rw [dif_neg z] at q
    exact absurd rfl q
/-- the turn -/
theorem sWhile_eq (c : Tv) (b : Sv) (s : Ev0) (h : Hh) : sWhile c b s h = (c s h).to s fun k h1 => if k = true then (match b s h1 with
      | .nx s2 h2 => sWhile c b s2 h2
      | .ct s2 h2 => sWhile c b s2 h2
      | .bk s2 h2 => .nx s2 h2
      | r => r) else .nx s h1 := by
  have main : ∀ r : SRes, r ≠ .stuck → (sWhile c b s h = r ↔ ((c s h).to s fun k h1 => if k = true then (match b s h1 with
      | .nx s2 h2 => sWhile c b s2 h2
      | .ct s2 h2 => sWhile c b s2 h2
      | .bk s2 h2 => .nx s2 h2
      | r => r) else .nx s h1) = r) := by
    intro r hr
    constructor
    · intro e
      obtain ⟨n, en⟩ := sWhile_some (c := c) (b := b) (s := s) (h := h) (by rw [e]; exact hr)
      rw [e] at en
      cases n with
      | zero => exact absurd en.symm hr
      | succ n =>
        unfold whileF at en
        cases ec : c s h with
        | ok k h1 =>
          rw [ec] at en
          cases k with
          | false => exact en
          | true =>
            simp only at en
            show (match b s h1 with | .nx s2 h2 => sWhile c b s2 h2 | .ct s2 h2 => sWhile c b s2 h2 | .bk s2 h2 => SRes.nx s2 h2 | r => r) = r
            cases eb : b s h1 with
            | nx s2 h2 => rw [eb] at en; exact sWhile_of n en hr
            | ct s2 h2 => rw [eb] at en; exact sWhile_of n en hr
            | bk s2 h2 => rw [eb] at en; exact en
            | rt v h2 => rw [eb] at en; exact en
            | exn x fs s2 h2 => rw [eb] at en; exact en
            | stuck => rw [eb] at en; exact en
        | exn x fs h1 => rw [ec] at en; exact en
        | stuck => rw [ec] at en; exact en
    · intro e
      cases ec : c s h with
      | ok k h1 =>
        rw [ec] at e
        cases k with
        | false => exact sWhile_of 1 (by unfold whileF; rw [ec]; exact e) hr
        | true =>
          have e : (match b s h1 with | .nx s2 h2 => sWhile c b s2 h2 | .ct s2 h2 => sWhile c b s2 h2 | .bk s2 h2 => SRes.nx s2 h2 | r => r) = r := e
          cases eb : b s h1 with
          | nx s2 h2 =>
            rw [eb] at e
            obtain ⟨n, en⟩ := sWhile_some (c := c) (b := b) (s := s2) (h := h2) (by rw [show sWhile c b s2 h2 = r from e]; exact hr)
            exact sWhile_of (n + 1) (by unfold whileF; rw [ec]; simp only; rw [eb]; exact en.trans e) hr
          | ct s2 h2 =>
            rw [eb] at e
            obtain ⟨n, en⟩ := sWhile_some (c := c) (b := b) (s := s2) (h := h2) (by rw [show sWhile c b s2 h2 = r from e]; exact hr)
            exact sWhile_of (n + 1) (by unfold whileF; rw [ec]; simp only; rw [eb]; exact en.trans e) hr
          | bk s2 h2 => rw [eb] at e; exact sWhile_of 1 (by unfold whileF; rw [ec]; simp only; rw [eb]; exact e) hr
          | rt v h2 => rw [eb] at e; exact sWhile_of 1 (by unfold whileF; rw [ec]; simp only; rw [eb]; exact e) hr
          | exn x fs s2 h2 => rw [eb] at e; exact sWhile_of 1 (by unfold whileF; rw [ec]; simp only; rw [eb]; exact e) hr
          | stuck => rw [eb] at e; exact absurd e.symm hr
      | exn x fs h1 => rw [ec] at e; exact sWhile_of 1 (by unfold whileF; rw [ec]; exact e) hr
      | stuck => rw [ec] at e; exact absurd e.symm hr
  generalize hL : sWhile c b s h = L at main ⊢
  generalize hR : ((c s h).to s fun k h1 => if k = true then (match b s h1 with
      | .nx s2 h2 => sWhile c b s2 h2
      | .ct s2 h2 => sWhile c b s2 h2
      | .bk s2 h2 => .nx s2 h2
      | r => r) else .nx s h1) = R at main ⊢
  by_cases h1 : L = .stuck
  · by_cases h2 : R = .stuck
    · rw [h1, h2]
    · exact (main R h2).mpr rfl
  · exact ((main L h1).mp rfl).symm
section
variable {X : Cx} {W : WX} {c : Expr} {body : List Stmt} {pos : Pos} {tc : Tv} {mb : Sv}
theorem ss_while (hp : PassesOwn (model X.prog X.w) X.A X.env X.xe) (hc : SimT X W c tc) (hb : SimB X W body mb) : SimS X W (.While c body [] pos) (sWhile tc mb) :=
  ps_imp (ps_while hp hc hb) fun D σ H q => by
    obtain ⟨w, s, hh, rfl, rh, rs, p⟩ := q
    have hs : sWhile tc mb s hh ≠ .stuck := fun e => by rw [e] at p; exact p
    obtain ⟨n, en⟩ := sWhile_some hs
    rw [← en] at p
    refine ⟨fun m σ H => ∃ w s h, w.H = H ∧ RH X.K w h ∧ RS X.K w s σ ∧ SPost X.K W w (whileF tc mb m s h) D, ⟨n, w, s, hh, rfl, rh, rs, p⟩, ?_⟩
    rintro m σ H ⟨w, s, h, rfl, rh, rs, p⟩
    cases m with
    | zero => exact p.elim
    | succ m =>
      unfold whileF at p
      refine ⟨w, s, h, rfl, rh, rs, ?_⟩
      cases ec : tc s h with
      | ok k h1 =>
        rw [ec] at p
        intro w1 k' x1 rh1 ek
        subst ek
        cases k with
        | false =>
          rw [if_neg Bool.false_ne_true]
          exact p w1 σ x1 rh1 (rs.ext x1)
        | true =>
          rw [if_pos rfl]
          have p1 := SPost.ext p x1
          refine ⟨fun σ H => ∃ w s h, w.H = H ∧ RH X.K w h ∧ RS X.K w s σ ∧ SPost X.K W w (whileF tc mb m s h) D, fun σ' H' z => ⟨m, Nat.lt_succ_self _, z⟩, w1, s, h1, rfl, rh1, rs.ext x1, ?_⟩
          simp only at p1
          cases eb : mb s h1 with
          | nx s2 h2 => rw [eb] at p1; exact fun w2 σ2 x2 rh2 rs2 => ⟨w2, s2, h2, rfl, rh2, rs2, SPost.ext p1 x2⟩
          | ct s2 h2 => rw [eb] at p1; exact fun w2 σ2 x2 rh2 rs2 => ⟨w2, s2, h2, rfl, rh2, rs2, SPost.ext p1 x2⟩
          | bk s2 h2 => rw [eb] at p1; exact p1
          | rt v h2 => rw [eb] at p1; exact p1
          | exn x fs s2 h2 => rw [eb] at p1; exact p1
          | stuck => rw [eb] at p1; exact p1
      | exn x fs h1 =>
        rw [ec] at p
        exact fun w1 d x1 rh1 rx => p w1 σ d x1 rh1 (rs.ext x1) rx
      | stuck => rw [ec] at p; exact p
end

/-! ### what is walked -/
/-- the cell that must stay as it is while it is walked -/
abbrev Gd := Option (Nat × Cell)
def gOk (g : Gd) (h : Hh) : Prop := match g with
  | none => True
  | some (j, c) => h[j]? = some c
instance (g : Gd) (h : Hh) : Decidable (gOk g h) := by unfold gOk; split <;> infer_instance
/-- what a walk yields -/
def JOk (K : PySem.W.Frag) (w0 : Wd) (J : It) (xs : List PV) (g : Gd) : Prop := ∀ (w : Wd) (h : Hh), Ext K w0 w → RH K w h → gOk g h →
  (∀ (i : Nat) (x : PV), xs[i]? = some x → J.go i w.H ∧ ∀ v H', J.yld i w.H v H' → ∃ w', w'.H = H' ∧ Ext K w w' ∧ RH K w' h ∧ RV K w' x v) ∧ J.stop xs.length w.H
theorem JOk.ext {K : PySem.W.Frag} {w0 w1 : Wd} {J : It} {xs : List PV} {g : Gd} (j : JOk K w0 J xs g) (x : Ext K w0 w1) : JOk K w1 J xs g := fun w h e => j w h (x.trans e)
abbrev Rj (K : PySem.W.Frag) : Wd → Wd → (List PV × Gd) → It → Prop := fun _ w x J => JOk K w J x.1 x.2
theorem back_j {K : PySem.W.Frag} : Back K (Rj K) := fun _ _ _ _ _ _ h => h
abbrev Iv := Mv (List PV × Gd)
def SimI (X : Cx) (W : WX) (tg iter : Expr) (m : Iv) : Prop := PI X tg iter (tR X.K W (Rj X.K) m)
theorem pi_imp {X : Cx} {tg iter : Expr} {t t' : TI} (h : PI X tg iter t) (i : ∀ σ H R, t' σ H R → t σ H R) : PI X tg iter t' := ⟨fun pins s σ H R I q => h.run pins s σ H R I (i σ H R q)⟩

/-! ### for -/
def forL (t : Tgt) (b : Sv) (g : Gd) : List PV → Sv
  | [], s, h => if gOk g h then .nx s h else .stuck
  | x :: xs, s, h => if gOk g h then (match t x s h with
    | .ok s1 h1 => (match b s1 h1 with
      | .nx s2 h2 => forL t b g xs s2 h2
      | .ct s2 h2 => forL t b g xs s2 h2
      | .bk s2 h2 => .nx s2 h2
      | r => r)
    | _ => .stuck) else .stuck
@[simp] def sFor (i : Iv) (t : Tgt) (b : Sv) : Sv := fun s h => (i s h).to s fun x h => forL t b x.2 x.1 s h
section
variable {X : Cx} {W : WX} {tg iter : Expr} {body : List Stmt} {pos : Pos} {mi : Iv} {t : Tgt} {mb : Sv}
theorem ss_for (hp : PassesOwn (model X.prog X.w) X.A X.env X.xe) (hc : X.calm = true) (hi : SimI X W tg iter mi) (hg : SimG X tg t) (hb : SimB X W body mb)
    (hs : ∀ x, foldedSetIterable iter X.env x = pure x := by intro _; rfl) : SimS X W (.For tg iter body [] pos) (sFor mi t mb) :=
  ps_imp (ps_for hp hc hi hg hb hs) fun D σ H q => tS_bind q fun w0 w1 s0 x J h0 x1 rs rh jok p => by
    obtain ⟨xs, g⟩ := x
    refine ⟨fun i m σ H => m = xs.length - i ∧ i ≤ xs.length ∧ ∃ w s h, w.H = H ∧ Ext X.K w1 w ∧ RH X.K w h ∧ RS X.K w s σ ∧ SPost X.K W w (forL t mb g (xs.drop i) s h) D, ⟨xs.length, by simp, Nat.zero_le _, w1, s0, h0, rfl, Ext.refl _, rh, rs, p⟩, ?_⟩
    rintro i m σ H ⟨rfl, hi, w, s, h, rfl, xw, rh, rs, p⟩
    by_cases hlt : i < xs.length
    · have e1 : xs.drop i = xs[i] :: xs.drop (i + 1) := List.drop_eq_getElem_cons hlt
      rw [e1] at p
      unfold forL at p
      split at p
      · rename_i hgd
        obtain ⟨go, yld⟩ := (jok w h xw rh hgd).1 i xs[i] (List.getElem?_eq_getElem hlt)
        refine .inr ⟨go, fun σ H => i + 1 ≤ xs.length ∧ ∃ w s h, w.H = H ∧ Ext X.K w1 w ∧ RH X.K w h ∧ RS X.K w s σ ∧ SPost X.K W w (forL t mb g (xs.drop (i + 1)) s h) D, fun σ' H' z => ⟨xs.length - (i + 1), by omega, rfl, z⟩, fun v H' y => ?_⟩
        obtain ⟨w2, rfl, x2, rh2, rv2⟩ := yld v H' y
        cases et : t xs[i] s h with
        | ok s3 h3 =>
          rw [et] at p
          refine ⟨w2, s, h, xs[i], s3, h3, rfl, rh2, rs.ext x2, rv2, et, fun w4 σ4 x4 rh4 rs4 => ?_⟩
          have p4 := SPost.ext p (x2.trans x4)
          refine ⟨w4, s3, h3, rfl, rh4, rs4, ?_⟩
          simp only at p4
          have xw4 := xw.trans (x2.trans x4)
          cases eb : mb s3 h3 with
          | nx s5 h5 => rw [eb] at p4; exact fun w6 σ6 x6 rh6 rs6 => ⟨hlt, w6, s5, h5, rfl, xw4.trans x6, rh6, rs6, SPost.ext p4 x6⟩
          | ct s5 h5 => rw [eb] at p4; exact fun w6 σ6 x6 rh6 rs6 => ⟨hlt, w6, s5, h5, rfl, xw4.trans x6, rh6, rs6, SPost.ext p4 x6⟩
          | bk s5 h5 => rw [eb] at p4; exact p4
          | rt v h5 => rw [eb] at p4; exact p4
          | exn x fs s5 h5 => rw [eb] at p4; exact p4
          | stuck => rw [eb] at p4; exact p4
        | exn x fs h3 => rw [et] at p; exact p.elim
        | stuck => rw [et] at p; exact p.elim
      · exact p.elim
    · have e : i = xs.length := by omega
      subst e
      rw [List.drop_length] at p
      unfold forL at p
      split at p
      · rename_i hgd
        exact .inl ⟨(jok w h xw rh hgd).2, p w σ (Ext.refl w) rh rs⟩
      · exact p.elim
end

/-! ### sources -/
section
variable {K : PySem.W.Frag} {w w0 : Wd} {h : Hh}
theorem RVs.at_ {xs : List PV} {vs : List V} (r : RVs K w xs vs) {i : Nat} {x : PV} (e : xs[i]? = some x) {v : V} (ev : vs[i]? = some v) : RV K w x v := by
  obtain ⟨u, e1, q⟩ := r.get e
  rw [e1] at ev
  cases ev
  exact q
theorem jok_list {a : Addr} {xs : List PV} {g : Gd} (q : ∀ w h, Ext K w0 w → RH K w h → gOk g h → ∃ vs, SqL K w.H a vs ∧ RVs K w xs vs) : JOk K w0 (Itl K a) xs g := fun w h x rh hg => by
  obtain ⟨vs, s, r⟩ := q w h x rh hg
  refine ⟨fun i y e => ?_, vs, s, by rw [r.len]; exact Nat.le_refl _⟩
  obtain ⟨v, ev, rv⟩ := r.get e
  refine ⟨⟨vs, v, s, ev⟩, fun u H' z => ?_⟩
  obtain ⟨rfl, z⟩ := z
  exact ⟨w, rfl, Ext.refl w, rh, r.at_ e (z vs s)⟩
theorem jok_tup {a : Addr} {xs : List PV} {vs : List V} (s0 : SqT K w0.H a vs) (r0 : RVs K w0 xs vs) : JOk K w0 (Itt K a) xs none := fun w h x rh hg => by
  have s := sqt_ext s0 x
  have r := r0.ext x
  refine ⟨fun i y e => ?_, vs, s, by rw [r.len]; exact Nat.le_refl _⟩
  obtain ⟨v, ev, rv⟩ := r.get e
  refine ⟨⟨vs, v, s, ev⟩, fun u H' z => ?_⟩
  obtain ⟨rfl, z⟩ := z
  exact ⟨w, rfl, Ext.refl w, rh, r.at_ e (z vs s)⟩
theorem jok_str (x : List Nat) : JOk K w0 (Its ⟨x.toArray⟩) (x.map fun c => .str [c]) none := fun w h _ rh hg => by
  refine ⟨fun i y e => ?_, by show x.toArray.size ≤ _; simp⟩
  rw [List.getElem?_map] at e
  cases ec : x[i]? with
  | none => rw [ec] at e; cases e
  | some c =>
    rw [ec] at e
    cases e
    refine ⟨?_, fun u H' z => ?_⟩
    · show i < x.toArray.size
      have := (List.getElem?_eq_some_iff.mp ec).1
      simpa using this
    · obtain ⟨rfl, c', ec', rfl⟩ := z
      refine ⟨w, rfl, Ext.refl w, rh, ?_⟩
      have ec2 : x[i]? = some c' := by simpa using ec'
      rw [ec] at ec2
      cases ec2
      rfl
def rangeL (lo c : Int) (n : Nat) : List PV := (List.range n).map fun i => .int (lo + (i : Nat) * c)
theorem rangeL_len (lo c : Int) (n : Nat) : (rangeL lo c n).length = n := by simp [rangeL]
theorem rangeL_get {lo c : Int} {n i : Nat} {y : PV} (e : (rangeL lo c n)[i]? = some y) : i < n ∧ y = .int (lo + (i : Nat) * c) := by
  unfold rangeL at e
  rw [List.getElem?_map] at e
  by_cases h : i < n
  · rw [List.getElem?_range h] at e
    exact ⟨h, (Option.some.inj e).symm⟩
  · rw [List.getElem?_eq_none (by simpa using h)] at e
    cases e
theorem jok_rngC (lo c : Int) (n : Nat) : JOk K w0 (Itc lo c n) (rangeL lo c n) none := fun w h _ rh hg => by
  refine ⟨fun i y e => ?_, by show n ≤ _; rw [rangeL_len]; exact Nat.le_refl _⟩
  obtain ⟨h1, rfl⟩ := rangeL_get e
  exact ⟨h1, fun u H' z => by obtain ⟨rfl, rfl⟩ := z; exact ⟨w, rfl, Ext.refl w, rh, rfl⟩⟩
theorem jok_rng (lo : Int) (n : Nat) : JOk K w0 (Itr lo n) (rangeL lo 1 n) none := fun w h _ rh hg => by
  refine ⟨fun i y e => ?_, by show n ≤ _; rw [rangeL_len]; exact Nat.le_refl _⟩
  obtain ⟨h1, rfl⟩ := rangeL_get e
  exact ⟨h1, fun u H' z => by obtain ⟨rfl, rfl⟩ := z; exact ⟨w, rfl, Ext.refl w, rh, by show V.int _ = V.int _; rw [Int.mul_one]⟩⟩
theorem jok_enum {a : Addr} {xs : List PV} {g : Gd} (q : ∀ w h, Ext K w0 w → RH K w h → gOk g h → ∃ vs, SqL K w.H a vs ∧ RVs K w xs vs) :
    JOk K w0 (IteN K a) ((List.range xs.length).zipWith (fun i x => .tup [.int (i : Nat), x]) xs) g := fun w h x rh hg => by
  obtain ⟨vs, s, r⟩ := q w h x rh hg
  refine ⟨fun i y e => ?_, vs, s, by rw [r.len]; simp⟩
  rw [List.getElem?_zipWith] at e
  by_cases hi : i < xs.length
  · rw [List.getElem?_range hi, List.getElem?_eq_getElem hi] at e
    cases e
    obtain ⟨v, ev, rv⟩ := r.get (List.getElem?_eq_getElem hi)
    refine ⟨⟨vs, v, s, ev⟩, fun u H' z => ?_⟩
    obtain ⟨T, ob, v', rfl, hT, hd, rfl, hx⟩ := z
    have x2 : Ext K w { w with H := upd w.H T (.frz ob (.tup [.int (i : Nat), v'])) } := Ext.grow (grow_upd hT)
    refine ⟨_, rfl, x2, rh.grow (grow_upd hT), T, _, rfl, .inl ⟨ob, upd_same, hd⟩, .cons rfl (.cons ((r.at_ (List.getElem?_eq_getElem hi) (hx vs s)).ext x2) .nil)⟩
  · rw [List.getElem?_eq_none (by simpa using hi)] at e
    cases e
theorem jok_enumT {a : Addr} {xs : List PV} {g : Gd} (q : ∀ w h, Ext K w0 w → RH K w h → gOk g h → ∃ vs, SqT K w.H a vs ∧ RVs K w xs vs) :
    JOk K w0 (IteT K a) ((List.range xs.length).zipWith (fun i x => .tup [.int (i : Nat), x]) xs) g := fun w h x rh hg => by
  obtain ⟨vs, s, r⟩ := q w h x rh hg
  refine ⟨fun i y e => ?_, vs, s, by rw [r.len]; simp⟩
  rw [List.getElem?_zipWith] at e
  by_cases hi : i < xs.length
  · rw [List.getElem?_range hi, List.getElem?_eq_getElem hi] at e
    cases e
    obtain ⟨v, ev, rv⟩ := r.get (List.getElem?_eq_getElem hi)
    refine ⟨⟨vs, v, s, ev⟩, fun u H' z => ?_⟩
    obtain ⟨T, ob, v', rfl, hT, hd, rfl, hx⟩ := z
    have x2 : Ext K w { w with H := upd w.H T (.frz ob (.tup [.int (i : Nat), v'])) } := Ext.grow (grow_upd hT)
    refine ⟨_, rfl, x2, rh.grow (grow_upd hT), T, _, rfl, .inl ⟨ob, upd_same, hd⟩, .cons rfl (.cons ((r.at_ (List.getElem?_eq_getElem hi) (hx vs s)).ext x2) .nil)⟩
  · rw [List.getElem?_eq_none (by simpa using hi)] at e
    cases e
end
section
variable {X : Cx} {W : WX} {tg e : Expr} {es : List Expr} {p pos tpos : Pos} {me : Ev} {ml : Lv}
/-- a list of ours or the script -/
@[simp] def listOf (v : PV) (h : Hh) : Res (List PV × Gd) := match v with
  | .ref i => (match h[i]? with
    | some (.lst xs) => .ok (xs, some (i, .lst xs)) h
    | _ => .stuck)
  | .scr ns => .ok (ns.map PV.int, none) h
  | _ => .stuck
@[simp] def iLst (m : Ev) : Iv := fun s h => (m s h).bind listOf
@[simp] def iTmp (m : Lv) : Iv := fun s h => (m s h).bind fun xs h => .ok (xs, none) h
theorem sq_of_ref {K : PySem.W.Frag} {w0 : Wd} {i : Nat} (hi : i < w0.n) {xs : List PV} : ∀ w h, Ext K w0 w → RH K w h → gOk (some (i, .lst xs)) h → ∃ vs, SqL K w.H (w0.ρ i) vs ∧ RVs K w xs vs := fun w h x rh hg => by
  obtain ⟨vs, s, r⟩ := rh.lst hg
  rw [x.ρ i hi] at s
  exact ⟨vs, SqL.of s, r⟩
theorem sq_of_scr {K : PySem.W.Frag} {w0 : Wd} {a : Addr} {ns : List Int} (s : SqF K w0.H a (ns.map V.int)) : ∀ w h, Ext K w0 w → RH K w h → gOk none h → ∃ vs, SqL K w.H a vs ∧ RVs K w (ns.map PV.int) vs := fun w h x rh hg => ⟨_, (sqf_ext s x).sq, RVs.ints⟩
theorem sq_of_tmp {K : PySem.W.Frag} {w0 : Wd} {xs : List PV} {a : Addr} {vs : List V} (r : RL K w0 xs a vs) : ∀ w h, Ext K w0 w → RH K w h → gOk none h → ∃ vs, SqL K w.H a vs ∧ RVs K w xs vs := fun w h x rh hg => ⟨vs, SqL.of (r.ext x).at_, (r.ext x).rel⟩
theorem listOf_ok {w : Wd} {h : Hh} {v : PV} {x : V} {σ : L2.St} {Q : It → Hp → Prop} (rh : RH X.K w h) (r : RV X.K w v x) (p : Post X.K W w (Rj X.K) (listOf v h) σ Q) :
    ∃ a, x = .ref a ∧ (∃ vs, SqL X.K w.H a vs) ∧ ∀ xs g, listOf v h = .ok (xs, g) h → (∀ w' h, Ext X.K w w' → RH X.K w' h → gOk g h → ∃ vs, SqL X.K w'.H a vs ∧ RVs X.K w' xs vs) := by
  unfold listOf at p
  split at p
  · rename_i i
    obtain ⟨hi, rfl⟩ := r
    split at p
    · rename_i xs e
      obtain ⟨vs, s, rr⟩ := rh.lst e
      refine ⟨_, rfl, ⟨vs, SqL.of s⟩, fun ys g eq => ?_⟩
      unfold listOf at eq
      simp only [e] at eq
      cases eq
      exact sq_of_ref hi
    · exact p.elim
  · obtain ⟨a, rfl, s⟩ := r
    refine ⟨a, rfl, ⟨_, s.sq⟩, fun ys g eq => ?_⟩
    cases eq
    exact sq_of_scr s
  · exact p.elim
theorem si_list (he : SimE X W e me) : SimI X W tg e (iLst me) :=
  pi_imp (pi_list he) fun σ H R q => tR_bind back_j q fun w w' s v x h' x1 rs rh r p => by
    obtain ⟨a, rfl, h1, h2⟩ := listOf_ok rh r p
    refine ⟨a, rfl, h1, ?_⟩
    cases el : listOf v h' with
    | ok y h2' =>
      obtain ⟨xs, g⟩ := y
      have : h2' = h' := by
        unfold listOf at el
        split at el
        · split at el
          · cases el; rfl
          · cases el
        · cases el; rfl
        · cases el
      subst this
      rw [el] at p
      exact p.now rh (jok_list (h2 xs g el))
    | exn c fs h3 => unfold listOf at el; split at el <;> (try split at el) <;> cases el
    | stuck => rw [el] at p; exact p.elim
theorem si_tmp (he : SimL X W e ml) : SimI X W tg e (iTmp ml) :=
  pi_imp (pi_list he) fun σ H R q => tR_bind back_j q fun w w' s v x h' x1 rs rh r p => by
    obtain ⟨a, vs, rfl, r, _⟩ := r
    exact ⟨a, rfl, ⟨vs, SqL.of r.at_⟩, p.now rh (jok_list (sq_of_tmp r))⟩
@[simp] def tupOf (v : PV) (h : Hh) : Res (List PV × Gd) := match v with
  | .tup xs => .ok (xs, none) h
  | _ => .stuck
@[simp] def iTup (m : Ev) : Iv := fun s h => (m s h).bind tupOf
theorem si_tup (he : SimE X W e me) : SimI X W tg e (iTup me) :=
  pi_imp (pi_tup he) fun σ H R q => tR_bind back_j q fun w w' s v x h' x1 rs rh r p => by
    cases v with
    | tup xs =>
      obtain ⟨a, vs, rfl, s1, r1⟩ := r
      exact ⟨a, rfl, ⟨vs, s1.sq⟩, p.now rh (jok_tup s1.sq r1)⟩
    | _ => exact p.elim
@[simp] def iStrE (m : Ev) : Iv := fun s h => (m s h).bind fun v h => match v with
  | .str x => .ok (x.map fun c => .str [c], none) h
  | _ => .stuck
theorem si_str (he : SimE X W e me) : SimI X W tg e (iStrE me) :=
  pi_imp (pi_str he) fun σ H R q => tR_bind back_j q fun w w' s v x h' x1 rs rh r p => by
    cases v with
    | str y => exact ⟨_, r, p.now rh (jok_str y)⟩
    | _ => exact p.elim
/-- range -/
def rngOk (i : Int) : Prop := -(2 ^ 62) ≤ i ∧ i < 2 ^ 62
instance (i : Int) : Decidable (rngOk i) := inferInstanceAs (Decidable (_ ∧ _))
def iR1 (a : Ev) : Iv := fun s h => (a s h).bind fun v h => match v with
  | .int j => .guard (rngOk j) (.ok (rangeL 0 1 j.toNat, none) h)
  | _ => .stuck
theorem si_range1 {a : Expr} {ma : Ev} (hg : Gl X "range") (hm : X.mg "range" = none) (ha : SimE X W a ma) (hs : starEach [a] X.env = [(false, eval a X.env)] := by rfl) (hs' : starEach [a] X.env = (false, eval a X.env) :: starEach [] X.env := by rfl) : SimI X W tg (.Call (.Name "range" p) [a] [] pos) (iR1 ma) :=
  pi_imp (pi_range1 hg hm (pa_cons ha pa_nil hs') hs) fun σ H R q => tR_bind back_j q fun w w' s v x h' x1 rs rh r p => by
    cases v with
    | int j =>
      obtain ⟨⟨z1, z2⟩, p⟩ := p.of_guard
      exact ⟨j, by rw [show x = V.int j from r], z1, z2, p.now rh (jok_rng 0 _)⟩
    | _ => exact p.elim
@[simp] def rng2 (v u : PV) (h : Hh) : Res (List PV × Gd) := match v, u with
  | .int i, .int j => .guard (rngOk i ∧ rngOk j) (.ok (rangeL i 1 (j - i).toNat, none) h)
  | _, _ => .stuck
@[simp] def iR2 (a b : Ev) : Iv := fun s h => (a s h).bind fun v h => (b s h).bind fun u h => rng2 v u h
theorem si_range2 {a b : Expr} {ma mb : Ev} (hg : Gl X "range") (hm : X.mg "range" = none) (ha : SimE X W a ma) (hb : SimE X W b mb) (hs : starEach [a, b] X.env = [(false, eval a X.env), (false, eval b X.env)] := by rfl) (hs2 : starEach [b] X.env = [(false, eval b X.env)] := by rfl)
    (hs3 : starEach [a, b] X.env = (false, eval a X.env) :: starEach [b] X.env := by rfl) (hs4 : starEach [b] X.env = (false, eval b X.env) :: starEach [] X.env := by rfl) : SimI X W tg (.Call (.Name "range" p) [a, b] [] pos) (iR2 ma mb) :=
  pi_imp (pi_range2 hg hm (pa_cons ha (pa_cons hb pa_nil hs4) hs3) hs hs2) fun σ H R q => tR_bind back_j q fun w w' s v x h' x1 rs rh r p => tR_next back_j rh rs p fun w2 u y h2 x2 rh2 r2 p2 => by
    unfold rng2 at p2
    split at p2
    · obtain ⟨⟨⟨z1, z2⟩, z3, z4⟩, p2⟩ := p2.of_guard
      exact ⟨_, _, by rw [show x = V.int _ from r, show y = V.int _ from r2], ⟨z1, z2, z3, z4⟩, p2.now rh2 (jok_rng _ _)⟩
    · exact p2.elim
def rng3 (v u z : PV) (h : Hh) : Res (List PV × Gd) := match v, u, z with
  | .int i, .int j, .int k => .guard (k ≠ 0 ∧ k.natAbs < 1073741824 ∧ Builtin.Range.small i j k = true ∧ Builtin.Range.rangeSize i j k = ((Builtin.Range.rangeSize i j k).toNat : Int)) (.ok (rangeL i k (Builtin.Range.rangeSize i j k).toNat, none) h)
  | _, _, _ => .stuck
@[simp] def iR3 (a b c : Ev) : Iv := fun s h => (a s h).bind fun v h => (b s h).bind fun u h => (c s h).bind fun z h => rng3 v u z h
theorem si_range3 {a b c : Expr} {ma mb mc : Ev} (hg : Gl X "range") (hm : X.mg "range" = none) (ha : SimE X W a ma) (hb : SimE X W b mb) (hc : SimE X W c mc)
    (hs3 : starEach [a, b, c] X.env = (false, eval a X.env) :: starEach [b, c] X.env := by rfl) (hs4 : starEach [b, c] X.env = (false, eval b X.env) :: starEach [c] X.env := by rfl) (hs5 : starEach [c] X.env = (false, eval c X.env) :: starEach [] X.env := by rfl) (hpl : (backTo pos (starEach [b, c] X.env)).any (·.1) = false := by rfl) :
    SimI X W tg (.Call (.Name "range" p) [a, b, c] [] pos) (iR3 ma mb mc) :=
  pi_imp (pi_range3 hg hm (pa_cons ha (pa_cons hb (pa_cons hc pa_nil hs5) hs4) hs3) hs3 hpl) fun σ H R q => tR_bind back_j q fun w w' s v x h' x1 rs rh r p => tR_next back_j rh rs p fun w2 u y h2 x2 rh2 r2 p2 =>
    tR_next back_j rh2 (rs.ext x2) p2 fun w3 z xz h3 x3 rh3 r3 p3 => by
    unfold rng3 at p3
    split at p3
    · obtain ⟨⟨z1, z2, z3, z4⟩, p3⟩ := p3.of_guard
      exact ⟨_, _, _, _, by rw [show x = V.int _ from r, show y = V.int _ from r2, show xz = V.int _ from r3], ⟨z1, z2, z3, z4⟩, p3.now rh3 (jok_rngC _ _ _)⟩
    · exact p3.elim
/-- enumerate of a list -/
def enumL (xs : List PV) : List PV := (List.range xs.length).zipWith (fun i x => .tup [.int (i : Nat), x]) xs
@[simp] def iEnumL (m : Ev) : Iv := fun s h => (m s h).bind fun v h => (listOf v h).bind fun x h => .ok (enumL x.1, x.2) h
theorem listOf_same {v : PV} {h h2 : Hh} {y : List PV × Gd} (e : listOf v h = .ok y h2) : h2 = h := by
  unfold listOf at e
  split at e
  · split at e
    · cases e; rfl
    · cases e
  · cases e; rfl
  · cases e
theorem listOf_exn {v : PV} {h h2 : Hh} {c : Nat} {fs : List PV} (e : listOf v h = .exn c fs h2) : False := by
  unfold listOf at e
  split at e <;> (try split at e) <;> cases e
theorem listOf_at {w : Wd} {h : Hh} {v : PV} {x : V} {xs : List PV} {g : Gd} (rh : RH X.K w h) (r : RV X.K w v x) (e : listOf v h = .ok (xs, g) h) :
    ∃ a, x = .ref a ∧ (∃ vs, SqL X.K w.H a vs) ∧ ∀ w' h, Ext X.K w w' → RH X.K w' h → gOk g h → ∃ vs, SqL X.K w'.H a vs ∧ RVs X.K w' xs vs := by
  unfold listOf at e
  split at e
  · obtain ⟨hi, rfl⟩ := r
    split at e
    · rename_i ys e1
      cases e
      obtain ⟨vs, s, rr⟩ := rh.lst e1
      exact ⟨_, rfl, ⟨vs, SqL.of s⟩, sq_of_ref hi⟩
    · cases e
  · obtain ⟨a, rfl, s⟩ := r
    cases e
    exact ⟨a, rfl, ⟨_, s.sq⟩, sq_of_scr s⟩
  · cases e
theorem si_enum {elts : List Expr} {kk : Nat} (hg : Gl X "enumerate") (hm : X.mg "enumerate" = none) (he : SimE X W e me) (hs : starEach [e] X.env = [(false, eval e X.env)] := by rfl) (hs' : starEach [e] X.env = (false, eval e X.env) :: starEach [] X.env := by rfl) :
    SimI X W (.Tuple elts kk tpos) (.Call (.Name "enumerate" p) [e] [] pos) (iEnumL me) :=
  pi_imp (pi_enumN hg hm (pa_cons he pa_nil hs') hs) fun σ H R q => tR_bind back_j q fun w w' s v x h' x1 rs rh r p => by
    cases el : listOf v h' with
    | ok y h2 =>
      obtain ⟨xs, g⟩ := y
      cases listOf_same el
      obtain ⟨a, rfl, ⟨vs, s1⟩, h2⟩ := listOf_at rh r el
      rw [el] at p
      exact ⟨a, vs, rfl, s1, p.now rh (jok_enum h2)⟩
    | exn c fs h3 => exact (listOf_exn el).elim
    | stuck => rw [el] at p; exact p.elim
/-- enumerate of a tuple -/
@[simp] def iEnumT (m : Ev) : Iv := fun s h => (m s h).bind fun v h => match v with
  | .tup xs => .ok (enumL xs, none) h
  | _ => .stuck
theorem si_enumT {elts : List Expr} {kk : Nat} (hg : Gl X "enumerate") (hm : X.mg "enumerate" = none) (he : SimE X W e me) (hs : starEach [e] X.env = [(false, eval e X.env)] := by rfl) (hs' : starEach [e] X.env = (false, eval e X.env) :: starEach [] X.env := by rfl) :
    SimI X W (.Tuple elts kk tpos) (.Call (.Name "enumerate" p) [e] [] pos) (iEnumT me) :=
  pi_imp (pi_enumT hg hm (pa_cons he pa_nil hs') hs) fun σ H R q => tR_bind back_j q fun w w' s v x h' x1 rs rh r p => by
    cases v with
    | tup xs =>
      obtain ⟨a, vs, rfl, s1, r1⟩ := r
      exact ⟨a, vs, rfl, s1.sq, p.now rh (jok_enumT fun w2 h2 x2 _ _ => ⟨vs, sqt_ext s1.sq x2, r1.ext x2⟩)⟩
    | _ => exact p.elim
end
end U
set_option Elab.async false
set_option linter.all false
set_option maxRecDepth 100000
set_option maxHeartbeats 2000000
/-! The generic layer, part 9: slices. -/
namespace HT
open PySem PyProof.Rows
section
variable {prog : Program} {w : World} {A : Around} {E : Value → Shared → Prop} {s : Shared}
theorem tuple_exact {t : Addr} {items : Array Value} {Q : Bool → Shared → Prop} (ht : IsTup s.heap t items) (h : Q true s) : wpAny (model prog w) A (Builtin.Tuple.tupleIsExact (.ref t)) Q E s := by
  obtain ⟨o, ho, hc, _⟩ := ht
  unfold Builtin.Tuple.tupleIsExact
  exact wpAny_bind (wpAny_typeOf ⟨o, ho, hc⟩ (wpAny_pure h))
/-- t[a:b], the whole: t itself -/
theorem getItem_tuple_whole {t sl : Addr} {items : Array Value} {vl vu : Value} {lo hi : Option Int} {Q : Value → Shared → Prop} (ht : IsTup s.heap t items) (hs : s.heap.IsSliceOf sl vl vu .none) (pl : IsPart vl lo) (pu : IsPart vu hi)
    (hw : sIx items.size 0 lo = 0 ∧ sIx items.size items.size hi = items.size) (h : Q (.ref t) s) : wpAny (model prog w) A (getItem (.ref t) (.ref sl)) Q E s := by
  obtain ⟨os, hos, hcs, hds⟩ := id hs
  have hTs : s.TypeIs (.ref sl) "slice" := ⟨os, hos, hcs⟩
  unfold getItem
  try with_reducible refine wpAny_holding ?_
  first | refine wpAny_bind (wpAny_pure ?_) | skip
  refine wpAny_bind (wpAny_sequenceKey ht.typeIs (by decide) ?_)
  refine wpAny_bind (wpAny_callSpecial?_slot (name := Str.ofString "__getitem__") ht.typeIs PyProof.Rows.slot_tuple_getitem
    (wpAny_call_entry PyProof.Rows.slot_tuple_getitem ht.typeIs entry_tuple_getitem ?_ (args_tuple_getitem _ _)))
  show wpAny _ _ (Builtin.Tuple.tupleItemsOf (.ref t) >>= _) _ _ s
  refine wpAny_bind (tupleItemsOf_ ht ?_)
  refine wpAny_bind (wpAny_typeOf hTs ?_)
  rw [if_pos (by decide)]
  refine wpAny_bind (sliceApplied_gen hs pl pu ?_)
  obtain ⟨h1, h2⟩ := hw
  have hno : ((((sIx items.size 0 lo : Nat) : Int) == 0 && (1 : Int) == 1 && (sIx items.size items.size hi - sIx items.size 0 lo) == items.size) = true) := by
    rw [h1, h2]
    simp
  show wpAny _ _ (if (((sIx items.size 0 lo : Nat) : Int) == 0 && (1 : Int) == 1 && (sIx items.size items.size hi - sIx items.size 0 lo) == items.size) = true then _ else _) _ _ s
  rw [if_pos hno]
  refine wpAny_bind (tuple_exact ht ?_)
  rw [if_pos rfl]
  first
    | exact wpAny_bind (wpAny_rule (wpAny_bind (wpAny_pure ⟨_, rfl, wpAny_pure h⟩)))
    | exact wpAny_bind (wpAny_rule (wpAny_bind (wpAny_pure (wpAny_pure ⟨_, rfl, wpAny_pure h⟩))))
    | exact wpAny_bind (wpAny_rule (wpAny_pure ⟨_, rfl, wpAny_pure h⟩))
theorem sliceApplied_rev {sl : Addr} {vl vu vs : Value} {n : Nat} {Q : Int × Int × Nat → Shared → Prop} (hs : s.heap.IsSliceOf sl vl vu vs) (pl : IsPart vl none) (pu : IsPart vu none) (ps : IsPart vs (some (-1)))
    (h : Q ((n : Int) - 1, -1, n) s) : wpAny (model prog w) A (Builtin.Slice.sliceApplied (.ref sl) (pure (n : Int))) Q E s := by
  obtain ⟨os, hos, hcs, hds⟩ := id hs
  unfold Builtin.Slice.sliceApplied Builtin.Slice.sliceFields
  refine wpAny_bind (wpAny_bind (wpAny_field hos hds (x := vl) rfl (wpAny_bind (wpAny_field hos hds (x := vu) rfl (wpAny_bind (wpAny_field hos hds (x := vs) rfl (wpAny_pure ?_)))))))
  refine wpAny_bind (slicePart_ ps ?_)
  show wpAny _ _ (if ((-1 : Int) == 0) = true then _ else _) _ _ s
  rw [if_neg (by decide)]
  refine wpAny_bind (slicePart_ pl (wpAny_bind (slicePart_ pu (wpAny_bind (wpAny_pure ?_)))))
  show wpAny _ _ (match Builtin.Slice.sliceAdjust none none (-1) (n : Int) with | (lo, hi) => pure (lo, (-1 : Int), Builtin.Slice.slicePlaces lo hi (-1))) _ _ s
  have e : Builtin.Slice.slicePlaces ((n : Int) - 1) (-1) (-1) = n := by
    unfold Builtin.Slice.slicePlaces
    rw [if_neg (by decide)]
    by_cases hn : n = 0
    · subst hn
      rfl
    · rw [if_pos (by omega)]
      have : (((n : Int) - 1 - -1 - 1) / - -1 + 1).toNat = n := by
        have e1 : - -1 = (1 : Int) := by decide
        rw [e1, Int.ediv_one]
        omega
      exact this
  show wpAny _ _ (pure ((n : Int) - 1, (-1 : Int), Builtin.Slice.slicePlaces ((n : Int) - 1) (-1) (-1))) _ _ s
  rw [e]
  exact wpAny_pure h
theorem pick_rev (xs : Array Value) : ((List.range xs.size).filterMap fun (m : Nat) => xs[(((xs.size : Nat) : Int) - 1 + (m : Int) * (-1)).toNat]?).toArray = xs.toList.reverse.toArray := by
  congr 1
  apply List.ext_getElem?
  intro i
  have hall : ∀ m, m ∈ List.range xs.size → (xs[(((xs.size : Nat) : Int) - 1 + (m : Int) * (-1)).toNat]?) = some (xs.toList.reverse[m]?.getD .none) := by
    intro m hm
    have hlt : m < xs.size := List.mem_range.mp hm
    have e : (((xs.size : Nat) : Int) - 1 + (m : Int) * (-1)).toNat = xs.size - 1 - m := by omega
    rw [e, List.getElem?_reverse (by simpa using hlt)]
    rw [Array.length_toList]
    rw [Array.getElem?_eq_getElem (by omega), List.getElem?_eq_getElem (by rw [Array.length_toList]; omega)]
    simp
  have fm : ∀ (l : List Nat) (f : Nat → Option Value) (g : Nat → Value), (∀ m, m ∈ l → f m = some (g m)) → l.filterMap f = l.map g := by
    intro l f g hl
    induction l with
    | nil => rfl
    | cons a l ih => rw [List.filterMap_cons, hl a List.mem_cons_self, List.map_cons, ih fun m hm => hl m (List.mem_cons_of_mem _ hm)]
  rw [fm _ _ _ hall, List.getElem?_map]
  by_cases hi : i < xs.size
  · rw [List.getElem?_range hi]
    simp only [Option.map_some]
    rw [List.getElem?_eq_getElem (by simpa using hi)]
    rfl
  · rw [List.getElem?_eq_none (by simpa using hi), List.getElem?_eq_none (by simpa using hi)]
    rfl
/-- t[::-1] -/
theorem getItem_tuple_rev {t sl : Addr} {items : Array Value} {vl vu vs : Value} {Q : Value → Shared → Prop} (ht : IsTup s.heap t items) (hs : s.heap.IsSliceOf sl vl vu vs) (pl : IsPart vl none) (pu : IsPart vu none) (ps : IsPart vs (some (-1)))
    (h : Q (.ref s.heap.objs.size) { s with heap := s.heap.push { cls := .type "tuple", data := .seq items.toList.reverse.toArray } })
    (hsz : items.size ≤ sizeLine) : wpAny (model prog w) A (getItem (.ref t) (.ref sl)) Q E s := by
  have htake : sizeOk (.seq items.toList.reverse.toArray) := by
    show items.toList.reverse.toArray.size ≤ sizeLine
    rw [List.size_toArray, List.length_reverse, Array.length_toList]
    omega
  obtain ⟨os, hos, hcs, hds⟩ := id hs
  have hTs : s.TypeIs (.ref sl) "slice" := ⟨os, hos, hcs⟩
  unfold getItem
  try with_reducible refine wpAny_holding ?_
  first | refine wpAny_bind (wpAny_pure ?_) | skip
  refine wpAny_bind (wpAny_sequenceKey ht.typeIs (by decide) ?_)
  refine wpAny_bind (wpAny_callSpecial?_slot (name := Str.ofString "__getitem__") ht.typeIs PyProof.Rows.slot_tuple_getitem
    (wpAny_call_entry PyProof.Rows.slot_tuple_getitem ht.typeIs entry_tuple_getitem ?_ (args_tuple_getitem _ _)))
  show wpAny _ _ (Builtin.Tuple.tupleItemsOf (.ref t) >>= _) _ _ s
  refine wpAny_bind (tupleItemsOf_ ht ?_)
  refine wpAny_bind (wpAny_typeOf hTs ?_)
  rw [if_pos (by decide)]
  refine wpAny_bind (sliceApplied_rev hs pl pu ps ?_)
  have hno : ¬ (((((items.size : Nat) : Int) - 1) == 0 && (-1 : Int) == 1 && items.size == items.size) = true) := by simp
  show wpAny _ _ (if ((((items.size : Nat) : Int) - 1) == 0 && (-1 : Int) == 1 && items.size == items.size) = true then _ else _) _ _ s
  rw [if_neg hno, pick_rev]
  first
    | exact wpAny_bind (m := Builtin.Tuple.tupleExact _) (wpAny_newObj_type (wpAny_pure ⟨_, rfl, wpAny_pure h⟩) htake)
    | exact wpAny_bind (m := Builtin.Tuple.tupleExact _) (wpAny_newObj_type (wpAny_bind (wpAny_pure (wpAny_pure ⟨_, rfl, wpAny_pure h⟩))) htake)
    | exact wpAny_bind (wpAny_bind (m := Builtin.Tuple.tupleExact _) (wpAny_newObj_type (wpAny_pure (wpAny_pure ⟨_, rfl, wpAny_pure h⟩)) htake))
    | exact wpAny_bind (wpAny_bind (m := Builtin.Tuple.tupleExact _) (wpAny_newObj_type (wpAny_pure ⟨_, rfl, wpAny_pure h⟩) htake))
end
end HT
namespace L2
open PySem PySem.Spec PyProof.Rows
/-- t[lo:hi], the whole of it -/
def rSlW (K : PySem.W.Frag) : V → Option Int → Option Int → Hp → VK → Prop := fun x lo hi H Q => ∃ a xs, x = .ref a ∧ SqT K H a xs ∧
  (HT.sIx xs.length 0 lo = 0 ∧ HT.sIx xs.length xs.length hi = xs.length) ∧ Q (.ref a) H
theorem sl_whole {X : Cx} : SlR X (rSlW X.K) := by
  intro pins s σ H x v vl vu lo hi sl Q I rx hs pl pu h
  obtain ⟨a, xs, rfl, hx, hw, q⟩ := h
  cases rx
  obtain ⟨its, r, ht, hz⟩ := I.tuple hx
  have hlen : its.toArray.size = xs.length := by rw [List.size_toArray]; exact r.length.symm
  refine ⟨"tuple", _, PyProof.Rows.slot_tuple_getitem.lookup, ht.typeIs, ?_⟩
  exact HT.getItem_tuple_whole ht hs pl pu (by rw [hlen]; exact hw) ⟨.ref a, H, I, rfl, q⟩
def tRevT (K : PySem.W.Frag) (te : TE) : TE := fun σ H Q => te σ H fun x H1 => ∃ a xs, x = .ref a ∧ ((SqL K H1 a xs ∧ ∀ p, H1 p = none → Q (.ref p) (upd H1 p (.lst xs.reverse))) ∨ (SqT K H1 a xs ∧ NewT H1 xs.reverse Q))
theorem pe_revT {X : Cx} {e : Expr} {te : TE} {k : Nat} {p1 p2 p3 pos : Pos} (he : PE X e te) : PE X (.Subscript e (.Slice none none (some (.UnaryOp .USub (.Constant (.int 1) k p1) p2)) p3) pos) (tRevT X.K te) := by
  refine ⟨fun pins s σ H Q I h => ?_⟩
  refine Subscript_ (thn (he.run pins s σ H _ I h) fun v s1 ⟨x, H1, I1, r1, q1⟩ => ?_)
  obtain ⟨a, xs, ex, q⟩ := q1
  subst ex
  cases r1
  have hst : PO X (some (.UnaryOp .USub (.Constant (.int 1) k p1) p2)) (tPart (tUn (rU fun i => .int (-i)) (tC (.int 1)))) := po_some (pe_un un_neg pe_int)
  refine wpAny_Slice (thn (po_none.run pins s1 σ H1 (fun o H2 => o = none ∧ H2 = H1) I1 ⟨rfl, rfl⟩) fun vl s2 ⟨l, H2, I2, pl, el, e2⟩ => ?_)
  subst el e2
  refine thn (po_none.run pins s2 σ H2 (fun o H3 => o = none ∧ H3 = H2) I2 ⟨rfl, rfl⟩) fun vu s3 ⟨u, H3, I3, pu, eu, e3⟩ => ?_
  subst eu e3
  refine thn (hst.run pins s3 σ H3 (fun o H4 => o = some (-1) ∧ H4 = H3) I3 ⟨1, rfl, -1, rfl, rfl, rfl⟩) fun vs s4 ⟨o, H4, I4, ps, eo, e4⟩ => ?_
  subst eo e4
  have I5 : Inv X pins σ H4 { s4 with heap := s4.heap.push { cls := .type "slice", data := .fields #[vl, vu, vs] } } := I4.kept (t' := s4.toks) fun b ob q => Heap.get?_push_of_some _ q
  show wpAny (model X.prog X.w) X.A (subscriptTail e (.Slice none none (some (.UnaryOp .USub (.Constant (.int 1) k p1) p2)) p3) (.ref a) (.ref s4.heap.objs.size)) (EP X pins σ Q) X.xe { s4 with heap := s4.heap.push { cls := .type "slice", data := .fields #[vl, vu, vs] } }
  rcases q with ⟨hx, q⟩ | ⟨hx, q⟩
  · obtain ⟨its, r, ht, hz⟩ := I5.list hx
    have hlen := r.length
    refine tail_any (ops := [.ref a, .ref s4.heap.objs.size]) ht.isList.typeIs (PySem.slot_list_getitem.lookup) ?_ (by with_unfolding_all rfl)
    refine wpAny_getItem_list_slice ht.isList (Heap.IsSliceOf.new _ vl vu vs) pl pu ps (by decide) ?_ (by rw [List.size_toArray]; omega)
    rw [PySem.W.krv_pick]
    refine ⟨.ref _, _, I5.laid (t' := s4.toks) (o := .lst xs.reverse) (fun b ob q => Heap.get?_push_of_some _ q) (Nat.le_refl _) ?_, rfl, q _ (I5.hok.fresh (Nat.le_refl _))⟩
    exact ⟨by rw [List.length_reverse]; exact hz, _, 0, r.reverse, Heap.get?_push_size _ rfl⟩
  · obtain ⟨its, r, ht, hz⟩ := I5.tuple hx
    have hlen := r.length
    refine tail_any (ops := [.ref a, .ref s4.heap.objs.size]) ht.typeIs (PyProof.Rows.slot_tuple_getitem.lookup) ?_ (by with_unfolding_all rfl)
    refine HT.getItem_tuple_rev ht (Heap.IsSliceOf.new _ vl vu vs) pl pu ps ?_ (by rw [List.size_toArray]; omega)
    exact I5.newT (its := its.reverse) (t' := s4.toks) (by rw [List.length_reverse]; exact hz) r.reverse q
end L2
namespace U
open PySem PySem.Spec PyProof.Rows L2
variable [Tab]
/-- the items of xs[lo:hi] -/
def cutP {α : Type} (xs : List α) (lo hi : Option Int) : List α := (xs.drop (HT.sIx xs.length 0 lo)).take (HT.sIx xs.length xs.length hi - HT.sIx xs.length 0 lo)
def fSl (v : PV) (lo hi : Option Int) (h : Hh) : Res PV := match v with
  | .tup xs => .ok (.tup (cutP xs lo hi)) h
  | .str x => .guard (x.length ≤ sizeLine) (.ok (.str (cutP x lo hi)) h)
  | .ref i => (match h[i]? with
    | some (.lst xs) => newL (cutP xs lo hi) h
    | _ => .stuck)
  | .scr ns => newL (cutP (ns.map PV.int) lo hi) h
  | _ => .stuck
abbrev Ov := Mv (Option Int)
abbrev Ro : Wd → Wd → Option Int → Option Int → Prop := fun _ _ a b => a = b
theorem back_o {K : PySem.W.Frag} : Back K Ro := fun _ _ _ _ _ _ h => h
section
variable {X : Cx} {W : WX} {e : Expr} {p2 pos : Pos} {me : Ev}
def SimO (X : Cx) (W : WX) (e : Option Expr) (m : Ov) : Prop := PO X e (tR X.K W Ro m)
@[simp] def oNone : Ov := fun _ h => .ok none h
@[simp] def oSome (m : Ev) : Ov := fun s h => (m s h).bind fun v h => match v with
  | .int i => .ok (some i) h
  | _ => .stuck
theorem so_none : SimO X W none oNone := ⟨fun pins s σ H Q I q => po_none.run pins s σ H Q I (by
  obtain ⟨w, s, hh, rfl, rh, rs, p⟩ := q
  exact p.now rh rfl)⟩
theorem so_some (he : SimE X W e me) : SimO X W (some e) (oSome me) := ⟨fun pins s σ H Q I q => (po_some he).run pins s σ H Q I (tR_bind back_o q fun w w' s v x h' x1 rs rh r p => by
  cases v with
  | int i => exact ⟨i, r, p.now rh rfl⟩
  | _ => exact p.elim)⟩
@[simp] def eSl (m : Ev) (lo hi : Ov) : Ev := fun s h => (m s h).bind fun v h => (lo s h).bind fun l h => (hi s h).bind fun u h => fSl v l u h
def rSl4 (K : PySem.W.Frag) : V → Option Int → Option Int → Hp → VK → Prop := fun x lo hi H Q => rSlTN K x lo hi H Q ∨ (rSlW K x lo hi H Q ∨ (rSlL K x lo hi H Q ∨ rSlS x lo hi H Q))
theorem sl4 : SlR X (rSl4 X.K) := sl_tupN.or (sl_whole.or (sl_list.or sl_str))
theorem RVs.cut {K : PySem.W.Frag} {w : Wd} {xs : List PV} {vs : List V} (r : RVs K w xs vs) (lo hi : Option Int) : RVs K w (cutP xs lo hi) (cutV vs lo hi) := by
  unfold cutP cutV
  rw [r.len]
  exact (r.drop _).take _
theorem os_sl {K : PySem.W.Frag} {w : Wd} {σ : L2.St} {h : Hh} {v : PV} {x : V} {lo hi : Option Int} {Q : VK} (rh : RH K w h) (r : RV K w v x) (p : Post K W w (Re K) (fSl v lo hi h) σ Q) : rSl4 K x lo hi w.H Q := by
  unfold fSl at p
  split at p
  · rename_i xs
    obtain ⟨a, vs, rfl, s, rr⟩ := r
    by_cases hw : HT.sIx vs.length 0 lo = 0 ∧ HT.sIx vs.length vs.length hi = vs.length
    · refine .inr (.inl ⟨a, vs, rfl, s.sq, hw, ?_⟩)
      have e : cutP xs lo hi = xs := by
        unfold cutP
        rw [← rr.len, hw.1, hw.2, List.drop_zero, Nat.sub_zero, rr.len, List.take_length]
      rw [e] at p
      exact p.now (x := .ref a) rh ⟨a, vs, rfl, s, rr⟩
    · exact .inl ⟨a, vs, rfl, s.sq, hw, post_newT rh (rr.cut lo hi) p⟩
  · rename_i y
    obtain ⟨z, p⟩ := p.of_guard
    cases (show x = V.str _ from r)
    refine .inr (.inr (.inr ⟨_, rfl, (by show Array.size _ ≤ _; simpa using z), p.now (x := .str _) rh ?_⟩))
    show V.str _ = V.str _
    unfold cutS cutP
    simp [Str.length]
  · obtain ⟨hi', rfl⟩ := r
    split at p
    · rename_i xs e
      obtain ⟨vs, s, rr⟩ := rh.lst e
      exact .inr (.inr (.inl ⟨_, vs, rfl, SqL.of s, fun q hq => post_newL rh (rr.cut lo hi) p hq⟩))
    · exact p.elim
  · obtain ⟨a, rfl, s⟩ := r
    exact .inr (.inr (.inl ⟨_, _, rfl, s.sq, fun q hq => post_newL rh (RVs.ints.cut lo hi) p hq⟩))
  · exact p.elim
theorem se_sl {lo hi : Option Expr} {ml mh : Ov} (he : SimE X W e me) (hl : SimO X W lo ml) (hu : SimO X W hi mh) : SimE X W (.Subscript e (.Slice lo hi none p2) pos) (eSl me ml mh) :=
  pe_imp (pe_slice sl4 he hl hu) fun σ H Q q => tR_bind back_e q fun w w1 s v x h1 x1 rs rh rv p => tR_next back_e rh rs p fun w2 l l' h2 x2 rh2 el p2 => tR_next back_e rh2 (rs.ext x2) p2 fun w3 u u' h3 x3 rh3 eu p3 => by
    subst el eu
    exact os_sl rh3 (rv.ext (x2.trans x3)) p3
/-- x[::-1] -/
@[simp] def fRev (v : PV) (h : Hh) : Res PV := match v with
  | .tup xs => .ok (.tup xs.reverse) h
  | .ref i => (match h[i]? with
    | some (.lst xs) => newL xs.reverse h
    | _ => .stuck)
  | _ => .stuck
@[simp] def eRev (m : Ev) : Ev := fun s h => (m s h).bind fRev
theorem se_rev {k : Nat} {p1 p2 p3 pos : Pos} (he : SimE X W e me) : SimE X W (.Subscript e (.Slice none none (some (.UnaryOp .USub (.Constant (.int 1) k p1) p2)) p3) pos) (eRev me) :=
  pe_imp (pe_revT he) fun σ H Q q => tR_bind back_e q fun w w1 s v x h1 x1 rs rh r p => by
    unfold fRev at p
    split at p
    · obtain ⟨a, vs, rfl, s1, rr⟩ := r
      exact ⟨a, vs, rfl, .inr ⟨s1.sq, post_newT rh rr.rev p⟩⟩
    · obtain ⟨hi', rfl⟩ := r
      split at p
      · rename_i xs e1
        obtain ⟨vs, s1, rr⟩ := rh.lst e1
        exact ⟨_, vs, rfl, .inl ⟨SqL.of s1, fun q hq => post_newL rh rr.rev p hq⟩⟩
      · exact p.elim
    · exact p.elim

/-! ### displays; a list that nobody holds gets its place -/
def vals? : List AV → Option (List PV)
  | [] => some []
  | .val v :: r => match vals? r with
    | some vs => some (v :: vs)
    | none => none
  | .tmp _ :: _ => none
theorem vals_rel {K : PySem.W.Frag} {w : Wd} : ∀ {as : List AV} {xs : List PV} {vs : List V}, RAs1 K w as vs → vals? as = some xs → RVs K w xs vs
  | [], _, _, r, e => by cases e; exact r
  | .val v :: as, _, _, r, e => by
    obtain ⟨x, r', rfl, h1, h2⟩ := r
    unfold vals? at e
    split at e
    · rename_i ys e2
      cases e
      exact ⟨x, r', rfl, h1, vals_rel h2 e2⟩
    · cases e
  | .tmp _ :: as, _, _, r, e => by cases e
@[simp] theorem vals_nil : vals? [] = some [] := rfl
@[simp] theorem vals_cons (v : PV) (r : List AV) : vals? (.val v :: r) = (vals? r).map (v :: ·) := by
  show (match vals? r with | some vs => some (v :: vs) | none => none) = _
  cases vals? r <;> rfl
@[simp] def tupD (as : List AV) (h : Hh) : Res PV := match vals? as with
  | some xs => .guard (xs.length ≤ sizeLine) (.ok (.tup xs) h)
  | none => .stuck
@[simp] def eTup (m : Mv (List AV)) : Ev := fun s h => (m s h).bind tupD
theorem se_tup {es : List Expr} {x1 : Nat} {m : Mv (List AV)} (h : SimA X W es m) : SimE X W (.Tuple es x1 pos) (eTup m) :=
  pe_imp (pe_tupN h) fun σ H Q q => tR_bind back_e q fun w w1 s as vs h1 x1 rs rh r p => by
    unfold tupD at p
    split at p
    · rename_i xs e
      obtain ⟨z, p⟩ := p.of_guard
      have rr := vals_rel r e
      exact ⟨by rw [rr.len]; exact z, post_newT rh rr p⟩
    · exact p.elim
@[simp] def lstD (as : List AV) (h : Hh) : Res (List PV) := match vals? as with
  | some xs => .guard (xs.length ≤ sizeLine) (.ok xs h)
  | none => .stuck
@[simp] def lLst (m : Mv (List AV)) : Lv := fun s h => (m s h).bind lstD
/-- a new list, held by nobody -/
theorem post_tmp {K : PySem.W.Frag} {w0 w : Wd} {h : Hh} {σ : L2.St} {Q : VK} {xs : List PV} {vs : List V} (rh : RH K w h) (r : RVs K w xs vs) (p : Post K W w (Rl K) (.ok xs h) σ Q) {q : Addr} (hq : w.H q = none) : Q (.ref q) (upd w.H q (.lst vs)) := by
  have x : Ext K w { w with H := upd w.H q (.lst vs) } := Ext.grow (grow_upd hq)
  exact p _ (.ref q) x (rh.grow (grow_upd hq)) ⟨q, vs, rfl, ⟨upd_same, r.ext x, fun i hi => rh.ne_free hq i hi⟩, hq⟩
theorem sl_lst {es : List Expr} {m : Mv (List AV)} (h : SimA X W es m) : SimL X W (.List es pos) (lLst m) :=
  pe_imp (pe_lst h) fun σ H Q q => tR_bind back_l q fun w w1 s as vs h1 x1 rs rh r p => by
    unfold lstD at p
    split at p
    · rename_i xs e
      obtain ⟨z, p⟩ := p.of_guard
      have rr := vals_rel r e
      exact ⟨by rw [rr.len]; exact z, fun q hq => post_tmp (w0 := w) rh rr p hq⟩
    · exact p.elim
@[simp] def eNew (m : Lv) : Ev := fun s h => (m s h).bind newL
theorem adoptC {K : PySem.W.Frag} {w w1 : Wd} {h : Hh} {c : Cell} {p : Addr} (x : Ext K w w1) (rh : RH K w1 h) (r : RC K w1 p c) (hout : ∀ i, i < w1.n → w1.ρ i ≠ p) (hn : w.H p = none) :
    ∃ w2, w2.H = w1.H ∧ Ext K w w2 ∧ RH K w2 (h ++ [c]) ∧ RV K w2 (.ref h.length) (.ref p) := by
  have hρ : ∀ i, i < w1.n → (if i = w1.n then p else w1.ρ i) = w1.ρ i := fun i hi => if_neg (by omega)
  have le : Le w1 ⟨w1.n + 1, fun i => if i = w1.n then p else w1.ρ i, w1.H⟩ := ⟨Nat.le_succ _, hρ, fun _ _ e => e, fun _ _ _ e => e⟩
  refine ⟨⟨w1.n + 1, fun i => if i = w1.n then p else w1.ρ i, w1.H⟩, rfl, ⟨⟨Nat.le_succ_of_le x.n, fun i hi => ?_, x.tup, x.frz⟩, x.frame, fun i h1 h2 => ?_, x.there⟩, ⟨?_, fun i c' e => ?_, fun i j hi hj e => ?_⟩, ?_⟩
  · show (if i = w1.n then p else w1.ρ i) = _
    rw [hρ i (Nat.lt_of_lt_of_le hi x.n)]
    exact x.ρ i hi
  · have h2' : i < w1.n + 1 := h2
    show w.H (if i = w1.n then p else w1.ρ i) = none
    by_cases e : i = w1.n
    · rw [if_pos e]; exact hn
    · rw [if_neg e]; exact x.new i h1 (by omega)
  · rw [List.length_append, rh.len]; rfl
  · by_cases hi : i < h.length
    · rw [List.getElem?_append_left hi] at e
      have z := (rh.cell i c' e).le le.to0 rfl
      show RC K _ (if i = w1.n then p else w1.ρ i) c'
      rw [hρ i (by rw [← rh.len]; exact hi)]
      exact z
    · have e2 : i = h.length := by
        have := (List.getElem?_eq_some_iff.mp e).1
        rw [List.length_append] at this
        simp at this
        omega
      subst e2
      rw [List.getElem?_append_right (Nat.le_refl _), Nat.sub_self] at e
      cases e
      show RC K _ (if h.length = w1.n then p else _) c
      rw [if_pos rh.len]
      exact r.le le.to0 rfl
  · have hi' : i < w1.n + 1 := hi
    have hj' : j < w1.n + 1 := hj
    have e' : (if i = w1.n then p else w1.ρ i) = (if j = w1.n then p else w1.ρ j) := e
    by_cases h1 : i = w1.n
    · by_cases h2 : j = w1.n
      · rw [h1, h2]
      · rw [if_pos h1, if_neg h2] at e'
        exact absurd e'.symm (hout j (by omega))
    · by_cases h2 : j = w1.n
      · rw [if_neg h1, if_pos h2] at e'
        exact absurd e' (hout i (by omega))
      · rw [if_neg h1, if_neg h2] at e'
        exact rh.inj i j (by omega) (by omega) e'
  · show h.length < w1.n + 1 ∧ V.ref p = V.ref (if h.length = w1.n then p else w1.ρ h.length)
    rw [rh.len, if_pos rfl]
    exact ⟨Nat.lt_succ_self _, rfl⟩
theorem adopt {K : PySem.W.Frag} {w w1 : Wd} {h : Hh} {xs : List PV} {p : Addr} {vs : List V} (x : Ext K w w1) (rh : RH K w1 h) (r : RL K w1 xs p vs) (hn : w.H p = none) :
    ∃ w2, w2.H = w1.H ∧ Ext K w w2 ∧ RH K w2 (h ++ [.lst xs]) ∧ RV K w2 (.ref h.length) (.ref p) := adoptC x rh ⟨vs, r.at_, r.rel⟩ r.out hn
theorem se_new {m : Lv} (h : SimL X W e m) : SimE X W e (eNew m) :=
  pe_imp h fun σ H Q q => by
    obtain ⟨w, s, hh, rfl, rh, rs, p⟩ := q
    refine ⟨w, s, hh, rfl, rh, rs, ?_⟩
    have p : Post X.K W w (Re X.K) ((m s hh).bind newL) σ Q := p
    cases em : m s hh with
    | ok xs h1 =>
      rw [em] at p
      intro w1 v x1 rh1 r
      obtain ⟨a, vs, rfl, r, hn⟩ := r
      obtain ⟨w2, e2, x2, rh2, rv2⟩ := adopt x1 rh1 r hn
      rw [← e2]
      exact p w2 (.ref a) x2 rh2 rv2
    | exn c fs h1 => rw [em] at p; exact p
    | stuck => rw [em] at p; exact p
end
end U
set_option Elab.async false
set_option linter.all false
set_option maxRecDepth 100000
set_option maxHeartbeats 2000000
/-! The generic layer, part 10: comprehensions. -/
namespace U
open PySem PySem.Spec PyProof.Rows L2
variable [Tab]
/-- the slots of a comprehension's own names forgotten -/
@[simp] def wipeE (s : Ev0) : List Nat → Ev0
  | [] => s
  | v :: vs => (wipeE s vs).set v none
theorem RS.wipe {K : PySem.W.Frag} {w : Wd} {s : Ev0} {σ : L2.St} (r : RS K w s σ) : ∀ vs : List Nat, RS K w (wipeE s vs) (wipe σ vs)
  | [] => r
  | v :: vs => (RS.wipe r vs).unset
/-- a target of names: what it binds -/
abbrev Bd := PV → Ev0 → Option Ev0
def CG (K : PySem.W.Frag) (vs : List Nat) (g : TG) (b : Bd) : Prop := ∀ (w : Wd) (p : PV) (s s1 : Ev0) (v : V) (σ : L2.St) (Q : L2.St → Hp → Prop), RS K w s σ → RV K w p v → b p s = some s1 → (∀ σ2, RS K w s1 σ2 → wipe σ2 vs = wipe σ vs → Q σ2 w.H) → g v σ w.H Q
theorem wipe_set {i : Nat} {z : Option V} : ∀ {vs : List Nat} {σ : L2.St}, i ∈ vs → wipe (σ.set i z) vs = wipe σ vs
  | v :: vs, σ, h => by
    show (wipe (σ.set i z) vs).set v none = (wipe σ vs).set v none
    by_cases e : i = v
    · subst e
      by_cases h2 : i ∈ vs
      · rw [wipe_set h2]
      · have : ∀ (us : List Nat) (τ : L2.St), i ∉ us → wipe (τ.set i z) us = (wipe τ us).set i z := by
          intro us
          induction us with
          | nil => intro τ _; rfl
          | cons u us ih =>
            intro τ hu
            simp only [List.mem_cons, not_or] at hu
            show (wipe (τ.set i z) us).set u none = ((wipe τ us).set u none).set i z
            rw [ih τ hu.2, List.set_comm _ _ hu.1]
        rw [this vs σ h2, List.set_set]
    · rw [wipe_set (by simpa [e] using h)]
theorem wipe_wipe (σ : L2.St) : ∀ vs : List Nat, wipe (wipe σ vs) vs = wipe σ vs
  | [] => rfl
  | v :: vs => by
    have e1 : wipe (wipe σ (v :: vs)) (v :: vs) = wipe (wipe σ vs) (v :: vs) := wipe_set (σ := wipe σ vs) (z := none) List.mem_cons_self
    rw [e1]
    show (wipe (wipe σ vs) vs).set v none = _
    rw [wipe_wipe σ vs]
    rfl
@[simp] def bN (i : Nat) : Bd := fun p s => some (s.set i (some p))
theorem cg_name {K : PySem.W.Frag} {vs : List Nat} {i : Nat} (h : i ∈ vs) : CG K vs (gName i) (bN i) := by
  intro w p s s1 v σ Q rs rv e q
  cases e
  exact q _ (rs.set rv) (wipe_set h)
def gNames : List Nat → TGs
  | [] => L2.gNil
  | i :: is => L2.gCons (gName i) (gNames is)
@[simp] def setE : List Nat → List PV → Ev0 → Option Ev0
  | [], [], s => some s
  | i :: is, p :: ps, s => setE is ps (s.set i (some p))
  | _, _, _ => none
@[simp] def bT (is : List Nat) : Bd := fun p s => match p with
  | .tup ps => setE is ps s
  | _ => none
theorem names_ok {K : PySem.W.Frag} {vs : List Nat} {w : Wd} {Q : L2.St → Hp → Prop} : ∀ (is : List Nat) (ps : List PV) (xs : List V) (s s1 : Ev0) (σ : L2.St), (∀ i ∈ is, i ∈ vs) → RS K w s σ → RVs K w ps xs → setE is ps s = some s1 →
    (∀ σ2, RS K w s1 σ2 → wipe σ2 vs = wipe σ vs → Q σ2 w.H) → xs.length = is.length ∧ gNames is xs σ w.H Q
  | [], ps, xs, s, s1, σ, hv, rs, rv, e, q => by
    cases ps with
    | nil => cases e; cases (show xs = [] from rv); exact ⟨rfl, rfl, q σ rs rfl⟩
    | cons a b => cases e
  | i :: is, ps, xs, s, s1, σ, hv, rs, rv, e, q => by
    cases ps with
    | nil => cases e
    | cons p ps =>
      obtain ⟨x, r, rfl, r1, r2⟩ := rv
      obtain ⟨l, g⟩ := names_ok is ps r (s.set i (some p)) s1 (σ.set i (some x)) (fun j hj => hv j (List.mem_cons_of_mem _ hj)) (rs.set r1) r2 e fun σ2 rs2 e2 => q σ2 rs2 (by rw [e2, wipe_set (hv i List.mem_cons_self)])
      exact ⟨by rw [List.length_cons, List.length_cons, l], x, r, rfl, g⟩
theorem cg_tup {K : PySem.W.Frag} {vs : List Nat} {is : List Nat} (h : ∀ i ∈ is, i ∈ vs) : CG K vs (gTup K is.length (gNames is)) (bT is) := by
  intro w p s s1 v σ Q rs rv e q
  cases p with
  | tup ps =>
    obtain ⟨a, xs, rfl, s0, r0⟩ := rv
    obtain ⟨l, g⟩ := names_ok is ps xs s s1 σ h rs r0 e q
    exact ⟨a, xs, rfl, s0.sq, l, g⟩
  | _ => cases e
/-- a step where nothing may be raised -/
@[simp] def Res.nx {α β : Type} (r : Res α) (k : α → Hh → Res β) : Res β := match r with
  | .ok a h => k a h
  | _ => .stuck
def compL (b : Bd) (c : Tv) (e : Ev) (g : Gd) (s : Ev0) : List PV → List PV → Hh → Res (List PV)
  | [], acc, h => if gOk g h then .ok acc h else .stuck
  | x :: xs, acc, h => if gOk g h then (match b x s with
    | none => .stuck
    | some s1 => (c s1 h).nx fun k h => if k = true then (e s1 h).nx fun v h => if acc.length < sizeLine then compL b c e g s xs (acc ++ [v]) h else .stuck else compL b c e g s xs acc h) else .stuck
@[simp] def tYesE : Tv := fun _ h => .ok true h
@[simp] def lComp (i : Iv) (b : Bd) (c : Tv) (e : Ev) (own : List Nat) : Lv := fun s h => (i s h).bind fun x h => compL b c e x.2 (wipeE s own) x.1 [] h
abbrev WNo : WX := fun _ _ _ _ => False
section
variable {K : PySem.W.Frag} {w w0 : Wd} {h : Hh}
/-- a list that nobody holds is written -/
theorem RL.poke {xs : List PV} {p : Addr} {vs us : List V} (r : RL K w xs p vs) (rh : RH K w h) {ys : List PV} (ry : RVs K w ys us) :
    RL K { w with H := upd w.H p (.lst us) } ys p us ∧ RH K { w with H := upd w.H p (.lst us) } h ∧ Le w { w with H := upd w.H p (.lst us) } := by
  have nt : ∀ a u, w.H a = some u → (∀ l, u ≠ .lst l) → a ≠ p := fun a u e n q => by
    rw [q, r.at_] at e
    cases e
    exact n _ rfl
  have le : Le w { w with H := upd w.H p (.lst us) } := ⟨Nat.le_refl _, fun _ _ => rfl, fun a l e => by
      show upd w.H p _ a = _
      rw [upd_ne (nt a _ e fun _ q => nomatch q)]; exact e, fun a o u e => by
      show upd w.H p _ a = _
      rw [upd_ne (nt a _ e fun _ q => nomatch q)]; exact e⟩
  exact ⟨⟨upd_same, ry.le le.to0, r.out⟩, ⟨rh.len, fun i c e => (rh.cell i c e).le le.to0 (upd_ne (r.out i (rh.lt e))), rh.inj⟩, le⟩
theorem Ext.poke (x : Ext K w0 w) {p : Addr} {o : HO} (hn : w0.H p = none) (le : Le w { w with H := upd w.H p o }) : Ext K w0 { w with H := upd w.H p o } :=
  ⟨⟨x.n, x.ρ, fun a l e => le.tup a l (x.tup a l e), fun a ob u e => le.frz a ob u (x.frz a ob u e)⟩, fun b u e hf => by
    show upd w.H p o b = _
    rw [upd_ne (fun q => by rw [q, hn] at e; cases e)]
    exact x.frame b u e hf, x.new, fun b u e => by
    obtain ⟨u', e'⟩ := x.there b u e
    exact ⟨u', by show upd w.H p o b = _; rw [upd_ne (fun q => by rw [q, hn] at e; cases e)]; exact e'⟩⟩
end
section
variable {X : Cx} {W : WX} {elt tg iter : Expr} {ifs : List Expr} {scope : Scope} {own : List (Str × Nat)} {pos : Pos} {mi : Iv} {g : TG} {b : Bd} {c : Tv} {e : Ev} {tt : TT} {te : TE}
theorem lc_ok (hb : CG X.K (own.map (·.2)) g b) {σ : L2.St} {H : Hp} {Q : VK} (q : tR X.K W (Rl X.K) (lComp mi b c e (own.map (·.2))) σ H Q) :
    tLc (tR X.K W (Rj X.K) mi) g (tR X.K WNo Rb c) (tR X.K WNo (Re X.K) e) (own.map (·.2)) σ H Q :=
  tR_bind back_l q fun w0 w1 s0 x J h0 x1 rs rh jok p => by
    obtain ⟨xs, gd⟩ := x
    intro D hD
    refine ⟨fun i m H => m = xs.length - i ∧ i ≤ xs.length ∧ ∃ w h acc av, w.H = H ∧ Ext X.K w1 w ∧ RH X.K w h ∧ RL X.K w acc D av ∧ Post X.K W w1 (Rl X.K) (compL b c e gd (wipeE s0 (own.map (·.2))) (xs.drop i) acc h) σ Q, ⟨xs.length, ?_⟩, ?_⟩
    · refine ⟨by simp, Nat.zero_le _, { w1 with H := upd w1.H D (.lst []) }, h0, [], [], rfl, Ext.grow (grow_upd hD), rh.grow (grow_upd hD), ⟨upd_same, rfl, fun i hi => rh.ne_free hD i hi⟩, ?_⟩
      exact p
    · rintro i m H ⟨rfl, hi, w, h, acc, av, rfl, xw, rh, rl, p⟩
      by_cases hlt : i < xs.length
      · have e1 : xs.drop i = xs[i] :: xs.drop (i + 1) := List.drop_eq_getElem_cons hlt
        rw [e1] at p
        unfold compL at p
        split at p
        · rename_i hgd
          obtain ⟨go, yld⟩ := (jok w h xw rh hgd).1 i xs[i] (List.getElem?_eq_getElem hlt)
          refine .inr ⟨go, fun H => i + 1 ≤ xs.length ∧ ∃ w h acc av, w.H = H ∧ Ext X.K w1 w ∧ RH X.K w h ∧ RL X.K w acc D av ∧ Post X.K W w1 (Rl X.K) (compL b c e gd (wipeE s0 (own.map (·.2))) (xs.drop (i + 1)) acc h) σ Q, fun H' z => ⟨xs.length - (i + 1), by omega, rfl, z⟩, fun v H' y => ?_⟩
          obtain ⟨w2, rfl, x2, rh2, rv2⟩ := yld v H' y
          have xw2 := xw.trans x2
          have rl2 := rl.ext x2
          split at p
          · exact p.elim
          · rename_i s1 eb
            refine hb w2 _ _ _ v _ _ ((rs.ext xw2).wipe _) rv2 eb fun σ2 rs2 e2 => ⟨e2.trans (wipe_wipe σ _), ?_⟩
            refine ⟨w2, s1, h, rfl, rh2, rs2, ?_⟩
            cases ec : c s1 h with
            | exn _ _ _ => rw [ec] at p; exact p.elim
            | stuck => rw [ec] at p; exact p.elim
            | ok k h3 =>
              rw [ec] at p
              intro w3 k' x3 rh3 ek
              subst ek
              have p : Post X.K W w1 (Rl X.K) (if k = true then (e s1 h3).nx fun v h => if acc.length < sizeLine then compL b c e gd (wipeE s0 (own.map (·.2))) (xs.drop (i + 1)) (acc ++ [v]) h else .stuck else compL b c e gd (wipeE s0 (own.map (·.2))) (xs.drop (i + 1)) acc h3) σ Q := p
              cases k with
              | false =>
                rw [if_neg Bool.false_ne_true] at p ⊢
                exact ⟨hlt, w3, h3, acc, av, rfl, xw2.trans x3, rh3, rl2.ext x3, p⟩
              | true =>
                rw [if_pos rfl] at p ⊢
                refine ⟨w3, s1, h3, rfl, rh3, rs2.ext x3, ?_⟩
                cases ee : e s1 h3 with
                | exn _ _ _ => rw [ee] at p; exact p.elim
                | stuck => rw [ee] at p; exact p.elim
                | ok u h4 =>
                  rw [ee] at p
                  intro w4 xu x4 rh4 ru
                  have p : Post X.K W w1 (Rl X.K) (if acc.length < sizeLine then compL b c e gd (wipeE s0 (own.map (·.2))) (xs.drop (i + 1)) (acc ++ [u]) h4 else .stuck) σ Q := p
                  split at p
                  · rename_i hz
                    have xw4 := xw2.trans (x3.trans x4)
                    have rl4 := rl2.ext (x3.trans x4)
                    obtain ⟨rl5, rh5, le5⟩ := rl4.poke rh4 (rl4.rel.app (.cons ru .nil))
                    exact ⟨av, rl4.at_, by rw [rl4.rel.len]; exact hz, hlt, _, h4, acc ++ [u], av ++ [xu], rfl, Ext.poke xw4 hD le5, rh5, rl5, p⟩
                  · exact p.elim
        · exact p.elim
      · have e : i = xs.length := by omega
        subst e
        rw [List.drop_length] at p
        unfold compL at p
        split at p
        · rename_i hgd
          refine .inl ⟨(jok w h xw rh hgd).2, ?_⟩
          exact p w _ xw rh ⟨D, av, rfl, rl, hD⟩
        · exact p.elim
theorem pts_yes : PTs X [] (tR X.K W Rb tYesE) := ⟨fun pins s σ H Q I q => pts_nil.run pins s σ H Q I (by
  obtain ⟨w, s, hh, rfl, rh, rs, p⟩ := q
  exact p.now rh rfl)⟩
theorem sl_comp (hc : X.calm = true) (hN : X.N.Nodup) (hi : SimI X W tg iter mi) (ok : BlkOk X.N X.env.scope scope own) (hb : CG X.K (own.map (·.2)) g b)
    (hg : ∀ (s : Shared) (H : Hp) (C : Addr) (cl : List (Str × Addr)) (fp : List Addr), PG (X.blk s H scope (compEnvC scope cl C X.env) fp) tg g)
    (ht : ∀ (s : Shared) (H : Hp) (C : Addr) (cl : List (Str × Addr)) (fp : List Addr), PTs (X.blk s H scope (compEnvC scope cl C X.env) fp) ifs (tR X.K WNo Rb c))
    (he : ∀ (s : Shared) (H : Hp) (C : Addr) (cl : List (Str × Addr)) (fp : List Addr), SimE (X.blk s H scope (compEnvC scope cl C X.env) fp) WNo elt e)
    (hs : ∀ x, foldedSetIterable iter X.env x = pure x := by intro _; rfl) : SimL X W (.ListComp elt [⟨tg, iter, ifs, 0⟩] scope pos) (lComp mi b c e (own.map (·.2))) :=
  pe_imp (pe_lc (te := tR X.K WNo (Re X.K) e) hc hN hi ok hg ht he hs) fun σ H Q q => lc_ok hb q
/-- a list that nobody holds, as a value -/
theorem tR_new {K : PySem.W.Frag} {W : WX} {m : Lv} {σ : L2.St} {H : Hp} {Q : VK} (q : tR K W (Re K) (eNew m) σ H Q) : tR K W (Rl K) m σ H Q := by
  obtain ⟨w, s, hh, rfl, rh, rs, p⟩ := q
  refine ⟨w, s, hh, rfl, rh, rs, ?_⟩
  have p : Post K W w (Re K) ((m s hh).bind newL) σ Q := p
  cases em : m s hh with
  | ok xs h1 =>
    rw [em] at p
    intro w1 v x1 rh1 r
    obtain ⟨a, vs, rfl, r, hn⟩ := r
    obtain ⟨w2, e2, x2, rh2, rv2⟩ := adopt x1 rh1 r hn
    rw [← e2]
    exact p w2 (.ref a) x2 rh2 rv2
  | exn c fs h1 => rw [em] at p; exact p
  | stuck => rw [em] at p; exact p
theorem ss_setLc {i : Nat} {y : Str} {py spos : Pos} (hc : X.calm = true) (hN : X.N.Nodup) (hy : X.N[i]? = some y) (hyl : X.env.scope.names.lookup y = some .local)
    (hsw : swapsWith (.ListComp elt [⟨tg, iter, ifs, 0⟩] scope pos) (some (.Name y py)) spos.line X.env = pure true) (hi : SimI X W tg iter mi) (ok : BlkOk X.N X.env.scope scope own) (hb : CG X.K (own.map (·.2)) g b)
    (hg : ∀ (s : Shared) (H : Hp) (C : Addr) (cl : List (Str × Addr)) (fp : List Addr), PG (X.blk s H scope (compEnvC scope cl C X.env) fp) tg g)
    (ht : ∀ (s : Shared) (H : Hp) (C : Addr) (cl : List (Str × Addr)) (fp : List Addr), PTs (X.blk s H scope (compEnvC scope cl C X.env) fp) ifs (tR X.K WNo Rb c))
    (he : ∀ (s : Shared) (H : Hp) (C : Addr) (cl : List (Str × Addr)) (fp : List Addr), SimE (X.blk s H scope (compEnvC scope cl C X.env) fp) WNo elt e)
    (hs : ∀ x, foldedSetIterable iter X.env x = pure x := by intro _; rfl) : SimS X W (.Assign [.Name y py] (.ListComp elt [⟨tg, iter, ifs, 0⟩] scope pos) spos) (sAsg (eNew (lComp mi b c e (own.map (·.2)))) (gN i)) :=
  ps_imp (ps_setLc (te := tR X.K WNo (Re X.K) e) hc hN hy hyl hsw hi ok hg ht he hs) fun D σ H q => lc_ok hb (tR_new (W := W) (tS_bind q fun w w' s v x h' x1 rs rh r p => p w' _ (Ext.refl _) rh (rs.set r)))
end
end U
set_option Elab.async false
set_option linter.all false
set_option maxRecDepth 100000
set_option maxHeartbeats 2000000
/-! The generic layer, part 11: dict comprehensions; calls of builtins. -/
namespace U
open PySem PySem.Spec PyProof.Rows L2
variable [Tab]
/-- a dict that nobody else holds -/
structure RD (K : PySem.W.Frag) (w : Wd) (xs : List (PKey × PV)) (p : Addr) (vs : List (Key × V)) : Prop where
  at_ : w.H p = some (.dK vs)
  rel : RKs K w xs vs
  out : ∀ i, i < w.n → w.ρ i ≠ p
section
variable {K : PySem.W.Frag} {w w' w0 : Wd} {h : Hh}
theorem RD.ext {xs : List (PKey × PV)} {p : Addr} {vs : List (Key × V)} (r : RD K w xs p vs) (x : Ext K w w') : RD K w' xs p vs where
  at_ := x.frame _ _ r.at_ r.out
  rel := r.rel.ext x
  out := fun i hi e => by
    by_cases h : i < w.n
    · rw [x.ρ i h] at e
      exact r.out i h e
    · have q := x.new i (by omega) hi
      rw [e, r.at_] at q
      cases q
theorem RD.poke {xs : List (PKey × PV)} {p : Addr} {vs us : List (Key × V)} (r : RD K w xs p vs) (rh : RH K w h) {ys : List (PKey × PV)} (ry : RKs K w ys us) :
    RD K { w with H := upd w.H p (.dK us) } ys p us ∧ RH K { w with H := upd w.H p (.dK us) } h ∧ Le w { w with H := upd w.H p (.dK us) } := by
  have nt : ∀ a u, w.H a = some u → (∀ l, u ≠ .dK l) → a ≠ p := fun a u e n q => by
    rw [q, r.at_] at e
    cases e
    exact n _ rfl
  have le : Le w { w with H := upd w.H p (.dK us) } := ⟨Nat.le_refl _, fun _ _ => rfl, fun a l e => by
      show upd w.H p _ a = _
      rw [upd_ne (nt a _ e fun _ q => nomatch q)]; exact e, fun a o u e => by
      show upd w.H p _ a = _
      rw [upd_ne (nt a _ e fun _ q => nomatch q)]; exact e⟩
  exact ⟨⟨upd_same, ry.le le.to0, r.out⟩, ⟨rh.len, fun i c e => (rh.cell i c e).le le.to0 (upd_ne (r.out i (rh.lt e))), rh.inj⟩, le⟩
end
def dcompL (b : Bd) (c : Tv) (k e : Ev) (g : Gd) (s : Ev0) : List PV → List (PKey × PV) → Hh → Res (List (PKey × PV))
  | [], acc, h => if gOk g h then .ok acc h else .stuck
  | x :: xs, acc, h => if gOk g h then (match b x s with
    | none => .stuck
    | some s1 => (c s1 h).nx fun t h => if t = true then (k s1 h).nx fun kv h => (e s1 h).nx fun v h => match kv.key? with
      | some key => if acc.length < sizeLine then dcompL b c k e g s xs (putP acc key v) h else .stuck
      | none => .stuck
      else dcompL b c k e g s xs acc h) else .stuck
@[simp] def newD (kvs : List (PKey × PV)) (h : Hh) : Res PV := .ok (.ref h.length) (h ++ [.dic kvs])
@[simp] def eDComp (i : Iv) (b : Bd) (c : Tv) (k e : Ev) (own : List Nat) : Ev := fun s h => (i s h).bind fun x h => (dcompL b c k e x.2 (wipeE s own) x.1 [] h).bind newD
section
variable {X : Cx} {W : WX} {kx vx tg iter : Expr} {ifs : List Expr} {scope : Scope} {own : List (Str × Nat)} {pos : Pos} {mi : Iv} {g : TG} {b : Bd} {c : Tv} {k e : Ev}
theorem dc_ok (hb : CG X.K (own.map (·.2)) g b) {σ : L2.St} {H : Hp} {Q : VK} (q : tR X.K W (Re X.K) (eDComp mi b c k e (own.map (·.2))) σ H Q) :
    tDc (tR X.K W (Rj X.K) mi) g (tR X.K WNo Rb c) (tR X.K WNo (Re X.K) k) (tR X.K WNo (Re X.K) e) (own.map (·.2)) σ H Q :=
  tR_bind back_e q fun w0 w1 s0 x J h0 x1 rs rh jok p => by
    obtain ⟨xs, gd⟩ := x
    intro D hD
    refine ⟨fun i m H => m = xs.length - i ∧ i ≤ xs.length ∧ ∃ w h acc av, w.H = H ∧ Ext X.K w1 w ∧ RH X.K w h ∧ RD X.K w acc D av ∧ Post X.K W w1 (Re X.K) ((dcompL b c k e gd (wipeE s0 (own.map fun z : Str × Nat => z.2)) (xs.drop i) acc h).bind newD) σ Q, ⟨xs.length, ?_⟩, ?_⟩
    · exact ⟨by simp, Nat.zero_le _, { w1 with H := upd w1.H D (.dK []) }, h0, [], [], rfl, Ext.grow (grow_upd hD), rh.grow (grow_upd hD), ⟨upd_same, rfl, fun i hi => rh.ne_free hD i hi⟩, p⟩
    · rintro i m H ⟨rfl, hi, w, h, acc, av, rfl, xw, rh, rl, p⟩
      by_cases hlt : i < xs.length
      · have e1 : xs.drop i = xs[i] :: xs.drop (i + 1) := List.drop_eq_getElem_cons hlt
        rw [e1] at p
        unfold dcompL at p
        split at p
        · rename_i hgd
          obtain ⟨go, yld⟩ := (jok w h xw rh hgd).1 i xs[i] (List.getElem?_eq_getElem hlt)
          refine .inr ⟨go, fun H => i + 1 ≤ xs.length ∧ ∃ w h acc av, w.H = H ∧ Ext X.K w1 w ∧ RH X.K w h ∧ RD X.K w acc D av ∧ Post X.K W w1 (Re X.K) ((dcompL b c k e gd (wipeE s0 (own.map fun z : Str × Nat => z.2)) (xs.drop (i + 1)) acc h).bind newD) σ Q, fun H' z => ⟨xs.length - (i + 1), by omega, rfl, z⟩, fun v H' y => ?_⟩
          obtain ⟨w2, rfl, x2, rh2, rv2⟩ := yld v H' y
          have xw2 := xw.trans x2
          have rl2 := rl.ext x2
          split at p
          · exact p.elim
          · rename_i s1 eb
            refine hb w2 _ _ _ v _ _ ((rs.ext xw2).wipe _) rv2 eb fun σ2 rs2 e2 => ⟨e2.trans (wipe_wipe σ _), ?_⟩
            refine ⟨w2, s1, h, rfl, rh2, rs2, ?_⟩
            cases ec : c s1 h with
            | exn _ _ _ => rw [ec] at p; exact p.elim
            | stuck => rw [ec] at p; exact p.elim
            | ok t h3 =>
              rw [ec] at p
              intro w3 t' x3 rh3 ek
              subst ek
              cases t with
              | false => exact ⟨hlt, w3, h3, acc, av, rfl, xw2.trans x3, rh3, rl2.ext x3, p⟩
              | true =>
                rw [if_pos rfl]
                have p : Post X.K W w1 (Re X.K) (((k s1 h3).nx fun kv h => (e s1 h).nx fun v h => match kv.key? with
                  | some key => if acc.length < sizeLine then dcompL b c k e gd (wipeE s0 (own.map fun z : Str × Nat => z.2)) (xs.drop (i + 1)) (putP acc key v) h else .stuck
                  | none => .stuck).bind newD) σ Q := p
                refine ⟨w3, s1, h3, rfl, rh3, rs2.ext x3, ?_⟩
                cases ekk : k s1 h3 with
                | exn _ _ _ => rw [ekk] at p; exact p.elim
                | stuck => rw [ekk] at p; exact p.elim
                | ok kv h4 =>
                  rw [ekk] at p
                  intro w4 xk x4 rh4 rk
                  have p : Post X.K W w1 (Re X.K) (((e s1 h4).nx fun v h => match kv.key? with
                    | some key => if acc.length < sizeLine then dcompL b c k e gd (wipeE s0 (own.map fun z : Str × Nat => z.2)) (xs.drop (i + 1)) (putP acc key v) h else .stuck
                    | none => .stuck).bind newD) σ Q := p
                  refine ⟨w4, s1, h4, rfl, rh4, (rs2.ext x3).ext x4, ?_⟩
                  cases ee : e s1 h4 with
                  | exn _ _ _ => rw [ee] at p; exact p.elim
                  | stuck => rw [ee] at p; exact p.elim
                  | ok u h5 =>
                    rw [ee] at p
                    intro w5 xu x5 rh5 ru
                    have p : Post X.K W w1 (Re X.K) ((match kv.key? with
                      | some key => if acc.length < sizeLine then dcompL b c k e gd (wipeE s0 (own.map fun z : Str × Nat => z.2)) (xs.drop (i + 1)) (putP acc key u) h5 else .stuck
                      | none => .stuck).bind newD) σ Q := p
                    split at p
                    · rename_i key ekey
                      split at p
                      · rename_i hz
                        have xx := x3.trans (x4.trans x5)
                        have xw5 := xw2.trans xx
                        have rl5 := rl2.ext xx
                        obtain ⟨rl6, rh6, le6⟩ := rl5.poke rh5 (rl5.rel.put ru (k := key))
                        exact ⟨av, keyOf key, key_rel rk ekey, rl5.at_, by rw [rl5.rel.len]; exact hz, hlt, _, h5, putP acc key u, _, rfl, Ext.poke xw5 hD le6, rh6, rl6, p⟩
                      · exact p.elim
                    · exact p.elim
        · exact p.elim
      · have e : i = xs.length := by omega
        subst e
        rw [List.drop_length] at p
        unfold dcompL at p
        split at p
        · rename_i hgd
          refine .inl ⟨(jok w h xw rh hgd).2, ?_⟩
          obtain ⟨w2, e2, x2, rh2, rv2⟩ := adoptC (c := .dic acc) xw rh ⟨av, rl.at_, rl.rel⟩ rl.out hD
          rw [← e2]
          exact p w2 (.ref D) x2 rh2 rv2
        · exact p.elim
theorem se_dcomp (hc : X.calm = true) (hN : X.N.Nodup) (hi : SimI X W tg iter mi) (ok : BlkOk X.N X.env.scope scope own) (hb : CG X.K (own.map (·.2)) g b)
    (hg : ∀ (s : Shared) (H : Hp) (C : Addr) (cl : List (Str × Addr)) (fp : List Addr), PG (X.blk s H scope (compEnvC scope cl C X.env) fp) tg g)
    (ht : ∀ (s : Shared) (H : Hp) (C : Addr) (cl : List (Str × Addr)) (fp : List Addr), PTs (X.blk s H scope (compEnvC scope cl C X.env) fp) ifs (tR X.K WNo Rb c))
    (hk : ∀ (s : Shared) (H : Hp) (C : Addr) (cl : List (Str × Addr)) (fp : List Addr), SimE (X.blk s H scope (compEnvC scope cl C X.env) fp) WNo kx k)
    (he : ∀ (s : Shared) (H : Hp) (C : Addr) (cl : List (Str × Addr)) (fp : List Addr), SimE (X.blk s H scope (compEnvC scope cl C X.env) fp) WNo vx e)
    (hs : ∀ x, foldedSetIterable iter X.env x = pure x := by intro _; rfl) : SimE X W (.DictComp kx vx [⟨tg, iter, ifs, 0⟩] scope pos) (eDComp mi b c k e (own.map (·.2))) :=
  pe_imp (pe_dc (tk := tR X.K WNo (Re X.K) k) (tv := tR X.K WNo (Re X.K) e) hc hN hi ok hg ht hk he hs) fun σ H Q q => dc_ok hb q
end
end U
set_option Elab.async false
set_option linter.all false
set_option maxRecDepth 100000
set_option maxHeartbeats 2000000
/-! The generic layer, part 12: calls of built-in functions by values. -/
namespace U
open PySem PySem.Spec PyProof.Rows L2
variable [Tab]

/-! ### what an argument holds -/
def lstA (a : AV) (h : Hh) : Option (List PV) := match a with
  | .tmp xs => some xs
  | .val (.ref i) => (match h[i]? with
    | some (.lst xs) => some xs
    | _ => none)
  | .val (.scr ns) => some (ns.map PV.int)
  | _ => none
def tupA (a : AV) : Option (List PV) := match a with
  | .val (.tup xs) => some xs
  | _ => none
def seqA (a : AV) (h : Hh) : Option (List PV) := match lstA a h with
  | some xs => some xs
  | none => tupA a
section
variable {K : PySem.W.Frag} {w : Wd} {h : Hh}
theorem lstA_rel (rh : RH K w h) {a : AV} {x : V} (r : RA1 K w a x) {xs : List PV} (e : lstA a h = some xs) : ∃ p vs, x = .ref p ∧ SqL K w.H p vs ∧ RVs K w xs vs := by
  unfold lstA at e
  split at e
  · cases e
    obtain ⟨p, vs, rfl, r⟩ := r
    exact ⟨p, vs, rfl, SqL.of r.at_, r.rel⟩
  · split at e
    · rename_i i _ ys e1
      cases e
      obtain ⟨hi, rfl⟩ := (show RV K w (.ref i) x from r)
      obtain ⟨vs, s, q⟩ := rh.lst e1
      exact ⟨_, vs, rfl, SqL.of s, q⟩
    · cases e
  · cases e
    obtain ⟨p, rfl, s⟩ := (show RV K w (.scr _) x from r)
    exact ⟨p, _, rfl, s.sq, RVs.ints⟩
  · cases e
theorem tupA_rel {a : AV} {x : V} (r : RA1 K w a x) {xs : List PV} (e : tupA a = some xs) : ∃ p vs, x = .ref p ∧ SqT K w.H p vs ∧ RVs K w xs vs := by
  unfold tupA at e
  split at e
  · cases e
    obtain ⟨p, vs, e2, s, q⟩ := r
    exact ⟨p, vs, e2, s.sq, q⟩
  · cases e
theorem tupA_new {a : AV} {x : V} (r : RA1 K w a x) {xs : List PV} (e : tupA a = some xs) : ∃ p vs, x = .ref p ∧ SqN K w.H p vs ∧ RVs K w xs vs := by
  unfold tupA at e
  split at e
  · cases e
    exact r
  · cases e
theorem seqA_rel (rh : RH K w h) {a : AV} {x : V} (r : RA1 K w a x) {xs : List PV} (e : seqA a h = some xs) : ∃ p vs, x = .ref p ∧ (SqL K w.H p vs ∨ SqT K w.H p vs) ∧ RVs K w xs vs := by
  unfold seqA at e
  split at e
  · rename_i e1
    cases e
    obtain ⟨p, vs, e2, s, q⟩ := lstA_rel rh r e1
    exact ⟨p, vs, e2, .inl s, q⟩
  · obtain ⟨p, vs, e2, s, q⟩ := tupA_rel r e
    exact ⟨p, vs, e2, .inr s, q⟩
end
@[simp] theorem lstA_tmp (xs : List PV) (h : Hh) : lstA (.tmp xs) h = some xs := rfl
@[simp] theorem lstA_scr (ns : List Int) (h : Hh) : lstA (.val (.scr ns)) h = some (ns.map PV.int) := rfl
@[simp] theorem lstA_tup (xs : List PV) (h : Hh) : lstA (.val (.tup xs)) h = none := rfl
@[simp] theorem lstA_str (xs : List Nat) (h : Hh) : lstA (.val (.str xs)) h = none := rfl
@[simp] theorem lstA_ref {i : Nat} {h : Hh} {xs : List PV} (e : h[i]? = some (.lst xs)) : lstA (.val (.ref i)) h = some xs := by
  simp only [lstA, e]
theorem lstA_dic {i : Nat} {h : Hh} {xs : List (PKey × PV)} (e : h[i]? = some (.dic xs)) : lstA (.val (.ref i)) h = none := by
  simp only [lstA, e]
@[simp] theorem tupA_tup (xs : List PV) : tupA (.val (.tup xs)) = some xs := rfl
/-- all ints, all bools, all texts -/
def intsP : List PV → Option (List Int)
  | [] => some []
  | .int i :: r => (intsP r).map (i :: ·)
  | _ :: _ => none
def blsP : List PV → Option (List Bool)
  | [] => some []
  | .bl i :: r => (blsP r).map (i :: ·)
  | _ :: _ => none
def strsP : List PV → Option (List (List Nat))
  | [] => some []
  | .str i :: r => (strsP r).map (i :: ·)
  | _ :: _ => none
theorem intsP_eq : ∀ {xs : List PV} {ns : List Int}, intsP xs = some ns → xs = ns.map PV.int
  | [], _, e => by cases e; rfl
  | x :: r, ns, e => by
    cases x with
    | int i =>
      have e : (intsP r).map (i :: ·) = some ns := e
      cases e1 : intsP r with
      | none => rw [e1] at e; cases e
      | some ms => rw [e1] at e; cases e; rw [intsP_eq e1]; rfl
    | _ => cases e
theorem blsP_eq : ∀ {xs : List PV} {ns : List Bool}, blsP xs = some ns → xs = ns.map PV.bl
  | [], _, e => by cases e; rfl
  | x :: r, ns, e => by
    cases x with
    | bl i =>
      have e : (blsP r).map (i :: ·) = some ns := e
      cases e1 : blsP r with
      | none => rw [e1] at e; cases e
      | some ms => rw [e1] at e; cases e; rw [blsP_eq e1]; rfl
    | _ => cases e
theorem strsP_eq : ∀ {xs : List PV} {ns : List (List Nat)}, strsP xs = some ns → xs = ns.map PV.str
  | [], _, e => by cases e; rfl
  | x :: r, ns, e => by
    cases x with
    | str i =>
      have e : (strsP r).map (i :: ·) = some ns := e
      cases e1 : strsP r with
      | none => rw [e1] at e; cases e
      | some ms => rw [e1] at e; cases e; rw [strsP_eq e1]; rfl
    | _ => cases e
@[simp] theorem intsP_map : ∀ (ns : List Int), intsP (ns.map PV.int) = some ns
  | [] => rfl
  | n :: ns => by show (intsP (ns.map PV.int)).map (n :: ·) = _; rw [intsP_map ns]; rfl
@[simp] theorem blsP_map : ∀ (ns : List Bool), blsP (ns.map PV.bl) = some ns
  | [] => rfl
  | n :: ns => by show (blsP (ns.map PV.bl)).map (n :: ·) = _; rw [blsP_map ns]; rfl
@[simp] theorem strsP_map : ∀ (ns : List (List Nat)), strsP (ns.map PV.str) = some ns
  | [] => rfl
  | n :: ns => by show (strsP (ns.map PV.str)).map (n :: ·) = _; rw [strsP_map ns]; rfl

/-! ### the judgement -/
abbrev FA (α : Type) := List AV → Hh → Res α
def FnSim {α β : Type} (K : PySem.W.Frag) (R : Wd → Wd → α → β → Prop) (f : FA α) (r : List V → Hp → (β → Hp → Prop) → Prop) : Prop :=
  ∀ (W : WX) (w : Wd) (σ : L2.St) (h : Hh) (as : List AV) (xs : List V) (Q : β → Hp → Prop), RH K w h → RAs1 K w as xs → Post K W w R (f as h) σ Q → r xs w.H Q
@[simp] def eFn {α : Type} (f : FA α) (m : Mv (List AV)) : Mv α := fun s h => (m s h).bind f
section
variable {X : Cx} {W : WX} {x : Str} {p pos : Pos} {e : Expr} {es : List Expr} {id T : String} {r r' : List V → Hp → VK → Prop} {m : Mv (List AV)}
theorem tCB_ok {R : Wd → Wd → PV → V → Prop} (hb : Back X.K R) {f : FA PV} (hf : FnSim X.K R f r) {σ : L2.St} {H : Hp} {Q : VK} (q : tR X.K W R (eFn f m) σ H Q) : tCB r (tR X.K W (Ras X.K) m) σ H Q :=
  tR_bind hb q fun w w' s as xs h' x1 rs rh ra p => hf W w' σ h' as xs Q rh ra p
theorem tCB_okL {f : FA (List PV)} (hf : FnSim X.K (Rl X.K) f r) {σ : L2.St} {H : Hp} {Q : VK} (q : tR X.K W (Rl X.K) (eFn f m) σ H Q) : tCB r (tR X.K W (Ras X.K) m) σ H Q :=
  tR_bind back_l q fun w w' s as xs h' x1 rs rh ra p => hf W w' σ h' as xs Q rh ra p
/-- f(e, ..), f a built-in function; a value -/
theorem se_fnB {f : FA PV} (hc : CallR X (.builtin id) r) (hf : FnSim X.K (Re X.K) f r) (hg : Gl X x) (hm : X.mg x = none) (hv : bootBuiltins x = some (.builtin id)) (ha : SimA X W (e :: es) m) (hn : x ≠ "__name__" := by decide) (hdb : (x == ("__debug__" : Str)) = false := by decide)
    (he : starEach (e :: es) X.env = (false, eval e X.env) :: starEach es X.env := by rfl) (hpl : (backTo pos (starEach es X.env)).any (·.1) = false := by rfl) : SimE X W (.Call (.Name x p) (e :: es) [] pos) (eFn f m) :=
  pe_imp (pe_callB hc hg hm hv ha hn hdb he hpl) fun σ H Q q => tCB_ok back_e hf q
/-- .. a new list -/
theorem sl_fnB {f : FA (List PV)} (hc : CallR X (.builtin id) r) (hf : FnSim X.K (Rl X.K) f r) (hg : Gl X x) (hm : X.mg x = none) (hv : bootBuiltins x = some (.builtin id)) (ha : SimA X W (e :: es) m) (hn : x ≠ "__name__" := by decide) (hdb : (x == ("__debug__" : Str)) = false := by decide)
    (he : starEach (e :: es) X.env = (false, eval e X.env) :: starEach es X.env := by rfl) (hpl : (backTo pos (starEach es X.env)).any (·.1) = false := by rfl) : SimL X W (.Call (.Name x p) (e :: es) [] pos) (eFn f m) :=
  pe_imp (pe_callB hc hg hm hv ha hn hdb he hpl) fun σ H Q q => tCB_okL hf q
/-- T(e, ..) -/
theorem se_fnT {f : FA PV} (hc : CallR X (.type T) r) (hf : FnSim X.K (Re X.K) f r) (hg : Gl X x) (hm : X.mg x = none) (hv : bootBuiltins x = some (.type T)) (ha : SimA X W (e :: es) m) (hn : x ≠ "__name__" := by decide) (hdb : (x == ("__debug__" : Str)) = false := by decide)
    (he : starEach (e :: es) X.env = (false, eval e X.env) :: starEach es X.env := by rfl) (hpl : (backTo pos (starEach es X.env)).any (·.1) = false := by rfl) : SimE X W (.Call (.Name x p) (e :: es) [] pos) (eFn f m) :=
  pe_imp (pe_callTy hc hg hm hv ha hn hdb he hpl) fun σ H Q q => tCB_ok back_e hf q
theorem sl_fnT {f : FA (List PV)} (hc : CallR X (.type T) r) (hf : FnSim X.K (Rl X.K) f r) (hg : Gl X x) (hm : X.mg x = none) (hv : bootBuiltins x = some (.type T)) (ha : SimA X W (e :: es) m) (hn : x ≠ "__name__" := by decide) (hdb : (x == ("__debug__" : Str)) = false := by decide)
    (he : starEach (e :: es) X.env = (false, eval e X.env) :: starEach es X.env := by rfl) (hpl : (backTo pos (starEach es X.env)).any (·.1) = false := by rfl) : SimL X W (.Call (.Name x p) (e :: es) [] pos) (eFn f m) :=
  pe_imp (pe_callTy hc hg hm hv ha hn hdb he hpl) fun σ H Q q => tCB_okL hf q
end

/-! ### len, int, abs, str, ord -/
section
variable {X : Cx}
def fLen : FA PV := fun as h => match as with
  | [a] => (match seqA a h with
    | some xs => .ok (.int xs.length) h
    | none => (match a with
      | .val (.str x) => .guard (x.length ≤ sizeLine) (.ok (.int x.length) h)
      | .val (.ref i) => (match h[i]? with
        | some (.dic kvs) => .ok (.int kvs.length) h
        | _ => .stuck)
      | _ => .stuck))
  | _ => .stuck
def rLen2 (K : PySem.W.Frag) : List V → Hp → VK → Prop := fun xs H Q => (∃ x n, xs = [x] ∧ LenV K x H n ∧ Q (.int n) H) ∨ (∃ a kvs, xs = [V.ref a] ∧ H a = some (.dK kvs) ∧ Q (.int kvs.length) H)
theorem cr_len2 : CallR X (.builtin "len") (rLen2 X.K) := call_len.or call_lenD
theorem fs_len {K : PySem.W.Frag} : FnSim K (Re K) fLen (rLen2 K) := by
  intro W w σ h as xs Q rh ra p
  unfold fLen at p
  split at p
  · rename_i a
    obtain ⟨v, r0, rfl, r1, e0⟩ := ra
    obtain rfl := (show r0 = [] from e0)
    split at p
    · rename_i ys e
      obtain ⟨q, vs, rfl, s, r⟩ := seqA_rel rh r1 e
      refine .inl ⟨_, vs.length, rfl, ?_, ?_⟩
      · rcases s with s | s
        · exact .inl ⟨vs, s, rfl⟩
        · exact .inr ⟨vs, s, rfl⟩
      · rw [r.len]
        exact p.now (x := .int _) rh rfl
    · split at p
      · rename_i y _
        obtain ⟨z, p⟩ := p.of_guard
        cases (show v = V.str _ from r1)
        have e : (⟨y.toArray⟩ : Str).length = y.length := by show Array.size _ = _; simp
        exact .inl ⟨_, y.length, rfl, ⟨by rw [e]; exact z, e.symm⟩, p.now (x := .int _) rh rfl⟩
      · rename_i i _
        split at p
        · rename_i kvs e1
          obtain ⟨hi, rfl⟩ := (show RV K w (.ref i) v from r1)
          obtain ⟨ks, s, r⟩ := rh.dic e1
          refine .inr ⟨_, ks, rfl, s, ?_⟩
          rw [r.len]
          exact p.now (x := .int _) rh rfl
        · exact p.elim
      · exact p.elim
  · exact p.elim
/-- one value to a value, the heap as it is -/
def fV1 (g : PV → Option PV) : FA PV := fun as h => match as with
  | [.val v] => (match g v with
    | some u => .ok u h
    | none => .stuck)
  | _ => .stuck
theorem fs_v1 {K : PySem.W.Frag} {g : PV → Option PV} {r : List V → Hp → VK → Prop} (hg : ∀ w v u x H (Q : VK), RV K w v x → g v = some u → (∀ y, RV K w u y → Q y H) → r [x] H Q) : FnSim K (Re K) (fV1 g) r := by
  intro W w σ h as xs Q rh ra p
  unfold fV1 at p
  split at p
  · rename_i v
    obtain ⟨x, r0, rfl, r1, e0⟩ := ra
    obtain rfl := (show r0 = [] from e0)
    split at p
    · rename_i u eu
      exact hg w v u x w.H Q r1 eu fun y ry => p.now rh ry
    · exact p.elim
  · exact p.elim
def gInt (v : PV) : Option PV := match v with
  | .int i => some (.int i)
  | .bl k => some (.int (if k then 1 else 0))
  | _ => none
theorem fs_int {K : PySem.W.Frag} : FnSim K (Re K) (fV1 gInt) (fun xs H Q => (∃ i, xs = [.int i] ∧ Q (.int i) H) ∨ ∃ k, xs = [.bl k] ∧ Q (.int (if k then 1 else 0)) H) :=
  fs_v1 fun w v u x H Q r e q => by
    cases v with
    | int i => cases e; cases (show x = V.int i from r); exact .inl ⟨i, rfl, q _ rfl⟩
    | bl k => cases e; cases (show x = V.bl k from r); exact .inr ⟨k, rfl, q _ rfl⟩
    | _ => cases e
def gAbs (v : PV) : Option PV := match v with
  | .int i => some (.int (if i < 0 then -i else i))
  | _ => none
theorem fs_abs {K : PySem.W.Frag} : FnSim K (Re K) (fV1 gAbs) (fun xs H Q => ∃ i, xs = [.int i] ∧ Q (.int (if i < 0 then -i else i)) H) :=
  fs_v1 fun w v u x H Q r e q => by
    cases v with
    | int i => cases e; cases (show x = V.int i from r); exact ⟨i, rfl, q _ rfl⟩
    | _ => cases e
def strCodes (s : Str) : List Nat := s.cps.toList
theorem strCodes_eq (s : Str) : (⟨(strCodes s).toArray⟩ : Str) = s := by
  obtain ⟨c⟩ := s
  show (⟨c.toList.toArray⟩ : Str) = _
  simp
def gStr (v : PV) : Option PV := match v with
  | .int i => if i.natAbs.log2 < 1920 then some (.str (strCodes (toString i : String))) else none
  | _ => none
theorem fs_str {K : PySem.W.Frag} : FnSim K (Re K) (fV1 gStr) (fun xs H Q => ∃ i, xs = [.int i] ∧ i.natAbs.log2 < 1920 ∧ Q (.str (toString i)) H) :=
  fs_v1 fun w v u x H Q r e q => by
    cases v with
    | int i =>
      unfold gStr at e
      simp only at e
      split at e
      · rename_i hz
        cases e
        cases (show x = V.int i from r)
        refine ⟨i, rfl, hz, q _ ?_⟩
        show V.str _ = V.str _
        rw [strCodes_eq]
      · cases e
    | _ => cases e
def gOrd (v : PV) : Option PV := match v with
  | .str [c] => some (.int (c : Nat))
  | _ => none
theorem fs_ord {K : PySem.W.Frag} : FnSim K (Re K) (fV1 gOrd) (fun xs H Q => ∃ x, xs = [.str x] ∧ x.length = 1 ∧ Q (.int (x.cps.getD 0 0 : Nat)) H) :=
  fs_v1 fun w v u x H Q r e q => by
    unfold gOrd at e
    split at e
    · cases e
      cases (show x = V.str _ from r)
      exact ⟨_, rfl, rfl, q _ rfl⟩
    · cases e

/-! ### a list to an int, a bool -/
def fSum : FA PV := fun as h => match as with
  | [a] => (match lstA a h with
    | some xs => (match intsP xs with
      | some ns => .ok (.int ns.sum) h
      | none => .stuck)
    | none => .stuck)
  | _ => .stuck
theorem fs_sum {K : PySem.W.Frag} : FnSim K (Re K) fSum (rSum K) := by
  intro W w σ h as xs Q rh ra p
  unfold fSum at p
  split at p
  · obtain ⟨v, r0, rfl, r1, e0⟩ := ra
    obtain rfl := (show r0 = [] from e0)
    split at p
    · rename_i ys e
      obtain ⟨q, vs, rfl, s, r⟩ := lstA_rel rh r1 e
      split at p
      · rename_i ns en
        rw [intsP_eq en] at r
        rw [r.of_ints] at s
        exact ⟨q, ns, rfl, s, p.now (x := .int _) rh rfl⟩
      · exact p.elim
    · exact p.elim
  · exact p.elim
def fAll : FA PV := fun as h => match as with
  | [a] => (match lstA a h with
    | some xs => (match blsP xs with
      | some ns => .ok (.bl (ns.all id)) h
      | none => .stuck)
    | none => .stuck)
  | _ => .stuck
theorem fs_all {K : PySem.W.Frag} : FnSim K (Re K) fAll (rAll K) := by
  intro W w σ h as xs Q rh ra p
  unfold fAll at p
  split at p
  · obtain ⟨v, r0, rfl, r1, e0⟩ := ra
    obtain rfl := (show r0 = [] from e0)
    split at p
    · rename_i ys e
      obtain ⟨q, vs, rfl, s, r⟩ := lstA_rel rh r1 e
      split at p
      · rename_i ns en
        rw [blsP_eq en] at r
        rw [r.of_bls] at s
        exact ⟨q, ns, rfl, s, p.now (x := .bl _) rh rfl⟩
      · exact p.elim
    · exact p.elim
  · exact p.elim
def fAny : FA PV := fun as h => match as with
  | [a] => (match lstA a h with
    | some xs => (match blsP xs with
      | some ns => .ok (.bl (ns.any id)) h
      | none => .stuck)
    | none => .stuck)
  | _ => .stuck
theorem fs_any {K : PySem.W.Frag} : FnSim K (Re K) fAny (rAny K) := by
  intro W w σ h as xs Q rh ra p
  unfold fAny at p
  split at p
  · obtain ⟨v, r0, rfl, r1, e0⟩ := ra
    obtain rfl := (show r0 = [] from e0)
    split at p
    · rename_i ys e
      obtain ⟨q, vs, rfl, s, r⟩ := lstA_rel rh r1 e
      split at p
      · rename_i ns en
        rw [blsP_eq en] at r
        rw [r.of_bls] at s
        exact ⟨q, ns, rfl, s, p.now (x := .bl _) rh rfl⟩
      · exact p.elim
    · exact p.elim
  · exact p.elim
def maxI : List Int → Int
  | [] => 0
  | n :: ns => ns.foldl (fun a b => if a < b then b else a) n
def minI : List Int → Int
  | [] => 0
  | n :: ns => ns.foldl (fun a b => if b < a then b else a) n
theorem foldMax (n : Int) : ∀ (ns : List Int) (m : Int), (m ∈ n :: ns) → (∀ y ∈ n :: ns, y ≤ m) → ns.foldl (fun a b => if a < b then b else a) n = m := by
  intro ns
  induction ns generalizing n with
  | nil => intro m h1 h2; simpa using (List.mem_singleton.mp h1).symm
  | cons b r ih =>
    intro m h1 h2
    show r.foldl _ (if n < b then b else n) = m
    refine ih _ m ?_ ?_
    · rcases List.mem_cons.mp h1 with e | e
      · subst e
        have := h2 b (by simp)
        by_cases hb : m < b
        · omega
        · rw [if_neg hb]; exact List.mem_cons_self
      · rcases List.mem_cons.mp e with e | e
        · subst e
          have := h2 n (by simp)
          by_cases hb : n < m
          · rw [if_pos hb]; exact List.mem_cons_self
          · rw [if_neg hb]; have : n = m := by omega
            rw [this]; exact List.mem_cons_self
        · exact List.mem_cons_of_mem _ e
    · intro y hy
      rcases List.mem_cons.mp hy with e | e
      · subst e
        split
        · exact h2 _ (by simp)
        · exact h2 _ (by simp)
      · exact h2 _ (by simp [e])
theorem foldMin (n : Int) : ∀ (ns : List Int) (m : Int), (m ∈ n :: ns) → (∀ y ∈ n :: ns, m ≤ y) → ns.foldl (fun a b => if b < a then b else a) n = m := by
  intro ns
  induction ns generalizing n with
  | nil => intro m h1 h2; simpa using (List.mem_singleton.mp h1).symm
  | cons b r ih =>
    intro m h1 h2
    show r.foldl _ (if b < n then b else n) = m
    refine ih _ m ?_ ?_
    · rcases List.mem_cons.mp h1 with e | e
      · subst e
        have := h2 b (by simp)
        by_cases hb : b < m
        · omega
        · rw [if_neg hb]; exact List.mem_cons_self
      · rcases List.mem_cons.mp e with e | e
        · subst e
          have := h2 n (by simp)
          by_cases hb : m < n
          · rw [if_pos hb]; exact List.mem_cons_self
          · rw [if_neg hb]; have : n = m := by omega
            rw [this]; exact List.mem_cons_self
        · exact List.mem_cons_of_mem _ e
    · intro y hy
      rcases List.mem_cons.mp hy with e | e
      · subst e
        split
        · exact h2 _ (by simp)
        · exact h2 _ (by simp)
      · exact h2 _ (by simp [e])
/-- max(xs), max(i, j) -/
def fMax : FA PV := fun as h => match as with
  | [a] => (match lstA a h with
    | some xs => (match intsP xs with
      | some ns => .guard (0 < ns.length) (.ok (.int (maxI ns)) h)
      | none => .stuck)
    | none => .stuck)
  | [.val (.int i), .val (.int j)] => .ok (.int (if j > i then j else i)) h
  | _ => .stuck
def fMin : FA PV := fun as h => match as with
  | [a] => (match lstA a h with
    | some xs => (match intsP xs with
      | some ns => .guard (0 < ns.length) (.ok (.int (minI ns)) h)
      | none => .stuck)
    | none => .stuck)
  | [.val (.int i), .val (.int j)] => .ok (.int (if j < i then j else i)) h
  | _ => .stuck
def rMaxB (K : PySem.W.Frag) : List V → Hp → VK → Prop := fun xs H Q => rMax K xs H Q ∨ (∃ i j, xs = [.int i, .int j] ∧ Q (.int (if j > i then j else i)) H)
def rMinB (K : PySem.W.Frag) : List V → Hp → VK → Prop := fun xs H Q => rMin K xs H Q ∨ (∃ i j, xs = [.int i, .int j] ∧ Q (.int (if j < i then j else i)) H)
theorem cr_maxB (hc : X.calm = true) : CallR X (.builtin "max") (rMaxB X.K) := (cr_max hc).or (call_max2 hc)
theorem cr_minB (hc : X.calm = true) : CallR X (.builtin "min") (rMinB X.K) := (cr_min hc).or (call_min2 hc)
theorem fs_max {K : PySem.W.Frag} : FnSim K (Re K) fMax (rMaxB K) := by
  intro W w σ h as xs Q rh ra p
  unfold fMax at p
  split at p
  · obtain ⟨v, r0, rfl, r1, e0⟩ := ra
    obtain rfl := (show r0 = [] from e0)
    split at p
    · rename_i ys e
      obtain ⟨q, vs, rfl, s, r⟩ := lstA_rel rh r1 e
      split at p
      · rename_i ns en
        rw [intsP_eq en] at r
        rw [r.of_ints] at s
        obtain ⟨z, p⟩ := p.of_guard
        refine .inl ⟨q, ns, rfl, s, z, fun m hm hy => ?_⟩
        cases ns with
        | nil => cases hm
        | cons n ns =>
          have e := foldMax n ns m hm hy
          rw [show maxI (n :: ns) = m from e] at p
          exact p.now (x := .int _) rh rfl
      · exact p.elim
    · exact p.elim
  · obtain ⟨v, r0, rfl, r1, v2, r2, rfl, r3, e0⟩ := ra
    obtain rfl := (show r2 = [] from e0)
    cases (show v = V.int _ from r1)
    cases (show v2 = V.int _ from r3)
    exact .inr ⟨_, _, rfl, p.now (x := .int _) rh rfl⟩
  · exact p.elim
theorem fs_min {K : PySem.W.Frag} : FnSim K (Re K) fMin (rMinB K) := by
  intro W w σ h as xs Q rh ra p
  unfold fMin at p
  split at p
  · obtain ⟨v, r0, rfl, r1, e0⟩ := ra
    obtain rfl := (show r0 = [] from e0)
    split at p
    · rename_i ys e
      obtain ⟨q, vs, rfl, s, r⟩ := lstA_rel rh r1 e
      split at p
      · rename_i ns en
        rw [intsP_eq en] at r
        rw [r.of_ints] at s
        obtain ⟨z, p⟩ := p.of_guard
        refine .inl ⟨q, ns, rfl, s, z, fun m hm hy => ?_⟩
        cases ns with
        | nil => cases hm
        | cons n ns =>
          have e := foldMin n ns m hm hy
          rw [show minI (n :: ns) = m from e] at p
          exact p.now (x := .int _) rh rfl
      · exact p.elim
    · exact p.elim
  · obtain ⟨v, r0, rfl, r1, v2, r2, rfl, r3, e0⟩ := ra
    obtain rfl := (show r2 = [] from e0)
    cases (show v = V.int _ from r1)
    cases (show v2 = V.int _ from r3)
    exact .inr ⟨_, _, rfl, p.now (x := .int _) rh rfl⟩
  · exact p.elim

/-! ### list(x), tuple(x) -/
/-- a new list, as the abstract heap has it -/
theorem post_rl {K : PySem.W.Frag} {W : WX} {w : Wd} {h : Hh} {σ : L2.St} {Q : VK} {xs : List PV} {vs : List V} (rh : RH K w h) (r : RVs K w xs vs) (p : Post K W w (Rl K) (.ok xs h) σ Q) : ∀ q, w.H q = none → Q (.ref q) (upd w.H q (.lst vs)) :=
  fun q hq => post_tmp (w0 := w) rh r p hq
def keyP : PKey → PV
  | .inl i => .int i
  | .inr x => .str x
theorem keys_rel {K : PySem.W.Frag} {w : Wd} : ∀ {kvs : List (PKey × PV)} {ks : List (Key × V)}, RKs K w kvs ks → RVs K w (kvs.map fun kv => keyP kv.1) (ks.map fun kv => kV kv.1)
  | [], _, h => by rw [show _ = [] from h]; exact rfl
  | (k, v) :: r, _, h => by
    obtain ⟨u, ks, rfl, _, h2⟩ := h
    refine ⟨_, _, rfl, ?_, keys_rel h2⟩
    cases k with
    | inl i => rfl
    | inr x => rfl
def fList : FA (List PV) := fun as h => match as with
  | [a] => (match seqA a h with
    | some xs => .ok xs h
    | none => (match a with
      | .val (.str x) => .guard (x.length ≤ sizeLine) (.ok (x.map fun c => .str [c]) h)
      | .val (.ref i) => (match h[i]? with
        | some (.dic kvs) => .ok (kvs.map fun kv => keyP kv.1) h
        | _ => .stuck)
      | _ => .stuck))
  | _ => .stuck
/-- list(a text) -/
def rListS : List V → Hp → VK → Prop := fun xs H Q => ∃ z : Str, xs = [.str z] ∧ z.cps.size ≤ sizeLine ∧ ∀ l, H l = none → Q (.ref l) (upd H l (.lst (z.cps.toList.map fun c => V.str ⟨#[c]⟩)))
theorem call_list_text (hc : X.calm = true) : CallR X (.type "list") rListS := by
  intro pins s σ H xs us Q I r h
  obtain ⟨z, rfl, hz, q⟩ := h
  obtain ⟨u, rfl, t, rfl⟩ := vals1 r
  refine PySem.call_list_str (I.ok.hd hc) z t (fun h' tk acc' c' hk hS hacc => ?_) hz
  refine ⟨.ref s.heap.objs.size, upd H s.heap.objs.size (.lst (z.cps.toList.map fun c => V.str ⟨#[c]⟩)), I.laid hk (Nat.le_refl _) (show ObjOk X.prog X.w _ h' _ (.lst (z.cps.toList.map fun c => V.str ⟨#[c]⟩)) from ⟨?_, acc'.toList, c', ?_, ?_⟩), rfl, q _ (I.hok.fresh (Nat.le_refl _))⟩
  · simpa using hz
  · have el : acc'.toList.length = acc'.size := by simp
    refine vals_of_at (by rw [List.length_map, el, hacc.1]; simp) fun j x w h1 h2 => ?_
    obtain ⟨c, t', hi, rfl⟩ := hacc.2 j w (by rw [← Array.getElem?_toList]; exact h2)
    rw [List.getElem?_map, Array.getElem?_toList, hi] at h1
    cases h1
    exact ⟨t', rfl⟩
  · rw [Array.toArray_toList]; exact hS
def rList2 (K : PySem.W.Frag) : List V → Hp → VK → Prop := fun xs H Q => (∃ p ys, xs = [.ref p] ∧ (SqL K H p ys ∨ SqT K H p ys) ∧ ∀ l, H l = none → Q (.ref l) (upd H l (.lst ys))) ∨ (rListS xs H Q ∨ rListD xs H Q)
theorem cr_list2 (hc : X.calm = true) : CallR X (.type "list") (rList2 X.K) := call_list_of.or ((call_list_text hc).or (call_list_dK hc))
theorem fs_list {K : PySem.W.Frag} : FnSim K (Rl K) fList (rList2 K) := by
  intro W w σ h as xs Q rh ra p
  unfold fList at p
  split at p
  · obtain ⟨v, r0, rfl, r1, e0⟩ := ra
    obtain rfl := (show r0 = [] from e0)
    split at p
    · rename_i ys e
      obtain ⟨q, vs, rfl, s, r⟩ := seqA_rel rh r1 e
      exact .inl ⟨q, vs, rfl, s, post_rl rh r p⟩
    · split at p
      · rename_i x _
        obtain ⟨hz, p⟩ := Post.of_guard p
        have ev : v = .str ⟨x.toArray⟩ := r1
        subst ev
        refine .inr (.inl ⟨_, rfl, by simpa using hz, post_rl (xs := x.map fun c => .str [c]) rh ?_ p⟩)
        have go : ∀ x : List Nat, RVs K w (x.map fun c => PV.str [c]) (x.map fun c => V.str ⟨#[c]⟩) := fun x => by
          induction x with
          | nil => exact rfl
          | cons c r ih => exact ⟨_, _, rfl, rfl, ih⟩
        exact go x
      · rename_i i _
        split at p
        · rename_i kvs e1
          obtain ⟨hi, rfl⟩ := (show RV K w (.ref i) v from r1)
          obtain ⟨ks, s, r⟩ := rh.dic e1
          exact .inr (.inr ⟨_, ks, rfl, s, post_rl rh (keys_rel r) p⟩)
        · exact p.elim
      · exact p.elim
  · exact p.elim
def fTuple : FA PV := fun as h => match as with
  | [a] => (match seqA a h with
    | some xs => .ok (.tup xs) h
    | none => .stuck)
  | _ => .stuck
theorem fs_tuple {K : PySem.W.Frag} : FnSim K (Re K) fTuple (rTupN K) := by
  intro W w σ h as xs Q rh ra p
  unfold fTuple at p
  split at p
  · obtain ⟨v, r0, rfl, r1, e0⟩ := ra
    obtain rfl := (show r0 = [] from e0)
    split at p
    · rename_i ys e
      unfold seqA at e
      split at e
      · rename_i e1
        cases e
        obtain ⟨q, vs, rfl, s, r⟩ := lstA_rel rh r1 e1
        exact ⟨q, vs, rfl, .inl ⟨s, post_newT rh r p⟩⟩
      · obtain ⟨q, vs, rfl, s, r⟩ := tupA_new r1 e
        exact ⟨q, vs, rfl, .inr ⟨s.sq, p.now (x := .ref q) rh ⟨q, vs, rfl, s, r⟩⟩⟩
    · exact p.elim
  · exact p.elim
end
end U
set_option Elab.async false
set_option linter.all false
set_option maxRecDepth 100000
set_option maxHeartbeats 2000000
/-! The generic layer, part 13: isinstance. -/
namespace U
open PySem PySem.Spec PyProof.Rows L2
variable [Tab]
/-- a class: a built-in type, or an own one by its number -/
inductive CD where
  | ty (n : String) | own (c : Nat)
  deriving DecidableEq
def cdV (K : PySem.W.Frag) : CD → V
  | .ty n => .ty n
  | .own c => .ref (He.ga K (cN c))
def cdU (K : PySem.W.Frag) : CD → Value
  | .ty n => .type n
  | .own c => .ref (He.ga K (cN c))
theorem cd_cls (K : PySem.W.Frag) : ∀ c : CD, ClsV (cdV K c) (cdU K c)
  | .ty n => .ty n
  | .own c => .own _
def tyA (a : AV) (h : Hh) : Option CD := match a with
  | .tmp _ => some (.ty "list")
  | .val .non => some (.ty "NoneType")
  | .val (.bl _) => some (.ty "bool")
  | .val (.int _) => some (.ty "int")
  | .val (.str _) => some (.ty "str")
  | .val (.tup _) => some (.ty "tuple")
  | .val (.scr _) => some (.ty "list")
  | .val (.ref i) => (match h[i]? with
    | some (.lst _) => some (.ty "list")
    | some (.dic _) => some (.ty "dict")
    | some (.dif _) => some (.ty "dict")
    | some (.ins c _) => some (.own c)
    | none => none)
theorem tyA_rel {K : PySem.W.Frag} {w : Wd} {h : Hh} (rh : RH K w h) {a : AV} {x : V} (r : RA1 K w a x) {t : CD} (e : tyA a h = some t) : TyX K w.H x (cdU K t) := by
  cases a with
  | tmp xs =>
    cases e
    obtain ⟨p, vs, rfl, r⟩ := r
    exact .base (.lst r.at_)
  | val v =>
    cases v with
    | non => cases e; cases (show x = V.non from r); exact .base .non
    | bl b => cases e; cases (show x = V.bl b from r); exact .base (.bl b)
    | int i => cases e; cases (show x = V.int i from r); exact .base (.int i)
    | str y => cases e; cases (show x = V.str _ from r); exact .base (.str _)
    | tup xs =>
      cases e
      obtain ⟨p, vs, rfl, s, _⟩ := r
      rcases s.sq with (s | ⟨o, s⟩) | ⟨o, its, n, s, hc, _⟩
      · exact .base (.tup s)
      · exact .fTuple s
      · exact .kTuple s hc
    | scr ns =>
      cases e
      obtain ⟨p, rfl, s⟩ := r
      rcases s with ⟨o, s⟩ | ⟨o, its, n, s, hc, _⟩
      · exact .base (.frz s)
      · exact .kList s hc
    | ref i =>
      obtain ⟨hi, rfl⟩ := r
      unfold tyA at e
      simp only at e
      split at e
      · rename_i e1
        cases e
        obtain ⟨vs, s, _⟩ := rh.lst e1
        exact .base (.lst s)
      · rename_i e1
        cases e
        obtain ⟨vs, s, _⟩ := rh.dic e1
        exact .base (.dK s)
      · rename_i e1
        cases e
        obtain ⟨o, vs, s, _⟩ := rh.dif e1
        exact .fDict s
      · rename_i e1
        cases e
        obtain ⟨dx, gs, s, ri⟩ := rh.ins e1
        exact .base (.ins s ri.cf.cls ri.cf.ha ri.cf.hn ri.cf.htk ri.cf.hm)
      · cases e
def anySub (sub : CD → CD → Option Bool) (t : CD) : List CD → Option Bool
  | [] => some false
  | c :: cs => match sub t c with
    | some true => some true
    | some false => anySub sub t cs
    | none => none
/-- what the classes' table says is so -/
def SubOk (K : PySem.W.Frag) (sub : CD → CD → Option Bool) (c : CD) : Prop := ∀ t b, sub t c = some b → PySem.W.kitOne K (cdU K t) (cdU K c) = some b
theorem any_ok {K : PySem.W.Frag} {sub : CD → CD → Option Bool} {t : CD} : ∀ {cs : List CD} {b : Bool}, (∀ c ∈ cs, SubOk K sub c) → anySub sub t cs = some b → PySem.W.kitAny K (cdU K t) (cs.map (cdU K)) = some b
  | [], b, _, e => by cases e; rfl
  | c :: cs, b, hs, e => by
    unfold anySub at e
    split at e
    · rename_i e1
      cases e
      exact kitAny_cons (hs c List.mem_cons_self t true e1) (fun z => nomatch z) fun _ => rfl
    · rename_i e1
      exact kitAny_cons (hs c List.mem_cons_self t false e1) (fun _ => any_ok (fun d hd => hs d (List.mem_cons_of_mem _ hd)) e) fun z => nomatch z
    · cases e
def isiA (sub : CD → CD → Option Bool) (cs : List CD) (a : AV) (h : Hh) : Res PV := match tyA a h with
  | some t => (match anySub sub t cs with
    | some b => .ok (.bl b) h
    | none => .stuck)
  | none => .stuck
@[simp] def eIsi (sub : CD → CD → Option Bool) (cs : List CD) (m : Mv AV) : Ev := fun s h => (m s h).bind (isiA sub cs)
def tCDs (K : PySem.W.Frag) : List CD → TA
  | [] => tNil
  | c :: cs => tCons (tC (cdV K c)) (tCDs K cs)
theorem tCDs_eq {K : PySem.W.Frag} {σ : L2.St} {H : Hp} : ∀ {cs : List CD} {Q : List V → Hp → Prop}, Q (cs.map (cdV K)) H → tCDs K cs σ H Q
  | [], _, q => q
  | c :: cs, Q, q => by
    show tCDs K cs σ H fun xs H2 => Q (cdV K c :: xs) H2
    exact tCDs_eq q
theorem all_cls (K : PySem.W.Frag) : ∀ cs : List CD, Paired ClsV (cs.map (cdV K)) (cs.map (cdU K))
  | [] => .nil
  | c :: cs => .cons (cd_cls K c) (all_cls K cs)
section
variable {X : Cx} {W : WX} {e c : Expr} {es : List Expr} {p pos tp : Pos} {sub : CD → CD → Option Bool} {m : Mv AV}
theorem boot_isi : bootBuiltins "isinstance" = some (.builtin "isinstance") := by decide +kernel
/-- isinstance(e, C) -/
theorem se_isi {cd : CD} (hg : Gl X "isinstance") (hm : X.mg "isinstance" = none) (hs : SubOk X.K sub cd) (he : SimV X W e m) (hc : PE X c (tC (cdV X.K cd)))
    (hst : starEach (e :: [c]) X.env = (false, eval e X.env) :: starEach [c] X.env := by rfl) (hst2 : starEach (c :: []) X.env = (false, eval c X.env) :: starEach [] X.env := by rfl) (hpl : (backTo pos (starEach [c] X.env)).any (·.1) = false := by rfl) :
    SimE X W (.Call (.Name "isinstance" p) [e, c] [] pos) (eIsi sub [cd] m) :=
  pe_imp (pe_callB call_isi hg hm boot_isi (pa_cons he (pa_cons hc pa_nil hst2) hst) (by decide) (by decide) hst hpl) fun σ H Q q => tR_bind back_e q fun w w' s a x h' x1 rs rh ra pp => by
    unfold isiA at pp
    split at pp
    · rename_i t et
      split at pp
      · rename_i b eb
        refine ⟨x, cdV X.K cd, cdU X.K t, cdU X.K cd, b, rfl, cd_cls _ _, tyA_rel rh ra et, ?_, pp.now (x := .bl b) rh rfl⟩
        unfold anySub at eb
        split at eb
        · rename_i e1; cases eb; exact hs t true e1
        · rename_i e1; cases eb; exact hs t false e1
        · cases eb
      · exact pp.elim
    · exact pp.elim
/-- isinstance(e, (C, D, ..)) -/
theorem se_isiT {cs : List CD} {k : Nat} (hg : Gl X "isinstance") (hm : X.mg "isinstance" = none) (hs : ∀ c ∈ cs, SubOk X.K sub c) (he : SimV X W e m) (hc : PA X es (tCDs X.K cs)) (hz : cs.length ≤ sizeLine)
    (hst : starEach (e :: [.Tuple es k tp]) X.env = (false, eval e X.env) :: starEach [.Tuple es k tp] X.env := by rfl) (hst2 : starEach (.Tuple es k tp :: []) X.env = (false, eval (.Tuple es k tp) X.env) :: starEach [] X.env := by rfl)
    (hpl : (backTo pos (starEach [.Tuple es k tp] X.env)).any (·.1) = false := by rfl) :
    SimE X W (.Call (.Name "isinstance" p) [e, .Tuple es k tp] [] pos) (eIsi sub cs m) :=
  pe_imp (pe_callB call_isiT hg hm boot_isi (pa_cons he (pa_cons (pe_tup hc) pa_nil hst2) hst) (by decide) (by decide) hst hpl) fun σ H Q q => tR_bind back_e q fun w w' s a x h' x1 rs rh ra pp => by
    refine tCDs_eq ⟨by rw [List.length_map]; exact hz, fun q hq => ?_⟩
    unfold isiA at pp
    split at pp
    · rename_i t et
      split at pp
      · rename_i b eb
        have x2 : Ext X.K w' { w' with H := upd w'.H q (.tup (cs.map (cdV X.K))) } := Ext.grow (grow_upd hq)
        refine ⟨x, q, cs.map (cdV X.K), cdU X.K t, cs.map (cdU X.K), b, rfl, upd_same, all_cls _ cs, tyA_rel (rh.grow (grow_upd hq)) (RA1.ext x2 ra) et, any_ok hs eb, ?_⟩
        exact pp _ (.bl b) x2 (rh.grow (grow_upd hq)) rfl
      · exact pp.elim
    · exact pp.elim
/-- a class by its name -/
theorem pe_tyN {x : Str} {T : String} {pos : Pos} (hg : Gl X x) (hm : X.mg x = none) (hv : bootBuiltins x = some (.type T)) (hn : x ≠ "__name__" := by decide) (hd : (x == ("__debug__" : Str)) = false := by decide) : PE X (.Name x pos) (tC (cdV X.K (.ty T))) := by
  refine ⟨fun pins s σ H Q I h => ?_⟩
  exact ld_blt I hg hm hv ⟨.ty T, H, I, rfl, h⟩ hn hd
theorem pe_ownN {x : Str} {cn : Nat} {pos : Pos} (hg : Gl X x) (hm : X.mg x = some (.ref (He.ga X.K (cN cn)))) (hd : (x == ("__debug__" : Str)) = false := by decide) : PE X (.Name x pos) (tC (cdV X.K (.own cn))) :=
  pe_glob hg hm rfl hd
end
/-- the built-in classes among themselves -/
def subB (a b : String) : Option Bool := if a = b then some true else match b with
  | "int" => if a = "bool" then some true else if a ∈ ["NoneType", "str", "tuple", "list", "dict"] then some false else none
  | "bool" | "str" | "tuple" | "list" | "dict" => if a ∈ ["NoneType", "bool", "int", "str", "tuple", "list", "dict"] then some false else none
  | _ => none
def tyNames : List String := ["NoneType", "bool", "int", "str", "tuple", "list", "dict"]
theorem subB_tab : (tyNames.all fun a => tyNames.all fun b => match subB a b with
  | some r => kitB a b == some r
  | none => true) = true := by decide +kernel
theorem subB_ok {K : PySem.W.Frag} {a b : String} {r : Bool} (ha : a ∈ tyNames) (hb : b ∈ tyNames) (e : subB a b = some r) : PySem.W.kitOne K (.type a) (.type b) = some r := by
  have h := List.all_eq_true.mp (List.all_eq_true.mp subB_tab a ha) b hb
  rw [e] at h
  exact kit_ty (beq_iff_eq.mp h)
end U
set_option Elab.async false
set_option linter.all false
set_option maxRecDepth 100000
set_option maxHeartbeats 2000000
/-! The generic layer, part 14: methods of lists, dicts, texts. -/
namespace HT
open PySem PySem.Spec PySem.AutoSeq1
theorem list_extend_tupleA (l : Addr) (items : Array Value) (n : Nat) (b : Addr) (items2 : Array Value) (n2 : Nat) (dd : Option Addr) (sl : Array (Option Value)) (hs0 : ¬(!items.isEmpty && Builtin.List.listTooLong (items.size + items2.size)) = true) (hs1 : items.size ≤ sizeLine) (hs2 : items.size + items2.size ≤ sizeLine + 1) :
    Meets (Builtin.«list.extend» ⟨[.ref l, .ref b], []⟩) (fun _ R s => s.heap.get? l = some { cls := .type "list", dict := none, data := .seq items n, slots := #[] } ∧ s.heap.get? b = some { cls := .type "tuple", dict := dd, data := .seq items2 n2, slots := sl } ∧ R (.ok (.ret Value.none)) { s with heap := s.heap.update l (Obj.mapSeq fun x => x ++ items2), toks := s.toks }) :=
  .of_wp fun prog w A R s h => by
    obtain ⟨hp, g, d, tk, os⟩ := s; obtain ⟨hl, hb, h⟩ := h; have f1 := idx_int; have f2 := sub_tuple_tuple; have f3 := sub_list_list; have f4 := sub_tuple_list; have f5 := sub_list_tuple;
    have hz' : (items ++ items2).size ≤ sizeLine + 1 := by rw [Array.size_append]; exact hs2
    wp_walk using (wpAny_updateSeq hl rfl (hz := hs1) (_hz' := hz')), wpAny_loadPart' hl, wpAny_loadPart' hb; exact ⟨_, rfl, h⟩
end HT
namespace L2
open PySem PySem.Spec PyProof.Rows
section
variable {X : Cx}
def rExtendT (K : PySem.W.Frag) : V → List V → Hp → VK → Prop := fun x vs H Q => ∃ l b xs zs, x = .ref l ∧ vs = [.ref b] ∧ H l = some (.lst xs) ∧ SqT K H b zs ∧ xs.length + zs.length ≤ sizeLine ∧ Q .non (upd H l (.lst (xs ++ zs)))
theorem mt_extendT : MtR X "list.extend" (rExtendT X.K) := by
  intro pins s σ H x vs v us Q I rx rv h
  obtain ⟨l, b, xs, zs, rfl, rfl, hH, hB, hz, q⟩ := h
  cases rx
  obtain ⟨u, rfl, ru⟩ := rv.one
  cases ru
  obtain ⟨z, its, n, r, hl, e⟩ := I.lstM hH
  obtain ⟨its2, r2, ht, hz2⟩ := I.tuple hB
  obtain ⟨⟨cls, dd, data, sl⟩, ho, hc, n2, hd⟩ := ht
  simp only at hc hd
  subst hc hd
  have hl2 := r2.length
  have hsz : its.toArray.size + its2.toArray.size ≤ sizeLine := by rw [List.size_toArray, List.size_toArray]; omega
  have hlong : ¬ (!its.toArray.isEmpty && Builtin.List.listTooLong (its.toArray.size + its2.toArray.size)) = true := by
    rw [notLongL hsz, Bool.and_false]
    exact Bool.false_ne_true
  refine call_meets F.slot_list_extend ⟨_, e, rfl⟩ F.entry_list_extend (F.args_list_extend_2 _ _)
    (HT.list_extend_tupleA l its.toArray n b its2.toArray n2 dd sl hlong (by rw [List.size_toArray]; omega) (by omega)) ⟨e, ho, ?_⟩
  refine ⟨.non, _, I.lset (its' := its ++ its2) hH e (by simp) (r.append r2) ?_, rfl, q⟩
  rw [List.length_append]
  omega
/-- l.count(x), data of any depth -/
def rCountD (K : PySem.W.Frag) : V → List V → Hp → VK → Prop := fun x xs H Q => ∃ (a : Addr) (y : V) (d : PyData) (ds : List PyData), x = V.ref a ∧ xs = [y] ∧ Dp K H (V.ref a) (.list ds) ∧ Dp K H y d ∧
  SeqAt.shaped (.list ds) = true ∧ SeqAt.shaped d = true ∧ Q (.int (ds.countP fun z => PyData.eqv z d : Nat)) H
theorem mt_countD (hu : X.A.units + 65 < cLine) : MtR X "list.count" (rCountD X.K) := by
  intro pins s σ H x xs v us Q I rx rxs h
  obtain ⟨a, y, d, ds, rfl, rfl, hl, hy, sl, sd, q⟩ := h
  cases rx
  cases rxs with
  | cons ry rt =>
    rename_i uy ut
    cases rt
    obtain ⟨bs, r1⟩ := Dp.reads I d y uy hy ry
    have hxs : PyData.canLayAll0 ds = true := SeqAt.canLay_of_shaped sl
    have hroom : X.A.units + 1 + min (PyData.depthAll ds) d.depth < cLine := room_in_shaped sd hu
    cases hl with
    | lst hs ha =>
      obtain ⟨its, rv, ⟨⟨cls, dd, data, sls⟩, n, ho, hc, hdn, hdt⟩, hlen⟩ := I.list hs
      simp only at hc hdt
      subst hc hdt
      obtain ⟨as, h4⟩ := Dp.readsAll I ds _ its ha rv
      have hmap : its.map (SeqAt.readOf s.heap) = ds := SeqAt.readsAll_map ds its as hxs h4
      refine call_meets PySem.F.slot_list_count ⟨_, ho, rfl⟩ PySem.F.entry_list_count (PySem.F.args_list_count_2 _ _)
        (SeqAt.list_countAt a its.toArray n dd sls uy (fun u => PyData.eqv (SeqAt.readOf s.heap u) d)) ⟨ho, SeqAt.items_eqAt (vs := its.toArray) (show ReadsAll s.heap its.toArray.toList ds as from h4) r1 hxs (SeqAt.canLay_of_shaped sd) hroom, ?_⟩
      refine ⟨.int (ds.countP fun z => PyData.eqv z d : Nat), H, I.tok _, ⟨s.toks, ?_⟩, q⟩
      have e : its.toArray.toList.countP (fun u => PyData.eqv (SeqAt.readOf s.heap u) d) = ds.countP fun z => PyData.eqv z d := by
        rw [← hmap, List.countP_map]
        rfl
      show Value.int ((its.toArray.toList.countP fun u => PyData.eqv (SeqAt.readOf s.heap u) d : Nat) : Int) s.toks = _
      rw [e]
end
end L2
namespace U
open PySem PySem.Spec PyProof.Rows L2
variable [Tab]
abbrev FM := PV → List AV → Hh → Res PV
def MtSim (K : PySem.W.Frag) (f : FM) (r : V → List V → Hp → VK → Prop) : Prop :=
  ∀ (W : WX) (w : Wd) (σ : L2.St) (h : Hh) (v : PV) (as : List AV) (x : V) (xs : List V) (Q : VK), RH K w h → RV K w v x → RAs1 K w as xs → Post K W w (Re K) (f v as h) σ Q → r x xs w.H Q
/-- the receiver -/
inductive Kd where
  | lst | dic | str
def Kd.name : Kd → String
  | .lst => "list"
  | .dic => "dict"
  | .str => "str"
def Kd.chk (k : Kd) (v : PV) (h : Hh) : Bool := match k, v with
  | .lst, .scr _ => true
  | .lst, .ref i => (match h[i]? with
    | some (.lst _) => true
    | _ => false)
  | .dic, .ref i => (match h[i]? with
    | some (.dic _) => true
    | _ => false)
  | .str, .str _ => true
  | _, _ => false
@[simp] theorem chk_lst {i : Nat} {h : Hh} {xs : List PV} (e : h[i]? = some (.lst xs)) : Kd.chk .lst (.ref i) h = true := by simp only [Kd.chk, e]
@[simp] theorem chk_dic {i : Nat} {h : Hh} {xs : List (PKey × PV)} (e : h[i]? = some (.dic xs)) : Kd.chk .dic (.ref i) h = true := by simp only [Kd.chk, e]
@[simp] theorem chk_str {x : List Nat} {h : Hh} : Kd.chk .str (.str x) h = true := rfl
theorem chk_ty {K : PySem.W.Frag} {w : Wd} {h : Hh} {k : Kd} {v : PV} {x : V} (rh : RH K w h) (r : RV K w v x) (e : k.chk v h = true) : tyV K k.name x w.H := by
  unfold Kd.chk at e
  split at e
  · obtain ⟨a, rfl, s⟩ := r
    exact .inl ⟨rfl, _, s.sq⟩
  · obtain ⟨hi, rfl⟩ := r
    split at e
    · rename_i e1
      obtain ⟨vs, s, _⟩ := rh.lst e1
      exact .inl ⟨rfl, vs, SqL.of s⟩
    · cases e
  · obtain ⟨hi, rfl⟩ := r
    split at e
    · rename_i e1
      obtain ⟨vs, s, _⟩ := rh.dic e1
      exact .inr (.inr (.inl ⟨rfl, .inl ⟨vs, s⟩⟩))
    · cases e
  · cases (show x = V.str _ from r)
    rfl
  · cases e
@[simp] def eMt (k : Kd) (f : FM) (mo : Ev) (m : Mv (List AV)) : Ev := fun s h => (mo s h).bind fun v h => if k.chk v h = true then (m s h).bind fun as h => f v as h else .stuck
section
variable {X : Cx} {W : WX} {o e : Expr} {es : List Expr} {name : Str} {apos cpos : Pos} {id : String} {r : V → List V → Hp → VK → Prop} {mo : Ev} {m : Mv (List AV)} {f : FM} {k : Kd}
theorem se_bm (pa : PlainAttrs k.name) (slot : Slot k.name name id) (hty : typeOf (.builtin id) = pure (.type "method_descriptor")) (hm : MtR X id r) (hf : MtSim X.K f r) (ho : SimE X W o mo) (ha : SimA X W (e :: es) m)
    (hbase : attributeBase o name X.env (eval o X.env) = eval o X.env := by rfl)
    (hfew : ((backTo cpos (starEach (e :: es) X.env)).all (fun x => !x.1) && (backToKw cpos (keywordEach [] X.env)).all (fun x => x.1.isSome)
      && decide ((e :: es).length + ([] : List Keyword).length + (if ([] : List Keyword).isEmpty then 0 else 1) < 30)) = true := by rfl)
    (hline : (apos.endLine == cpos.line) = true := by rfl) (hs : starEach (e :: es) X.env = (false, eval e X.env) :: starEach es X.env := by rfl) (hplain : (backTo cpos (starEach es X.env)).any (·.1) = false := by rfl) :
    SimE X W (.Call (.Attribute o name apos) (e :: es) [] cpos) (eMt k f mo m) :=
  pe_imp (pe_bm pa slot hty hm ho ha hbase hfew hline hs hplain) fun σ H Q q => tR_bind back_e q fun w w1 s v x h1 x1 rs rh rv p => by
    split at p
    · rename_i ck
      exact ⟨chk_ty rh rv ck, tR_next back_e rh rs p fun w2 as xs h2 x2 rh2 ra p2 => hf W w2 σ h2 v as x xs Q rh2 (rv.ext x2) ra p2⟩
    · exact p.elim
theorem se_bm0 (pa : PlainAttrs k.name) (slot : Slot k.name name id) (hty : typeOf (.builtin id) = pure (.type "method_descriptor")) (hm : MtR X id r) (hf : MtSim X.K f r) (ho : SimE X W o mo)
    (hbase : attributeBase o name X.env (eval o X.env) = eval o X.env := by rfl) (hline : (apos.endLine == cpos.line) = true := by rfl) :
    SimE X W (.Call (.Attribute o name apos) [] [] cpos) (eMt k f mo aNil) :=
  pe_imp (pe_bm0 pa slot hty hm ho hbase hline) fun σ H Q q => tR_bind back_e q fun w w1 s v x h1 x1 rs rh rv p => by
    split at p
    · rename_i ck
      exact ⟨chk_ty rh rv ck, hf W w1 σ h1 v [] x [] Q rh rv rfl p⟩
    · exact p.elim
end

/-! ### list methods that write -/
/-- a place is written, None is the answer -/
theorem post_set {K : PySem.W.Frag} {W : WX} {w : Wd} {h : Hh} {σ : L2.St} {Q : VK} {i : Nat} {vs us : List V} {ys : List PV} {v : PV} {x : V} (rh : RH K w h) (hi : i < w.n) (s : w.H (w.ρ i) = some (.lst vs)) (r : RVs K w ys us) (rv : RV K w v x)
    (p : Post K W w (Re K) (.ok v (h.set i (.lst ys))) σ Q) : Q x (upd w.H (w.ρ i) (.lst us)) :=
  p _ x (Ext.put rh hi s (fun _ _ z => nomatch z)) (rh.put hi s (fun _ _ z => nomatch z) ⟨us, upd_same, r.ext (Ext.put rh hi s (fun _ _ z => nomatch z))⟩) (rv.ext (Ext.put rh hi s (fun _ _ z => nomatch z)))
def mAppend : FM := fun v as h => match v, as with
  | .ref i, [.val u] => (match h[i]? with
    | some (.lst xs) => .guard (xs.length < sizeLine) (.ok .non (h.set i (.lst (xs ++ [u]))))
    | _ => .stuck)
  | _, _ => .stuck
theorem ms_append {K : PySem.W.Frag} : MtSim K mAppend rAppend := by
  intro W w σ h v as x xs Q rh rv ra p
  unfold mAppend at p
  split at p
  · rename_i i u
    obtain ⟨hi, rfl⟩ := rv
    obtain ⟨y, r0, rfl, r1, e0⟩ := ra
    obtain rfl := (show r0 = [] from e0)
    split at p
    · rename_i ys e
      obtain ⟨z, p⟩ := p.of_guard
      obtain ⟨vs, s, r⟩ := rh.lst e
      exact ⟨_, vs, y, rfl, rfl, s, by rw [r.len]; exact z, post_set rh hi s (r.app (.cons r1 .nil)) (v := .non) rfl p⟩
    · exact p.elim
  · exact p.elim
def mExtend : FM := fun v as h => match v, as with
  | .ref i, [a] => (match h[i]? with
    | some (.lst xs) => (match a with
      | .tmp ys => .guard (xs.length + ys.length ≤ sizeLine) (.ok .non (h.set i (.lst (xs ++ ys))))
      | .val (.tup ys) => .guard (xs.length + ys.length ≤ sizeLine) (.ok .non (h.set i (.lst (xs ++ ys))))
      | .val (.ref j) => (match h[j]? with
        | some (.lst ys) => .guard (xs.length + ys.length ≤ sizeLine) (.ok .non (h.set i (.lst (xs ++ ys))))
        | _ => .stuck)
      | _ => .stuck)
    | _ => .stuck)
  | _, _ => .stuck
def rExtend2 (K : PySem.W.Frag) : V → List V → Hp → VK → Prop := fun x xs H Q => rExtend x xs H Q ∨ rExtendT K x xs H Q
theorem mt_extend2 {X : Cx} : MtR X "list.extend" (rExtend2 X.K) := MtR.or mt_extend mt_extendT
theorem ms_extend {K : PySem.W.Frag} : MtSim K mExtend (rExtend2 K) := by
  intro W w σ h v as x xs Q rh rv ra p
  unfold mExtend at p
  split at p
  · rename_i i a
    obtain ⟨hi, rfl⟩ := rv
    obtain ⟨y, r0, rfl, r1, e0⟩ := ra
    obtain rfl := (show r0 = [] from e0)
    split at p
    · rename_i ys e
      obtain ⟨vs, s, r⟩ := rh.lst e
      split at p
      · rename_i zs
        obtain ⟨z, p⟩ := p.of_guard
        obtain ⟨q, us, rfl, rl⟩ := r1
        exact .inl ⟨_, q, vs, us, rfl, rfl, s, rl.at_, by rw [r.len, rl.rel.len]; exact z, post_set rh hi s (r.app rl.rel) (v := .non) rfl p⟩
      · rename_i zs
        obtain ⟨z, p⟩ := p.of_guard
        obtain ⟨q, us, rfl, s2, r2⟩ := r1
        exact .inr ⟨_, q, vs, us, rfl, rfl, s, s2.sq, by rw [r.len, r2.len]; exact z, post_set rh hi s (r.app r2) (v := .non) rfl p⟩
      · rename_i j
        obtain ⟨hj, rfl⟩ := (show RV K w (.ref j) y from r1)
        split at p
        · rename_i zs e2
          obtain ⟨z, p⟩ := p.of_guard
          obtain ⟨us, s2, r2⟩ := rh.lst e2
          exact .inl ⟨_, _, vs, us, rfl, rfl, s, s2, by rw [r.len, r2.len]; exact z, post_set rh hi s (r.app r2) (v := .non) rfl p⟩
        · exact p.elim
      · exact p.elim
    · exact p.elim
  · exact p.elim
/-- pop(), pop(i) -/
def mPop : FM := fun v as h => match v, as with
  | .ref i, [] => (match h[i]? with
    | some (.lst xs) => (match xs[xs.length - 1]? with
      | some y => .ok y (h.set i (.lst xs.dropLast))
      | none => .stuck)
    | _ => .stuck)
  | .ref i, [.val (.int j)] => (match h[i]? with
    | some (.lst xs) => (match seqIndex? j xs.length with
      | some k => (match xs[k]? with
        | some y => .guard (-(2 ^ 63) ≤ j ∧ j < 2 ^ 63) (.ok y (h.set i (.lst (xs.eraseIdx k))))
        | none => .stuck)
      | none => .stuck)
    | _ => .stuck)
  | _, _ => .stuck
def rPop2 : V → List V → Hp → VK → Prop := fun x xs H Q => rPop x xs H Q ∨ rPopAt x xs H Q
theorem mt_pop2 {X : Cx} : MtR X "list.pop" rPop2 := MtR.or mt_pop mt_popAt
theorem ms_pop {K : PySem.W.Frag} : MtSim K mPop rPop2 := by
  intro W w σ h v as x xs Q rh rv ra p
  unfold mPop at p
  split at p
  · rename_i i
    obtain ⟨hi, rfl⟩ := rv
    obtain rfl := (show xs = [] from ra)
    split at p
    · rename_i ys e
      obtain ⟨vs, s, r⟩ := rh.lst e
      split at p
      · rename_i y ey
        obtain ⟨u, eu, ru⟩ := r.get ey
        refine .inl ⟨_, vs, u, rfl, rfl, s, by rw [r.len]; exact eu, post_set rh hi s r.dropLast ru p⟩
      · exact p.elim
    · exact p.elim
  · rename_i i j
    obtain ⟨hi, rfl⟩ := rv
    obtain ⟨y, r0, rfl, r1, e0⟩ := ra
    obtain rfl := (show r0 = [] from e0)
    cases (show y = V.int j from r1)
    split at p
    · rename_i ys e
      obtain ⟨vs, s, r⟩ := rh.lst e
      split at p
      · rename_i k ek
        split at p
        · rename_i u0 eu0
          obtain ⟨z, p⟩ := p.of_guard
          obtain ⟨u, eu, ru⟩ := r.get eu0
          exact .inr ⟨_, vs, j, k, u, rfl, rfl, s, z.1, z.2, by rw [r.len]; exact ek, eu, post_set rh hi s (r.erase k) ru p⟩
        · exact p.elim
      · exact p.elim
    · exact p.elim
  · exact p.elim
/-- count, index of data -/
def mCount : FM := fun v as h => match as with
  | [.val u] => (match dat h v, dat h u with
    | some (.list ds), some d => .guard (SeqAt.shaped (.list ds) = true ∧ SeqAt.shaped d = true) (.ok (.int (ds.countP fun z => PyData.eqv z d : Nat)) h)
    | _, _ => .stuck)
  | _ => .stuck
/-- the value is a list's place -/
def isSq (v : PV) : Bool := match v with
  | .ref _ => true
  | .scr _ => true
  | _ => false
theorem isSq_ref {K : PySem.W.Frag} {w : Wd} {v : PV} {x : V} (r : RV K w v x) (h : isSq v = true) : ∃ a, x = .ref a := by
  cases v with
  | ref i => exact ⟨_, r.2⟩
  | scr ns => obtain ⟨a, rfl, _⟩ := r; exact ⟨a, rfl⟩
  | _ => cases h
theorem dat_list {h : Hh} {v : PV} {ds : List PyData} (e : dat h v = some (.list ds)) : isSq v = true := by
  cases v with
  | ref i => rfl
  | scr ns => rfl
  | tup xs =>
    have e2 : (match datsW (refD h 64) xs with | some ds => some (PyData.tuple ds) | none => none) = some (.list ds) := e
    split at e2 <;> cases e2
  | _ => cases e
theorem ms_count {K : PySem.W.Frag} : MtSim K mCount (rCountD K) := by
  intro W w σ h v as x xs Q rh rv ra p
  unfold mCount at p
  split at p
  · rename_i u
    obtain ⟨y, r0, rfl, r1, e0⟩ := ra
    obtain rfl := (show r0 = [] from e0)
    split at p
    · rename_i ds d e1 e2
      obtain ⟨z, p⟩ := p.of_guard
      obtain ⟨a, rfl⟩ := isSq_ref rv (dat_list e1)
      exact ⟨a, y, d, ds, rfl, rfl, dat_dp rh rv e1, dat_dp rh r1 e2, z.1, z.2, p.now (x := .int _) rh rfl⟩
    · exact p.elim
  · exact p.elim
def mIndex : FM := fun v as h => match as with
  | [.val u] => (match dat h v, dat h u with
    | some (.list ds), some d => (match ds.findIdx? fun z => PyData.eqv z d with
      | some j => .guard (SeqAt.shaped (.list ds) = true ∧ SeqAt.shaped d = true) (.ok (.int (j : Nat)) h)
      | none => .stuck)
    | _, _ => .stuck)
  | _ => .stuck
theorem ms_index {K : PySem.W.Frag} : MtSim K mIndex (rIndexD K) := by
  intro W w σ h v as x xs Q rh rv ra p
  unfold mIndex at p
  split at p
  · rename_i u
    obtain ⟨y, r0, rfl, r1, e0⟩ := ra
    obtain rfl := (show r0 = [] from e0)
    split at p
    · rename_i ds d e1 e2
      split at p
      · rename_i j ej
        obtain ⟨z, p⟩ := p.of_guard
        obtain ⟨a, rfl⟩ := isSq_ref rv (dat_list e1)
        obtain ⟨hj, h1, h2⟩ := List.findIdx?_eq_some_iff_getElem.mp ej
        refine ⟨a, y, d, ds, j, ds[j], rfl, rfl, dat_dp rh rv e1, dat_dp rh r1 e2, z.1, z.2, List.getElem?_eq_getElem hj, h1, fun m z' hm hz' => ?_, p.now (x := .int _) rh rfl⟩
        obtain ⟨hm2, rfl⟩ := List.getElem?_eq_some_iff.mp hz'
        exact Bool.eq_false_iff.mpr (h2 m hm)
      · exact p.elim
    · exact p.elim
  · exact p.elim
def mClear : FM := fun v as h => match v, as with
  | .ref i, [] => (match h[i]? with
    | some (.lst _) => .ok .non (h.set i (.lst []))
    | _ => .stuck)
  | _, _ => .stuck
theorem ms_clear {K : PySem.W.Frag} : MtSim K mClear rClear := by
  intro W w σ h v as x xs Q rh rv ra p
  unfold mClear at p
  split at p
  · rename_i i
    obtain ⟨hi, rfl⟩ := rv
    obtain rfl := (show xs = [] from ra)
    split at p
    · rename_i ys e
      obtain ⟨vs, s, r⟩ := rh.lst e
      exact ⟨_, vs, rfl, rfl, s, post_set rh hi s .nil (v := .non) rfl p⟩
    · exact p.elim
  · exact p.elim

/-! ### dicts -/
def mDClear : FM := fun v as h => match v, as with
  | .ref i, [] => (match h[i]? with
    | some (.dic _) => .ok .non (h.set i (.dic []))
    | _ => .stuck)
  | _, _ => .stuck
theorem ms_dclear {K : PySem.W.Frag} : MtSim K mDClear rDClear := by
  intro W w σ h v as x xs Q rh rv ra p
  unfold mDClear at p
  split at p
  · rename_i i
    obtain ⟨hi, rfl⟩ := rv
    obtain rfl := (show xs = [] from ra)
    split at p
    · rename_i ys e
      obtain ⟨ks, s, r⟩ := rh.dic e
      exact ⟨_, ks, rfl, rfl, s, p _ .non (Ext.put rh hi s (fun _ _ z => nomatch z)) (rh.put hi s (fun _ _ z => nomatch z) ⟨[], upd_same, rfl⟩) rfl⟩
    · exact p.elim
  · exact p.elim
@[simp] def getD1 (v u : PV) (h : Hh) : Res PV := match v with
  | .ref i => (match h[i]? with
    | some (.dic kvs) => (match u.key? with
      | some k => (match valP kvs k with
        | some y => .ok y h
        | none => .ok .non h)
      | none => .stuck)
    | _ => .stuck)
  | _ => .stuck
def getD2 (v u d : PV) (h : Hh) : Res PV := match v with
  | .ref i => (match h[i]? with
    | some (.dic kvs) => (match u.key? with
      | some k => (match valP kvs k with
        | some y => .ok y h
        | none => .ok d h)
      | none => .stuck)
    | _ => .stuck)
  | _ => .stuck
@[simp] def eGet1 (mo mi : Ev) : Ev := fun s h => (mo s h).bind fun v h => if Kd.chk .dic v h = true then (mi s h).bind fun u h => getD1 v u h else .stuck
@[simp] def eGet2 (mo mi md : Ev) : Ev := fun s h => (mo s h).bind fun v h => if Kd.chk .dic v h = true then (mi s h).bind fun u h => (md s h).bind fun d h => getD2 v u d h else .stuck
section
variable {X : Cx} {W : WX} {o e f : Expr} {apos cpos : Pos} {mo mi md : Ev}
theorem chk_isD {K : PySem.W.Frag} {w : Wd} {h : Hh} {v : PV} {x : V} (rh : RH K w h) (r : RV K w v x) (e : Kd.chk .dic v h = true) : ∃ a, x = .ref a ∧ IsD w.H a := by
  cases v with
  | ref i =>
    obtain ⟨hi, rfl⟩ := r
    have e2 : (match h[i]? with | some (.dic _) => true | _ => false) = true := e
    split at e2
    · rename_i e1
      obtain ⟨vs, s, _⟩ := rh.dic e1
      exact ⟨_, rfl, .inl ⟨vs, .inl s⟩⟩
    · cases e2
  | _ => cases e
theorem dget_ok {K : PySem.W.Frag} {w : Wd} {h : Hh} {i : Nat} {kvs : List (PKey × PV)} {u : PV} {y : V} {k : PKey} (rh : RH K w h) (e : h[i]? = some (.dic kvs)) (ru : RV K w u y) (ek : u.key? = some k) :
    ∃ o, DGet w.H (w.ρ i) y o ∧ (match valP kvs k with | some z => ∃ x, o = some x ∧ RV K w z x | none => o = none) := by
  obtain ⟨ks, s, r⟩ := rh.dic e
  refine ⟨valV ks (keyOf k), ?_, ?_⟩
  · rw [key_rel ru ek]
    exact DGet.k s
  · have q := r.val k
    cases ev : valP kvs k with
    | none =>
      rw [ev] at q
      exact q
    | some z =>
      rw [ev] at q
      obtain ⟨x', e', r'⟩ := q
      exact ⟨x', e', r'⟩
theorem se_get1 (hu : X.A.units + 1 < cLine) (ho : SimE X W o mo) (he : SimE X W e mi) (m : M1 X o "get" apos e cpos := by exact ⟨rfl, rfl, rfl, rfl⟩) : SimE X W (.Call (.Attribute o "get" apos) [e] [] cpos) (eGet1 mo mi) :=
  pe_imp (pe_dget1 hu ho he m) fun σ H Q q => tR_bind back_e q fun w w1 s v x h1 x1 rs rh rv p => by
    split at p
    · rename_i ck
      obtain ⟨a, rfl, hd⟩ := chk_isD rh rv ck
      refine ⟨a, rfl, hd, tR_next back_e rh rs p fun w2 u y h2 x2 rh2 ru p2 => ?_⟩
      unfold getD1 at p2
      split at p2
      · rename_i i
        obtain ⟨hi, ea⟩ := (show RV X.K w2 (.ref i) (.ref a) from rv.ext x2)
        cases ea
        split at p2
        · rename_i kvs e1
          split at p2
          · rename_i k ek
            obtain ⟨ov, g, hv⟩ := dget_ok rh2 e1 ru ek
            refine ⟨ov, g, ?_⟩
            cases ev : valP kvs k with
            | none =>
              rw [ev] at p2 hv
              cases (show ov = none from hv)
              exact p2.now (x := .non) rh2 rfl
            | some z =>
              rw [ev] at p2 hv
              obtain ⟨x', e', r'⟩ := hv
              subst e'
              exact p2.now (x := x') rh2 r'
          · exact p2.elim
        · exact p2.elim
      · exact p2.elim
    · exact p.elim
theorem se_get2 (hu : X.A.units + 1 < cLine) (ho : SimE X W o mo) (he : SimE X W e mi) (hd : SimE X W f md) (m : M2 X o "get" apos e f cpos := by exact ⟨rfl, rfl, rfl, rfl⟩) : SimE X W (.Call (.Attribute o "get" apos) [e, f] [] cpos) (eGet2 mo mi md) :=
  pe_imp (pe_dget2 hu ho he hd m) fun σ H Q q => tR_bind back_e q fun w w1 s v x h1 x1 rs rh rv p => by
    split at p
    · rename_i ck
      obtain ⟨a, rfl, hd⟩ := chk_isD rh rv ck
      refine ⟨a, rfl, hd, tR_next back_e rh rs p fun w2 u y h2 x2 rh2 ru p2 => tR_next back_e rh2 (rs.ext x2) p2 fun w3 d z h3 x3 rh3 rd p3 => ?_⟩
      unfold getD2 at p3
      split at p3
      · rename_i i
        obtain ⟨hi, ea⟩ := (show RV X.K w3 (.ref i) (.ref a) from rv.ext (x2.trans x3))
        cases ea
        split at p3
        · rename_i kvs e1
          split at p3
          · rename_i k ek
            obtain ⟨ov, g, hv⟩ := dget_ok rh3 e1 (ru.ext x3) ek
            refine ⟨ov, g, ?_⟩
            cases ev : valP kvs k with
            | none =>
              rw [ev] at p3 hv
              cases (show ov = none from hv)
              exact p3.now (x := z) rh3 rd
            | some z =>
              rw [ev] at p3 hv
              obtain ⟨x', e', r'⟩ := hv
              subst e'
              exact p3.now (x := x') rh3 r'
          · exact p3.elim
        · exact p3.elim
      · exact p3.elim
    · exact p.elim
end
end U
set_option Elab.async false
set_option linter.all false
set_option maxRecDepth 100000
set_option maxHeartbeats 2000000
/-! The generic layer, part 15: garbage; defs and their calls. -/
namespace U
open PySem PySem.Spec PyProof.Rows L2
variable [Tab]

/-! ### values whose places lie below n -/
mutual
def clV (n : Nat) : PV → Prop
  | .tup xs => clVs n xs
  | .ref i => i < n
  | _ => True
def clVs (n : Nat) : List PV → Prop
  | [] => True
  | x :: xs => clV n x ∧ clVs n xs
end
def clKs (n : Nat) (kvs : List (PKey × PV)) : Prop := ∀ kv ∈ kvs, clV n kv.2
def clC (n : Nat) : Cell → Prop
  | .lst xs => clVs n xs
  | .dic kvs => clKs n kvs
  | .dif kvs => clKs n kvs
  | .ins _ fs => ∀ v, some v ∈ fs → clV n v
def clH (h : Hh) : Prop := ∀ c ∈ h, clC h.length c
/-! a renaming of places -/
mutual
def RnV (r : Nat → Nat → Prop) : PV → PV → Prop
  | .tup xs, u => ∃ ys, u = .tup ys ∧ RnVs r xs ys
  | .ref i, u => ∃ j, u = .ref j ∧ r i j
  | .non, u => u = .non
  | .bl b, u => u = .bl b
  | .int i, u => u = .int i
  | .str x, u => u = .str x
  | .scr ns, u => u = .scr ns
def RnVs (r : Nat → Nat → Prop) : List PV → List PV → Prop
  | [], us => us = []
  | x :: xs, us => ∃ y ys, us = y :: ys ∧ RnV r x y ∧ RnVs r xs ys
end
def RnKs (r : Nat → Nat → Prop) : List (PKey × PV) → List (PKey × PV) → Prop
  | [], us => us = []
  | x :: xs, us => ∃ y ys, us = (x.1, y) :: ys ∧ RnV r x.2 y ∧ RnKs r xs ys
def RnC (r : Nat → Nat → Prop) : Cell → Cell → Prop
  | .lst xs, c => ∃ ys, c = .lst ys ∧ RnVs r xs ys
  | .dic xs, c => ∃ ys, c = .dic ys ∧ RnKs r xs ys
  | .dif xs, c => ∃ ys, c = .dif ys ∧ RnKs r xs ys
  | .ins k fs, c => ∃ gs, c = .ins k gs ∧ fs.length = gs.length ∧ ∀ (j : Nat) (v : PV), gs[j]? = some (some v) → ∃ u, fs[j]? = some (some u) ∧ RnV r u v
section
variable {r : Nat → Nat → Prop} {n : Nat}
mutual
theorem RnV.refl (hr : ∀ i, i < n → r i i) : ∀ (v : PV), clV n v → RnV r v v
  | .tup xs, h => ⟨xs, rfl, RnVs.refl hr xs h⟩
  | .ref i, h => ⟨i, rfl, hr i h⟩
  | .non, _ => rfl
  | .bl _, _ => rfl
  | .int _, _ => rfl
  | .str _, _ => rfl
  | .scr _, _ => rfl
theorem RnVs.refl (hr : ∀ i, i < n → r i i) : ∀ (v : List PV), clVs n v → RnVs r v v
  | [], _ => rfl
  | x :: xs, h => ⟨x, xs, rfl, RnV.refl hr x h.1, RnVs.refl hr xs h.2⟩
end
theorem RnKs.refl (hr : ∀ i, i < n → r i i) : ∀ (v : List (PKey × PV)), clKs n v → RnKs r v v
  | [], _ => rfl
  | (k, x) :: xs, h => ⟨x, xs, rfl, RnV.refl hr x (h _ List.mem_cons_self), RnKs.refl hr xs fun kv hk => h kv (List.mem_cons_of_mem _ hk)⟩
theorem RnC.refl (hr : ∀ i, i < n → r i i) : ∀ (c : Cell), clC n c → RnC r c c
  | .lst xs, h => ⟨xs, rfl, RnVs.refl hr xs h⟩
  | .dic xs, h => ⟨xs, rfl, RnKs.refl hr xs h⟩
  | .dif xs, h => ⟨xs, rfl, RnKs.refl hr xs h⟩
  | .ins k fs, h => ⟨fs, rfl, rfl, fun j v e => ⟨v, e, RnV.refl hr v (h v (List.mem_of_getElem? e))⟩⟩
end
section
variable {K : PySem.W.Frag} {w w1 w2 : Wd} {h h1 h2 : Hh}
mutual
theorem RV.cl : ∀ {v : PV} {x : V}, RV K w v x → clV w.n v
  | .tup _, _, q => let ⟨_, _, _, _, r⟩ := q; RVs.cl r
  | .ref _, _, q => q.1
  | .non, _, _ => trivial
  | .bl _, _, _ => trivial
  | .int _, _, _ => trivial
  | .str _, _, _ => trivial
  | .scr _, _, _ => trivial
theorem RVs.cl : ∀ {v : List PV} {x : List V}, RVs K w v x → clVs w.n v
  | [], _, _ => trivial
  | _ :: _, _, q => let ⟨_, _, _, h1, h2⟩ := q; ⟨RV.cl h1, RVs.cl h2⟩
end
theorem RKs.cl : ∀ {v : List (PKey × PV)} {x : List (Key × V)}, RKs K w v x → clKs w.n v
  | [], _, _ => fun _ h => by cases h
  | _ :: _, _, q => let ⟨_, _, _, h1, h2⟩ := q; fun kv hk => by
    rcases List.mem_cons.mp hk with e | e
    · rw [e]; exact RV.cl h1
    · exact RKs.cl h2 kv e
theorem RC.cl {a : Addr} : ∀ {c : Cell}, RC K w a c → (∀ k fs, c ≠ .ins k fs) → clC w.n c
  | .lst _, q, _ => let ⟨_, _, r⟩ := q; RVs.cl r
  | .dic _, q, _ => let ⟨_, _, r⟩ := q; RKs.cl r
  | .dif _, q, _ => let ⟨_, _, _, r⟩ := q; RKs.cl r
  | .ins k fs, _, hn => absurd rfl (hn k fs)
theorem RC.clI {a : Addr} {k : Nat} {fs : List (Option PV)} (q : RC K w a (.ins k fs)) : clC w.n (.ins k fs) := by
  obtain ⟨dx, gs, _, ri⟩ := q
  intro v hv
  obtain ⟨j, hj⟩ := List.getElem?_of_mem hv
  have hl : j < (cF k).length := by rw [← ri.len]; exact (List.getElem?_eq_some_iff.mp hj).1
  obtain ⟨x, _, r⟩ := ri.get j _ v (List.getElem?_eq_getElem hl) hj
  exact r.cl
theorem RH.cl (rh : RH K w h) : clH h := fun c hc => by
  obtain ⟨i, hi⟩ := List.getElem?_of_mem hc
  have q := rh.cell i c hi
  rw [rh.len]
  cases c with
  | ins k fs => exact q.clI
  | lst xs => exact q.cl fun _ _ e => nomatch e
  | dic xs => exact q.cl fun _ _ e => nomatch e
  | dif xs => exact q.cl fun _ _ e => nomatch e
/-- the same heap, its places told anew -/
structure Rn (r : Nat → Nat → Prop) (w w' : Wd) : Prop where
  H : w'.H = w.H
  to : ∀ i j, r i j → j < w'.n ∧ w'.ρ j = w.ρ i
mutual
theorem RV.rn {r : Nat → Nat → Prop} (x : Rn r w w1) : ∀ {p q : PV} {v : V}, RV K w p v → RnV r p q → RV K w1 q v
  | .non, _, _, h, e => by rw [show _ = PV.non from e]; exact h
  | .bl _, _, _, h, e => by rw [show _ = PV.bl _ from e]; exact h
  | .int _, _, _, h, e => by rw [show _ = PV.int _ from e]; exact h
  | .str _, _, _, h, e => by rw [show _ = PV.str _ from e]; exact h
  | .tup _, _, _, h, e => by
    obtain ⟨a, vs, e1, s, q⟩ := h
    obtain ⟨ys, e2, rn⟩ := e
    subst e2
    exact ⟨a, vs, e1, by rw [x.H]; exact s, RVs.rn x q rn⟩
  | .ref i, _, _, h, e => by
    obtain ⟨j, e2, rn⟩ := e
    subst e2
    obtain ⟨h1, h2⟩ := x.to i j rn
    exact ⟨h1, by rw [h2]; exact h.2⟩
  | .scr _, _, _, h, e => by
    rw [show _ = PV.scr _ from e]
    obtain ⟨a, e1, s⟩ := h
    exact ⟨a, e1, by rw [x.H]; exact s⟩
theorem RVs.rn {r : Nat → Nat → Prop} (x : Rn r w w1) : ∀ {p q : List PV} {v : List V}, RVs K w p v → RnVs r p q → RVs K w1 q v
  | [], _, _, h, e => by rw [show _ = [] from e]; exact h
  | _ :: _, _, _, h, e => by
    obtain ⟨y, ys, e2, a, b⟩ := e
    subst e2
    obtain ⟨v, vs, e3, c, d⟩ := h
    exact ⟨v, vs, e3, RV.rn x c a, RVs.rn x d b⟩
end
theorem RKs.rn {r : Nat → Nat → Prop} (x : Rn r w w1) : ∀ {p q : List (PKey × PV)} {v : List (Key × V)}, RKs K w p v → RnKs r p q → RKs K w1 q v
  | [], _, _, h, e => by rw [show _ = [] from e]; exact h
  | _ :: _, _, _, h, e => by
    obtain ⟨y, ys, e2, a, b⟩ := e
    subst e2
    obtain ⟨v, vs, e3, c, d⟩ := h
    exact ⟨v, vs, e3, RV.rn x c a, RKs.rn x d b⟩
theorem RC.rn {r : Nat → Nat → Prop} (x : Rn r w w1) {a : Addr} {c d : Cell} (q : RC K w a c) (e : RnC r c d) : RC K w1 a d := by
  cases c with
  | lst xs =>
    obtain ⟨ys, e2, rn⟩ := e
    subst e2
    obtain ⟨vs, s, q⟩ := q
    exact ⟨vs, by rw [x.H]; exact s, q.rn x rn⟩
  | dic xs =>
    obtain ⟨ys, e2, rn⟩ := e
    subst e2
    obtain ⟨vs, s, q⟩ := q
    exact ⟨vs, by rw [x.H]; exact s, q.rn x rn⟩
  | dif xs =>
    obtain ⟨ys, e2, rn⟩ := e
    subst e2
    obtain ⟨o, vs, s, q⟩ := q
    exact ⟨o, vs, by rw [x.H]; exact s, q.rn x rn⟩
  | ins k fs =>
    obtain ⟨gs, e2, hl, rn⟩ := e
    subst e2
    obtain ⟨dx, us, s, q⟩ := q
    refine ⟨dx, us, by rw [x.H]; exact s, q.cf, hl.symm.trans q.len, q.keys, q.nd, fun j f v e1 e2 => ?_⟩
    obtain ⟨u, e3, rv⟩ := rn j v e2
    obtain ⟨y, e4, ry⟩ := q.get j f u e1 e3
    exact ⟨y, e4, ry.rn x rv⟩
end

/-! ### garbage -/
/-- from the heap h on: (v1, h1) may be told as (v, h2) -/
def Cp (h : Hh) (v1 : PV) (h1 : Hh) (v : PV) (h2 : Hh) : Prop := ∀ (K : PySem.W.Frag) (w w1 : Wd) (x : V), RH K w h → Ext K w w1 → RH K w1 h1 → RV K w1 v1 x → ∃ w2, w2.H = w1.H ∧ Ext K w w2 ∧ RH K w2 h2 ∧ RV K w2 v x
/-- fields of an exception, too -/
def CpX (h : Hh) (fs1 : List PV) (h1 : Hh) (fs : List PV) (h2 : Hh) : Prop := ∀ (K : PySem.W.Frag) (w w1 : Wd) (c : Nat) (d : Option Addr), RH K w h → Ext K w w1 → RH K w1 h1 → RX K w1 c fs1 d → ∃ w2, w2.H = w1.H ∧ Ext K w w2 ∧ RH K w2 h2 ∧ RX K w2 c fs d
theorem Cp.same {h h1 : Hh} {v : PV} : Cp h v h1 v h1 := fun K w w1 x _ e rh rv => ⟨w1, rfl, e, rh, rv⟩
theorem CpX.same {h h1 : Hh} {v : List PV} : CpX h v h1 v h1 := fun K w w1 c d _ e rh rv => ⟨w1, rfl, e, rh, rv⟩
/-- a renaming r of h1's places to h2's that keeps h's -/
structure RnH (r : Nat → Nat → Prop) (n : Nat) (h1 h2 : Hh) : Prop where
  lt : ∀ i j, r i j → i < h1.length ∧ j < h2.length
  on : ∀ j, j < h2.length → ∃ i, r i j
  fn : ∀ i j j', r i j → r i j' → j = j'
  inj : ∀ i i' j, r i j → r i' j → i = i'
  old : ∀ i, i < n → r i i
  le : n ≤ h2.length
  cell : ∀ (i j : Nat) (c : Cell), r i j → h2[j]? = some c → ∃ c1 : Cell, h1[i]? = some c1 ∧ RnC r c1 c
theorem RnH.wd {K : PySem.W.Frag} {r : Nat → Nat → Prop} {h h1 h2 : Hh} {w w1 : Wd} (q : RnH r h.length h1 h2) (rh : RH K w h) (e : Ext K w w1) (rh1 : RH K w1 h1) : ∃ w2, Rn r w1 w2 ∧ Ext K w w2 ∧ RH K w2 h2 := by
  classical
  have pick : ∀ j, ∃ i, j < h2.length → r i j := fun j => by
    by_cases hj : j < h2.length
    · obtain ⟨i, hi⟩ := q.on j hj
      exact ⟨i, fun _ => hi⟩
    · exact ⟨0, fun z => absurd z hj⟩
  obtain ⟨g, hg⟩ := Classical.axiomOfChoice pick
  have rn : Rn r w1 ⟨h2.length, fun j => w1.ρ (g j), w1.H⟩ := ⟨rfl, fun i j hr => ⟨(q.lt i j hr).2, by
    show w1.ρ (g j) = w1.ρ i
    rw [q.inj _ _ j (hg j (q.lt i j hr).2) hr]⟩⟩
  have hn : w.n = h.length := rh.len.symm
  refine ⟨⟨h2.length, fun j => w1.ρ (g j), w1.H⟩, rn, ⟨⟨by rw [hn]; exact q.le, fun i hi => ?_, e.tup, e.frz⟩, e.frame, fun i h1' h2' => ?_, e.there⟩, ⟨rfl, fun j c ec => ?_, fun i j hi hj eq => ?_⟩⟩
  · have := (rn.to i i (q.old i (by rw [← hn]; exact hi))).2
    rw [this]
    exact e.ρ i hi
  · show w.H (w1.ρ (g i)) = none
    have hr := hg i h2'
    have hge : h.length ≤ g i := by
      by_cases z : g i < h.length
      · have := q.fn _ _ _ hr (q.old _ z)
        omega
      · omega
    exact e.new (g i) (by rw [hn]; exact hge) (by rw [← rh1.len]; exact (q.lt _ _ hr).1)
  · have hj : j < h2.length := (List.getElem?_eq_some_iff.mp ec).1
    obtain ⟨c1, e1, rc⟩ := q.cell (g j) j c (hg j hj) ec
    exact (rh1.cell (g j) c1 e1).rn rn rc
  · have h1' := hg i hi
    have h2' := hg j hj
    have eq' : w1.ρ (g i) = w1.ρ (g j) := eq
    have := rh1.inj (g i) (g j) (by rw [← rh1.len]; exact (q.lt _ _ h1').1) (by rw [← rh1.len]; exact (q.lt _ _ h2').1) eq'
    rw [this] at h1'
    exact q.fn _ _ _ h1' h2'
theorem Cp.ren {r : Nat → Nat → Prop} {h h1 h2 : Hh} {v1 v : PV} (q : RnH r h.length h1 h2) (hv : RnV r v1 v) : Cp h v1 h1 v h2 := fun K w w1 x rh e rh1 rv => by
  obtain ⟨w2, rn, e2, rh2⟩ := q.wd rh e rh1
  exact ⟨w2, rn.H, e2, rh2, rv.rn rn hv⟩
theorem CpX.ren {r : Nat → Nat → Prop} {h h1 h2 : Hh} {v1 v : List PV} (q : RnH r h.length h1 h2) (hl : v1.length = v.length) (hv : RnVs r v1 v) : CpX h v1 h1 v h2 := fun K w w1 c d rh e rh1 rx => by
  obtain ⟨w2, rn, e2, rh2⟩ := q.wd rh e rh1
  refine ⟨w2, rn.H, e2, rh2, ?_⟩
  rcases rx with ⟨e1, e3⟩ | ⟨a, gs, e1, e3, get⟩
  · subst e1
    cases (show v = [] from hv)
    exact .inl ⟨rfl, e3⟩
  · refine .inr ⟨a, gs, e1, by rw [rn.H]; exact e3, fun j f u hf hu => ?_⟩
    have key : ∀ (j : Nat) (xs ys : List PV) (u : PV), RnVs r xs ys → ys[j]? = some u → ∃ x, xs[j]? = some x ∧ RnV r x u := by
      intro j xs
      induction xs generalizing j with
      | nil => intro ys u h e; rw [show ys = [] from h] at e; simp at e
      | cons a as ih =>
        intro ys u h e
        obtain ⟨y, ys', rfl, h1, h2⟩ := h
        cases j with
        | zero => simp at e; subst e; exact ⟨a, by simp, h1⟩
        | succ j =>
          obtain ⟨x, e1, h3⟩ := ih j ys' u h2 (by simpa using e)
          exact ⟨x, by simpa using e1, h3⟩
    obtain ⟨x, ex, hx⟩ := key j v1 v u hv hu
    obtain ⟨y, e4, ry⟩ := get j f x hf ex
    exact ⟨y, e4, ry.rn rn hx⟩
/-- the new part g falls away, but for the places ks of it, which stand behind h0 as cs -/
def rK (n : Nat) (ks : List Nat) (i j : Nat) : Prop := (i = j ∧ i < n) ∨ ∃ k m, ks[k]? = some m ∧ i = n + m ∧ j = n + k
theorem nodup_at {α : Type} {xs : List α} {i j : Nat} {a : α} (nd : xs.Nodup) (h1 : xs[i]? = some a) (h2 : xs[j]? = some a) : i = j := by
  obtain ⟨_, e1⟩ := List.getElem?_eq_some_iff.mp h1
  obtain ⟨_, e2⟩ := List.getElem?_eq_some_iff.mp h2
  exact (List.getElem_inj nd).mp (e1.trans e2.symm)
theorem rnh_keep {n : Nat} {h0 g cs : Hh} {ks : List Nat} (hn : h0.length = n) (h0c : ∀ c ∈ h0, clC n c) (nd : ks.Nodup) (hl : ks.length = cs.length)
    (hc : ∀ (k m : Nat) (c : Cell), ks[k]? = some m → cs[k]? = some c → ∃ c1 : Cell, g[m]? = some c1 ∧ RnC (rK n ks) c1 c) : RnH (rK n ks) n (h0 ++ g) (h0 ++ cs) where
  lt := fun i j hr => by
    rcases hr with ⟨rfl, h⟩ | ⟨k, m, e, rfl, rfl⟩
    · rw [List.length_append, List.length_append]; omega
    · have hk := (List.getElem?_eq_some_iff.mp e).1
      obtain ⟨c1, e1, _⟩ := hc k m cs[k] e (List.getElem?_eq_getElem (by omega))
      have hm := (List.getElem?_eq_some_iff.mp e1).1
      rw [List.length_append, List.length_append]; omega
  on := fun j hj => by
    by_cases z : j < n
    · exact ⟨j, .inl ⟨rfl, z⟩⟩
    · rw [List.length_append] at hj
      have hk : j - n < ks.length := by omega
      exact ⟨n + ks[j - n], .inr ⟨j - n, _, List.getElem?_eq_getElem hk, rfl, by omega⟩⟩
  fn := fun i j j' h1 h2 => by
    rcases h1 with ⟨rfl, h⟩ | ⟨k, m, e, rfl, rfl⟩
    · rcases h2 with ⟨rfl, _⟩ | ⟨k', m', e', e1, rfl⟩
      · rfl
      · omega
    · rcases h2 with ⟨rfl, z⟩ | ⟨k', m', e', e1, rfl⟩
      · omega
      · have : m = m' := by omega
        subst this
        have := nodup_at nd e e'
        omega
  inj := fun i i' j h1 h2 => by
    rcases h1 with ⟨rfl, h⟩ | ⟨k, m, e, rfl, rfl⟩
    · rcases h2 with ⟨rfl, _⟩ | ⟨k', m', e', e1, e2⟩
      · rfl
      · omega
    · rcases h2 with ⟨rfl, z⟩ | ⟨k', m', e', rfl, e2⟩
      · omega
      · have : k = k' := by omega
        subst this
        rw [e] at e'
        cases e'
        rfl
  old := fun i hi => .inl ⟨rfl, hi⟩
  le := by rw [List.length_append]; omega
  cell := fun i j c hr hj => by
    rcases hr with ⟨rfl, h⟩ | ⟨k, m, e, rfl, rfl⟩
    · rw [List.getElem?_append_left (by omega)] at hj
      exact ⟨c, by rw [List.getElem?_append_left (by omega)]; exact hj, RnC.refl (n := n) (fun i hi => .inl ⟨rfl, hi⟩) c (h0c c (List.mem_of_getElem? hj))⟩
    · rw [List.getElem?_append_right (by omega)] at hj
      have e2 : n + k - h0.length = k := by omega
      rw [e2] at hj
      obtain ⟨c1, e1, rc⟩ := hc k m c e hj
      exact ⟨c1, by rw [List.getElem?_append_right (by omega), show n + m - h0.length = m by omega]; exact e1, rc⟩
/-- all of the new part falls away -/
theorem Cp.cut {h h0 g : Hh} {v : PV} (hn : h0.length = h.length) (h0c : ∀ c ∈ h0, clC h.length c) (hv : clV h.length v) : Cp h v (h0 ++ g) v h0 := by
  have q : RnH (rK h.length []) h.length (h0 ++ g) (h0 ++ []) := rnh_keep hn h0c .nil rfl (fun k m c e => by simp at e)
  rw [List.append_nil] at q
  exact Cp.ren q (RnV.refl (n := h.length) (fun i hi => .inl ⟨rfl, hi⟩) v hv)
theorem Cp.cut0 {h g : Hh} {v : PV} (hc : clH h) (hv : clV h.length v) : Cp h v (h ++ g) v h := Cp.cut rfl hc hv
theorem Cp.keep {h h0 g cs : Hh} {ks : List Nat} {v1 v : PV} (hn : h0.length = h.length) (h0c : ∀ c ∈ h0, clC h.length c) (nd : ks.Nodup) (hl : ks.length = cs.length)
    (hc : ∀ (k m : Nat) (c : Cell), ks[k]? = some m → cs[k]? = some c → ∃ c1 : Cell, g[m]? = some c1 ∧ RnC (rK h.length ks) c1 c) (hv : RnV (rK h.length ks) v1 v) : Cp h v1 (h0 ++ g) v (h0 ++ cs) :=
  Cp.ren (rnh_keep hn h0c nd hl hc) hv
/-- one new cell stays, its values old -/
theorem Cp.one {h h0 g : Hh} {c : Cell} {m : Nat} (hn : h0.length = h.length) (h0c : ∀ c ∈ h0, clC h.length c) (hm : g[m]? = some c) (hc : clC h.length c) : Cp h (.ref (h.length + m)) (h0 ++ g) (.ref h.length) (h0 ++ [c]) := by
  refine Cp.keep (ks := [m]) hn h0c (by simp) rfl (fun k m' c' e1 e2 => ?_) ⟨h.length, rfl, .inr ⟨0, m, rfl, rfl, rfl⟩⟩
  cases k with
  | zero =>
    simp at e1 e2
    subst e1 e2
    exact ⟨c, hm, RnC.refl (n := h.length) (fun i hi => .inl ⟨rfl, hi⟩) c hc⟩
  | succ k => simp at e1
theorem CpX.cut {h h0 g : Hh} {v : List PV} (hn : h0.length = h.length) (h0c : ∀ c ∈ h0, clC h.length c) (hv : clVs h.length v) : CpX h v (h0 ++ g) v h0 := by
  have q : RnH (rK h.length []) h.length (h0 ++ g) (h0 ++ []) := rnh_keep hn h0c .nil rfl (fun k m c e => by simp at e)
  rw [List.append_nil] at q
  exact CpX.ren q rfl (RnVs.refl (n := h.length) (fun i hi => .inl ⟨rfl, hi⟩) v hv)

/-! ### a def by its law -/
abbrev FF := List PV → Hh → Res PV
def GcR (h : Hh) (r : SRes) : Res PV → Prop
  | .stuck => True
  | .ok v h2 => (∃ v1 h1, r = .rt v1 h1 ∧ Cp h v1 h1 v h2) ∨ (∃ s h1, r = .nx s h1 ∧ Cp h .non h1 v h2)
  | .exn c fs h2 => ∃ fs1 s h1, r = .exn c fs1 s h1 ∧ CpX h fs1 h1 fs h2
abbrev wx (E : XK) : WX := fun cls d _ H => E cls d H
def spF (K : PySem.W.Frag) (n : Nat) (F : FF) : Sp := fun vs H Q E => vs.length = n ∧ ∃ w h as, w.H = H ∧ RH K w h ∧ RVs K w as vs ∧ Post K (wx E) w (Re K) (F as h) [] Q
/-- the names' values at the entry -/
def start0 (N : List Str) (as : List PV) : Ev0 := as.map some ++ List.replicate (N.length - as.length) none
theorem rs_start {K : PySem.W.Frag} {w : Wd} {N : List Str} {as : List PV} {vs : List V} (r : RVs K w as vs) : RS K w (start0 N as) (L2.start N vs) where
  len := by
    show (vs.map some ++ List.replicate (N.length - vs.length) none).length = (as.map some ++ List.replicate (N.length - as.length) none).length
    simp only [List.length_append, List.length_map, List.length_replicate, r.len]
  get := fun i v e => by
    have hi : i < as.length := by
      by_cases hi : i < as.length
      · exact hi
      · have e2 : (as.map some ++ List.replicate (N.length - as.length) none)[i]? = some (some v) := e
        rw [List.getElem?_append_right (by simpa using hi), List.getElem?_replicate] at e2
        split at e2 <;> cases e2
    have e2 : (as.map some ++ List.replicate (N.length - as.length) none)[i]? = some (some v) := e
    rw [List.getElem?_append_left (by simpa using hi), List.getElem?_map] at e2
    cases ea : as[i]? with
    | none => rw [ea] at e2; cases e2
    | some a =>
      rw [ea] at e2
      cases e2
      obtain ⟨x, ex, rx⟩ := r.get ea
      refine ⟨x, ?_, rx⟩
      show (vs.map some ++ List.replicate (N.length - vs.length) none)[i]? = some (some x)
      rw [List.getElem?_append_left (by rw [List.length_map, r.len]; exact hi), List.getElem?_map, ex]
      rfl
section
variable {P : Program} {w : World} {K : PySem.W.Frag} {mg : Str → Option Value} {base : Heap} {x qual : Str} {params : Arguments} {body : List Stmt} {scope : Scope} {kws : List (Str × V)} {dvs : List V} {f : Addr} {fd : FuncData} {N ps : List Str} {k : Nat} {F : FF} {m : Sv}
/-- the body's reading, in every frame of the def -/
def BodySim (P : Program) (w : World) (K : PySem.W.Frag) (mg : Str → Option Value) (base : Heap) (N : List Str) (qual : Str) (scope : Scope) (f : Addr) (k : Nat) (body : List Stmt) (m : Sv) : Prop :=
  ∀ (cdv : Value) (A : Around) (outer : List Env) (s : Shared) (H : Hp) (E : XK), Room k (A.deeper (envOfC qual scope s.heap.objs.size f cdv)) →
    SimB (cxOf (L2.CX P w) P w K mg base N qual scope f cdv A outer s H E) (wx E) body m
theorem fn_sim (D : FunD K x qual params body scope dvs kws f fd) (S : FnScope N ps scope) (hb : BodySim P w K mg base N qual scope f k body m)
    (hF : ∀ as h, clH h → clVs h.length as → as.length = ps.length → GcR h (m (start0 N as) h) (F as h)) : FnOk P w K mg base (L2.CX P w) (k + 1) f fd ps (spF K ps.length F) := by
  refine D.ok S (fun vs H Q E h => h.1) fun cdv A outer s H vs Q E hr h => ⟨_, hb cdv A outer s H E hr, ?_⟩
  obtain ⟨hl, w0, h0, as, rfl, rh, rvs, p⟩ := h
  refine ⟨w0, start0 N as, h0, rfl, rh, rs_start rvs, ?_⟩
  have ha : as.length = ps.length := by rw [← rvs.len]; exact hl
  have g := hF as h0 rh.cl (by rw [rh.len]; exact rvs.cl) ha
  cases e : F as h0 with
  | stuck => rw [e] at p; exact p.elim
  | ok v h2 =>
    rw [e] at p g
    rcases g with ⟨v1, h1, e1, cp⟩ | ⟨s1, h1, e1, cp⟩
    · rw [e1]
      intro w1 y x1 rh1 rv
      obtain ⟨w2, e2, x2, rh2, rv2⟩ := cp K w0 w1 y rh x1 rh1 rv
      show Q y w1.H
      rw [← e2]
      exact p w2 y x2 rh2 rv2
    · rw [e1]
      intro w1 σ1 x1 rh1 rs1
      obtain ⟨w2, e2, x2, rh2, rv2⟩ := cp K w0 w1 .non rh x1 rh1 rfl
      show Q .non w1.H
      rw [← e2]
      exact p w2 .non x2 rh2 rv2
  | exn c fs h2 =>
    rw [e] at p g
    obtain ⟨fs1, s1, h1, e1, cp⟩ := g
    rw [e1]
    intro w1 σ1 d x1 rh1 rs1 rx
    obtain ⟨w2, e2, x2, rh2, rx2⟩ := cp K w0 w1 c d rh x1 rh1 rx
    show E (.ref (He.ga K (cN c))) d w1.H
    rw [← e2]
    exact p w2 d x2 rh2 rx2
end

/-! ### the call -/
@[simp] def callF (n : Nat) (F : FF) (as : List AV) (h : Hh) : Res PV := match vals? as with
  | some vs => if vs.length = n then F vs h else .stuck
  | none => .stuck
@[simp] def eCall (n : Nat) (F : FF) (m : Mv (List AV)) : Ev := fun s h => (m s h).bind (callF n F)
section
variable {X : Cx} {W : WX} {k : Nat} {f : Addr} {fd : FuncData} {ps : List Str} {F : FF} {x : Str} {p pos : Pos} {e : Expr} {es : List Expr} {m : Mv (List AV)}
theorem spF_ok {K : PySem.W.Frag} {w : Wd} {h : Hh} {σ : L2.St} {as : List AV} {xs : List V} {Q : VK} {n : Nat} (rh : RH K w h) (ra : RAs1 K w as xs) (p : Post K W w (Re K) (callF n F as h) σ Q) : spF K n F xs w.H Q (WE W σ) := by
  unfold callF at p
  split at p
  · rename_i vs ev
    have rr := vals_rel ra ev
    split at p
    · rename_i hn
      refine ⟨by rw [rr.len]; exact hn, w, h, vs, rfl, rh, rr, ?_⟩
      cases e : F vs h with
      | ok v h2 => rw [e] at p; exact p
      | exn c fs h2 => rw [e] at p; exact p
      | stuck => rw [e] at p; exact p
    · exact p.elim
  · exact p.elim
theorem se_call (FK : FnOk X.prog X.w X.K X.mg X.base (L2.CX X.prog X.w) k f fd ps (spF X.K ps.length F)) (hr : Room k X.A) (hg : Gl X x) (hm : X.mg x = some (.ref f)) (hk : PySem.W.keepIn X.K (.ref f) = true) (hb : Binds X.K fd ps []) (tk : Takes X W)
    (ha : SimA X W (e :: es) m) (hdb : (x == ("__debug__" : Str)) = false := by decide) (he : starEach (e :: es) X.env = (false, eval e X.env) :: starEach es X.env := by rfl) (hpl : (backTo pos (starEach es X.env)).any (·.1) = false := by rfl) :
    SimE X W (.Call (.Name x p) (e :: es) [] pos) (eCall ps.length F m) :=
  pe_imp (pe_callS FK hr hg hm hk hb (fun σ => passAt tk σ) ha hdb he hpl) fun σ H Q q => tR_bind back_e q fun w w1 s as xs h1 x1 rs rh ra p => spF_ok rh ra p
/-- f() -/
theorem se_call0 (FK : FnOk X.prog X.w X.K X.mg X.base (L2.CX X.prog X.w) k f fd [] (spF X.K 0 F)) (hr : Room k X.A) (hg : Gl X x) (hm : X.mg x = some (.ref f)) (hk : PySem.W.keepIn X.K (.ref f) = true) (hb : Binds X.K fd [] []) (tk : Takes X W)
    (hdb : (x == ("__debug__" : Str)) = false := by decide) : SimE X W (.Call (.Name x p) [] [] pos) (eCall 0 F aNil) := by
  refine ⟨fun pins s σ H Q I h => ?_⟩
  obtain ⟨w, s0, hh, rfl, rh, rs, pp⟩ := h
  refine wpAny_Call_Name_kw (ld_glob I hg hm ?_ hdb)
  exact PySem.W.callWith_K0 I.kIn hk (run_fnS (us := []) (vs := []) FK hr hb (passAt tk σ) I .nil (spF_ok (as := []) (n := 0) rh rfl pp))
end
end U
set_option Elab.async false
set_option linter.all false
set_option maxRecDepth 100000
set_option maxHeartbeats 4000000
/-! The generic layer, part 17: sets of ints and texts; sorting. -/
namespace HT
open PySem PySem.Spec PyProof.Rows L2
def kOfE (e : Int × Value) : Key := match e.2 with
  | .int k _ => .inl k
  | .str x _ => .inr x
  | _ => .inl 0
def GoodM (w : World) (e : Int × Value) : Prop := ∃ k, keyIs k e.2 = true ∧ e.1 = keyH w k
theorem good_kOf {w : World} {e : Int × Value} (g : GoodM w e) : keyIs (kOfE e) e.2 = true ∧ e.1 = keyH w (kOfE e) := by
  obtain ⟨k, h1, h2⟩ := g
  have hk : kOfE e = k := by
    unfold kOfE
    rcases keyIs_shape h1 with ⟨i, t, rfl, q⟩ | ⟨x, t, rfl, q⟩ <;> rw [q]
  rw [hk]
  exact ⟨h1, h2⟩
theorem good_is {P : Program} {w : World} {e : Int × Value} (g : GoodM w e) (k : Key) : (mixKind P w).is k e.2 = true ↔ kOfE e = k := by
  have h := (good_kOf g).1
  constructor
  · intro q
    exact (mixKind P w).inj e.2 (kOfE e) k h q
  · intro q
    rw [← q]
    exact h
theorem key_scan2 {k : Key} {v : Value} (h : keyIs k v = true) : v.scannable = true := by
  rcases keyIs_shape h with ⟨i, t, _, rfl⟩ | ⟨x, t, _, rfl⟩ <;> rfl
theorem good_elems {P : Program} {w : World} {l : List (Int × Value)} (g : ∀ e ∈ l, GoodM w e) : ElemsOf (mixKind P w) l := fun e he => by
  obtain ⟨k, h1, h2⟩ := g e he
  exact ⟨⟨k, h1, h2⟩, key_scan2 h1⟩
/-- the set at a: its members ks, in some order; it can be walked -/
def SetM (w : World) (h : Heap) (a : Addr) (ks : List Key) : Prop :=
  ∃ o es ep t, h.get? a = some o ∧ o.ExactSet ∧ o.data = .set es ep t ∧ (∀ e ∈ es.toList, GoodM w e) ∧ (es.toList.map kOfE).Perm ks ∧ ks.Nodup ∧
    es.size < scanBound ∧ t.fits es.size = true ∧ Ris t.place.toList ∧ (w.params.followText "set-order" = true ∨ t.led = true)
section
variable {P : Program} {w : World} {h h' : Heap} {a : Addr} {ks : List Key}
theorem SetM.at (R : SetM w h a ks) (k : ∀ o, h.get? a = some o → h'.get? a = some o) : SetM w h' a ks := by
  obtain ⟨o, es, ep, t, ho, r⟩ := R
  exact ⟨o, es, ep, t, k o ho, r⟩
end
section
variable {P : Program} {w : World} {A : Around} {E : Value → Shared → Prop} {s : Shared} {a : Addr} {ks : List Key}
theorem setM_add_tail {g : Bool → Sem Unit} (hg : ∀ (b : Bool) (s₁ : Shared) (Q' : Unit → Shared → Prop), Q' () s₁ → wpAny (model P w) A (g b) Q' E s₁)
    {o : Obj} {es : Array (Int × Value)} {ep : Nat} {t : SetTable} (ho : s.heap.get? a = some o) (hex : o.ExactSet) (hd : o.data = .set es ep t)
    {es1 : Array (Int × Value)} {t2 : SetTable} {ks' : List Key} (g1 : ∀ e ∈ es1.toList, GoodM w e) (nd1 : ks'.Nodup) (m1 : (es1.toList.map kOfE).Perm ks')
    (hb1 : es1.size < scanBound) (hf2 : t2.fits es1.size = true) (hr : Ris t2.place.toList) (hl : w.params.followText "set-order" = true ∨ t2.led = true) {wasDummy : Bool} {R : Option Bool → Shared → Prop}
    (hR : ∀ h', Heap.SameBut a s.heap h' → SetM w h' a ks' → R (some true) { s with heap := h' }) :
    wpAny (model P w) A (do
        storeSet a es1 t2
        if (!wasDummy && t2.tooFull) = true then do
            g (relayAll t2 es1 (SetTable.grown es1.size)).2.2
            storeSet a (relayAll t2 es1 (SetTable.grown es1.size)).1 (relayAll t2 es1 (SetTable.grown es1.size)).2.1
            pure (some true)
          else pure (some true)) R E s := by
  refine wpAny_bind (wpAny_storeSet_of ho hd ?_ (fits_of_scanBound hb1))
  have ho1 := store_at (es' := es1) (t' := t2) ho hd
  have sb1 := Heap.SameBut.update s.heap a (Obj.putSet es1 t2)
  split
  · have pm := relayAll_perm t2 es1 (SetTable.grown es1.size)
    have hf3 := relayAll_fits t2 es1 (SetTable.grown es1.size)
    have hr3 := relayAll_ris t2 es1 (SetTable.grown es1.size)
    have hl3 := relayAll_led t2 es1 (SetTable.grown es1.size)
    generalize relayAll t2 es1 (SetTable.grown es1.size) = Z at pm hf3 hr3 hl3 ⊢
    obtain ⟨es2, t3, gave⟩ := Z
    dsimp only at pm hf3 hr3 hl3 ⊢
    have hsz : es2.size = es1.size := by rw [← Array.length_toList, pm.length_eq, Array.length_toList]
    have hb2 : es2.size < scanBound := by rw [hsz]; exact hb1
    refine wpAny_bind (hg _ _ _ ?_)
    refine wpAny_bind (wpAny_storeSet_of ho1 rfl ?_ (fits_of_scanBound hb2))
    have ho2 := store_at (es' := es2) (t' := t3) ho1 rfl
    refine wpAny_pure (hR _ (sb1.trans (Heap.SameBut.update _ a _)) ?_)
    exact ⟨_, es2, _, t3, ho2, hex, rfl, fun e he => g1 e (pm.mem_iff.mp he), (pm.map kOfE).trans m1, nd1, hb2, hf3, hr3,
      hl.imp id fun z => by rw [hl3]; exact z⟩
  · exact wpAny_pure (hR _ sb1 ⟨_, es1, _, t2, ho1, hex, rfl, g1, m1, nd1, hb1, hf2, hr, hl⟩)
open Classical in
theorem setM_add_hashed {k : Key} {v : Value} {Q : Bool → Shared → Prop} (hkey : keyIs k v = true) (R : SetM w s.heap a ks) (room : ks.length + 1 < scanBound)
    (hQ : ∀ h', Heap.SameBut a s.heap h' → (k ∈ ks → SetM w h' a ks) → (k ∉ ks → SetM w h' a (k :: ks)) → ∀ b, Q b { s with heap := h' }) :
    wpAny (model P w) A (setAddHashed a v ((mixKind P w).hash k)) Q E s := by
  obtain ⟨o, es, ep, t, ho, hex, hd, g, hm, nd, hb, hf, hr, hl⟩ := R
  have hsc : v.scannable = true := key_scan2 hkey
  have hkey' : (mixKind P w).is k v = true := hkey
  have hel : ElemsOf (mixKind P w) es.toList := good_elems g
  unfold setAddHashed setAddHashedIn
  refine wpAny_holding (wpAny_bind (wpAny_setState_of ho hd hf ?_))
  dsimp only
  rw [byScan_of hsc hb hel]
  simp only [↓reduceIte]
  unfold setAddByScan
  refine wpAny_bind ?_
  refine wpAny_bind (wpAny_rule ?_)
  refine wpAny_bind (wpAny_setScan_of hkey' ho hd hf hel ?_)
  cases hfi : List.findIdx? (fun e => (mixKind P w).is k e.2) es.toList with
  | some j =>
    dsimp only
    obtain ⟨hj, pj, _⟩ := List.findIdx?_eq_some_iff_getElem.mp hfi
    have hin : k ∈ ks := hm.mem_iff.mp (List.mem_map.mpr ⟨es.toList[j], List.getElem_mem hj, (good_is (P := P) (g _ (List.getElem_mem hj)) k).mp pj⟩)
    refine wpAny_pure (wpAny_pure ?_)
    exact hQ s.heap (Heap.SameBut.refl a s.heap) (fun _ => ⟨o, es, ep, t, ho, hex, hd, g, hm, nd, hb, hf, hr, hl⟩) (fun z => absurd hin z) _
  | none =>
    dsimp only
    have hnk : k ∉ ks := fun z => by
      obtain ⟨e, he, q⟩ := List.mem_map.mp (hm.mem_iff.mpr z)
      have c := List.findIdx?_eq_none_iff.mp hfi e he
      rw [(good_is (P := P) (g e he) k).mpr q] at c
      cases c
    have hgw : ∀ (b : Bool) {s₁ : Shared} {Q' : Unit → Shared → Prop}, Q' () s₁ → wpAny (model P w) A (match b with | true => rule "set.scan.the-table-gave-way" | false => pure ()) Q' E s₁ :=
      fun b s₁ Q' q => by cases b <;> first | exact wpAny_pure q | exact wpAny_rule q
    have pm := layNew_perm t es ((mixKind P w).hash k) v
    have hf1 := layNew_fits t es ((mixKind P w).hash k) v
    have hr1 := layNew_ris t es ((mixKind P w).hash k) v hr
    have hl1 := layNew_led t es ((mixKind P w).hash k) v
    generalize layNew t es ((mixKind P w).hash k) v = Z at pm hf1 hr1 hl1 ⊢
    obtain ⟨es1, t1, wasDummy, gave⟩ := Z
    dsimp only at pm hf1 hr1 hl1 ⊢
    rw [Array.toList_push] at pm
    have pc : es1.toList.Perm (((mixKind P w).hash k, v) :: es.toList) := pm.trans (List.perm_append_singleton _ _)
    have hkv : kOfE ((mixKind P w).hash k, v) = k := (good_is (P := P) (w := w) (e := ((mixKind P w).hash k, v)) ⟨k, hkey, rfl⟩ k).mp hkey
    have pk : (es1.toList.map kOfE).Perm (k :: ks) := by
      have q := pc.map kOfE
      rw [List.map_cons, hkv] at q
      exact q.trans (hm.cons k)
    have g1 : ∀ e ∈ es1.toList, GoodM w e := fun e he => by
      rcases List.mem_cons.mp (pc.mem_iff.mp he) with z | z
      · rw [z]; exact ⟨k, hkey, rfl⟩
      · exact g e z
    have nd1 : (k :: ks).Nodup := List.nodup_cons.mpr ⟨hnk, nd⟩
    have hsz : es1.size = ks.length + 1 := by rw [← Array.length_toList, ← List.length_map (f := kOfE), pk.length_eq, List.length_cons]
    have hb1 : es1.size < scanBound := by rw [hsz]; exact room
    have hled : w.params.followText "set-order" = true ∨ t1.led = true := hl.imp id fun z => by rw [hl1]; exact z
    have fin : ∀ h', Heap.SameBut a s.heap h' → SetM w h' a (k :: ks) → Q true { s with heap := h' } := fun h' sb r => hQ h' sb (fun z => absurd z hnk) (fun _ => r) true
    refine wpAny_bind (hgw _ ?_)
    split
    · refine wpAny_bind ?_
      rw [hashByValue_scannable 8 hsc]
      refine wpAny_pure ?_
      refine setM_add_tail ?_ ho hex hd g1 nd1 pk hb1 ?_ ?_ ?_ ?_
      · intro b s₁ Q' q; cases b <;> first | exact wpAny_pure q | exact wpAny_rule q
      · first | (split <;> first | exact hf1 | exact SetTable.fits_plain_off hf1) | exact hf1
      · first | (split <;> exact hr1) | exact hr1
      · first | (split <;> exact hled) | exact hled
      · intro h' sb r; dsimp only; exact wpAny_pure (fin h' sb r)
    · refine wpAny_bind (wpAny_pure ?_)
      simp only [↓reduceIte]
      refine setM_add_tail ?_ ho hex hd g1 nd1 pk hb1 hf1 hr1 hled ?_
      · intro b s₁ Q' q; cases b <;> first | exact wpAny_pure q | exact wpAny_rule q
      · intro h' sb r; dsimp only; exact wpAny_pure (fin h' sb r)
theorem setM_fresh {h : Heap} {a : Addr} (ho : h.get? a = some { cls := .type "set", dict := none, data := .set #[] 0 (.fresh 0 0 (!w.params.followText "set-order")) }) : SetM w h a [] :=
  ⟨_, #[], 0, _, ho, ⟨rfl, rfl, rfl⟩, rfl, (fun e he => by simp at he), List.Perm.refl _, List.nodup_nil, (by decide), (by rfl), List.Pairwise.nil, by
    show _ ∨ (!w.params.followText "set-order") = true
    cases w.params.followText "set-order"
    · exact .inr rfl
    · exact .inl rfl⟩
/-- the members seen ahead of place i -/
def GotM (ks : List Key) (i : Nat) (L : List Key) : Prop := L.Nodup ∧ L.length ≤ i ∧ ∀ k, k ∈ L ↔ k ∈ ks.take i
theorem set_update_M {I : Addr} {fp wr : List Addr} {G : Array GenState → Array GenState → Prop} {n : Nat} {Pv : Nat → Value → Prop} {St : Nat → Shared → Prop} {R : Result → Shared → Prop}
    (W : WalksS P w A.in1 I fp wr G n Pv St) (S : Addr) (hSf : S ∉ fp) (ks : List Key) (hn : n = ks.length) (hb : ks.length + 1 < scanBound) (hval : ∀ i v, Pv i v → ∃ k, ks[i]? = some k ∧ keyIs k v = true) :
    ∀ (k i : Nat) (s : Shared), n - i = k → i ≤ n → St i s → (∃ L, GotM ks i L ∧ SetM w s.heap S L) →
      (∀ s' L, Moved (S :: wr) G s s' → GotM ks n L → SetM w s'.heap S L → R (.ok (.ret .none)) s') →
      codeAny (model P w) A (.builtin "set.update.loop" ⟨[.ref S, .ref I], []⟩) R s := by
  have hSw : S ∉ wr := fun h => hSf (W.sub _ h)
  have hsub : ∀ b ∈ wr, b ∈ S :: wr := fun b hb => List.mem_cons_of_mem _ hb
  intro k
  induction k with
  | zero =>
    intro i s hk' hi hst ⟨L, hL, hS⟩ hR
    have hin : i = n := by omega
    subst hin
    refine codeAny_builtin PyProof.Rows.F.entry_set_update_loop ?_
    rw [Around.under_plainId PyProof.Rows.F.plain_set_update_loop _]
    show wpAny _ A.in1 (pyNext (.ref I) >>= _) _ _ s
    refine wpAny_bind (W.done s _ _ hst fun s' hm => ?_)
    show wpAny _ A.in1 (ret Value.none) _ _ s'
    exact wpAny_pure (hR s' L (hm.mono hsub) hL (hS.at fun o e => hm.heap S o hSw e))
  | succ k ih =>
    intro i s hk' hi hst ⟨L, hL, hS⟩ hR
    have hlt : i < n := by omega
    refine codeAny_builtin PyProof.Rows.F.entry_set_update_loop ?_
    rw [Around.under_plainId PyProof.Rows.F.plain_set_update_loop _]
    show wpAny _ A.in1 (pyNext (.ref I) >>= _) _ _ s
    refine wpAny_bind (W.item i s _ _ hlt hst fun v s' hP hst' hm => ?_)
    obtain ⟨z, hz, hzk⟩ := hval i v hP
    have hS' : SetM w s'.heap S L := hS.at fun o e => hm.heap S o hSw e
    show wpAny _ A.in1 (holding [v] (setAdd S v) >>= _) _ _ s'
    refine wpAny_bind (wpAny_holding ?_)
    unfold setAdd
    refine wpAny_holding ?_
    refine wpAny_bind ((mixKind P w).pyHash (k := z) hzk ?_)
    have hl2 : L.length + 1 < scanBound := by have := hL.2.1; omega
    refine setM_add_hashed (s := { s' with toks := s'.toks + 1 }) hzk hS' hl2 fun h' hsb h1 h2 b => ?_
    have tk : ∀ k, k ∈ ks.take (i + 1) ↔ k = z ∨ k ∈ ks.take i := fun k => by
      rw [List.take_add_one, hz]
      simp [List.mem_append, or_comm]
    have hS3 : ∃ L', GotM ks (i + 1) L' ∧ SetM w h' S L' := by
      by_cases hm2 : z ∈ L
      · exact ⟨L, ⟨hL.1, by have := hL.2.1; omega, fun k => by
          rw [tk k, hL.2.2 k]
          exact ⟨.inr, fun q => q.elim (fun e => by rw [e]; exact (hL.2.2 z).mp hm2) id⟩⟩, h1 hm2⟩
      · exact ⟨z :: L, ⟨List.nodup_cons.mpr ⟨hm2, hL.1⟩, by have := hL.2.1; simp; omega, fun k => by
          rw [tk k, List.mem_cons, hL.2.2 k]⟩, h2 hm2⟩
    refine wpAny_pure ⟨plainId_quiet PyProof.Rows.F.plain_set_update_loop _, ih (i + 1) _ (by omega) hlt (W.frame _ s' _ _ hst' (Nat.le_succ _) fun b hb o e => ?_) hS3 fun s'' c2 hm'' hc'' hS'' => ?_⟩
    · rw [hsb.2 b (fun h : b = S => hSf (by rw [← h]; exact hb))]; exact e
    · refine hR s'' c2 (Moved.trans W.gtrans ((hm.mono hsub).then_heap (Nat.le_succ _) fun b o hb e => ?_) hm'') hc'' hS''
      rw [hsb.2 b (fun h : b = S => hb (by rw [h]; exact List.mem_cons_self))]; exact e
end
end HT
set_option Elab.async false
set_option linter.all false
set_option maxRecDepth 100000
set_option maxHeartbeats 4000000
/-! The generic layer, part 18: set(a list), set(a tuple); sorted. -/
namespace HT
open PySem PySem.Spec PyProof.Rows L2
section
variable {P : Program} {w : World} {A : Around} {E : Value → Shared → Prop} {s : Shared} {a : Addr}

set_option maxHeartbeats 6400000 in
theorem call_set_listM {l : Addr} {items : Array Value} (ks : List Key) {Q : Value → Shared → Prop} (hh : A.handled = none) (hl : s.heap.IsList l items) (hisz : items.size = ks.length) (hval : ∀ (i : Nat) (v : Value), items[i]? = some v → ∃ k, ks[i]? = some k ∧ keyIs k v = true) (hb : ks.length + 1 < scanBound)
    (h : ∀ (h' : Heap) (tk : Nat) (L : List Key), SetM w h' s.heap.objs.size L → GotM ks items.size L → (∀ b o, s.heap.get? b = some o → h'.get? b = some o) → Q (.ref s.heap.objs.size) { s with heap := h', toks := tk }) :
    wpAny (model P w) A (call (.type "set") [.ref l]) Q E s := by
  obtain ⟨c, tl, hmro⟩ := PySem.F.called_set.mro
  have hmade := PySem.F.called_set.made
  have hsub := PySem.F.called_set.sub
  refine wpAny_call (codeAny_of_tree ?_)
  show wpAny _ _ (callAny (.type "set") _) _ _ _
  refine wpAny_pure ⟨Code.quiet_builtin _ (by decide +kernel), codeAny_builtin PySem.F.entry_type_call ?_⟩
  rw [Around.under_plain (weight_type_call_type "set" [.ref l] []) rfl]
  have h1 := PySem.F.called_set.notType
  have h2 := PySem.F.called_set.canCreate
  have hct := PySem.F.typeCall_set_1 (.ref l)
  repeat (any_goals (first | assumption | wp_step))
  refine codeAny_mono (code_set_led1 (.ref l) (E := E) (Q₁ := fun obj s₁ => obj = .ref s.heap.objs.size ∧ s₁ = { s with heap := s.heap.push { cls := .type "set", dict := none, data := .set #[] 0 (.fresh 0 0 (!w.params.followText "set-order")) } }) ⟨rfl, rfl⟩) fun r s₁ hr => ?_
  cases r with
  | error e => exact hr
  | ok fl =>
    cases fl with
    | ret obj =>
      obtain ⟨rfl, rfl⟩ := hr
      have hS : (s.heap.push { cls := .type "set", dict := none, data := .set #[] 0 (.fresh 0 0 (!w.params.followText "set-order")) }).get? s.heap.objs.size = some { cls := .type "set", dict := none, data := .set #[] 0 (.fresh 0 0 (!w.params.followText "set-order")) } := Heap.get?_push_size _ rfl
      have hT : Shared.TypeIs { s with heap := s.heap.push { cls := .type "set", dict := none, data := .set #[] 0 (.fresh 0 0 (!w.params.followText "set-order")) } } (.ref s.heap.objs.size) "set" := ⟨_, hS, rfl⟩
      have hli := PySem.F.called_set.init.lookup
      have hbi := PySem.F.called_set.init.bind (.ref s.heap.objs.size)
      repeat (any_goals (first | assumption | wp_step))
      refine codeAny_mono (codeAny_call_builtin (R := wants (fun r s₂ => r = .none ∧ ∃ h' tk L, s₂ = { s with heap := h', toks := tk } ∧ SetM w h' s.heap.objs.size L ∧ GotM ks items.size L ∧
          (∀ b o, s.heap.get? b = some o → h'.get? b = some o)) E) PySem.F.called_set.init.plain PySem.F.entry_set_init (check_set_init_1 hT ?_)) fun r₂ s₂ hr₂ => ?_
      · obtain ⟨ol, hol, hcl, nl, hdl⟩ := hl
        obtain ⟨ocls, odict, odata, oslots⟩ := ol
        simp only at hcl hdl
        subst hcl; subst hdl
        have hol' : (s.heap.push { cls := .type "set", dict := none, data := .set #[] 0 (.fresh 0 0 (!w.params.followText "set-order")) }).get? l = some { cls := .type "list", dict := odict, data := .seq items nl, slots := oslots } := Heap.get?_push_of_some _ hol
        have hsls := PySem.F.sub_list_set
        have hslf := PySem.F.sub_list_frozenset
        have hne : (Value.type "list" == Value.type "dict") = false := by decide
        have hl1 : (s.heap.push { cls := .type "set", dict := none, data := .set #[] 0 (.fresh 0 0 (!w.params.followText "set-order")) }).IsList l items := ⟨_, hol', rfl, nl, rfl⟩
        unfold Builtin.«set.__init__» noKeywords Builtin.Frozenset.updateFrom
        generalize hPI : pyIter = PI
        wp_walk
        subst hPI
        refine wpAny_pyIter_list hl1 ?_
        refine wpAny_bind (wpAny_runValue ?_)
        have hlS : l < s.heap.objs.size := Heap.lt_size hol
        have hh3 : A.in1.in1.in1.handled = none := by simp [hh]
        have hneI : l ≠ (s.heap.push { cls := .type "set", dict := none, data := .set #[] 0 (.fresh 0 0 (!w.params.followText "set-order")) }).objs.size := by
          rw [Heap.size_push]; exact Nat.ne_of_lt (Nat.lt_succ_of_lt hlS)
        have hSf : s.heap.objs.size ∉ [(s.heap.push { cls := .type "set", dict := none, data := .set #[] 0 (.fresh 0 0 (!w.params.followText "set-order")) }).objs.size, l] := by
          rw [Heap.size_push]; simp only [List.mem_cons, List.mem_singleton, List.not_mem_nil, or_false, not_or]
          exact ⟨Nat.ne_of_lt (Nat.lt_succ_self _), Nat.ne_of_gt hlS⟩
        refine set_update_M ((Walks.list hh3 _ l hneI items).toS) s.heap.objs.size
          hSf ks hisz hb hval (items.size - 0) 0 _ (by omega) (Nat.zero_le _)
          ⟨⟨_, Heap.get?_push_size _ rfl, rfl, rfl⟩, ⟨_, Heap.get?_push_of_some _ hol', rfl, nl, rfl⟩⟩ ?hS0 ?hR
        case hS0 =>
          have hget : ((s.heap.push { cls := .type "set", dict := none, data := .set #[] 0 (.fresh 0 0 (!w.params.followText "set-order")) }).push { cls := .type "list_iterator", data := .fields #[.ref l, .int 0 0] }).get? s.heap.objs.size
              = some { cls := .type "set", dict := none, data := .set #[] 0 (.fresh 0 0 (!w.params.followText "set-order")) } := Heap.get?_push_of_some _ hS
          exact ⟨[], ⟨List.nodup_nil, Nat.le_refl _, fun k => by simp⟩, setM_fresh hget⟩
        case hR =>
          intro s' L hm hL hS'
          obtain ⟨h', g2, d', tk', os'⟩ := s'
          have eg : g2 = s.gens := hm.gens
          have ed : d' = s.drawn := hm.drawn
          have eo : os' = s.os := hm.os
          subst eg; subst ed; subst eo
          show wpAny _ _ _ _ _ _
          refine wpAny_pure ?_
          show wpAny _ _ (ret Value.none) _ _ _
          refine wpAny_pure ⟨rfl, h', tk', L, rfl, hS', hL, fun b o e => ?_⟩
          have hb0 : b < s.heap.objs.size := Heap.lt_size e
          have hb1 : b ≠ s.heap.objs.size := Nat.ne_of_lt hb0
          have hb2 : b ≠ (s.heap.push { cls := .type "set", dict := none, data := .set #[] 0 (.fresh 0 0 (!w.params.followText "set-order")) }).objs.size := by
            rw [Heap.size_push]; exact Nat.ne_of_lt (Nat.lt_succ_of_lt hb0)
          exact hm.heap b o (by simp only [List.mem_cons, List.mem_singleton, List.not_mem_nil, or_false, not_or]; exact ⟨hb1, hb2⟩) (Heap.get?_push_of_some _ (Heap.get?_push_of_some _ e))
      · cases r₂ with
        | error e => exact hr₂
        | ok fl₂ =>
          cases fl₂ with
          | ret r =>
            obtain ⟨rfl, h', tk, L, rfl, hS', hL, hk'⟩ := hr₂
            repeat (any_goals (first | assumption | wp_step))
            exact h _ _ _ hS' hL hk'
          | _ => exact hr₂.elim
    | _ => exact hr.elim

set_option maxHeartbeats 6400000 in
theorem call_set_tupleM {l : Addr} {items : Array Value} (ks : List Key) {Q : Value → Shared → Prop} (hh : A.handled = none) (hl : s.heap.IsTuple l items) (hisz : items.size = ks.length) (hval : ∀ (i : Nat) (v : Value), items[i]? = some v → ∃ k, ks[i]? = some k ∧ keyIs k v = true) (hb : ks.length + 1 < scanBound)
    (h : ∀ (h' : Heap) (tk : Nat) (L : List Key), SetM w h' s.heap.objs.size L → GotM ks items.size L → (∀ b o, s.heap.get? b = some o → h'.get? b = some o) → Q (.ref s.heap.objs.size) { s with heap := h', toks := tk }) :
    wpAny (model P w) A (call (.type "set") [.ref l]) Q E s := by
  obtain ⟨c, tl, hmro⟩ := PySem.F.called_set.mro
  have hmade := PySem.F.called_set.made
  have hsub := PySem.F.called_set.sub
  refine wpAny_call (codeAny_of_tree ?_)
  show wpAny _ _ (callAny (.type "set") _) _ _ _
  refine wpAny_pure ⟨Code.quiet_builtin _ (by decide +kernel), codeAny_builtin PySem.F.entry_type_call ?_⟩
  rw [Around.under_plain (weight_type_call_type "set" [.ref l] []) rfl]
  have h1 := PySem.F.called_set.notType
  have h2 := PySem.F.called_set.canCreate
  have hct := PySem.F.typeCall_set_1 (.ref l)
  repeat (any_goals (first | assumption | wp_step))
  refine codeAny_mono (code_set_led1 (.ref l) (E := E) (Q₁ := fun obj s₁ => obj = .ref s.heap.objs.size ∧ s₁ = { s with heap := s.heap.push { cls := .type "set", dict := none, data := .set #[] 0 (.fresh 0 0 (!w.params.followText "set-order")) } }) ⟨rfl, rfl⟩) fun r s₁ hr => ?_
  cases r with
  | error e => exact hr
  | ok fl =>
    cases fl with
    | ret obj =>
      obtain ⟨rfl, rfl⟩ := hr
      have hS : (s.heap.push { cls := .type "set", dict := none, data := .set #[] 0 (.fresh 0 0 (!w.params.followText "set-order")) }).get? s.heap.objs.size = some { cls := .type "set", dict := none, data := .set #[] 0 (.fresh 0 0 (!w.params.followText "set-order")) } := Heap.get?_push_size _ rfl
      have hT : Shared.TypeIs { s with heap := s.heap.push { cls := .type "set", dict := none, data := .set #[] 0 (.fresh 0 0 (!w.params.followText "set-order")) } } (.ref s.heap.objs.size) "set" := ⟨_, hS, rfl⟩
      have hli := PySem.F.called_set.init.lookup
      have hbi := PySem.F.called_set.init.bind (.ref s.heap.objs.size)
      repeat (any_goals (first | assumption | wp_step))
      refine codeAny_mono (codeAny_call_builtin (R := wants (fun r s₂ => r = .none ∧ ∃ h' tk L, s₂ = { s with heap := h', toks := tk } ∧ SetM w h' s.heap.objs.size L ∧ GotM ks items.size L ∧
          (∀ b o, s.heap.get? b = some o → h'.get? b = some o)) E) PySem.F.called_set.init.plain PySem.F.entry_set_init (check_set_init_1 hT ?_)) fun r₂ s₂ hr₂ => ?_
      · obtain ⟨ol, hol, hcl, nl, hdl⟩ := hl
        obtain ⟨ocls, odict, odata, oslots⟩ := ol
        simp only at hcl hdl
        subst hcl; subst hdl
        have hol' : (s.heap.push { cls := .type "set", dict := none, data := .set #[] 0 (.fresh 0 0 (!w.params.followText "set-order")) }).get? l = some { cls := .type "tuple", dict := odict, data := .seq items nl, slots := oslots } := Heap.get?_push_of_some _ hol
        have hsls := PySem.F.sub_tuple_set
        have hslf := PySem.F.sub_tuple_frozenset
        have hne : (Value.type "tuple" == Value.type "dict") = false := by decide
        have hl1 : (s.heap.push { cls := .type "set", dict := none, data := .set #[] 0 (.fresh 0 0 (!w.params.followText "set-order")) }).IsTuple l items := ⟨_, hol', rfl, nl, rfl⟩
        unfold Builtin.«set.__init__» noKeywords Builtin.Frozenset.updateFrom
        generalize hPI : pyIter = PI
        wp_walk
        subst hPI
        refine wpAny_pyIter_tuple hl1 ?_
        refine wpAny_bind (wpAny_runValue ?_)
        have hlS : l < s.heap.objs.size := Heap.lt_size hol
        have hh3 : A.in1.in1.in1.handled = none := by simp [hh]
        have hneI : l ≠ (s.heap.push { cls := .type "set", dict := none, data := .set #[] 0 (.fresh 0 0 (!w.params.followText "set-order")) }).objs.size := by
          rw [Heap.size_push]; exact Nat.ne_of_lt (Nat.lt_succ_of_lt hlS)
        have hSf : s.heap.objs.size ∉ [(s.heap.push { cls := .type "set", dict := none, data := .set #[] 0 (.fresh 0 0 (!w.params.followText "set-order")) }).objs.size, l] := by
          rw [Heap.size_push]; simp only [List.mem_cons, List.mem_singleton, List.not_mem_nil, or_false, not_or]
          exact ⟨Nat.ne_of_lt (Nat.lt_succ_self _), Nat.ne_of_gt hlS⟩
        refine set_update_M ((Walks.tuple hh3 _ l hneI items).toS) s.heap.objs.size
          hSf ks hisz hb hval (items.size - 0) 0 _ (by omega) (Nat.zero_le _)
          ⟨⟨_, Heap.get?_push_size _ rfl, rfl, rfl⟩, ⟨_, Heap.get?_push_of_some _ hol', rfl, nl, rfl⟩⟩ ?hS0 ?hR
        case hS0 =>
          have hget : ((s.heap.push { cls := .type "set", dict := none, data := .set #[] 0 (.fresh 0 0 (!w.params.followText "set-order")) }).push { cls := .type "tuple_iterator", data := .fields #[.ref l, .int 0 0] }).get? s.heap.objs.size
              = some { cls := .type "set", dict := none, data := .set #[] 0 (.fresh 0 0 (!w.params.followText "set-order")) } := Heap.get?_push_of_some _ hS
          exact ⟨[], ⟨List.nodup_nil, Nat.le_refl _, fun k => by simp⟩, setM_fresh hget⟩
        case hR =>
          intro s' L hm hL hS'
          obtain ⟨h', g2, d', tk', os'⟩ := s'
          have eg : g2 = s.gens := hm.gens
          have ed : d' = s.drawn := hm.drawn
          have eo : os' = s.os := hm.os
          subst eg; subst ed; subst eo
          show wpAny _ _ _ _ _ _
          refine wpAny_pure ?_
          show wpAny _ _ (ret Value.none) _ _ _
          refine wpAny_pure ⟨rfl, h', tk', L, rfl, hS', hL, fun b o e => ?_⟩
          have hb0 : b < s.heap.objs.size := Heap.lt_size e
          have hb1 : b ≠ s.heap.objs.size := Nat.ne_of_lt hb0
          have hb2 : b ≠ (s.heap.push { cls := .type "set", dict := none, data := .set #[] 0 (.fresh 0 0 (!w.params.followText "set-order")) }).objs.size := by
            rw [Heap.size_push]; exact Nat.ne_of_lt (Nat.lt_succ_of_lt hb0)
          exact hm.heap b o (by simp only [List.mem_cons, List.mem_singleton, List.not_mem_nil, or_false, not_or]; exact ⟨hb1, hb2⟩) (Heap.get?_push_of_some _ (Heap.get?_push_of_some _ e))
      · cases r₂ with
        | error e => exact hr₂
        | ok fl₂ =>
          cases fl₂ with
          | ret r =>
            obtain ⟨rfl, h', tk, L, rfl, hS', hL, hk'⟩ := hr₂
            repeat (any_goals (first | assumption | wp_step))
            exact h _ _ _ hS' hL hk'
          | _ => exact hr₂.elim
    | _ => exact hr.elim

end
end HT
set_option Elab.async false
set_option linter.all false
set_option maxRecDepth 100000
set_option maxHeartbeats 4000000
/-! The generic layer, part 19: sorting. -/
namespace HT
open PySem PySem.Spec PyProof.Rows L2
section
variable {P : Program} {w : World} {A : Around} {E : Value → Shared → Prop} {s : Shared} {a : Addr} {ks : List Key}
theorem ltCps_lt (x y : List Nat) : ltCps x y = decide (x < y) := ltCps_eq x y
/-- sorted(a set), all ints or all texts -/
theorem sorted_setM {Q : Value → Shared → Prop} (R : SetM w s.heap a ks) (hh : A.handled = none) (hn : ks.length ≤ sizeLine)
    (hI : ∀ s' p (out : Array Value) (c : Nat) (ns ns' : List Int), ks = ns.map Sum.inl → (∀ b o, s.heap.get? b = some o → s'.heap.get? b = some o) → s'.gens = s.gens → s'.os = s.os → s.heap.objs.size ≤ p →
      s'.heap.get? p = some (seqObj "list" out c) → IntsAre out.toList ns' → ns'.Perm ns → ns'.Pairwise (· ≤ ·) → Q (.ref p) s')
    (hS : ∀ s' p (out : Array Value) (c : Nat) (ns ns' : List Str), ks = ns.map Sum.inr → (∀ b o, s.heap.get? b = some o → s'.heap.get? b = some o) → s'.gens = s.gens → s'.os = s.os → s.heap.objs.size ≤ p →
      s'.heap.get? p = some (seqObj "list" out c) → StrsAre out.toList ns' → ns'.Perm ns → sortedS ns' = true → Q (.ref p) s')
    (hK : (∃ ns : List Int, ks = ns.map Sum.inl) ∨ ∃ ns : List Str, ks = ns.map Sum.inr) :
    wpAny (model P w) A (call (.builtin "sorted") [.ref a]) Q E s := by
  obtain ⟨o, es, ep, t, ho, hex, hd, g, hm, nd, hb, hf, hr, hl⟩ := R
  refine Calls.call_function_entry kind_sorted plain_sorted entry_sorted (args_sorted1 _) ?_
  unfold Builtin.«sorted»
  refine wpAny_bind (m := checkCount "sorted" 1 1 _) (wpAny_pure ?_)
  refine wpAny_bind (collect_set (A := A.in1) hh ⟨o, ho, hex.1, hd⟩ hf hb hr hl fun s1 vs k1 hz g1 o1 pm => ?_)
  have hel : es.toList.length = ks.length := by rw [← List.length_map (f := kOfE), hm.length_eq]
  have hvl : vs.length = ks.length := by rw [pm.length_eq, List.length_map, hel]
  refine wpAny_bind (wpAny_newList ?_ (by rw [hvl]; exact hn))
  have hoL : (s1.heap.push (seqObj "list" vs.toArray 0)).get? s1.heap.objs.size = some (seqObj "list" vs.toArray 0) := Heap.get?_push_size _ rfl
  have keep : ∀ (out : Array Value) (b : Addr) (u : Obj), s.heap.get? b = some u → (sortedHeap (s1.heap.push (seqObj "list" vs.toArray 0)) s1.heap.objs.size vs out).get? b = some u := fun out b u e => by
    have q := k1 b u e
    have hlt := Heap.lt_size q
    rw [sortedHeap_old (Nat.ne_of_lt hlt) (by rw [size_push']; exact Nat.lt_succ_of_lt hlt)]
    exact Heap.get?_push_of_some _ q
  rcases hK with ⟨ns, hns⟩ | ⟨ns, hns⟩
  · have kI : ∀ e ∈ es.toList, ∃ i tk, e.2 = Value.int i tk ∧ kOfE e = Sum.inl i := fun e he => by
      have hk := (good_kOf (g e he)).1
      have hin : kOfE e ∈ ks := hm.mem_iff.mp (List.mem_map.mpr ⟨e, he, rfl⟩)
      rw [hns] at hin
      obtain ⟨i, _, hi⟩ := List.mem_map.mp hin
      rw [← hi] at hk
      rcases keyIs_shape hk with ⟨j, t', e1, e2⟩ | ⟨x, t', e1, e2⟩
      · exact ⟨j, t', e2, hi.symm.trans e1⟩
      · cases e1
    have hIv : IntsAre vs (vs.map Builtin.Re.reRawOf) := ints_of vs fun v hv => by
      obtain ⟨e, he, q⟩ := List.mem_map.mp (pm.mem_iff.mp hv)
      obtain ⟨i, tk, h1, _⟩ := kI e he
      exact ⟨i, tk, by rw [← q]; exact h1⟩
    have pk : (vs.map Builtin.Re.reRawOf).Perm ns := by
      have q := pm.map Builtin.Re.reRawOf
      rw [List.map_map] at q
      have q2 : (es.toList.map kOfE) = (es.toList.map (Builtin.Re.reRawOf ∘ (·.2))).map Sum.inl := by
        rw [List.map_map]
        refine List.map_congr_left fun e he => ?_
        obtain ⟨i, tk, h1, h2⟩ := kI e he
        show kOfE e = Sum.inl (Builtin.Re.reRawOf e.2)
        rw [h1, h2]
        rfl
      rw [q2, hns] at hm
      have inj : Function.Injective (Sum.inl : Int → Key) := fun x y h => Sum.inl.inj h
      have hm2 : (es.toList.map (Builtin.Re.reRawOf ∘ (·.2))).Perm ns := by
        have z := hm.map (fun k : Key => match k with | .inl i => i | .inr _ => 0)
        have e1 : ∀ l : List Int, (l.map (Sum.inl : Int → Key)).map (fun k : Key => match k with | .inl i => i | .inr _ => 0) = l := fun l => by
          induction l with
          | nil => rfl
          | cons x l ih => rw [List.map_cons, List.map_cons, ih]
        rw [e1, e1] at z
        exact z
      exact q.trans hm2
    refine wpAny_bind (wpAny_holding (wpAny_call_entry slot_list_sort ⟨_, hoL, rfl⟩ entry_list_sort (list_sort_treeAny hoL hIv (by rw [hvl]; exact hn) fun out ns' a1 a2 a3 => ⟨_, rfl, ?_⟩) (args_list_sort _)))
    obtain ⟨c, hc⟩ := sortedHeap_at (vs := vs) (out := out) hoL
    exact wpAny_pure ⟨_, rfl, hI _ s1.heap.objs.size out c ns ns' hns (keep out) g1 o1 hz hc a1 (a2.trans pk) a3⟩
  · have kI : ∀ e ∈ es.toList, ∃ i tk, e.2 = Value.str i tk ∧ kOfE e = Sum.inr i := fun e he => by
      have hk := (good_kOf (g e he)).1
      have hin : kOfE e ∈ ks := hm.mem_iff.mp (List.mem_map.mpr ⟨e, he, rfl⟩)
      rw [hns] at hin
      obtain ⟨i, _, hi⟩ := List.mem_map.mp hin
      rw [← hi] at hk
      rcases keyIs_shape hk with ⟨j, t', e1, e2⟩ | ⟨x, t', e1, e2⟩
      · cases e1
      · exact ⟨x, t', e2, hi.symm.trans e1⟩
    have hIv : StrsAre vs (vs.map strOf) := strsAre_map vs fun v hv => by
      obtain ⟨e, he, q⟩ := List.mem_map.mp (pm.mem_iff.mp hv)
      obtain ⟨i, tk, h1, _⟩ := kI e he
      exact ⟨i, tk, by rw [← q]; exact h1⟩
    have pk : (vs.map strOf).Perm ns := by
      have q := pm.map strOf
      rw [List.map_map] at q
      have q2 : (es.toList.map kOfE) = (es.toList.map (strOf ∘ (·.2))).map Sum.inr := by
        rw [List.map_map]
        refine List.map_congr_left fun e he => ?_
        obtain ⟨i, tk, h1, h2⟩ := kI e he
        show kOfE e = Sum.inr (strOf e.2)
        rw [h1, h2]
        rfl
      rw [q2, hns] at hm
      have hm2 : (es.toList.map (strOf ∘ (·.2))).Perm ns := by
        have z := hm.map (fun k : Key => match k with | .inr i => i | .inl _ => ⟨#[]⟩)
        have e1 : ∀ l : List Str, (l.map (Sum.inr : Str → Key)).map (fun k : Key => match k with | .inr i => i | .inl _ => ⟨#[]⟩) = l := fun l => by
          induction l with
          | nil => rfl
          | cons x l ih => rw [List.map_cons, List.map_cons, ih]
        rw [e1, e1] at z
        exact z
      exact q.trans hm2
    refine wpAny_bind (wpAny_holding (wpAny_call_entry slot_list_sort ⟨_, hoL, rfl⟩ entry_list_sort (list_sort_treeKAny strKind_oneLt hoL hIv.keysOf (fun v₁ v₂ rest e => keyKind_strs (by rw [← e]; exact hIv)) (by rw [hvl]; exact hn) fun st' a1 a2 => ⟨_, rfl, ?_⟩) (args_list_sort _)))
    obtain ⟨c, hc⟩ := sortedHeap_at (vs := vs) (out := (arrOf st').map (·.2)) hoL
    obtain ⟨ss', b1, b2, b3⟩ := sorted_out_str hIv a1 a2
    exact wpAny_pure ⟨_, rfl, hS _ s1.heap.objs.size _ c ns ss' hns (keep _) g1 o1 hz hc b1 (b2.trans pk) b3⟩
end
end HT
namespace L2
open PySem PySem.Spec PyProof.Rows
/-- the set at a (01's HO.ext) -/
def SetMO (w : World) (a : Addr) (ks : List Key) : HO := .ext fun h => HT.SetM w h a ks
section
variable {X : Cx}
theorem setMO_new {w : World} {P : Program} {H : Hp} {h : Heap} {a : Addr} {ks : List Key} (R : HT.SetM w h a ks) : ObjOk P w H h a (SetMO w a ks) := by
  have ⟨o, _, _, _, ho, _⟩ := R
  exact ⟨R, ⟨o, ho⟩, fun h1 h2 p k => HT.SetM.at p k⟩
theorem setMO_get {pins : List (Addr × Obj)} {σ : St} {H : Hp} {s : Shared} {a : Addr} {ks : List Key} (I : Inv X pins σ H s) (ha : H a = some (SetMO X.w a ks)) : HT.SetM X.w s.heap a ks := (I.hok a _ ha).1
theorem kV_keyIs {k : Key} {u : Value} (r : RelV (kV k) u) : keyIs k u = true := by
  cases k with
  | inl i => obtain ⟨t, rfl⟩ := r; exact keyIs_int i t
  | inr x => obtain ⟨t, rfl⟩ := r; exact keyIs_str x t
/-- set(xs), xs a list or a tuple of ints and texts -/
def rSetM (K : PySem.W.Frag) (w : World) : List V → Hp → VK → Prop := fun xs H Q => ∃ (l : Addr) (ks : List Key), xs = [V.ref l] ∧ (SqL K H l (ks.map kV) ∨ SqT K H l (ks.map kV)) ∧ ks.length + 1 < scanBound ∧
  ∀ a L, H a = none → L.Nodup → (∀ k, k ∈ L ↔ k ∈ ks) → Q (.ref a) (upd H a (SetMO w a L))
theorem cr_setM (hc : X.calm = true) : CallR X (.type "set") (rSetM X.K X.w) := by
  intro pins s σ H xs us Q I r h
  obtain ⟨l, ks, rfl, hq, hb, q⟩ := h
  rw [Vals.ref1 r]
  have fin : ∀ (n : Nat), n = ks.length → ∀ (h' : Heap) (tk : Nat) (L : List Key), HT.SetM X.w h' s.heap.objs.size L → HT.GotM ks n L → (∀ b o, s.heap.get? b = some o → h'.get? b = some o) → EP X pins σ Q (.ref s.heap.objs.size) { s with heap := h', toks := tk } := fun n hn h' tk L R G k => by
    refine ⟨.ref s.heap.objs.size, upd H s.heap.objs.size (SetMO X.w s.heap.objs.size L), I.laid k (Nat.le_refl _) (setMO_new R), rfl, q _ L (I.hok.fresh (Nat.le_refl _)) G.1 fun z => ?_⟩
    rw [G.2.2 z, hn, List.take_length]
  have val : ∀ (its : List Value), Vals (ks.map kV) its → ∀ (i : Nat) (v : Value), its.toArray[i]? = some v → ∃ k, ks[i]? = some k ∧ keyIs k v = true := fun its rv i v hv => by
    have hv' : its[i]? = some v := by simpa using hv
    have hi : i < ks.length := by
      have := rv.length
      rw [List.length_map] at this
      rw [this]
      exact (List.getElem?_eq_some_iff.mp hv').1
    obtain ⟨u, hu, ru⟩ := rv.get (i := i) (x := kV ks[i]) (by simp [hi])
    rw [hv'] at hu
    cases hu
    exact ⟨ks[i], List.getElem?_eq_getElem hi, kV_keyIs ru⟩
  rcases hq with hq | hq
  · obtain ⟨its, rv, hl, _⟩ := I.list hq
    have hlen : its.toArray.size = ks.length := by rw [List.size_toArray, ← rv.length, List.length_map]
    exact HT.call_set_listM ks (I.ok.hd hc) hl.isList hlen (val its rv) hb fun h' tk L R G k => fin _ hlen h' tk L R G k
  · obtain ⟨its, rv, ht, _⟩ := I.tuple hq
    have hlen : its.toArray.size = ks.length := by rw [List.size_toArray, ← rv.length, List.length_map]
    exact HT.call_set_tupleM ks (I.ok.hd hc) (show s.heap.IsTuple l its.toArray from ht) hlen (val its rv) hb fun h' tk L R G k => fin _ hlen h' tk L R G k
/-- sorted(a set) -/
def rSortedM (w : World) : List V → Hp → VK → Prop := fun vs H Q => ∃ (a : Addr) (ks : List Key), vs = [V.ref a] ∧ H a = some (SetMO w a ks) ∧ ks.length ≤ sizeLine ∧
  ((∃ ns : List Int, ks = ns.map Sum.inl ∧ ∀ (ns' : List Int) (p : Addr), ns'.Perm ns → ns'.Pairwise (· ≤ ·) → H p = none → Q (.ref p) (upd H p (.lst (ns'.map V.int)))) ∨
   (∃ ns : List Str, ks = ns.map Sum.inr ∧ ∀ (ns' : List Str) (p : Addr), ns'.Perm ns → sortedS ns' = true → H p = none → Q (.ref p) (upd H p (.lst (ns'.map V.str)))))
theorem inl_inj : ∀ {a b : List Int}, a.map (Sum.inl : Int → Key) = b.map Sum.inl → a = b
  | [], [], _ => rfl
  | [], _ :: _, h => by cases h
  | _ :: _, [], h => by cases h
  | x :: a, y :: b, h => by
    simp only [List.map_cons, List.cons.injEq] at h
    rw [Sum.inl.inj h.1, inl_inj h.2]
theorem inr_inj : ∀ {a b : List Str}, a.map (Sum.inr : Str → Key) = b.map Sum.inr → a = b
  | [], [], _ => rfl
  | [], _ :: _, h => by cases h
  | _ :: _, [], h => by cases h
  | x :: a, y :: b, h => by
    simp only [List.map_cons, List.cons.injEq] at h
    rw [Sum.inr.inj h.1, inr_inj h.2]
theorem mixed_nil {a : List Int} {b : List Str} (h : a.map (Sum.inl : Int → Key) = b.map Sum.inr) : a = [] ∧ b = [] := by
  cases a with
  | nil => cases b with
    | nil => exact ⟨rfl, rfl⟩
    | cons y b => cases h
  | cons x a => cases b with
    | nil => cases h
    | cons y b => simp at h
theorem cr_sortedM (hc : X.calm = true) : CallR X (.builtin "sorted") (rSortedM X.w) := by
  intro pins s σ H vs us Q I r h
  obtain ⟨a, ks, rfl, ha, hn, hq⟩ := h
  have R := setMO_get I ha
  rw [Vals.ref1 r]
  have fin : ∀ (s' : Shared) (p : Addr) (vs' : List V) (out : Array Value) (c : Nat), (∀ b o, s.heap.get? b = some o → s'.heap.get? b = some o) → s'.gens = s.gens → s'.os = s.os → s.heap.objs.size ≤ p →
      s'.heap.get? p = some (seqObj "list" out c) → Vals vs' out.toList → vs'.length ≤ sizeLine → Q (.ref p) (upd H p (.lst vs')) → EP X pins σ Q (.ref p) s' := fun s' p vs' out c k g o hp hg rv hlen q => by
    have hn : H p = none := I.hok.fresh hp
    have J : Inv X pins σ (upd H p (.lst vs')) { s with heap := s'.heap, gens := s'.gens, drawn := s'.drawn, toks := s'.toks } :=
      I.call (ch := []) (Un.laid k hp hn) (I.hok.laid k hp ⟨hlen, out.toList, c, rv, hg⟩) (by rw [g]; exact I.bare) (fun _ z => nomatch z)
    have e : s' = { s with heap := s'.heap, gens := s'.gens, drawn := s'.drawn, toks := s'.toks } := by
      cases s'
      cases s
      cases o
      rfl
    rw [e]
    exact ⟨.ref p, _, J, rfl, q⟩
  refine HT.sorted_setM R (I.ok.hd hc) hn (fun s' p out c ns ns' hns k g o hp hg hi hpm hs => ?_) (fun s' p out c ns ns' hns k g o hp hg hi hpm hs => ?_) ?_
  · have hl : (ns'.map V.int).length ≤ sizeLine := by rw [List.length_map, hpm.length_eq, ← List.length_map (f := (Sum.inl : Int → Key)), ← hns]; exact hn
    refine fin s' p (ns'.map V.int) out c k g o hp hg (vals_of_ints hi) hl ?_
    rcases hq with ⟨ms, e, q⟩ | ⟨ms, e, q⟩
    · cases inl_inj (hns.symm.trans e)
      exact q ns' p hpm hs (I.hok.fresh hp)
    · obtain ⟨rfl, rfl⟩ := mixed_nil (hns.symm.trans e)
      have e2 : ns' = [] := List.Perm.eq_nil hpm
      subst e2
      exact q [] p (List.Perm.refl _) rfl (I.hok.fresh hp)
  · have hl : (ns'.map V.str).length ≤ sizeLine := by rw [List.length_map, hpm.length_eq, ← List.length_map (f := (Sum.inr : Str → Key)), ← hns]; exact hn
    refine fin s' p (ns'.map V.str) out c k g o hp hg (vals_of_strs hi) hl ?_
    rcases hq with ⟨ms, e, q⟩ | ⟨ms, e, q⟩
    · obtain ⟨rfl, rfl⟩ := mixed_nil (e.symm.trans hns)
      have e2 : ns' = [] := List.Perm.eq_nil hpm
      subst e2
      exact q [] p (List.Perm.refl _) List.Pairwise.nil (I.hok.fresh hp)
    · cases inr_inj (hns.symm.trans e)
      exact q ns' p hpm hs (I.hok.fresh hp)
  · rcases hq with ⟨ns, e, _⟩ | ⟨ns, e, _⟩
    · exact .inl ⟨ns, e⟩
    · exact .inr ⟨ns, e⟩
/-- len(a set) -/
def rLenM (w : World) : List V → Hp → VK → Prop := fun vs H Q => ∃ (a : Addr) (ks : List Key), vs = [V.ref a] ∧ H a = some (SetMO w a ks) ∧ Q (.int ks.length) H
theorem cr_lenM : CallR X (.builtin "len") (rLenM X.w) := by
  intro pins s σ H vs us Q I r h
  obtain ⟨a, ks, rfl, ha, q⟩ := h
  have R := setMO_get I ha
  rw [Vals.ref1 r]
  obtain ⟨o, es, ep, t, ho, hex, hd, g, hm, nd, hb, hf, hr, hl⟩ := R
  have hel : es.size = ks.length := by rw [← Array.length_toList, ← List.length_map (f := HT.kOfE), hm.length_eq]
  have hb2 := fits_of_scanBound hb
  have hs := sizeLine_eq
  exact call_len_set ho hex hd hf (by omega) ⟨.int ks.length, H, I.tok _, ⟨_, by rw [hel]⟩, q⟩
end
end L2
set_option Elab.async false
set_option linter.all false
set_option maxRecDepth 100000
set_option maxHeartbeats 4000000
/-! The generic layer, part 20: sorted(..), sorted(set(..)), len(set(..)). -/
namespace L2
open PySem PySem.Spec PyProof.Rows
section
variable {X : Cx}
def rSortedS2 (K : PySem.W.Frag) : List V → Hp → VK → Prop := fun vs H Q => ∃ (a : Addr) (xs : List Str), vs = [V.ref a] ∧ SqL K H a (xs.map V.str) ∧
  ∀ (ys : List Str) (p : Addr), ys.Perm xs → sortedS ys = true → H p = none → Q (.ref p) (upd H p (.lst (ys.map V.str)))
theorem cr_sortedS2 : CallR X (.builtin "sorted") (rSortedS2 X.K) := by
  intro pins s σ H vs us Q I r h
  obtain ⟨a, xs, rfl, hs, q⟩ := h
  obtain ⟨its, rv, hl, hz⟩ := I.list hs
  rw [Vals.ref1 r]
  have hlen0 := rv.length
  refine PyProof.Rows.sorted_strsAny hl.isList rv.strs (by rw [← hlen0]; exact hz) fun out ys h1 h2 h3 => ?_
  obtain ⟨ep, he'⟩ := PyProof.Rows.sortedAll_at s.heap its out
  have hlen : (ys.map V.str).length ≤ sizeLine := by rw [List.length_map, h2.length_eq, ← List.length_map (f := V.str)]; exact hz
  exact ⟨.ref _, upd H (s.heap.objs.size + 1) (.lst (ys.map V.str)), I.laid (t' := s.toks) (fun _ _ => PyProof.Rows.sortedAll_old) (Nat.le_succ _) ⟨hlen, out.toList, ep, vals_of_strs h1, he'⟩, rfl, q ys _ h2 h3 (I.hok.fresh (Nat.le_succ _))⟩
end
theorem nodup_of_map0 {α β : Type} {f : α → β} {l : List α} (h : (l.map f).Nodup) : l.Nodup := List.Pairwise.of_map f (fun _ _ hne e => hne (congrArg f e)) h
theorem nodup_map_of {α β : Type} {f : α → β} (inj : ∀ x y, f x = f y → x = y) : ∀ {l : List α}, l.Nodup → (l.map f).Nodup
  | [], _ => List.nodup_nil
  | x :: l, h => by
    obtain ⟨h1, h2⟩ := List.nodup_cons.mp h
    refine List.nodup_cons.mpr ⟨fun hm => ?_, nodup_map_of inj h2⟩
    obtain ⟨y, hy, e⟩ := List.mem_map.mp hm
    exact h1 (inj _ _ e ▸ hy)
end L2
namespace U
open PySem PySem.Spec PyProof.Rows L2
/-! ### sorting, dropping repeats -/
theorem sorted_uniq {α : Type} {le : α → α → Prop} (anti : ∀ a b, le a b → le b a → a = b) : ∀ {l1 l2 : List α}, l1.Perm l2 → l1.Pairwise le → l2.Pairwise le → l1 = l2
  | [], l2, p, _, _ => (List.Perm.nil_eq p)
  | x :: l1, [], p, _, _ => absurd (List.Perm.eq_nil p) (by simp)
  | x :: l1, y :: l2, p, h1, h2 => by
    obtain ⟨a1, b1⟩ := List.pairwise_cons.mp h1
    obtain ⟨a2, b2⟩ := List.pairwise_cons.mp h2
    have hxy : x = y := by
      have m1 : x ∈ y :: l2 := p.mem_iff.mp List.mem_cons_self
      have m2 : y ∈ x :: l1 := p.mem_iff.mpr List.mem_cons_self
      rcases List.mem_cons.mp m1 with e | e
      · exact e
      · rcases List.mem_cons.mp m2 with e' | e'
        · exact e'.symm
        · exact anti _ _ (a1 y e') (a2 x e)
    subst hxy
    rw [sorted_uniq anti (List.Perm.cons_inv p) b1 b2]
def sortI (ns : List Int) : List Int := ns.mergeSort fun a b => decide (a ≤ b)
def sortC (xs : List (List Nat)) : List (List Nat) := xs.mergeSort fun a b => decide (a ≤ b)
theorem sortI_perm (ns : List Int) : (sortI ns).Perm ns := List.mergeSort_perm _ _
theorem sortC_perm (xs : List (List Nat)) : (sortC xs).Perm xs := List.mergeSort_perm _ _
theorem sortI_sorted (ns : List Int) : (sortI ns).Pairwise (· ≤ ·) := by
  have h := List.pairwise_mergeSort (le := fun a b : Int => decide (a ≤ b)) (fun a b c h1 h2 => by simp at h1 h2 ⊢; omega) (fun a b => by simp; omega) ns
  exact h.imp fun h => of_decide_eq_true h
theorem sortC_sorted (xs : List (List Nat)) : (sortC xs).Pairwise (· ≤ ·) := by
  have h := List.pairwise_mergeSort (le := fun a b : List Nat => decide (a ≤ b)) (fun a b c h1 h2 => decide_eq_true (List.le_trans (of_decide_eq_true h1) (of_decide_eq_true h2))) (fun a b => by
    rcases List.le_total a b with h | h
    · simp [h]
    · simp [h]) xs
  exact h.imp fun h => of_decide_eq_true h
theorem sortI_eq {ns ns' : List Int} (p : ns'.Perm ns) (h : ns'.Pairwise (· ≤ ·)) : ns' = sortI ns := sorted_uniq (fun a b h1 h2 => by omega) (p.trans (sortI_perm ns).symm) h (sortI_sorted ns)
theorem sortC_eq {xs xs' : List (List Nat)} (p : xs'.Perm xs) (h : xs'.Pairwise (· ≤ ·)) : xs' = sortC xs := sorted_uniq (fun a b h1 h2 => List.le_antisymm h1 h2) (p.trans (sortC_perm xs).symm) h (sortC_sorted xs)
abbrev cod (x : Str) : List Nat := x.cps.toList
theorem rising_pw : ∀ (p : Str) (l : List Str), risingS p l = true → ((p :: l).map cod).Pairwise (fun a b => a ≤ b)
  | p, [], _ => by simp
  | p, x :: r, h => by
    have h2 : (!ltCps x.cps.toList p.cps.toList && risingS x r) = true := h
    rw [Bool.and_eq_true, Bool.not_eq_true'] at h2
    have ih := rising_pw x r h2.2
    have hpx : cod p ≤ cod x := by
      have e := h2.1
      rw [HT.ltCps_lt] at e
      exact of_decide_eq_false e
    rw [List.map_cons]
    refine List.pairwise_cons.mpr ⟨fun y hy => ?_, ih⟩
    rw [List.map_cons] at hy ih
    rcases List.mem_cons.mp hy with e | e
    · rw [e]; exact hpx
    · exact List.le_trans hpx ((List.pairwise_cons.mp ih).1 y e)
theorem sorted_pw : ∀ {l : List Str}, sortedS l = true → (l.map cod).Pairwise (fun a b => a ≤ b)
  | [], _ => List.Pairwise.nil
  | x :: r, h => rising_pw x r h
def ddP {α : Type} [DecidableEq α] : List α → List α
  | [] => []
  | x :: r => if x ∈ ddP r then ddP r else x :: ddP r
theorem ddP_mem {α : Type} [DecidableEq α] {x : α} : ∀ {l : List α}, x ∈ ddP l ↔ x ∈ l
  | [] => Iff.rfl
  | y :: r => by
    unfold ddP
    split
    · rename_i h
      rw [ddP_mem, List.mem_cons]
      exact ⟨.inr, fun q => q.elim (fun e => by rw [e]; exact ddP_mem.mp h) id⟩
    · rw [List.mem_cons, List.mem_cons, ddP_mem]
theorem ddP_nodup {α : Type} [DecidableEq α] : ∀ {l : List α}, (ddP l).Nodup
  | [] => List.nodup_nil
  | y :: r => by
    unfold ddP
    split
    · exact ddP_nodup
    · rename_i h
      exact List.nodup_cons.mpr ⟨h, ddP_nodup⟩
theorem nodup_map_cod : ∀ {l : List Str}, l.Nodup → (l.map cod).Nodup
  | [], _ => List.nodup_nil
  | x :: l, h => by
    obtain ⟨h1, h2⟩ := List.nodup_cons.mp h
    refine List.nodup_cons.mpr ⟨fun hm => ?_, nodup_map_cod h2⟩
    obtain ⟨y, hy, e⟩ := List.mem_map.mp hm
    have e2 : y = x := by
      obtain ⟨a⟩ := x
      obtain ⟨b⟩ := y
      have : b.toList = a.toList := e
      have : b = a := by rw [← Array.toArray_toList (xs := b), this, Array.toArray_toList]
      rw [this]
    exact h1 (e2 ▸ hy)
variable [Tab]
theorem cod_mk (l : List (List Nat)) : (l.map fun x => (⟨x.toArray⟩ : Str)).map cod = l := by
  rw [List.map_map]
  have : ∀ l : List (List Nat), l.map (cod ∘ fun x => (⟨x.toArray⟩ : Str)) = l := fun l => by
    induction l with
    | nil => rfl
    | cons x l ih =>
      rw [List.map_cons, ih]
      show x.toArray.toList :: l = x :: l
      rw [List.toList_toArray]
  exact this l
theorem mk_cod (l : List Str) : (l.map cod).map (fun x => (⟨x.toArray⟩ : Str)) = l := by
  induction l with
  | nil => rfl
  | cons x l ih =>
    rw [List.map_cons, List.map_cons, ih]
theorem rvs_strs {K : PySem.W.Frag} {w : Wd} (l : List Str) : RVs K w ((l.map cod).map PV.str) (l.map V.str) := by
  induction l with
  | nil => exact rfl
  | cons x l ih =>
    refine ⟨V.str x, l.map V.str, rfl, ?_, ih⟩
    show V.str x = V.str ⟨(cod x).toArray⟩
    obtain ⟨a⟩ := x
    show V.str ⟨a⟩ = V.str ⟨a.toList.toArray⟩
    rw [Array.toArray_toList]
/-! ### sorted(a list), sorted(a dict) -/
def keysI (kvs : List (PKey × PV)) : Option (List Int) := intsP (kvs.map fun kv => keyP kv.1)
def keysS (kvs : List (PKey × PV)) : Option (List (List Nat)) := strsP (kvs.map fun kv => keyP kv.1)
def sortV (xs : List PV) : Option (List PV) := match intsP xs with
  | some ns => some ((sortI ns).map PV.int)
  | none => (match strsP xs with
    | some ss => some ((sortC ss).map PV.str)
    | none => none)
def fSorted : FA (List PV) := fun as h => match as with
  | [a] => (match lstA a h with
    | some xs => (match sortV xs with
      | some ys => .ok ys h
      | none => .stuck)
    | none => (match a with
      | .val (.ref i) => (match h[i]? with
        | some (.dic kvs) => .guard (kvs.length < 64) (match sortV (kvs.map fun kv => keyP kv.1) with
          | some ys => .ok ys h
          | none => .stuck)
        | _ => .stuck)
      | _ => .stuck))
  | _ => .stuck
def rSortD : List V → Hp → VK → Prop := fun xs H Q => (∃ (a : Addr) (kvs : List (Key × V)) (ks : List Int), xs = [.ref a] ∧ Rd H a (.dK kvs) ∧ kvs.map (·.1) = ks.map Sum.inl ∧ ks.length < 64 ∧
    ∀ (ys : List Int) (p : Addr), ys.Perm ks → ys.Pairwise (· ≤ ·) → H p = none → Q (.ref p) (upd H p (.lst (ys.map V.int)))) ∨
  (∃ (a : Addr) (kvs : List (Key × V)) (ks : List Str), xs = [.ref a] ∧ Rd H a (.dK kvs) ∧ kvs.map (·.1) = ks.map Sum.inr ∧ ks.length < 64 ∧
    ∀ ys p, ys.Perm ks → sortedS ys = true → H p = none → Q (.ref p) (upd H p (.lst (ys.map V.str))))
def rSort4 (K : PySem.W.Frag) : List V → Hp → VK → Prop := fun xs H Q => (rSortedI K xs H Q ∨ rSortedS2 K xs H Q) ∨ rSortD xs H Q
theorem cr_sort4 {X : Cx} (hc : X.calm = true) : CallR X (.builtin "sorted") (rSort4 X.K) := (cr_sortedI.or cr_sortedS2).or ((call_sortedDI hc).or (call_sortedD hc))
theorem sort_post {K : PySem.W.Frag} {W : WX} {w0 w : Wd} {h : Hh} {σ : L2.St} {Q : VK} {xs ys : List PV} (rh : RH K w h) (e : sortV xs = some ys) (p : Post K W w (Rl K) (.ok ys h) σ Q) :
    (∃ ns : List Int, xs = ns.map PV.int ∧ ∀ (ns' : List Int) (q : Addr), ns'.Perm ns → ns'.Pairwise (· ≤ ·) → w.H q = none → Q (.ref q) (upd w.H q (.lst (ns'.map V.int)))) ∨
    (∃ ss : List (List Nat), xs = ss.map PV.str ∧ ∀ (ss' : List Str) (q : Addr), ss'.Perm (ss.map fun x => (⟨x.toArray⟩ : Str)) → sortedS ss' = true → w.H q = none → Q (.ref q) (upd w.H q (.lst (ss'.map V.str)))) := by
  unfold sortV at e
  split at e
  · rename_i ns en
    cases e
    refine .inl ⟨ns, intsP_eq en, fun ns' q hp hs hq => ?_⟩
    rw [sortI_eq hp hs]
    exact post_tmp (w0 := w) rh RVs.ints p hq
  · split at e
    · rename_i ss es
      cases e
      refine .inr ⟨ss, strsP_eq es, fun ss' q hp hs hq => ?_⟩
      have e2 : ss'.map cod = sortC ss := sortC_eq (by
        have := hp.map cod
        rw [cod_mk] at this
        exact this) (sorted_pw hs)
      rw [← e2] at p
      exact post_tmp (w0 := w) rh (rvs_strs ss') p hq
    · cases e
theorem keys_kV : ∀ {K : PySem.W.Frag} {w : Wd} {kvs : List (PKey × PV)} {ks : List (Key × V)}, RKs K w kvs ks → ks.map (·.1) = kvs.map fun kv => U.keyOf kv.1
  | _, _, [], _, h => by rw [show _ = [] from h]; rfl
  | _, _, (k, v) :: r, _, h => by
    obtain ⟨u, ks, rfl, _, h2⟩ := h
    simp only [List.map_cons, keys_kV h2]
theorem keyP_int : ∀ {kvs : List (PKey × PV)} {ns : List Int}, (kvs.map fun kv => keyP kv.1) = ns.map PV.int → (kvs.map fun kv => U.keyOf kv.1) = ns.map Sum.inl
  | [], [], _ => rfl
  | [], _ :: _, h => by cases h
  | _ :: _, [], h => by cases h
  | (k, v) :: r, n :: ns, h => by
    simp only [List.map_cons, List.cons.injEq] at h ⊢
    refine ⟨?_, keyP_int h.2⟩
    cases k with
    | inl i => cases h.1; rfl
    | inr x => cases h.1
theorem keyP_str : ∀ {kvs : List (PKey × PV)} {ns : List (List Nat)}, (kvs.map fun kv => keyP kv.1) = ns.map PV.str → (kvs.map fun kv => U.keyOf kv.1) = (ns.map fun x => (⟨x.toArray⟩ : Str)).map Sum.inr
  | [], [], _ => rfl
  | [], _ :: _, h => by cases h
  | _ :: _, [], h => by cases h
  | (k, v) :: r, n :: ns, h => by
    simp only [List.map_cons, List.cons.injEq] at h ⊢
    refine ⟨?_, keyP_str h.2⟩
    cases k with
    | inl i => cases h.1
    | inr x => cases h.1; rfl
theorem fs_sorted {K : PySem.W.Frag} : FnSim K (Rl K) fSorted (rSort4 K) := by
  intro W w σ h as xs Q rh ra p
  unfold fSorted at p
  split at p
  · obtain ⟨v, r0, rfl, r1, e0⟩ := ra
    obtain rfl := (show r0 = [] from e0)
    split at p
    · rename_i ys e
      obtain ⟨q, vs, rfl, s, r⟩ := lstA_rel rh r1 e
      split at p
      · rename_i zs ez
        rcases sort_post (w0 := w) rh ez p with ⟨ns, e1, f⟩ | ⟨ss, e1, f⟩
        · subst e1
          rw [r.of_ints] at s
          exact .inl (.inl ⟨q, ns, rfl, s, f⟩)
        · subst e1
          rw [r.of_strs] at s
          exact .inl (.inr ⟨q, _, rfl, s, f⟩)
      · exact p.elim
    · split at p
      · rename_i i _
        split at p
        · rename_i kvs e1
          obtain ⟨hz, p⟩ := p.of_guard
          obtain ⟨hi, rfl⟩ := (show RV K w (.ref i) v from r1)
          obtain ⟨ks, s, r⟩ := rh.dic e1
          split at p
          · rename_i zs ez
            rcases sort_post (w0 := w) rh ez p with ⟨ns, e1, f⟩ | ⟨ss, e1, f⟩
            · have hl : ns.length = kvs.length := by have := congrArg List.length e1; simpa using this.symm
              exact .inr (.inl ⟨_, ks, ns, rfl, .inl s, by rw [keys_kV r, keyP_int e1], by omega, f⟩)
            · have hl : ss.length = kvs.length := by have := congrArg List.length e1; simpa using this.symm
              exact .inr (.inr ⟨_, ks, ss.map fun x => (⟨x.toArray⟩ : Str), rfl, .inl s, by rw [keys_kV r, keyP_str e1], by rw [List.length_map]; omega, f⟩)
          · exact p.elim
        · exact p.elim
      · exact p.elim
  · exact p.elim
/-! ### sorted(set(x)), len(set(x)) -/
/-- all ints or all texts: the keys of a set -/
def setV (xs : List PV) : Option (List PV) := match intsP xs with
  | some ns => some ((ddP ns).map PV.int)
  | none => (match strsP xs with
    | some ss => some ((ddP ss).map PV.str)
    | none => none)
def fSetSorted : FA (List PV) := fun as h => match as with
  | [a] => (match seqA a h with
    | some xs => (match setV xs with
      | some ys => (match sortV ys with
        | some zs => .guard (xs.length + 1 < scanBound) (.ok zs h)
        | none => .stuck)
      | none => .stuck)
    | none => .stuck)
  | _ => .stuck
def fSetLen : FA PV := fun as h => match as with
  | [a] => (match seqA a h with
    | some xs => (match setV xs with
      | some ys => .guard (xs.length + 1 < scanBound) (.ok (.int ys.length) h)
      | none => .stuck)
    | none => .stuck)
  | _ => .stuck
theorem ddP_len {α : Type} [DecidableEq α] : ∀ {l : List α}, (ddP l).length ≤ l.length
  | [] => Nat.le_refl _
  | y :: r => by
    have := ddP_len (l := r)
    unfold ddP
    split
    · rw [List.length_cons]; omega
    · rw [List.length_cons, List.length_cons]; omega
theorem setV_len {xs ys : List PV} (e : setV xs = some ys) : ys.length ≤ xs.length := by
  unfold setV at e
  split at e
  · rename_i ns en
    cases e
    rw [intsP_eq en, List.length_map, List.length_map]
    exact ddP_len
  · split at e
    · rename_i ss es
      cases e
      rw [strsP_eq es, List.length_map, List.length_map]
      exact ddP_len
    · cases e
theorem setV_rel {K : PySem.W.Frag} {w : Wd} {xs ys : List PV} {vs : List V} (r : RVs K w xs vs) (e : setV xs = some ys) : ∃ ks : List Key, vs = ks.map kV ∧
    ∀ L : List Key, L.Nodup → (∀ k, k ∈ L ↔ k ∈ ks) → (∃ ns : List Int, L = ns.map Sum.inl ∧ ∃ ms : List Int, ys = ms.map PV.int ∧ ms.Perm ns) ∨ (∃ ns : List Str, L = ns.map Sum.inr ∧ ∃ ms : List (List Nat), ys = ms.map PV.str ∧ (ms.map fun x => (⟨x.toArray⟩ : Str)).Perm ns) := by
  unfold setV at e
  split at e
  · rename_i ns en
    cases e
    rw [intsP_eq en] at r
    refine ⟨ns.map Sum.inl, by rw [r.of_ints, List.map_map]; rfl, fun L nd hm => ?_⟩
    have hI : ∀ k ∈ L, ∃ i, k = Sum.inl i := fun k hk => by
      obtain ⟨i, _, e⟩ := List.mem_map.mp ((hm k).mp hk)
      exact ⟨i, e.symm⟩
    have pick : ∀ L : List Key, (∀ k ∈ L, ∃ i, k = Sum.inl i) → ∃ ms : List Int, L = ms.map Sum.inl := fun L => by
      induction L with
      | nil => intro _; exact ⟨[], rfl⟩
      | cons k L ih =>
        intro hk
        obtain ⟨i, rfl⟩ := hk k List.mem_cons_self
        obtain ⟨ms, rfl⟩ := ih fun q hq => hk q (List.mem_cons_of_mem _ hq)
        exact ⟨i :: ms, rfl⟩
    obtain ⟨ms, rfl⟩ := pick L hI
    have nd2 : ms.Nodup := L2.nodup_of_map0 nd
    refine .inl ⟨ms, rfl, ddP ns, rfl, (List.perm_ext_iff_of_nodup ddP_nodup nd2).mpr fun i => ?_⟩
    rw [ddP_mem]
    have := hm (Sum.inl i)
    simp only [List.mem_map] at this
    constructor
    · intro q
      obtain ⟨j, hj, e⟩ := this.mpr ⟨i, q, rfl⟩
      cases e
      exact hj
    · intro q
      obtain ⟨j, hj, e⟩ := this.mp ⟨i, q, rfl⟩
      cases e
      exact hj
  · split at e
    · rename_i ss es
      cases e
      rw [strsP_eq es] at r
      refine ⟨(ss.map fun x => (⟨x.toArray⟩ : Str)).map Sum.inr, by rw [r.of_strs, List.map_map, List.map_map, List.map_map]; rfl, fun L nd hm => ?_⟩
      have hI : ∀ k ∈ L, ∃ i, k = Sum.inr i := fun k hk => by
        obtain ⟨i, _, e⟩ := List.mem_map.mp ((hm k).mp hk)
        exact ⟨i, e.symm⟩
      have pick : ∀ L : List Key, (∀ k ∈ L, ∃ i, k = Sum.inr i) → ∃ ms : List Str, L = ms.map Sum.inr := fun L => by
        induction L with
        | nil => intro _; exact ⟨[], rfl⟩
        | cons k L ih =>
          intro hk
          obtain ⟨i, rfl⟩ := hk k List.mem_cons_self
          obtain ⟨ms, rfl⟩ := ih fun q hq => hk q (List.mem_cons_of_mem _ hq)
          exact ⟨i :: ms, rfl⟩
      obtain ⟨ms, rfl⟩ := pick L hI
      have nd2 : ms.Nodup := L2.nodup_of_map0 nd
      have inj : ∀ x y : List Nat, (⟨x.toArray⟩ : Str) = ⟨y.toArray⟩ → x = y := fun x y h => by
        have := congrArg cod h
        simpa using this
      refine .inr ⟨ms, rfl, ddP ss, rfl, (List.perm_ext_iff_of_nodup (L2.nodup_map_of inj ddP_nodup) nd2).mpr fun i => ?_⟩
      have := hm (Sum.inr i)
      simp only [List.mem_map] at this ⊢
      constructor
      · rintro ⟨x, hx, rfl⟩
        obtain ⟨j, hj, e⟩ := this.mpr ⟨_, ⟨x, ddP_mem.mp hx, rfl⟩, rfl⟩
        cases e
        exact hj
      · intro q
        obtain ⟨j, ⟨x, hx, rfl⟩, e⟩ := this.mp ⟨i, q, rfl⟩
        cases e
        exact ⟨x, ddP_mem.mpr hx, rfl⟩
    · cases e
section
variable {X : Cx} {W : WX} {e : Expr} {p p2 q pos : Pos} {m : Mv (List AV)}
theorem boot_sorted2 : bootBuiltins "sorted" = some (.builtin "sorted") := by decide +kernel
theorem boot_set2 : bootBuiltins "set" = some (.type "set") := by decide +kernel
theorem boot_len2 : bootBuiltins "len" = some (.builtin "len") := by decide +kernel
theorem none_upd {H : Hp} {a p : Addr} {o : HO} (h : upd H a o p = none) : p ≠ a ∧ H p = none := by
  have hne : p ≠ a := fun e => by rw [e, upd_same] at h; cases h
  exact ⟨hne, by rw [upd_ne hne] at h; exact h⟩
theorem set_sorted_ok {w0 : World} {K : PySem.W.Frag} {w : Wd} {h : Hh} {σ : L2.St} {Q : VK} {as : List AV} {xs : List V} (rh : RH K w h) (ra : RAs1 K w as xs) (pp : Post K W w (Rl K) (fSetSorted as h) σ Q) : rSetM K w0 xs w.H fun x H2 => rSortedM w0 [x] H2 Q := by
  unfold fSetSorted at pp
  split at pp
  · obtain ⟨v, r0, rfl, r1, e0⟩ := ra
    obtain rfl := (show r0 = [] from e0)
    split at pp
    · rename_i ys e1
      obtain ⟨l, vs, rfl, s, r⟩ := seqA_rel rh r1 e1
      split at pp
      · rename_i zs ez
        obtain ⟨ks, rfl, hk⟩ := setV_rel r ez
        split at pp
        · rename_i us eu
          obtain ⟨hb, pp⟩ := pp.of_guard
          have hl : ks.length = ys.length := by rw [← r.len, List.length_map]
          refine ⟨l, ks, rfl, s, by rw [hl]; exact hb, fun a L ha nd hm => ?_⟩
          have hL : L.length ≤ ks.length := by
            have hn : L.length = zs.length := by
              rcases hk L nd hm with ⟨ns, rfl, ms, rfl, pm⟩ | ⟨ns, rfl, ms, rfl, pm⟩
              · rw [List.length_map, List.length_map, pm.length_eq]
              · have := pm.length_eq
                rw [List.length_map] at this
                rw [List.length_map, List.length_map, this]
            rw [hn, hl]
            exact setV_len ez
          have hz : L.length ≤ sizeLine := Nat.le_trans hL (by rw [hl]; exact fits_of_scanBound (by omega))
          have fin : ∀ (vs' : List V) (p : Addr), RVs K w us vs' → upd w.H a (SetMO w0 a L) p = none → Q (.ref p) (upd (upd w.H a (SetMO w0 a L)) p (.lst vs')) := fun vs' p rv hp => by
            obtain ⟨hpa, hp0⟩ := none_upd hp
            have g1 : ∀ b u, w.H b = some u → upd (upd w.H a (SetMO w0 a L)) p (.lst vs') b = some u := fun b u e => grow_upd hp b u (grow_upd ha b u e)
            have x : Ext K w { w with H := upd (upd w.H a (SetMO w0 a L)) p (.lst vs') } := Ext.grow g1
            exact pp _ (.ref p) x (rh.grow g1) ⟨p, vs', rfl, ⟨upd_same, rv.ext x, fun i hi => rh.ne_free hp0 i hi⟩, hp0⟩
          refine ⟨a, L, rfl, upd_same, hz, ?_⟩
          rcases hk L nd hm with ⟨ns, rfl, ms, rfl, pm⟩ | ⟨ns, rfl, ms, rfl, pm⟩
          · refine .inl ⟨ns, rfl, fun ns' p hp hs hq => ?_⟩
            have e2 : sortV (ms.map PV.int) = some ((sortI ms).map PV.int) := by unfold sortV; rw [intsP_map]
            rw [e2] at eu
            cases eu
            rw [sortI_eq (hp.trans pm.symm) hs]
            exact fin _ p RVs.ints hq
          · refine .inr ⟨ns, rfl, fun ns' p hp hs hq => ?_⟩
            have e2 : sortV (ms.map PV.str) = some ((sortC ms).map PV.str) := by
              unfold sortV
              cases ms with
              | nil =>
                show some ((sortI []).map PV.int) = some ((sortC []).map PV.str)
                simp [sortI, sortC]
              | cons m ms => rw [strsP_map]; rfl
            rw [e2] at eu
            cases eu
            have e3 : ns'.map cod = sortC ms := sortC_eq (by
              have := (hp.trans pm.symm).map cod
              rw [cod_mk] at this
              exact this) (sorted_pw hs)
            rw [← e3] at fin
            exact fin _ p (rvs_strs ns') hq
        · exact pp.elim
      · exact pp.elim
    · exact pp.elim
  · exact pp.elim
theorem set_len_ok {w0 : World} {K : PySem.W.Frag} {w : Wd} {h : Hh} {σ : L2.St} {Q : VK} {as : List AV} {xs : List V} (rh : RH K w h) (ra : RAs1 K w as xs) (pp : Post K W w (Re K) (fSetLen as h) σ Q) : rSetM K w0 xs w.H fun x H2 => rLenM w0 [x] H2 Q := by
  unfold fSetLen at pp
  split at pp
  · obtain ⟨v, r0, rfl, r1, e0⟩ := ra
    obtain rfl := (show r0 = [] from e0)
    split at pp
    · rename_i ys e1
      obtain ⟨l, vs, rfl, s, r⟩ := seqA_rel rh r1 e1
      split at pp
      · rename_i zs ez
        obtain ⟨ks, rfl, hk⟩ := setV_rel r ez
        obtain ⟨hb, pp⟩ := pp.of_guard
        have hl : ks.length = ys.length := by rw [← r.len, List.length_map]
        refine ⟨l, ks, rfl, s, by rw [hl]; exact hb, fun a L ha nd hm => ⟨a, L, rfl, upd_same, ?_⟩⟩
        have hn : L.length = zs.length := by
          rcases hk L nd hm with ⟨ns, rfl, ms, rfl, pm⟩ | ⟨ns, rfl, ms, rfl, pm⟩
          · rw [List.length_map, List.length_map, pm.length_eq]
          · have := pm.length_eq
            rw [List.length_map] at this
            rw [List.length_map, List.length_map, this]
        rw [hn]
        exact pp _ (.int _) (Ext.grow (grow_upd ha)) (rh.grow (grow_upd ha)) rfl
      · exact pp.elim
    · exact pp.elim
  · exact pp.elim
theorem sl_setSorted (hc : X.calm = true) (hg : Gl X "sorted") (hm : X.mg "sorted" = none) (hg2 : Gl X "set") (hm2 : X.mg "set" = none) (ha : SimA X W [e] m)
    (hs1 : starEach [e] X.env = (false, eval e X.env) :: starEach [] X.env := by rfl) (hs2 : starEach [.Call (.Name "set" p2) [e] [] q] X.env = (false, eval (.Call (.Name "set" p2) [e] [] q) X.env) :: starEach [] X.env := by rfl) :
    SimL X W (.Call (.Name "sorted" p) [.Call (.Name "set" p2) [e] [] q] [] pos) (eFn fSetSorted m) :=
  pe_imp (pe_callB (cr_sortedM hc) hg hm boot_sorted2 (pa_cons (pe_callTy (cr_setM hc) hg2 hm2 boot_set2 ha (by decide) (by decide) hs1 rfl) pa_nil hs2) (by decide) (by decide) hs2 rfl) fun σ H Q qq =>
    tR_bind back_l qq fun w w' s as xs h' x1 rs rh ra pp => set_sorted_ok rh ra pp
theorem se_setLen (hc : X.calm = true) (hg : Gl X "len") (hm : X.mg "len" = none) (hg2 : Gl X "set") (hm2 : X.mg "set" = none) (ha : SimA X W [e] m)
    (hs1 : starEach [e] X.env = (false, eval e X.env) :: starEach [] X.env := by rfl) (hs2 : starEach [.Call (.Name "set" p2) [e] [] q] X.env = (false, eval (.Call (.Name "set" p2) [e] [] q) X.env) :: starEach [] X.env := by rfl) :
    SimE X W (.Call (.Name "len" p) [.Call (.Name "set" p2) [e] [] q] [] pos) (eFn fSetLen m) :=
  pe_imp (pe_callB cr_lenM hg hm boot_len2 (pa_cons (pe_callTy (cr_setM hc) hg2 hm2 boot_set2 ha (by decide) (by decide) hs1 rfl) pa_nil hs2) (by decide) (by decide) hs2 rfl) fun σ H Q qq =>
    tR_bind back_e qq fun w w' s as xs h' x1 rs rh ra pp => set_len_ok rh ra pp
end
end U
set_option Elab.async false
set_option linter.all false
set_option maxRecDepth 100000
set_option maxHeartbeats 4000000
/-! The generic layer, part 21: dict(..). -/
namespace L2
open PySem PySem.Spec PyProof.Rows
theorem tuple_keys_none : typeLookup (.type "tuple") "keys" = pure none := am_miss_of_fast (by first | decide +kernel | rfl)
section
variable {prog : Program} {w : World} {A : Around} {E : Value → Shared → Prop}
/-- a tuple has no attribute 'keys': an AttributeError is made, and forgotten -/
theorem miss_tuple {s : Shared} {a : Addr} {o : Obj} {xs : Array Value} {k : Nat} {Q : Option Value → Shared → Prop} (hx : s.heap.get? a = some o) (hc : o.cls = .type "tuple") (hdat : o.data = .seq xs k) (hd : o.dict = none) (hA : A.handled = none)
    (h : ∀ h' tk, (∀ b ob, s.heap.get? b = some ob → h'.get? b = some ob) → Q none { s with heap := h', toks := tk }) : wpAny (model prog w) A (getAttr? (.ref a) "keys") Q E s := by
  obtain ⟨c, dct, dat, sl⟩ := o
  simp only at hc hdat hd
  subst hc hdat hd
  obtain ⟨hp, g, d, tk, os⟩ := s
  have hT : ∀ tk', (⟨hp, g, d, tk', os⟩ : Shared).TypeIs (.ref a) "tuple" := fun _ => ⟨_, hx, rfl⟩
  have hmiss := tuple_keys_none
  have hname : (["__module__", "__name__", "__qualname__", "__doc__", "__annotations__"] : List Str).contains "keys" = false := by decide +kernel
  have hsz : ("keys" : Str).length + 100 ≤ sizeLine := by first | size_fits | decide +kernel
  have f1 := sub_AttributeError
  have f3 := PySem.F.slot_tuple_getattribute.lookup
  have f4 := PySem.F.slot_tuple_getattribute.bind (.ref a)
  have f5 := am_tuple_getattr_none
  unfold getAttr? getAttrBy? getAttrBy
  repeat (any_goals (first | assumption | exact hT _ | ((with_reducible show wpAny _ _ (call (Value.builtin "tuple.__getattribute__") _ _) _ _ _); refine call_meets PySem.F.slot_tuple_getattribute (hT _) am_entry_tuple_getattribute (PySem.F.args_tuple_getattribute_2 _ _) (meets_getattribute_miss_tuple a xs k sl "keys" _ hmiss hname hsz) ⟨hx, hA, fun h' tk' e hx' => ?_⟩) | wp_step))
  obtain ⟨t', u', he⟩ := hx'.there
  show wpAny _ _ (getattributeRaised _ _ _ _ _ _ _) _ _ _
  unfold getattributeRaised
  repeat (any_goals (first | assumption | wp_step))
  all_goals first | exact h _ _ hx'.keeps | (dsimp only; repeat (any_goals (first | assumption | exact h _ _ hx'.keeps | wp_step)))

/-- the walk over the pairs -/
theorem upd_loopT {R : Result → Shared → Prop} {S I l : Addr} {items : Array Value} {res : Value} (hh : A.handled = none) (hlI : l ≠ I) (hSI : S ≠ I) (hSl : S ≠ l) :
    ∀ (rest : List (Key × Value)) (i : Nat) (acc : List (Key × Value)) (ix : Int) (t : Tok) (s : Shared), items.size = i + rest.length → acc.length + rest.length ≤ sizeLine →
      (∀ (j : Nat) (q : Key × Value), rest[j]? = some q → ∃ (b : Addr) (u : Value), items[i + j]? = some (.ref b) ∧ b ≠ S ∧ b ≠ I ∧ IsTup s.heap b #[u, q.2] ∧ keyIs q.1 u = true) →
      s.heap.IsTupleIter I l i → s.heap.IsTuple l items → s.heap.DictOf (mixKind prog w) S acc →
      (∀ h' tk, h'.DictOf (mixKind prog w) S (merged acc rest) → (∀ b o, b ≠ S → b ≠ I → s.heap.get? b = some o → h'.get? b = some o) → R (.ok (.ret res)) { s with heap := h', toks := tk }) →
      codeAny (model prog w) A (.builtin "dict.update.loop" ⟨[.ref S, .ref I, .int ix t, res], []⟩) R s
  | [], i, acc, ix, t, s, hsz, hln, ht, hit, hl, hm, hR => by
    refine codeAny_builtin ud_entry ?_
    rw [Around.under_plainId ud_plain _]
    show wpAny _ A.in1 (pyNext (.ref I) >>= _) _ _ s
    refine wpAny_bind (wpAny_pyNext_tuple_end (A := A.in1) hh hit hl (by first | exact Array.getElem?_eq_none (Nat.le_of_eq hsz) | (simp at hsz; simp; omega)) fun h' he => ?_)
    show wpAny _ A.in1 (Builtin.Dict.addKeywords S [] >>= _) _ _ _
    refine wpAny_bind (wpAny_pure (wpAny_pure ?_))
    exact hR h' s.toks (hm.extBut he hSI) fun b o _ hb e => he b o hb e
  | q :: rest, i, acc, ix, t, s, hsz, hln, ht, hit, hl, hm, hR => by
    obtain ⟨b, u, hb, hbS, hbI, htup, hk⟩ := ht 0 q rfl
    rw [List.length_cons] at hsz hln
    refine codeAny_builtin ud_entry ?_
    rw [Around.under_plainId ud_plain _]
    show wpAny _ A.in1 (pyNext (.ref I) >>= _) _ _ s
    refine wpAny_bind (wpAny_pyNext_tuple_item (x := .ref b) hit hl (by simpa using hb) fun h1 hit1 hs1 => ?_)
    have ht1 : IsTup h1 b #[u, q.2] := htup.extBut hs1.extBut hbI
    have hl1 : h1.IsTuple l items := HT.istup_at hl fun o e => hs1.extBut l o hlI e
    have hm1 : h1.DictOf (mixKind prog w) S acc := hm.extBut hs1.extBut hSI
    obtain ⟨o, ho, hc, n, hd⟩ := id ht1
    show wpAny _ A.in1 (holding [Value.ref b] _ >>= _) _ _ _
    refine wpAny_bind (wpAny_holding ?_)
    refine wpAny_bind (wpAny_tryCatch ?_)
    unfold Builtin.Dict.pairItems
    refine wpAny_bind (wpAny_typeOf (T := "tuple") ⟨o, ho, hc⟩ ?_)
    rw [if_pos (by first | decide | rfl | simp)]
    refine wpAny_bind (wpAny_seqItems ho hd (wpAny_pure ?_))
    show wpAny _ A.in1 (holding [u, q.2] (dictSet S u q.2)) _ _ _
    refine wpAny_holding (wpAny_dictSet_pairs (knd := mixKind prog w) (k := q.1) hk hm1 (fun h2 hm2 hs2 => ?_) (by omega))
    refine wpAny_pure ⟨plainId_quiet ud_plain _, upd_loopT (items := items) hh hlI hSI hSl rest (i + 1) (stored acc q.1 q.2) (ix + 1) 0 _ (show items.size = i + 1 + rest.length by omega) ?_ (fun j q' e => ?_) ?_ ?_ hm2 fun h' tk hd' k => ?_⟩
    · have z := stored_length_le acc q.1 q.2
      omega
    · obtain ⟨b', u', hb', hbS', hbI', htup', hk'⟩ := ht (j + 1) q' (by simpa using e)
      refine ⟨b', u', ?_, hbS', hbI', (htup'.extBut hs1.extBut hbI').extBut hs2.extBut hbS', hk'⟩
      rw [show i + 1 + j = i + (j + 1) by omega]
      exact hb'
    · exact hit1.at fun o' e => hs2.extBut I o' (Ne.symm hSI) e
    · exact HT.istup_at hl1 fun o e => hs2.extBut l o (Ne.symm hSl) e
    · exact hR h' tk hd' fun c oc h3 h4 e => k c oc h3 h4 (hs2.extBut c oc h3 (hs1.extBut c oc h4 e))

/-- dict(l) of a tuple of pairs -/
theorem call_dict_pairsT {s : Shared} {l : Addr} {ol : Obj} {items : Array Value} {n : Nat} {prs : List (Key × Value)} {Q : Value → Shared → Prop} (hh : A.handled = none) (hl : s.heap.get? l = some ol) (hc : ol.cls = .type "tuple") (hd : ol.dict = none)
    (hdat : ol.data = .seq items n) (hsz : items.size = prs.length) (hln : prs.length ≤ sizeLine)
    (ht : ∀ (j : Nat) (q : Key × Value), prs[j]? = some q → ∃ (b : Addr) (u : Value), items[j]? = some (.ref b) ∧ IsTup s.heap b #[u, q.2] ∧ keyIs q.1 u = true)
    (h : ∀ h' tk, h'.DictOf (mixKind prog w) s.heap.objs.size (merged [] prs) → (∀ b o, s.heap.get? b = some o → h'.get? b = some o) → Q (.ref s.heap.objs.size) { s with heap := h', toks := tk }) :
    wpAny (model prog w) A (call (.type "dict") [.ref l]) Q E s := by
  refine callType_codes (Q₁ := fun obj s₁ => obj = .ref s.heap.objs.size ∧ s₁ = { s with heap := s.heap.push { cls := .type "dict", data := .dict #[] } }) PySem.F.kt_called_dict (PySem.F.kt_typeCall_dict_1 _) PySem.F.entry_dict_init (kt_code_dict_new _ ⟨rfl, rfl⟩) ?_
  rintro obj s₁ ⟨rfl, rfl⟩
  have hnew : (s.heap.push { cls := .type "dict", data := .dict #[] }).DictOf (mixKind prog w) s.heap.objs.size [] := Heap.DictOf.new s.heap
  have k0 : ∀ b o, s.heap.get? b = some o → (s.heap.push { cls := .type "dict", data := .dict #[] }).get? b = some o := fun b o e => Heap.get?_push_of_some _ e
  refine ⟨hnew.typeIs, PySem.F.args_dict_init_2 _ _, ?_⟩
  unfold Builtin.«dict.__init__»
  refine wpAny_bind ?_
  unfold Builtin.Dict.selfAndRest
  refine wpAny_bind (wpAny_notOrdered_dict hnew.typeIs ?_)
  show wpAny _ _ (pure (s.heap.objs.size, [Value.ref l])) _ _ _
  refine wpAny_pure ?_
  show wpAny _ _ (Builtin.Dict.updateFrom "dict.__init__" s.heap.objs.size (.ref l) [] .none) _ _ _
  unfold Builtin.Dict.updateFrom
  refine wpAny_bind (wpAny_typeOf (T := "tuple") ⟨ol, k0 _ _ hl, hc⟩ ?_)
  rw [if_pos (by first | decide | rfl | simp)]
  refine wpAny_bind (miss_tuple (k0 _ _ hl) hc hdat hd hh fun h1 tk1 hk1 => ?_)
  rw [if_pos (show (none : Option Value).isNone = true from rfl)]
  refine wpAny_bind (wpAny_rule ?_)
  have hl1 : h1.IsTuple l items := ⟨ol, hk1 _ _ (k0 _ _ hl), hc, n, hdat⟩
  have hS1 : s.heap.objs.size < h1.objs.size := by
    have e : (s.heap.push { cls := .type "dict", data := .dict #[] }).get? s.heap.objs.size = some { cls := .type "dict", data := .dict #[] } := Heap.get?_push_size _ rfl
    exact Heap.lt_size (hk1 _ _ e)
  refine wpAny_bind (wpAny_pyIter_tuple hl1 ?_)
  have k2 : ∀ b o, h1.get? b = some o → (h1.push { cls := .type "tuple_iterator", data := .fields #[.ref l, .int 0 0] }).get? b = some o := fun b o e => Heap.get?_push_of_some _ e
  have hlt : l < s.heap.objs.size := Heap.lt_size hl
  have key := upd_loopT (prog := prog) (w := w) (A := A.in1) (R := wants (fun r s₂ => r = .none ∧ Q (.ref s.heap.objs.size) s₂) E) (S := s.heap.objs.size) (I := h1.objs.size) (l := l) (items := items) (res := Value.none) hh
    (Nat.ne_of_lt (Nat.lt_trans hlt hS1)) (Nat.ne_of_lt hS1) (Nat.ne_of_gt hlt) prs 0 [] 0 0
    { s with heap := h1.push { cls := .type "tuple_iterator", data := .fields #[.ref l, .int 0 0] }, toks := tk1 } (by rw [hsz, Nat.zero_add]) (by rw [List.length_nil, Nat.zero_add]; exact hln)
    (fun j q e => by
      obtain ⟨b, u, e1, e2, e3⟩ := ht j q e
      have hb : b < s.heap.objs.size := e2.lt
      exact ⟨b, u, by rw [Nat.zero_add]; exact e1, Nat.ne_of_lt hb, Nat.ne_of_lt (Nat.lt_trans hb hS1), e2.keeps fun c o z => k2 _ _ (hk1 _ _ (k0 _ _ z)), e3⟩)
    ⟨_, Heap.get?_push_size _ rfl, rfl, rfl⟩ (HT.istup_at hl1 fun o e => k2 _ _ e) ((hnew.at fun o e => hk1 _ _ e).at fun o e => k2 _ _ e)
    (fun h' tk hd' k => ⟨rfl, h h' tk hd' fun b o e => k b o (Nat.ne_of_lt (Heap.lt_size e)) (Nat.ne_of_lt (Nat.lt_trans (Heap.lt_size e) hS1)) (k2 _ _ (hk1 _ _ (k0 _ _ e)))⟩)
  first
    | exact wpAny_pure ⟨plainId_quiet ud_plain _, key⟩
    | exact wpAny_bind (wpAny_pure (wpAny_pure ⟨plainId_quiet ud_plain _, key⟩))
end


section
variable {X : Cx}
/-- dict(t) of a tuple of pairs -/
def rDictPT (K : PySem.W.Frag) : List V → Hp → VK → Prop := fun xs H Q => ∃ (a : Addr) (ps : List Addr) (kvs : List (Key × V)), xs = [.ref a] ∧ U.SqN K H a (ps.map V.ref) ∧ Paired (fun p kv => SqT K H p [kV kv.1, kv.2]) ps kvs ∧
    ∀ p, H p = none → Q (.ref p) (upd H p (.dK (mergeK [] kvs)))
theorem call_dictPT (hcalm : X.calm = true) : CallR X (.type "dict") (rDictPT X.K) := by
  intro pins s σ H xs us Q I r q
  obtain ⟨a, ps, kvs, ex, hq, hp, q⟩ := q
  subst ex
  obtain ⟨u, eu, rx⟩ := vals1 r
  subst eu
  cases rx
  have main : ∃ (o : Obj) (its : List Value) (n : Nat), s.heap.get? a = some o ∧ o.cls = .type "tuple" ∧ o.dict = none ∧ o.data = .seq its.toArray n ∧ Vals (ps.map V.ref) its ∧ ps.length ≤ sizeLine := by
    rcases hq with ⟨o, ho, hd⟩ | ⟨o, its, n, hk, hc, hd, hdt, hz, rv⟩
    · obtain ⟨e, hz, its, rv, ob, h1, h2, n, h3⟩ := (show ObjOk X.prog X.w H s.heap a (.frz o (.tup (ps.map V.ref))) from I.hok a _ ho)
      have eo : ob = o := Option.some.inj (h1.symm.trans e)
      subst eo
      exact ⟨ob, its, n, h1, h2, hd, h3, rv, by simpa using hz⟩
    · refine ⟨o, its.toList, n, I.kIn a o hk, hc, hd, by simpa using hdt, rv, ?_⟩
      have e1 : ps.length = its.toList.length := by simpa using rv.length
      rw [e1, Array.length_toList]
      exact hz
  obtain ⟨o, its, n, ho, hc, hd, hdat, rv, hz⟩ := main
  have ei := refs_at rv
  subst ei
  obtain ⟨prs, rel, hl, hpr⟩ := pairs_of I hp
  refine call_dict_pairsT (prs := prs) (I.ok.hd hcalm) ho hc hd hdat (by simp [hl]) (by rw [hl]; exact hz) (fun j q' e => ?_) fun h' tk hd' k => ?_
  · obtain ⟨b, u, e1, e2, e3⟩ := hpr j q' e
    exact ⟨b, u, by simp [e1], e2, e3⟩
  · have hm : (s.heap.objs.size == sysModules) = false := beq_eq_false_iff_ne.mpr (Nat.ne_of_gt I.big)
    have hlen : (mergeK [] kvs).length ≤ sizeLine := by
      refine Nat.le_trans (length_mergeK kvs []) ?_
      rw [List.length_nil, Nat.zero_add, rel.length, hl]
      exact hz
    exact ⟨.ref s.heap.objs.size, upd H s.heap.objs.size (.dK (mergeK [] kvs)), I.laid (t' := tk) k (Nat.le_refl _) (show ObjOk X.prog X.w _ _ _ (.dK (mergeK [] kvs)) from ⟨hlen, hm, merged [] prs, KV.merge rel .nil, hd'⟩), rfl, q _ (I.hok.fresh (Nat.le_refl _))⟩
end
end L2
namespace U
open PySem PySem.Spec PyProof.Rows L2
variable [Tab]
def pairsP : List PV → Option (List (PKey × PV))
  | [] => some []
  | .tup [k, v] :: r => (match k.key?, pairsP r with
    | some k, some r => some ((k, v) :: r)
    | _, _ => none)
  | _ => none
def mergeP (kvs : List (PKey × PV)) : List (PKey × PV) := kvs.foldl (fun acc kv => putP acc kv.1 kv.2) []
theorem pairs_rel {K : PySem.W.Frag} {w : Wd} : ∀ {xs : List PV} {vs : List V} {kvs : List (PKey × PV)}, RVs K w xs vs → pairsP xs = some kvs →
    ∃ ps ks, vs = ps.map V.ref ∧ Paired (fun p (kv : Key × V) => SqT K w.H p [kV kv.1, kv.2]) ps ks ∧ RKs K w kvs ks
  | [], _, _, r, e => by cases e; cases (show _ = [] from r); exact ⟨[], [], rfl, .nil, rfl⟩
  | x :: xs, _, kvs, r, e => by
    obtain ⟨v, vs, rfl, r1, r2⟩ := r
    unfold pairsP at e
    split at e
    · cases ‹_ :: _ = []›
    · rename_i k u r' ex
      cases ex
      split at e
      · rename_i k' rest ek er
        cases e
        obtain ⟨ps, ks, rfl, hp, hk⟩ := pairs_rel r2 er
        obtain ⟨p, us, rfl, s, q⟩ := r1
        obtain ⟨a, t1, rfl, ra, b, t2, rfl, rb, e0⟩ := q
        obtain rfl := (show t2 = [] from e0)
        refine ⟨p :: ps, (keyOf k', b) :: ks, rfl, .cons ?_ hp, b, ks, rfl, rb, hk⟩
        rw [key_rel ra ek] at s
        exact s.sq
      · cases e
    · cases e
theorem merge_rel {K : PySem.W.Frag} {w : Wd} : ∀ (kvs : List (PKey × PV)) (ks : List (Key × V)) (acc : List (PKey × PV)) (av : List (Key × V)), RKs K w kvs ks → RKs K w acc av →
    RKs K w (kvs.foldl (fun acc kv => putP acc kv.1 kv.2) acc) (mergeK av ks)
  | [], _, _, _, h, q => by cases (show _ = [] from h); exact q
  | (k, x) :: r, _, acc, av, h, q => by
    obtain ⟨v, ks, rfl, h1, h2⟩ := h
    exact merge_rel r ks _ _ h2 (q.put h1)
theorem merge_rel0 {K : PySem.W.Frag} {w : Wd} {kvs : List (PKey × PV)} {ks : List (Key × V)} (h : RKs K w kvs ks) : RKs K w (mergeP kvs) (mergeK [] ks) := merge_rel kvs ks [] [] h (show RKs K w [] [] from rfl)
def fDict : FA PV := fun as h => match as with
  | [a] => (match seqA a h with
    | some xs => (match pairsP xs with
      | some kvs => .ok (.ref h.length) (h ++ [.dic (mergeP kvs)])
      | none => .stuck)
    | none => (match a with
      | .val (.ref i) => (match h[i]? with
        | some (.dic kvs) => .ok (.ref h.length) (h ++ [.dic kvs])
        | _ => .stuck)
      | _ => .stuck))
  | _ => .stuck
def rDict3 (K : PySem.W.Frag) : List V → Hp → VK → Prop := fun xs H Q => (∃ (a : Addr) (ps : List Addr) (kvs : List (Key × V)), xs = [.ref a] ∧ SqL K H a (ps.map V.ref) ∧ Paired (fun p kv => SqT K H p [kV kv.1, kv.2]) ps kvs ∧
    ∀ p, H p = none → Q (.ref p) (upd H p (.dK (mergeK [] kvs)))) ∨ (rDictPT K xs H Q ∨
    (∃ (a : Addr) (kvs : List (Key × V)), xs = [.ref a] ∧ Rd H a (.dK kvs) ∧ ∀ p, H p = none → Q (.ref p) (upd H p (.dK kvs))))
theorem cr_dict3 {X : Cx} (hc : X.calm = true) : CallR X (.type "dict") (rDict3 X.K) := (call_dictP hc).or ((call_dictPT hc).or call_dictD)
theorem fs_dict {K : PySem.W.Frag} : FnSim K (Re K) fDict (rDict3 K) := by
  intro W w σ h as xs Q rh ra p
  unfold fDict at p
  split at p
  · obtain ⟨v, r0, rfl, r1, e0⟩ := ra
    obtain rfl := (show r0 = [] from e0)
    split at p
    · rename_i ys e
      split at p
      · rename_i kvs ek
        unfold seqA at e
        split at e
        · rename_i e1
          cases e
          obtain ⟨q, vs, rfl, s, r⟩ := lstA_rel rh r1 e1
          obtain ⟨ps, ks, rfl, hp, hk⟩ := pairs_rel r ek
          exact .inl ⟨q, ps, ks, rfl, s, hp, fun p' hp' => post_newD rh (merge_rel0 hk) p hp'⟩
        · obtain ⟨q, vs, rfl, s, r⟩ := tupA_new r1 e
          obtain ⟨ps, ks, rfl, hp, hk⟩ := pairs_rel r ek
          exact .inr (.inl ⟨q, ps, ks, rfl, s, hp, fun p' hp' => post_newD rh (merge_rel0 hk) p hp'⟩)
      · exact p.elim
    · split at p
      · rename_i i _
        split at p
        · rename_i kvs e1
          obtain ⟨hi, rfl⟩ := (show RV K w (.ref i) v from r1)
          obtain ⟨ks, s, r⟩ := rh.dic e1
          exact .inr (.inr ⟨_, ks, rfl, .inl s, fun p' hp' => post_newD rh r p hp'⟩)
        · exact p.elim
      · exact p.elim
  · exact p.elim
end U
set_option Elab.async false
set_option linter.all false
set_option maxRecDepth 100000
set_option maxHeartbeats 4000000
/-! The generic layer, part 22: dead code, chains, locks, calls by bundles. -/
namespace U
open PySem PySem.Spec PyProof.Rows L2
variable [Tab]
/-! ### what is never run -/
@[simp] def dead {α : Type} : Mv α := fun _ _ => .stuck
@[simp] def sDead : Sv := fun _ _ => .stuck
section
variable {X : Cx} {W : WX} {e : Expr} {es : List Expr} {st : Stmt} {sts : List Stmt}
theorem tR_dead {α β : Type} {K : PySem.W.Frag} {R : Wd → Wd → α → β → Prop} {σ : L2.St} {H : Hp} {Q : β → Hp → Prop} (h : tR K W R dead σ H Q) : False := by
  obtain ⟨w, s, hh, rfl, rh, rs, p⟩ := h
  exact p
theorem se_dead : SimE X W e dead := ⟨fun pins s σ H Q I h => (tR_dead h).elim⟩
theorem sl_dead : SimL X W e dead := ⟨fun pins s σ H Q I h => (tR_dead h).elim⟩
theorem sv_dead : SimV X W e dead := ⟨fun pins s σ H Q I h => (tR_dead h).elim⟩
theorem st_dead : SimT X W e dead := ⟨fun pins s σ H Q I h => (tR_dead h).elim⟩
theorem ss_dead : SimS X W st sDead := ⟨fun pins s σ H D I h => by obtain ⟨w, s, hh, rfl, rh, rs, p⟩ := h; exact p.elim⟩
theorem sb_dead : SimB X W sts sDead := ⟨fun pins s σ H D I h => by obtain ⟨w, s, hh, rfl, rh, rs, p⟩ := h; exact p.elim⟩
/-- nothing may be raised -/
theorem takes_no : Takes X WNo := fun u s' x => by
  obtain ⟨a, B, sI, pins, σ, H, cls, d, e, I, nb, up, sky, na, os, ag, w⟩ := x
  exact w.elim
end

/-! ### chains -/
@[simp] def eChain (f g : F2) (a b c : Ev) : Ev := fun s h => (a s h).bind fun v h => (b s h).bind fun u h => (f v u h).bind fun z h => match z with
  | .bl true => (c s h).bind fun x h => g u x h
  | .bl false => .ok (.bl false) h
  | _ => .stuck
section
variable {X : Cx} {W : WX} {a b c : Expr} {op op' : CmpOp} {f g : F2} {r r' : R2} {pos : Pos} {ma mb mc : Ev}
theorem chain_ok (hf : OpSim X.K f r) (hg : OpSim X.K g r') {σ : L2.St} {H : Hp} {Q : VK} (q : tR X.K W (Re X.K) (eChain f g ma mb mc) σ H Q) : tChain r r' (tR X.K W (Re X.K) ma) (tR X.K W (Re X.K) mb) (tR X.K W (Re X.K) mc) σ H Q :=
  tR_bind back_e q fun w w1 s v x h1 x1 rs rh rv p => tR_next back_e rh rs p fun w2 u y h2 x2 rh2 ru p2 => by
    refine hf W w2 σ h2 v u x y _ rh2 (rv.ext x2) ru ?_
    have p2 : Post X.K W w2 (Re X.K) ((f v u h2).bind fun z h => match z with
      | .bl true => (mc s h).bind fun x h => g u x h
      | .bl false => .ok (.bl false) h
      | _ => .stuck) σ Q := p2
    refine (Post.bind back_e p2).mono fun z H3 q3 => ?_
    obtain ⟨w3, zv, h3, rfl, x3, rh3, rz, p3⟩ := q3
    cases zv with
    | bl k =>
      cases (show z = V.bl k from rz)
      refine ⟨k, rfl, ?_⟩
      cases k with
      | true =>
        rw [if_pos rfl]
        exact tR_next back_e rh3 ((rs.ext x2).ext x3) p3 fun w4 t zt h4 x4 rh4 rt p4 => hg W w4 σ h4 u t y zt Q rh4 (ru.ext (x3.trans x4)) rt p4
      | false =>
        rw [if_neg Bool.false_ne_true]
        exact p3.now (x := .bl false) rh3 rfl
    | _ => exact p3.elim
theorem se_chain (ho : OpR X (compareOp op) r) (hf : OpSim X.K f r) (ho' : OpR X (compareOp op') r') (hg : OpSim X.K g r') (ha : SimE X W a ma) (hb : SimE X W b mb) (hc : SimE X W c mc) (hm : lastMarks [op, op'] [b, c] = false := by with_unfolding_all rfl) :
    SimE X W (.Compare a [op, op'] [b, c] pos) (eChain f g ma mb mc) := pe_imp (pe_chain ho ho' ha hb hc hm) fun σ H Q q => chain_ok hf hg q
theorem st_chain (ho : OpR X (compareOp op) r) (hf : OpSim X.K f r) (ho' : OpR X (compareOp op') r') (hg : OpSim X.K g r') (ha : SimE X W a ma) (hb : SimE X W b mb) (hc : SimE X W c mc) (hm : lastMarks [op, op'] [b, c] = false := by with_unfolding_all rfl) :
    SimT X W (.Compare a [op, op'] [b, c] pos) (tB1 (eChain f g ma mb mc)) := pt_imp (pt_chain ho ho' ha hb hc hm) fun σ H Q q => chain_ok hf hg (tR_bind back_b q fun w w' s v x h' x1 rs rh rv p => post_isB rh rv p)
end

/-! ### {} -/
@[simp] def eDict0 : Ev := fun _ h => .ok (.ref h.length) (h ++ [.dic []])
theorem se_dict0 {X : Cx} {W : WX} {pos : Pos} : SimE X W (.Dict [] [] pos) eDict0 := pe_imp pe_dnewK fun σ H Q q => by
  obtain ⟨w, s, hh, rfl, rh, rs, p⟩ := q
  exact fun q hq => post_newD rh (show RKs X.K w [] [] from rfl) p hq
/-! ### dicts that are equal -/
def PV.flatB : PV → Bool
  | .non => true
  | .bl _ => true
  | .int _ => true
  | .str _ => true
  | _ => false
def fEqK : F2 := fun v u h => match v, u with
  | .ref i, .ref j => (match h[i]?, h[j]? with
    | some (.dic a), some (.dic b) => .guard (a.length = b.length ∧ (a.all fun kv => kv.2.flatB && decide (valP b kv.1 = some kv.2)) = true) (.ok (.bl true) h)
    | _, _ => .stuck)
  | _, _ => .stuck
theorem flat_same {K : PySem.W.Frag} {w : Wd} {v : PV} {x y : V} (r : RV K w v x) (q : RV K w v y) (f : v.flatB = true) : x = y ∧ L2.flatB x = true := by
  cases v with
  | non => cases (show x = _ from r); cases (show y = _ from q); exact ⟨rfl, rfl⟩
  | bl b => cases (show x = _ from r); cases (show y = _ from q); exact ⟨rfl, rfl⟩
  | int i => cases (show x = _ from r); cases (show y = _ from q); exact ⟨rfl, rfl⟩
  | str i => cases (show x = _ from r); cases (show y = _ from q); exact ⟨rfl, rfl⟩
  | _ => cases f
theorem os_eqK {K : PySem.W.Frag} : OpSim K fEqK (rEqV K) := by
  intro W w σ h v u x y Q rh rv ru p
  unfold fEqK at p
  split at p
  · rename_i i j
    split at p
    · rename_i a b e1 e2
      obtain ⟨⟨hl, hall⟩, p⟩ := p.of_guard
      obtain ⟨hi, rfl⟩ := rv
      obtain ⟨hj, rfl⟩ := ru
      obtain ⟨ka, s1, r1⟩ := rh.dic e1
      obtain ⟨kb, s2, r2⟩ := rh.dic e2
      refine ⟨1, by omega, .inr ⟨_, _, ka, kb, rfl, rfl, s1, s2, by rw [r1.len, r2.len]; exact hl, ?_⟩, p.now (x := .bl true) rh rfl⟩
      have key : ∀ (a : List (PKey × PV)) (ka : List (Key × V)), RKs K w a ka → (a.all fun kv => kv.2.flatB && decide (valP b kv.1 = some kv.2)) = true → ∀ p ∈ ka, ∃ u, valV kb p.1 = some u ∧ EqV K w.H 1 p.2 u := by
        intro a
        induction a with
        | nil => intro ka r _ p hp; rw [show ka = [] from r] at hp; cases hp
        | cons kv a ih =>
          intro ka r hall p hp
          obtain ⟨v, r', rfl, h1, h2⟩ := r
          rw [List.all_cons, Bool.and_eq_true] at hall
          rcases List.mem_cons.mp hp with e | e
          · subst e
            have h3 := hall.1
            rw [Bool.and_eq_true] at h3
            have h4 := of_decide_eq_true h3.2
            have q := r2.val kv.1
            rw [h4] at q
            obtain ⟨x', e', r'⟩ := q
            obtain ⟨f1, f2⟩ := flat_same h1 r' h3.1
            exact ⟨x', e', .inl ⟨f1, f2⟩⟩
          · exact ih r' h2 hall.2 p e
      exact key a ka r1 hall
    · exact p.elim
  · exact p.elim
def fEqA : F2 := fun v u h => match eqD h v u with
  | some b => .ok (.bl b) h
  | none => fEqK v u h
def rEqA (K : PySem.W.Frag) : R2 := fun x y H Q => rEqD K x y H Q ∨ rEqV K x y H Q
theorem or_eqA {X : Cx} (hu : X.A.units + 64 < cLine) : OpR X (compareOp .Eq) (rEqA X.K) := (op_eqD hu).or (op_eqV hu)
theorem os_eqA {K : PySem.W.Frag} : OpSim K fEqA (rEqA K) := by
  intro W w σ h v u x y Q rh rv ru p
  unfold fEqA at p
  split at p
  · rename_i b e
    refine .inl (os_eq W w σ h v u x y Q rh rv ru ?_)
    unfold fEq
    rw [e]
    exact p
  · exact .inr (os_eqK W w σ h v u x y Q rh rv ru p)
end U
set_option Elab.async false
set_option linter.all false
set_option maxRecDepth 100000
set_option maxHeartbeats 4000000
/-! The generic layer, part 23: locked dicts; calls by bundles. -/
namespace U
open PySem PySem.Spec PyProof.Rows L2
variable [Tab]
/-- while m runs, the dict that the name i holds is locked -/
def lLock (i : Nat) (m : Lv) : Lv := fun s h => match s[i]? with
  | some (some (.ref j)) => (match h[j]? with
    | some (.dic kvs) => (match m s (h.set j (.dif kvs)) with
      | .ok v h2 => if h2[j]? = some (.dif kvs) then .ok v (h2.set j (.dic kvs)) else .stuck
      | _ => .stuck)
    | _ => .stuck)
  | _ => .stuck
theorem unlock_le {w2 : Wd} {d : Addr} {od : Obj} {ks : List (Key × V)} (e : w2.H d = some (.frz od (.dK ks))) : Le0 w2 { w2 with H := upd w2.H d (.dK ks) } where
  n := Nat.le_refl _
  ρ := fun _ _ => rfl
  tup := fun a xs h => by
    show upd w2.H d _ a = _
    rw [upd_ne (fun q => by rw [q, e] at h; cases h)]
    exact h
  frz := fun a o u hu h => by
    show upd w2.H d _ a = _
    rw [upd_ne (fun q => by rw [q, e] at h; cases h; exact hu _ rfl)]
    exact h
theorem sl_lock {X : Cx} {W : WX} {e : Expr} {i : Nat} {m : Lv} (h : SimL X W e m) : SimL X W e (lLock i m) :=
  pe_imp (pe_lock h) fun σ H Q q => by
    obtain ⟨w, s, hh, rfl, rh, rs, p⟩ := q
    unfold lLock at p
    split at p
    · rename_i j ev
      obtain ⟨x, _, rj⟩ := rs.get i _ ev
      obtain ⟨hj, _⟩ := rj
      split at p
      · rename_i kvs ej
        obtain ⟨ks, s0, rk⟩ := rh.dic ej
        refine ⟨w.ρ j, .dK ks, s0, trivial, fun od => ?_⟩
        have x1 : Ext X.K w { w with H := upd w.H (w.ρ j) (.frz od (.dK ks)) } := Ext.put rh hj s0 (fun _ _ z => nomatch z)
        have rh1 : RH X.K { w with H := upd w.H (w.ρ j) (.frz od (.dK ks)) } (hh.set j (.dif kvs)) := rh.put hj s0 (fun _ _ z => nomatch z) ⟨od, ks, upd_same, rk.ext x1⟩
        refine ⟨{ w with H := upd w.H (w.ρ j) (.frz od (.dK ks)) }, s, hh.set j (.dif kvs), rfl, rh1, rs.ext x1, ?_⟩
        cases em : m s (hh.set j (.dif kvs)) with
        | exn _ _ _ => rw [em] at p; exact p.elim
        | stuck => rw [em] at p; exact p.elim
        | ok v h2 =>
          rw [em] at p
          intro w2 y x2 rh2 rl
          have p : Post X.K W w (Rl X.K) (if h2[j]? = some (.dif kvs) then .ok v (h2.set j (.dic kvs)) else .stuck) σ Q := p
          split at p
          · rename_i ec
            have e2 : w2.H (w.ρ j) = some (.frz od (.dK ks)) := x2.frz _ _ _ upd_same
            refine ⟨e2, ?_⟩
            have le := unlock_le e2
            have x12 := x1.trans x2
            have nd : ∀ (a : Addr) (o : HO), w.H a = some o → o ≠ .dK ks → a ≠ w.ρ j := fun a o h1 h2 q => by
              rw [q, s0] at h1
              cases h1
              exact h2 rfl
            have x3 : Ext X.K w { w2 with H := upd w2.H (w.ρ j) (.dK ks) } := by
              refine ⟨⟨x12.n, x12.ρ, fun a xs h1 => ?_, fun a o u h1 => ?_⟩, fun b o h1 hf => ?_, x12.new, fun b o h1 => ?_⟩
              · show upd w2.H _ _ a = _
                rw [upd_ne (nd a _ h1 fun z => nomatch z)]
                exact x12.tup a xs h1
              · show upd w2.H _ _ a = _
                rw [upd_ne (nd a _ h1 fun z => nomatch z)]
                exact x12.frz a o u h1
              · show upd w2.H _ _ b = _
                rw [upd_ne (fun q => hf j hj q.symm)]
                exact x12.frame b o h1 hf
              · by_cases q : b = w.ρ j
                · exact ⟨.dK ks, by show upd w2.H _ _ b = _; rw [q]; exact upd_same⟩
                · obtain ⟨o', h3⟩ := x12.there b o h1
                  exact ⟨o', by show upd w2.H _ _ b = _; rw [upd_ne q]; exact h3⟩
            have hj2 : j < w2.n := Nat.lt_of_lt_of_le hj x12.n
            have ρj : w2.ρ j = w.ρ j := x12.ρ j hj
            have rh3 : RH X.K { w2 with H := upd w2.H (w.ρ j) (.dK ks) } (h2.set j (.dic kvs)) := by
              refine ⟨by rw [List.length_set]; exact rh2.len, fun k c ek => ?_, rh2.inj⟩
              have hjh : j < h2.length := by rw [rh2.len]; exact hj2
              by_cases hk : k = j
              · subst hk
                rw [List.getElem?_set_self hjh] at ek
                cases ek
                refine ⟨ks, ?_, (rk.ext x12).le le⟩
                show upd w2.H (w.ρ k) _ (w2.ρ k) = _
                rw [ρj]
                exact upd_same
              · rw [List.getElem?_set_ne (Ne.symm hk)] at ek
                refine (rh2.cell k c ek).le le ?_
                show upd w2.H (w.ρ j) _ (w2.ρ k) = _
                rw [← ρj]
                exact upd_ne fun z => hk (rh2.inj k j (rh2.lt ek) hj2 z)
            obtain ⟨a, vs, rfl, rl, hn⟩ := rl
            have had : a ≠ w.ρ j := fun q => by rw [q] at rl; have := rl.at_; rw [e2] at this; cases this
            have hn0 : w.H a = none := by
              have : upd w.H (w.ρ j) (.frz od (.dK ks)) a = none := hn
              rw [upd_ne had] at this
              exact this
            exact p _ (.ref a) x3 rh3 ⟨a, vs, rfl, ⟨by show upd w2.H _ _ a = _; rw [upd_ne had]; exact rl.at_, rl.rel.le le, rl.out⟩, hn0⟩
          · exact p.elim
      · exact p.elim
    · exact p.elim
/-- for k in d, d locked -/
@[simp] def keysOfV (v : PV) (h : Hh) : Res (List PV × Gd) := match v with
  | .ref j => (match h[j]? with
    | some (.dif kvs) => .ok (kvs.map fun kv => keyP kv.1, some (j, .dif kvs)) h
    | _ => .stuck)
  | _ => .stuck
@[simp] def iKeysE (m : Ev) : Iv := fun s h => (m s h).bind keysOfV
theorem rks_at {K : PySem.W.Frag} {w : Wd} : ∀ {kvs : List (PKey × PV)} {ks : List (Key × V)} {i : Nat} {y : PV} {k : Key} {v : V}, RKs K w kvs ks → (kvs.map fun kv => keyP kv.1)[i]? = some y → ks[i]? = some (k, v) → RV K w y (kV k)
  | [], _, _, _, _, _, r, e, _ => by simp at e
  | (k0, x) :: r, _, 0, y, k, v, h, e, e2 => by
    obtain ⟨u, ks, rfl, _, _⟩ := h
    simp at e e2
    obtain ⟨rfl, rfl⟩ := e2
    subst e
    cases k0 with
    | inl i => rfl
    | inr x => rfl
  | (k0, x) :: r, _, i + 1, y, k, v, h, e, e2 => by
    obtain ⟨u, ks, rfl, _, h2⟩ := h
    exact rks_at h2 (by simpa using e) (by simpa using e2)
theorem jok_keys {K : PySem.W.Frag} {w0 : Wd} {j : Nat} {o : Obj} {kvs : List (PKey × PV)} {ks : List (Key × V)} (hj : j < w0.n) (s0 : w0.H (w0.ρ j) = some (.frz o (.dK ks))) (r0 : RKs K w0 kvs ks) :
    JOk K w0 (Itk (w0.ρ j) o ks) (kvs.map fun kv => keyP kv.1) (some (j, .dif kvs)) := fun w h x rh hg => by
  have s := x.frz _ _ _ s0
  have r := r0.ext x
  refine ⟨fun i y e => ?_, s, by rw [List.length_map, r.len]; exact Nat.le_refl _⟩
  have hi : i < ks.length := by
    have := (List.getElem?_eq_some_iff.mp e).1
    rw [List.length_map] at this
    rw [r.len]; exact this
  refine ⟨⟨s, hi⟩, fun v H' z => ?_⟩
  obtain ⟨rfl, k, u, ek, rfl⟩ := z
  exact ⟨w, rfl, Ext.refl w, rh, rks_at r e ek⟩
theorem si_keys {X : Cx} {W : WX} {tg e : Expr} {me : Ev} (he : SimE X W e me) : SimI X W tg e (iKeysE me) :=
  pi_imp (pi_keys he) fun σ H R q => tR_bind back_j q fun w w' s v x h' x1 rs rh r p => by
    unfold keysOfV at p
    split at p
    · rename_i j
      obtain ⟨hj, rfl⟩ := r
      split at p
      · rename_i kvs ej
        obtain ⟨o, ks, s0, rk⟩ := rh.dif ej
        exact ⟨_, o, rfl, .inl ⟨ks, s0, p.now rh (jok_keys hj s0 rk)⟩⟩
      · exact p.elim
    · exact p.elim

/-! ### defs by bundles -/
/-- a def of the module, by its law -/
structure FnI (P : Program) (w : World) (K : PySem.W.Frag) (mg : Str → Option Value) (base : Heap) (x : Str) (n k : Nat) (F : FF) : Prop where
  ex : ∃ (f : Addr) (fd : FuncData) (ps : List Str), ps.length = n ∧ mg x = some (.ref f) ∧ PySem.W.keepIn K (.ref f) = true ∧ Binds K fd ps [] ∧ FnOk P w K mg base (L2.CX P w) k f fd ps (spF K n F)
theorem FnI.mono {P : Program} {w : World} {K : PySem.W.Frag} {mg : Str → Option Value} {base : Heap} {x : Str} {n j k : Nat} {F : FF} (h : FnI P w K mg base x n j F) (hk : j ≤ k) : FnI P w K mg base x n k F := by
  obtain ⟨f, fd, ps, h1, h2, h3, h4, h5⟩ := h.ex
  exact ⟨f, fd, ps, h1, h2, h3, h4, h5.mono hk⟩
section
variable {X : Cx} {W : WX} {k n : Nat} {F : FF} {x : Str} {p pos : Pos} {e : Expr} {es : List Expr} {m : Mv (List AV)}
theorem se_callI (I : FnI X.prog X.w X.K X.mg X.base x n k F) (hr : Room k X.A) (hg : Gl X x) (tk : Takes X W) (ha : SimA X W (e :: es) m) (hdb : (x == ("__debug__" : Str)) = false := by decide)
    (he : starEach (e :: es) X.env = (false, eval e X.env) :: starEach es X.env := by rfl) (hpl : (backTo pos (starEach es X.env)).any (·.1) = false := by rfl) : SimE X W (.Call (.Name x p) (e :: es) [] pos) (eCall n F m) := by
  obtain ⟨f, fd, ps, rfl, h2, h3, h4, h5⟩ := I.ex
  exact se_call h5 hr hg h2 h3 h4 tk ha hdb he hpl
theorem se_callI0 (I : FnI X.prog X.w X.K X.mg X.base x 0 k F) (hr : Room k X.A) (hg : Gl X x) (tk : Takes X W) (hdb : (x == ("__debug__" : Str)) = false := by decide) : SimE X W (.Call (.Name x p) [] [] pos) (eCall 0 F aNil) := by
  obtain ⟨f, fd, ps, h1, h2, h3, h4, h5⟩ := I.ex
  cases ps with
  | nil => exact se_call0 h5 hr hg h2 h3 h4 tk hdb
  | cons a b => cases h1
end
theorem fn_simI {P : Program} {w : World} {K : PySem.W.Frag} {mg : Str → Option Value} {base : Heap} {x qual : Str} {params : Arguments} {body : List Stmt} {scope : Scope} {f : Addr} {fd : FuncData} {N ps : List Str} {k n : Nat} {F : FF} {m : Sv}
    (D : FunD K x qual params body scope [] [] f fd) (hm : mg x = some (.ref f)) (S : FnScope N ps scope) (hn : ps.length = n) (hb : BodySim P w K mg base N qual scope f k body m)
    (bd : ∀ (kV doc pm : Value) (an : Option Addr) (cdv ct : Value) (us : List Value), us.length = ps.length → bindArgs (PySem.W.fnOf x qual params body scope .none kV doc pm an cdv ct) ⟨us, []⟩ = pure (ps.zip us))
    (hF : ∀ as h, clH h → clVs h.length as → as.length = n → GcR h (m (start0 N as) h) (F as h)) : FnI P w K mg base x n (k + 1) F := by
  subst hn
  exact ⟨f, fd, ps, rfl, hm, D.kp, D.bindsN bd, fn_sim D S hb hF⟩
end U
set_option Elab.async false
set_option linter.all false
set_option maxRecDepth 100000
set_option maxHeartbeats 4000000
/-! The generic layer, part 24: what is walked, whatever it is. -/
namespace L2
open PySem PySem.Spec PyProof.Rows
/-- a list, a tuple, a text, a locked dict -/
def AnyJ (K : PySem.W.Frag) (x : V) (H1 : Hp) (R : It → Hp → Prop) : Prop :=
  (∃ a, x = .ref a ∧ (∃ xs, SqL K H1 a xs) ∧ R (Itl K a) H1) ∨ (∃ a, x = .ref a ∧ (∃ xs, SqT K H1 a xs) ∧ R (Itt K a) H1) ∨ (∃ z, x = .str z ∧ R (Its z) H1) ∨
    (∃ d o kvs, x = .ref d ∧ H1 d = some (.frz o (.dK kvs)) ∧ R (Itk d o kvs) H1)
def iAnyT (K : PySem.W.Frag) (tl : TE) : TI := fun σ H R => tl σ H fun x H1 => AnyJ K x H1 R
section
variable {X : Cx} {tg : Expr}
theorem any_run {pins : List (Addr × Obj)} {σ : St} {H1 : Hp} {s1 : Shared} {x : V} {v : Value} {R : It → Hp → Prop} (I1 : Inv X pins σ H1 s1) (r1 : RelV x v) (q : AnyJ X.K x H1 R) : wpAny (model X.prog X.w) X.A (pyIter v) (PIE X pins σ tg R) X.xe s1 := by
  rcases q with ⟨a, rfl, ⟨xs, hq⟩, q⟩ | ⟨a, rfl, ⟨xs, hq⟩, q⟩ | ⟨z, rfl, q⟩ | ⟨d, o, kvs, rfl, hd, q⟩
  · cases r1
    obtain ⟨its, rv, p, hz⟩ := I1.list hq
    exact wpAny_pyIter_list p.isList (pi_one (tk := s1.toks) I1 _ (turn_list a _) ⟨_, Heap.get?_push_size _ rfl, rfl, rfl⟩ q)
  · cases r1
    obtain ⟨its, rv, p, hz⟩ := I1.tuple hq
    exact wpAny_pyIter_tuple (show s1.heap.IsTuple a its.toArray from p) (pi_one (tk := s1.toks) I1 _ (turn_tuple a _) ⟨_, Heap.get?_push_size _ rfl, rfl, rfl⟩ q)
  · obtain ⟨t, rfl⟩ := r1
    cases ha : z.cps.all (· < 128)
    · exact wpAny_pyIter_wide ha (pi_one (tk := s1.toks) I1 _ (turn_str _ z t "str_iterator" (.inr rfl)) ⟨_, Heap.get?_push_size _ rfl, rfl, rfl⟩ q)
    · exact wpAny_pyIter_ascii ha (pi_one (tk := s1.toks) I1 _ (turn_str _ z t "str_ascii_iterator" (.inl rfl)) ⟨_, Heap.get?_push_size _ rfl, rfl, rfl⟩ q)
  · cases r1
    obtain ⟨hs, hgd, hx, es, ep, vs, hdt, hsz, kv, hm⟩ := I1.frzK hd
    refine iter_keys hs hgd hx hdt (pi_one (tk := s1.toks) I1 _ (turn_keys _ hdt) ⟨_, Heap.get?_push_size _ rfl, rfl, ?_⟩ q)
    rw [hsz] <;> rfl
theorem pi_any {l : Expr} {tl : TE} (hl : PE X l tl) : PI X tg l (iAnyT X.K tl) := by
  refine ⟨fun pins s σ H R I h => ?_⟩
  exact thn (hl.run pins s σ H _ I h) fun v s1 ⟨x, H1, I1, r1, q1⟩ => any_run I1 r1 q1
def iEnumA0 (K : PySem.W.Frag) (ta : TA) : TI := fun σ H R => ta σ H fun vs H1 => (∃ a xs, vs = [.ref a] ∧ SqL K H1 a xs ∧ R (IteN K a) H1) ∨ (∃ a xs, vs = [.ref a] ∧ SqT K H1 a xs ∧ R (IteT K a) H1)
theorem pi_enumA {e : Expr} {ta : TA} {p pos tpos : Pos} {elts : List Expr} {kk : Nat} (hg : Gl X "enumerate") (hm : X.mg "enumerate" = none) (ha : PA X [e] ta) (hs : starEach [e] X.env = [(false, eval e X.env)] := by rfl) :
    PI X (.Tuple elts kk tpos) (.Call (.Name "enumerate" p) [e] [] pos) (iEnumA0 X.K ta) := by
  refine ⟨fun pins s σ H R I h => ?_⟩
  refine Call_ (ld_blt I hg hm boot_enumerate (PyProof.Rows.callWith_type1 (thn (ha.run pos pins s σ H _ I h) fun us s1 ⟨vs, H1, I1, r1, q1⟩ => ?_) hs rfl))
  rcases q1 with ⟨a, xs, ex, hq, q⟩ | ⟨a, xs, ex, hq, q⟩
  · subst ex
    cases r1 with
    | cons r rr =>
      cases rr
      cases r
      obtain ⟨its, rv, p', hz⟩ := I1.list hq
      refine call_enumerate_list p'.isList fun h' he hit hsz hk => wpAny_pyIter_enum he ?_
      have I2 : Inv X pins σ H1 { s1 with heap := h' } := I1.kept (t' := s1.toks) hk
      refine ⟨s1.heap.objs.size + 1, [s1.heap.objs.size + 1, s1.heap.objs.size], _, _, H1, rfl, I2, turn_enumN a (s1.heap.objs.size + 1) s1.heap.objs.size, ⟨⟨.none, he⟩, hit, Nat.succ_ne_self _⟩, fun b hb => ?_, q⟩
      have e' : b = s1.heap.objs.size + 1 ∨ b = s1.heap.objs.size := by simpa using hb
      have hle : s1.heap.objs.size ≤ b := by
        rcases e' with z | z
        · rw [z]; exact Nat.le_add_right _ _
        · rw [z]; exact Nat.le_refl _
      exact I1.fpOk hle (I1.hok.fresh hle)
  · subst ex
    cases r1 with
    | cons r rr =>
      cases rr
      cases r
      obtain ⟨its, rv, p', hz⟩ := I1.tuple hq
      have hal : a < s1.heap.objs.size := by obtain ⟨o, ho, _⟩ := p'; exact Heap.lt_size ho
      refine HT.call_enumerate_tuple (show s1.heap.IsTuple a its.toArray from p') fun h' he hit hsz hk => wpAny_pyIter_enum he ?_
      have I2 : Inv X pins σ H1 { s1 with heap := h' } := I1.kept (t' := s1.toks) hk
      refine ⟨s1.heap.objs.size + 1, [s1.heap.objs.size + 1, s1.heap.objs.size], _, _, H1, rfl, I2, turn_enumT a (s1.heap.objs.size + 1) s1.heap.objs.size, ⟨⟨.none, he⟩, hit, Nat.succ_ne_self _, Nat.ne_of_lt hal, Nat.ne_of_lt (Nat.lt_succ_of_lt hal)⟩, fun b hb => ?_, q⟩
      have e' : b = s1.heap.objs.size + 1 ∨ b = s1.heap.objs.size := by simpa using hb
      have hle : s1.heap.objs.size ≤ b := by
        rcases e' with z | z
        · rw [z]; exact Nat.le_add_right _ _
        · rw [z]; exact Nat.le_refl _
      exact I1.fpOk hle (I1.hok.fresh hle)
end
end L2
namespace U
open PySem PySem.Spec PyProof.Rows L2
variable [Tab]
/-- what a value yields -/
def anyOf (v : PV) (h : Hh) : Res (List PV × Gd) := match v with
  | .tup xs => .ok (xs, none) h
  | .str x => .ok (x.map fun c => .str [c], none) h
  | .scr ns => .ok (ns.map PV.int, none) h
  | .ref j => (match h[j]? with
    | some (.lst xs) => .ok (xs, some (j, .lst xs)) h
    | some (.dif kvs) => .ok (kvs.map fun kv => keyP kv.1, some (j, .dif kvs)) h
    | _ => .stuck)
  | _ => .stuck
@[simp] def iAny (m : Ev) : Iv := fun s h => (m s h).bind anyOf
@[simp] theorem anyOf_tup (xs : List PV) (h : Hh) : anyOf (.tup xs) h = .ok (xs, none) h := rfl
@[simp] theorem anyOf_str (xs : List Nat) (h : Hh) : anyOf (.str xs) h = .ok (xs.map fun c => .str [c], none) h := rfl
@[simp] theorem anyOf_scr (xs : List Int) (h : Hh) : anyOf (.scr xs) h = .ok (xs.map PV.int, none) h := rfl
theorem anyOf_lst {j : Nat} {xs : List PV} {h : Hh} (e : h[j]? = some (.lst xs)) : anyOf (.ref j) h = .ok (xs, some (j, .lst xs)) h := by simp only [anyOf, e]
theorem anyOf_dif {j : Nat} {kvs : List (PKey × PV)} {h : Hh} (e : h[j]? = some (.dif kvs)) : anyOf (.ref j) h = .ok (kvs.map fun kv => keyP kv.1, some (j, .dif kvs)) h := by simp only [anyOf, e]
section
variable {X : Cx} {W : WX} {tg e : Expr} {p pos tpos : Pos} {me : Ev}
theorem si_any (he : SimE X W e me) : SimI X W tg e (iAny me) :=
  pi_imp (pi_any he) fun σ H R q => tR_bind back_j q fun w w' s v x h' x1 rs rh r p => by
    cases v with
    | tup xs =>
      obtain ⟨a, vs, rfl, s1, r1⟩ := r
      exact .inr (.inl ⟨a, rfl, ⟨vs, s1.sq⟩, p.now rh (jok_tup s1.sq r1)⟩)
    | str z =>
      cases (show x = V.str _ from r)
      exact .inr (.inr (.inl ⟨_, rfl, p.now rh (jok_str z)⟩))
    | scr ns =>
      obtain ⟨a, rfl, s1⟩ := r
      exact .inl ⟨a, rfl, ⟨_, s1.sq⟩, p.now rh (jok_list (sq_of_scr s1))⟩
    | ref j =>
      obtain ⟨hj, rfl⟩ := r
      unfold anyOf at p
      simp only at p
      split at p
      · rename_i xs ej
        obtain ⟨vs, s1, r1⟩ := rh.lst ej
        exact .inl ⟨_, rfl, ⟨vs, SqL.of s1⟩, p.now rh (jok_list (sq_of_ref hj))⟩
      · rename_i kvs ej
        obtain ⟨o, ks, s0, rk⟩ := rh.dif ej
        exact .inr (.inr (.inr ⟨_, o, ks, rfl, s0, p.now rh (jok_keys hj s0 rk)⟩))
      · exact p.elim
    | _ => exact p.elim
/-- enumerate(a list, a tuple) -/
def enumOf (v : PV) (h : Hh) : Res (List PV × Gd) := match v with
  | .tup xs => .ok (enumL xs, none) h
  | .ref j => (match h[j]? with
    | some (.lst xs) => .ok (enumL xs, some (j, .lst xs)) h
    | _ => .stuck)
  | _ => .stuck
@[simp] def iEnumA (m : Ev) : Iv := fun s h => (m s h).bind enumOf
@[simp] theorem enumOf_tup (xs : List PV) (h : Hh) : enumOf (.tup xs) h = .ok (enumL xs, none) h := rfl
theorem enumOf_lst {j : Nat} {xs : List PV} {h : Hh} (e : h[j]? = some (.lst xs)) : enumOf (.ref j) h = .ok (enumL xs, some (j, .lst xs)) h := by simp only [enumOf, e]
theorem si_enumA {elts : List Expr} {kk : Nat} (hg : Gl X "enumerate") (hm : X.mg "enumerate" = none) (he : SimE X W e me) (hs : starEach [e] X.env = [(false, eval e X.env)] := by rfl) (hs' : starEach [e] X.env = (false, eval e X.env) :: starEach [] X.env := by rfl) :
    SimI X W (.Tuple elts kk tpos) (.Call (.Name "enumerate" p) [e] [] pos) (iEnumA me) :=
  pi_imp (pi_enumA hg hm (pa_cons he pa_nil hs') hs) fun σ H R q => tR_bind back_j q fun w w' s v x h' x1 rs rh r p => by
    cases v with
    | tup xs =>
      obtain ⟨a, vs, rfl, s1, r1⟩ := r
      exact .inr ⟨a, vs, rfl, s1.sq, p.now rh (jok_enumT fun w2 h2 x2 _ _ => ⟨vs, sqt_ext s1.sq x2, r1.ext x2⟩)⟩
    | ref j =>
      obtain ⟨hj, rfl⟩ := r
      unfold enumOf at p
      simp only at p
      split at p
      · rename_i xs ej
        obtain ⟨vs, s1, r1⟩ := rh.lst ej
        exact .inl ⟨_, vs, rfl, SqL.of s1, p.now rh (jok_enum (sq_of_ref hj))⟩
      · exact p.elim
    | _ => exact p.elim
@[simp] def sCont : Sv := fun s h => .ct s h
theorem ss_cont {pos : Pos} : SimS X W (.Continue pos) sCont := ps_imp ps_continue fun D σ H q => by
  obtain ⟨w, s, hh, rfl, rh, rs, p⟩ := q
  exact p w σ (Ext.refl w) rh rs
end
end U
set_option Elab.async false
set_option linter.all false
set_option maxRecDepth 100000
set_option maxHeartbeats 4000000
/-! The generic layer, part 25: a name set to a dict comprehension; contexts. -/
namespace L2
open PySem PySem.Spec PyProof.Rows
section
variable {X : Cx}
theorem ps_setDc {i : Nat} {y : Str} {py : Pos} {kx vx tg iter : Expr} {ifs : List Expr} {scope : Scope} {own : List (Str × Nat)} {pos spos : Pos} {wi : TI} {g : TG} {tt : TT} {tk tv : TE} (hc : X.calm = true) (hN : X.N.Nodup) (hy : X.N[i]? = some y) (hyl : X.env.scope.names.lookup y = some .local)
    (hsw : swapsWith (.DictComp kx vx [⟨tg, iter, ifs, 0⟩] scope pos) (some (.Name y py)) spos.line X.env = pure true) (hi : PI X tg iter wi) (ok : BlkOk X.N X.env.scope scope own)
    (hg : ∀ (s : Shared) (H : Hp) (C : Addr) (cl : List (Str × Addr)) (fp : List Addr), PG (X.blk s H scope (compEnvC scope cl C X.env) fp) tg g) (ht : ∀ (s : Shared) (H : Hp) (C : Addr) (cl : List (Str × Addr)) (fp : List Addr), PTs (X.blk s H scope (compEnvC scope cl C X.env) fp) ifs tt)
    (hk : ∀ (s : Shared) (H : Hp) (C : Addr) (cl : List (Str × Addr)) (fp : List Addr), PE (X.blk s H scope (compEnvC scope cl C X.env) fp) kx tk)
    (he : ∀ (s : Shared) (H : Hp) (C : Addr) (cl : List (Str × Addr)) (fp : List Addr), PE (X.blk s H scope (compEnvC scope cl C X.env) fp) vx tv) (hs : ∀ x, foldedSetIterable iter X.env x = pure x := by intro _; rfl) :
    PS X (.Assign [.Name y py] (.DictComp kx vx [⟨tg, iter, ifs, 0⟩] scope pos) spos) (tAsg (tDc wi g tt tk tv (own.map (·.2))) (gName i)) := by
  refine ⟨fun pins s σ H D I h => ?_⟩
  rw [exec_Assign_Name_used _ _ _ _ hsw]
  refine wpAny_bind (wpAny_standAt (wpAny_bind ?_))
  show wpAny _ X.A (do let _ ← comprehension (.DictComp kx vx [⟨tg, iter, ifs, 0⟩] scope pos) scope X.env (firstIterPos [⟨tg, iter, ifs, 0⟩] pos) newDict false (eval iter X.env) (some (assign (.Name y py) X.env))) _ _ s
  have h : tDc wi g tt tk tv (own.map (·.2)) σ H (fun x H1 => gName i x σ H1 D.nx) := h
  refine wpAny_bind (thn (dc_core (Qf := fun _ s' => SP X pins D .next s') hc hN I hi ok hg ht hk he hs h fun L C s' m H' I' q hn f => ?_) fun _ s' hq => wpAny_pure (wpAny_pure hq))
  show wpAny _ _ (assign (.Name y py) X.env (.ref L)) _ _ _
  refine wpAny_assign_Name (store_ok2 (v := V.ref L) I' hN hy (.inl hyl) rfl (fun s2 I2 ⟨a, sb, ha⟩ => ?_) (.inr hyl))
  obtain ⟨f0, f1, f2, f3, f4, f5⟩ := f
  have haC : C ≠ a := by
    rcases ha with z | z
    · rw [z]; exact f1
    · exact fun e => f4 y a z e.symm
  refine ⟨m, hn.sameBut sb haC, fun h3 sb3 => ?_⟩
  exact ⟨_, H', I2.turned (t' := s2.toks) (fun b o hb e => (sb3.2 b hb).trans e) f0 f1 f3 f4 f5, q⟩
theorem sw_dict {kx vx : Expr} {gs : List Comprehension} {scope : Scope} {pos py : Pos} {y : Str} {l : Nat} {env : Env} (hk : env.scope.kind = .function) (hy : env.scope.names.lookup y = some .local) (hl : (py.line == pos.line) = true)
    (ha : (scope.names.any fun (n, k) => n == y && (k == .local || k == .cell)) = false) : swapsWith (.DictComp kx vx gs scope pos) (some (.Name y py)) l env = pure true := by
  have ky : env.kindOf y = some .local := hy
  have hb : env.blockKind = .function := by unfold Env.blockKind; rw [hk]; rfl
  unfold swapsWith
  simp only [hb, ky, ha, Expr.pos, hl]
  rfl
end
end L2
namespace U
open PySem PySem.Spec PyProof.Rows L2
variable [Tab]
section
variable {X : Cx} {W : WX} {kx vx tg iter : Expr} {ifs : List Expr} {scope : Scope} {own : List (Str × Nat)} {pos : Pos} {mi : Iv} {g : TG} {b : Bd} {c : Tv} {k e : Ev}
theorem ss_setDc {i : Nat} {y : Str} {py spos : Pos} (hc : X.calm = true) (hN : X.N.Nodup) (hy : X.N[i]? = some y) (hyl : X.env.scope.names.lookup y = some .local)
    (hsw : swapsWith (.DictComp kx vx [⟨tg, iter, ifs, 0⟩] scope pos) (some (.Name y py)) spos.line X.env = pure true) (hi : SimI X W tg iter mi) (ok : BlkOk X.N X.env.scope scope own) (hb : CG X.K (own.map (·.2)) g b)
    (hg : ∀ (s : Shared) (H : Hp) (C : Addr) (cl : List (Str × Addr)) (fp : List Addr), PG (X.blk s H scope (compEnvC scope cl C X.env) fp) tg g)
    (ht : ∀ (s : Shared) (H : Hp) (C : Addr) (cl : List (Str × Addr)) (fp : List Addr), PTs (X.blk s H scope (compEnvC scope cl C X.env) fp) ifs (tR X.K WNo Rb c))
    (hk : ∀ (s : Shared) (H : Hp) (C : Addr) (cl : List (Str × Addr)) (fp : List Addr), SimE (X.blk s H scope (compEnvC scope cl C X.env) fp) WNo kx k)
    (he : ∀ (s : Shared) (H : Hp) (C : Addr) (cl : List (Str × Addr)) (fp : List Addr), SimE (X.blk s H scope (compEnvC scope cl C X.env) fp) WNo vx e)
    (hs : ∀ x, foldedSetIterable iter X.env x = pure x := by intro _; rfl) : SimS X W (.Assign [.Name y py] (.DictComp kx vx [⟨tg, iter, ifs, 0⟩] scope pos) spos) (sAsg (eDComp mi b c k e (own.map (·.2))) (gN i)) :=
  ps_imp (ps_setDc (tk := tR X.K WNo (Re X.K) k) (tv := tR X.K WNo (Re X.K) e) hc hN hy hyl hsw hi ok hg ht hk he hs) fun D σ H q => dc_ok (W := W) hb (tS_bind q fun w w' s v x h' x1 rs rh r p => p w' _ (Ext.refl _) rh (rs.set r))
end
theorem u1 {k : Nat} {A : Around} (r : Room k A) : A.units + 1 < cLine := by have := r.units; omega
theorem u65 {k : Nat} {A : Around} (r : Room k A) : A.units + 65 < cLine := by have := r.un; omega
section
variable {P : Program} {w : World} {K : PySem.W.Frag} {mg : Str → Option Value} {base : Heap} {N : List Str} {qual : Str} {scope : Scope} {f : Addr} {cdv : Value} {A : Around} {outer : List Env} {s : Shared} {H : Hp} {E : XK}
theorem tkOf : Takes (cxOf (L2.CX P w) P w K mg base N qual scope f cdv A outer s H E) (wx E) := takes_of rfl rfl rfl rfl
theorem poOf : PassesOwn (model (cxOf (L2.CX P w) P w K mg base N qual scope f cdv A outer s H E).prog (cxOf (L2.CX P w) P w K mg base N qual scope f cdv A outer s H E).w) (cxOf (L2.CX P w) P w K mg base N qual scope f cdv A outer s H E).A
    (cxOf (L2.CX P w) P w K mg base N qual scope f cdv A outer s H E).env (cxOf (L2.CX P w) P w K mg base N qual scope f cdv A outer s H E).xe := passes_of rfl
end
theorem pts_of {X : Cx} {c : Expr} {t : TT} (h : PT X c t) : PTs X [c] t := pts_one h
end U
set_option Elab.async false
set_option linter.all false
set_option maxRecDepth 100000
set_option maxHeartbeats 4000000
/-! The generic layer, part 26: a def's law by choice; rules for loops. -/
noncomputable section
namespace U
open PySem PySem.Spec PyProof.Rows L2
variable [Tab]
/-- an outcome that is good and that the body yields, up to garbage -/
def Okay (m : Sv) (N : List Str) (Good : List PV → Hh → Res PV → Prop) (as : List PV) (h : Hh) (r : Res PV) : Prop :=
  r ≠ .stuck ∧ Good as h r ∧ (clH h → clVs h.length as → GcR h (m (start0 N as) h) r)
open Classical in
def specF (m : Sv) (N : List Str) (Good : List PV → Hh → Res PV → Prop) : FF := fun as h => if q : ∃ r, Okay m N Good as h r then q.choose else .stuck
theorem specF_gc {m : Sv} {N : List Str} {Good : List PV → Hh → Res PV → Prop} {as : List PV} {h : Hh} (h1 : clH h) (h2 : clVs h.length as) : GcR h (m (start0 N as) h) (specF m N Good as h) := by
  unfold specF
  split
  · rename_i q
    exact q.choose_spec.2.2 h1 h2
  · trivial
theorem specF_use {m : Sv} {N : List Str} {Good : List PV → Hh → Res PV → Prop} {as : List PV} {h : Hh} (q : ∃ r, Okay m N Good as h r) : specF m N Good as h ≠ .stuck ∧ Good as h (specF m N Good as h) := by
  unfold specF
  rw [dif_pos q]
  exact ⟨q.choose_spec.1, q.choose_spec.2.1⟩
/-- a value, the old heap as it was: what was new is garbage -/
theorem gc_pure {h g : Hh} {v : PV} (hc : clH h) (hv : clV h.length v) : GcR h (.rt v (h ++ g)) (.ok v h) := .inl ⟨v, _, rfl, Cp.cut0 hc hv⟩
theorem gc_same {h h1 : Hh} {v : PV} : GcR h (.rt v h1) (.ok v h1) := .inl ⟨v, _, rfl, Cp.same⟩
theorem gc_nx {h h1 : Hh} {s : Ev0} : GcR h (.nx s h1) (.ok .non h1) := .inr ⟨s, h1, rfl, Cp.same⟩
theorem gc_nxg {h g : Hh} {s : Ev0} (hc : clH h) : GcR h (.nx s (h ++ g)) (.ok .non h) := .inr ⟨s, _, rfl, Cp.cut0 hc trivial⟩
@[simp] theorem start0_def (N : List Str) (as : List PV) : start0 N as = as.map some ++ List.replicate (N.length - as.length) none := rfl

/-! ### for -/
theorem forL_rule {t : Tgt} {b : Sv} {g : Gd} (I : Nat → Ev0 → Hh → Prop) (Ex : SRes → Prop) {xs : List PV} (hg : ∀ i s h, i ≤ xs.length → I i s h → gOk g h)
    (step : ∀ i x s h, xs[i]? = some x → I i s h → ∃ s1 h1, t x s h = .ok s1 h1 ∧ ((∃ s2 h2, b s1 h1 = .nx s2 h2 ∧ I (i + 1) s2 h2) ∨ (∃ s2 h2, b s1 h1 = .ct s2 h2 ∧ I (i + 1) s2 h2) ∨ (∃ s2 h2, b s1 h1 = .bk s2 h2 ∧ Ex (.nx s2 h2)) ∨ (∃ v h2, b s1 h1 = .rt v h2 ∧ Ex (.rt v h2)))) :
    ∀ (n i : Nat) (s : Ev0) (h : Hh), n = xs.length - i → i ≤ xs.length → I i s h → (∃ s' h', forL t b g (xs.drop i) s h = .nx s' h' ∧ I xs.length s' h') ∨ Ex (forL t b g (xs.drop i) s h) := by
  intro n
  induction n with
  | zero =>
    intro i s h hn hi hI
    have e : i = xs.length := by omega
    subst e
    left
    rw [List.drop_length]
    exact ⟨s, h, by unfold forL; rw [if_pos (hg _ s h (Nat.le_refl _) hI)], hI⟩
  | succ n ih =>
    intro i s h hn hi hI
    have hlt : i < xs.length := by omega
    rw [List.drop_eq_getElem_cons hlt]
    obtain ⟨s1, h1, e1, q⟩ := step i xs[i] s h (List.getElem?_eq_getElem hlt) hI
    unfold forL
    rw [if_pos (hg _ s h hi hI), e1]
    rcases q with ⟨s2, h2, e2, q⟩ | ⟨s2, h2, e2, q⟩ | ⟨s2, h2, e2, q⟩ | ⟨v, h2, e2, q⟩
    · simp only [e2]
      exact ih (i + 1) s2 h2 (by omega) hlt q
    · simp only [e2]
      exact ih (i + 1) s2 h2 (by omega) hlt q
    · simp only [e2]
      exact .inr q
    · simp only [e2]
      exact .inr q
/-- a for that runs through -/
theorem forL_inv {t : Tgt} {b : Sv} {g : Gd} (I : Nat → Ev0 → Hh → Prop) {xs : List PV} {s : Ev0} {h : Hh} (h0 : I 0 s h) (hg : ∀ i s h, i ≤ xs.length → I i s h → gOk g h)
    (step : ∀ i x s h, xs[i]? = some x → I i s h → ∃ s1 h1, t x s h = .ok s1 h1 ∧ ∃ s2 h2, (b s1 h1 = .nx s2 h2 ∨ b s1 h1 = .ct s2 h2) ∧ I (i + 1) s2 h2) : ∃ s' h', forL t b g xs s h = .nx s' h' ∧ I xs.length s' h' := by
  have q := forL_rule I (fun _ => False) hg (fun i x s h e hI => by
    obtain ⟨s1, h1, e1, s2, h2, e2, q⟩ := step i x s h e hI
    refine ⟨s1, h1, e1, ?_⟩
    rcases e2 with e2 | e2
    · exact .inl ⟨s2, h2, e2, q⟩
    · exact .inr (.inl ⟨s2, h2, e2, q⟩)) xs.length 0 s h (by simp) (Nat.zero_le _) h0
  rcases q with q | q
  · simpa using q
  · exact q.elim
/-- a for that may end early -/
theorem forL_ex {t : Tgt} {b : Sv} {g : Gd} (I : Nat → Ev0 → Hh → Prop) (Ex : SRes → Prop) {xs : List PV} {s : Ev0} {h : Hh} (h0 : I 0 s h) (hg : ∀ i s h, i ≤ xs.length → I i s h → gOk g h)
    (step : ∀ i x s h, xs[i]? = some x → I i s h → ∃ s1 h1, t x s h = .ok s1 h1 ∧ ((∃ s2 h2, b s1 h1 = .nx s2 h2 ∧ I (i + 1) s2 h2) ∨ (∃ s2 h2, b s1 h1 = .ct s2 h2 ∧ I (i + 1) s2 h2) ∨ (∃ s2 h2, b s1 h1 = .bk s2 h2 ∧ Ex (.nx s2 h2)) ∨ (∃ v h2, b s1 h1 = .rt v h2 ∧ Ex (.rt v h2)))) :
    (∃ s' h', forL t b g xs s h = .nx s' h' ∧ I xs.length s' h') ∨ Ex (forL t b g xs s h) := by
  have q := forL_rule I Ex hg step xs.length 0 s h (by simp) (Nat.zero_le _) h0
  simpa using q
/-! ### while -/
theorem while_ex {c : Tv} {b : Sv} (I : Nat → Ev0 → Hh → Prop) (Ex : SRes → Prop) (Dn : Ev0 → Hh → Prop)
    (step : ∀ m s h, I m s h → (∃ h1, c s h = .ok false h1 ∧ Dn s h1) ∨ (∃ h1, c s h = .ok true h1 ∧ ((∃ m' s2 h2, m' < m ∧ b s h1 = .nx s2 h2 ∧ I m' s2 h2) ∨ (∃ m' s2 h2, m' < m ∧ b s h1 = .ct s2 h2 ∧ I m' s2 h2) ∨ (∃ s2 h2, b s h1 = .bk s2 h2 ∧ Ex (.nx s2 h2)) ∨ (∃ v h2, b s h1 = .rt v h2 ∧ Ex (.rt v h2))))) :
    ∀ (m : Nat) (s : Ev0) (h : Hh), I m s h → (∃ s' h', sWhile c b s h = .nx s' h' ∧ Dn s' h') ∨ Ex (sWhile c b s h) := by
  intro m
  induction m using Nat.strongRecOn with
  | _ m ih =>
    intro s h hI
    rw [sWhile_eq]
    rcases step m s h hI with ⟨h1, e, q⟩ | ⟨h1, e, q⟩
    · rw [e]
      exact .inl ⟨s, h1, rfl, q⟩
    · rw [e]
      show (∃ s' h', (match b s h1 with | .nx s2 h2 => sWhile c b s2 h2 | .ct s2 h2 => sWhile c b s2 h2 | .bk s2 h2 => SRes.nx s2 h2 | r => r) = .nx s' h' ∧ Dn s' h') ∨ Ex (match b s h1 with | .nx s2 h2 => sWhile c b s2 h2 | .ct s2 h2 => sWhile c b s2 h2 | .bk s2 h2 => SRes.nx s2 h2 | r => r)
      rcases q with ⟨m', s2, h2, hm, e2, q⟩ | ⟨m', s2, h2, hm, e2, q⟩ | ⟨s2, h2, e2, q⟩ | ⟨v, h2, e2, q⟩
      · rw [e2]; exact ih m' hm s2 h2 q
      · rw [e2]; exact ih m' hm s2 h2 q
      · rw [e2]; exact .inr q
      · rw [e2]; exact .inr q
theorem while_inv {c : Tv} {b : Sv} (I : Nat → Ev0 → Hh → Prop) (Dn : Ev0 → Hh → Prop)
    (step : ∀ m s h, I m s h → (∃ h1, c s h = .ok false h1 ∧ Dn s h1) ∨ (∃ h1, c s h = .ok true h1 ∧ ∃ m' s2 h2, m' < m ∧ (b s h1 = .nx s2 h2 ∨ b s h1 = .ct s2 h2) ∧ I m' s2 h2)) {m : Nat} {s : Ev0} {h : Hh} (h0 : I m s h) : ∃ s' h', sWhile c b s h = .nx s' h' ∧ Dn s' h' := by
  have q := while_ex I (fun _ => False) Dn (fun m s h hI => by
    rcases step m s h hI with q | ⟨h1, e, m', s2, h2, hm, e2, q⟩
    · exact .inl q
    · refine .inr ⟨h1, e, ?_⟩
      rcases e2 with e2 | e2
      · exact .inl ⟨m', s2, h2, hm, e2, q⟩
      · exact .inr (.inl ⟨m', s2, h2, hm, e2, q⟩)) m s h h0
  rcases q with q | q
  · exact q
  · exact q.elim
/-! ### comprehensions -/
/-- the elements leave the heap as it is -/
theorem compL_pure {b : Bd} {c : Tv} {e : Ev} {g : Gd} {s : Ev0} {h : Hh} (f : PV → Option PV) (hg : gOk g h) : ∀ (xs acc : List PV), (∀ x ∈ xs, ∃ s1, b x s = some s1 ∧ ∃ k, c s1 h = .ok k h ∧ ((k = true ∧ ∃ v, e s1 h = .ok v h ∧ f x = some v) ∨ (k = false ∧ f x = none))) →
    acc.length + xs.length ≤ sizeLine → compL b c e g s xs acc h = .ok (acc ++ xs.filterMap f) h
  | [], acc, _, _ => by unfold compL; rw [if_pos hg]; simp
  | x :: xs, acc, hx, hz => by
    obtain ⟨s1, e1, k, e2, q⟩ := hx x List.mem_cons_self
    unfold compL
    rw [if_pos hg]
    simp only [e1, e2, Res.nx]
    rw [List.length_cons] at hz
    rcases q with ⟨rfl, v, e3, e4⟩ | ⟨rfl, e4⟩
    · rw [if_pos rfl, e3]
      simp only
      rw [if_pos (by omega), compL_pure f hg xs (acc ++ [v]) (fun y hy => hx y (List.mem_cons_of_mem _ hy)) (by simp; omega)]
      simp [List.filterMap_cons, e4]
    · rw [if_neg Bool.false_ne_true, compL_pure f hg xs acc (fun y hy => hx y (List.mem_cons_of_mem _ hy)) (by omega)]
      simp [List.filterMap_cons, e4]
theorem compL_map {b : Bd} {e : Ev} {g : Gd} {s : Ev0} {h : Hh} (f : PV → PV) (hg : gOk g h) {xs : List PV} (hx : ∀ x ∈ xs, ∃ s1, b x s = some s1 ∧ e s1 h = .ok (f x) h) (hz : xs.length ≤ sizeLine) : compL b tYesE e g s xs [] h = .ok (xs.map f) h := by
  rw [compL_pure (fun x => some (f x)) hg xs [] (fun x hm => by
    obtain ⟨s1, e1, e2⟩ := hx x hm
    exact ⟨s1, e1, true, rfl, .inl ⟨rfl, f x, e2, rfl⟩⟩) (by simpa using hz)]
  simp
/-- the elements go on with the heap -/
theorem compL_inv {b : Bd} {c : Tv} {e : Ev} {g : Gd} {s : Ev0} (I : Nat → List PV → Hh → Prop) {xs : List PV} (hg : ∀ i acc h, i ≤ xs.length → I i acc h → gOk g h)
    (step : ∀ i x acc h, xs[i]? = some x → I i acc h → ∃ s1, b x s = some s1 ∧ ∃ k h1, c s1 h = .ok k h1 ∧ ((k = true ∧ ∃ v h2, e s1 h1 = .ok v h2 ∧ acc.length < sizeLine ∧ I (i + 1) (acc ++ [v]) h2) ∨ (k = false ∧ I (i + 1) acc h1))) :
    ∀ (n i : Nat) (acc : List PV) (h : Hh), n = xs.length - i → i ≤ xs.length → I i acc h → ∃ acc' h', compL b c e g s (xs.drop i) acc h = .ok acc' h' ∧ I xs.length acc' h' := by
  intro n
  induction n with
  | zero =>
    intro i acc h hn hi hI
    have e : i = xs.length := by omega
    subst e
    rw [List.drop_length]
    exact ⟨acc, h, by unfold compL; rw [if_pos (hg _ acc h (Nat.le_refl _) hI)], hI⟩
  | succ n ih =>
    intro i acc h hn hi hI
    have hlt : i < xs.length := by omega
    rw [List.drop_eq_getElem_cons hlt]
    obtain ⟨s1, e1, k, h1, e2, q⟩ := step i xs[i] acc h (List.getElem?_eq_getElem hlt) hI
    unfold compL
    rw [if_pos (hg _ acc h hi hI)]
    simp only [e1, e2, Res.nx]
    rcases q with ⟨rfl, v, h2, e3, hz, q⟩ | ⟨rfl, q⟩
    · rw [if_pos rfl, e3]
      simp only
      rw [if_pos hz]
      exact ih (i + 1) _ h2 (by omega) hlt q
    · rw [if_neg Bool.false_ne_true]
      exact ih (i + 1) _ h1 (by omega) hlt q
/-- no early end -/
theorem compL_inv0 {b : Bd} {c : Tv} {e : Ev} {g : Gd} {s : Ev0} (I : Nat → List PV → Hh → Prop) {xs : List PV} {h : Hh} (h0 : I 0 [] h) (hg : ∀ i acc h, i ≤ xs.length → I i acc h → gOk g h)
    (step : ∀ i x acc h, xs[i]? = some x → I i acc h → ∃ s1, b x s = some s1 ∧ ∃ k h1, c s1 h = .ok k h1 ∧ ((k = true ∧ ∃ v h2, e s1 h1 = .ok v h2 ∧ acc.length < sizeLine ∧ I (i + 1) (acc ++ [v]) h2) ∨ (k = false ∧ I (i + 1) acc h1))) :
    ∃ acc' h', compL b c e g s xs [] h = .ok acc' h' ∧ I xs.length acc' h' := by
  have q := compL_inv I hg step xs.length 0 [] h (by simp) (Nat.zero_le _) h0
  simpa using q
end U
end
set_option Elab.async false
set_option linter.all false
set_option maxRecDepth 100000
set_option maxHeartbeats 4000000
/-! The generic layer, part 27: equality of plain data; what the readings compute. -/
namespace U
open PySem PySem.Spec PyProof.Rows L2
variable [Tab]
mutual
/-- plain data of a depth up to n, its texts in the model -/
def dOk : PV → Nat → Bool
  | .non, _ => true
  | .bl _, _ => true
  | .int _, _ => true
  | .str x, _ => okS x
  | .tup xs, n + 1 => dOks xs n
  | _, _ => false
def dOks : List PV → Nat → Bool
  | [], _ => true
  | x :: xs, n => dOk x n && dOks xs n
end
mutual
def toD : PV → PyData
  | .non => .none
  | .bl b => .bool b
  | .int i => .int i
  | .str x => .str ⟨x.toArray⟩
  | .tup xs => .tuple (toDs xs)
  | _ => .none
def toDs : List PV → List PyData
  | [] => []
  | x :: xs => toD x :: toDs xs
end
mutual
/-- == of plain data -/
def eqP : PV → PV → Bool
  | .non, .non => true
  | .bl a, .bl b => a == b
  | .bl a, .int j => (if a then 1 else 0) == j
  | .int i, .bl b => i == (if b then 1 else 0)
  | .int i, .int j => i == j
  | .str x, .str y => x == y
  | .tup xs, .tup ys => eqPs xs ys
  | _, _ => false
def eqPs : List PV → List PV → Bool
  | [], [] => true
  | x :: xs, y :: ys => eqP x y && eqPs xs ys
  | _, _ => false
end
mutual
theorem dat_pure (h : Hh) : ∀ (v : PV) (n : Nat), dOk v n = true → dat h v = some (toD v) ∧ (toD v).canLay0 = true ∧ (toD v).depth ≤ n
  | .non, _, _ => ⟨rfl, rfl, Nat.zero_le _⟩
  | .bl _, _, _ => ⟨rfl, rfl, Nat.zero_le _⟩
  | .int _, _, _ => ⟨rfl, rfl, Nat.zero_le _⟩
  | .str x, _, e => ⟨rfl, by
      show PyData.strOk _ = true
      simp only [PyData.strOk]
      have e : okS x = true := e
      simpa [okS] using e, Nat.zero_le _⟩
  | .tup xs, 0, e => by simp [dOk] at e
  | .tup xs, n + 1, e => by
    obtain ⟨a, b, c⟩ := dats_pure h xs n (by simpa [dOk] using e)
    refine ⟨?_, by simpa [toD, PyData.canLay0] using b, ?_⟩
    · show (match datsW (refD h 64) xs with | some ds => some (PyData.tuple ds) | none => none) = some (.tuple (toDs xs))
      rw [a]
    · show PyData.depthAll (toDs xs) + 1 ≤ n + 1
      omega
  | .ref _, _, e => by simp [dOk] at e
  | .scr _, _, e => by simp [dOk] at e
theorem dats_pure (h : Hh) : ∀ (v : List PV) (n : Nat), dOks v n = true → datsW (refD h 64) v = some (toDs v) ∧ PyData.canLayAll0 (toDs v) = true ∧ PyData.depthAll (toDs v) ≤ n
  | [], _, _ => ⟨rfl, rfl, Nat.zero_le _⟩
  | x :: xs, n, e => by
    simp only [dOks, Bool.and_eq_true] at e
    obtain ⟨a, b, c⟩ := dat_pure h x n e.1
    obtain ⟨a2, b2, c2⟩ := dats_pure h xs n e.2
    refine ⟨?_, ?_, ?_⟩
    · show (match datW (refD h 64) x, datsW (refD h 64) xs with | some d, some ds => some (d :: ds) | _, _ => none) = _
      rw [show datW (refD h 64) x = some (toD x) from a, a2]
      rfl
    · show (PyData.canLay0 (toD x) && PyData.canLayAll0 (toDs xs)) = true
      rw [b, b2]
      rfl
    · show max (toD x).depth (PyData.depthAll (toDs xs)) ≤ n
      omega
end
theorem str_beq (x y : List Nat) : ((⟨x.toArray⟩ : Str) == ⟨y.toArray⟩) = (x == y) := by
  by_cases q : x = y
  · subst q; simp
  · rw [beq_eq_false_iff_ne.mpr q, beq_eq_false_iff_ne.mpr]
    intro e
    apply q
    have := congrArg Str.cps e
    simpa using this
mutual
theorem eqv_toD : ∀ (v u : PV) (n m : Nat), dOk v n = true → dOk u m = true → PyData.eqv (toD v) (toD u) = eqP v u
  | .tup xs, u, n, m, e, e2 => by
    cases n with
    | zero => simp [dOk] at e
    | succ n =>
      cases u with
      | tup ys =>
        cases m with
        | zero => simp [dOk] at e2
        | succ m =>
          show PyData.eqvAll (toDs xs) (toDs ys) = eqPs xs ys
          exact eqvs_toD xs ys n m (by simpa [dOk] using e) (by simpa [dOk] using e2)
      | ref _ => simp [dOk] at e2
      | scr _ => simp [dOk] at e2
      | _ => simp [toD, PyData.eqv, eqP]
  | .ref _, _, _, _, e, _ => by simp [dOk] at e
  | .scr _, _, _, _, e, _ => by simp [dOk] at e
  | .non, u, _, _, _, e2 => by cases u <;> first | rfl | simp [dOk] at e2
  | .bl _, u, _, _, _, e2 => by cases u <;> first | rfl | simp [dOk] at e2
  | .int _, u, _, _, _, e2 => by cases u <;> first | rfl | simp [dOk] at e2
  | .str x, u, _, _, _, e2 => by
    cases u with
    | str y => exact str_beq x y
    | ref _ => simp [dOk] at e2
    | scr _ => simp [dOk] at e2
    | _ => rfl
theorem eqvs_toD : ∀ (v u : List PV) (n m : Nat), dOks v n = true → dOks u m = true → PyData.eqvAll (toDs v) (toDs u) = eqPs v u
  | [], [], _, _, _, _ => rfl
  | [], _ :: _, _, _, _, _ => rfl
  | _ :: _, [], _, _, _, _ => rfl
  | x :: xs, y :: ys, n, m, e, e2 => by
    simp only [dOks, Bool.and_eq_true] at e e2
    show (PyData.eqv (toD x) (toD y) && PyData.eqvAll (toDs xs) (toDs ys)) = (eqP x y && eqPs xs ys)
    rw [eqv_toD x y n m e.1 e2.1, eqvs_toD xs ys n m e.2 e2.2]
end
theorem eqD_pure {v u : PV} (hv : dOk v 64 = true) (hu : dOk u 64 = true) (h : Hh) : eqD h v u = some (eqP v u) := by
  obtain ⟨a, b, c⟩ := dat_pure h v 64 hv
  obtain ⟨a2, b2, c2⟩ := dat_pure h u 64 hu
  unfold eqD
  rw [a, a2]
  simp only
  rw [if_pos, eqv_toD v u 64 64 hv hu]
  unfold SeqAt.shaped
  rw [b, b2]
  simp [c, c2]
theorem fEqA_pure {v u : PV} (hv : dOk v 64 = true) (hu : dOk u 64 = true) (h : Hh) : fEqA v u h = .ok (.bl (eqP v u)) h := by
  unfold fEqA
  rw [eqD_pure hv hu]
theorem fNe_pure {v u : PV} (hv : dOk v 64 = true) (hu : dOk u 64 = true) (h : Hh) : fNe v u h = .ok (.bl (!eqP v u)) h := by
  unfold fNe
  rw [eqD_pure hv hu]
@[simp] theorem fEqA_int (i j : Int) (h : Hh) : fEqA (.int i) (.int j) h = .ok (.bl (decide (i = j))) h := by
  rw [fEqA_pure rfl rfl]
  show Res.ok (PV.bl (i == j)) h = _
  by_cases q : i = j <;> simp [q]
@[simp] theorem fEqA_bl (i j : Bool) (h : Hh) : fEqA (.bl i) (.bl j) h = .ok (.bl (decide (i = j))) h := by
  rw [fEqA_pure rfl rfl]
  cases i <;> cases j <;> rfl
theorem fEqA_str {x y : List Nat} (hx : okS x = true) (hy : okS y = true) (h : Hh) : fEqA (.str x) (.str y) h = .ok (.bl (decide (x = y))) h := by
  rw [fEqA_pure (v := .str x) (u := .str y) hx hy]
  show Res.ok (PV.bl (x == y)) h = _
  by_cases q : x = y <;> simp [q]
/-! what the readings compute, for simp -/
@[simp] theorem tyA_tmp (xs : List PV) (h : Hh) : tyA (.tmp xs) h = some (.ty "list") := rfl
@[simp] theorem tyA_non (h : Hh) : tyA (.val .non) h = some (.ty "NoneType") := rfl
@[simp] theorem tyA_bl (b : Bool) (h : Hh) : tyA (.val (.bl b)) h = some (.ty "bool") := rfl
@[simp] theorem tyA_int (b : Int) (h : Hh) : tyA (.val (.int b)) h = some (.ty "int") := rfl
@[simp] theorem tyA_str (b : List Nat) (h : Hh) : tyA (.val (.str b)) h = some (.ty "str") := rfl
@[simp] theorem tyA_tup (b : List PV) (h : Hh) : tyA (.val (.tup b)) h = some (.ty "tuple") := rfl
@[simp] theorem tyA_scr (b : List Int) (h : Hh) : tyA (.val (.scr b)) h = some (.ty "list") := rfl
theorem tyA_lst {i : Nat} {xs : List PV} {h : Hh} (e : h[i]? = some (.lst xs)) : tyA (.val (.ref i)) h = some (.ty "list") := by simp only [tyA, e]
theorem tyA_dic {i : Nat} {xs : List (PKey × PV)} {h : Hh} (e : h[i]? = some (.dic xs)) : tyA (.val (.ref i)) h = some (.ty "dict") := by simp only [tyA, e]
@[simp] theorem seqA_tup (xs : List PV) (h : Hh) : seqA (.val (.tup xs)) h = some xs := rfl
@[simp] theorem seqA_tmp (xs : List PV) (h : Hh) : seqA (.tmp xs) h = some xs := rfl
@[simp] theorem seqA_scr (xs : List Int) (h : Hh) : seqA (.val (.scr xs)) h = some (xs.map PV.int) := rfl
@[simp] theorem seqA_str (xs : List Nat) (h : Hh) : seqA (.val (.str xs)) h = none := rfl
@[simp] theorem seqA_lst {i : Nat} {xs : List PV} {h : Hh} (e : h[i]? = some (.lst xs)) : seqA (.val (.ref i)) h = some xs := by simp only [seqA, lstA, e]
@[simp] theorem seqA_dic {i : Nat} {xs : List (PKey × PV)} {h : Hh} (e : h[i]? = some (.dic xs)) : seqA (.val (.ref i)) h = none := by simp only [seqA, lstA, e, tupA]
@[simp] theorem fLen_tup (xs : List PV) (h : Hh) : fLen [.val (.tup xs)] h = .ok (.int xs.length) h := rfl
@[simp] theorem fLen_tmp (xs : List PV) (h : Hh) : fLen [.tmp xs] h = .ok (.int xs.length) h := rfl
@[simp] theorem fLen_scr (xs : List Int) (h : Hh) : fLen [.val (.scr xs)] h = .ok (.int xs.length) h := by simp [fLen]
@[simp] theorem fLen_lst {i : Nat} {xs : List PV} {h : Hh} (e : h[i]? = some (.lst xs)) : fLen [.val (.ref i)] h = .ok (.int xs.length) h := by simp only [fLen, seqA_lst e]
@[simp] theorem fLen_dic {i : Nat} {xs : List (PKey × PV)} {h : Hh} (e : h[i]? = some (.dic xs)) : fLen [.val (.ref i)] h = .ok (.int xs.length) h := by simp only [fLen, seqA_dic e, e]
@[simp] theorem fLen_str {x : List Nat} {h : Hh} (e : x.length ≤ sizeLine) : fLen [.val (.str x)] h = .ok (.int x.length) h := by
  show Res.guard _ _ = _
  unfold Res.guard
  rw [if_pos e]
@[simp] theorem fInt_int (i : Int) (h : Hh) : fV1 gInt [.val (.int i)] h = .ok (.int i) h := rfl
@[simp] theorem fInt_bl (b : Bool) (h : Hh) : fV1 gInt [.val (.bl b)] h = .ok (.int (if b then 1 else 0)) h := rfl
@[simp] theorem fAbs_int (i : Int) (h : Hh) : fV1 gAbs [.val (.int i)] h = .ok (.int (if i < 0 then -i else i)) h := rfl
@[simp] theorem fAll_tmp (bs : List Bool) (h : Hh) : fAll [.tmp (bs.map PV.bl)] h = .ok (.bl (bs.all id)) h := by simp [fAll]
@[simp] theorem fAny_tmp (bs : List Bool) (h : Hh) : fAny [.tmp (bs.map PV.bl)] h = .ok (.bl (bs.any id)) h := by simp [fAny]
@[simp] theorem fSum_tmp (bs : List Int) (h : Hh) : fSum [.tmp (bs.map PV.int)] h = .ok (.int bs.sum) h := by simp [fSum]
@[simp] theorem fTuple_tmp (xs : List PV) (h : Hh) : fTuple [.tmp xs] h = .ok (.tup xs) h := rfl
@[simp] theorem fTuple_tup (xs : List PV) (h : Hh) : fTuple [.val (.tup xs)] h = .ok (.tup xs) h := rfl
@[simp] theorem fTuple_lst {i : Nat} {xs : List PV} {h : Hh} (e : h[i]? = some (.lst xs)) : fTuple [.val (.ref i)] h = .ok (.tup xs) h := by simp only [fTuple, seqA_lst e]
@[simp] theorem fList_tup (xs : List PV) (h : Hh) : fList [.val (.tup xs)] h = .ok xs h := rfl
@[simp] theorem fList_tmp (xs : List PV) (h : Hh) : fList [.tmp xs] h = .ok xs h := rfl
@[simp] theorem fList_lst {i : Nat} {xs : List PV} {h : Hh} (e : h[i]? = some (.lst xs)) : fList [.val (.ref i)] h = .ok xs h := by simp only [fList, seqA_lst e]
theorem fIx_tup {xs : List PV} {i : Int} {y : PV} (h : Hh) (e : atI xs i = some y) : fIx (.tup xs) (.int i) h = .ok y h := by simp only [fIx, e]
theorem fIx_lst {j : Nat} {xs : List PV} {i : Int} {y : PV} {h : Hh} (e0 : h[j]? = some (.lst xs)) (e : atI xs i = some y) : fIx (.ref j) (.int i) h = .ok y h := by simp only [fIx, e0, e]
theorem fIx_dic {j : Nat} {kvs : List (PKey × PV)} {u : PV} {k : PKey} {y : PV} {h : Hh} (e0 : h[j]? = some (.dic kvs)) (ek : u.key? = some k) (e : valP kvs k = some y) : fIx (.ref j) u h = .ok y h := by simp only [fIx, e0, ek, e]
theorem fIx_dif {j : Nat} {kvs : List (PKey × PV)} {u : PV} {k : PKey} {y : PV} {h : Hh} (e0 : h[j]? = some (.dif kvs)) (ek : u.key? = some k) (e : valP kvs k = some y) : fIx (.ref j) u h = .ok y h := by simp only [fIx, e0, ek, e]
theorem atI_nat {α : Type} {xs : List α} {i : Nat} {y : α} (e : xs[i]? = some y) : atI xs (i : Int) = some y := by
  obtain ⟨hl, e⟩ := List.getElem?_eq_some_iff.mp e
  unfold atI ixN
  simp [hl, e]
end U
set_option Elab.async false
set_option linter.all false
set_option maxRecDepth 100000
set_option maxHeartbeats 4000000
/-! The generic layer, part 28: new cells behind the heap; kinds, names, words. -/
namespace U
open PySem PySem.Spec PyProof.Rows L2
variable [Tab]
class InsOk where
  b : Bool
variable [InsOk]
@[simp] theorem getA (h g : Hh) (k : Nat) : (h ++ g)[h.length + k]? = g[k]? := by
  rw [List.getElem?_append_right (by omega)]
  congr 1
  omega
@[simp] theorem getA0 (h g : Hh) : (h ++ g)[h.length]? = g[0]? := getA h g 0
@[simp] theorem setA (h g : Hh) (k : Nat) (c : Cell) : (h ++ g).set (h.length + k) c = h ++ g.set k c := by
  rw [List.set_append_right _ _ (by omega)]
  congr 2
  omega
@[simp] theorem setA0 (h g : Hh) (c : Cell) : (h ++ g).set h.length c = h ++ g.set 0 c := setA h g 0 c
theorem getO {h : Hh} (g : Hh) {i : Nat} {c : Cell} (e : h[i]? = some c) : (h ++ g)[i]? = some c := by
  rw [List.getElem?_append_left (List.getElem?_eq_some_iff.mp e).1, e]
theorem mAppend_at {i : Nat} {xs : List PV} {u : PV} {h : Hh} (e : h[i]? = some (.lst xs)) (hz : xs.length < sizeLine) : mAppend (.ref i) [.val u] h = .ok .non (h.set i (.lst (xs ++ [u]))) := by
  simp only [mAppend, e]
  unfold Res.guard
  rw [if_pos hz]
theorem mExtend_tup {i : Nat} {xs ys : List PV} {h : Hh} (e : h[i]? = some (.lst xs)) (hz : xs.length + ys.length ≤ sizeLine) : mExtend (.ref i) [.val (.tup ys)] h = .ok .non (h.set i (.lst (xs ++ ys))) := by
  simp only [mExtend, e]
  unfold Res.guard
  rw [if_pos hz]
theorem mExtend_tmp {i : Nat} {xs ys : List PV} {h : Hh} (e : h[i]? = some (.lst xs)) (hz : xs.length + ys.length ≤ sizeLine) : mExtend (.ref i) [.tmp ys] h = .ok .non (h.set i (.lst (xs ++ ys))) := by
  simp only [mExtend, e]
  unfold Res.guard
  rw [if_pos hz]
theorem mPop_at {i : Nat} {xs : List PV} {y : PV} {h : Hh} (e : h[i]? = some (.lst (xs ++ [y]))) : mPop (.ref i) [] h = .ok y (h.set i (.lst xs)) := by
  simp only [mPop, e]
  simp
/-! ### what a value is -/
def isIntP : PV → Bool | .int _ => true | _ => false
def isBlP : PV → Bool | .bl _ => true | _ => false
def isTupP : PV → Bool | .tup _ => true | _ => false
def isStrP : PV → Bool | .str _ => true | _ => false
@[simp] theorem isIntP_tup (x : List PV) : isIntP (.tup x) = false := by simp only [isIntP]
@[simp] theorem isIntP_int (x : Int) : isIntP (.int x) = true := by simp only [isIntP]
@[simp] theorem isIntP_bl (x : Bool) : isIntP (.bl x) = false := by simp only [isIntP]
@[simp] theorem isIntP_str (x : List Nat) : isIntP (.str x) = false := by simp only [isIntP]
@[simp] theorem isIntP_scr (x : List Int) : isIntP (.scr x) = false := by simp only [isIntP]
@[simp] theorem isIntP_ref (x : Nat) : isIntP (.ref x) = false := by simp only [isIntP]
@[simp] theorem isIntP_non  : isIntP (.non) = false := by simp only [isIntP]
@[simp] theorem isBlP_tup (x : List PV) : isBlP (.tup x) = false := by simp only [isBlP]
@[simp] theorem isBlP_int (x : Int) : isBlP (.int x) = false := by simp only [isBlP]
@[simp] theorem isBlP_bl (x : Bool) : isBlP (.bl x) = true := by simp only [isBlP]
@[simp] theorem isBlP_str (x : List Nat) : isBlP (.str x) = false := by simp only [isBlP]
@[simp] theorem isBlP_scr (x : List Int) : isBlP (.scr x) = false := by simp only [isBlP]
@[simp] theorem isBlP_ref (x : Nat) : isBlP (.ref x) = false := by simp only [isBlP]
@[simp] theorem isBlP_non  : isBlP (.non) = false := by simp only [isBlP]
@[simp] theorem isTupP_tup (x : List PV) : isTupP (.tup x) = true := by simp only [isTupP]
@[simp] theorem isTupP_int (x : Int) : isTupP (.int x) = false := by simp only [isTupP]
@[simp] theorem isTupP_bl (x : Bool) : isTupP (.bl x) = false := by simp only [isTupP]
@[simp] theorem isTupP_str (x : List Nat) : isTupP (.str x) = false := by simp only [isTupP]
@[simp] theorem isTupP_scr (x : List Int) : isTupP (.scr x) = false := by simp only [isTupP]
@[simp] theorem isTupP_ref (x : Nat) : isTupP (.ref x) = false := by simp only [isTupP]
@[simp] theorem isTupP_non  : isTupP (.non) = false := by simp only [isTupP]
@[simp] theorem isStrP_tup (x : List PV) : isStrP (.tup x) = false := by simp only [isStrP]
@[simp] theorem isStrP_int (x : Int) : isStrP (.int x) = false := by simp only [isStrP]
@[simp] theorem isStrP_bl (x : Bool) : isStrP (.bl x) = false := by simp only [isStrP]
@[simp] theorem isStrP_str (x : List Nat) : isStrP (.str x) = true := by simp only [isStrP]
@[simp] theorem isStrP_scr (x : List Int) : isStrP (.scr x) = false := by simp only [isStrP]
@[simp] theorem isStrP_ref (x : Nat) : isStrP (.ref x) = false := by simp only [isStrP]
@[simp] theorem isStrP_non  : isStrP (.non) = false := by simp only [isStrP]
def okTy (v : PV) (h : Hh) : Bool := match v with
  | .ref i => (match h[i]? with
    | some (.ins _ _) => InsOk.b
    | some _ => true
    | none => false)
  | _ => true
@[simp] theorem okTy_tup (xs : List PV) (h : Hh) : okTy (.tup xs) h = true := by simp only [okTy]
@[simp] theorem okTy_int (xs : Int) (h : Hh) : okTy (.int xs) h = true := by simp only [okTy]
@[simp] theorem okTy_str (xs : List Nat) (h : Hh) : okTy (.str xs) h = true := by simp only [okTy]
@[simp] theorem okTy_bl (xs : Bool) (h : Hh) : okTy (.bl xs) h = true := by simp only [okTy]
@[simp] theorem okTy_non (h : Hh) : okTy .non h = true := by simp only [okTy]
@[simp] theorem okTy_scr (xs : List Int) (h : Hh) : okTy (.scr xs) h = true := by simp only [okTy]
theorem okTy_app {v : PV} {h : Hh} (g : Hh) (e : okTy v h = true) : okTy v (h ++ g) = true := by
  cases v with
  | ref i =>
    simp only [okTy] at e ⊢
    cases q : h[i]? with
    | none => rw [q] at e; cases e
    | some c => rw [getO g q]; rw [q] at e; exact e
  | _ => rfl
mutual
/-- the same of all parts -/
def okD : PV → Hh → Bool
  | .tup xs, h => okDs xs h
  | v, h => okTy v h
def okDs : List PV → Hh → Bool
  | [], _ => true
  | x :: xs, h => okD x h && okDs xs h
end
theorem okD_ty {v : PV} {h : Hh} (e : okD v h = true) : okTy v h = true := by
  cases v with
  | tup xs => rfl
  | _ => simpa [okD] using e
theorem okDs_all : ∀ {xs : List PV} {h : Hh}, okDs xs h = true ↔ ∀ x ∈ xs, okD x h = true
  | [], h => by simp [okDs]
  | x :: xs, h => by simp [okDs, okDs_all]
mutual
theorem okD_app {h : Hh} (g : Hh) : ∀ {v : PV}, okD v h = true → okD v (h ++ g) = true
  | .tup xs, e => by
    simp only [okD] at e ⊢
    exact okDs_app g e
  | .non, _ => rfl
  | .bl _, _ => rfl
  | .int _, _ => rfl
  | .str _, _ => rfl
  | .scr _, _ => rfl
  | .ref i, e => by
    simp only [okD] at e ⊢
    exact okTy_app g e
theorem okDs_app {h : Hh} (g : Hh) : ∀ {v : List PV}, okDs v h = true → okDs v (h ++ g) = true
  | [], _ => rfl
  | x :: xs, e => by
    simp only [okDs, Bool.and_eq_true] at e ⊢
    exact ⟨okD_app g e.1, okDs_app g e.2⟩
end
@[simp] theorem okD_tup (xs : List PV) (h : Hh) : okD (.tup xs) h = okDs xs h := by simp only [okD]
@[simp] theorem okD_int (xs : Int) (h : Hh) : okD (.int xs) h = true := by simp only [okD, okTy]
@[simp] theorem okD_str (xs : List Nat) (h : Hh) : okD (.str xs) h = true := by simp only [okD, okTy]
@[simp] theorem okD_bl (xs : Bool) (h : Hh) : okD (.bl xs) h = true := by simp only [okD, okTy]
@[simp] theorem okD_non (h : Hh) : okD .non h = true := by simp only [okD, okTy]
@[simp] theorem okD_scr (xs : List Int) (h : Hh) : okD (.scr xs) h = true := by simp only [okD, okTy]
/-! ### kinds -/
mutual
def kindP : PV → Bool
  | .int n => decide (0 ≤ n) && decide (n ≤ 25)
  | .tup xs => kindPs xs && decide (xs.length = 2)
  | _ => false
def kindPs : List PV → Bool
  | [] => true
  | x :: xs => kindP x && kindPs xs
end
theorem kindPs_all : ∀ {xs : List PV}, kindPs xs = xs.all kindP
  | [] => rfl
  | x :: xs => by simp [kindPs, kindPs_all]
mutual
def szP : PV → Nat
  | .tup xs => szPs xs + 1
  | _ => 1
def szPs : List PV → Nat
  | [] => 0
  | x :: xs => szP x + szPs xs
end
theorem szPs_app : ∀ (xs ys : List PV), szPs (xs ++ ys) = szPs xs + szPs ys
  | [], ys => by simp [szPs]
  | x :: xs, ys => by simp [szPs, szPs_app xs ys]; omega
theorem szP_pos (v : PV) : 0 < szP v := by cases v <;> simp [szP]
theorem szPs_len : ∀ xs : List PV, xs.length ≤ szPs xs
  | [] => Nat.le_refl _
  | x :: xs => by
    have := szP_pos x
    have := szPs_len xs
    simp only [szPs, List.length_cons]
    omega
theorem szPs_mem : ∀ {xs : List PV} {x : PV}, x ∈ xs → szP x ≤ szPs xs
  | y :: ys, x, h => by
    rcases List.mem_cons.mp h with e | e
    · subst e; simp [szPs]
    · have := szPs_mem e
      simp only [szPs]
      omega
/-! ### names -/
def small (c : Nat) : Bool := decide (c ∈ [97, 98, 99, 100, 101, 102, 103, 104, 105, 106, 107, 108, 109, 110, 111, 112, 113, 114, 115, 116, 117, 118, 119, 120, 121, 122])
def nameL (x : List Nat) : Bool := decide (1 ≤ x.length) && decide (x.length ≤ 8) && x.all small
def nameP : PV → Bool
  | .str x => nameL x
  | _ => false
/-! ### words -/
abbrev useP : PV := .str [64]
def wordP : PV → Bool
  | .tup [a, b] => nameP a && kindP b
  | .str x => decide (x = [64]) || nameL x
  | _ => false
/-- a word's part in the count of what stands -/
def isUse : PV → Bool
  | .str x => decide (x = [64])
  | _ => false
/-- how many stand, from the right; none as soon as there is none -/
def cntP : List PV → Option Int
  | [] => some 0
  | w :: ws => match cntP ws with
    | none => none
    | some m =>
      let m' := if isTupP w then m else if isUse w then m - 1 else m + 1
      if m' < 1 then none else some m'
def wholeP (ws : List PV) : Bool := decide (cntP ws = some 1)
/-! ### sizes, loops as equations -/
@[simp] theorem gOk_none (h : Hh) : gOk none h = True := rfl
@[simp] theorem gOk_some (j : Nat) (c : Cell) (h : Hh) : gOk (some (j, c)) h = (h[j]? = some c) := rfl
@[simp] theorem size_le (n : Nat) : n ≤ sizeLine ↔ n ≤ 16777216 := Iff.rfl
@[simp] theorem size_lt (n : Nat) : n < sizeLine ↔ n < 16777216 := Iff.rfl
/-- an outcome that has a value of such a kind -/
def Res.Has {α : Type} (P : α → Hh → Prop) : Res α → Prop
  | .ok a h => P a h
  | _ => False
@[simp] theorem has_ok {α : Type} (P : α → Hh → Prop) (a : α) (h : Hh) : (Res.ok a h).Has P = P a h := rfl
theorem Res.Has.eq {α : Type} {P : α → Hh → Prop} {r : Res α} (q : r.Has P) : ∃ a h, r = .ok a h ∧ P a h := by
  cases r with
  | ok a h => exact ⟨a, h, rfl, q⟩
  | _ => exact q.elim
/-- a statement's outcome within a loop: on to N, or an end -/
def SOk (N : Ev0 → Hh → Prop) (Ex : SRes → Prop) : SRes → Prop
  | .nx s h => N s h
  | .ct s h => N s h
  | .bk s h => Ex (.nx s h)
  | .rt v h => Ex (.rt v h)
  | _ => False
section
variable (N : Ev0 → Hh → Prop) (Ex : SRes → Prop) (s : Ev0) (h : Hh) (v : PV)
@[simp] theorem sok_nx : SOk N Ex (.nx s h) = N s h := rfl
@[simp] theorem sok_ct : SOk N Ex (.ct s h) = N s h := rfl
@[simp] theorem sok_bk : SOk N Ex (.bk s h) = Ex (.nx s h) := rfl
@[simp] theorem sok_rt : SOk N Ex (.rt v h) = Ex (.rt v h) := rfl
end
theorem SOk.cases {N : Ev0 → Hh → Prop} {Ex : SRes → Prop} {r : SRes} (q : SOk N Ex r) : (∃ s h, r = .nx s h ∧ N s h) ∨ (∃ s h, r = .ct s h ∧ N s h) ∨ (∃ s h, r = .bk s h ∧ Ex (.nx s h)) ∨ (∃ v h, r = .rt v h ∧ Ex (.rt v h)) := by
  cases r with
  | nx s h => exact .inl ⟨s, h, rfl, q⟩
  | ct s h => exact .inr (.inl ⟨s, h, rfl, q⟩)
  | bk s h => exact .inr (.inr (.inl ⟨s, h, rfl, q⟩))
  | rt s h => exact .inr (.inr (.inr ⟨s, h, rfl, q⟩))
  | _ => exact q.elim
theorem whileX {c : Tv} {b : Sv} {s : Ev0} {h : Hh} {r : SRes} (hr : sWhile c b s h = r) (I : Nat → Ev0 → Hh → Prop) (Ex : SRes → Prop) (Dn : Ev0 → Hh → Prop) {m : Nat} (h0 : I m s h)
    (step : ∀ m s h, I m s h → (c s h).Has fun k h1 => if k = true then SOk (fun s2 h2 => ∃ m' < m, I m' s2 h2) Ex (b s h1) else Dn s h1) :
    (∃ s' h', r = .nx s' h' ∧ Dn s' h') ∨ Ex r := by
  subst hr
  refine while_ex I Ex Dn (fun m s h hI => ?_) m s h h0
  obtain ⟨k, h1, e, q⟩ := (step m s h hI).eq
  cases k with
  | false => exact .inl ⟨h1, e, q⟩
  | true =>
    refine .inr ⟨h1, e, ?_⟩
    rcases SOk.cases q with ⟨s2, h2, e2, m', hm, q⟩ | ⟨s2, h2, e2, m', hm, q⟩ | q | q
    · exact .inl ⟨m', s2, h2, hm, e2, q⟩
    · exact .inr (.inl ⟨m', s2, h2, hm, e2, q⟩)
    · exact .inr (.inr (.inl q))
    · exact .inr (.inr (.inr q))
theorem whileI {c : Tv} {b : Sv} {s : Ev0} {h : Hh} {r : SRes} (hr : sWhile c b s h = r) (I : Nat → Ev0 → Hh → Prop) (Dn : Ev0 → Hh → Prop) {m : Nat} (h0 : I m s h)
    (step : ∀ m s h, I m s h → (c s h).Has fun k h1 => if k = true then SOk (fun s2 h2 => ∃ m' < m, I m' s2 h2) (fun _ => False) (b s h1) else Dn s h1) : ∃ s' h', r = .nx s' h' ∧ Dn s' h' := by
  rcases whileX hr I (fun _ => False) Dn h0 step with q | q
  · exact q
  · exact q.elim
theorem forX {t : Tgt} {b : Sv} {g : Gd} {xs : List PV} {s : Ev0} {h : Hh} {r : SRes} (hr : forL t b g xs s h = r) (I : Nat → Ev0 → Hh → Prop) (Ex : SRes → Prop) (h0 : I 0 s h) (hg : ∀ i s h, i ≤ xs.length → I i s h → gOk g h)
    (step : ∀ i x s h, xs[i]? = some x → I i s h → (t x s h).Has fun s1 h1 => SOk (I (i + 1)) Ex (b s1 h1)) :
    (∃ s' h', r = .nx s' h' ∧ I xs.length s' h') ∨ Ex r := by
  subst hr
  refine forL_ex I Ex h0 hg (fun i x s h e hI => ?_)
  obtain ⟨s1, h1, e1, q⟩ := (step i x s h e hI).eq
  exact ⟨s1, h1, e1, SOk.cases q⟩
theorem forI {t : Tgt} {b : Sv} {g : Gd} {xs : List PV} {s : Ev0} {h : Hh} {r : SRes} (hr : forL t b g xs s h = r) (I : Nat → Ev0 → Hh → Prop) (h0 : I 0 s h) (hg : ∀ i s h, i ≤ xs.length → I i s h → gOk g h)
    (step : ∀ i x s h, xs[i]? = some x → I i s h → (t x s h).Has fun s1 h1 => SOk (I (i + 1)) (fun _ => False) (b s1 h1)) : ∃ s' h', r = .nx s' h' ∧ I xs.length s' h' := by
  rcases forX hr I (fun _ => False) h0 hg step with q | q
  · exact q
  · exact q.elim
theorem compM {b : Bd} {e : Ev} {g : Gd} {s : Ev0} {xs : List PV} {h : Hh} {r : Res (List PV)} (hr : compL b tYesE e g s xs [] h = r) (f : PV → PV) (hg : gOk g h) (hz : xs.length ≤ sizeLine) (hx : ∀ x ∈ xs, ∃ s1, b x s = some s1 ∧ e s1 h = .ok (f x) h) : r = .ok (xs.map f) h := by
  subst hr
  exact compL_map f hg hx hz
theorem compP {b : Bd} {c : Tv} {e : Ev} {g : Gd} {s : Ev0} {xs : List PV} {h : Hh} {r : Res (List PV)} (hr : compL b c e g s xs [] h = r) (p : PV → Bool) (f : PV → PV) (hg : gOk g h) (hz : xs.length ≤ sizeLine) (hx : ∀ x ∈ xs, ∃ s1, b x s = some s1 ∧ c s1 h = .ok (p x) h ∧ (p x = true → e s1 h = .ok (f x) h)) : r = .ok ((xs.filter p).map f) h := by
  subst hr
  rw [compL_pure (fun x => if p x = true then some (f x) else none) hg xs [] (fun x hm => by
    obtain ⟨s1, e1, e2, e3⟩ := hx x hm
    refine ⟨s1, e1, p x, e2, ?_⟩
    cases q : p x with
    | true => exact .inl ⟨rfl, f x, e3 q, rfl⟩
    | false => exact .inr ⟨rfl, rfl⟩) (by simpa using hz)]
  congr 1
  simp only [List.nil_append]
  clear hz hx
  induction xs with
  | nil => rfl
  | cons x xs ih =>
    rw [List.filterMap_cons, List.filter_cons]
    cases q : p x <;> simp [ih]
theorem compI {b : Bd} {c : Tv} {e : Ev} {g : Gd} {s : Ev0} {xs : List PV} {h : Hh} {r : Res (List PV)} (hr : compL b c e g s xs [] h = r) (I : Nat → List PV → Hh → Prop) (h0 : I 0 [] h) (hg : ∀ i acc h, i ≤ xs.length → I i acc h → gOk g h)
    (step : ∀ i x acc h, xs[i]? = some x → I i acc h → ∃ s1, b x s = some s1 ∧ (c s1 h).Has fun k h1 => if k = true then (e s1 h1).Has fun v h2 => acc.length < sizeLine ∧ I (i + 1) (acc ++ [v]) h2 else I (i + 1) acc h1) :
    ∃ acc' h', r = .ok acc' h' ∧ I xs.length acc' h' := by
  subst hr
  refine compL_inv0 I h0 hg (fun i x acc h e hI => ?_)
  obtain ⟨s1, e1, q⟩ := step i x acc h e hI
  obtain ⟨k, h1, e2, q⟩ := q.eq
  refine ⟨s1, e1, k, h1, e2, ?_⟩
  cases k with
  | true =>
    rw [if_pos rfl] at q
    obtain ⟨v, h2, e3, q1, q2⟩ := q.eq
    exact .inl ⟨rfl, v, h2, e3, q1, q2⟩
  | false => exact .inr ⟨rfl, q⟩
/-! ### texts within; suffixes -/
mutual
def okX : PV → Bool
  | .str x => okS x && decide (x.length ≤ sizeLine)
  | .tup xs => okXs xs
  | _ => true
def okXs : List PV → Bool
  | [] => true
  | x :: xs => okX x && okXs xs
end
theorem okXs_all : ∀ {xs : List PV}, okXs xs = true ↔ ∀ x ∈ xs, okX x = true
  | [] => by simp [okXs]
  | x :: xs => by simp [okXs, okXs_all]
theorem rev_drop {α : Type} {ws : List α} {i : Nat} {x : α} (e : ws.reverse[i]? = some x) : i < ws.length ∧ ws.drop (ws.length - (i + 1)) = x :: ws.drop (ws.length - i) := by
  have hl := (List.getElem?_eq_some_iff.mp e).1
  rw [List.length_reverse] at hl
  refine ⟨hl, ?_⟩
  rw [List.getElem?_reverse hl] at e
  obtain ⟨h1, e⟩ := List.getElem?_eq_some_iff.mp e
  have : ws.length - (i + 1) = ws.length - 1 - i := by omega
  rw [this, List.drop_eq_getElem_cons h1, e]
  congr 2
  omega
theorem cntP_drop : ∀ {ws : List PV} (k : Nat), cntP (ws.drop k) = none → cntP ws = none
  | ws, 0, h => h
  | [], k + 1, h => h
  | w :: ws, k + 1, h => by
    have := cntP_drop (ws := ws) k h
    simp [cntP, this]
/-! ### ranges; spans -/
theorem rng3_down {n : Nat} (hn : n ≤ sizeLine) (h : Hh) : rng3 (.int ((n : Int) - 1)) (.int (-1)) (.int (-1)) h = .ok (rangeL ((n : Int) - 1) (-1) n, none) h := by
  have hn' := (size_le n).mp hn
  have e1 : Builtin.Range.rangeSize ((n : Int) - 1) (-1) (-1) = n := by
    unfold Builtin.Range.rangeSize
    simp
    omega
  have e2 : Builtin.Range.small ((n : Int) - 1) (-1) (-1) = true := by
    unfold Builtin.Range.small
    rw [e1]
    simp [Builtin.Range.rangeFitsLong]
    omega
  simp only [rng3, e1, e2]
  unfold Res.guard
  rw [if_pos (by simp)]
  simp
theorem rangeL_at {lo c : Int} {n i : Nat} {y : PV} (e : (rangeL lo c n)[i]? = some y) : i < n ∧ y = .int (lo + (i : Nat) * c) := rangeL_get e
/-- one more word, from the right -/
def spStep (e : Nat) (w : PV) (es wt : List Nat) : Option (List Nat × List Nat) :=
  if isUse w = true then (match wt with | _ :: b :: r => some (b :: es, b :: r) | _ => none)
  else if isTupP w = true then (match wt with | a :: r => some (a :: es, a :: r) | _ => none)
  else some (e :: es, e :: wt)
/-- the ends of all words from here on, and those that wait: from the right; n words in all -/
def spansP (n : Nat) : List PV → Option (List Nat × List Nat)
  | [] => some ([], [])
  | w :: ws => match spansP n ws with
    | none => none
    | some (es, wt) => spStep (n - ws.length) w es wt
theorem spansP_cons {n : Nat} {w : PV} {ws : List PV} {es wt : List Nat} (e : spansP n ws = some (es, wt)) : spansP n (w :: ws) = spStep (n - ws.length) w es wt := by
  rw [spansP, e]
theorem spansP_drop {n : Nat} : ∀ {ws : List PV} (k : Nat), spansP n (ws.drop k) = none → spansP n ws = none
  | ws, 0, h => h
  | [], k + 1, h => h
  | w :: ws, k + 1, h => by
    have := spansP_drop (ws := ws) k h
    simp [spansP, this]
theorem spansP_len {n : Nat} : ∀ {ws : List PV} {es wt : List Nat}, spansP n ws = some (es, wt) → es.length = ws.length
  | [], _, _, e => by cases e; rfl
  | w :: ws, es, wt, e => by
    simp only [spansP] at e
    split at e
    · cases e
    · rename_i es0 wt0 e0
      have ih := spansP_len e0
      unfold spStep at e
      split at e
      · split at e <;> cases e
        simp [ih]
      · split at e
        · split at e <;> cases e
          simp [ih]
        · cases e
          simp [ih]
theorem spansP_wlen {n : Nat} : ∀ {ws : List PV} {es wt : List Nat}, spansP n ws = some (es, wt) → wt.length ≤ ws.length
  | [], _, _, e => by cases e; exact Nat.le_refl _
  | w :: ws, es, wt, e => by
    simp only [spansP] at e
    split at e
    · cases e
    · rename_i es0 wt0 e0
      have ih := spansP_wlen e0
      unfold spStep at e
      split at e
      · split at e <;> cases e
        simp at ih ⊢; omega
      · split at e
        · split at e <;> cases e
          simp at ih ⊢; omega
        · cases e
          simp; exact ih
theorem set_rep {α : Type} {n i : Nat} {a b : α} {es : List α} (hi : i < n) : (List.replicate (n - i) a ++ es).set (n - 1 - i) b = List.replicate (n - (i + 1)) a ++ b :: es := by
  have : n - i = (n - (i + 1)) + 1 := by omega
  rw [this, List.replicate_succ']
  have e : n - 1 - i = n - (i + 1) := by omega
  rw [List.append_assoc, List.set_append_right _ _ (by simp; omega)]
  simp [e]
/-! ### what stays of a new heap -/
theorem clVs_all {n : Nat} : ∀ {xs : List PV}, clVs n xs ↔ ∀ x ∈ xs, clV n x
  | [] => by simp [clVs]
  | x :: xs => by simp [clVs, clVs_all]
theorem clVs_ints {α : Type} (n : Nat) (f : α → Int) (xs : List α) : clVs n (xs.map fun x => .int (f x)) := clVs_all.mpr fun x hx => by
  obtain ⟨y, _, rfl⟩ := List.mem_map.mp hx
  trivial
theorem gc_new {h g : Hh} {c : Cell} (hc : clH h) (hg : g[0]? = some c) (cc : clC h.length c) : GcR h (.rt (.ref h.length) (h ++ g)) (.ok (.ref h.length) (h ++ [c])) :=
  .inl ⟨_, _, rfl, Cp.one (m := 0) rfl hc hg cc⟩
theorem dOk_ty {v : PV} {n : Nat} (h : Hh) (e : dOk v n = true) : okTy v h = true := by
  cases v with
  | ref i => simp [dOk] at e
  | _ => simp
theorem dOks_all {n : Nat} : ∀ {xs : List PV}, dOks xs n = true ↔ ∀ x ∈ xs, dOk x n = true
  | [] => by simp [dOks]
  | x :: xs => by simp [dOks, dOks_all]
mutual
theorem dOk_mono {n m : Nat} (hm : n ≤ m) : ∀ {v : PV}, dOk v n = true → dOk v m = true
  | .tup xs, e => by
    cases n with
    | zero => simp [dOk] at e
    | succ n =>
      cases m with
      | zero => omega
      | succ m =>
        simp only [dOk] at e ⊢
        exact dOks_mono (by omega) e
  | .ref _, e => by simp [dOk] at e
  | .scr _, e => by simp [dOk] at e
  | .non, _ => by simp [dOk]
  | .bl _, _ => by simp [dOk]
  | .int _, _ => by simp [dOk]
  | .str _, e => by simpa [dOk] using e
theorem dOks_mono {n m : Nat} (hm : n ≤ m) : ∀ {v : List PV}, dOks v n = true → dOks v m = true
  | [], _ => by simp [dOks]
  | x :: xs, e => by
    simp only [dOks, Bool.and_eq_true] at e ⊢
    exact ⟨dOk_mono hm e.1, dOks_mono hm e.2⟩
end
/-- == with the sign of use -/
theorem eqUse {w : PV} (e : dOk w 64 = true) (h : Hh) : fEqA w (.str [64]) h = .ok (.bl (isUse w)) h := by
  rw [fEqA_pure e rfl]
  congr 2
  cases w <;> simp [eqP, isUse]
  rename_i x
  by_cases z : x = [64] <;> simp [z]
theorem neUse {w : PV} (e : dOk w 64 = true) (h : Hh) : fNe w (.str [64]) h = .ok (.bl (!isUse w)) h := by
  rw [fNe_pure e rfl]
  congr 3
  cases w <;> simp [eqP, isUse]
  rename_i x
  by_cases z : x = [64] <;> simp [z]
theorem gc_newm {h g : Hh} {c : Cell} (m : Nat) (hc : clH h) (hg : g[m]? = some c) (cc : clC h.length c) : GcR h (.rt (.ref (h.length + m)) (h ++ g)) (.ok (.ref h.length) (h ++ [c])) :=
  .inl ⟨_, _, rfl, Cp.one rfl hc hg cc⟩
@[simp] theorem fAdd_int (i j : Int) (h : Hh) : fAdd (.int i) (.int j) h = .ok (.int (i + j)) h := by simp only [fAdd]
theorem fMul_lst {i n : Nat} {xs : List PV} {h : Hh} (e : h[i]? = some (.lst xs)) (hz : xs.length * n ≤ 16777216) (hn : n ≤ 16777216) : fMul (.ref i) (.int (n : Nat)) h = .ok (.ref h.length) (h ++ [.lst (List.replicate n xs).flatten]) := by
  simp only [fMul, e]
  unfold Res.guard
  have e2 : (n : Int).toNat = n := by simp
  rw [e2, if_pos ⟨by omega, by omega, hz⟩]
  rfl
theorem fSet_nat {j k : Nat} {xs : List PV} {v : PV} {h : Hh} (e : h[j]? = some (.lst xs)) (hk : k < xs.length) : fSet (.ref j) (.int (k : Nat)) v h = some (h.set j (.lst (xs.set k v))) := by
  simp only [fSet, e]
  have : ixN xs.length (k : Int) = some k := by
    unfold ixN
    simp [hk]
  rw [this]
theorem fSet_dic {j : Nat} {kvs : List (PKey × PV)} {u v : PV} {k : PKey} {h : Hh} (e : h[j]? = some (.dic kvs)) (ek : u.key? = some k) (hz : kvs.length < sizeLine) : fSet (.ref j) u v h = some (h.set j (.dic (putP kvs k v))) := by
  simp only [fSet, e, ek]
  rw [if_pos hz]
end U
set_option Elab.async false
set_option linter.all false
set_option maxRecDepth 100000
set_option maxHeartbeats 4000000
/-! The generic layer, part 29: takers; trees of words. -/
namespace U
open PySem PySem.Spec PyProof.Rows L2
variable [Tab] [InsOk]
/-- an open take: its name, its place, its end -/
structure OT where
  x : List Nat
  p : Nat
  e : Nat
/-- the take's name -/
def nmOf : PV → List Nat
  | .tup (.str x :: _) => x
  | .str x => x
  | _ => []
/-- what the place's word finds: with the takes that are open, the last one ahead -/
def tkFind (O : List OT) (w : PV) : Option Nat := if isTupP w = true ∨ isUse w = true then none else (O.find? fun o => decide (o.x = nmOf w)).map (·.p)
def tkPop (p : Nat) (O : List OT) : List OT := O.dropWhile fun o => decide (o.e ≤ p)
def tkPush (p e : Nat) (w : PV) (O : List OT) : List OT := if isTupP w = true then ⟨nmOf w, p, e⟩ :: O else O
/-- the takers of the words from place p on -/
def takersP : Nat → List PV → List Nat → List OT → List (Option Nat)
  | p, w :: ws, e :: es, O => tkFind (tkPop p O) w :: takersP (p + 1) ws es (tkPush p e w (tkPop p O))
  | _, _, _, _ => []
def optP : Option Nat → PV
  | none => .non
  | some p => .int (p : Nat)
/-! trees -/
inductive Tr where
  | nm (x : List Nat) | ap (f a : Tr) | lam (x : List Nat) (k : PV) (b : Tr)
def Tr.code : Tr → List PV
  | .nm x => [.str x]
  | .ap f a => useP :: (f.code ++ a.code)
  | .lam x k b => .tup [.str x, k] :: b.code
def Tr.ok : Tr → Prop
  | .nm x => nameL x = true
  | .ap f a => f.ok ∧ a.ok
  | .lam x k b => nameL x = true ∧ kindP k = true ∧ dOk k 60 = true ∧ b.ok
def Tr.sz : Tr → Nat
  | .nm _ => 1
  | .ap f a => f.sz + a.sz + 1
  | .lam _ _ b => b.sz + 1
theorem Tr.len : ∀ t : Tr, t.code.length = t.sz
  | .nm _ => rfl
  | .ap f a => by simp [Tr.code, Tr.sz, Tr.len f, Tr.len a]
  | .lam _ _ b => by simp [Tr.code, Tr.sz, Tr.len b]
theorem Tr.pos (t : Tr) : 0 < t.sz := by cases t <;> simp [Tr.sz]
theorem use_nn {x : List Nat} (h : nameL x = true) : x ≠ [64] := by
  rintro rfl
  revert h
  decide
/-- where each word ends, from place p on -/
def Tr.ends : Tr → Nat → List Nat
  | .nm _, p => [p + 1]
  | .ap f a, p => (p + 1 + f.sz + a.sz) :: (f.ends (p + 1) ++ a.ends (p + 1 + f.sz))
  | .lam _ _ b, p => (p + 1 + b.sz) :: b.ends (p + 1)
theorem Tr.ends_len : ∀ (t : Tr) (p : Nat), (t.ends p).length = t.sz
  | .nm _, _ => rfl
  | .ap f a, p => by simp [Tr.ends, Tr.sz, Tr.ends_len f, Tr.ends_len a]
  | .lam _ _ b, p => by simp [Tr.ends, Tr.sz, Tr.ends_len b]
theorem spans_tree {n : Nat} : ∀ (t : Tr) (rest : List PV) (p : Nat) (es wt : List Nat), t.ok → p + t.sz + rest.length = n → spansP n rest = some (es, wt) → spansP n (t.code ++ rest) = some (t.ends p ++ es, (p + t.sz) :: wt)
  | .nm x, rest, p, es, wt, ok, hn, hs => by
    show spansP n (.str x :: rest) = _
    rw [spansP_cons hs]
    have : isUse (.str x) = false := by simp [isUse, use_nn ok]
    simp [Tr.sz] at hn
    simp [spStep, this, Tr.ends, Tr.sz]
    omega
  | .lam x k b, rest, p, es, wt, ok, hn, hs => by
    simp [Tr.sz] at hn
    have ih := spans_tree b rest (p + 1) es wt ok.2.2.2 (by omega) hs
    show spansP n (.tup [.str x, k] :: (b.code ++ rest)) = _
    rw [spansP_cons ih]
    simp [spStep, isUse, Tr.ends, Tr.sz]
    omega
  | .ap f a, rest, p, es, wt, ok, hn, hs => by
    simp [Tr.sz] at hn
    have ih2 := spans_tree a rest (p + 1 + f.sz) es wt ok.2 (by omega) hs
    have ih := spans_tree f (a.code ++ rest) (p + 1) _ _ ok.1 (by simp [Tr.len]; omega) ih2
    show spansP n (useP :: ((f.code ++ a.code) ++ rest)) = _
    rw [List.append_assoc, spansP_cons ih]
    simp [spStep, isUse, Tr.ends, Tr.sz]
    omega
/-- whom each word belongs to, the takes around being the last first -/
def Tr.own : Tr → Nat → List (List Nat × Nat) → List (Option Nat)
  | .nm x, _, env => [(env.find? fun o => decide (o.1 = x)).map (·.2)]
  | .ap f a, p, env => none :: (f.own (p + 1) env ++ a.own (p + 1 + f.sz) env)
  | .lam x _ b, p, env => none :: b.own (p + 1) ((x, p) :: env)
theorem Tr.own_len : ∀ (t : Tr) (p : Nat) (env : List (List Nat × Nat)), (t.own p env).length = t.sz
  | .nm _, _, _ => rfl
  | .ap f a, p, env => by simp [Tr.own, Tr.sz, Tr.own_len f, Tr.own_len a]
  | .lam _ _ b, p, env => by simp [Tr.own, Tr.sz, Tr.own_len b]
def envOf (O : List OT) : List (List Nat × Nat) := O.map fun o => (o.x, o.p)
theorem find_env (O : List OT) (x : List Nat) : ((envOf O).find? fun o => decide (o.1 = x)).map (·.2) = (O.find? fun o => decide (o.x = x)).map (·.p) := by
  induction O with
  | nil => rfl
  | cons o O ih =>
    simp only [envOf, List.map_cons, List.find?_cons] at ih ⊢
    by_cases h : o.x = x
    · simp [h]
    · simp only [h, decide_false]
      exact ih
theorem pop_all {O : List OT} {p q : Nat} (h : ∀ o ∈ O, q ≤ o.e) (hp : p < q) : tkPop p O = O := by
  cases O with
  | nil => rfl
  | cons o O =>
    have := h o (by simp)
    unfold tkPop
    rw [List.dropWhile_cons_of_neg (by simp; omega)]
/-- the takers of a tree's words, and what follows -/
theorem takers_tree : ∀ (t : Tr) (ws : List PV) (es : List Nat) (p : Nat) (O : List OT), t.ok → (∀ o ∈ tkPop p O, p + t.sz ≤ o.e) →
    ∃ O', takersP p (t.code ++ ws) (t.ends p ++ es) O = t.own p (envOf (tkPop p O)) ++ takersP (p + t.sz) ws es O' ∧ tkPop (p + t.sz) O' = tkPop (p + t.sz) (tkPop p O)
  | .nm x, ws, es, p, O, ok, hO => by
    refine ⟨tkPop p O, ?_, rfl⟩
    have hu : isUse (.str x) = false := by simp [isUse, use_nn ok]
    simp [Tr.code, Tr.ends, takersP, Tr.own, Tr.sz, tkPush, tkFind, hu, nmOf, find_env]
    rfl
  | .ap f a, ws, es, p, O, ok, hO => by
    simp only [Tr.sz] at hO
    have h1 : tkPop (p + 1) (tkPop p O) = tkPop p O := pop_all hO (by have := f.pos; omega)
    obtain ⟨O1, e1, q1⟩ := takers_tree f (a.code ++ ws) (a.ends (p + 1 + f.sz) ++ es) (p + 1) (tkPop p O) ok.1 (fun o ho => by
      rw [h1] at ho
      have := hO o ho
      omega)
    rw [h1] at q1 e1
    have h2 : tkPop (p + 1 + f.sz) (tkPop p O) = tkPop p O := pop_all hO (by have := a.pos; omega)
    rw [h2] at q1
    obtain ⟨O2, e2, q2⟩ := takers_tree a ws es (p + 1 + f.sz) O1 ok.2 (fun o ho => by
      rw [q1] at ho
      have := hO o ho
      omega)
    rw [q1] at e2 q2
    refine ⟨O2, ?_, ?_⟩
    · have : p + (Tr.ap f a).sz = p + 1 + f.sz + a.sz := by simp [Tr.sz]; omega
      rw [this]
      simp only [Tr.code, Tr.ends, Tr.own, List.cons_append, List.append_assoc, takersP]
      have hp : tkPush p (p + 1 + f.sz + a.sz) useP (tkPop p O) = tkPop p O := by simp [tkPush]
      rw [hp, e1, e2]
      simp [tkFind, isUse]
    · have : p + (Tr.ap f a).sz = p + 1 + f.sz + a.sz := by simp [Tr.sz]; omega
      rw [this, q2]
  | .lam x k b, ws, es, p, O, ok, hO => by
    simp only [Tr.sz] at hO
    have h1 : tkPop (p + 1) (⟨x, p, p + 1 + b.sz⟩ :: tkPop p O) = ⟨x, p, p + 1 + b.sz⟩ :: tkPop p O := by
      unfold tkPop
      rw [List.dropWhile_cons_of_neg (by have := b.pos; simp; omega)]
    obtain ⟨O1, e1, q1⟩ := takers_tree b ws es (p + 1) (⟨x, p, p + 1 + b.sz⟩ :: tkPop p O) ok.2.2.2 (fun o ho => by
      rw [h1] at ho
      rcases List.mem_cons.mp ho with rfl | ho
      · exact Nat.le_refl _
      · have := hO o ho
        omega)
    rw [h1] at e1 q1
    refine ⟨O1, ?_, ?_⟩
    · have : p + (Tr.lam x k b).sz = p + 1 + b.sz := by simp [Tr.sz]; omega
      rw [this]
      simp only [Tr.code, Tr.ends, Tr.own, List.cons_append, takersP]
      have hp : tkPush p (p + 1 + b.sz) (.tup [.str x, k]) (tkPop p O) = ⟨x, p, p + 1 + b.sz⟩ :: tkPop p O := by simp [tkPush, nmOf]
      rw [hp, e1]
      simp [tkFind, envOf]
    · have : p + (Tr.lam x k b).sz = p + 1 + b.sz := by simp [Tr.sz]; omega
      rw [this, q1]
      unfold tkPop
      rw [List.dropWhile_cons_of_pos (by simp)]
/-! the nearest take around, looked for among all -/
def owL (g : Nat → PV → Option Nat) : Nat → List PV → List (Option Nat)
  | _, [] => []
  | p, w :: ws => g p w :: owL g (p + 1) ws
theorem owL_len (g : Nat → PV → Option Nat) : ∀ (p : Nat) (ws : List PV), (owL g p ws).length = ws.length
  | _, [] => rfl
  | p, w :: ws => by simp [owL, owL_len g]
theorem owL_app (g : Nat → PV → Option Nat) : ∀ (p : Nat) (a b : List PV), owL g p (a ++ b) = owL g p a ++ owL g (p + a.length) b
  | p, [], b => by simp [owL]
  | p, w :: a, b => by
    have : p + 1 + a.length = p + (a.length + 1) := by omega
    simp [owL, owL_app g (p + 1) a b, this]
theorem owL_congr {g g' : Nat → PV → Option Nat} : ∀ {p : Nat} {ws : List PV}, (∀ q w, p ≤ q → q < p + ws.length → g q w = g' q w) → owL g p ws = owL g' p ws
  | _, [], _ => rfl
  | p, w :: ws, h => by
    simp only [owL]
    rw [h p w (Nat.le_refl _) (by simp), owL_congr fun q w' h1 h2 => h q w' (by omega) (by simp; omega)]
theorem owL_get (g : Nat → PV → Option Nat) : ∀ {p i : Nat} {ws : List PV} {w : PV}, ws[i]? = some w → (owL g p ws)[i]? = some (g (p + i) w)
  | p, 0, w :: ws, _, e => by cases e; simp [owL]
  | p, i + 1, w :: ws, _, e => by
    have := owL_get g (p := p + 1) (i := i) (ws := ws) (by simpa using e)
    have h : p + 1 + i = p + (i + 1) := by omega
    simp [owL, this, h]
/-- all takes in the order of their places -/
def takesP : Nat → List PV → List Nat → List OT
  | p, w :: ws, e :: es => if isTupP w = true then ⟨nmOf w, p, e⟩ :: takesP (p + 1) ws es else takesP (p + 1) ws es
  | _, _, _ => []
theorem takesP_app : ∀ (p : Nat) (a b : List PV) (ea eb : List Nat), a.length = ea.length → takesP p (a ++ b) (ea ++ eb) = takesP p a ea ++ takesP (p + a.length) b eb
  | p, [], b, [], eb, _ => by simp [takesP]
  | p, w :: a, b, e :: ea, eb, h => by
    have ih := takesP_app (p + 1) a b ea eb (by simpa using h)
    have : p + 1 + a.length = p + (a.length + 1) := by omega
    simp only [List.cons_append, takesP, ih, this, List.length_cons]
    split <;> simp
  | _, [], _, _ :: _, _, h => by simp at h
  | _, _ :: _, _, [], _, h => by simp at h
def nearT (L : List OT) (q : Nat) (x : List Nat) : Option Nat := (L.filter fun o => decide (o.p < q) && decide (q < o.e) && decide (o.x = x)).getLast?.map (·.p)
def gOwn (env : List (List Nat × Nat)) (L : List OT) (q : Nat) (w : PV) : Option Nat :=
  if isTupP w = true ∨ isUse w = true then none else (nearT L q (nmOf w)).or ((env.find? fun o => decide (o.1 = nmOf w)).map (·.2))
def Tr.tks (t : Tr) (p : Nat) : List OT := takesP p t.code (t.ends p)
theorem Tr.tks_ap (f a : Tr) (p : Nat) : (Tr.ap f a).tks p = f.tks (p + 1) ++ a.tks (p + 1 + f.sz) := by
  simp only [Tr.tks, Tr.code, Tr.ends, takesP, isTupP_str, Bool.false_eq_true, if_false]
  rw [takesP_app _ _ _ _ _ (by rw [Tr.len, Tr.ends_len]), Tr.len]
theorem Tr.tks_lam (x : List Nat) (k : PV) (b : Tr) (p : Nat) : (Tr.lam x k b).tks p = ⟨x, p, p + 1 + b.sz⟩ :: b.tks (p + 1) := by
  simp only [Tr.tks, Tr.code, Tr.ends, takesP, isTupP_tup, if_true]
  rfl
theorem Tr.tks_in : ∀ (t : Tr) (p : Nat) (o : OT), o ∈ t.tks p → p ≤ o.p ∧ o.e ≤ p + t.sz
  | .nm x, p, o, h => by simp [Tr.tks, Tr.code, Tr.ends, takesP] at h
  | .ap f a, p, o, h => by
    rw [Tr.tks_ap] at h
    simp only [Tr.sz]
    rcases List.mem_append.mp h with h | h
    · have := Tr.tks_in f _ _ h
      omega
    · have := Tr.tks_in a _ _ h
      omega
  | .lam x k b, p, o, h => by
    rw [Tr.tks_lam] at h
    simp only [Tr.sz]
    rcases List.mem_cons.mp h with rfl | h
    · simp; omega
    · have := Tr.tks_in b _ _ h
      omega
theorem nearT_none {L : List OT} {q : Nat} {x : List Nat} (h : ∀ o ∈ L, ¬ (o.p < q ∧ q < o.e)) : (L.filter fun o => decide (o.p < q) && decide (q < o.e) && decide (o.x = x)) = [] := by
  rw [List.filter_eq_nil_iff]
  intro o ho
  have := h o ho
  simp
  intro a b
  exact absurd ⟨a, b⟩ this
theorem own_tree : ∀ (t : Tr) (p : Nat) (env : List (List Nat × Nat)), t.ok → t.own p env = owL (gOwn env (t.tks p)) p t.code
  | .nm x, p, env, ok => by
    have hu : isUse (.str x) = false := by simp [isUse, use_nn ok]
    simp [Tr.own, Tr.code, owL, gOwn, hu, nmOf, nearT, Tr.tks, Tr.ends, takesP]
    rfl
  | .ap f a, p, env, ok => by
    simp only [Tr.own, Tr.code, owL, owL_app]
    rw [own_tree f _ _ ok.1, own_tree a _ _ ok.2, Tr.len]
    congr 1
    congr 1
    · apply owL_congr
      intro q w h1 h2
      rw [Tr.len] at h2
      simp only [gOwn, nearT, Tr.tks_ap, List.filter_append]
      rw [nearT_none (L := a.tks (p + 1 + f.sz)) fun o ho => by
        have := Tr.tks_in a _ _ ho
        omega]
      simp
    · apply owL_congr
      intro q w h1 h2
      rw [Tr.len] at h2
      simp only [gOwn, nearT, Tr.tks_ap, List.filter_append]
      rw [nearT_none (L := f.tks (p + 1)) fun o ho => by
        have := Tr.tks_in f _ _ ho
        omega]
      simp
  | .lam x k b, p, env, ok => by
    simp only [Tr.own, Tr.code, owL]
    rw [own_tree b _ _ ok.2.2.2]
    have h0 : gOwn env ((Tr.lam x k b).tks p) p (.tup [.str x, k]) = none := by simp [gOwn]
    rw [h0]
    congr 1
    · apply owL_congr
      intro q w h1 h2
      rw [Tr.len] at h2
      simp only [gOwn, nearT, Tr.tks_lam]
      split
      · rfl
      · by_cases h : x = nmOf w
        · rw [List.filter_cons_of_pos (by simp [h]; omega)]
          rw [List.getLast?_cons]
          generalize (List.filter _ (b.tks (p + 1))).getLast? = z
          cases z <;> simp [h]
        · rw [List.filter_cons_of_neg (by simp [h])]
          simp [h]
end U
set_option Elab.async false
set_option linter.all false
set_option maxRecDepth 100000
set_option maxHeartbeats 4000000
/-! The generic layer, part 30: the lists of places that stand around. -/
namespace U
open PySem PySem.Spec PyProof.Rows L2
variable [Tab] [InsOk]
theorem find_mapS (k : PKey) (v : PV) : ∀ (kvs : List (PKey × PV)), (∃ kv ∈ kvs, kv.1 = k) → ((kvs.map fun kv => if kv.1 = k then (kv.1, v) else kv).find? fun kv => decide (kv.1 = k)).map (·.2) = some v
  | [], h => by obtain ⟨_, h, _⟩ := h; cases h
  | a :: r, h => by
    rw [List.map_cons, List.find?_cons]
    by_cases e : a.1 = k
    · simp [e]
    · have : ∃ kv ∈ r, kv.1 = k := by
        obtain ⟨kv, h1, h2⟩ := h
        rcases List.mem_cons.mp h1 with rfl | h1
        · exact absurd h2 e
        · exact ⟨kv, h1, h2⟩
      rw [if_neg e]
      simp only [e, decide_false]
      exact find_mapS k v r this
theorem find_mapN {k k' : PKey} (hk : k' ≠ k) (v : PV) : ∀ (kvs : List (PKey × PV)), ((kvs.map fun kv => if kv.1 = k then (kv.1, v) else kv).find? fun kv => decide (kv.1 = k')).map (·.2) = (kvs.find? fun kv => decide (kv.1 = k')).map (·.2)
  | [] => rfl
  | a :: r => by
    rw [List.map_cons, List.find?_cons, List.find?_cons]
    by_cases e : a.1 = k
    · have : a.1 ≠ k' := fun z => hk (by rw [← z, e])
      rw [if_pos e]
      simp only [this, decide_false]
      exact find_mapN hk v r
    · rw [if_neg e]
      by_cases e2 : a.1 = k'
      · simp [e2]
      · simp only [e2, decide_false]
        exact find_mapN hk v r
theorem valP_putS (kvs : List (PKey × PV)) (k : PKey) (v : PV) : valP (putP kvs k v) k = some v := by
  unfold valP putP
  split
  · rename_i h
    simp only [List.any_eq_true, decide_eq_true_eq] at h
    exact find_mapS k v kvs h
  · rename_i h
    rw [List.find?_append]
    have : kvs.find? (fun kv => decide (kv.1 = k)) = none := by
      rw [List.find?_eq_none]
      intro x hx z
      exact h (List.any_eq_true.mpr ⟨x, hx, z⟩)
    simp [this]
theorem valP_putN {k k' : PKey} (hk : k' ≠ k) (kvs : List (PKey × PV)) (v : PV) : valP (putP kvs k v) k' = valP kvs k' := by
  unfold valP putP
  split
  · exact find_mapN hk v kvs
  · rw [List.find?_append]
    have : List.find? (fun kv => decide (kv.1 = k')) [(k, v)] = none := by simp [Ne.symm hk]
    rw [this]
    simp
theorem putP_len (kvs : List (PKey × PV)) (k : PKey) (v : PV) : (putP kvs k v).length ≤ kvs.length + 1 := by
  unfold putP
  split <;> simp
/-- the places of a name's open takes, the first first -/
def plsOf (O : List OT) (x : List Nat) : List PV := ((O.filter fun o => decide (o.x = x)).reverse).map fun o => .int (o.p : Nat)
/-- the dict of the names that are taken around; its lists lie behind n at 4 and further -/
structure Arnd (n : Nat) (g : Hh) (kvs : List (PKey × PV)) (O : List OT) : Prop where
  no : ∀ x, valP kvs (.inr x) = none → plsOf O x = []
  at_ : ∀ x v, valP kvs (.inr x) = some v → ∃ j, 4 ≤ j ∧ v = .ref (n + j) ∧ g[j]? = some (.lst (plsOf O x))
  inj : ∀ x y v, valP kvs (.inr x) = some v → valP kvs (.inr y) = some v → x = y
theorem Arnd.nil (n : Nat) (g : Hh) : Arnd n g [] [] := ⟨fun _ _ => rfl, fun _ _ e => (by cases e), fun _ _ _ e _ => (by cases e)⟩
theorem plsOf_pop (o : OT) (O : List OT) : plsOf (o :: O) o.x = plsOf O o.x ++ [.int (o.p : Nat)] := by simp [plsOf]
theorem plsOf_ne {o : OT} {x : List Nat} (h : o.x ≠ x) (O : List OT) : plsOf (o :: O) x = plsOf O x := by simp [plsOf, h]
theorem Arnd.pop {n : Nat} {g : Hh} {kvs : List (PKey × PV)} {o : OT} {O : List OT} (a : Arnd n g kvs (o :: O)) : ∃ j, 4 ≤ j ∧ valP kvs (.inr o.x) = some (.ref (n + j)) ∧ g[j]? = some (.lst (plsOf O o.x ++ [.int (o.p : Nat)])) ∧ Arnd n (g.set j (.lst (plsOf O o.x))) kvs O := by
  cases e : valP kvs (.inr o.x) with
  | none =>
    have := a.no _ e
    rw [plsOf_pop] at this
    simp at this
  | some v =>
    obtain ⟨j, h4, rfl, hg⟩ := a.at_ _ _ e
    rw [plsOf_pop] at hg
    refine ⟨j, h4, rfl, hg, ⟨fun x ex => ?_, fun x v ex => ?_, a.inj⟩⟩
    · have : o.x ≠ x := fun z => by rw [← z, e] at ex; cases ex
      rw [← plsOf_ne this]
      exact a.no x ex
    · obtain ⟨i, h4', rfl, hg'⟩ := a.at_ _ _ ex
      by_cases z : o.x = x
      · subst z
        rw [e] at ex
        have : j = i := by simp at ex; omega
        subst this
        exact ⟨j, h4, rfl, by rw [List.getElem?_set_self (List.getElem?_eq_some_iff.mp hg).1]⟩
      · have hij : j ≠ i := fun z2 => z (a.inj _ _ _ e (by rw [ex, z2]))
        exact ⟨i, h4', rfl, by rw [List.getElem?_set_ne hij, hg', plsOf_ne z]⟩
theorem Arnd.low {n : Nat} {g : Hh} {kvs : List (PKey × PV)} {O : List OT} (a : Arnd n g kvs O) {k : Nat} (hk : k < 4) (c : Cell) : Arnd n (g.set k c) kvs O :=
  ⟨a.no, fun x v e => by
    obtain ⟨j, h4, ev, hg⟩ := a.at_ x v e
    exact ⟨j, h4, ev, by rw [List.getElem?_set_ne (by omega), hg]⟩, a.inj⟩
theorem Arnd.app {n : Nat} {g : Hh} {kvs : List (PKey × PV)} {O : List OT} (a : Arnd n g kvs O) (g' : Hh) : Arnd n (g ++ g') kvs O :=
  ⟨a.no, fun x v e => by
    obtain ⟨j, h4, ev, hg⟩ := a.at_ x v e
    exact ⟨j, h4, ev, getO g' hg⟩, a.inj⟩
theorem Arnd.push {n : Nat} {g : Hh} {kvs : List (PKey × PV)} {O : List OT} (a : Arnd n g kvs O) (h4 : 4 ≤ g.length) (o : OT) : Arnd n (g ++ [.lst (plsOf O o.x ++ [.int (o.p : Nat)])]) (putP kvs (.inr o.x) (.ref (n + g.length))) (o :: O) where
  no x e := by
    by_cases z : o.x = x
    · subst z
      rw [valP_putS] at e
      cases e
    · rw [valP_putN (by simpa using fun q => z q.symm)] at e
      rw [plsOf_ne z]
      exact a.no x e
  at_ x v e := by
    by_cases z : o.x = x
    · subst z
      rw [valP_putS] at e
      cases e
      exact ⟨g.length, h4, rfl, by rw [plsOf_pop]; simp⟩
    · rw [valP_putN (by simpa using fun q => z q.symm)] at e
      obtain ⟨j, h4, ev, hg⟩ := a.at_ x v e
      exact ⟨j, h4, ev, by rw [plsOf_ne z]; exact getO _ hg⟩
  inj x y v e1 e2 := by
    have old : ∀ x, o.x ≠ x → ∀ v, valP (putP kvs (.inr o.x) (.ref (n + g.length))) (.inr x) = some v → ∃ j, j < g.length ∧ v = .ref (n + j) := fun x z v e => by
      rw [valP_putN (by simpa using fun q => z q.symm)] at e
      obtain ⟨j, _, ev, hg⟩ := a.at_ x v e
      exact ⟨j, (List.getElem?_eq_some_iff.mp hg).1, ev⟩
    by_cases z1 : o.x = x
    · by_cases z2 : o.x = y
      · rw [← z1, ← z2]
      · obtain ⟨j, hj, ev⟩ := old y z2 v e2
        subst z1
        rw [valP_putS, ev] at e1
        simp at e1
        omega
    · by_cases z2 : o.x = y
      · obtain ⟨j, hj, ev⟩ := old x z1 v e1
        subst z2
        rw [valP_putS, ev] at e2
        simp at e2
        omega
      · rw [valP_putN (by simpa using fun q => z1 q.symm)] at e1
        rw [valP_putN (by simpa using fun q => z2 q.symm)] at e2
        exact a.inj x y v e1 e2
theorem plsOf_last (O : List OT) (x : List Nat) : (plsOf O x).getLast? = ((O.find? fun o => decide (o.x = x)).map fun o => .int (o.p : Nat)) := by
  unfold plsOf
  rw [List.map_reverse, List.getLast?_reverse, List.head?_map, List.head?_filter]
theorem enumL_at {xs : List PV} {i : Nat} {y : PV} (e : (enumL xs)[i]? = some y) : ∃ x, xs[i]? = some x ∧ y = .tup [.int (i : Nat), x] := by
  unfold enumL at e
  rw [List.getElem?_zipWith] at e
  cases h1 : (List.range xs.length)[i]? with
  | none => rw [h1] at e; cases e
  | some a =>
    cases h2 : xs[i]? with
    | none => rw [h1, h2] at e; cases e
    | some b =>
      rw [h1, h2] at e
      cases e
      have hl : i < xs.length := (List.getElem?_eq_some_iff.mp h2).1
      rw [List.getElem?_range hl] at h1
      cases h1
      exact ⟨b, rfl, rfl⟩
theorem enumL_len (xs : List PV) : (enumL xs).length = xs.length := by simp [enumL]
def otP (o : OT) : PV := .tup [.str o.x, .int (o.e : Nat)]
/-- the cells of the walk for takers, behind n -/
structure TkH (n : Nat) (es : List Nat) (fd : List PV) (g : Hh) (kvs : List (PKey × PV)) (O : List OT) : Prop where
  len : 4 ≤ g.length
  c0 : g[0]? = some (.lst (es.map fun e => .int (e : Nat)))
  c1 : g[1]? = some (.lst fd)
  c2 : g[2]? = some (.dic kvs)
  c3 : g[3]? = some (.lst (O.reverse.map otP))
  ar : Arnd n g kvs O
theorem TkH.pop {n : Nat} {es : List Nat} {fd : List PV} {g : Hh} {kvs : List (PKey × PV)} {o : OT} {O : List OT} (a : TkH n es fd g kvs (o :: O)) :
    ∃ j, 4 ≤ j ∧ valP kvs (.inr o.x) = some (.ref (n + j)) ∧ g[j]? = some (.lst (plsOf O o.x ++ [.int (o.p : Nat)])) ∧ TkH n es fd ((g.set 3 (.lst (O.reverse.map otP))).set j (.lst (plsOf O o.x))) kvs O := by
  obtain ⟨j, h4, e1, e2, ar⟩ := (a.ar.low (by omega : 3 < 4) (.lst (O.reverse.map otP))).pop
  rw [List.getElem?_set_ne (by omega)] at e2
  have hl := a.len
  refine ⟨j, h4, e1, e2, by simpa using a.len, ?_, ?_, ?_, ?_, ar⟩
  · rw [List.getElem?_set_ne (by omega), List.getElem?_set_ne (by omega), a.c0]
  · rw [List.getElem?_set_ne (by omega), List.getElem?_set_ne (by omega), a.c1]
  · rw [List.getElem?_set_ne (by omega), List.getElem?_set_ne (by omega), a.c2]
  · rw [List.getElem?_set_ne (by omega), List.getElem?_set_self (by omega)]
theorem TkH.fnd {n : Nat} {es : List Nat} {fd : List PV} {g : Hh} {kvs : List (PKey × PV)} {O : List OT} (a : TkH n es fd g kvs O) (fd' : List PV) : TkH n es fd' (g.set 1 (.lst fd')) kvs O := by
  have hl := a.len
  refine ⟨by simpa using hl, ?_, ?_, ?_, ?_, a.ar.low (by omega) _⟩
  · rw [List.getElem?_set_ne (by omega), a.c0]
  · rw [List.getElem?_set_self (by omega)]
  · rw [List.getElem?_set_ne (by omega), a.c2]
  · rw [List.getElem?_set_ne (by omega), a.c3]
theorem TkH.app {n : Nat} {es : List Nat} {fd : List PV} {g : Hh} {kvs : List (PKey × PV)} {O : List OT} (a : TkH n es fd g kvs O) (g' : Hh) : TkH n es fd (g ++ g') kvs O :=
  ⟨by have := a.len; simp; omega, getO _ a.c0, getO _ a.c1, getO _ a.c2, getO _ a.c3, a.ar.app g'⟩
theorem TkH.push {n : Nat} {es : List Nat} {fd : List PV} {g : Hh} {kvs : List (PKey × PV)} {O : List OT} (a : TkH n es fd g kvs O) (o : OT) :
    TkH n es fd (((g ++ [Cell.lst (plsOf O o.x ++ [.int (o.p : Nat)])]).set 2 (Cell.dic (putP kvs (.inr o.x) (.ref (n + g.length))))).set 3 (Cell.lst ((o :: O).reverse.map otP))) (putP kvs (.inr o.x) (.ref (n + g.length))) (o :: O) := by
  have hl := a.len
  have l2 : (2 : Nat) < 4 := by omega
  have l3 : (3 : Nat) < 4 := by omega
  refine ⟨by simp; omega, ?_, ?_, ?_, ?_, ((a.ar.push hl o).low l2 _).low l3 _⟩
  · rw [List.getElem?_set_ne (by omega), List.getElem?_set_ne (by omega)]; exact getO (c := .lst _) _ a.c0
  · rw [List.getElem?_set_ne (by omega), List.getElem?_set_ne (by omega)]; exact getO (c := .lst _) _ a.c1
  · rw [List.getElem?_set_ne (by omega), List.getElem?_set_self (by simp; omega)]
  · rw [List.getElem?_set_self (by simp; omega)]
theorem atI_last {α : Type} (xs : List α) (y : α) : atI (xs ++ [y]) (-1) = some y := by
  have e : ixN (xs ++ [y]).length (-1) = some xs.length := by
    unfold ixN
    rw [if_neg (by omega), if_pos (by simp; omega)]
    congr 1
    simp
    omega
  unfold atI
  rw [e]
  simp
theorem fIx_ot0 (o : OT) (h : Hh) : fIx (otP o) (.int 0) h = .ok (.str o.x) h := fIx_tup h rfl
theorem fIx_ot1 (o : OT) (h : Hh) : fIx (otP o) (.int 1) h = .ok (.int (o.e : Nat)) h := fIx_tup h rfl
theorem tkPop_le (p : Nat) (O : List OT) : (tkPop p O).length ≤ O.length := by
  unfold tkPop
  exact (List.dropWhile_sublist _).length_le
theorem Arnd.get {n : Nat} {g : Hh} {kvs : List (PKey × PV)} {O : List OT} (a : Arnd n g kvs O) (x : List Nat) : ∃ j, (valP kvs (.inr x)).getD (.ref (n + g.length)) = .ref (n + j) ∧ (g ++ [.lst []])[j]? = some (.lst (plsOf O x)) := by
  cases e : valP kvs (.inr x) with
  | none => exact ⟨g.length, rfl, by rw [a.no x e]; simp⟩
  | some v =>
    obtain ⟨j, _, rfl, hg⟩ := a.at_ x v e
    exact ⟨j, rfl, getO _ hg⟩
theorem getD2_at {i : Nat} {kvs : List (PKey × PV)} {u d : PV} {k : PKey} {h : Hh} (e : h[i]? = some (.dic kvs)) (ek : u.key? = some k) : getD2 (.ref i) u d h = .ok ((valP kvs k).getD d) h := by
  simp only [getD2, e, ek]
  cases valP kvs k <;> rfl
theorem fAdd_lst {i j : Nat} {xs ys : List PV} {h : Hh} (e1 : h[i]? = some (.lst xs)) (e2 : h[j]? = some (.lst ys)) (hz : xs.length + ys.length ≤ 16777216) : fAdd (.ref i) (.ref j) h = .ok (.ref h.length) (h ++ [.lst (xs ++ ys)]) := by
  simp only [fAdd, e1, e2]
  unfold Res.guard
  rw [if_pos (by rw [size_le]; exact hz)]
  rfl
theorem wordP_tup {as : List PV} (e : wordP (.tup as) = true) : ∃ x k, as = [.str x, k] ∧ nameL x = true ∧ kindP k = true := by
  unfold wordP at e
  split at e
  · rename_i a b e2
    cases e2
    simp only [Bool.and_eq_true] at e
    cases a with
    | str x => exact ⟨x, b, rfl, e.1, e.2⟩
    | _ => simp [nameP] at e
  · rename_i e2; cases e2
  · cases e
theorem wordP_cases {w : PV} (e : wordP w = true) : (w = useP) ∨ (∃ x, w = .str x ∧ nameL x = true ∧ x ≠ [64]) ∨ ∃ x k, w = .tup [.str x, k] ∧ nameL x = true ∧ kindP k = true ∧ x ≠ [64] := by
  cases w with
  | tup as =>
    obtain ⟨x, k, rfl, h1, h2⟩ := wordP_tup e
    exact .inr (.inr ⟨x, k, rfl, h1, h2, use_nn h1⟩)
  | str x =>
    by_cases h : x = [64]
    · exact .inl (by rw [h])
    · simp [wordP, h] at e
      exact .inr (.inl ⟨x, rfl, e, h⟩)
  | _ => simp [wordP] at e
theorem plsOf_le (O : List OT) (x : List Nat) : (plsOf O x).length ≤ O.length := by
  unfold plsOf
  simp
  exact List.length_filter_le _ _
theorem takers_step {ws : List PV} {es : List Nat} {i e : Nat} {w : PV} (h1 : ws[i]? = some w) (h2 : es[i]? = some e) (O : List OT) : takersP i (ws.drop i) (es.drop i) O = tkFind (tkPop i O) w :: takersP (i + 1) (ws.drop (i + 1)) (es.drop (i + 1)) (tkPush i e w (tkPop i O)) := by
  obtain ⟨l1, e1⟩ := List.getElem?_eq_some_iff.mp h1
  obtain ⟨l2, e2⟩ := List.getElem?_eq_some_iff.mp h2
  rw [List.drop_eq_getElem_cons l1, List.drop_eq_getElem_cons l2, e1, e2, takersP]
theorem optP_app (a : List (Option Nat)) (b : Option Nat) : a.map optP ++ [optP b] = (a ++ [b]).map optP := by simp
theorem plsOf_nil {O : List OT} {x : List Nat} (h : plsOf O x = []) : (O.find? fun o => decide (o.x = x)) = none := by
  have := plsOf_last O x
  rw [h] at this
  cases e : O.find? fun o => decide (o.x = x) with
  | none => rfl
  | some o => rw [e] at this; cases this
theorem plsOf_snoc {O : List OT} {x : List Nat} (h : plsOf O x ≠ []) : ∃ ps o, plsOf O x = ps ++ [.int (o.p : Nat)] ∧ (O.find? fun o => decide (o.x = x)) = some o := by
  have := plsOf_last O x
  rcases List.eq_nil_or_concat (plsOf O x) with z | ⟨ps, p, z⟩
  · exact absurd z h
  · rw [z] at this
    rw [List.concat_eq_append, List.getLast?_concat] at this
    cases e : O.find? fun o => decide (o.x = x) with
    | none => rw [e] at this; cases this
    | some o =>
      rw [e] at this
      cases this
      exact ⟨ps, o, by rw [z]; simp, rfl⟩
theorem tkFind_str {x : List Nat} (hn : x ≠ [64]) (O : List OT) : tkFind O (.str x) = (O.find? fun o => decide (o.x = x)).map (·.p) := by
  unfold tkFind
  rw [if_neg (by simp [isUse, hn])]
  rfl
theorem tkPush_str (p e : Nat) (x : List Nat) (O : List OT) : tkPush p e (.str x) O = O := by simp [tkPush]
theorem tkFind_tup (xs : List PV) (O : List OT) : tkFind O (.tup xs) = none := by simp [tkFind]
theorem tkPush_tup (p e : Nat) (x : List Nat) (k : PV) (O : List OT) : tkPush p e (.tup [.str x, k]) O = ⟨x, p, e⟩ :: O := by simp [tkPush, nmOf]
end U
set_option Elab.async false
set_option linter.all false
set_option maxRecDepth 100000
set_option maxHeartbeats 4000000
/-! The generic layer, part 31: dicts made by walks; counts. -/
namespace U
open PySem PySem.Spec PyProof.Rows L2
variable [Tab] [InsOk]
theorem dcompL_pure {b : Bd} {c : Tv} {k e : Ev} {g : Gd} {s : Ev0} {h : Hh} (p : PV → Bool) (kf : PV → PKey) (vf : PV → PV) (hg : gOk g h) : ∀ (xs : List PV) (acc : List (PKey × PV)), acc.length + xs.length ≤ sizeLine →
    (∀ x ∈ xs, ∃ s1, b x s = some s1 ∧ c s1 h = .ok (p x) h ∧ (p x = true → ∃ kv, k s1 h = .ok kv h ∧ kv.key? = some (kf x) ∧ e s1 h = .ok (vf x) h)) →
    dcompL b c k e g s xs acc h = .ok ((xs.filter p).foldl (fun acc x => putP acc (kf x) (vf x)) acc) h
  | [], acc, _, _ => by unfold dcompL; rw [if_pos hg]; rfl
  | x :: xs, acc, hz, hx => by
    obtain ⟨s1, e1, e2, e3⟩ := hx x List.mem_cons_self
    rw [List.length_cons] at hz
    unfold dcompL
    rw [if_pos hg]
    simp only [e1, e2, Res.nx]
    cases q : p x with
    | true =>
      obtain ⟨kv, e4, e5, e6⟩ := e3 q
      have := putP_len acc (kf x) (vf x)
      rw [if_pos rfl, e4]
      simp only [e6, e5]
      rw [if_pos (by omega), dcompL_pure p kf vf hg xs _ (by omega) (fun y hy => hx y (List.mem_cons_of_mem _ hy))]
      simp [List.filter_cons, q]
    | false =>
      rw [if_neg Bool.false_ne_true, dcompL_pure p kf vf hg xs acc (by omega) (fun y hy => hx y (List.mem_cons_of_mem _ hy))]
      simp [List.filter_cons, q]
theorem dcompP {b : Bd} {c : Tv} {k e : Ev} {g : Gd} {s : Ev0} {h : Hh} {xs : List PV} {r : Res (List (PKey × PV))} (hr : dcompL b c k e g s xs [] h = r) (p : PV → Bool) (kf : PV → PKey) (vf : PV → PV) (hg : gOk g h) (hz : xs.length ≤ sizeLine)
    (hx : ∀ x ∈ xs, ∃ s1, b x s = some s1 ∧ c s1 h = .ok (p x) h ∧ (p x = true → ∃ kv, k s1 h = .ok kv h ∧ kv.key? = some (kf x) ∧ e s1 h = .ok (vf x) h)) : r = .ok ((xs.filter p).foldl (fun acc x => putP acc (kf x) (vf x)) []) h := by
  subst hr
  exact dcompL_pure p kf vf hg xs [] (by simpa using hz) hx
/-! counts -/
def isI : PV → Bool | .int _ => true | _ => false
def incP : Option PV → PV
  | some (.int n) => .int (n + 1)
  | _ => .int 1
def stepC (kvs : List (PKey × PV)) (w : PV) (t : Option Nat) : List (PKey × PV) := match t with
  | some q => putP kvs (.inl (q : Nat)) (incP (valP kvs (.inl (q : Nat))))
  | none => if isTupP w = true ∨ isUse w = true then kvs else putP kvs (.inr (nmOf w)) (incP (valP kvs (.inr (nmOf w))))
def cntW : List (PKey × PV) → List PV → List (Option Nat) → List (PKey × PV)
  | kvs, w :: ws, t :: ts => cntW (stepC kvs w t) ws ts
  | kvs, _, _ => kvs
/-- the takes, each with none -/
def cnt0 (ws : List PV) : List (PKey × PV) := ((enumL ws).filter fun y => match y with | .tup [_, w] => isTupP w | _ => false).foldl (fun acc y => putP acc (match y with | .tup [.int p, _] => .inl p | _ => .inl 0) (.int 0)) []
/-- the values are integers, and all these places are there -/
structure CntI (qs : List Nat) (kvs : List (PKey × PV)) : Prop where
  int : ∀ k v, valP kvs k = some v → ∃ n, v = .int n
  at_ : ∀ q ∈ qs, ∃ n, valP kvs (.inl (q : Nat)) = some (.int n)
theorem CntI.put {qs : List Nat} {kvs : List (PKey × PV)} (a : CntI qs kvs) (k : PKey) (n : Int) : CntI qs (putP kvs k (.int n)) where
  int k' v e := by
    by_cases h : k' = k
    · subst h
      rw [valP_putS] at e
      exact ⟨n, (Option.some.inj e).symm⟩
    · rw [valP_putN h] at e
      exact a.int k' v e
  at_ q hq := by
    by_cases h : (Sum.inl (q : Int) : PKey) = k
    · subst h
      exact ⟨n, valP_putS _ _ _⟩
    · rw [valP_putN h]
      exact a.at_ q hq
theorem incP_int (o : Option PV) : ∃ n, incP o = .int n := by
  unfold incP
  split
  · exact ⟨_, rfl⟩
  · exact ⟨_, rfl⟩
theorem CntI.step {qs : List Nat} {kvs : List (PKey × PV)} (a : CntI qs kvs) (w : PV) (t : Option Nat) : CntI qs (stepC kvs w t) := by
  unfold stepC
  split
  · obtain ⟨n, e⟩ := incP_int (valP kvs (.inl _))
    rw [e]; exact a.put _ _
  · split
    · exact a
    · obtain ⟨n, e⟩ := incP_int (valP kvs (.inr _))
      rw [e]; exact a.put _ _
theorem stepC_len (kvs : List (PKey × PV)) (w : PV) (t : Option Nat) : (stepC kvs w t).length ≤ kvs.length + 1 := by
  unfold stepC
  split
  · exact putP_len _ _ _
  · split
    · omega
    · exact putP_len _ _ _
theorem fold_int (f : PV → PKey) : ∀ (xs : List PV) (kvs : List (PKey × PV)), (∀ k v, valP kvs k = some v → ∃ n, v = .int n) → ∀ k v, valP (xs.foldl (fun acc y => putP acc (f y) (.int 0)) kvs) k = some v → ∃ n, v = .int n
  | [], kvs, h => h
  | x :: xs, kvs, h => fold_int f xs (putP kvs (f x) (.int 0)) fun k v e => by
    by_cases z : k = f x
    · subst z
      rw [valP_putS] at e
      exact ⟨0, (Option.some.inj e).symm⟩
    · rw [valP_putN z] at e
      exact h k v e
theorem cnt0_int (ws : List PV) : ∀ k v, valP (cnt0 ws) k = some v → ∃ n, v = .int n := fold_int _ _ _ fun _ _ e => by cases e
theorem fold_len (f : PV → PKey) : ∀ (xs : List PV) (kvs : List (PKey × PV)), (xs.foldl (fun acc y => putP acc (f y) (.int 0)) kvs).length ≤ kvs.length + xs.length
  | [], kvs => Nat.le_refl _
  | x :: xs, kvs => by
    have := fold_len f xs (putP kvs (f x) (.int 0))
    have := putP_len kvs (f x) (.int 0)
    simp only [List.foldl_cons, List.length_cons]
    omega
theorem cnt0_len (ws : List PV) : (cnt0 ws).length ≤ ws.length := by
  have := fold_len (fun y => match y with | .tup [.int p, _] => .inl p | _ => .inl 0) ((enumL ws).filter fun y => match y with | .tup [_, w] => isTupP w | _ => false) []
  have h2 := List.length_filter_le (fun y => match y with | .tup [_, w] => isTupP w | _ => false) (enumL ws)
  rw [enumL_len] at h2
  unfold cnt0
  simp only [List.length_nil] at this
  omega
theorem cntW_step {kvs : List (PKey × PV)} {ws : List PV} {ts : List (Option Nat)} {i : Nat} {w : PV} {t : Option Nat} (h1 : ws[i]? = some w) (h2 : ts[i]? = some t) : cntW kvs (ws.drop i) (ts.drop i) = cntW (stepC kvs w t) (ws.drop (i + 1)) (ts.drop (i + 1)) := by
  obtain ⟨l1, e1⟩ := List.getElem?_eq_some_iff.mp h1
  obtain ⟨l2, e2⟩ := List.getElem?_eq_some_iff.mp h2
  rw [List.drop_eq_getElem_cons l1, List.drop_eq_getElem_cons l2, e1, e2, cntW]
theorem fIxM_dic {j : Nat} {kvs : List (PKey × PV)} {u : PV} {k : PKey} {y : PV} {h : Hh} (e0 : h[j]? = some (.dic kvs)) (ek : u.key? = some k) (e : valP kvs k = some y) : fIxM (.ref j) u h = .ok y h := by simp only [fIxM, e0, ek, e]
theorem fIxM_lst {j : Nat} {xs : List PV} {i : Int} {y : PV} {h : Hh} (e0 : h[j]? = some (.lst xs)) (e : atI xs i = some y) : fIxM (.ref j) (.int i) h = .ok y h := by simp only [fIxM, e0, e]
theorem takersP_len : ∀ (p : Nat) (ws : List PV) (es : List Nat) (O : List OT), es.length = ws.length → (takersP p ws es O).length = ws.length
  | p, [], es, O, _ => by simp [takersP]
  | p, w :: ws, [], O, h => by simp at h
  | p, w :: ws, e :: es, O, h => by simp [takersP, takersP_len (p + 1) ws es _ (by simpa using h)]
theorem putP_some {kvs : List (PKey × PV)} {k : PKey} {v : PV} {k' : PKey} (h : (valP kvs k').isSome = true) : (valP (putP kvs k v) k').isSome = true := by
  by_cases z : k' = k
  · subst z; rw [valP_putS]; rfl
  · rw [valP_putN z]; exact h
theorem putP_int {kvs : List (PKey × PV)} (h : ∀ k v, valP kvs k = some v → ∃ n, v = .int n) (k : PKey) (n : Int) : ∀ k' v, valP (putP kvs k (.int n)) k' = some v → ∃ n, v = .int n := fun k' v e => by
  by_cases z : k' = k
  · subst z
    rw [valP_putS] at e
    exact ⟨n, (Option.some.inj e).symm⟩
  · rw [valP_putN z] at e
    exact h k' v e
theorem putP_mem {kvs : List (PKey × PV)} {k : PKey} {v : PV} {kv : PKey × PV} (h : kv ∈ putP kvs k v) : kv.2 = v ∨ kv ∈ kvs := by
  unfold putP at h
  split at h
  · obtain ⟨a, ha, e⟩ := List.mem_map.mp h
    split at e
    · subst e; exact .inl rfl
    · subst e; exact .inr ha
  · rcases List.mem_append.mp h with h | h
    · exact .inr h
    · simp at h; subst h; exact .inl rfl
def AllI (kvs : List (PKey × PV)) : Prop := ∀ kv ∈ kvs, ∃ n, kv.2 = .int n
theorem AllI.put {kvs : List (PKey × PV)} (a : AllI kvs) (k : PKey) (n : Int) : AllI (putP kvs k (.int n)) := fun kv h => by
  rcases putP_mem h with h | h
  · exact ⟨n, h⟩
  · exact a kv h
theorem AllI.step {kvs : List (PKey × PV)} (a : AllI kvs) (w : PV) (t : Option Nat) : AllI (stepC kvs w t) := by
  unfold stepC
  split
  · obtain ⟨n, e⟩ := incP_int (valP kvs (.inl _))
    rw [e]; exact a.put _ _
  · split
    · exact a
    · obtain ⟨n, e⟩ := incP_int (valP kvs (.inr _))
      rw [e]; exact a.put _ _
theorem AllI.cntW : ∀ {ws : List PV} {ts : List (Option Nat)} {kvs : List (PKey × PV)}, AllI kvs → AllI (cntW kvs ws ts)
  | [], ts, kvs, a => by cases ts <;> exact a
  | w :: ws, [], kvs, a => a
  | w :: ws, t :: ts, kvs, a => AllI.cntW (ws := ws) (ts := ts) (a.step w t)
theorem AllI.fold (f : PV → PKey) : ∀ (xs : List PV) {kvs : List (PKey × PV)}, AllI kvs → AllI (xs.foldl (fun acc y => putP acc (f y) (.int 0)) kvs)
  | [], kvs, a => a
  | x :: xs, kvs, a => AllI.fold f xs (a.put (f x) 0)
theorem AllI.cnt0 (ws : List PV) : AllI (cnt0 ws) := AllI.fold _ _ fun _ h => by cases h
theorem AllI.cl {kvs : List (PKey × PV)} (a : AllI kvs) (n : Nat) : clC n (.dic kvs) := fun kv h => by
  obtain ⟨m, e⟩ := a kv h
  rw [e]
  trivial
end U
set_option Elab.async false
set_option linter.all false
set_option maxRecDepth 100000
set_option maxHeartbeats 4000000
/-! The generic layer, part 32: the takes of a list of words. -/
namespace U
open PySem PySem.Spec PyProof.Rows L2
variable [Tab] [InsOk]
theorem takesP_mem : ∀ {p : Nat} {ws : List PV} {es : List Nat} {o : OT}, o ∈ takesP p ws es → ∃ i w, ws[i]? = some w ∧ es[i]? = some o.e ∧ o.p = p + i ∧ isTupP w = true ∧ o.x = nmOf w
  | p, [], es, o, h => by simp [takesP] at h
  | p, w :: ws, [], o, h => by simp [takesP] at h
  | p, w :: ws, e :: es, o, h => by
    have rec_ : o ∈ takesP (p + 1) ws es → ∃ i w', (w :: ws)[i]? = some w' ∧ (e :: es)[i]? = some o.e ∧ o.p = p + i ∧ isTupP w' = true ∧ o.x = nmOf w' := fun h => by
      obtain ⟨i, w', h1, h2, h3, h4, h5⟩ := takesP_mem h
      exact ⟨i + 1, w', by simpa using h1, by simpa using h2, by omega, h4, h5⟩
    simp only [takesP] at h
    split at h
    · rename_i q
      rcases List.mem_cons.mp h with rfl | h
      · exact ⟨0, w, rfl, rfl, rfl, q, rfl⟩
      · exact rec_ h
    · exact rec_ h
/-- the takes' places ascend -/
theorem takesP_asc : ∀ (p : Nat) (ws : List PV) (es : List Nat), (takesP p ws es).Pairwise fun a b => a.p < b.p
  | p, [], es => by simp [takesP]
  | p, w :: ws, [] => by simp [takesP]
  | p, w :: ws, e :: es => by
    simp only [takesP]
    split
    · refine List.Pairwise.cons (fun o ho => ?_) (takesP_asc _ _ _)
      obtain ⟨i, _, _, _, h, _⟩ := takesP_mem ho
      show p < o.p
      omega
    · exact takesP_asc _ _ _
/-- the places of the takes -/
theorem takesP_filter : ∀ (p : Nat) (ws : List PV) (es : List Nat), es.length = ws.length → (takesP p ws es).map (·.p) = ((List.range ws.length).filter fun i => match ws[i]? with | some w => isTupP w | none => false).map (p + ·)
  | p, [], es, _ => by simp [takesP]
  | p, w :: ws, [], h => by simp at h
  | p, w :: ws, e :: es, h => by
    have ih := takesP_filter (p + 1) ws es (by simpa using h)
    rw [List.length_cons, List.range_succ_eq_map, List.filter_cons, List.filter_map]
    simp only [takesP]
    have e2 : (((List.range ws.length).filter ((fun i => match (w :: ws)[i]? with | some w => isTupP w | none => false) ∘ Nat.succ)).map Nat.succ).map (p + ·) = (takesP (p + 1) ws es).map (·.p) := by
      rw [ih, List.map_map]
      have : ((fun i => match (w :: ws)[i]? with | some w => isTupP w | none => false) ∘ Nat.succ) = fun i => match ws[i]? with | some w => isTupP w | none => false := by
        funext i
        simp
      rw [this]
      apply List.map_congr_left
      intro a _
      simp
      omega
    by_cases q : isTupP w = true
    · simp only [q, if_true, List.getElem?_cons_zero, List.map_cons]
      rw [e2]
      simp
    · simp only [q, List.getElem?_cons_zero]
      exact e2.symm
/-- the greatest of ascending ones is the last -/
theorem maxI_asc : ∀ {xs : List Int} {m : Int}, xs.Pairwise (· < ·) → xs.getLast? = some m → maxI xs = m
  | [], m, _, e => by cases e
  | x :: xs, m, h, e => by
    unfold maxI
    apply foldMax
    · exact List.mem_of_getLast? e
    · intro y hy
      rw [List.getLast?_eq_some_iff] at e
      obtain ⟨ys, e⟩ := e
      rw [e] at h hy
      rcases List.mem_append.mp hy with h1 | h1
      · have := (List.pairwise_append.mp h).2.2 y h1 m (by simp)
        omega
      · simp at h1; omega
end U
set_option Elab.async false
set_option linter.all false
set_option maxRecDepth 100000
set_option maxHeartbeats 4000000
/-! The generic layer, part 33: a hand that is drawn from. -/
namespace U
open PySem PySem.Spec PyProof.Rows L2
variable [Tab] [InsOk]
theorem getN {n : Nat} {h : Hh} (hl : h.length = n) (g : Hh) (k : Nat) : (h ++ g)[n + k]? = g[k]? := by rw [← hl]; exact getA h g k
theorem getN0 {n : Nat} {h : Hh} (hl : h.length = n) (g : Hh) : (h ++ g)[n]? = g[0]? := by rw [← hl]; exact getA0 h g
theorem setN {n : Nat} {h : Hh} (hl : h.length = n) (g : Hh) (k : Nat) (c : Cell) : (h ++ g).set (n + k) c = h ++ g.set k c := by rw [← hl]; exact setA h g k c
theorem setN0 {n : Nat} {h : Hh} (hl : h.length = n) (g : Hh) (c : Cell) : (h ++ g).set n c = h ++ g.set 0 c := by rw [← hl]; exact setA0 h g c
theorem seq_nx {a b : Sv} {s s1 : Ev0} {h h1 : Hh} (e : a s h = .nx s1 h1) : sSeq a b s h = b s1 h1 := by
  unfold sSeq
  rw [e]
theorem seq_rt {a b : Sv} {s : Ev0} {h h1 : Hh} {v : PV} (e : a s h = .rt v h1) : sSeq a b s h = .rt v h1 := by
  unfold sSeq
  rw [e]
theorem for_eq {i : Iv} {t : Tgt} {b : Sv} {s : Ev0} {h h1 : Hh} {xs : List PV} {g : Gd} (e : i s h = .ok (xs, g) h1) : sFor i t b s h = forL t b g xs s h1 := by
  unfold sFor
  rw [e]
  rfl
theorem asg_new {m : Lv} {i : Nat} {s : Ev0} {h h1 : Hh} {xs : List PV} (e : m s h = .ok xs h1) : sAsg (eNew m) (gN i) s h = .nx (s.set i (some (.ref h1.length))) (h1 ++ [.lst xs]) := by
  unfold sAsg eNew
  rw [e]
  rfl
theorem lcomp_eq {i : Iv} {b : Bd} {c : Tv} {e : Ev} {own : List Nat} {s : Ev0} {h h1 : Hh} {xs : List PV} {g : Gd} {r : Res (List PV)} (e1 : i s h = .ok (xs, g) h1) (e2 : compL b c e g (wipeE s own) xs [] h1 = r) : lComp i b c e own s h = r := by
  unfold lComp
  rw [e1]
  exact e2
theorem fn_tmp {α : Type} {f : FA α} {m : Lv} {s : Ev0} {h h1 : Hh} {xs : List PV} {r : Res α} (e : m s h = .ok xs h1) (e2 : f [.tmp xs] h1 = r) : eFn f (aCons (aT m) aNil) s h = r := by
  unfold eFn aCons aT aNil
  rw [e]
  exact e2
theorem ret_new {m : Lv} {s : Ev0} {h h1 : Hh} {xs : List PV} (e : m s h = .ok xs h1) : sRet (eNew m) s h = .rt (.ref h1.length) (h1 ++ [.lst xs]) := by
  unfold sRet eNew
  rw [e]
  rfl
theorem ret_val {m : Ev} {s : Ev0} {h h1 : Hh} {v : PV} (e : m s h = .ok v h1) : sRet m s h = .rt v h1 := by
  unfold sRet
  rw [e]
  rfl
theorem asg_val {m : Ev} {i : Nat} {s : Ev0} {h h1 : Hh} {v : PV} (e : m s h = .ok v h1) : sAsg m (gN i) s h = .nx (s.set i (some v)) h1 := by
  unfold sAsg
  rw [e]
  rfl
/-! a loop's step, told by its outcome -/
section
variable {t : Tgt} {b : Sv} {x : PV} {s s1 s2 : Ev0} {h h1 h2 : Hh} {N : Ev0 → Hh → Prop} {Ex : SRes → Prop}
theorem has_nx (e2 : b s1 h1 = .nx s2 h2) (q : N s2 h2) (e1 : t x s h = .ok s1 h1 := by rfl) : (t x s h).Has fun s1 h1 => SOk N Ex (b s1 h1) := by
  rw [e1]
  show SOk N Ex (b s1 h1)
  rw [e2]
  exact q
theorem has_rt {v : PV} (e2 : b s1 h1 = .rt v h2) (q : Ex (.rt v h2)) (e1 : t x s h = .ok s1 h1 := by rfl) : (t x s h).Has fun s1 h1 => SOk N Ex (b s1 h1) := by
  rw [e1]
  show SOk N Ex (b s1 h1)
  rw [e2]
  exact q
theorem has_bk (e2 : b s1 h1 = .bk s2 h2) (q : Ex (.nx s2 h2)) (e1 : t x s h = .ok s1 h1 := by rfl) : (t x s h).Has fun s1 h1 => SOk N Ex (b s1 h1) := by
  rw [e1]
  show SOk N Ex (b s1 h1)
  rw [e2]
  exact q
variable {c : Tv} {Dn : Ev0 → Hh → Prop}
theorem wh_nx (e1 : c s h = .ok true h1) (e2 : b s h1 = .nx s2 h2) (q : N s2 h2) : (c s h).Has fun k h1 => if k = true then SOk N Ex (b s h1) else Dn s h1 := by
  rw [e1]
  show SOk N Ex (b s h1)
  rw [e2]
  exact q
theorem wh_rt {v : PV} (e1 : c s h = .ok true h1) (e2 : b s h1 = .rt v h2) (q : Ex (.rt v h2)) : (c s h).Has fun k h1 => if k = true then SOk N Ex (b s h1) else Dn s h1 := by
  rw [e1]
  show SOk N Ex (b s h1)
  rw [e2]
  exact q
theorem wh_no (e1 : c s h = .ok false h1) (q : Dn s h1) : (c s h).Has fun k h1 => if k = true then SOk N Ex (b s h1) else Dn s h1 := by
  rw [e1]
  exact q
end
section
variable {bd : Bd} {c : Tv} {e : Ev} {x : PV} {s s1 : Ev0} {h h1 h2 : Hh} {I : Nat → List PV → Hh → Prop} {i : Nat} {acc : List PV}
theorem cp_y {v : PV} (e1 : c s1 h = .ok true h1) (e2 : e s1 h1 = .ok v h2) (hz : acc.length < 16777216) (q : I (i + 1) (acc ++ [v]) h2) (e0 : bd x s = some s1 := by rfl) :
    ∃ s1, bd x s = some s1 ∧ (c s1 h).Has fun k h1 => if k = true then (e s1 h1).Has fun v h2 => acc.length < sizeLine ∧ I (i + 1) (acc ++ [v]) h2 else I (i + 1) acc h1 := by
  refine ⟨s1, e0, ?_⟩
  rw [e1]
  show (e s1 h1).Has _
  rw [e2]
  exact ⟨(size_lt _).mpr hz, q⟩
theorem cp_n (e1 : c s1 h = .ok false h1) (q : I (i + 1) acc h1) (e0 : bd x s = some s1 := by rfl) :
    ∃ s1, bd x s = some s1 ∧ (c s1 h).Has fun k h1 => if k = true then (e s1 h1).Has fun v h2 => acc.length < sizeLine ∧ I (i + 1) (acc ++ [v]) h2 else I (i + 1) acc h1 := by
  refine ⟨s1, e0, ?_⟩
  rw [e1]
  exact q
end
/-- the hand's cell -/
def hdC (c : Nat) (p b s n : Int) : Cell := .lst [.ref c, .int p, .int b, .int s, .int n]
/-- a hand at place i -/
def Hand (i : Nat) (h : Hh) : Prop := ∃ (c : Nat) (p b s n : Int) (ns : List Int), h[i]? = some (hdC c p b s n) ∧ h[c]? = some (.lst (ns.map PV.int)) ∧ c ≠ i ∧ 0 ≤ p
/-- the hand at i was drawn from -/
def Drawn (i : Nat) (h h' : Hh) : Prop := ∃ (c : Nat) (p b s n p' b' s' n' : Int), h[i]? = some (hdC c p b s n) ∧ 0 ≤ p' ∧ h' = h.set i (hdC c p' b' s' n')
section
variable {i : Nat} {h h' h1 h2 : Hh}
theorem Hand.lt (a : Hand i h) : i < h.length := by
  obtain ⟨c, p, b, s, n, ns, e, _⟩ := a
  exact (List.getElem?_eq_some_iff.mp e).1
theorem Drawn.lt (d : Drawn i h h') : i < h.length := by
  obtain ⟨c, p, b, s, n, _, _, _, _, e, _⟩ := d
  exact (List.getElem?_eq_some_iff.mp e).1
theorem Drawn.len (d : Drawn i h h') : h'.length = h.length := by
  obtain ⟨c, p, b, s, n, _, _, _, _, e, _, rfl⟩ := d
  exact List.length_set
theorem set_same {h : Hh} {i : Nat} {c : Cell} (e : h[i]? = some c) : h.set i c = h := by
  apply List.ext_getElem?
  intro j
  by_cases q : i = j
  · subst q
    rw [List.getElem?_set_self (List.getElem?_eq_some_iff.mp e).1, e]
  · rw [List.getElem?_set_ne q]
theorem Drawn.refl (a : Hand i h) : Drawn i h h := by
  obtain ⟨c, p, b, s, n, ns, e, _, _, hp⟩ := a
  exact ⟨c, p, b, s, n, p, b, s, n, e, hp, (set_same e).symm⟩
theorem Drawn.trans (d : Drawn i h h1) (d2 : Drawn i h1 h2) : Drawn i h h2 := by
  have hl := d.lt
  obtain ⟨c, p, b, s, n, p', b', s', n', e, hp, rfl⟩ := d
  obtain ⟨c2, p2, b2, s2, n2, p3, b3, s3, n3, e2, hp2, rfl⟩ := d2
  rw [List.getElem?_set_self hl] at e2
  have : c2 = c := by
    injection e2 with e2
    injection e2 with e2
    injection e2 with e2 _
    injection e2 with e2
    exact e2.symm
  subst this
  exact ⟨c2, p, b, s, n, p3, b3, s3, n3, e, hp2, by rw [List.set_set]⟩
theorem Drawn.ne (d : Drawn i h h') {j : Nat} (hj : j ≠ i) : h'[j]? = h[j]? := by
  obtain ⟨c, p, b, s, n, _, _, _, _, e, _, rfl⟩ := d
  exact List.getElem?_set_ne (Ne.symm hj)
theorem Drawn.hand (a : Hand i h) (d : Drawn i h h') : Hand i h' := by
  have hl := d.lt
  have hn : ∀ {j : Nat}, j ≠ i → h'[j]? = h[j]? := fun hj => d.ne hj
  obtain ⟨c, p, b, s, n, ns, e1, e2, hc, _⟩ := a
  obtain ⟨c', _, _, _, _, p', b', s', n', e, hp, rfl⟩ := d
  rw [e1] at e
  have : c' = c := by
    injection e with e2
    injection e2 with e2
    injection e2 with e2 _
    injection e2 with e2
    exact e2.symm
  subst this
  exact ⟨c', p', b', s', n', ns, List.getElem?_set_self hl, by rw [hn hc, e2], hc, hp⟩
theorem Hand.app (a : Hand i h) (g : Hh) : Hand i (h ++ g) := by
  obtain ⟨c, p, b, s, n, ns, e1, e2, hc, hp⟩ := a
  exact ⟨c, p, b, s, n, ns, getO g e1, getO g e2, hc, hp⟩
theorem Drawn.split {g : Hh} (hi : i < h.length) (d : Drawn i (h ++ g) h') : ∃ h2, h' = h2 ++ g ∧ Drawn i h h2 := by
  obtain ⟨c, p, b, s, n, p', b', s', n', e, hp, rfl⟩ := d
  rw [List.getElem?_append_left hi] at e
  exact ⟨h.set i (hdC c p' b' s' n'), by rw [List.set_append_left _ _ hi], c, p, b, s, n, p', b', s', n', e, hp, rfl⟩
theorem Drawn.cl (hc : clH h) (d : Drawn i h h') : ∀ c ∈ h', clC h.length c := by
  have hl := d.lt
  obtain ⟨c, p, b, s, n, p', b', s', n', e, hp, rfl⟩ := d
  intro x hx
  rcases List.mem_or_eq_of_mem_set hx with hx | rfl
  · exact hc x hx
  · have := hc _ (List.mem_of_getElem? e)
    exact this
theorem Drawn.clH (hc : clH h) (d : Drawn i h h') : clH h' := by
  intro c hx
  rw [d.len]
  exact d.cl hc c hx
/-- what was new is garbage -/
theorem gc_draw {g : Hh} {v : PV} (hc : U.clH h) (d : Drawn i h h') (hv : clV h.length v) : GcR h (.rt v (h' ++ g)) (.ok v h') :=
  .inl ⟨_, _, rfl, Cp.cut d.len (d.cl hc) hv⟩
/-- a new cell stays -/
theorem gc_drawm {g : Hh} {c : Cell} (m : Nat) (hc : U.clH h) (d : Drawn i h h') (hg : g[m]? = some c) (cc : clC h.length c) : GcR h (.rt (.ref (h.length + m)) (h' ++ g)) (.ok (.ref h.length) (h' ++ [c])) :=
  .inl ⟨_, _, rfl, Cp.one d.len (d.cl hc) hg cc⟩
end
/-! ### the hand's cell is read and written -/
section
variable {i c : Nat} {p b s n : Int} {h : Hh}
theorem hd0 (e : h[i]? = some (hdC c p b s n)) : fIx (.ref i) (.int 0) h = .ok (.ref c) h := fIx_lst e rfl
theorem hd1 (e : h[i]? = some (hdC c p b s n)) : fIx (.ref i) (.int 1) h = .ok (.int p) h := fIx_lst e rfl
theorem hd2 (e : h[i]? = some (hdC c p b s n)) : fIx (.ref i) (.int 2) h = .ok (.int b) h := fIx_lst e rfl
theorem hd3 (e : h[i]? = some (hdC c p b s n)) : fIx (.ref i) (.int 3) h = .ok (.int s) h := fIx_lst e rfl
theorem hd4 (e : h[i]? = some (hdC c p b s n)) : fIx (.ref i) (.int 4) h = .ok (.int n) h := fIx_lst e rfl
theorem hs1 (e : h[i]? = some (hdC c p b s n)) (v : Int) : fSet (.ref i) (.int 1) (.int v) h = some (h.set i (hdC c v b s n)) := fSet_nat (k := 1) e (by simp)
theorem hs2 (e : h[i]? = some (hdC c p b s n)) (v : Int) : fSet (.ref i) (.int 2) (.int v) h = some (h.set i (hdC c p v s n)) := fSet_nat (k := 2) e (by simp)
theorem hs3 (e : h[i]? = some (hdC c p b s n)) (v : Int) : fSet (.ref i) (.int 3) (.int v) h = some (h.set i (hdC c p b v n)) := fSet_nat (k := 3) e (by simp)
theorem hs4 (e : h[i]? = some (hdC c p b s n)) (v : Int) : fSet (.ref i) (.int 4) (.int v) h = some (h.set i (hdC c p b s v)) := fSet_nat (k := 4) e (by simp)
end
theorem fMul_r {i j : Int} {h : Hh} (h1 : -18446744073709551616 < j) (h2 : j < 18446744073709551616) : fMul (.int i) (.int j) h = .ok (.int (i * j)) h := by
  unfold fMul
  exact if_pos (Or.inr ⟨h1, h2⟩)
theorem fMul_l {i j : Int} {h : Hh} (h1 : -18446744073709551616 < i) (h2 : i < 18446744073709551616) : fMul (.int i) (.int j) h = .ok (.int (i * j)) h := by
  unfold fMul
  exact if_pos (Or.inl ⟨h1, h2⟩)
theorem fDiv_ok {i j : Int} {h : Hh} (h1 : 0 < j) (h2 : j < 1073741824) : fDiv (.int i) (.int j) h = .ok (.int (i / j)) h := by
  unfold fDiv fII
  exact if_pos ⟨h1, h2⟩
theorem fMod_ok {i j : Int} {h : Hh} (h1 : 0 < j) : fMod (.int i) (.int j) h = .ok (.int (i % j)) h := by
  unfold fMod fII
  exact if_pos h1
theorem fPow_18 {h : Hh} : fPow (.int 10) (.int 18) h = .ok (.int 1000000000000000000) h := rfl
end U
set_option Elab.async false
set_option linter.all false
set_option maxRecDepth 100000
set_option maxHeartbeats 4000000
/-! The generic layer, part 34: lefts and ends of kinds; dicts of names. -/
namespace U
open PySem PySem.Spec PyProof.Rows L2
variable [Tab] [InsOk]
def leftsP : PV → List PV
  | .tup [a, b] => a :: leftsP b
  | _ => []
def endP : PV → PV
  | .tup [a, b] => endP b
  | v => v
theorem kindP_cases {v : PV} (e : kindP v = true) : (∃ n, v = .int n ∧ 0 ≤ n ∧ n ≤ 25) ∨ ∃ a b, v = .tup [a, b] ∧ kindP a = true ∧ kindP b = true := by
  cases v with
  | int n => simp [kindP] at e; exact .inl ⟨n, rfl, e⟩
  | tup xs =>
    simp [kindP] at e
    match xs, e with
    | [a, b], e => simp [kindPs] at e; exact .inr ⟨a, b, rfl, e⟩
  | _ => simp [kindP] at e
@[simp] theorem leftsP_int (n : Int) : leftsP (.int n) = [] := by simp [leftsP]
@[simp] theorem leftsP_pair (a b : PV) : leftsP (.tup [a, b]) = a :: leftsP b := by rw [leftsP]
@[simp] theorem endP_int (n : Int) : endP (.int n) = .int n := by simp [endP]
@[simp] theorem endP_pair (a b : PV) : endP (.tup [a, b]) = endP b := by rw [endP]
theorem szP_pair (a b : PV) : szP (.tup [a, b]) = szP a + szP b + 1 := by simp [szP, szPs]
/-- a kind's parts -/
theorem lefts_ok : ∀ (n : Nat) (v : PV), szP v ≤ n → kindP v = true → (∃ e, endP v = .int e ∧ 0 ≤ e ∧ e ≤ 25) ∧ (leftsP v).length ≤ szP v ∧ (∀ a ∈ leftsP v, kindP a = true) := by
  intro n
  induction n with
  | zero => intro v hn; have := szP_pos v; omega
  | succ n ih =>
    intro v hn hk
    rcases kindP_cases hk with ⟨m, rfl, h1, h2⟩ | ⟨a, b, rfl, ha, hb⟩
    · simp
      exact ⟨h1, h2⟩
    · rw [szP_pair] at hn ⊢
      obtain ⟨i1, i2, i3⟩ := ih b (by omega) hb
      simp
      exact ⟨i1, by omega, ha, i3⟩
theorem lefts_dok : ∀ (d : Nat) (v : PV), kindP v = true → dOk v d = true → (leftsP v).length ≤ d ∧ ∀ a ∈ leftsP v, dOk a (d - 1) = true ∧ 0 < d := by
  intro d
  induction d with
  | zero =>
    intro v hk hd
    rcases kindP_cases hk with ⟨m, rfl, h1, h2⟩ | ⟨a, b, rfl, ha, hb⟩
    · simp
    · simp [dOk] at hd
  | succ d ih =>
    intro v hk hd
    rcases kindP_cases hk with ⟨m, rfl, h1, h2⟩ | ⟨a, b, rfl, ha, hb⟩
    · simp
    · simp [dOk, dOks] at hd
      obtain ⟨i1, i2⟩ := ih b hb hd.2
      simp
      exact ⟨i1, hd.1, fun x hx => dOk_mono (by omega) (i2 x hx).1⟩
theorem szP_dok : ∀ (d : Nat) (v : PV), kindP v = true → dOk v d = true → szP v + 1 ≤ 2 ^ (d + 1) := by
  intro d
  induction d with
  | zero =>
    intro v hk hd
    rcases kindP_cases hk with ⟨m, rfl, h1, h2⟩ | ⟨a, b, rfl, ha, hb⟩
    · simp [szP]
    · simp [dOk] at hd
  | succ d ih =>
    intro v hk hd
    rcases kindP_cases hk with ⟨m, rfl, h1, h2⟩ | ⟨a, b, rfl, ha, hb⟩
    · simp [szP]
      have := Nat.one_le_two_pow (n := d + 1)
      rw [Nat.pow_succ]; omega
    · simp [dOk, dOks] at hd
      have e1 := ih a ha hd.1
      have e2 := ih b hb hd.2
      rw [szP_pair, Nat.pow_succ]
      omega
mutual
theorem kind_okD (h : Hh) : ∀ (v : PV), kindP v = true → okD v h = true
  | .int _, _ => rfl
  | .tup xs, e => by
    simp only [kindP, Bool.and_eq_true] at e
    exact kinds_okD h xs e.1
  | .non, e => by simp [kindP] at e
  | .bl _, e => by simp [kindP] at e
  | .str _, e => by simp [kindP] at e
  | .ref _, e => by simp [kindP] at e
  | .scr _, e => by simp [kindP] at e
theorem kinds_okD (h : Hh) : ∀ (v : List PV), kindPs v = true → okDs v h = true
  | [], _ => rfl
  | x :: xs, e => by
    simp only [kindPs, Bool.and_eq_true] at e
    simp only [okDs, Bool.and_eq_true]
    exact ⟨kind_okD h x e.1, kinds_okD h xs e.2⟩
end
mutual
theorem kind_okX : ∀ (v : PV), kindP v = true → okX v = true
  | .int _, _ => rfl
  | .tup xs, e => by
    simp only [kindP, Bool.and_eq_true] at e
    exact kinds_okX xs e.1
  | .non, e => by simp [kindP] at e
  | .bl _, e => by simp [kindP] at e
  | .str _, e => by simp [kindP] at e
  | .ref _, e => by simp [kindP] at e
  | .scr _, e => by simp [kindP] at e
theorem kinds_okX : ∀ (v : List PV), kindPs v = true → okXs v = true
  | [], _ => rfl
  | x :: xs, e => by
    simp only [kindPs, Bool.and_eq_true] at e
    simp only [okXs, Bool.and_eq_true]
    exact ⟨kind_okX x e.1, kinds_okX xs e.2⟩
end
mutual
theorem kind_cl (n : Nat) : ∀ (v : PV), kindP v = true → clV n v
  | .int _, _ => trivial
  | .tup xs, e => by
    simp only [kindP, Bool.and_eq_true] at e
    exact kinds_cl n xs e.1
  | .non, e => by simp [kindP] at e
  | .bl _, e => by simp [kindP] at e
  | .str _, e => by simp [kindP] at e
  | .ref _, e => by simp [kindP] at e
  | .scr _, e => by simp [kindP] at e
theorem kinds_cl (n : Nat) : ∀ (v : List PV), kindPs v = true → clVs n v
  | [], _ => trivial
  | x :: xs, e => by
    simp only [kindPs, Bool.and_eq_true] at e
    exact ⟨kind_cl n x e.1, kinds_cl n xs e.2⟩
end
theorem small_ok {c : Nat} (e : small c = true) : c < 0x110000 := by
  simp [small] at e
  omega
theorem name_okS {x : List Nat} (e : nameL x = true) : okS x = true ∧ x.length ≤ 8 := by
  simp [nameL] at e
  refine ⟨?_, e.1.2⟩
  unfold okS
  rw [List.all_eq_true]
  intro c hc
  simpa using small_ok (e.2 c hc)
/-! dicts from names to kinds -/
def KDd (d : Nat) (kvs : List (PKey × PV)) : Prop := ∀ kv ∈ kvs, ∃ x, kv.1 = .inr x ∧ nameL x = true ∧ kindP kv.2 = true ∧ dOk kv.2 d = true
theorem putP_mem2 {kvs : List (PKey × PV)} {k : PKey} {v : PV} {kv : PKey × PV} (h : kv ∈ putP kvs k v) : kv = (k, v) ∨ kv ∈ kvs := by
  unfold putP at h
  split at h
  · obtain ⟨z, hz, rfl⟩ := List.mem_map.mp h
    split
    · rename_i q; exact .inl (by rw [q])
    · exact .inr hz
  · rcases List.mem_append.mp h with h | h
    · exact .inr h
    · simp at h; exact .inl h
theorem KDd.put {d : Nat} {kvs : List (PKey × PV)} (a : KDd d kvs) {x : List Nat} {v : PV} (h1 : nameL x = true) (h2 : kindP v = true) (h3 : dOk v d = true) : KDd d (putP kvs (.inr x) v) := fun kv h => by
  rcases putP_mem2 h with rfl | h
  · exact ⟨x, rfl, h1, h2, h3⟩
  · exact a kv h
theorem valP_mem {kvs : List (PKey × PV)} {k : PKey} {v : PV} (e : valP kvs k = some v) : (k, v) ∈ kvs := by
  unfold valP at e
  cases q : kvs.find? fun kv => decide (kv.1 = k) with
  | none => rw [q] at e; cases e
  | some kv =>
    rw [q] at e
    cases e
    have h1 := List.mem_of_find?_eq_some q
    have h2 := List.find?_some q
    simp at h2
    rw [← h2]
    exact h1
theorem mem_valP {kvs : List (PKey × PV)} {kv : PKey × PV} (h : kv ∈ kvs) : ∃ v, valP kvs kv.1 = some v := by
  unfold valP
  cases q : kvs.find? fun z => decide (z.1 = kv.1) with
  | none =>
    have := List.find?_eq_none.mp q kv h
    simp at this
  | some z => exact ⟨_, rfl⟩
/-- the sorted keys of a dict of names -/
theorem sort_names {kvs : List (PKey × PV)} (a : ∀ kv ∈ kvs, ∃ x, kv.1 = .inr x) : ∃ xs : List (List Nat), sortV (kvs.map fun kv => keyP kv.1) = some (xs.map PV.str) ∧ xs.length = kvs.length ∧ ∀ x ∈ xs, ∃ v, (.inr x, v) ∈ kvs := by
  have e : ∃ ys : List (List Nat), (kvs.map fun kv => keyP kv.1) = ys.map PV.str ∧ ∀ x ∈ ys, ∃ v, (.inr x, v) ∈ kvs := by
    induction kvs with
    | nil => exact ⟨[], rfl, by simp⟩
    | cons kv r ih =>
      obtain ⟨ys, e1, e2⟩ := ih fun z hz => a z (List.mem_cons_of_mem _ hz)
      obtain ⟨x, hx⟩ := a kv List.mem_cons_self
      refine ⟨x :: ys, by rw [List.map_cons, e1, List.map_cons, hx]; rfl, fun y hy => ?_⟩
      rcases List.mem_cons.mp hy with rfl | hy
      · exact ⟨kv.2, by rw [← hx]; exact List.mem_cons_self⟩
      · obtain ⟨v, hv⟩ := e2 y hy
        exact ⟨v, List.mem_cons_of_mem _ hv⟩
  obtain ⟨ys, e1, e2⟩ := e
  have hl : ys.length = kvs.length := by
    have := congrArg List.length e1
    simpa using this.symm
  cases ys with
  | nil =>
    refine ⟨[], ?_, by simpa using hl, by simp⟩
    rw [e1]
    simp [sortV, intsP, sortI]
  | cons y r =>
    refine ⟨sortC (y :: r), ?_, by rw [(sortC_perm _).length_eq, hl], fun x hx => e2 x ((sortC_perm _).mem_iff.mp hx)⟩
    rw [e1]
    unfold sortV
    have : intsP ((y :: r).map PV.str) = none := rfl
    rw [this, strsP_map]
theorem fSorted_dic {j : Nat} {kvs : List (PKey × PV)} {h : Hh} {xs : List (List Nat)} (e : h[j]? = some (.dic kvs)) (hz : kvs.length < 64) (hs : sortV (kvs.map fun kv => keyP kv.1) = some (xs.map PV.str)) : fSorted [.val (.ref j)] h = .ok (xs.map PV.str) h := by
  unfold fSorted
  simp [lstA_dic e, e, hz, hs]
theorem fAdd_tup {xs ys : List PV} {h : Hh} (hz : xs.length + ys.length ≤ 16777216) : fAdd (.tup xs) (.tup ys) h = .ok (.tup (xs ++ ys)) h := by
  unfold fAdd
  exact if_pos hz
theorem fDict_dic {j : Nat} {kvs : List (PKey × PV)} {h : Hh} (e : h[j]? = some (.dic kvs)) : fDict [.val (.ref j)] h = .ok (.ref h.length) (h ++ [.dic kvs]) := by
  unfold fDict
  simp [seqA_dic e, e]
theorem fDict_tup {xs : List PV} {kvs : List (PKey × PV)} {h : Hh} (e : pairsP xs = some kvs) : fDict [.val (.tup xs)] h = .ok (.ref h.length) (h ++ [.dic (mergeP kvs)]) := by
  unfold fDict
  simp [e]
/-! trees of drawn kinds -/
def Tr.fine (d : Nat) : Tr → Prop
  | .nm x => nameL x = true
  | .ap f a => f.fine d ∧ a.fine d
  | .lam x k b => nameL x = true ∧ kindP k = true ∧ dOk k d = true ∧ b.fine d
theorem Tr.fine.ok {d : Nat} (hd : d ≤ 60) : ∀ {t : Tr}, t.fine d → t.ok
  | .nm _, h => h
  | .ap _ _, h => ⟨Tr.fine.ok hd h.1, Tr.fine.ok hd h.2⟩
  | .lam _ _ _, h => ⟨h.1, h.2.1, dOk_mono hd h.2.2.1, Tr.fine.ok hd h.2.2.2⟩
def Tr.lams : List (List Nat × PV) → Tr → Tr
  | [], t => t
  | (x, k) :: r, t => .lam x k (lams r t)
theorem Tr.lams_code : ∀ (ts : List (List Nat × PV)) (t : Tr), (Tr.lams ts t).code = ts.map (fun p => .tup [.str p.1, p.2]) ++ t.code
  | [], _ => rfl
  | (x, k) :: r, t => by simp [Tr.lams, Tr.code, Tr.lams_code r t]
theorem Tr.lams_sz : ∀ (ts : List (List Nat × PV)) (t : Tr), (Tr.lams ts t).sz = ts.length + t.sz
  | [], _ => by simp [Tr.lams]
  | (x, k) :: r, t => by simp [Tr.lams, Tr.sz, Tr.lams_sz r t]; omega
theorem Tr.lams_fine {d : Nat} : ∀ {ts : List (List Nat × PV)} {t : Tr}, (∀ p ∈ ts, nameL p.1 = true ∧ kindP p.2 = true ∧ dOk p.2 d = true) → t.fine d → (Tr.lams ts t).fine d
  | [], _, _, h => h
  | (x, k) :: r, t, h, ht => ⟨(h _ List.mem_cons_self).1, (h _ List.mem_cons_self).2.1, (h _ List.mem_cons_self).2.2, Tr.lams_fine (fun p hp => h p (List.mem_cons_of_mem _ hp)) ht⟩
/-! plain facts of a tree's words -/
theorem Tr.code_word : ∀ {t : Tr} {w : PV}, t.ok → w ∈ t.code → wordP w = true
  | .nm x, w, h, m => by
    simp [Tr.code] at m; subst m
    have : nameL x = true := h
    simp [wordP, this]
  | .ap f a, w, h, m => by
    simp [Tr.code] at m
    rcases m with rfl | m | m
    · rfl
    · exact Tr.code_word h.1 m
    · exact Tr.code_word h.2 m
  | .lam x k b, w, h, m => by
    simp [Tr.code] at m
    rcases m with rfl | m
    · simp [wordP, nameP, h.1, h.2.1]
    · exact Tr.code_word h.2.2.2 m
theorem Tr.code_dOk : ∀ {t : Tr} {w : PV}, t.ok → w ∈ t.code → dOk w 61 = true
  | .nm x, w, h, m => by
    simp [Tr.code] at m; subst m
    exact (name_okS h).1
  | .ap f a, w, h, m => by
    simp [Tr.code] at m
    rcases m with rfl | m | m
    · rfl
    · exact Tr.code_dOk h.1 m
    · exact Tr.code_dOk h.2 m
  | .lam x k b, w, h, m => by
    simp [Tr.code] at m
    rcases m with rfl | m
    · simp only [dOk, dOks, Bool.and_true, Bool.and_eq_true]
      exact ⟨(name_okS h.1).1, h.2.2.1⟩
    · exact Tr.code_dOk h.2.2.2 m
theorem Tr.code_okD (hp : Hh) : ∀ {t : Tr} {w : PV}, t.ok → w ∈ t.code → okD w hp = true
  | .nm x, w, h, m => by
    simp [Tr.code] at m; subst m
    rfl
  | .ap f a, w, h, m => by
    simp [Tr.code] at m
    rcases m with rfl | m | m
    · rfl
    · exact Tr.code_okD hp h.1 m
    · exact Tr.code_okD hp h.2 m
  | .lam x k b, w, h, m => by
    simp [Tr.code] at m
    rcases m with rfl | m
    · simp [okDs, kind_okD hp k h.2.1]
    · exact Tr.code_okD hp h.2.2.2 m
theorem Tr.code_okX : ∀ {t : Tr} {w : PV}, t.ok → w ∈ t.code → okX w = true
  | .nm x, w, h, m => by
    simp [Tr.code] at m; subst m
    have := name_okS h
    simp [okX, this.1]; omega
  | .ap f a, w, h, m => by
    simp [Tr.code] at m
    rcases m with rfl | m | m
    · simp [okX]; rfl
    · exact Tr.code_okX h.1 m
    · exact Tr.code_okX h.2 m
  | .lam x k b, w, h, m => by
    simp [Tr.code] at m
    rcases m with rfl | m
    · have := name_okS h.1
      simp [okX, okXs, this.1, kind_okX k h.2.1]; omega
    · exact Tr.code_okX h.2.2.2 m
theorem Tr.code_sz {d : Nat} : ∀ {t : Tr}, t.fine d → szPs t.code ≤ t.sz * 2 ^ (d + 2)
  | .nm x, h => by
    simp [Tr.code, szPs, szP, Tr.sz]
    exact Nat.one_le_two_pow
  | .ap f a, h => by
    have e1 := Tr.code_sz h.1
    have e2 := Tr.code_sz h.2
    have : 1 ≤ 2 ^ (d + 2) := Nat.one_le_two_pow
    simp only [Tr.code, szPs, szPs_app, szP, Tr.sz, Nat.add_mul]
    omega
  | .lam x k b, h => by
    have e1 := Tr.code_sz h.2.2.2
    have e2 := szP_dok d k h.2.1 h.2.2.1
    have : 1 ≤ 2 ^ (d + 1) := Nat.one_le_two_pow
    have e3 : 2 ^ (d + 2) = 2 ^ (d + 1) * 2 := Nat.pow_succ 2 (d + 1)
    simp only [Tr.code, szPs, szP, Tr.sz, Nat.add_mul]
    omega
theorem cntP_code : ∀ (t : Tr) (ws : List PV) (m : Int), t.ok → 0 ≤ m → cntP ws = some m → cntP (t.code ++ ws) = some (m + 1)
  | .nm x, ws, m, h, hm, e => by
    have hu : isUse (.str x) = false := by
      have := use_nn h
      simp [isUse, this]
    simp only [Tr.code, List.cons_append, List.nil_append, cntP, e]
    simp [hu]
    omega
  | .ap f a, ws, m, h, hm, e => by
    have e1 := cntP_code a ws m h.2 hm e
    have e2 := cntP_code f (a.code ++ ws) (m + 1) h.1 (by omega) e1
    simp only [Tr.code, List.cons_append, List.append_assoc, cntP, e2]
    simp [isUse]
    omega
  | .lam x k b, ws, m, h, hm, e => by
    have e1 := cntP_code b ws m h.2.2.2 hm e
    simp only [Tr.code, List.cons_append, cntP, e1]
    simp
    omega
theorem whole_code {t : Tr} (h : t.ok) : wholeP t.code = true := by
  have := cntP_code t [] 0 h (by omega) rfl
  simp at this
  simp [wholeP, this]
theorem spans_code {t : Tr} (h : t.ok) : spansP t.code.length t.code = some (t.ends 0, [t.sz]) := by
  have := spans_tree (n := t.code.length) t [] 0 [] [] h (by simp [t.len]) rfl
  simpa using this
theorem takers_code {t : Tr} (h : t.ok) : takersP 0 t.code (t.ends 0) [] = t.own 0 [] := by
  obtain ⟨O, h1, _⟩ := takers_tree t [] [] 0 [] h (by simp [tkPop])
  simp [tkPop, envOf] at h1
  rw [h1]
  cases O <;> simp [takersP]
end U
set_option Elab.async false
set_option linter.all false
set_option maxRecDepth 100000
set_option maxHeartbeats 4000000
/-! The generic layer, part 35: counts of names, told by keys. -/
namespace U
open PySem PySem.Spec PyProof.Rows L2
variable [Tab] [InsOk]
/-! list.count of plain data -/
mutual
theorem dat_any (f : Nat → Option PyData) : ∀ (v : PV) (n : Nat), dOk v n = true → datW f v = some (toD v)
  | .non, _, _ => rfl
  | .bl _, _, _ => rfl
  | .int _, _, _ => rfl
  | .str _, _, _ => rfl
  | .tup xs, 0, h => by simp [dOk] at h
  | .tup xs, n + 1, h => by
    simp only [dOk] at h
    simp only [datW, dats_any f xs n h, toD]
  | .ref _, 0, h => by simp [dOk] at h
  | .ref _, n + 1, h => by simp [dOk] at h
  | .scr _, 0, h => by simp [dOk] at h
  | .scr _, n + 1, h => by simp [dOk] at h
theorem dats_any (f : Nat → Option PyData) : ∀ (v : List PV) (n : Nat), dOks v n = true → datsW f v = some (toDs v)
  | [], _, _ => rfl
  | x :: xs, n, h => by
    simp only [dOks, Bool.and_eq_true] at h
    simp only [datsW, dat_any f x n h.1, dats_any f xs n h.2, toDs]
end
theorem toDs_map : ∀ (xs : List PV), toDs xs = xs.map toD
  | [] => rfl
  | x :: xs => by simp [toDs, toDs_map xs]
theorem mCount_at {j : Nat} {xs : List PV} {u : PV} {h : Hh} (e : h[j]? = some (.lst xs)) (hx : dOks xs 63 = true) (hu : dOk u 64 = true) : mCount (.ref j) [.val u] h = .ok (.int (xs.countP fun z => eqP z u : Nat)) h := by
  have e1 : dat h (.ref j) = some (.list (toDs xs)) := by
    show refD h 64 j = _
    unfold refD
    simp only [e, dats_any (refD h 63) xs 63 hx]
  have e2 : dat h u = some (toD u) := dat_any _ u 64 hu
  obtain ⟨hdp, b, c⟩ := dats_pure h xs 63 hx
  clear hdp
  obtain ⟨_, b2, c2⟩ := dat_pure h u 64 hu
  unfold mCount
  simp only [e1, e2]
  have s1 : SeqAt.shaped (.list (toDs xs)) = true := by
    unfold SeqAt.shaped
    have : (PyData.list (toDs xs)).canLay0 = true := b
    rw [this]
    have : (PyData.list (toDs xs)).depth ≤ 64 := by
      simp only [PyData.depth]; omega
    simp [this]
  have s2 : SeqAt.shaped (toD u) = true := by
    unfold SeqAt.shaped
    rw [b2]
    simp [c2]
  refine (if_pos ⟨s1, s2⟩).trans ?_
  congr 3
  rw [toDs_map, List.countP_map]
  have hx' := dOks_all.mp hx
  clear e e1 b c s1 hx
  induction xs with
  | nil => rfl
  | cons x r ih =>
    rw [List.countP_cons, List.countP_cons, ih fun z hz => hx' z (List.mem_cons_of_mem _ hz)]
    simp only [Function.comp_apply, eqv_toD x u 63 64 (hx' x List.mem_cons_self) hu]
/-! dicts by their keys -/
def KN (kvs : List (PKey × PV)) : Prop := (kvs.map (·.1)).Nodup
theorem KN.nil : KN [] := List.nodup_nil
theorem any_key {kvs : List (PKey × PV)} {k : PKey} : (kvs.any fun kv => decide (kv.1 = k)) = true ↔ k ∈ kvs.map (·.1) := by
  rw [List.any_eq_true, List.mem_map]
  constructor
  · rintro ⟨kv, h1, h2⟩
    exact ⟨kv, h1, of_decide_eq_true h2⟩
  · rintro ⟨kv, h1, h2⟩
    exact ⟨kv, h1, decide_eq_true h2⟩
theorem KN.put {kvs : List (PKey × PV)} (a : KN kvs) (k : PKey) (v : PV) : KN (putP kvs k v) := by
  unfold putP KN
  split
  · have : (kvs.map fun kv => if kv.1 = k then (kv.1, v) else kv).map (·.1) = kvs.map (·.1) := by
      rw [List.map_map]
      apply List.map_congr_left
      intro kv _
      simp only [Function.comp_apply]
      split <;> rfl
    rw [this]
    exact a
  · rename_i q
    rw [any_key] at q
    rw [List.map_append]
    refine List.nodup_append.mpr ⟨a, by simp, fun x hx y hy => ?_⟩
    simp at hy
    subst hy
    intro e
    subst e
    exact q hx
theorem KN.val {kvs : List (PKey × PV)} (a : KN kvs) {k : PKey} {v : PV} (h : (k, v) ∈ kvs) : valP kvs k = some v := by
  obtain ⟨w, e⟩ := mem_valP h
  have hm := valP_mem e
  simp only at e hm
  have : w = v := by
    unfold KN at a
    clear e
    induction kvs with
    | nil => simp at h
    | cons z r ih =>
      rw [List.map_cons, List.nodup_cons] at a
      rcases List.mem_cons.mp h with e1 | h1
      · rcases List.mem_cons.mp hm with q | q
        · rw [← e1] at q; cases q; rfl
        · rw [← e1] at a; exact absurd (List.mem_map_of_mem (f := (·.1)) q) a.1
      · rcases List.mem_cons.mp hm with e2 | q
        · rw [← e2] at a; exact absurd (List.mem_map_of_mem (f := (·.1)) h1) a.1
        · exact ih a.2 h1 q
  rw [e, this]
theorem nodup_len {α : Type} [DecidableEq α] : ∀ {xs ys : List α}, xs.Nodup → (∀ x ∈ xs, x ∈ ys) → xs.length ≤ ys.length
  | [], _, _, _ => Nat.zero_le _
  | x :: xs, ys, h, s => by
    rw [List.nodup_cons] at h
    have hx := s x List.mem_cons_self
    have := nodup_len (xs := xs) (ys := ys.erase x) h.2 fun y hy => (List.mem_erase_of_ne (by rintro rfl; exact h.1 hy)).mpr (s y (List.mem_cons_of_mem _ hy))
    rw [List.length_erase_of_mem hx] at this
    have : 0 < ys.length := List.length_pos_of_mem hx
    simp only [List.length_cons]
    omega
theorem key_mem {kvs : List (PKey × PV)} {k : PKey} : k ∈ kvs.map (·.1) ↔ (valP kvs k).isSome = true := by
  constructor
  · intro h
    obtain ⟨kv, hm, rfl⟩ := List.mem_map.mp h
    obtain ⟨v, e⟩ := mem_valP hm
    rw [e]; rfl
  · intro h
    obtain ⟨v, e⟩ := Option.isSome_iff_exists.mp h
    exact List.mem_map_of_mem (f := (·.1)) (valP_mem e)
theorem KN.eq {a b : List (PKey × PV)} (ha : KN a) (hb : KN b) (h : ∀ k, valP a k = valP b k) : a.length = b.length ∧ ∀ kv ∈ a, valP b kv.1 = some kv.2 := by
  have le : ∀ {a b : List (PKey × PV)}, KN a → (∀ k, valP a k = valP b k) → a.length ≤ b.length := fun {a b} ha h => by
    have := nodup_len (xs := a.map (·.1)) (ys := b.map (·.1)) (show (a.map (·.1)).Nodup from ha) fun k hk => by
      rw [key_mem, ← h k, ← key_mem]; exact hk
    simpa using this
  exact ⟨Nat.le_antisymm (le ha h) (le hb fun k => (h k).symm), fun kv hkv => by rw [← h]; exact ha.val hkv⟩
/-! folds -/
theorem fold_KN {α : Type} (f : α → PKey) (g : α → PV) : ∀ (xs : List α) {acc : List (PKey × PV)}, KN acc → KN (xs.foldl (fun acc x => putP acc (f x) (g x)) acc)
  | [], _, h => h
  | x :: xs, _, h => fold_KN f g xs (h.put _ _)
theorem fold_val {α : Type} (f : α → PKey) (g : α → PV) (G : PKey → PV) (hG : ∀ x, g x = G (f x)) (k : PKey) : ∀ (xs : List α) (acc : List (PKey × PV)), valP (xs.foldl (fun acc x => putP acc (f x) (g x)) acc) k = if (∃ x ∈ xs, f x = k) then some (G k) else valP acc k
  | [], acc => by simp
  | x :: xs, acc => by
    rw [List.foldl_cons, fold_val f g G hG k xs]
    by_cases h1 : ∃ y ∈ xs, f y = k
    · rw [if_pos h1, if_pos]
      obtain ⟨y, hy, e⟩ := h1
      exact ⟨y, List.mem_cons_of_mem _ hy, e⟩
    · rw [if_neg h1]
      by_cases h2 : f x = k
      · rw [if_pos ⟨x, List.mem_cons_self, h2⟩, ← h2, valP_putS, hG]
      · rw [if_neg, valP_putN (Ne.symm h2)]
        rintro ⟨y, hy, e⟩
        rcases List.mem_cons.mp hy with rfl | hy
        · exact h2 e
        · exact h1 ⟨y, hy, e⟩
theorem fold_vals {α : Type} (f : α → PKey) (g : α → PV) (P : PV → Prop) (hP : ∀ x, P (g x)) : ∀ (xs : List α) (acc : List (PKey × PV)), (∀ kv ∈ acc, P kv.2) → ∀ kv ∈ xs.foldl (fun acc x => putP acc (f x) (g x)) acc, P kv.2
  | [], acc, h => h
  | x :: xs, acc, h => fold_vals f g P hP xs _ fun kv hkv => by
    rcases putP_mem hkv with e | hkv
    · rw [e]; exact hP x
    · exact h kv hkv
/-! what is counted -/
def incN : Nat → Option PV → Option PV
  | 0, o => o
  | n + 1, o => incN n (some (incP o))
theorem incN_int : ∀ (n : Nat) (m : Int), incN n (some (.int m)) = some (.int (m + n))
  | 0, m => by simp [incN]
  | n + 1, m => by
    rw [incN]
    show incN n (some (.int (m + 1))) = _
    rw [incN_int n]
    congr 2
    omega
theorem incN_none : ∀ (n : Nat), incN n none = if n = 0 then none else some (.int (n : Nat))
  | 0 => rfl
  | n + 1 => by
    rw [incN]
    show incN n (some (.int 1)) = _
    rw [incN_int]
    simp
    omega
/-- how often a place is told -/
def cI (ts : List (Option Nat)) (z : Int) : Nat := ts.countP fun t => match t with | some q => decide ((q : Int) = z) | none => false
/-- a word that stands open, and its name -/
def opW (p : PV × Option Nat) : Bool := p.2.isNone && !isTupP p.1 && !isUse p.1
def cO (ws : List PV) (ts : List (Option Nat)) (x : List Nat) : Nat := (ws.zip ts).countP fun p => opW p && decide (nmOf p.1 = x)
theorem cntW_inl (z : Int) : ∀ (ws : List PV) (ts : List (Option Nat)) (kvs : List (PKey × PV)), ws.length = ts.length → valP (cntW kvs ws ts) (.inl z) = incN (cI ts z) (valP kvs (.inl z))
  | [], [], kvs, _ => rfl
  | w :: ws, t :: ts, kvs, h => by
    rw [cntW, cntW_inl z ws ts _ (by simpa using h)]
    unfold cI
    rw [List.countP_cons]
    cases t with
    | none =>
      simp only [stepC, Bool.false_eq_true, if_false, Nat.add_zero]
      congr 1
      split
      · rfl
      · exact valP_putN (by simp) _ _
    | some q =>
      simp only [stepC]
      by_cases e : (q : Int) = z
      · subst e
        simp only [decide_true, if_true]
        rw [valP_putS]
        rfl
      · simp only [e, decide_false, Bool.false_eq_true, if_false, Nat.add_zero]
        congr 1
        exact valP_putN (fun q => e (by injection q with q; exact q.symm)) _ _
  | [], t :: ts, _, h => by simp at h
  | w :: ws, [], _, h => by simp at h
theorem cntW_inr (x : List Nat) : ∀ (ws : List PV) (ts : List (Option Nat)) (kvs : List (PKey × PV)), ws.length = ts.length → valP (cntW kvs ws ts) (.inr x) = incN (cO ws ts x) (valP kvs (.inr x))
  | [], [], kvs, _ => rfl
  | w :: ws, t :: ts, kvs, h => by
    rw [cntW, cntW_inr x ws ts _ (by simpa using h)]
    unfold cO
    rw [List.zip_cons_cons, List.countP_cons]
    cases t with
    | some q =>
      simp only [stepC, opW, Option.isNone_some, Bool.false_and, Bool.false_eq_true, if_false, Nat.add_zero]
      congr 1
      exact valP_putN (by simp) _ _
    | none =>
      simp only [stepC, opW, Option.isNone_none, Bool.true_and]
      by_cases c : isTupP w = true ∨ isUse w = true
      · rw [if_pos c]
        have : (!isTupP w && !isUse w) = false := by
          rcases c with c | c <;> simp [c]
        simp [this]
      · rw [if_neg c]
        have : (!isTupP w && !isUse w) = true := by
          cases h1 : isTupP w <;> cases h2 : isUse w <;> simp [h1, h2] at c ⊢
        rw [this]
        by_cases e : nmOf w = x
        · subst e
          simp only [Bool.true_and, decide_true, if_true]
          rw [valP_putS]
          rfl
        · simp only [e, decide_false, Bool.and_false, Bool.false_eq_true, if_false, Nat.add_zero]
          congr 1
          exact valP_putN (fun q => e (by injection q with q; exact q.symm)) _ _
  | [], t :: ts, _, h => by simp at h
  | w :: ws, [], _, h => by simp at h
theorem stepC_KN {kvs : List (PKey × PV)} (a : KN kvs) (w : PV) (t : Option Nat) : KN (stepC kvs w t) := by
  unfold stepC
  split
  · exact a.put _ _
  · split
    · exact a
    · exact a.put _ _
theorem cntW_KN : ∀ (ws : List PV) (ts : List (Option Nat)) (kvs : List (PKey × PV)), KN kvs → KN (cntW kvs ws ts)
  | [], ts, kvs, h => by cases ts <;> exact h
  | w :: ws, [], kvs, h => h
  | w :: ws, t :: ts, kvs, h => cntW_KN ws ts _ (stepC_KN h w t)
/-- the places of the takes -/
def tksP (ws : List PV) : List Nat := (List.range ws.length).filter fun i => match ws[i]? with | some w => isTupP w | none => false
theorem cnt0_eq (ws : List PV) : cnt0 ws = (tksP ws).foldl (fun acc q => putP acc (.inl (q : Nat)) (.int 0)) [] := by
  unfold cnt0 tksP
  have e2 : enumL ws = (List.range ws.length).map fun i => .tup [.int (i : Nat), ws.getD i .non] := by
    apply List.ext_getElem?
    intro i
    cases h : (enumL ws)[i]? with
    | none =>
      have := List.getElem?_eq_none_iff.mp h
      rw [enumL_len] at this
      symm
      rw [List.getElem?_eq_none_iff]
      simpa using this
    | some y =>
      obtain ⟨w, hw, rfl⟩ := enumL_at h
      have hl := (List.getElem?_eq_some_iff.mp hw).1
      simp [hl, hw]
      exact ((List.getElem?_eq_some_iff.mp hw).2).symm
  rw [e2, List.filter_map, List.foldl_map]
  congr 1
  apply List.filter_congr
  intro i hi
  have hl : i < ws.length := by simpa using hi
  simp [hl]
theorem tks_lt {ws : List PV} {q : Nat} (h : q ∈ tksP ws) : q < ws.length ∧ ∃ w, ws[q]? = some w ∧ isTupP w = true := by
  unfold tksP at h
  rw [List.mem_filter] at h
  have h1 : q < ws.length := by simpa using h.1
  refine ⟨h1, ws[q], List.getElem?_eq_getElem h1, ?_⟩
  have := h.2
  rw [List.getElem?_eq_getElem h1] at this
  exact this
theorem tks_nodup (ws : List PV) : (tksP ws).Nodup := List.Nodup.sublist List.filter_sublist List.nodup_range
/-! the total -/
def tot (kvs : List (PKey × PV)) : Int := (kvs.map fun kv => match kv.2 with | .int n => n | _ => 0).sum
theorem tot_put : ∀ (kvs : List (PKey × PV)) (k : PKey), KN kvs → AllI kvs → tot (putP kvs k (incP (valP kvs k))) = tot kvs + 1 := by
  intro kvs k a b
  cases e : valP kvs k with
  | none =>
    have hn : ¬ (kvs.any fun kv => decide (kv.1 = k)) = true := by
      rw [any_key, key_mem, e]
      simp
    unfold putP
    rw [if_neg hn]
    simp [tot, incP]
  | some v =>
    have hy : (kvs.any fun kv => decide (kv.1 = k)) = true := by
      rw [any_key, key_mem, e]
      rfl
    unfold putP
    rw [if_pos hy]
    have hm := valP_mem e
    obtain ⟨n, hn⟩ := b _ hm
    simp only at hn
    subst hn
    clear hy e
    simp only [incP]
    induction kvs with
    | nil => simp at hm
    | cons z r ih =>
      unfold KN at a
      rw [List.map_cons, List.nodup_cons] at a
      rcases List.mem_cons.mp hm with rfl | hm
      · have hr : (r.map fun kv => if kv.1 = k then (kv.1, PV.int (n + 1)) else kv) = r := by
          have : ∀ kv ∈ r, (if kv.1 = k then (kv.1, PV.int (n + 1)) else kv) = kv := fun kv hkv => by
            rw [if_neg]
            intro q
            exact a.1 (q ▸ List.mem_map_of_mem (f := (·.1)) hkv)
          rw [List.map_congr_left this, List.map_id']
        rw [List.map_cons, hr]
        simp [tot]
        omega
      · have hz : z.1 ≠ k := fun q => a.1 (q ▸ List.mem_map_of_mem (f := (·.1)) hm)
        have := ih a.2 (fun kv hkv => b kv (List.mem_cons_of_mem _ hkv)) hm
        rw [List.map_cons, if_neg hz]
        simp only [tot, List.map_cons, List.sum_cons] at this ⊢
        omega
def isNm (w : PV) : Bool := !isTupP w && !isUse w
theorem cntW_tot : ∀ (ws : List PV) (ts : List (Option Nat)) (kvs : List (PKey × PV)), ws.length = ts.length → KN kvs → AllI kvs → (∀ p ∈ ws.zip ts, p.2.isSome = true → isNm p.1 = true) → tot (cntW kvs ws ts) = tot kvs + (ws.countP isNm : Nat)
  | [], [], kvs, _, _, _, _ => by simp [cntW]
  | w :: ws, t :: ts, kvs, h, a, b, c => by
    rw [cntW, cntW_tot ws ts _ (by simpa using h) (stepC_KN a w t) (b.step w t) (fun p hp => c p (by rw [List.zip_cons_cons]; exact List.mem_cons_of_mem _ hp)), List.countP_cons]
    cases t with
    | some q =>
      have hw := c (w, some q) (by rw [List.zip_cons_cons]; exact List.mem_cons_self) rfl
      simp only [stepC, tot_put kvs _ a b]
      simp only at hw
      simp [hw]
      omega
    | none =>
      simp only [stepC]
      by_cases d : isTupP w = true ∨ isUse w = true
      · rw [if_pos d]
        have : isNm w = false := by
          unfold isNm
          rcases d with d | d <;> simp [d]
        simp [this]
      · rw [if_neg d, tot_put kvs _ a b]
        have : isNm w = true := by
          unfold isNm
          cases h1 : isTupP w <;> cases h2 : isUse w <;> simp [h1, h2] at d ⊢
        simp [this]
        omega
  | [], t :: ts, _, h, _, _, _ => by simp at h
  | w :: ws, [], _, h, _, _, _ => by simp at h
end U
set_option Elab.async false
set_option linter.all false
set_option maxRecDepth 100000
set_option maxHeartbeats 4000000
/-! The generic layer, part 36: taken names told anew; what is due. -/
namespace U
open PySem PySem.Spec PyProof.Rows L2
variable [Tab] [InsOk]
theorem range_getD {α : Type} (l : List α) (d : α) : (List.range l.length).map (fun i => l.getD i d) = l := by
  apply List.ext_getElem?
  intro i
  rw [List.getElem?_map]
  by_cases h : i < l.length
  · rw [List.getElem?_range h]
    simp [h]
  · rw [List.getElem?_eq_none (by simpa using h), List.getElem?_eq_none (by simpa using h)]
    rfl
theorem range_filter {α β : Type} (l : List α) (d : α) (P : α → Bool) (F : α → β) : ((List.range l.length).filter fun i => P (l.getD i d)).map (fun i => F (l.getD i d)) = (l.filter P).map F := by
  have e := range_getD l d
  have e2 : (l.filter P).map F = (((List.range l.length).map (fun i => l.getD i d)).filter P).map F := by rw [e]
  rw [e2, List.filter_map, List.map_map]
  rfl
/-! renaming -/
def renW (g : Nat → List Nat) (p : Nat) (w : PV) (o : Option Nat) : PV := match w with
  | .tup [_, k] => .tup [.str (g p), k]
  | w => match o with
    | none => w
    | some q => .str (g q)
def renL (g : Nat → List Nat) : Nat → List PV → List (Option Nat) → List PV
  | p, w :: ws, o :: os => renW g p w o :: renL g (p + 1) ws os
  | _, _, _ => []
theorem renL_app (g : Nat → List Nat) : ∀ (p : Nat) (a b : List PV) (oa ob : List (Option Nat)), a.length = oa.length → renL g p (a ++ b) (oa ++ ob) = renL g p a oa ++ renL g (p + a.length) b ob
  | p, [], b, [], ob, _ => by simp [renL]
  | p, w :: a, b, o :: oa, ob, h => by
    simp only [List.cons_append, renL, renL_app g (p + 1) a b oa ob (by simpa using h), List.length_cons]
    congr 3
    omega
  | p, [], b, o :: oa, ob, h => by simp at h
  | p, w :: a, b, [], ob, h => by simp at h
theorem renL_len (g : Nat → List Nat) : ∀ (p : Nat) (ws : List PV) (os : List (Option Nat)), ws.length = os.length → (renL g p ws os).length = ws.length
  | p, [], [], _ => rfl
  | p, w :: ws, o :: os, h => by simp [renL, renL_len g (p + 1) ws os (by simpa using h)]
  | p, [], o :: os, h => by simp at h
  | p, w :: ws, [], h => by simp at h
theorem renL_get (g : Nat → List Nat) : ∀ {p i : Nat} {ws : List PV} {os : List (Option Nat)} {w : PV} {o : Option Nat}, ws[i]? = some w → os[i]? = some o → (renL g p ws os)[i]? = some (renW g (p + i) w o)
  | p, 0, w :: ws, o :: os, _, _, h1, h2 => by
    simp at h1 h2
    subst h1 h2
    simp [renL]
  | p, i + 1, w :: ws, o :: os, _, _, h1, h2 => by
    simp at h1 h2
    have := renL_get g (p := p + 1) h1 h2
    simp only [renL, List.getElem?_cons_succ, this]
    congr 2
    omega
  | _, i, [], _, _, _, h1, _ => by simp at h1
  | _, i, _ :: _, [], _, _, _, h2 => by simp at h2
def Tr.ren (g : Nat → List Nat) : Tr → Nat → List (List Nat × Nat) → Tr
  | .nm x, _, env => match env.find? fun o => decide (o.1 = x) with
    | none => .nm x
    | some o => .nm (g o.2)
  | .ap f a, p, env => .ap (f.ren g (p + 1) env) (a.ren g (p + 1 + f.sz) env)
  | .lam x k b, p, env => .lam (g p) k (b.ren g (p + 1) ((x, p) :: env))
theorem Tr.ren_sz (g : Nat → List Nat) : ∀ (t : Tr) (p : Nat) (env : List (List Nat × Nat)), (t.ren g p env).sz = t.sz
  | .nm x, p, env => by
    simp only [Tr.ren]
    split <;> rfl
  | .ap f a, p, env => by simp [Tr.ren, Tr.sz, Tr.ren_sz g f, Tr.ren_sz g a]
  | .lam x k b, p, env => by simp [Tr.ren, Tr.sz, Tr.ren_sz g b]
theorem Tr.ren_code (g : Nat → List Nat) : ∀ (t : Tr) (p : Nat) (env : List (List Nat × Nat)), (t.ren g p env).code = renL g p t.code (t.own p env)
  | .nm x, p, env => by
    simp only [Tr.ren, Tr.code, Tr.own, renL]
    cases env.find? fun o => decide (o.1 = x) <;> rfl
  | .ap f a, p, env => by
    simp only [Tr.ren, Tr.code, Tr.own, renL, Tr.ren_code g f, Tr.ren_code g a]
    rw [renL_app g (p + 1) f.code a.code _ _ (by rw [f.len, f.own_len]), f.len]
    rfl
  | .lam x k b, p, env => by
    simp only [Tr.ren, Tr.code, Tr.own, renL, Tr.ren_code g b]
    rfl
/-- all places of takes -/
def Tr.tkIn (S : Nat → Prop) : Tr → Nat → Prop
  | .nm _, _ => True
  | .ap f a, p => f.tkIn S (p + 1) ∧ a.tkIn S (p + 1 + f.sz)
  | .lam _ _ b, p => S p ∧ b.tkIn S (p + 1)
theorem Tr.tkIn_of {S : Nat → Prop} : ∀ (t : Tr) (p : Nat), (∀ (i : Nat) (w : PV), t.code[i]? = some w → isTupP w = true → S (p + i)) → t.tkIn S p
  | .nm _, _, _ => trivial
  | .ap f a, p, h => ⟨Tr.tkIn_of f _ fun i w e hw => by
      have hl := (List.getElem?_eq_some_iff.mp e).1
      have := h (i + 1) w (by simp only [Tr.code, List.getElem?_cons_succ]; rw [List.getElem?_append_left hl, e]) hw
      rwa [show p + 1 + i = p + (i + 1) by omega], Tr.tkIn_of a _ fun i w e hw => by
      have := h (f.sz + i + 1) w (by
        simp only [Tr.code, List.getElem?_cons_succ]
        rw [List.getElem?_append_right (by rw [f.len]; omega), f.len, Nat.add_sub_cancel_left, e]) hw
      rwa [show p + 1 + f.sz + i = p + (f.sz + i + 1) by omega]⟩
  | .lam x k b, p, h => ⟨h 0 _ rfl rfl, Tr.tkIn_of b _ fun i w e hw => by
      have := h (i + 1) w (by simp only [Tr.code, List.getElem?_cons_succ, e]) hw
      rwa [show p + 1 + i = p + (i + 1) by omega]⟩
/-- all names that stand open -/
def Tr.opIn (O : List Nat → Prop) : Tr → Nat → List (List Nat × Nat) → Prop
  | .nm x, _, env => (env.find? fun o => decide (o.1 = x)) = none → O x
  | .ap f a, p, env => f.opIn O (p + 1) env ∧ a.opIn O (p + 1 + f.sz) env
  | .lam x _ b, p, env => b.opIn O (p + 1) ((x, p) :: env)
theorem Tr.opIn_of {O : List Nat → Prop} : ∀ (t : Tr) (p : Nat) (env : List (List Nat × Nat)), t.ok → (∀ (i : Nat) (w : PV), t.code[i]? = some w → (Tr.own t p env)[i]? = some (none : Option Nat) → isNm w = true → O (nmOf w)) → t.opIn O p env
  | .nm x, p, env, hk, h => fun e => by
    have hn := use_nn hk
    exact h 0 _ rfl (by simp [Tr.own, e]) (by simp [isNm, isUse, hn])
  | .ap f a, p, env, hk, h => ⟨Tr.opIn_of f _ _ hk.1 fun i w e1 e2 hw => by
      have hl := (List.getElem?_eq_some_iff.mp e1).1
      have hl2 := (List.getElem?_eq_some_iff.mp e2).1
      exact h (i + 1) w (by simp only [Tr.code, List.getElem?_cons_succ]; rw [List.getElem?_append_left hl, e1]) (by simp only [Tr.own, List.getElem?_cons_succ]; rw [List.getElem?_append_left hl2, e2]) hw, Tr.opIn_of a _ _ hk.2 fun i w e1 e2 hw =>
      h (f.sz + i + 1) w (by
        simp only [Tr.code, List.getElem?_cons_succ]
        rw [List.getElem?_append_right (by rw [f.len]; omega), f.len, Nat.add_sub_cancel_left, e1]) (by
        simp only [Tr.own, List.getElem?_cons_succ]
        rw [List.getElem?_append_right (by rw [f.own_len]; omega), f.own_len, Nat.add_sub_cancel_left, e2]) hw⟩
  | .lam x k b, p, env, hk, h => Tr.opIn_of b _ _ hk.2.2.2 fun i w e1 e2 hw => h (i + 1) w (by simp only [Tr.code, List.getElem?_cons_succ, e1]) (by simp only [Tr.own, List.getElem?_cons_succ, e2]) hw
theorem Tr.ren_own {g : Nat → List Nat} {S : Nat → Prop} {O : List Nat → Prop} (hinj : ∀ q q', S q → S q' → g q = g q' → q = q') (hO : ∀ x q, O x → S q → g q ≠ x) : ∀ (t : Tr) (p : Nat) (env : List (List Nat × Nat)), (∀ o ∈ env, S o.2) → t.tkIn S p → t.opIn O p env →
    (t.ren g p env).own p (env.map fun o => (g o.2, o.2)) = t.own p env
  | .nm x, p, env, he, _, ho => by
    simp only [Tr.ren, Tr.opIn] at ho ⊢
    cases e : env.find? fun o => decide (o.1 = x) with
    | none =>
      have ho := ho e
      simp only [Tr.own, e, Option.map_none]
      have : ((env.map fun o => (g o.2, o.2)).find? fun o => decide (o.1 = x)) = none := by
        rw [List.find?_eq_none]
        intro o h
        obtain ⟨o', h', rfl⟩ := List.mem_map.mp h
        simpa using hO x o'.2 ho (he o' h')
      rw [this]
      rfl
    | some o =>
      simp only [Tr.own, e, Option.map_some]
      have hm := List.mem_of_find?_eq_some e
      have : ∃ o', ((env.map fun o => (g o.2, o.2)).find? fun z => decide (z.1 = g o.2)) = some o' ∧ o'.2 = o.2 := by
        cases e2 : (env.map fun o => (g o.2, o.2)).find? fun z => decide (z.1 = g o.2) with
        | none =>
          have := List.find?_eq_none.mp e2 (g o.2, o.2) (List.mem_map_of_mem hm)
          simp at this
        | some z =>
          refine ⟨z, rfl, ?_⟩
          obtain ⟨o', h', rfl⟩ := List.mem_map.mp (List.mem_of_find?_eq_some e2)
          have := List.find?_some e2
          simp at this
          exact hinj _ _ (he o' h') (he o hm) this
      obtain ⟨o', h1, h2⟩ := this
      rw [h1]
      simp [h2]
  | .ap f a, p, env, he, ht, ho => by
    simp only [Tr.ren, Tr.own, Tr.ren_sz]
    rw [Tr.ren_own hinj hO f _ _ he ht.1 ho.1, Tr.ren_own hinj hO a _ _ he ht.2 ho.2]
  | .lam x k b, p, env, he, ht, ho => by
    simp only [Tr.ren, Tr.own]
    have := Tr.ren_own hinj hO b (p + 1) ((x, p) :: env) (fun o h => by
      rcases List.mem_cons.mp h with rfl | h
      · exact ht.1
      · exact he o h) ht.2 ho
    rw [List.map_cons] at this
    rw [this]
theorem Tr.ren_fine {g : Nat → List Nat} {S : Nat → Prop} {d : Nat} (hn : ∀ q, S q → nameL (g q) = true) : ∀ (t : Tr) (p : Nat) (env : List (List Nat × Nat)), (∀ o ∈ env, S o.2) → t.tkIn S p → t.fine d → (t.ren g p env).fine d
  | .nm x, p, env, he, _, h => by
    simp only [Tr.ren]
    cases e : env.find? fun o => decide (o.1 = x) with
    | none => exact h
    | some o => exact hn _ (he o (List.mem_of_find?_eq_some e))
  | .ap f a, p, env, he, ht, h => ⟨Tr.ren_fine hn f _ _ he ht.1 h.1, Tr.ren_fine hn a _ _ he ht.2 h.2⟩
  | .lam x k b, p, env, he, ht, h => ⟨hn p ht.1, h.2.1, h.2.2.1, Tr.ren_fine hn b _ _ (fun o h => by
      rcases List.mem_cons.mp h with rfl | h
      · exact ht.1
      · exact he o h) ht.2 h.2.2.2⟩
/-! what a renaming leaves as it was -/
theorem renW_tup (g : Nat → List Nat) {p : Nat} {w : PV} {o : Option Nat} (hw : wordP w = true) (ho : o.isSome = true → isNm w = true) : isTupP (renW g p w o) = isTupP w := by
  rcases wordP_cases hw with rfl | ⟨x, rfl, hx, hn⟩ | ⟨x, k, rfl, hx, hk, hn⟩
  · cases o with
    | none => rfl
    | some q => have := ho rfl; simp [isNm, isUse] at this
  · cases o <;> rfl
  · rfl
theorem renW_opW (g : Nat → List Nat) {p : Nat} {w : PV} {o : Option Nat} (hw : wordP w = true) : opW (renW g p w o, o) = opW (w, o) ∧ (opW (w, o) = true → renW g p w o = w) := by
  cases o with
  | some q => simp [opW]
  | none =>
    rcases wordP_cases hw with rfl | ⟨x, rfl, hx, hn⟩ | ⟨x, k, rfl, hx, hk, hn⟩
    · exact ⟨rfl, fun _ => rfl⟩
    · exact ⟨rfl, fun _ => rfl⟩
    · exact ⟨by simp [opW, renW], fun h => by simp [opW] at h⟩
theorem cO_ren (g : Nat → List Nat) (x : List Nat) : ∀ (p : Nat) (ws : List PV) (os : List (Option Nat)), (∀ w ∈ ws, wordP w = true) → cO (renL g p ws os) os x = cO ws os x
  | p, [], os, _ => by cases os <;> rfl
  | p, w :: ws, [], _ => rfl
  | p, w :: ws, o :: os, h => by
    have ih := cO_ren g x (p + 1) ws os fun z hz => h z (List.mem_cons_of_mem _ hz)
    unfold cO at ih ⊢
    simp only [renL, List.zip_cons_cons, List.countP_cons, ih]
    obtain ⟨e1, e2⟩ := renW_opW g (p := p) (o := o) (h w List.mem_cons_self)
    rw [e1]
    cases e3 : opW (w, o) with
    | true => rw [e2 e3]
    | false => simp
theorem tks_ren (g : Nat → List Nat) {p : Nat} {ws : List PV} {os : List (Option Nat)} (hl : ws.length = os.length) (hw : ∀ w ∈ ws, wordP w = true) (ho : ∀ pr ∈ ws.zip os, pr.2.isSome = true → isNm pr.1 = true) : tksP (renL g p ws os) = tksP ws := by
  unfold tksP
  rw [renL_len g p ws os hl]
  apply List.filter_congr
  intro i hi
  have hi : i < ws.length := by simpa using hi
  have e1 : ws[i]? = some ws[i] := List.getElem?_eq_getElem hi
  have e2 : os[i]? = some (os[i]'(by omega)) := List.getElem?_eq_getElem (by omega)
  rw [renL_get g e1 e2, e1]
  apply renW_tup g (hw _ (List.getElem_mem hi))
  intro h
  apply ho (ws[i], os[i]'(by omega)) _ h
  apply List.mem_of_getElem? (i := i)
  rw [List.getElem?_zip_eq_some]
  exact ⟨e1, e2⟩
/-! dicts of pairs -/
theorem merge_val : ∀ (ps acc : List (PKey × PV)) {k : PKey} {v : PV}, (ps.map (·.1)).Nodup → (k, v) ∈ ps → valP (ps.foldl (fun acc kv => putP acc kv.1 kv.2) acc) k = some v
  | [], _, _, _, _, h => by simp at h
  | p :: r, acc, k, v, hn, h => by
    rw [List.map_cons, List.nodup_cons] at hn
    rw [List.foldl_cons]
    rcases List.mem_cons.mp h with rfl | h
    · have keep : ∀ (r acc : List (PKey × PV)), k ∉ r.map (·.1) → valP (r.foldl (fun acc kv => putP acc kv.1 kv.2) acc) k = valP acc k := by
        intro r
        induction r with
        | nil => intro acc _; rfl
        | cons z r ih =>
          intro acc hk
          rw [List.map_cons, List.mem_cons, not_or] at hk
          rw [List.foldl_cons, ih _ hk.2]
          exact valP_putN hk.1 _ _
      rw [keep r _ hn.1]
      exact valP_putS _ _ _
    · exact merge_val r _ hn.2 h
/-! names -/
def lets : List Nat := [97, 98, 99, 100, 101, 102, 103, 104, 105, 106, 107, 108, 109, 110, 111, 112, 113, 114, 115, 116, 117, 118, 119, 120, 121, 122]
def names130 : List (List Nat) := lets.map (fun c => [c]) ++ [97, 98, 99, 100].flatMap fun a => lets.map fun b => [a, b]
theorem names130_nd : names130.Nodup := by decide +kernel
theorem names130_ok : ∀ x ∈ names130, nameL x = true := by decide +kernel
theorem names130_len : names130.length = 130 := by decide +kernel
def freeN (bar : List (List Nat)) : List (List Nat) := names130.filter fun x => !decide (x ∈ bar)
theorem freeN_len (bar : List (List Nat)) : 130 ≤ (freeN bar).length + bar.length := by
  have h1 : (names130.filter fun x => decide (x ∈ bar)).length ≤ bar.length := nodup_len (names130_nd.sublist List.filter_sublist) fun x hx => by
    rw [List.mem_filter] at hx
    simpa using hx.2
  have h2 : (names130.filter fun x => decide (x ∈ bar)).length + (freeN bar).length = names130.length := by
    unfold freeN
    generalize names130 = l
    induction l with
    | nil => rfl
    | cons x r ih =>
      simp only [List.filter_cons]
      by_cases h : x ∈ bar
      · simp [h] at ih ⊢; omega
      · simp [h] at ih ⊢; omega
  rw [names130_len] at h2
  omega
/-! open names -/
def openN (ws : List PV) (os : List (Option Nat)) : List (List Nat) := ((ws.zip os).filter opW).map fun p => nmOf p.1
theorem mem_openN {ws : List PV} {os : List (Option Nat)} {x : List Nat} : x ∈ openN ws os ↔ 0 < cO ws os x := by
  unfold openN cO
  rw [List.countP_pos_iff, List.mem_map]
  constructor
  · rintro ⟨p, h1, h2⟩
    rw [List.mem_filter] at h1
    exact ⟨p, h1.1, by simp [h1.2, h2]⟩
  · rintro ⟨p, h1, h2⟩
    simp at h2
    exact ⟨p, List.mem_filter.mpr ⟨h1, h2.1⟩, h2.2⟩
theorem openN_len (ws : List PV) (os : List (Option Nat)) : (openN ws os).length ≤ ws.length := by
  unfold openN
  rw [List.length_map]
  refine Nat.le_trans (List.length_filter_le _ _) ?_
  rw [List.length_zip]
  exact Nat.min_le_left _ _
/-- the open names, each once, ascending -/
def openL (ws : List PV) (os : List (Option Nat)) : List (List Nat) := sortC (ddP (openN ws os))
theorem mem_openL {ws : List PV} {os : List (Option Nat)} {x : List Nat} : x ∈ openL ws os ↔ 0 < cO ws os x := by
  unfold openL
  rw [(sortC_perm _).mem_iff, ddP_mem, mem_openN]
theorem openL_len (ws : List PV) (os : List (Option Nat)) : (openL ws os).length ≤ ws.length := by
  unfold openL
  rw [(sortC_perm _).length_eq]
  exact Nat.le_trans ddP_len (openN_len ws os)
/-- what is due -/
def dueP (ws : List PV) (os : List (Option Nat)) : List (PKey × PV) :=
  (tksP ws).foldl (fun acc q => putP acc (.inl (q : Nat)) (.int (cI os (q : Nat) : Nat))) ((openL ws os).foldl (fun acc x => putP acc (.inr x) (.int (cO ws os x : Nat))) [])
theorem due_val {ws : List PV} {os : List (Option Nat)} (hl : ws.length = os.length) (ht : ∀ q, some q ∈ os → q ∈ tksP ws) : ∀ k, valP (cntW (cnt0 ws) ws os) k = valP (dueP ws os) k
  | .inl z => by
    rw [cntW_inl z ws os _ hl, cnt0_eq, fold_val (fun q : Nat => (.inl (q : Int) : PKey)) (fun _ => .int 0) (fun _ => .int 0) (fun _ => rfl)]
    unfold dueP
    rw [fold_val (fun q : Nat => (.inl (q : Int) : PKey)) (fun q : Nat => .int (cI os (q : Int) : Nat)) (fun k => match k with | .inl z => .int (cI os z : Nat) | .inr _ => .non) (fun _ => rfl)]
    by_cases h : ∃ x ∈ tksP ws, (.inl (x : Int) : PKey) = .inl z
    · rw [if_pos h, if_pos h, incN_int]
      simp
    · rw [if_neg h, if_neg h]
      have e0 : cI os z = 0 := by
        unfold cI
        rw [List.countP_eq_zero]
        intro t ht'
        cases t with
        | none => simp
        | some q =>
          simp
          intro e
          exact h ⟨q, ht q ht', by rw [e]⟩
      rw [e0]
      show valP [] (.inl z) = _
      rw [fold_val (fun x : List Nat => (.inr x : PKey)) (fun x => .int (cO ws os x : Nat)) (fun k => match k with | .inr x => .int (cO ws os x : Nat) | .inl _ => .non) (fun _ => rfl)]
      rw [if_neg (by rintro ⟨x, _, e⟩; cases e)]
  | .inr x => by
    rw [cntW_inr x ws os _ hl, cnt0_eq, fold_val (fun q : Nat => (.inl (q : Int) : PKey)) (fun _ => .int 0) (fun _ => .int 0) (fun _ => rfl), if_neg (by rintro ⟨_, _, e⟩; cases e)]
    unfold dueP
    rw [fold_val (fun q : Nat => (.inl (q : Int) : PKey)) (fun q : Nat => .int (cI os (q : Int) : Nat)) (fun k => match k with | .inl z => .int (cI os z : Nat) | .inr _ => .non) (fun _ => rfl), if_neg (by rintro ⟨_, _, e⟩; cases e)]
    rw [fold_val (fun x : List Nat => (.inr x : PKey)) (fun x => .int (cO ws os x : Nat)) (fun k => match k with | .inr x => .int (cO ws os x : Nat) | .inl _ => .non) (fun _ => rfl)]
    show incN (cO ws os x) none = _
    rw [incN_none]
    by_cases h : cO ws os x = 0
    · rw [if_pos h, if_neg]
      · rfl
      · rintro ⟨y, hy, e⟩
        cases e
        rw [mem_openL] at hy
        omega
    · rw [if_neg h, if_pos ⟨x, mem_openL.mpr (by omega), rfl⟩]
theorem due_KN (ws : List PV) (os : List (Option Nat)) : KN (dueP ws os) := fold_KN _ _ _ (fold_KN _ _ _ .nil)
theorem cnt_KN (ws : List PV) (os : List (Option Nat)) : KN (cntW (cnt0 ws) ws os) := cntW_KN _ _ _ (by rw [cnt0_eq]; exact fold_KN _ _ _ .nil)
theorem due_int (ws : List PV) (os : List (Option Nat)) : ∀ kv ∈ dueP ws os, ∃ n, kv.2 = .int n := by
  unfold dueP
  refine fold_vals _ _ (fun v => ∃ n, v = .int n) (fun _ => ⟨_, rfl⟩) _ _ (fold_vals _ _ (fun v => ∃ n, v = .int n) (fun _ => ⟨_, rfl⟩) _ _ ?_)
  intro kv h
  simp at h
/-- the same of renamed words -/
theorem due_ren (g : Nat → List Nat) {ws : List PV} {os : List (Option Nat)} (hl : ws.length = os.length) (hw : ∀ w ∈ ws, wordP w = true) (ho : ∀ pr ∈ ws.zip os, pr.2.isSome = true → isNm pr.1 = true) : ∀ k, valP (dueP (renL g 0 ws os) os) k = valP (dueP ws os) k := by
  intro k
  have e1 := tks_ren g (p := 0) hl hw ho
  have e2 : ∀ x, cO (renL g 0 ws os) os x = cO ws os x := fun x => cO_ren g x 0 ws os hw
  have e3 : ∀ x, x ∈ openL (renL g 0 ws os) os ↔ x ∈ openL ws os := fun x => by rw [mem_openL, mem_openL, e2]
  unfold dueP
  rw [e1]
  simp only [e2]
  rw [fold_val (fun q : Nat => (.inl (q : Int) : PKey)) (fun q : Nat => .int (cI os (q : Int) : Nat)) (fun k => match k with | .inl z => .int (cI os z : Nat) | .inr _ => .non) (fun _ => rfl), fold_val (fun q : Nat => (.inl (q : Int) : PKey)) (fun q : Nat => .int (cI os (q : Int) : Nat)) (fun k => match k with | .inl z => .int (cI os z : Nat) | .inr _ => .non) (fun _ => rfl)]
  congr 1
  rw [fold_val (fun x : List Nat => (.inr x : PKey)) (fun x => .int (cO ws os x : Nat)) (fun k => match k with | .inr x => .int (cO ws os x : Nat) | .inl _ => .non) (fun _ => rfl), fold_val (fun x : List Nat => (.inr x : PKey)) (fun x => .int (cO ws os x : Nat)) (fun k => match k with | .inr x => .int (cO ws os x : Nat) | .inl _ => .non) (fun _ => rfl)]
  simp only [e3]
end U
set_option Elab.async false
set_option linter.all false
set_option maxRecDepth 100000
set_option maxHeartbeats 4000000
noncomputable section
namespace U.K09
open PySem PySem.Spec PyProof.Rows L2 U
instance tab : Tab := ⟨fun _ => ("", [])⟩
def top (i : Nat) : Stmt := PySem.Challenge.pw_usecounts_k09_whole_counts_of_names.main.body.getD i (.Pass ⟨0, 0, 0, 0⟩)
def sub (a b : CD) : Option Bool := match a, b with
  | .ty x, .ty y => if x ∈ tyNames ∧ y ∈ tyNames then subB x y else none
  | _, _ => none
theorem sub_ty {K : PySem.W.Frag} {n : String} : SubOk K sub (.ty n) := fun t b e => by
  cases t with
  | ty x =>
    unfold sub at e
    simp only at e
    split at e
    · rename_i h
      exact subB_ok h.1 h.2 e
    · cases e
  | own c => cases e
theorem nx_fII0 {g : Int → Int → PV} {v u : PV} {h : Hh} {c : Nat} {fs : List PV} {h' : Hh} (e : fII0 g v u h = .exn c fs h') : False := by
  unfold fII0 at e
  split at e <;> cases e
theorem nx_fII {C : Int → Int → Prop} [∀ i j, Decidable (C i j)] {g : Int → Int → PV} {v u : PV} {h : Hh} {c : Nat} {fs : List PV} {h' : Hh} (e : fII C g v u h = .exn c fs h') : False := by
  unfold fII at e
  split at e
  · unfold Res.guard at e
    split at e <;> cases e
  · cases e
theorem nx_fSub {v u : PV} {h : Hh} {c : Nat} {fs : List PV} {h' : Hh} (e : fSub v u h = .exn c fs h') : False := nx_fII0 e
theorem nx_fDiv {v u : PV} {h : Hh} {c : Nat} {fs : List PV} {h' : Hh} (e : fDiv v u h = .exn c fs h') : False := nx_fII e
theorem nx_fMod {v u : PV} {h : Hh} {c : Nat} {fs : List PV} {h' : Hh} (e : fMod v u h = .exn c fs h') : False := nx_fII e
def blkB (N : List Str) (sc scope : Scope) (own : List (Str × Nat)) : Bool :=
  (scope.names.all fun y => decide (scope.names.lookup y.1 = some y.2)) && ((own.all fun p => decide (N[p.2]? = some p.1)) && ((scope.names.all fun y => decide (y.2 ≠ .free) || (decide (sc.names.lookup y.1 = some .cell) || decide (sc.names.lookup y.1 = some .free))) &&
    (scope.names.all fun y => decide (y.2 ≠ .local ∧ y.2 ≠ .cell) || (decide (y.1 ∈ own.map (·.1)) || decide (y.1 ∉ N)))))
theorem blkOk {N : List Str} {sc scope : Scope} {own : List (Str × Nat)} (h1 : scope.kind = .function) (h : blkB N sc scope own = true) : BlkOk N sc scope own := by
  unfold blkB at h
  simp only [Bool.and_eq_true, List.all_eq_true, Bool.or_eq_true, decide_eq_true_eq] at h
  obtain ⟨a, b, c, d⟩ := h
  refine ⟨h1, a, b, fun y hy e => ?_, fun y hy e => ?_⟩
  · rcases c y hy with q | q
    · exact absurd e q
    · exact q
  · rcases d y hy with q | q
    · exact absurd e (fun z => z.elim q.1 q.2)
    · exact q
@[simp] theorem any_NoneType_int : anySub sub (.ty "NoneType") [.ty "int"] = some false := by decide +kernel
@[simp] theorem any_NoneType_bool : anySub sub (.ty "NoneType") [.ty "bool"] = some false := by decide +kernel
@[simp] theorem any_NoneType_str : anySub sub (.ty "NoneType") [.ty "str"] = some false := by decide +kernel
@[simp] theorem any_NoneType_tuple : anySub sub (.ty "NoneType") [.ty "tuple"] = some false := by decide +kernel
@[simp] theorem any_NoneType_list : anySub sub (.ty "NoneType") [.ty "list"] = some false := by decide +kernel
@[simp] theorem any_NoneType_dict : anySub sub (.ty "NoneType") [.ty "dict"] = some false := by decide +kernel
@[simp] theorem any_NoneType_tuple_list : anySub sub (.ty "NoneType") [.ty "tuple", .ty "list"] = some false := by decide +kernel
@[simp] theorem any_NoneType_tuple_list2 : anySub sub (.ty "NoneType") [.ty "list", .ty "tuple"] = some false := by decide +kernel
@[simp] theorem any_bool_int : anySub sub (.ty "bool") [.ty "int"] = some true := by decide +kernel
@[simp] theorem any_bool_bool : anySub sub (.ty "bool") [.ty "bool"] = some true := by decide +kernel
@[simp] theorem any_bool_str : anySub sub (.ty "bool") [.ty "str"] = some false := by decide +kernel
@[simp] theorem any_bool_tuple : anySub sub (.ty "bool") [.ty "tuple"] = some false := by decide +kernel
@[simp] theorem any_bool_list : anySub sub (.ty "bool") [.ty "list"] = some false := by decide +kernel
@[simp] theorem any_bool_dict : anySub sub (.ty "bool") [.ty "dict"] = some false := by decide +kernel
@[simp] theorem any_bool_tuple_list : anySub sub (.ty "bool") [.ty "tuple", .ty "list"] = some false := by decide +kernel
@[simp] theorem any_bool_tuple_list2 : anySub sub (.ty "bool") [.ty "list", .ty "tuple"] = some false := by decide +kernel
@[simp] theorem any_int_int : anySub sub (.ty "int") [.ty "int"] = some true := by decide +kernel
@[simp] theorem any_int_bool : anySub sub (.ty "int") [.ty "bool"] = some false := by decide +kernel
@[simp] theorem any_int_str : anySub sub (.ty "int") [.ty "str"] = some false := by decide +kernel
@[simp] theorem any_int_tuple : anySub sub (.ty "int") [.ty "tuple"] = some false := by decide +kernel
@[simp] theorem any_int_list : anySub sub (.ty "int") [.ty "list"] = some false := by decide +kernel
@[simp] theorem any_int_dict : anySub sub (.ty "int") [.ty "dict"] = some false := by decide +kernel
@[simp] theorem any_int_tuple_list : anySub sub (.ty "int") [.ty "tuple", .ty "list"] = some false := by decide +kernel
@[simp] theorem any_int_tuple_list2 : anySub sub (.ty "int") [.ty "list", .ty "tuple"] = some false := by decide +kernel
@[simp] theorem any_str_int : anySub sub (.ty "str") [.ty "int"] = some false := by decide +kernel
@[simp] theorem any_str_bool : anySub sub (.ty "str") [.ty "bool"] = some false := by decide +kernel
@[simp] theorem any_str_str : anySub sub (.ty "str") [.ty "str"] = some true := by decide +kernel
@[simp] theorem any_str_tuple : anySub sub (.ty "str") [.ty "tuple"] = some false := by decide +kernel
@[simp] theorem any_str_list : anySub sub (.ty "str") [.ty "list"] = some false := by decide +kernel
@[simp] theorem any_str_dict : anySub sub (.ty "str") [.ty "dict"] = some false := by decide +kernel
@[simp] theorem any_str_tuple_list : anySub sub (.ty "str") [.ty "tuple", .ty "list"] = some false := by decide +kernel
@[simp] theorem any_str_tuple_list2 : anySub sub (.ty "str") [.ty "list", .ty "tuple"] = some false := by decide +kernel
@[simp] theorem any_tuple_int : anySub sub (.ty "tuple") [.ty "int"] = some false := by decide +kernel
@[simp] theorem any_tuple_bool : anySub sub (.ty "tuple") [.ty "bool"] = some false := by decide +kernel
@[simp] theorem any_tuple_str : anySub sub (.ty "tuple") [.ty "str"] = some false := by decide +kernel
@[simp] theorem any_tuple_tuple : anySub sub (.ty "tuple") [.ty "tuple"] = some true := by decide +kernel
@[simp] theorem any_tuple_list : anySub sub (.ty "tuple") [.ty "list"] = some false := by decide +kernel
@[simp] theorem any_tuple_dict : anySub sub (.ty "tuple") [.ty "dict"] = some false := by decide +kernel
@[simp] theorem any_tuple_tuple_list : anySub sub (.ty "tuple") [.ty "tuple", .ty "list"] = some true := by decide +kernel
@[simp] theorem any_tuple_tuple_list2 : anySub sub (.ty "tuple") [.ty "list", .ty "tuple"] = some true := by decide +kernel
@[simp] theorem any_list_int : anySub sub (.ty "list") [.ty "int"] = some false := by decide +kernel
@[simp] theorem any_list_bool : anySub sub (.ty "list") [.ty "bool"] = some false := by decide +kernel
@[simp] theorem any_list_str : anySub sub (.ty "list") [.ty "str"] = some false := by decide +kernel
@[simp] theorem any_list_tuple : anySub sub (.ty "list") [.ty "tuple"] = some false := by decide +kernel
@[simp] theorem any_list_list : anySub sub (.ty "list") [.ty "list"] = some true := by decide +kernel
@[simp] theorem any_list_dict : anySub sub (.ty "list") [.ty "dict"] = some false := by decide +kernel
@[simp] theorem any_list_tuple_list : anySub sub (.ty "list") [.ty "tuple", .ty "list"] = some true := by decide +kernel
@[simp] theorem any_list_tuple_list2 : anySub sub (.ty "list") [.ty "list", .ty "tuple"] = some true := by decide +kernel
@[simp] theorem any_dict_int : anySub sub (.ty "dict") [.ty "int"] = some false := by decide +kernel
@[simp] theorem any_dict_bool : anySub sub (.ty "dict") [.ty "bool"] = some false := by decide +kernel
@[simp] theorem any_dict_str : anySub sub (.ty "dict") [.ty "str"] = some false := by decide +kernel
@[simp] theorem any_dict_tuple : anySub sub (.ty "dict") [.ty "tuple"] = some false := by decide +kernel
@[simp] theorem any_dict_list : anySub sub (.ty "dict") [.ty "list"] = some false := by decide +kernel
@[simp] theorem any_dict_dict : anySub sub (.ty "dict") [.ty "dict"] = some true := by decide +kernel
@[simp] theorem any_dict_tuple_list : anySub sub (.ty "dict") [.ty "tuple", .ty "list"] = some false := by decide +kernel
@[simp] theorem any_dict_tuple_list2 : anySub sub (.ty "dict") [.ty "list", .ty "tuple"] = some false := by decide +kernel
structure G (K : PySem.W.Frag) (mg : Str → Option Value) : Prop where
  n_abs : mg "abs" = none
  n_all : mg "all" = none
  n_bool : mg "bool" = none
  n_dict : mg "dict" = none
  n_enumerate : mg "enumerate" = none
  n_int : mg "int" = none
  n_isinstance : mg "isinstance" = none
  n_len : mg "len" = none
  n_list : mg "list" = none
  n_max : mg "max" = none
  n_range : mg "range" = none
  n_set : mg "set" = none
  n_sorted : mg "sorted" = none
  n_str : mg "str" = none
  n_sum : mg "sum" = none
  n_tuple : mg "tuple" = none
  c_LAST_LETTER : ∃ t, mg "LAST_LETTER" = some (.int 25 t)
  c_MOST_SIGNS : ∃ t, mg "MOST_SIGNS" = some (.int 8 t)
  c_SMALL : ∃ t, mg "SMALL" = some (.str "abcdefghijklmnopqrstuvwxyz" t)
  c_USE : ∃ t, mg "USE" = some (.str "@" t)
theorem boot_abs : bootBuiltins "abs" = some (.builtin "abs") := by decide +kernel
theorem boot_all : bootBuiltins "all" = some (.builtin "all") := by decide +kernel
theorem boot_bool : bootBuiltins "bool" = some (.type "bool") := by decide +kernel
theorem boot_dict : bootBuiltins "dict" = some (.type "dict") := by decide +kernel
theorem boot_int : bootBuiltins "int" = some (.type "int") := by decide +kernel
theorem boot_len : bootBuiltins "len" = some (.builtin "len") := by decide +kernel
theorem boot_list : bootBuiltins "list" = some (.type "list") := by decide +kernel
theorem boot_max : bootBuiltins "max" = some (.builtin "max") := by decide +kernel
theorem boot_sorted : bootBuiltins "sorted" = some (.builtin "sorted") := by decide +kernel
theorem boot_str : bootBuiltins "str" = some (.type "str") := by decide +kernel
theorem boot_sum : bootBuiltins "sum" = some (.builtin "sum") := by decide +kernel
theorem boot_tuple : bootBuiltins "tuple" = some (.type "tuple") := by decide +kernel
variable {P : Program} {w : World} {K : PySem.W.Frag} {mg : Str → Option Value} {base : Heap} {f : Addr} {k : Nat}
/-! is_integer -/
abbrev s_is_integer : Stmt := top 6
abbrev N_is_integer : List Str := ["thing"]
abbrev b_is_integer : Sv := (sRet (eAnd (eIsi sub [.ty "int"] (aV (eVar 0))) (eNot (eIsi sub [.ty "bool"] (aV (eVar 0))))))
theorem sc_is_integer : FnScope N_is_integer ["thing"] (defScope s_is_integer) := ⟨rfl, rfl, rfl, by decide +kernel, rfl, by decide +kernel, by decide +kernel⟩
theorem sim_is_integer (g : G K mg)  : BodySim P w K mg base N_is_integer "is_integer" (defScope s_is_integer) f k (defBody s_is_integer) (b_is_integer) := fun cdv A outer s H E hr =>
  (sb_one (ss_ret (se_and (se_isi rfl g.n_isinstance sub_ty (sv_val (se_var 0)) (pe_tyN rfl g.n_int boot_int)) (se_one (se_not (se_isi rfl g.n_isinstance sub_ty (sv_val (se_var 0)) (pe_tyN rfl g.n_bool boot_bool)))))))

/-! is_within -/
abbrev s_is_within : Stmt := top 7
abbrev N_is_within : List Str := ["thing", "least", "most"]
abbrev b_is_within (F_is_integer : FF) : Sv := (sRet (eAnd (eCall 1 F_is_integer (aCons (aV (eVar 0)) aNil)) (eChain fLe fLe (eVar 1) (eVar 0) (eVar 2))))
theorem sc_is_within : FnScope N_is_within ["thing", "least", "most"] (defScope s_is_within) := ⟨rfl, rfl, rfl, by decide +kernel, rfl, by decide +kernel, by decide +kernel⟩
theorem sim_is_within (g : G K mg) {F_is_integer : FF} (i_is_integer : FnI P w K mg base "is_integer" 1 k F_is_integer) : BodySim P w K mg base N_is_within "is_within" (defScope s_is_within) f k (defBody s_is_within) (b_is_within F_is_integer) := fun cdv A outer s H E hr =>
  (sb_one (ss_ret (se_and (se_callI i_is_integer hr rfl tkOf (sa_cons (sv_val (se_var 0)) sa_nil)) (se_one (se_chain op_le os_le op_le os_le (se_var 1) (se_var 0) (se_var 2))))))

/-! is_pair -/
abbrev s_is_pair : Stmt := top 8
abbrev N_is_pair : List Str := ["thing"]
abbrev b_is_pair : Sv := (sRet (eAnd (eIsi sub [.ty "tuple"] (aV (eVar 0))) (e2 fEqA (eFn fLen (aCons (aV (eVar 0)) aNil)) (eC (.int 2)))))
theorem sc_is_pair : FnScope N_is_pair ["thing"] (defScope s_is_pair) := ⟨rfl, rfl, rfl, by decide +kernel, rfl, by decide +kernel, by decide +kernel⟩
theorem sim_is_pair (g : G K mg)  : BodySim P w K mg base N_is_pair "is_pair" (defScope s_is_pair) f k (defBody s_is_pair) (b_is_pair) := fun cdv A outer s H E hr =>
  (sb_one (ss_ret (se_and (se_isi rfl g.n_isinstance sub_ty (sv_val (se_var 0)) (pe_tyN rfl g.n_tuple boot_tuple)) (se_one (se_cmp (or_eqA hr.units) os_eqA (se_fnB cr_len2 fs_len rfl g.n_len boot_len (sa_cons (sv_val (se_var 0)) sa_nil)) se_int (nobehind _ (by decide) (by decide)))))))

/-! is_name -/
abbrev s_is_name : Stmt := top 9
abbrev N_is_name : List Str := ["thing", "sign"]
abbrev b_is_name : Sv := (sRet (eAnd (eIsi sub [.ty "str"] (aV (eVar 0))) (eAnd (eChain fLe fLe (eC (.int 1)) (eFn fLen (aCons (aV (eVar 0)) aNil)) (eC (.int 8))) (eFn fAll (aCons (aT (lComp (iAny (eVar 0)) (bN 1) tYesE (e2 (fIn false) (eVar 1) (eC (.str [97, 98, 99, 100, 101, 102, 103, 104, 105, 106, 107, 108, 109, 110, 111, 112, 113, 114, 115, 116, 117, 118, 119, 120, 121, 122]))) [1])) aNil)))))
theorem sc_is_name : FnScope N_is_name ["thing"] (defScope s_is_name) := ⟨rfl, rfl, rfl, by decide +kernel, rfl, by decide +kernel, by decide +kernel⟩
theorem sim_is_name (g : G K mg)  : BodySim P w K mg base N_is_name "is_name" (defScope s_is_name) f k (defBody s_is_name) (b_is_name) := fun cdv A outer s H E hr =>
  (sb_one (ss_ret (se_and (se_isi rfl g.n_isinstance sub_ty (sv_val (se_var 0)) (pe_tyN rfl g.n_str boot_str)) (se_and (se_chain op_le os_le op_le os_le se_int (se_fnB cr_len2 fs_len rfl g.n_len boot_len (sa_cons (sv_val (se_var 0)) sa_nil)) (se_gint rfl g.c_MOST_SIGNS)) (se_one (se_fnB (cr_all rfl) fs_all rfl g.n_all boot_all (sa_cons (sv_tmp (sl_comp (own := [("sign", 1)]) rfl (sc_is_name).nd (si_any (se_var 0)) (blkOk (N := N_is_name) (sc := defScope s_is_name) rfl (by decide +kernel)) (cg_name (by decide)) (fun _ _ _ _ _ => pg_name (sc_is_name).nd rfl (.inl rfl) (.inr rfl)) (fun _ _ _ _ _ => pts_yes) (fun _ _ _ _ _ => (se_cmp (or_in (u1 hr)) (os_in false) (se_var 1) (se_gstr rfl g.c_SMALL rfl) rfl)))) sa_nil)))))))

/-! is_kind_of_any_size -/
abbrev s_is_kind_of_any_size : Stmt := top 12
abbrev N_is_kind_of_any_size : List Str := ["thing", "waiting", "here"]
abbrev b_is_kind_of_any_size (F_is_pair F_is_within : FF) : Sv := (sSeq (sAsg (eNew (lLst (aCons (aV (eVar 0)) aNil))) (gN 1)) (sSeq (sWhile (tB1 (e2 fGt (eFn fLen (aCons (aV (eVar 1)) aNil)) (eC (.int 0)))) (sSeq (sAsg (eMt .lst mPop (eVar 1) aNil) (gN 2)) (sIf (tB1 (eCall 1 F_is_pair (aCons (aV (eVar 2)) aNil))) (sExpr (eMt .lst mExtend (eVar 1) (aCons (aV (eVar 2)) aNil))) (sIf (tNotE (tB1 (eCall 3 F_is_within (aCons (aV (eVar 2)) (aCons (aV (eC (.int 0))) (aCons (aV (eC (.int 25))) aNil)))))) (sRet (eC (.bl false))) sNext)))) (sRet (eC (.bl true)))))
theorem sc_is_kind_of_any_size : FnScope N_is_kind_of_any_size ["thing"] (defScope s_is_kind_of_any_size) := ⟨rfl, rfl, rfl, by decide +kernel, rfl, by decide +kernel, by decide +kernel⟩
theorem sim_is_kind_of_any_size (g : G K mg) {F_is_pair F_is_within : FF} (i_is_pair : FnI P w K mg base "is_pair" 1 k F_is_pair) (i_is_within : FnI P w K mg base "is_within" 3 k F_is_within) : BodySim P w K mg base N_is_kind_of_any_size "is_kind_of_any_size" (defScope s_is_kind_of_any_size) f k (defBody s_is_kind_of_any_size) (b_is_kind_of_any_size F_is_pair F_is_within) := fun cdv A outer s H E hr =>
  (sb_cons (ss_set (sc_is_kind_of_any_size).nd rfl (.inl rfl) (se_new (sl_lst (sa_cons (sv_val (se_var 0)) sa_nil)))) (sb_cons (ss_while poOf (st_cmp op_gt os_gt (se_fnB cr_len2 fs_len rfl g.n_len boot_len (sa_cons (sv_val (se_var 1)) sa_nil)) se_int (nobehind _ (by decide) (by decide))) (sb_cons (ss_set (sc_is_kind_of_any_size).nd rfl (.inl rfl) (se_bm0 (k := .lst) PySem.F.plainAttrs_list PySem.F.slot_list_pop PySem.F.type_list_pop mt_pop2 ms_pop (se_var 1))) (sb_one (ss_if (st_val (se_callI i_is_pair hr rfl tkOf (sa_cons (sv_val (se_var 2)) sa_nil))) (sb_one (ss_expr (se_bm (k := .lst) PySem.F.plainAttrs_list PySem.F.slot_list_extend PySem.F.type_list_extend mt_extend2 ms_extend (se_var 1) (sa_cons (sv_val (se_var 2)) sa_nil)))) (sb_one (ss_if (st_not (st_val (se_callI i_is_within hr rfl tkOf (sa_cons (sv_val (se_var 2)) (sa_cons (sv_val se_int) (sa_cons (sv_val (se_gint rfl g.c_LAST_LETTER)) sa_nil)))))) (sb_one (ss_ret se_bl)) sb_nil)))))) (sb_one (ss_ret se_bl))))

/-! is_take -/
abbrev s_is_take : Stmt := top 15
abbrev N_is_take : List Str := ["word"]
abbrev b_is_take : Sv := (sRet (eIsi sub [.ty "tuple"] (aV (eVar 0))))
theorem sc_is_take : FnScope N_is_take ["word"] (defScope s_is_take) := ⟨rfl, rfl, rfl, by decide +kernel, rfl, by decide +kernel, by decide +kernel⟩
theorem sim_is_take (g : G K mg)  : BodySim P w K mg base N_is_take "is_take" (defScope s_is_take) f k (defBody s_is_take) (b_is_take) := fun cdv A outer s H E hr =>
  (sb_one (ss_ret (se_isi rfl g.n_isinstance sub_ty (sv_val (se_var 0)) (pe_tyN rfl g.n_tuple boot_tuple))))

/-! is_word -/
abbrev s_is_word : Stmt := top 16
abbrev N_is_word : List Str := ["thing"]
abbrev b_is_word (F_is_pair F_is_name F_is_kind_of_any_size : FF) : Sv := (sSeq (sIf (tB1 (eCall 1 F_is_pair (aCons (aV (eVar 0)) aNil))) (sRet (eAnd (eCall 1 F_is_name (aCons (aV (e2 fIx (eVar 0) (eC (.int 0)))) aNil)) (eCall 1 F_is_kind_of_any_size (aCons (aV (e2 fIx (eVar 0) (eC (.int 1)))) aNil)))) sNext) (sRet (eAnd (eIsi sub [.ty "str"] (aV (eVar 0))) (eOr (e2 fEqA (eVar 0) (eC (.str [64]))) (eCall 1 F_is_name (aCons (aV (eVar 0)) aNil))))))
theorem sc_is_word : FnScope N_is_word ["thing"] (defScope s_is_word) := ⟨rfl, rfl, rfl, by decide +kernel, rfl, by decide +kernel, by decide +kernel⟩
theorem sim_is_word (g : G K mg) {F_is_pair F_is_name F_is_kind_of_any_size : FF} (i_is_pair : FnI P w K mg base "is_pair" 1 k F_is_pair) (i_is_name : FnI P w K mg base "is_name" 1 k F_is_name) (i_is_kind_of_any_size : FnI P w K mg base "is_kind_of_any_size" 1 k F_is_kind_of_any_size) : BodySim P w K mg base N_is_word "is_word" (defScope s_is_word) f k (defBody s_is_word) (b_is_word F_is_pair F_is_name F_is_kind_of_any_size) := fun cdv A outer s H E hr =>
  (sb_cons (ss_if (st_val (se_callI i_is_pair hr rfl tkOf (sa_cons (sv_val (se_var 0)) sa_nil))) (sb_one (ss_ret (se_and (se_callI i_is_name hr rfl tkOf (sa_cons (sv_val (se_ix (u1 hr) (se_var 0) se_int)) sa_nil)) (se_one (se_callI i_is_kind_of_any_size hr rfl tkOf (sa_cons (sv_val (se_ix (u1 hr) (se_var 0) se_int)) sa_nil)))))) sb_nil) (sb_one (ss_ret (se_and (se_isi rfl g.n_isinstance sub_ty (sv_val (se_var 0)) (pe_tyN rfl g.n_str boot_str)) (se_one (se_or (se_cmp (or_eqA hr.units) os_eqA (se_var 0) (se_gstr rfl g.c_USE rfl) (nobehind _ (by decide) (by decide))) (se_one (se_callI i_is_name hr rfl tkOf (sa_cons (sv_val (se_var 0)) sa_nil)))))))))

/-! is_whole -/
abbrev s_is_whole : Stmt := top 17
abbrev N_is_whole : List Str := ["words", "many", "word"]
abbrev b_is_whole (F_is_take : FF) : Sv := (sSeq (sAsg (eC (.int 0)) (gN 1)) (sSeq (sFor (iAny (eRev (eVar 0))) (gN 2) (sSeq (sIf (tNotE (tB1 (eCall 1 F_is_take (aCons (aV (eVar 2)) aNil)))) (sAug 1 (fII0 (fun i j => .int (i + j))) (eIf (tB1 (e2 fEqA (eVar 2) (eC (.str [64])))) (eNeg (eC (.int 1))) (eC (.int 1)))) sNext) (sIf (tB1 (e2 fLt (eVar 1) (eC (.int 1)))) (sRet (eC (.bl false))) sNext))) (sRet (e2 fEqA (eVar 1) (eC (.int 1))))))
theorem sc_is_whole : FnScope N_is_whole ["words"] (defScope s_is_whole) := ⟨rfl, rfl, rfl, by decide +kernel, rfl, by decide +kernel, by decide +kernel⟩
theorem sim_is_whole (g : G K mg) {F_is_take : FF} (i_is_take : FnI P w K mg base "is_take" 1 k F_is_take) : BodySim P w K mg base N_is_whole "is_whole" (defScope s_is_whole) f k (defBody s_is_whole) (b_is_whole F_is_take) := fun cdv A outer s H E hr =>
  (sb_cons (ss_set (sc_is_whole).nd rfl (.inl rfl) se_int) (sb_cons (ss_for poOf rfl (si_any (se_rev (se_var 0))) (sg_name (sc_is_whole).nd rfl (.inl rfl)) (sb_cons (ss_if (st_not (st_val (se_callI i_is_take hr rfl tkOf (sa_cons (sv_val (se_var 2)) sa_nil)))) (sb_one (ss_aug (sc_is_whole).nd rfl (.inl rfl) (se_if (st_cmp (or_eqA hr.units) os_eqA (se_var 2) (se_gstr rfl g.c_USE rfl) (nobehind _ (by decide) (by decide))) (se_neg se_int) se_int) iop_add (os_ii0 fun _ _ _ => rfl) (by intro v u h c fs h' e; exact nx_fII0 e))) sb_nil) (sb_one (ss_if (st_cmp op_lt os_lt (se_var 1) se_int (nobehind _ (by decide) (by decide))) (sb_one (ss_ret se_bl)) sb_nil)))) (sb_one (ss_ret (se_cmp (or_eqA hr.units) os_eqA (se_var 1) se_int (nobehind _ (by decide) (by decide)))))))

/-! check_program -/
abbrev s_check_program : Stmt := top 18
abbrev N_check_program : List Str := ["thing", "word"]
abbrev b_check_program (F_is_word F_is_whole : FF) : Sv := (sSeq (sIf (tOrE (tNotE (tB1 (eIsi sub [.ty "tuple"] (aV (eVar 0))))) (tOrE (tB1 (e2 fEqA (eFn fLen (aCons (aV (eVar 0)) aNil)) (eC (.int 0)))) (tNotE (tB1 (eFn fAll (aCons (aT (lComp (iAny (eVar 0)) (bN 1) tYesE (eCall 1 F_is_word (aCons (aV (eVar 1)) aNil)) [1])) aNil)))))) sDead sNext) (sIf (tNotE (tB1 (eCall 1 F_is_whole (aCons (aV (eVar 0)) aNil)))) sDead sNext))
theorem sc_check_program : FnScope N_check_program ["thing"] (defScope s_check_program) := ⟨rfl, rfl, rfl, by decide +kernel, rfl, by decide +kernel, by decide +kernel⟩
theorem sim_check_program (g : G K mg) {F_is_word F_is_whole : FF} (i_is_word : FnI P w K mg base "is_word" 1 k F_is_word) (i_is_whole : FnI P w K mg base "is_whole" 1 k F_is_whole) : BodySim P w K mg base N_check_program "check_program" (defScope s_check_program) f k (defBody s_check_program) (b_check_program F_is_word F_is_whole) := fun cdv A outer s H E hr =>
  (sb_cons (ss_if (st_w (st_or (st_not (st_val (se_isi rfl g.n_isinstance sub_ty (sv_val (se_var 0)) (pe_tyN rfl g.n_tuple boot_tuple)))) (st_or (st_cmp (or_eqA hr.units) os_eqA (se_fnB cr_len2 fs_len rfl g.n_len boot_len (sa_cons (sv_val (se_var 0)) sa_nil)) se_int (nobehind _ (by decide) (by decide))) (st_or1 (st_not (st_val (se_fnB (cr_all rfl) fs_all rfl g.n_all boot_all (sa_cons (sv_tmp (sl_comp (own := [("word", 1)]) rfl (sc_check_program).nd (si_any (se_var 0)) (blkOk (N := N_check_program) (sc := defScope s_check_program) rfl (by decide +kernel)) (cg_name (by decide)) (fun _ _ _ _ _ => pg_name (sc_check_program).nd rfl (.inl rfl) (.inr rfl)) (fun _ _ _ _ _ => pts_yes) (fun _ _ _ _ _ => (se_callI i_is_word hr rfl takes_no (sa_cons (sv_val (se_var 1)) sa_nil))))) sa_nil)))))))) (sb_one ss_dead) sb_nil) (sb_one (ss_if (st_not (st_val (se_callI i_is_whole hr rfl tkOf (sa_cons (sv_val (se_var 0)) sa_nil)))) (sb_one ss_dead) sb_nil)))

/-! ends_of -/
abbrev s_ends_of : Stmt := top 19
abbrev N_ends_of : List Str := ["words", "found", "waiting", "place", "end"]
abbrev b_ends_of (F_is_take : FF) : Sv := (sSeq (sAsg (e2 fMul (eNew (lLst (aCons (aV (eC (.int 0))) aNil))) (eFn fLen (aCons (aV (eVar 0)) aNil))) (gN 1)) (sSeq (sAsg (eNew (lLst aNil)) (gN 2)) (sSeq (sFor (iR3 (e2 fSub (eFn fLen (aCons (aV (eVar 0)) aNil)) (eC (.int 1))) (eNeg (eC (.int 1))) (eNeg (eC (.int 1)))) (gN 3) (sSeq (sAsg (e2 fAdd (eVar 3) (eC (.int 1))) (gN 4)) (sSeq (sIf (tB1 (e2 fEqA (e2 fIx (eVar 0) (eVar 3)) (eC (.str [64])))) (sSeq (sExpr (eMt .lst mPop (eVar 2) aNil)) (sAsg (eMt .lst mPop (eVar 2) aNil) (gN 4))) (sIf (tB1 (eCall 1 F_is_take (aCons (aV (e2 fIx (eVar 0) (eVar 3))) aNil))) (sAsg (eMt .lst mPop (eVar 2) aNil) (gN 4)) sNext)) (sSeq (sAsg (eVar 4) (gS (eVar 1) (eVar 3))) (sExpr (eMt .lst mAppend (eVar 2) (aCons (aV (eVar 4)) aNil))))))) (sRet (eVar 1)))))
theorem sc_ends_of : FnScope N_ends_of ["words"] (defScope s_ends_of) := ⟨rfl, rfl, rfl, by decide +kernel, rfl, by decide +kernel, by decide +kernel⟩
theorem sim_ends_of (g : G K mg) {F_is_take : FF} (i_is_take : FnI P w K mg base "is_take" 1 k F_is_take) : BodySim P w K mg base N_ends_of "ends_of" (defScope s_ends_of) f k (defBody s_ends_of) (b_ends_of F_is_take) := fun cdv A outer s H E hr =>
  (sb_cons (ss_set (sc_ends_of).nd rfl (.inl rfl) (se_bin or_mul os_mul (se_new (sl_lst (sa_cons (sv_val se_int) sa_nil))) (se_fnB cr_len2 fs_len rfl g.n_len boot_len (sa_cons (sv_val (se_var 0)) sa_nil)))) (sb_cons (ss_set (sc_ends_of).nd rfl (.inl rfl) (se_new (sl_lst sa_nil))) (sb_cons (ss_for poOf rfl (si_range3 rfl g.n_range (se_bin op_sub os_sub (se_fnB cr_len2 fs_len rfl g.n_len boot_len (sa_cons (sv_val (se_var 0)) sa_nil)) se_int) (se_neg se_int) (se_neg se_int)) (sg_name (sc_ends_of).nd rfl (.inl rfl)) (sb_cons (ss_set (sc_ends_of).nd rfl (.inl rfl) (se_bin or_add os_add (se_var 3) se_int)) (sb_cons (ss_if (st_cmp (or_eqA hr.units) os_eqA (se_ix (u1 hr) (se_var 0) (se_var 3)) (se_gstr rfl g.c_USE rfl) (nobehind _ (by decide) (by decide))) (sb_cons (ss_expr (se_bm0 (k := .lst) PySem.F.plainAttrs_list PySem.F.slot_list_pop PySem.F.type_list_pop mt_pop2 ms_pop (se_var 2))) (sb_one (ss_set (sc_ends_of).nd rfl (.inl rfl) (se_bm0 (k := .lst) PySem.F.plainAttrs_list PySem.F.slot_list_pop PySem.F.type_list_pop mt_pop2 ms_pop (se_var 2))))) (sb_one (ss_if (st_val (se_callI i_is_take hr rfl tkOf (sa_cons (sv_val (se_ix (u1 hr) (se_var 0) (se_var 3))) sa_nil))) (sb_one (ss_set (sc_ends_of).nd rfl (.inl rfl) (se_bm0 (k := .lst) PySem.F.plainAttrs_list PySem.F.slot_list_pop PySem.F.type_list_pop mt_pop2 ms_pop (se_var 2)))) sb_nil))) (sb_cons (ss_asg (se_var 4) (sg_sub (W := wx E) (u1 hr) (se_var 1) (se_var 3)) still_gS) (sb_one (ss_expr (se_bm (k := .lst) PySem.F.plainAttrs_list PySem.F.slot_list_append PySem.F.type_list_append mt_append ms_append (se_var 2) (sa_cons (sv_val (se_var 4)) sa_nil)))))))) (sb_one (ss_ret (se_var 1))))))

/-! takers_of -/
abbrev s_takers_of : Stmt := top 20
abbrev N_takers_of : List Str := ["words", "ends", "found", "around", "open_takes", "place", "word"]
abbrev b_takers_of (F_ends_of F_is_take : FF) : Sv := (sSeq (sAsg (eCall 1 F_ends_of (aCons (aV (eVar 0)) aNil)) (gN 1)) (sSeq (sAsg (eNew (lLst aNil)) (gN 2)) (sSeq (sAsg eDict0 (gN 3)) (sSeq (sAsg (eNew (lLst aNil)) (gN 4)) (sSeq (sFor (iEnumA (eVar 0)) (gT (gCons (gN 5) (gCons (gN 6) gNil))) (sSeq (sWhile (tAndE (tB1 (e2 fGt (eFn fLen (aCons (aV (eVar 4)) aNil)) (eC (.int 0)))) (tB1 (e2 fLe (e2 fIx (e2 fIx (eVar 4) (eNeg (eC (.int 1)))) (eC (.int 1))) (eVar 5)))) (sExpr (eMt .lst mPop (e2 fIx (eVar 3) (e2 fIx (eMt .lst mPop (eVar 4) aNil) (eC (.int 0)))) aNil))) (sSeq (sExpr (eMt .lst mAppend (eVar 2) (aCons (aV (eC .non)) aNil))) (sIf (tB1 (eCall 1 F_is_take (aCons (aV (eVar 6)) aNil))) (sSeq (sAsg (e2 fAdd (eGet2 (eVar 3) (e2 fIx (eVar 6) (eC (.int 0))) (eNew (lLst aNil))) (eNew (lLst (aCons (aV (eVar 5)) aNil)))) (gS (eVar 3) (e2 fIx (eVar 6) (eC (.int 0))))) (sExpr (eMt .lst mAppend (eVar 4) (aCons (aV (eTup (aCons (aV (e2 fIx (eVar 6) (eC (.int 0)))) (aCons (aV (e2 fIx (eVar 1) (eVar 5))) aNil)))) aNil)))) (sIf (tAndE (tB1 (e2 fNe (eVar 6) (eC (.str [64])))) (tB1 (e2 fGt (eFn fLen (aCons (aV (eGet2 (eVar 3) (eVar 6) (eNew (lLst aNil)))) aNil)) (eC (.int 0))))) (sAsg (e2 fIx (e2 fIx (eVar 3) (eVar 6)) (eNeg (eC (.int 1)))) (gS (eVar 2) (eVar 5))) sNext))))) (sRet (eVar 2)))))))
theorem sc_takers_of : FnScope N_takers_of ["words"] (defScope s_takers_of) := ⟨rfl, rfl, rfl, by decide +kernel, rfl, by decide +kernel, by decide +kernel⟩
theorem sim_takers_of (g : G K mg) {F_ends_of F_is_take : FF} (i_ends_of : FnI P w K mg base "ends_of" 1 k F_ends_of) (i_is_take : FnI P w K mg base "is_take" 1 k F_is_take) : BodySim P w K mg base N_takers_of "takers_of" (defScope s_takers_of) f k (defBody s_takers_of) (b_takers_of F_ends_of F_is_take) := fun cdv A outer s H E hr =>
  (sb_cons (ss_set (sc_takers_of).nd rfl (.inl rfl) (se_callI i_ends_of hr rfl tkOf (sa_cons (sv_val (se_var 0)) sa_nil))) (sb_cons (ss_set (sc_takers_of).nd rfl (.inl rfl) (se_new (sl_lst sa_nil))) (sb_cons (ss_set (sc_takers_of).nd rfl (.inl rfl) se_dict0) (sb_cons (ss_set (sc_takers_of).nd rfl (.inl rfl) (se_new (sl_lst sa_nil))) (sb_cons (ss_for poOf rfl (si_enumA rfl g.n_enumerate (se_var 0)) (sg_tup (n := 2) rfl (sgs_cons (sg_name (sc_takers_of).nd rfl (.inl rfl)) (sgs_cons (sg_name (sc_takers_of).nd rfl (.inl rfl)) sgs_nil)) (glen_cons (glen_cons (fun _ _ _ _ _ e => glen_nil e)))) (sb_cons (ss_while poOf (st_w (st_and (st_cmp op_gt os_gt (se_fnB cr_len2 fs_len rfl g.n_len boot_len (sa_cons (sv_val (se_var 4)) sa_nil)) se_int (nobehind _ (by decide) (by decide))) (st_and1 (st_cmp op_le os_le (se_ix (u1 hr) (se_ix (u1 hr) (se_var 4) (se_neg se_int)) se_int) (se_var 5) (nobehind _ (by decide) (by decide)))))) (sb_one (ss_expr (se_bm0 (k := .lst) PySem.F.plainAttrs_list PySem.F.slot_list_pop PySem.F.type_list_pop mt_pop2 ms_pop (se_ix (u1 hr) (se_var 3) (se_ix (u1 hr) (se_bm0 (k := .lst) PySem.F.plainAttrs_list PySem.F.slot_list_pop PySem.F.type_list_pop mt_pop2 ms_pop (se_var 4)) se_int)))))) (sb_cons (ss_expr (se_bm (k := .lst) PySem.F.plainAttrs_list PySem.F.slot_list_append PySem.F.type_list_append mt_append ms_append (se_var 2) (sa_cons (sv_val se_non) sa_nil))) (sb_one (ss_if (st_val (se_callI i_is_take hr rfl tkOf (sa_cons (sv_val (se_var 6)) sa_nil))) (sb_cons (ss_asg (se_bin or_add os_add (se_get2 (u1 hr) (se_var 3) (se_ix (u1 hr) (se_var 6) se_int) (se_new (sl_lst sa_nil)) ⟨rfl, rfl, rfl, rfl⟩) (se_new (sl_lst (sa_cons (sv_val (se_var 5)) sa_nil)))) (sg_sub (W := wx E) (u1 hr) (se_var 3) (se_ix (u1 hr) (se_var 6) se_int)) still_gS) (sb_one (ss_expr (se_bm (k := .lst) PySem.F.plainAttrs_list PySem.F.slot_list_append PySem.F.type_list_append mt_append ms_append (se_var 4) (sa_cons (sv_val (se_tup (sa_cons (sv_val (se_ix (u1 hr) (se_var 6) se_int)) (sa_cons (sv_val (se_ix (u1 hr) (se_var 1) (se_var 5))) sa_nil)))) sa_nil))))) (sb_one (ss_if (st_w (st_and (st_cmp (op_neD hr.units) os_ne (se_var 6) (se_gstr rfl g.c_USE rfl) (nobehind _ (by decide) (by decide))) (st_and1 (st_cmp op_gt os_gt (se_fnB cr_len2 fs_len rfl g.n_len boot_len (sa_cons (sv_val (se_get2 (u1 hr) (se_var 3) (se_var 6) (se_new (sl_lst sa_nil)) ⟨rfl, rfl, rfl, rfl⟩)) sa_nil)) se_int (nobehind _ (by decide) (by decide)))))) (sb_one (ss_asg (se_ix (u1 hr) (se_ix (u1 hr) (se_var 3) (se_var 6)) (se_neg se_int)) (sg_sub (W := wx E) (u1 hr) (se_var 2) (se_var 5)) still_gS)) sb_nil))))))) (sb_one (ss_ret (se_var 2))))))))

/-! is_open_at -/
abbrev s_is_open_at : Stmt := top 21
abbrev N_is_open_at : List Str := ["words", "takers", "place"]
abbrev b_is_open_at (F_is_take : FF) : Sv := (sRet (eAnd (eNot (eCall 1 F_is_take (aCons (aV (e2 fIx (eVar 0) (eVar 2))) aNil))) (eAnd (e2 fNe (e2 fIx (eVar 0) (eVar 2)) (eC (.str [64]))) (e2 fIs (e2 fIx (eVar 1) (eVar 2)) (eC .non)))))
theorem sc_is_open_at : FnScope N_is_open_at ["words", "takers", "place"] (defScope s_is_open_at) := ⟨rfl, rfl, rfl, by decide +kernel, rfl, by decide +kernel, by decide +kernel⟩
theorem sim_is_open_at (g : G K mg) {F_is_take : FF} (i_is_take : FnI P w K mg base "is_take" 1 k F_is_take) : BodySim P w K mg base N_is_open_at "is_open_at" (defScope s_is_open_at) f k (defBody s_is_open_at) (b_is_open_at F_is_take) := fun cdv A outer s H E hr =>
  (sb_one (ss_ret (se_and (se_not (se_callI i_is_take hr rfl tkOf (sa_cons (sv_val (se_ix (u1 hr) (se_var 0) (se_var 2))) sa_nil))) (se_and (se_cmp (op_neD hr.units) os_ne (se_ix (u1 hr) (se_var 0) (se_var 2)) (se_gstr rfl g.c_USE rfl) (nobehind _ (by decide) (by decide))) (se_one (se_cmp or_is os_is (se_ix (u1 hr) (se_var 1) (se_var 2)) se_non (nobehind _ (by decide) (by decide))))))))

/-! counts_of -/
abbrev s_counts_of : Stmt := top 22
abbrev N_counts_of : List Str := ["words", "takers", "found", "place", "word"]
abbrev b_counts_of (F_takers_of F_is_take F_is_open_at : FF) : Sv := (sSeq (sAsg (eCall 1 F_takers_of (aCons (aV (eVar 0)) aNil)) (gN 1)) (sSeq (sAsg (eDComp (iEnumA (eVar 0)) (bT [3, 4]) (tB1 (eCall 1 F_is_take (aCons (aV (eVar 4)) aNil))) (eVar 3) (eC (.int 0)) [3, 4]) (gN 2)) (sSeq (sFor (iEnumA (eVar 0)) (gT (gCons (gN 3) (gCons (gN 4) gNil))) (sIf (tB1 (e2 fIsNot (e2 fIx (eVar 1) (eVar 3)) (eC .non))) (sSubAug (fII0 (fun i j => .int (i + j))) (eVar 2) (e2 fIx (eVar 1) (eVar 3)) (eC (.int 1))) (sIf (tB1 (eCall 3 F_is_open_at (aCons (aV (eVar 0)) (aCons (aV (eVar 1)) (aCons (aV (eVar 3)) aNil))))) (sAsg (e2 fAdd (eGet2 (eVar 2) (eVar 4) (eC (.int 0))) (eC (.int 1))) (gS (eVar 2) (eVar 4))) sNext))) (sRet (eVar 2)))))
theorem sc_counts_of : FnScope N_counts_of ["words"] (defScope s_counts_of) := ⟨rfl, rfl, rfl, by decide +kernel, rfl, by decide +kernel, by decide +kernel⟩
theorem sim_counts_of (g : G K mg) {F_takers_of F_is_take F_is_open_at : FF} (i_takers_of : FnI P w K mg base "takers_of" 1 k F_takers_of) (i_is_take : FnI P w K mg base "is_take" 1 k F_is_take) (i_is_open_at : FnI P w K mg base "is_open_at" 3 k F_is_open_at) : BodySim P w K mg base N_counts_of "counts_of" (defScope s_counts_of) f k (defBody s_counts_of) (b_counts_of F_takers_of F_is_take F_is_open_at) := fun cdv A outer s H E hr =>
  (sb_cons (ss_set (sc_counts_of).nd rfl (.inl rfl) (se_callI i_takers_of hr rfl tkOf (sa_cons (sv_val (se_var 0)) sa_nil))) (sb_cons (ss_setDc rfl (sc_counts_of).nd rfl rfl (sw_dict rfl rfl rfl rfl) (si_enumA rfl g.n_enumerate (se_var 0)) (blkOk (N := N_counts_of) (sc := defScope s_counts_of) rfl (by decide +kernel)) (cg_tup (by decide)) (fun _ _ _ _ _ => pg_tup rfl (pgs_cons (pg_name (sc_counts_of).nd rfl (.inl rfl) (.inr rfl)) (pgs_cons (pg_name (sc_counts_of).nd rfl (.inl rfl) (.inr rfl)) pgs_nil))) (fun _ _ _ _ _ => pts_of (st_val (se_callI i_is_take hr rfl takes_no (sa_cons (sv_val (se_var 4)) sa_nil)))) (fun _ _ _ _ _ => (se_var 3)) (fun _ _ _ _ _ => se_int) (own := [("place", 3), ("word", 4)])) (sb_cons (ss_for poOf rfl (si_enumA rfl g.n_enumerate (se_var 0)) (sg_tup (n := 2) rfl (sgs_cons (sg_name (sc_counts_of).nd rfl (.inl rfl)) (sgs_cons (sg_name (sc_counts_of).nd rfl (.inl rfl)) sgs_nil)) (glen_cons (glen_cons (fun _ _ _ _ _ e => glen_nil e)))) (sb_one (ss_if (st_cmp or_isNot os_isNot (se_ix (u1 hr) (se_var 1) (se_var 3)) se_non (nobehind _ (by decide) (by decide))) (sb_one (ss_subaug (u1 hr) (se_var 2) (se_ix (u1 hr) (se_var 1) (se_var 3)) se_int iop_add (os_ii0 fun _ _ _ => rfl) (by intro v u h c fs h' e; exact nx_fII0 e))) (sb_one (ss_if (st_val (se_callI i_is_open_at hr rfl tkOf (sa_cons (sv_val (se_var 0)) (sa_cons (sv_val (se_var 1)) (sa_cons (sv_val (se_var 3)) sa_nil))))) (sb_one (ss_asg (se_bin or_add os_add (se_get2 (u1 hr) (se_var 2) (se_var 4) se_int ⟨rfl, rfl, rfl, rfl⟩) se_int) (sg_sub (W := wx E) (u1 hr) (se_var 2) (se_var 4)) still_gS)) sb_nil))))) (sb_one (ss_ret (se_var 2))))))

/-! counts -/
abbrev s_counts : Stmt := top 23
abbrev N_counts : List Str := ["program"]
abbrev b_counts (F_check_program F_counts_of : FF) : Sv := (sSeq (sExpr (eCall 1 F_check_program (aCons (aV (eVar 0)) aNil))) (sRet (eCall 1 F_counts_of (aCons (aV (eVar 0)) aNil))))
theorem sc_counts : FnScope N_counts ["program"] (defScope s_counts) := ⟨rfl, rfl, rfl, by decide +kernel, rfl, by decide +kernel, by decide +kernel⟩
theorem sim_counts (g : G K mg) {F_check_program F_counts_of : FF} (i_check_program : FnI P w K mg base "check_program" 1 k F_check_program) (i_counts_of : FnI P w K mg base "counts_of" 1 k F_counts_of) : BodySim P w K mg base N_counts "counts" (defScope s_counts) f k (defBody s_counts) (b_counts F_check_program F_counts_of) := fun cdv A outer s H E hr =>
  (sb_cons (ss_expr (se_callI i_check_program hr rfl tkOf (sa_cons (sv_val (se_var 0)) sa_nil))) (sb_one (ss_ret (se_callI i_counts_of hr rfl tkOf (sa_cons (sv_val (se_var 0)) sa_nil)))))

/-! _law_hand -/
abbrev s__law_hand : Stmt := top 25
abbrev N__law_hand : List Str := ["_law_script", "_law_cells", "_law_cell"]
abbrev b__law_hand : Sv := (sSeq (sAsg (eNew (lComp (iAny (eSl (eVar 0) oNone (oSome (eC (.int 63))))) (bN 2) tYesE (eFn (fV1 gAbs) (aCons (aV (eFn (fV1 gInt) (aCons (aV (eVar 2)) aNil))) aNil)) [2])) (gN 1)) (sRet (eNew (lLst (aCons (aV (eVar 1)) (aCons (aV (eC (.int 0))) (aCons (aV (eC (.int 0))) (aCons (aV (e2 fAdd (eC (.int 1)) (eFn fLen (aCons (aV (eVar 1)) aNil)))) (aCons (aV (eC (.int 0))) aNil)))))))))
theorem sc__law_hand : FnScope N__law_hand ["_law_script"] (defScope s__law_hand) := ⟨rfl, rfl, rfl, by decide +kernel, rfl, by decide +kernel, by decide +kernel⟩
theorem sim__law_hand (g : G K mg)  : BodySim P w K mg base N__law_hand "_law_hand" (defScope s__law_hand) f k (defBody s__law_hand) (b__law_hand) := fun cdv A outer s H E hr =>
  (sb_cons (ss_setLc rfl (sc__law_hand).nd rfl rfl (sw_true rfl rfl rfl rfl) (si_any (se_sl (se_var 0) so_none (so_some se_int))) (blkOk (N := N__law_hand) (sc := defScope s__law_hand) rfl (by decide +kernel)) (cg_name (by decide)) (fun _ _ _ _ _ => pg_name (sc__law_hand).nd rfl (.inl rfl) (.inr rfl)) (fun _ _ _ _ _ => pts_yes) (fun _ _ _ _ _ => (se_fnB call_abs fs_abs rfl g.n_abs boot_abs (sa_cons (sv_val (se_fnT call_int1 fs_int rfl g.n_int boot_int (sa_cons (sv_val (se_var 2)) sa_nil))) sa_nil))) (own := [("_law_cell", 2)])) (sb_one (ss_ret (se_new (sl_lst (sa_cons (sv_val (se_var 1)) (sa_cons (sv_val se_int) (sa_cons (sv_val se_int) (sa_cons (sv_val (se_bin or_add os_add se_int (se_fnB cr_len2 fs_len rfl g.n_len boot_len (sa_cons (sv_val (se_var 1)) sa_nil)))) (sa_cons (sv_val se_int) sa_nil))))))))))

/-! _law_draw -/
abbrev s__law_draw : Stmt := top 26
abbrev N__law_draw : List Str := ["_law_hand_here", "_law_many", "_law_cell", "_law_digit", "_law_number"]
abbrev b__law_draw : Sv := (sSeq (sIf (tAndE (tB1 (e2 fEqA (e2 fIx (eVar 0) (eC (.int 2))) (eC (.int 0)))) (tB1 (e2 fLt (e2 fIx (eVar 0) (eC (.int 1))) (eFn fLen (aCons (aV (e2 fIx (eVar 0) (eC (.int 0)))) aNil))))) (sSeq (sAsg (e2 fIx (e2 fIx (eVar 0) (eC (.int 0))) (e2 fIx (eVar 0) (eC (.int 1)))) (gN 2)) (sSeq (sAsg (e2 fAdd (e2 fIx (eVar 0) (eC (.int 1))) (eC (.int 1))) (gS (eVar 0) (eC (.int 1)))) (sSeq (sAsg (e2 fMod (eFn (fV1 gInt) (aCons (aV (e2 fAdd (e2 fAdd (e2 fMul (e2 fIx (eVar 0) (eC (.int 3))) (eC (.int 69621))) (eVar 2)) (eC (.int 11)))) aNil)) (eC (.int 2147483629))) (gS (eVar 0) (eC (.int 3)))) (sIf (tB1 (e2 fGe (eVar 2) (e2 fPow (eC (.int 10)) (eC (.int 18))))) (sAsg (eVar 2) (gS (eVar 0) (eC (.int 2)))) sNext)))) sNext) (sSeq (sIf (tB1 (e2 fGt (e2 fIx (eVar 0) (eC (.int 2))) (eC (.int 0)))) (sSeq (sAsg (e2 fMod (eFn (fV1 gInt) (aCons (aV (e2 fIx (eVar 0) (eC (.int 2)))) aNil)) (eVar 1)) (gN 3)) (sSeq (sAsg (e2 fDiv (e2 fIx (eVar 0) (eC (.int 2))) (eVar 1)) (gS (eVar 0) (eC (.int 2)))) (sRet (eVar 3)))) sNext) (sSeq (sAsg (e2 fAdd (e2 fIx (eVar 0) (eC (.int 4))) (eC (.int 1))) (gS (eVar 0) (eC (.int 4)))) (sSeq (sAsg (e2 fMod (eFn (fV1 gInt) (aCons (aV (e2 fMul (eFn (fV1 gInt) (aCons (aV (e2 fAdd (e2 fIx (eVar 0) (eC (.int 3))) (e2 fMul (eC (.int 7919)) (e2 fIx (eVar 0) (eC (.int 4)))))) aNil)) (eC (.int 48271)))) aNil)) (eC (.int 2147483647))) (gN 4)) (sSeq (sAsg (e2 fMod (eFn (fV1 gInt) (aCons (aV (e2 fMul (eVar 4) (e2 fAdd (e2 fDiv (eVar 4) (eC (.int 1009))) (eC (.int 69621))))) aNil)) (eC (.int 2147483647))) (gN 4)) (sSeq (sAsg (e2 fMod (eFn (fV1 gInt) (aCons (aV (e2 fMul (eVar 4) (e2 fAdd (e2 fDiv (eVar 4) (eC (.int 2003))) (eC (.int 40692))))) aNil)) (eC (.int 2147483399))) (gN 4)) (sRet (e2 fMod (eFn (fV1 gInt) (aCons (aV (e2 fDiv (eVar 4) (eC (.int 16)))) aNil)) (eVar 1)))))))))
theorem sc__law_draw : FnScope N__law_draw ["_law_hand_here", "_law_many"] (defScope s__law_draw) := ⟨rfl, rfl, rfl, by decide +kernel, rfl, by decide +kernel, by decide +kernel⟩
theorem sim__law_draw (g : G K mg)  : BodySim P w K mg base N__law_draw "_law_draw" (defScope s__law_draw) f k (defBody s__law_draw) (b__law_draw) := fun cdv A outer s H E hr =>
  (sb_cons (ss_if (st_w (st_and (st_cmp (or_eqA hr.units) os_eqA (se_ix (u1 hr) (se_var 0) se_int) se_int (nobehind _ (by decide) (by decide))) (st_and1 (st_cmp op_lt os_lt (se_ix (u1 hr) (se_var 0) se_int) (se_fnB cr_len2 fs_len rfl g.n_len boot_len (sa_cons (sv_val (se_ix (u1 hr) (se_var 0) se_int)) sa_nil)) (nobehind _ (by decide) (by decide)))))) (sb_cons (ss_set (sc__law_draw).nd rfl (.inl rfl) (se_ix (u1 hr) (se_ix (u1 hr) (se_var 0) se_int) (se_ix (u1 hr) (se_var 0) se_int))) (sb_cons (ss_asg (se_bin or_add os_add (se_ix (u1 hr) (se_var 0) se_int) se_int) (sg_sub (W := wx E) (u1 hr) (se_var 0) se_int) still_gS) (sb_cons (ss_asg (se_bin op_mod os_mod (se_fnT call_int1 fs_int rfl g.n_int boot_int (sa_cons (sv_val (se_bin or_add os_add (se_bin or_add os_add (se_bin or_mul os_mul (se_ix (u1 hr) (se_var 0) se_int) se_int) (se_var 2)) se_int)) sa_nil)) se_int) (sg_sub (W := wx E) (u1 hr) (se_var 0) se_int) still_gS) (sb_one (ss_if (st_cmp op_ge os_ge (se_var 2) (se_bin op_pow os_pow se_int se_int) (nobehind _ (by decide) (by decide))) (sb_one (ss_asg (se_var 2) (sg_sub (W := wx E) (u1 hr) (se_var 0) se_int) still_gS)) sb_nil))))) sb_nil) (sb_cons (ss_if (st_cmp op_gt os_gt (se_ix (u1 hr) (se_var 0) se_int) se_int (nobehind _ (by decide) (by decide))) (sb_cons (ss_set (sc__law_draw).nd rfl (.inl rfl) (se_bin op_mod os_mod (se_fnT call_int1 fs_int rfl g.n_int boot_int (sa_cons (sv_val (se_ix (u1 hr) (se_var 0) se_int)) sa_nil)) (se_var 1))) (sb_cons (ss_asg (se_bin op_fdiv os_div (se_ix (u1 hr) (se_var 0) se_int) (se_var 1)) (sg_sub (W := wx E) (u1 hr) (se_var 0) se_int) still_gS) (sb_one (ss_ret (se_var 3))))) sb_nil) (sb_cons (ss_asg (se_bin or_add os_add (se_ix (u1 hr) (se_var 0) se_int) se_int) (sg_sub (W := wx E) (u1 hr) (se_var 0) se_int) still_gS) (sb_cons (ss_set (sc__law_draw).nd rfl (.inl rfl) (se_bin op_mod os_mod (se_fnT call_int1 fs_int rfl g.n_int boot_int (sa_cons (sv_val (se_bin or_mul os_mul (se_fnT call_int1 fs_int rfl g.n_int boot_int (sa_cons (sv_val (se_bin or_add os_add (se_ix (u1 hr) (se_var 0) se_int) (se_bin or_mul os_mul se_int (se_ix (u1 hr) (se_var 0) se_int)))) sa_nil)) se_int)) sa_nil)) se_int)) (sb_cons (ss_set (sc__law_draw).nd rfl (.inl rfl) (se_bin op_mod os_mod (se_fnT call_int1 fs_int rfl g.n_int boot_int (sa_cons (sv_val (se_bin or_mul os_mul (se_var 4) (se_bin or_add os_add (se_bin op_fdiv os_div (se_var 4) se_int) se_int))) sa_nil)) se_int)) (sb_cons (ss_set (sc__law_draw).nd rfl (.inl rfl) (se_bin op_mod os_mod (se_fnT call_int1 fs_int rfl g.n_int boot_int (sa_cons (sv_val (se_bin or_mul os_mul (se_var 4) (se_bin or_add os_add (se_bin op_fdiv os_div (se_var 4) se_int) se_int))) sa_nil)) se_int)) (sb_one (ss_ret (se_bin op_mod os_mod (se_fnT call_int1 fs_int rfl g.n_int boot_int (sa_cons (sv_val (se_bin op_fdiv os_div (se_var 4) se_int)) sa_nil)) (se_var 1))))))))))

/-! _law_some -/
abbrev s__law_some : Stmt := top 27
abbrev N__law_some : List Str := ["_law_hand_here", "_law_things"]
abbrev b__law_some (F__law_draw : FF) : Sv := (sRet (e2 fIx (eVar 1) (eCall 2 F__law_draw (aCons (aV (eVar 0)) (aCons (aV (eFn fLen (aCons (aV (eVar 1)) aNil))) aNil)))))
theorem sc__law_some : FnScope N__law_some ["_law_hand_here", "_law_things"] (defScope s__law_some) := ⟨rfl, rfl, rfl, by decide +kernel, rfl, by decide +kernel, by decide +kernel⟩
theorem sim__law_some (g : G K mg) {F__law_draw : FF} (i__law_draw : FnI P w K mg base "_law_draw" 2 k F__law_draw) : BodySim P w K mg base N__law_some "_law_some" (defScope s__law_some) f k (defBody s__law_some) (b__law_some F__law_draw) := fun cdv A outer s H E hr =>
  (sb_one (ss_ret (se_ix (u1 hr) (se_var 1) (se_callI i__law_draw hr rfl tkOf (sa_cons (sv_val (se_var 0)) (sa_cons (sv_val (se_fnB cr_len2 fs_len rfl g.n_len boot_len (sa_cons (sv_val (se_var 1)) sa_nil))) sa_nil))))))

/-! _law_shuffled -/
abbrev s__law_shuffled : Stmt := top 28
abbrev N__law_shuffled : List Str := ["_law_hand_here", "_law_things", "_law_pool", "_law_found"]
abbrev b__law_shuffled (F__law_draw : FF) : Sv := (sSeq (sAsg (eNew (eFn fList (aCons (aV (eVar 1)) aNil))) (gN 2)) (sSeq (sAsg (eNew (lLst aNil)) (gN 3)) (sSeq (sWhile (tB1 (e2 fGt (eFn fLen (aCons (aV (eVar 2)) aNil)) (eC (.int 0)))) (sExpr (eMt .lst mAppend (eVar 3) (aCons (aV (eMt .lst mPop (eVar 2) (aCons (aV (eCall 2 F__law_draw (aCons (aV (eVar 0)) (aCons (aV (eFn fLen (aCons (aV (eVar 2)) aNil))) aNil)))) aNil))) aNil)))) (sRet (eVar 3)))))
theorem sc__law_shuffled : FnScope N__law_shuffled ["_law_hand_here", "_law_things"] (defScope s__law_shuffled) := ⟨rfl, rfl, rfl, by decide +kernel, rfl, by decide +kernel, by decide +kernel⟩
theorem sim__law_shuffled (g : G K mg) {F__law_draw : FF} (i__law_draw : FnI P w K mg base "_law_draw" 2 k F__law_draw) : BodySim P w K mg base N__law_shuffled "_law_shuffled" (defScope s__law_shuffled) f k (defBody s__law_shuffled) (b__law_shuffled F__law_draw) := fun cdv A outer s H E hr =>
  (sb_cons (ss_set (sc__law_shuffled).nd rfl (.inl rfl) (se_new (sl_fnT (cr_list2 rfl) fs_list rfl g.n_list boot_list (sa_cons (sv_val (se_var 1)) sa_nil)))) (sb_cons (ss_set (sc__law_shuffled).nd rfl (.inl rfl) (se_new (sl_lst sa_nil))) (sb_cons (ss_while poOf (st_cmp op_gt os_gt (se_fnB cr_len2 fs_len rfl g.n_len boot_len (sa_cons (sv_val (se_var 2)) sa_nil)) se_int (nobehind _ (by decide) (by decide))) (sb_one (ss_expr (se_bm (k := .lst) PySem.F.plainAttrs_list PySem.F.slot_list_append PySem.F.type_list_append mt_append ms_append (se_var 3) (sa_cons (sv_val (se_bm (k := .lst) PySem.F.plainAttrs_list PySem.F.slot_list_pop PySem.F.type_list_pop mt_pop2 ms_pop (se_var 2) (sa_cons (sv_val (se_callI i__law_draw hr rfl tkOf (sa_cons (sv_val (se_var 0)) (sa_cons (sv_val (se_fnB cr_len2 fs_len rfl g.n_len boot_len (sa_cons (sv_val (se_var 2)) sa_nil))) sa_nil)))) sa_nil))) sa_nil))))) (sb_one (ss_ret (se_var 3))))))

/-! _law_is -/
abbrev s__law_is : Stmt := top 29
abbrev N__law_is : List Str := ["_law_told", "_law_due_here", "_law_k", "_law_key"]
abbrev b__law_is (F__law_is : FF) : Sv := (sSeq (sIf (tB1 (eIsi sub [.ty "tuple", .ty "list"] (aV (eVar 1)))) (sSeq (sIf (tOrE (tB1 (e2 fNe (eIsi sub [.ty "tuple"] (aV (eVar 0))) (eIsi sub [.ty "tuple"] (aV (eVar 1))))) (tB1 (e2 fNe (eIsi sub [.ty "list"] (aV (eVar 0))) (eIsi sub [.ty "list"] (aV (eVar 1)))))) (sRet (eC (.bl false))) sNext) (sRet (eAnd (e2 fEqA (eFn fLen (aCons (aV (eVar 0)) aNil)) (eFn fLen (aCons (aV (eVar 1)) aNil))) (eFn fAll (aCons (aT (lComp (iR1 (eFn fLen (aCons (aV (eVar 1)) aNil))) (bN 2) tYesE (eCall 2 F__law_is (aCons (aV (e2 fIx (eVar 0) (eVar 2))) (aCons (aV (e2 fIx (eVar 1) (eVar 2))) aNil))) [2])) aNil))))) sNext) (sSeq (sIf (tB1 (eIsi sub [.ty "dict"] (aV (eVar 1)))) (sRet (eAnd (eIsi sub [.ty "dict"] (aV (eVar 0))) (eAnd (e2 fEqA (eVar 0) (eVar 1)) (eFn fAll (aCons (aT (lLock 1 (lComp (iAny (eVar 1)) (bN 3) tYesE (eCall 2 F__law_is (aCons (aV (e2 fIx (eVar 0) (eVar 3))) (aCons (aV (e2 fIx (eVar 1) (eVar 3))) aNil))) [3]))) aNil))))) sNext) (sRet (eAnd (e2 fEqA (eIsi sub [.ty "bool"] (aV (eVar 0))) (eIsi sub [.ty "bool"] (aV (eVar 1)))) (e2 fEqA (eVar 0) (eVar 1))))))
theorem sc__law_is : FnScope N__law_is ["_law_told", "_law_due_here"] (defScope s__law_is) := ⟨rfl, rfl, rfl, by decide +kernel, rfl, by decide +kernel, by decide +kernel⟩
theorem sim__law_is (g : G K mg) {F__law_is : FF} (i__law_is : FnI P w K mg base "_law_is" 2 k F__law_is) : BodySim P w K mg base N__law_is "_law_is" (defScope s__law_is) f k (defBody s__law_is) (b__law_is F__law_is) := fun cdv A outer s H E hr =>
  (sb_cons (ss_if (st_val (se_isiT rfl g.n_isinstance (by intro c hc; first | (simp only [List.mem_cons, List.not_mem_nil, or_false] at hc; rcases hc with rfl | rfl <;> exact sub_ty)) (sv_val (se_var 1)) (pa_cons (pe_tyN rfl g.n_tuple boot_tuple) (pa_cons (pe_tyN rfl g.n_list boot_list) pa_nil)) (by decide))) (sb_cons (ss_if (st_w (st_or (st_cmp (op_neD hr.units) os_ne (se_isi rfl g.n_isinstance sub_ty (sv_val (se_var 0)) (pe_tyN rfl g.n_tuple boot_tuple)) (se_isi rfl g.n_isinstance sub_ty (sv_val (se_var 1)) (pe_tyN rfl g.n_tuple boot_tuple)) (nobehind _ (by decide) (by decide))) (st_or1 (st_cmp (op_neD hr.units) os_ne (se_isi rfl g.n_isinstance sub_ty (sv_val (se_var 0)) (pe_tyN rfl g.n_list boot_list)) (se_isi rfl g.n_isinstance sub_ty (sv_val (se_var 1)) (pe_tyN rfl g.n_list boot_list)) (nobehind _ (by decide) (by decide)))))) (sb_one (ss_ret se_bl)) sb_nil) (sb_one (ss_ret (se_and (se_cmp (or_eqA hr.units) os_eqA (se_fnB cr_len2 fs_len rfl g.n_len boot_len (sa_cons (sv_val (se_var 0)) sa_nil)) (se_fnB cr_len2 fs_len rfl g.n_len boot_len (sa_cons (sv_val (se_var 1)) sa_nil)) (nobehind _ (by decide) (by decide))) (se_one (se_fnB (cr_all rfl) fs_all rfl g.n_all boot_all (sa_cons (sv_tmp (sl_comp (own := [("_law_k", 2)]) rfl (sc__law_is).nd (si_range1 rfl g.n_range (se_fnB cr_len2 fs_len rfl g.n_len boot_len (sa_cons (sv_val (se_var 1)) sa_nil))) (blkOk (N := N__law_is) (sc := defScope s__law_is) rfl (by decide +kernel)) (cg_name (by decide)) (fun _ _ _ _ _ => pg_name (sc__law_is).nd rfl (.inl rfl) (.inr rfl)) (fun _ _ _ _ _ => pts_yes) (fun _ _ _ _ _ => (se_callI i__law_is hr rfl takes_no (sa_cons (sv_val (se_ix (u1 hr) (se_var 0) (se_var 2))) (sa_cons (sv_val (se_ix (u1 hr) (se_var 1) (se_var 2))) sa_nil)))))) sa_nil))))))) sb_nil) (sb_cons (ss_if (st_val (se_isi rfl g.n_isinstance sub_ty (sv_val (se_var 1)) (pe_tyN rfl g.n_dict boot_dict))) (sb_one (ss_ret (se_and (se_isi rfl g.n_isinstance sub_ty (sv_val (se_var 0)) (pe_tyN rfl g.n_dict boot_dict)) (se_and (se_cmp (or_eqA hr.units) os_eqA (se_var 0) (se_var 1) (nobehind _ (by decide) (by decide))) (se_one (se_fnB (cr_all rfl) fs_all rfl g.n_all boot_all (sa_cons (sv_tmp (sl_lock (i := 1) (sl_comp (own := [("_law_key", 3)]) rfl (sc__law_is).nd (si_any (se_var 1)) (blkOk (N := N__law_is) (sc := defScope s__law_is) rfl (by decide +kernel)) (cg_name (by decide)) (fun _ _ _ _ _ => pg_name (sc__law_is).nd rfl (.inl rfl) (.inr rfl)) (fun _ _ _ _ _ => pts_yes) (fun _ _ _ _ _ => (se_callI i__law_is hr rfl takes_no (sa_cons (sv_val (se_ix (u1 hr) (se_var 0) (se_var 3))) (sa_cons (sv_val (se_ix (u1 hr) (se_var 1) (se_var 3))) sa_nil))))))) sa_nil))))))) sb_nil) (sb_one (ss_ret (se_and (se_cmp (or_eqA hr.units) os_eqA (se_isi rfl g.n_isinstance sub_ty (sv_val (se_var 0)) (pe_tyN rfl g.n_bool boot_bool)) (se_isi rfl g.n_isinstance sub_ty (sv_val (se_var 1)) (pe_tyN rfl g.n_bool boot_bool)) (nobehind _ (by decide) (by decide))) (se_one (se_cmp (or_eqA hr.units) os_eqA (se_var 0) (se_var 1) (nobehind _ (by decide) (by decide)))))))))

/-! _law_kind -/
abbrev s__law_kind : Stmt := top 30
abbrev N__law_kind : List Str := ["_law_hand_here", "_law_deep"]
abbrev b__law_kind (F__law_draw F__law_kind : FF) : Sv := (sSeq (sIf (tOrE (tB1 (e2 fEqA (eVar 1) (eC (.int 0)))) (tB1 (e2 fEqA (eCall 2 F__law_draw (aCons (aV (eVar 0)) (aCons (aV (eC (.int 3))) aNil))) (eC (.int 0))))) (sRet (eCall 2 F__law_draw (aCons (aV (eVar 0)) (aCons (aV (e2 fAdd (eC (.int 2)) (eFn (fV1 gInt) (aCons (aV (e2 fEqA (eCall 2 F__law_draw (aCons (aV (eVar 0)) (aCons (aV (eC (.int 8))) aNil))) (eC (.int 0)))) aNil)))) aNil)))) sNext) (sRet (eTup (aCons (aV (eCall 2 F__law_kind (aCons (aV (eVar 0)) (aCons (aV (e2 fSub (eVar 1) (eC (.int 1)))) aNil)))) (aCons (aV (eCall 2 F__law_kind (aCons (aV (eVar 0)) (aCons (aV (e2 fSub (eVar 1) (eC (.int 1)))) aNil)))) aNil)))))
theorem sc__law_kind : FnScope N__law_kind ["_law_hand_here", "_law_deep"] (defScope s__law_kind) := ⟨rfl, rfl, rfl, by decide +kernel, rfl, by decide +kernel, by decide +kernel⟩
theorem sim__law_kind (g : G K mg) {F__law_draw F__law_kind : FF} (i__law_draw : FnI P w K mg base "_law_draw" 2 k F__law_draw) (i__law_kind : FnI P w K mg base "_law_kind" 2 k F__law_kind) : BodySim P w K mg base N__law_kind "_law_kind" (defScope s__law_kind) f k (defBody s__law_kind) (b__law_kind F__law_draw F__law_kind) := fun cdv A outer s H E hr =>
  (sb_cons (ss_if (st_w (st_or (st_cmp (or_eqA hr.units) os_eqA (se_var 1) se_int (nobehind _ (by decide) (by decide))) (st_or1 (st_cmp (or_eqA hr.units) os_eqA (se_callI i__law_draw hr rfl tkOf (sa_cons (sv_val (se_var 0)) (sa_cons (sv_val se_int) sa_nil))) se_int (nobehind _ (by decide) (by decide)))))) (sb_one (ss_ret (se_callI i__law_draw hr rfl tkOf (sa_cons (sv_val (se_var 0)) (sa_cons (sv_val (se_bin or_add os_add se_int (se_fnT call_int1 fs_int rfl g.n_int boot_int (sa_cons (sv_val (se_cmp (or_eqA hr.units) os_eqA (se_callI i__law_draw hr rfl tkOf (sa_cons (sv_val (se_var 0)) (sa_cons (sv_val se_int) sa_nil))) se_int (nobehind _ (by decide) (by decide)))) sa_nil)))) sa_nil))))) sb_nil) (sb_one (ss_ret (se_tup (sa_cons (sv_val (se_callI i__law_kind hr rfl tkOf (sa_cons (sv_val (se_var 0)) (sa_cons (sv_val (se_bin op_sub os_sub (se_var 1) se_int)) sa_nil)))) (sa_cons (sv_val (se_callI i__law_kind hr rfl tkOf (sa_cons (sv_val (se_var 0)) (sa_cons (sv_val (se_bin op_sub os_sub (se_var 1) se_int)) sa_nil)))) sa_nil))))))

/-! _law_ends -/
abbrev s__law_ends : Stmt := top 31
abbrev N__law_ends : List Str := ["_law_kind_here", "_law_found"]
abbrev b__law_ends : Sv := (sSeq (sAsg (eNew (lLst aNil)) (gN 1)) (sSeq (sWhile (tB1 (eIsi sub [.ty "tuple"] (aV (eVar 0)))) (sSeq (sExpr (eMt .lst mAppend (eVar 1) (aCons (aV (e2 fIx (eVar 0) (eC (.int 0)))) aNil))) (sAsg (e2 fIx (eVar 0) (eC (.int 1))) (gN 0)))) (sRet (eTup (aCons (aV (eVar 1)) (aCons (aV (eVar 0)) aNil))))))
theorem sc__law_ends : FnScope N__law_ends ["_law_kind_here"] (defScope s__law_ends) := ⟨rfl, rfl, rfl, by decide +kernel, rfl, by decide +kernel, by decide +kernel⟩
theorem sim__law_ends (g : G K mg)  : BodySim P w K mg base N__law_ends "_law_ends" (defScope s__law_ends) f k (defBody s__law_ends) (b__law_ends) := fun cdv A outer s H E hr =>
  (sb_cons (ss_set (sc__law_ends).nd rfl (.inl rfl) (se_new (sl_lst sa_nil))) (sb_cons (ss_while poOf (st_val (se_isi rfl g.n_isinstance sub_ty (sv_val (se_var 0)) (pe_tyN rfl g.n_tuple boot_tuple))) (sb_cons (ss_expr (se_bm (k := .lst) PySem.F.plainAttrs_list PySem.F.slot_list_append PySem.F.type_list_append mt_append ms_append (se_var 1) (sa_cons (sv_val (se_ix (u1 hr) (se_var 0) se_int)) sa_nil))) (sb_one (ss_set (sc__law_ends).nd rfl (.inl rfl) (se_ix (u1 hr) (se_var 0) se_int))))) (sb_one (ss_ret (se_tup (sa_cons (sv_val (se_var 1)) (sa_cons (sv_val (se_var 0)) sa_nil)))))))

/-! _law_known -/
abbrev s__law_known : Stmt := top 32
abbrev N__law_known : List Str := ["_law_hand_here", "_law_many", "_law_names", "_law_name"]
abbrev b__law_known (F__law_shuffled F__law_kind : FF) : Sv := (sSeq (sAsg (eSl (eCall 2 F__law_shuffled (aCons (aV (eVar 0)) (aCons (aV (eNew (lLst (aCons (aV (eC (.str [102]))) (aCons (aV (eC (.str [103]))) (aCons (aV (eC (.str [104]))) (aCons (aV (eC (.str [109]))) (aCons (aV (eC (.str [110]))) (aCons (aV (eC (.str [111, 110, 101]))) (aCons (aV (eC (.str [116, 119, 111]))) (aCons (aV (eC (.str [116, 104, 114, 101, 101]))) (aCons (aV (eC (.str [97, 98, 99, 100, 101, 102, 103, 104]))) aNil)))))))))))) aNil))) oNone (oSome (eVar 1))) (gN 2)) (sRet (eFn fTuple (aCons (aT (lComp (iAny (eVar 2)) (bN 3) tYesE (eTup (aCons (aV (eVar 3)) (aCons (aV (eCall 2 F__law_kind (aCons (aV (eVar 0)) (aCons (aV (eC (.int 2))) aNil)))) aNil))) [3])) aNil))))
theorem sc__law_known : FnScope N__law_known ["_law_hand_here", "_law_many"] (defScope s__law_known) := ⟨rfl, rfl, rfl, by decide +kernel, rfl, by decide +kernel, by decide +kernel⟩
theorem sim__law_known (g : G K mg) {F__law_shuffled F__law_kind : FF} (i__law_shuffled : FnI P w K mg base "_law_shuffled" 2 k F__law_shuffled) (i__law_kind : FnI P w K mg base "_law_kind" 2 k F__law_kind) : BodySim P w K mg base N__law_known "_law_known" (defScope s__law_known) f k (defBody s__law_known) (b__law_known F__law_shuffled F__law_kind) := fun cdv A outer s H E hr =>
  (sb_cons (ss_set (sc__law_known).nd rfl (.inl rfl) (se_sl (se_callI i__law_shuffled hr rfl tkOf (sa_cons (sv_val (se_var 0)) (sa_cons (sv_val (se_new (sl_lst (sa_cons (sv_val (se_str rfl)) (sa_cons (sv_val (se_str rfl)) (sa_cons (sv_val (se_str rfl)) (sa_cons (sv_val (se_str rfl)) (sa_cons (sv_val (se_str rfl)) (sa_cons (sv_val (se_str rfl)) (sa_cons (sv_val (se_str rfl)) (sa_cons (sv_val (se_str rfl)) (sa_cons (sv_val (se_str rfl)) sa_nil)))))))))))) sa_nil))) so_none (so_some (se_var 1)))) (sb_one (ss_ret (se_fnT call_tupleN fs_tuple rfl g.n_tuple boot_tuple (sa_cons (sv_tmp (sl_comp (own := [("_law_name", 3)]) rfl (sc__law_known).nd (si_any (se_var 2)) (blkOk (N := N__law_known) (sc := defScope s__law_known) rfl (by decide +kernel)) (cg_name (by decide)) (fun _ _ _ _ _ => pg_name (sc__law_known).nd rfl (.inl rfl) (.inr rfl)) (fun _ _ _ _ _ => pts_yes) (fun _ _ _ _ _ => (se_tup (sa_cons (sv_val (se_var 3)) (sa_cons (sv_val (se_callI i__law_kind hr rfl takes_no (sa_cons (sv_val (se_var 0)) (sa_cons (sv_val se_int) sa_nil)))) sa_nil)))))) sa_nil)))))

/-! _law_some_program -/
abbrev s__law_some_program : Stmt := top 33
abbrev N__law_some_program : List Str := ["_law_hand_here", "_law_known_here", "_law_deep", "_law_turn", "_law_found", "_law_name", "_law_kind_here"]
abbrev b__law_some_program (F__law_draw F__law_loose F__law_fit F__law_kind : FF) : Sv := (sSeq (sFor (iR1 (eC (.int 6))) (gN 3) (sSeq (sIf (tB1 (e2 fEqA (eCall 2 F__law_draw (aCons (aV (eVar 0)) (aCons (aV (eC (.int 4))) aNil))) (eC (.int 0)))) (sAsg (eCall 3 F__law_loose (aCons (aV (eVar 0)) (aCons (aV (e2 fAdd (eNew (lComp (iAny (eVar 1)) (bT [5, 6]) tYesE (eVar 5) [5, 6])) (eNew (lLst (aCons (aV (eC (.str [120]))) (aCons (aV (eC (.str [121]))) (aCons (aV (eC (.str [122]))) aNil))))))) (aCons (aV (eVar 2)) aNil)))) (gN 4)) (sAsg (eCall 4 F__law_fit (aCons (aV (eVar 0)) (aCons (aV (eFn fDict (aCons (aV (eVar 1)) aNil))) (aCons (aV (eCall 2 F__law_kind (aCons (aV (eVar 0)) (aCons (aV (eC (.int 2))) aNil)))) (aCons (aV (eVar 2)) aNil))))) (gN 4))) (sIf (tB1 (e2 fLe (eFn fLen (aCons (aV (eVar 4)) aNil)) (eC (.int 60)))) (sRet (eVar 4)) sNext))) (sRet (eTup (aCons (aV (eTup (aCons (aV (eC (.str [120]))) (aCons (aV (eC (.int 0))) aNil)))) (aCons (aV (eC (.str [120]))) aNil)))))
theorem sc__law_some_program : FnScope N__law_some_program ["_law_hand_here", "_law_known_here", "_law_deep"] (defScope s__law_some_program) := ⟨rfl, rfl, rfl, by decide +kernel, rfl, by decide +kernel, by decide +kernel⟩
theorem sim__law_some_program (g : G K mg) {F__law_draw F__law_loose F__law_fit F__law_kind : FF} (i__law_draw : FnI P w K mg base "_law_draw" 2 k F__law_draw) (i__law_loose : FnI P w K mg base "_law_loose" 3 k F__law_loose) (i__law_fit : FnI P w K mg base "_law_fit" 4 k F__law_fit) (i__law_kind : FnI P w K mg base "_law_kind" 2 k F__law_kind) : BodySim P w K mg base N__law_some_program "_law_some_program" (defScope s__law_some_program) f k (defBody s__law_some_program) (b__law_some_program F__law_draw F__law_loose F__law_fit F__law_kind) := fun cdv A outer s H E hr =>
  (sb_cons (ss_for poOf rfl (si_range1 rfl g.n_range se_int) (sg_name (sc__law_some_program).nd rfl (.inl rfl)) (sb_cons (ss_if (st_cmp (or_eqA hr.units) os_eqA (se_callI i__law_draw hr rfl tkOf (sa_cons (sv_val (se_var 0)) (sa_cons (sv_val se_int) sa_nil))) se_int (nobehind _ (by decide) (by decide))) (sb_one (ss_set (sc__law_some_program).nd rfl (.inl rfl) (se_callI i__law_loose hr rfl tkOf (sa_cons (sv_val (se_var 0)) (sa_cons (sv_val (se_bin or_add os_add (se_new (sl_comp (own := [("_law_name", 5), ("_law_kind_here", 6)]) rfl (sc__law_some_program).nd (si_any (se_var 1)) (blkOk (N := N__law_some_program) (sc := defScope s__law_some_program) rfl (by decide +kernel)) (cg_tup (by decide)) (fun _ _ _ _ _ => pg_tup rfl (pgs_cons (pg_name (sc__law_some_program).nd rfl (.inl rfl) (.inr rfl)) (pgs_cons (pg_name (sc__law_some_program).nd rfl (.inl rfl) (.inr rfl)) pgs_nil))) (fun _ _ _ _ _ => pts_yes) (fun _ _ _ _ _ => (se_var 5)))) (se_new (sl_lst (sa_cons (sv_val (se_str rfl)) (sa_cons (sv_val (se_str rfl)) (sa_cons (sv_val (se_str rfl)) sa_nil))))))) (sa_cons (sv_val (se_var 2)) sa_nil)))))) (sb_one (ss_set (sc__law_some_program).nd rfl (.inl rfl) (se_callI i__law_fit hr rfl tkOf (sa_cons (sv_val (se_var 0)) (sa_cons (sv_val (se_fnT (cr_dict3 rfl) fs_dict rfl g.n_dict boot_dict (sa_cons (sv_val (se_var 1)) sa_nil))) (sa_cons (sv_val (se_callI i__law_kind hr rfl tkOf (sa_cons (sv_val (se_var 0)) (sa_cons (sv_val se_int) sa_nil)))) (sa_cons (sv_val (se_var 2)) sa_nil)))))))) (sb_one (ss_if (st_cmp op_le os_le (se_fnB cr_len2 fs_len rfl g.n_len boot_len (sa_cons (sv_val (se_var 4)) sa_nil)) se_int (nobehind _ (by decide) (by decide))) (sb_one (ss_ret (se_var 4))) sb_nil)))) (sb_one (ss_ret (se_tup (sa_cons (sv_val (se_tup (sa_cons (sv_val (se_str rfl)) (sa_cons (sv_val se_int) sa_nil)))) (sa_cons (sv_val (se_str rfl)) sa_nil))))))

/-! _law_spans -/
abbrev s__law_spans : Stmt := top 34
abbrev N__law_spans : List Str := ["_law_words", "_law_found", "_law_waiting", "_law_place", "_law_last"]
abbrev b__law_spans : Sv := (sSeq (sAsg (e2 fMul (eNew (lLst (aCons (aV (eC (.int 0))) aNil))) (eFn fLen (aCons (aV (eVar 0)) aNil))) (gN 1)) (sSeq (sAsg (eNew (lLst aNil)) (gN 2)) (sSeq (sFor (iR3 (e2 fSub (eFn fLen (aCons (aV (eVar 0)) aNil)) (eC (.int 1))) (eNeg (eC (.int 1))) (eNeg (eC (.int 1)))) (gN 3) (sSeq (sAsg (e2 fAdd (eVar 3) (eC (.int 1))) (gN 4)) (sSeq (sIf (tB1 (e2 fEqA (e2 fIx (eVar 0) (eVar 3)) (eC (.str [64])))) (sSeq (sExpr (eMt .lst mPop (eVar 2) aNil)) (sAsg (eMt .lst mPop (eVar 2) aNil) (gN 4))) (sIf (tB1 (eIsi sub [.ty "tuple"] (aV (e2 fIx (eVar 0) (eVar 3))))) (sAsg (eMt .lst mPop (eVar 2) aNil) (gN 4)) sNext)) (sSeq (sAsg (eVar 4) (gS (eVar 1) (eVar 3))) (sExpr (eMt .lst mAppend (eVar 2) (aCons (aV (eVar 4)) aNil))))))) (sRet (eVar 1)))))
theorem sc__law_spans : FnScope N__law_spans ["_law_words"] (defScope s__law_spans) := ⟨rfl, rfl, rfl, by decide +kernel, rfl, by decide +kernel, by decide +kernel⟩
theorem sim__law_spans (g : G K mg)  : BodySim P w K mg base N__law_spans "_law_spans" (defScope s__law_spans) f k (defBody s__law_spans) (b__law_spans) := fun cdv A outer s H E hr =>
  (sb_cons (ss_set (sc__law_spans).nd rfl (.inl rfl) (se_bin or_mul os_mul (se_new (sl_lst (sa_cons (sv_val se_int) sa_nil))) (se_fnB cr_len2 fs_len rfl g.n_len boot_len (sa_cons (sv_val (se_var 0)) sa_nil)))) (sb_cons (ss_set (sc__law_spans).nd rfl (.inl rfl) (se_new (sl_lst sa_nil))) (sb_cons (ss_for poOf rfl (si_range3 rfl g.n_range (se_bin op_sub os_sub (se_fnB cr_len2 fs_len rfl g.n_len boot_len (sa_cons (sv_val (se_var 0)) sa_nil)) se_int) (se_neg se_int) (se_neg se_int)) (sg_name (sc__law_spans).nd rfl (.inl rfl)) (sb_cons (ss_set (sc__law_spans).nd rfl (.inl rfl) (se_bin or_add os_add (se_var 3) se_int)) (sb_cons (ss_if (st_cmp (or_eqA hr.units) os_eqA (se_ix (u1 hr) (se_var 0) (se_var 3)) (se_str rfl) (nobehind _ (by decide) (by decide))) (sb_cons (ss_expr (se_bm0 (k := .lst) PySem.F.plainAttrs_list PySem.F.slot_list_pop PySem.F.type_list_pop mt_pop2 ms_pop (se_var 2))) (sb_one (ss_set (sc__law_spans).nd rfl (.inl rfl) (se_bm0 (k := .lst) PySem.F.plainAttrs_list PySem.F.slot_list_pop PySem.F.type_list_pop mt_pop2 ms_pop (se_var 2))))) (sb_one (ss_if (st_val (se_isi rfl g.n_isinstance sub_ty (sv_val (se_ix (u1 hr) (se_var 0) (se_var 3))) (pe_tyN rfl g.n_tuple boot_tuple))) (sb_one (ss_set (sc__law_spans).nd rfl (.inl rfl) (se_bm0 (k := .lst) PySem.F.plainAttrs_list PySem.F.slot_list_pop PySem.F.type_list_pop mt_pop2 ms_pop (se_var 2)))) sb_nil))) (sb_cons (ss_asg (se_var 4) (sg_sub (W := wx E) (u1 hr) (se_var 1) (se_var 3)) still_gS) (sb_one (ss_expr (se_bm (k := .lst) PySem.F.plainAttrs_list PySem.F.slot_list_append PySem.F.type_list_append mt_append ms_append (se_var 2) (sa_cons (sv_val (se_var 4)) sa_nil)))))))) (sb_one (ss_ret (se_var 1))))))

/-! _law_owners -/
abbrev s__law_owners : Stmt := top 35
abbrev N__law_owners : List Str := ["_law_words", "_law_spans_here", "_law_takes_here", "_law_found", "_law_place", "_law_word", "_law_some_here", "_law_at"]
abbrev b__law_owners (F__law_spans : FF) : Sv := (sSeq (sAsg (eCall 1 F__law_spans (aCons (aV (eVar 0)) aNil)) (gN 1)) (sSeq (sAsg (eNew (lComp (iR1 (eFn fLen (aCons (aV (eVar 0)) aNil))) (bN 7) (tB1 (eIsi sub [.ty "tuple"] (aV (e2 fIx (eVar 0) (eVar 7))))) (eVar 7) [7])) (gN 2)) (sSeq (sAsg (eNew (lLst aNil)) (gN 3)) (sSeq (sFor (iEnumA (eVar 0)) (gT (gCons (gN 4) (gCons (gN 5) gNil))) (sSeq (sAsg (eNew (lComp (iAny (eVar 2)) (bN 7) (tAndE (tB1 (eChain fLt fLt (eVar 7) (eVar 4) (e2 fIx (eVar 1) (eVar 7)))) (tB1 (e2 fEqA (e2 fIx (e2 fIx (eVar 0) (eVar 7)) (eC (.int 0))) (eVar 5)))) (eVar 7) [7])) (gN 6)) (sExpr (eMt .lst mAppend (eVar 3) (aCons (aV (eIf (tAndE (tB1 (eIsi sub [.ty "str"] (aV (eVar 5)))) (tB1 (e2 fGt (eFn fLen (aCons (aV (eVar 6)) aNil)) (eC (.int 0))))) (eFn fMax (aCons (aV (eVar 6)) aNil)) (eC .non))) aNil))))) (sRet (eVar 3))))))
theorem sc__law_owners : FnScope N__law_owners ["_law_words"] (defScope s__law_owners) := ⟨rfl, rfl, rfl, by decide +kernel, rfl, by decide +kernel, by decide +kernel⟩
theorem sim__law_owners (g : G K mg) {F__law_spans : FF} (i__law_spans : FnI P w K mg base "_law_spans" 1 k F__law_spans) : BodySim P w K mg base N__law_owners "_law_owners" (defScope s__law_owners) f k (defBody s__law_owners) (b__law_owners F__law_spans) := fun cdv A outer s H E hr =>
  (sb_cons (ss_set (sc__law_owners).nd rfl (.inr rfl) (se_callI i__law_spans hr rfl tkOf (sa_cons (sv_val (se_var 0)) sa_nil))) (sb_cons (ss_setLc rfl (sc__law_owners).nd rfl rfl (sw_true rfl rfl rfl rfl) (si_range1 rfl g.n_range (se_fnB cr_len2 fs_len rfl g.n_len boot_len (sa_cons (sv_val (se_var 0)) sa_nil))) (blkOk (N := N__law_owners) (sc := defScope s__law_owners) rfl (by decide +kernel)) (cg_name (by decide)) (fun _ _ _ _ _ => pg_name (sc__law_owners).nd rfl (.inl rfl) (.inr rfl)) (fun _ _ _ _ _ => pts_of (st_val (se_isi rfl g.n_isinstance sub_ty (sv_val (se_ix (u1 hr) (se_var 0) (se_var 7))) (pe_tyN rfl g.n_tuple boot_tuple)))) (fun _ _ _ _ _ => (se_var 7)) (own := [("_law_at", 7)])) (sb_cons (ss_set (sc__law_owners).nd rfl (.inl rfl) (se_new (sl_lst sa_nil))) (sb_cons (ss_for poOf rfl (si_enumA rfl g.n_enumerate (se_var 0)) (sg_tup (n := 2) rfl (sgs_cons (sg_name (sc__law_owners).nd rfl (.inr rfl)) (sgs_cons (sg_name (sc__law_owners).nd rfl (.inr rfl)) sgs_nil)) (glen_cons (glen_cons (fun _ _ _ _ _ e => glen_nil e)))) (sb_cons (ss_setLc rfl (sc__law_owners).nd rfl rfl (sw_true rfl rfl rfl rfl) (si_any (se_var 2)) (blkOk (N := N__law_owners) (sc := defScope s__law_owners) rfl (by decide +kernel)) (cg_name (by decide)) (fun _ _ _ _ _ => pg_name (sc__law_owners).nd rfl (.inl rfl) (.inr rfl)) (fun _ _ _ _ _ => pts_of (st_w (st_and (st_chain op_lt os_lt op_lt os_lt (se_var 7) (se_var 4) (se_ix (u1 hr) (se_var 1) (se_var 7))) (st_and1 (st_cmp (or_eqA hr.units) os_eqA (se_ix (u1 hr) (se_ix (u1 hr) (se_var 0) (se_var 7)) se_int) (se_var 5) (nobehind _ (by decide) (by decide))))))) (fun _ _ _ _ _ => (se_var 7)) (own := [("_law_at", 7)])) (sb_one (ss_expr (se_bm (k := .lst) PySem.F.plainAttrs_list PySem.F.slot_list_append PySem.F.type_list_append mt_append ms_append (se_var 3) (sa_cons (sv_val (se_if (st_w (st_and (st_val (se_isi rfl g.n_isinstance sub_ty (sv_val (se_var 5)) (pe_tyN rfl g.n_str boot_str))) (st_and1 (st_cmp op_gt os_gt (se_fnB cr_len2 fs_len rfl g.n_len boot_len (sa_cons (sv_val (se_var 6)) sa_nil)) se_int (nobehind _ (by decide) (by decide)))))) (se_fnB (cr_maxB rfl) fs_max rfl g.n_max boot_max (sa_cons (sv_val (se_var 6)) sa_nil)) se_non)) sa_nil)))))) (sb_one (ss_ret (se_var 3)))))))

/-! _law_is_open -/
abbrev s__law_is_open : Stmt := top 36
abbrev N__law_is_open : List Str := ["_law_words", "_law_owners_here", "_law_place"]
abbrev b__law_is_open : Sv := (sRet (eAnd (eIsi sub [.ty "str"] (aV (e2 fIx (eVar 0) (eVar 2)))) (eAnd (e2 fNe (e2 fIx (eVar 0) (eVar 2)) (eC (.str [64]))) (e2 fIs (e2 fIx (eVar 1) (eVar 2)) (eC .non)))))
theorem sc__law_is_open : FnScope N__law_is_open ["_law_words", "_law_owners_here", "_law_place"] (defScope s__law_is_open) := ⟨rfl, rfl, rfl, by decide +kernel, rfl, by decide +kernel, by decide +kernel⟩
theorem sim__law_is_open (g : G K mg)  : BodySim P w K mg base N__law_is_open "_law_is_open" (defScope s__law_is_open) f k (defBody s__law_is_open) (b__law_is_open) := fun cdv A outer s H E hr =>
  (sb_one (ss_ret (se_and (se_isi rfl g.n_isinstance sub_ty (sv_val (se_ix (u1 hr) (se_var 0) (se_var 2))) (pe_tyN rfl g.n_str boot_str)) (se_and (se_cmp (op_neD hr.units) os_ne (se_ix (u1 hr) (se_var 0) (se_var 2)) (se_str rfl) (nobehind _ (by decide) (by decide))) (se_one (se_cmp or_is os_is (se_ix (u1 hr) (se_var 1) (se_var 2)) se_non (nobehind _ (by decide) (by decide))))))))

/-! _law_open -/
abbrev s__law_open : Stmt := top 37
abbrev N__law_open : List Str := ["_law_words", "_law_owners_here", "_law_place"]
abbrev b__law_open (F__law_owners F__law_is_open : FF) : Sv := (sSeq (sAsg (eCall 1 F__law_owners (aCons (aV (eVar 0)) aNil)) (gN 1)) (sRet (eNew (eFn fSetSorted (aCons (aT (lComp (iR1 (eFn fLen (aCons (aV (eVar 0)) aNil))) (bN 2) (tB1 (eCall 3 F__law_is_open (aCons (aV (eVar 0)) (aCons (aV (eVar 1)) (aCons (aV (eVar 2)) aNil))))) (e2 fIx (eVar 0) (eVar 2)) [2])) aNil)))))
theorem sc__law_open : FnScope N__law_open ["_law_words"] (defScope s__law_open) := ⟨rfl, rfl, rfl, by decide +kernel, rfl, by decide +kernel, by decide +kernel⟩
theorem sim__law_open (g : G K mg) {F__law_owners F__law_is_open : FF} (i__law_owners : FnI P w K mg base "_law_owners" 1 k F__law_owners) (i__law_is_open : FnI P w K mg base "_law_is_open" 3 k F__law_is_open) : BodySim P w K mg base N__law_open "_law_open" (defScope s__law_open) f k (defBody s__law_open) (b__law_open F__law_owners F__law_is_open) := fun cdv A outer s H E hr =>
  (sb_cons (ss_set (sc__law_open).nd rfl (.inr rfl) (se_callI i__law_owners hr rfl tkOf (sa_cons (sv_val (se_var 0)) sa_nil))) (sb_one (ss_ret (se_new (sl_setSorted rfl rfl g.n_sorted rfl g.n_set (sa_cons (sv_tmp (sl_comp (own := [("_law_place", 2)]) rfl (sc__law_open).nd (si_range1 rfl g.n_range (se_fnB cr_len2 fs_len rfl g.n_len boot_len (sa_cons (sv_val (se_var 0)) sa_nil))) (blkOk (N := N__law_open) (sc := defScope s__law_open) rfl (by decide +kernel)) (cg_name (by decide)) (fun _ _ _ _ _ => pg_name (sc__law_open).nd rfl (.inl rfl) (.inr rfl)) (fun _ _ _ _ _ => pts_of (st_val (se_callI i__law_is_open hr rfl takes_no (sa_cons (sv_val (se_var 0)) (sa_cons (sv_val (se_var 1)) (sa_cons (sv_val (se_var 2)) sa_nil)))))) (fun _ _ _ _ _ => (se_ix (u1 hr) (se_var 0) (se_var 2))))) sa_nil))))))

/-! _law_standing -/
abbrev s__law_standing : Stmt := top 38
abbrev N__law_standing : List Str := ["_law_words", "_law_name", "_law_owners_here", "_law_place"]
abbrev b__law_standing (F__law_owners F__law_is_open : FF) : Sv := (sSeq (sAsg (eCall 1 F__law_owners (aCons (aV (eVar 0)) aNil)) (gN 2)) (sRet (eFn fLen (aCons (aT (lComp (iR1 (eFn fLen (aCons (aV (eVar 0)) aNil))) (bN 3) (tAndE (tB1 (eCall 3 F__law_is_open (aCons (aV (eVar 0)) (aCons (aV (eVar 2)) (aCons (aV (eVar 3)) aNil))))) (tB1 (e2 fEqA (e2 fIx (eVar 0) (eVar 3)) (eVar 1)))) (eVar 3) [3])) aNil))))
theorem sc__law_standing : FnScope N__law_standing ["_law_words", "_law_name"] (defScope s__law_standing) := ⟨rfl, rfl, rfl, by decide +kernel, rfl, by decide +kernel, by decide +kernel⟩
theorem sim__law_standing (g : G K mg) {F__law_owners F__law_is_open : FF} (i__law_owners : FnI P w K mg base "_law_owners" 1 k F__law_owners) (i__law_is_open : FnI P w K mg base "_law_is_open" 3 k F__law_is_open) : BodySim P w K mg base N__law_standing "_law_standing" (defScope s__law_standing) f k (defBody s__law_standing) (b__law_standing F__law_owners F__law_is_open) := fun cdv A outer s H E hr =>
  (sb_cons (ss_set (sc__law_standing).nd rfl (.inr rfl) (se_callI i__law_owners hr rfl tkOf (sa_cons (sv_val (se_var 0)) sa_nil))) (sb_one (ss_ret (se_fnB cr_len2 fs_len rfl g.n_len boot_len (sa_cons (sv_tmp (sl_comp (own := [("_law_place", 3)]) rfl (sc__law_standing).nd (si_range1 rfl g.n_range (se_fnB cr_len2 fs_len rfl g.n_len boot_len (sa_cons (sv_val (se_var 0)) sa_nil))) (blkOk (N := N__law_standing) (sc := defScope s__law_standing) rfl (by decide +kernel)) (cg_name (by decide)) (fun _ _ _ _ _ => pg_name (sc__law_standing).nd rfl (.inl rfl) (.inr rfl)) (fun _ _ _ _ _ => pts_of (st_w (st_and (st_val (se_callI i__law_is_open hr rfl takes_no (sa_cons (sv_val (se_var 0)) (sa_cons (sv_val (se_var 2)) (sa_cons (sv_val (se_var 3)) sa_nil))))) (st_and1 (st_cmp (or_eqA hr.units) os_eqA (se_ix (u1 hr) (se_var 0) (se_var 3)) (se_var 1) (nobehind _ (by decide) (by decide))))))) (fun _ _ _ _ _ => (se_var 3)))) sa_nil)))))

/-! _law_heads -/
abbrev s__law_heads : Stmt := top 39
abbrev N__law_heads : List Str := ["_law_inner", "_law_end", "_law_deep", "_law_found", "_law_name"]
abbrev b__law_heads (F__law_ends : FF) : Sv := (sSeq (sAsg (eNew (lLst aNil)) (gN 3)) (sSeq (sFor (iTmp (eFn fSorted (aCons (aV (eVar 0)) aNil))) (gN 4) (sIf (tAndE (tB1 (e2 fEqA (e2 fIx (eCall 1 F__law_ends (aCons (aV (e2 fIx (eVar 0) (eVar 4))) aNil)) (eC (.int 1))) (eVar 1))) (tOrE (tB1 (e2 fGt (eVar 2) (eC (.int 0)))) (tNotE (tB1 (eIsi sub [.ty "tuple"] (aV (e2 fIx (eVar 0) (eVar 4)))))))) (sExpr (eMt .lst mAppend (eVar 3) (aCons (aV (eVar 4)) aNil))) sNext)) (sRet (eVar 3))))
theorem sc__law_heads : FnScope N__law_heads ["_law_inner", "_law_end", "_law_deep"] (defScope s__law_heads) := ⟨rfl, rfl, rfl, by decide +kernel, rfl, by decide +kernel, by decide +kernel⟩
theorem sim__law_heads (g : G K mg) {F__law_ends : FF} (i__law_ends : FnI P w K mg base "_law_ends" 1 k F__law_ends) : BodySim P w K mg base N__law_heads "_law_heads" (defScope s__law_heads) f k (defBody s__law_heads) (b__law_heads F__law_ends) := fun cdv A outer s H E hr =>
  (sb_cons (ss_set (sc__law_heads).nd rfl (.inl rfl) (se_new (sl_lst sa_nil))) (sb_cons (ss_for poOf rfl (si_tmp (sl_fnB (cr_sort4 rfl) fs_sorted rfl g.n_sorted boot_sorted (sa_cons (sv_val (se_var 0)) sa_nil))) (sg_name (sc__law_heads).nd rfl (.inl rfl)) (sb_one (ss_if (st_w (st_and (st_cmp (or_eqA hr.units) os_eqA (se_ix (u1 hr) (se_callI i__law_ends hr rfl tkOf (sa_cons (sv_val (se_ix (u1 hr) (se_var 0) (se_var 4))) sa_nil)) se_int) (se_var 1) (nobehind _ (by decide) (by decide))) (st_and1 (st_w (st_or (st_cmp op_gt os_gt (se_var 2) se_int (nobehind _ (by decide) (by decide))) (st_or1 (st_not (st_val (se_isi rfl g.n_isinstance sub_ty (sv_val (se_ix (u1 hr) (se_var 0) (se_var 4))) (pe_tyN rfl g.n_tuple boot_tuple)))))))))) (sb_one (ss_expr (se_bm (k := .lst) PySem.F.plainAttrs_list PySem.F.slot_list_append PySem.F.type_list_append mt_append ms_append (se_var 3) (sa_cons (sv_val (se_var 4)) sa_nil)))) sb_nil))) (sb_one (ss_ret (se_var 3)))))

/-! _law_fit -/
abbrev s__law_fit : Stmt := top 40
abbrev N__law_fit : List Str := ["_law_hand_here", "_law_known_here", "_law_kind_here", "_law_deep", "_law_lefts", "_law_end", "_law_inner", "_law_taken", "_law_left", "_law_name", "_law_some_here", "_law_found", "_law_wider", "_law_body"]
abbrev b__law_fit (F__law_ends F__law_some F__law_heads F__law_fit F__law_draw F__law_kind : FF) : Sv := (sSeq (sAsg (eCall 1 F__law_ends (aCons (aV (eVar 2)) aNil)) (gT (gCons (gN 4) (gCons (gN 5) gNil)))) (sSeq (sAsg (eFn fDict (aCons (aV (eVar 1)) aNil)) (gN 6)) (sSeq (sAsg (eTup aNil) (gN 7)) (sSeq (sFor (iAny (eVar 4)) (gN 8) (sSeq (sAsg (eCall 2 F__law_some (aCons (aV (eVar 0)) (aCons (aV (eNew (lLst (aCons (aV (eC (.str [120]))) (aCons (aV (eC (.str [121]))) (aCons (aV (eC (.str [122]))) (aCons (aV (eC (.str [120]))) (aCons (aV (eC (.str [117]))) (aCons (aV (eC (.str [118]))) aNil))))))))) aNil))) (gN 9)) (sSeq (sAsg (e2 fAdd (eVar 7) (eTup (aCons (aV (eTup (aCons (aV (eVar 9)) (aCons (aV (eVar 8)) aNil)))) aNil))) (gN 7)) (sAsg (eVar 8) (gS (eVar 6) (eVar 9)))))) (sSeq (sAsg (eCall 3 F__law_heads (aCons (aV (eVar 6)) (aCons (aV (eVar 5)) (aCons (aV (eVar 3)) aNil)))) (gN 10)) (sSeq (sIf (tB1 (e2 fEqA (eFn fLen (aCons (aV (eVar 10)) aNil)) (eC (.int 0)))) (sRet (e2 fAdd (eVar 7) (eTup (aCons (aV (eCall 2 F__law_some (aCons (aV (eVar 0)) (aCons (aV (e2 fAdd (eNew (eFn fSorted (aCons (aV (eVar 6)) aNil))) (eNew (lLst (aCons (aV (eC (.str [119]))) aNil))))) aNil)))) aNil)))) sNext) (sSeq (sAsg (eCall 2 F__law_some (aCons (aV (eVar 0)) (aCons (aV (eVar 10)) aNil))) (gN 9)) (sSeq (sAsg (eTup (aCons (aV (eVar 9)) aNil)) (gN 11)) (sSeq (sFor (iAny (e2 fIx (eCall 1 F__law_ends (aCons (aV (e2 fIx (eVar 6) (eVar 9))) aNil)) (eC (.int 0)))) (gN 8) (sAsg (e2 fAdd (e2 fAdd (eTup (aCons (aV (eC (.str [64]))) aNil)) (eVar 11)) (eCall 4 F__law_fit (aCons (aV (eVar 0)) (aCons (aV (eVar 6)) (aCons (aV (eVar 8)) (aCons (aV (e2 fSub (eVar 3) (eC (.int 1)))) aNil)))))) (gN 11))) (sSeq (sIf (tAndE (tB1 (e2 fGt (eVar 3) (eC (.int 0)))) (tB1 (e2 fEqA (eCall 2 F__law_draw (aCons (aV (eVar 0)) (aCons (aV (eC (.int 6))) aNil))) (eC (.int 0))))) (sSeq (sPar 9 8 (eCall 2 F__law_some (aCons (aV (eVar 0)) (aCons (aV (eNew (lLst (aCons (aV (eC (.str [120]))) (aCons (aV (eC (.str [121]))) (aCons (aV (eC (.str [113]))) aNil)))))) aNil))) (eCall 2 F__law_kind (aCons (aV (eVar 0)) (aCons (aV (eC (.int 1))) aNil)))) (sSeq (sAsg (eFn fDict (aCons (aV (eVar 6)) aNil)) (gN 12)) (sSeq (sAsg (eVar 8) (gS (eVar 12) (eVar 9))) (sSeq (sAsg (eCall 4 F__law_fit (aCons (aV (eVar 0)) (aCons (aV (eVar 12)) (aCons (aV (eVar 5)) (aCons (aV (e2 fSub (eVar 3) (eC (.int 1)))) aNil))))) (gN 13)) (sAsg (e2 fAdd (e2 fAdd (eTup (aCons (aV (eC (.str [64]))) (aCons (aV (eTup (aCons (aV (eVar 9)) (aCons (aV (eVar 8)) aNil)))) aNil))) (eVar 13)) (eCall 4 F__law_fit (aCons (aV (eVar 0)) (aCons (aV (eVar 6)) (aCons (aV (eVar 8)) (aCons (aV (e2 fSub (eVar 3) (eC (.int 1)))) aNil)))))) (gN 11)))))) sNext) (sRet (e2 fAdd (eVar 7) (eVar 11)))))))))))))
theorem sc__law_fit : FnScope N__law_fit ["_law_hand_here", "_law_known_here", "_law_kind_here", "_law_deep"] (defScope s__law_fit) := ⟨rfl, rfl, rfl, by decide +kernel, rfl, by decide +kernel, by decide +kernel⟩
theorem sim__law_fit (g : G K mg) {F__law_ends F__law_some F__law_heads F__law_fit F__law_draw F__law_kind : FF} (i__law_ends : FnI P w K mg base "_law_ends" 1 k F__law_ends) (i__law_some : FnI P w K mg base "_law_some" 2 k F__law_some) (i__law_heads : FnI P w K mg base "_law_heads" 3 k F__law_heads) (i__law_fit : FnI P w K mg base "_law_fit" 4 k F__law_fit) (i__law_draw : FnI P w K mg base "_law_draw" 2 k F__law_draw) (i__law_kind : FnI P w K mg base "_law_kind" 2 k F__law_kind) : BodySim P w K mg base N__law_fit "_law_fit" (defScope s__law_fit) f k (defBody s__law_fit) (b__law_fit F__law_ends F__law_some F__law_heads F__law_fit F__law_draw F__law_kind) := fun cdv A outer s H E hr =>
  (sb_cons (ss_asg (se_callI i__law_ends hr rfl tkOf (sa_cons (sv_val (se_var 2)) sa_nil)) (sg_tup (n := 2) rfl (sgs_cons (sg_name (sc__law_fit).nd rfl (.inl rfl)) (sgs_cons (sg_name (sc__law_fit).nd rfl (.inl rfl)) sgs_nil)) (glen_cons (glen_cons (fun _ _ _ _ _ e => glen_nil e)))) (still_gT (stills_cons still_gN (stills_cons still_gN stills_nil)))) (sb_cons (ss_set (sc__law_fit).nd rfl (.inl rfl) (se_fnT (cr_dict3 rfl) fs_dict rfl g.n_dict boot_dict (sa_cons (sv_val (se_var 1)) sa_nil))) (sb_cons (ss_set (sc__law_fit).nd rfl (.inl rfl) (se_tup sa_nil)) (sb_cons (ss_for poOf rfl (si_any (se_var 4)) (sg_name (sc__law_fit).nd rfl (.inl rfl)) (sb_cons (ss_set (sc__law_fit).nd rfl (.inl rfl) (se_callI i__law_some hr rfl tkOf (sa_cons (sv_val (se_var 0)) (sa_cons (sv_val (se_new (sl_lst (sa_cons (sv_val (se_str rfl)) (sa_cons (sv_val (se_str rfl)) (sa_cons (sv_val (se_str rfl)) (sa_cons (sv_val (se_str rfl)) (sa_cons (sv_val (se_str rfl)) (sa_cons (sv_val (se_str rfl)) sa_nil))))))))) sa_nil)))) (sb_cons (ss_set (sc__law_fit).nd rfl (.inl rfl) (se_bin or_add os_add (se_var 7) (se_tup (sa_cons (sv_val (se_tup (sa_cons (sv_val (se_var 9)) (sa_cons (sv_val (se_var 8)) sa_nil)))) sa_nil)))) (sb_one (ss_asg (se_var 8) (sg_sub (W := wx E) (u1 hr) (se_var 6) (se_var 9)) still_gS))))) (sb_cons (ss_set (sc__law_fit).nd rfl (.inl rfl) (se_callI i__law_heads hr rfl tkOf (sa_cons (sv_val (se_var 6)) (sa_cons (sv_val (se_var 5)) (sa_cons (sv_val (se_var 3)) sa_nil))))) (sb_cons (ss_if (st_cmp (or_eqA hr.units) os_eqA (se_fnB cr_len2 fs_len rfl g.n_len boot_len (sa_cons (sv_val (se_var 10)) sa_nil)) se_int (nobehind _ (by decide) (by decide))) (sb_one (ss_ret (se_bin or_add os_add (se_var 7) (se_tup (sa_cons (sv_val (se_callI i__law_some hr rfl tkOf (sa_cons (sv_val (se_var 0)) (sa_cons (sv_val (se_bin or_add os_add (se_new (sl_fnB (cr_sort4 rfl) fs_sorted rfl g.n_sorted boot_sorted (sa_cons (sv_val (se_var 6)) sa_nil))) (se_new (sl_lst (sa_cons (sv_val (se_str rfl)) sa_nil))))) sa_nil)))) sa_nil))))) sb_nil) (sb_cons (ss_set (sc__law_fit).nd rfl (.inl rfl) (se_callI i__law_some hr rfl tkOf (sa_cons (sv_val (se_var 0)) (sa_cons (sv_val (se_var 10)) sa_nil)))) (sb_cons (ss_set (sc__law_fit).nd rfl (.inl rfl) (se_tup (sa_cons (sv_val (se_var 9)) sa_nil))) (sb_cons (ss_for poOf rfl (si_any (se_ix (u1 hr) (se_callI i__law_ends hr rfl tkOf (sa_cons (sv_val (se_ix (u1 hr) (se_var 6) (se_var 9))) sa_nil)) se_int)) (sg_name (sc__law_fit).nd rfl (.inl rfl)) (sb_one (ss_set (sc__law_fit).nd rfl (.inl rfl) (se_bin or_add os_add (se_bin or_add os_add (se_tup (sa_cons (sv_val (se_str rfl)) sa_nil)) (se_var 11)) (se_callI i__law_fit hr rfl tkOf (sa_cons (sv_val (se_var 0)) (sa_cons (sv_val (se_var 6)) (sa_cons (sv_val (se_var 8)) (sa_cons (sv_val (se_bin op_sub os_sub (se_var 3) se_int)) sa_nil))))))))) (sb_cons (ss_if (st_w (st_and (st_cmp op_gt os_gt (se_var 3) se_int (nobehind _ (by decide) (by decide))) (st_and1 (st_cmp (or_eqA hr.units) os_eqA (se_callI i__law_draw hr rfl tkOf (sa_cons (sv_val (se_var 0)) (sa_cons (sv_val se_int) sa_nil))) se_int (nobehind _ (by decide) (by decide)))))) (sb_cons (ss_par rfl (sc__law_fit).nd rfl rfl (by decide) rfl rfl (se_callI i__law_some hr rfl tkOf (sa_cons (sv_val (se_var 0)) (sa_cons (sv_val (se_new (sl_lst (sa_cons (sv_val (se_str rfl)) (sa_cons (sv_val (se_str rfl)) (sa_cons (sv_val (se_str rfl)) sa_nil)))))) sa_nil))) (se_callI i__law_kind hr rfl tkOf (sa_cons (sv_val (se_var 0)) (sa_cons (sv_val se_int) sa_nil))) (fun t ht => ps_par rfl (sc__law_fit).nd rfl rfl (by decide) rfl rfl ht rfl)) (sb_cons (ss_set (sc__law_fit).nd rfl (.inl rfl) (se_fnT (cr_dict3 rfl) fs_dict rfl g.n_dict boot_dict (sa_cons (sv_val (se_var 6)) sa_nil))) (sb_cons (ss_asg (se_var 8) (sg_sub (W := wx E) (u1 hr) (se_var 12) (se_var 9)) still_gS) (sb_cons (ss_set (sc__law_fit).nd rfl (.inl rfl) (se_callI i__law_fit hr rfl tkOf (sa_cons (sv_val (se_var 0)) (sa_cons (sv_val (se_var 12)) (sa_cons (sv_val (se_var 5)) (sa_cons (sv_val (se_bin op_sub os_sub (se_var 3) se_int)) sa_nil)))))) (sb_one (ss_set (sc__law_fit).nd rfl (.inl rfl) (se_bin or_add os_add (se_bin or_add os_add (se_tup (sa_cons (sv_val (se_str rfl)) (sa_cons (sv_val (se_tup (sa_cons (sv_val (se_var 9)) (sa_cons (sv_val (se_var 8)) sa_nil)))) sa_nil))) (se_var 13)) (se_callI i__law_fit hr rfl tkOf (sa_cons (sv_val (se_var 0)) (sa_cons (sv_val (se_var 6)) (sa_cons (sv_val (se_var 8)) (sa_cons (sv_val (se_bin op_sub os_sub (se_var 3) se_int)) sa_nil)))))))))))) sb_nil) (sb_one (ss_ret (se_bin or_add os_add (se_var 7) (se_var 11))))))))))))))

/-! _law_loose -/
abbrev s__law_loose : Stmt := top 41
abbrev N__law_loose : List Str := ["_law_hand_here", "_law_names", "_law_deep", "_law_kind_here"]
abbrev b__law_loose (F__law_draw F__law_some F__law_loose F__law_kind : FF) : Sv := (sSeq (sAsg (eIf (tB1 (e2 fGt (eVar 2) (eC (.int 0)))) (eCall 2 F__law_draw (aCons (aV (eVar 0)) (aCons (aV (eC (.int 4))) aNil))) (eC (.int 0))) (gN 3)) (sSeq (sIf (tB1 (e2 fEqA (eVar 3) (eC (.int 0)))) (sRet (eTup (aCons (aV (eCall 2 F__law_some (aCons (aV (eVar 0)) (aCons (aV (eVar 1)) aNil)))) aNil))) sNext) (sSeq (sIf (tB1 (e2 fLt (eVar 3) (eC (.int 3)))) (sRet (e2 fAdd (e2 fAdd (eTup (aCons (aV (eC (.str [64]))) aNil)) (eCall 3 F__law_loose (aCons (aV (eVar 0)) (aCons (aV (eVar 1)) (aCons (aV (e2 fSub (eVar 2) (eC (.int 1)))) aNil))))) (eCall 3 F__law_loose (aCons (aV (eVar 0)) (aCons (aV (eVar 1)) (aCons (aV (e2 fSub (eVar 2) (eC (.int 1)))) aNil)))))) sNext) (sRet (e2 fAdd (eTup (aCons (aV (eTup (aCons (aV (eCall 2 F__law_some (aCons (aV (eVar 0)) (aCons (aV (eVar 1)) aNil)))) (aCons (aV (eCall 2 F__law_kind (aCons (aV (eVar 0)) (aCons (aV (eC (.int 1))) aNil)))) aNil)))) aNil)) (eCall 3 F__law_loose (aCons (aV (eVar 0)) (aCons (aV (eVar 1)) (aCons (aV (e2 fSub (eVar 2) (eC (.int 1)))) aNil)))))))))
theorem sc__law_loose : FnScope N__law_loose ["_law_hand_here", "_law_names", "_law_deep"] (defScope s__law_loose) := ⟨rfl, rfl, rfl, by decide +kernel, rfl, by decide +kernel, by decide +kernel⟩
theorem sim__law_loose (g : G K mg) {F__law_draw F__law_some F__law_loose F__law_kind : FF} (i__law_draw : FnI P w K mg base "_law_draw" 2 k F__law_draw) (i__law_some : FnI P w K mg base "_law_some" 2 k F__law_some) (i__law_loose : FnI P w K mg base "_law_loose" 3 k F__law_loose) (i__law_kind : FnI P w K mg base "_law_kind" 2 k F__law_kind) : BodySim P w K mg base N__law_loose "_law_loose" (defScope s__law_loose) f k (defBody s__law_loose) (b__law_loose F__law_draw F__law_some F__law_loose F__law_kind) := fun cdv A outer s H E hr =>
  (sb_cons (ss_set (sc__law_loose).nd rfl (.inl rfl) (se_if (st_cmp op_gt os_gt (se_var 2) se_int (nobehind _ (by decide) (by decide))) (se_callI i__law_draw hr rfl tkOf (sa_cons (sv_val (se_var 0)) (sa_cons (sv_val se_int) sa_nil))) se_int)) (sb_cons (ss_if (st_cmp (or_eqA hr.units) os_eqA (se_var 3) se_int (nobehind _ (by decide) (by decide))) (sb_one (ss_ret (se_tup (sa_cons (sv_val (se_callI i__law_some hr rfl tkOf (sa_cons (sv_val (se_var 0)) (sa_cons (sv_val (se_var 1)) sa_nil)))) sa_nil)))) sb_nil) (sb_cons (ss_if (st_cmp op_lt os_lt (se_var 3) se_int (nobehind _ (by decide) (by decide))) (sb_one (ss_ret (se_bin or_add os_add (se_bin or_add os_add (se_tup (sa_cons (sv_val (se_str rfl)) sa_nil)) (se_callI i__law_loose hr rfl tkOf (sa_cons (sv_val (se_var 0)) (sa_cons (sv_val (se_var 1)) (sa_cons (sv_val (se_bin op_sub os_sub (se_var 2) se_int)) sa_nil))))) (se_callI i__law_loose hr rfl tkOf (sa_cons (sv_val (se_var 0)) (sa_cons (sv_val (se_var 1)) (sa_cons (sv_val (se_bin op_sub os_sub (se_var 2) se_int)) sa_nil))))))) sb_nil) (sb_one (ss_ret (se_bin or_add os_add (se_tup (sa_cons (sv_val (se_tup (sa_cons (sv_val (se_callI i__law_some hr rfl tkOf (sa_cons (sv_val (se_var 0)) (sa_cons (sv_val (se_var 1)) sa_nil)))) (sa_cons (sv_val (se_callI i__law_kind hr rfl tkOf (sa_cons (sv_val (se_var 0)) (sa_cons (sv_val se_int) sa_nil)))) sa_nil)))) sa_nil)) (se_callI i__law_loose hr rfl tkOf (sa_cons (sv_val (se_var 0)) (sa_cons (sv_val (se_var 1)) (sa_cons (sv_val (se_bin op_sub os_sub (se_var 2) se_int)) sa_nil))))))))))

/-! _law_named -/
abbrev s__law_named : Stmt := top 42
abbrev N__law_named : List Str := ["_law_words", "_law_names", "_law_owners_here", "_law_found", "_law_place", "_law_word"]
abbrev b__law_named (F__law_owners : FF) : Sv := (sSeq (sAsg (eCall 1 F__law_owners (aCons (aV (eVar 0)) aNil)) (gN 2)) (sSeq (sAsg (eNew (lLst aNil)) (gN 3)) (sSeq (sFor (iEnumA (eVar 0)) (gT (gCons (gN 4) (gCons (gN 5) gNil))) (sIf (tB1 (eIsi sub [.ty "tuple"] (aV (eVar 5)))) (sExpr (eMt .lst mAppend (eVar 3) (aCons (aV (eTup (aCons (aV (e2 fIx (eVar 1) (eVar 4))) (aCons (aV (e2 fIx (eVar 5) (eC (.int 1)))) aNil)))) aNil))) (sExpr (eMt .lst mAppend (eVar 3) (aCons (aV (eIf (tB1 (e2 fIs (e2 fIx (eVar 2) (eVar 4)) (eC .non))) (eVar 5) (e2 fIx (eVar 1) (e2 fIx (eVar 2) (eVar 4))))) aNil))))) (sRet (eFn fTuple (aCons (aV (eVar 3)) aNil))))))
theorem sc__law_named : FnScope N__law_named ["_law_words", "_law_names"] (defScope s__law_named) := ⟨rfl, rfl, rfl, by decide +kernel, rfl, by decide +kernel, by decide +kernel⟩
theorem sim__law_named (g : G K mg) {F__law_owners : FF} (i__law_owners : FnI P w K mg base "_law_owners" 1 k F__law_owners) : BodySim P w K mg base N__law_named "_law_named" (defScope s__law_named) f k (defBody s__law_named) (b__law_named F__law_owners) := fun cdv A outer s H E hr =>
  (sb_cons (ss_set (sc__law_named).nd rfl (.inl rfl) (se_callI i__law_owners hr rfl tkOf (sa_cons (sv_val (se_var 0)) sa_nil))) (sb_cons (ss_set (sc__law_named).nd rfl (.inl rfl) (se_new (sl_lst sa_nil))) (sb_cons (ss_for poOf rfl (si_enumA rfl g.n_enumerate (se_var 0)) (sg_tup (n := 2) rfl (sgs_cons (sg_name (sc__law_named).nd rfl (.inl rfl)) (sgs_cons (sg_name (sc__law_named).nd rfl (.inl rfl)) sgs_nil)) (glen_cons (glen_cons (fun _ _ _ _ _ e => glen_nil e)))) (sb_one (ss_if (st_val (se_isi rfl g.n_isinstance sub_ty (sv_val (se_var 5)) (pe_tyN rfl g.n_tuple boot_tuple))) (sb_one (ss_expr (se_bm (k := .lst) PySem.F.plainAttrs_list PySem.F.slot_list_append PySem.F.type_list_append mt_append ms_append (se_var 3) (sa_cons (sv_val (se_tup (sa_cons (sv_val (se_ix (u1 hr) (se_var 1) (se_var 4))) (sa_cons (sv_val (se_ix (u1 hr) (se_var 5) se_int)) sa_nil)))) sa_nil)))) (sb_one (ss_expr (se_bm (k := .lst) PySem.F.plainAttrs_list PySem.F.slot_list_append PySem.F.type_list_append mt_append ms_append (se_var 3) (sa_cons (sv_val (se_if (st_cmp or_is os_is (se_ix (u1 hr) (se_var 2) (se_var 4)) se_non (nobehind _ (by decide) (by decide))) (se_var 5) (se_ix (u1 hr) (se_var 1) (se_ix (u1 hr) (se_var 2) (se_var 4))))) sa_nil))))))) (sb_one (ss_ret (se_fnT call_tupleN fs_tuple rfl g.n_tuple boot_tuple (sa_cons (sv_val (se_var 3)) sa_nil)))))))

/-! _law_takes -/
abbrev s__law_takes : Stmt := top 43
abbrev N__law_takes : List Str := ["_law_words", "_law_place"]
abbrev b__law_takes : Sv := (sRet (eNew (lComp (iR1 (eFn fLen (aCons (aV (eVar 0)) aNil))) (bN 1) (tB1 (eIsi sub [.ty "tuple"] (aV (e2 fIx (eVar 0) (eVar 1))))) (eVar 1) [1])))
theorem sc__law_takes : FnScope N__law_takes ["_law_words"] (defScope s__law_takes) := ⟨rfl, rfl, rfl, by decide +kernel, rfl, by decide +kernel, by decide +kernel⟩
theorem sim__law_takes (g : G K mg)  : BodySim P w K mg base N__law_takes "_law_takes" (defScope s__law_takes) f k (defBody s__law_takes) (b__law_takes) := fun cdv A outer s H E hr =>
  (sb_one (ss_ret (se_new (sl_comp (own := [("_law_place", 1)]) rfl (sc__law_takes).nd (si_range1 rfl g.n_range (se_fnB cr_len2 fs_len rfl g.n_len boot_len (sa_cons (sv_val (se_var 0)) sa_nil))) (blkOk (N := N__law_takes) (sc := defScope s__law_takes) rfl (by decide +kernel)) (cg_name (by decide)) (fun _ _ _ _ _ => pg_name (sc__law_takes).nd rfl (.inl rfl) (.inr rfl)) (fun _ _ _ _ _ => pts_of (st_val (se_isi rfl g.n_isinstance sub_ty (sv_val (se_ix (u1 hr) (se_var 0) (se_var 1))) (pe_tyN rfl g.n_tuple boot_tuple)))) (fun _ _ _ _ _ => (se_var 1))))))

/-! _law_standard -/
abbrev s__law_standard : Stmt := top 44
abbrev N__law_standard : List Str := ["_law_words", "_law_barred", "_law_letters", "_law_names", "_law_one", "_law_takes_here", "_law_name", "_law_other", "_law_at"]
abbrev b__law_standard (F__law_open F__law_takes F__law_named : FF) : Sv := (sSeq (sAsg (eCall 1 F__law_open (aCons (aV (eVar 0)) aNil)) (gN 1)) (sSeq (sAsg (eC (.str [97, 98, 99, 100, 101, 102, 103, 104, 105, 106, 107, 108, 109, 110, 111, 112, 113, 114, 115, 116, 117, 118, 119, 120, 121, 122])) (gN 2)) (sSeq (sAsg (eNew (eFn fList (aCons (aV (eVar 2)) aNil))) (gN 3)) (sSeq (sFor (iAny (eSl (eVar 2) oNone (oSome (eC (.int 4))))) (gN 4) (sExpr (eMt .lst mExtend (eVar 3) (aCons (aT (lComp (iAny (eVar 2)) (bN 7) tYesE (e2 fAdd (eVar 4) (eVar 7)) [7])) aNil)))) (sSeq (sAsg (eNew (lComp (iAny (eVar 3)) (bN 6) (tB1 (e2 (fIn true) (eVar 6) (eVar 1))) (eVar 6) [6])) (gN 3)) (sSeq (sAsg (eCall 1 F__law_takes (aCons (aV (eVar 0)) aNil)) (gN 5)) (sRet (eCall 2 F__law_named (aCons (aV (eVar 0)) (aCons (aV (eFn fDict (aCons (aT (lComp (iR1 (eFn fLen (aCons (aV (eVar 5)) aNil))) (bN 8) tYesE (eTup (aCons (aV (e2 fIx (eVar 5) (eVar 8))) (aCons (aV (e2 fIx (eVar 3) (eVar 8))) aNil))) [8])) aNil))) aNil))))))))))
theorem sc__law_standard : FnScope N__law_standard ["_law_words"] (defScope s__law_standard) := ⟨rfl, rfl, rfl, by decide +kernel, rfl, by decide +kernel, by decide +kernel⟩
theorem sim__law_standard (g : G K mg) {F__law_open F__law_takes F__law_named : FF} (i__law_open : FnI P w K mg base "_law_open" 1 k F__law_open) (i__law_takes : FnI P w K mg base "_law_takes" 1 k F__law_takes) (i__law_named : FnI P w K mg base "_law_named" 2 k F__law_named) : BodySim P w K mg base N__law_standard "_law_standard" (defScope s__law_standard) f k (defBody s__law_standard) (b__law_standard F__law_open F__law_takes F__law_named) := fun cdv A outer s H E hr =>
  (sb_cons (ss_set (sc__law_standard).nd rfl (.inr rfl) (se_callI i__law_open hr rfl tkOf (sa_cons (sv_val (se_var 0)) sa_nil))) (sb_cons (ss_set (sc__law_standard).nd rfl (.inl rfl) (se_str rfl)) (sb_cons (ss_set (sc__law_standard).nd rfl (.inr rfl) (se_new (sl_fnT (cr_list2 rfl) fs_list rfl g.n_list boot_list (sa_cons (sv_val (se_var 2)) sa_nil)))) (sb_cons (ss_for poOf rfl (si_any (se_sl (se_var 2) so_none (so_some se_int))) (sg_name (sc__law_standard).nd rfl (.inr rfl)) (sb_one (ss_expr (se_bm (k := .lst) PySem.F.plainAttrs_list PySem.F.slot_list_extend PySem.F.type_list_extend mt_extend2 ms_extend (se_var 3) (sa_cons (sv_tmp (sl_comp (own := [("_law_other", 7)]) rfl (sc__law_standard).nd (si_any (se_var 2)) (blkOk (N := N__law_standard) (sc := defScope s__law_standard) rfl (by decide +kernel)) (cg_name (by decide)) (fun _ _ _ _ _ => pg_name (sc__law_standard).nd rfl (.inl rfl) (.inr rfl)) (fun _ _ _ _ _ => pts_yes) (fun _ _ _ _ _ => (se_bin or_add os_add (se_var 4) (se_var 7))))) sa_nil))))) (sb_cons (ss_set (sc__law_standard).nd rfl (.inr rfl) (se_new (sl_comp (own := [("_law_name", 6)]) rfl (sc__law_standard).nd (si_any (se_var 3)) (blkOk (N := N__law_standard) (sc := defScope s__law_standard) rfl (by decide +kernel)) (cg_name (by decide)) (fun _ _ _ _ _ => pg_name (sc__law_standard).nd rfl (.inl rfl) (.inr rfl)) (fun _ _ _ _ _ => pts_of (st_cmp (or_notIn (u1 hr)) (os_in true) (se_var 6) (se_var 1) rfl)) (fun _ _ _ _ _ => (se_var 6))))) (sb_cons (ss_set (sc__law_standard).nd rfl (.inr rfl) (se_callI i__law_takes hr rfl tkOf (sa_cons (sv_val (se_var 0)) sa_nil))) (sb_one (ss_ret (se_callI i__law_named hr rfl tkOf (sa_cons (sv_val (se_var 0)) (sa_cons (sv_val (se_fnT (cr_dict3 rfl) fs_dict rfl g.n_dict boot_dict (sa_cons (sv_tmp (sl_comp (own := [("_law_at", 8)]) rfl (sc__law_standard).nd (si_range1 rfl g.n_range (se_fnB cr_len2 fs_len rfl g.n_len boot_len (sa_cons (sv_val (se_var 5)) sa_nil))) (blkOk (N := N__law_standard) (sc := defScope s__law_standard) rfl (by decide +kernel)) (cg_name (by decide)) (fun _ _ _ _ _ => pg_name (sc__law_standard).nd rfl (.inl rfl) (.inr rfl)) (fun _ _ _ _ _ => pts_yes) (fun _ _ _ _ _ => (se_tup (sa_cons (sv_val (se_ix (u1 hr) (se_var 5) (se_var 8))) (sa_cons (sv_val (se_ix (u1 hr) (se_var 3) (se_var 8))) sa_nil)))))) sa_nil))) sa_nil)))))))))))

/-! _law_due -/
abbrev s__law_due : Stmt := top 45
abbrev N__law_due : List Str := ["_law_words", "_law_owners_here", "_law_found", "_law_name", "_law_place"]
abbrev b__law_due (F__law_owners F__law_open F__law_standing F__law_takes : FF) : Sv := (sSeq (sAsg (eCall 1 F__law_owners (aCons (aV (eVar 0)) aNil)) (gN 1)) (sSeq (sAsg eDict0 (gN 2)) (sSeq (sFor (iAny (eCall 1 F__law_open (aCons (aV (eVar 0)) aNil))) (gN 3) (sAsg (eCall 2 F__law_standing (aCons (aV (eVar 0)) (aCons (aV (eVar 3)) aNil))) (gS (eVar 2) (eVar 3)))) (sSeq (sFor (iAny (eCall 1 F__law_takes (aCons (aV (eVar 0)) aNil))) (gN 4) (sAsg (eMt .lst mCount (eVar 1) (aCons (aV (eVar 4)) aNil)) (gS (eVar 2) (eVar 4)))) (sRet (eVar 2))))))
theorem sc__law_due : FnScope N__law_due ["_law_words"] (defScope s__law_due) := ⟨rfl, rfl, rfl, by decide +kernel, rfl, by decide +kernel, by decide +kernel⟩
theorem sim__law_due (g : G K mg) {F__law_owners F__law_open F__law_standing F__law_takes : FF} (i__law_owners : FnI P w K mg base "_law_owners" 1 k F__law_owners) (i__law_open : FnI P w K mg base "_law_open" 1 k F__law_open) (i__law_standing : FnI P w K mg base "_law_standing" 2 k F__law_standing) (i__law_takes : FnI P w K mg base "_law_takes" 1 k F__law_takes) : BodySim P w K mg base N__law_due "_law_due" (defScope s__law_due) f k (defBody s__law_due) (b__law_due F__law_owners F__law_open F__law_standing F__law_takes) := fun cdv A outer s H E hr =>
  (sb_cons (ss_set (sc__law_due).nd rfl (.inl rfl) (se_callI i__law_owners hr rfl tkOf (sa_cons (sv_val (se_var 0)) sa_nil))) (sb_cons (ss_set (sc__law_due).nd rfl (.inl rfl) se_dict0) (sb_cons (ss_for poOf rfl (si_any (se_callI i__law_open hr rfl tkOf (sa_cons (sv_val (se_var 0)) sa_nil))) (sg_name (sc__law_due).nd rfl (.inl rfl)) (sb_one (ss_asg (se_callI i__law_standing hr rfl tkOf (sa_cons (sv_val (se_var 0)) (sa_cons (sv_val (se_var 3)) sa_nil))) (sg_sub (W := wx E) (u1 hr) (se_var 2) (se_var 3)) still_gS))) (sb_cons (ss_for poOf rfl (si_any (se_callI i__law_takes hr rfl tkOf (sa_cons (sv_val (se_var 0)) sa_nil))) (sg_name (sc__law_due).nd rfl (.inl rfl)) (sb_one (ss_asg (se_bm (k := .lst) PySem.F.plainAttrs_list PySem.F.slot_list_count PySem.F.type_list_count (mt_countD (u65 hr)) ms_count (se_var 1) (sa_cons (sv_val (se_var 4)) sa_nil)) (sg_sub (W := wx E) (u1 hr) (se_var 2) (se_var 4)) still_gS))) (sb_one (ss_ret (se_var 2)))))))

/-! law -/
abbrev s_law : Stmt := top 46
abbrev N_law : List Str := ["_law_script", "_law_hand_here", "_law_turn", "_law_known_here", "_law_words", "_law_told", "_law_due_here", "_law_key", "_law_word"]
abbrev b_law (F__law_hand F__law_known F__law_some_program F_counts F__law_due F__law_is F__law_standard : FF) : Sv := (sSeq (sAsg (eCall 1 F__law_hand (aCons (aV (eVar 0)) aNil)) (gN 1)) (sSeq (sFor (iR1 (eC (.int 4))) (gN 2) (sSeq (sAsg (eCall 2 F__law_known (aCons (aV (eVar 1)) (aCons (aV (eC (.int 3))) aNil))) (gN 3)) (sSeq (sAsg (eCall 3 F__law_some_program (aCons (aV (eVar 1)) (aCons (aV (eVar 3)) (aCons (aV (eC (.int 3))) aNil)))) (gN 4)) (sSeq (sAsg (eCall 1 F_counts (aCons (aV (eVar 4)) aNil)) (gN 5)) (sSeq (sAsg (eCall 1 F__law_due (aCons (aV (eVar 4)) aNil)) (gN 6)) (sSeq (sIf (tNotE (tB1 (eCall 2 F__law_is (aCons (aV (eVar 5)) (aCons (aV (eVar 6)) aNil))))) (sRet (eC (.bl false))) sNext) (sSeq (sIf (tB1 (e2 fNe (eFn fSum (aCons (aT (lLock 5 (lComp (iAny (eVar 5)) (bN 7) tYesE (e2 fIx (eVar 5) (eVar 7)) [7]))) aNil)) (eFn fLen (aCons (aT (lComp (iAny (eVar 4)) (bN 8) (tAndE (tB1 (eIsi sub [.ty "str"] (aV (eVar 8)))) (tB1 (e2 fNe (eVar 8) (eC (.str [64]))))) (eVar 8) [8])) aNil)))) (sRet (eC (.bl false))) sNext) (sSeq (sAsg (eC (.int 99)) (gS (eVar 5) (eC (.str [102])))) (sSeq (sExpr (eMt .dic mDClear (eVar 5) aNil)) (sIf (tOrE (tNotE (tB1 (eCall 2 F__law_is (aCons (aV (eCall 1 F_counts (aCons (aV (eVar 4)) aNil))) (aCons (aV (eVar 6)) aNil))))) (tNotE (tB1 (eCall 2 F__law_is (aCons (aV (eCall 1 F_counts (aCons (aV (eCall 1 F__law_standard (aCons (aV (eVar 4)) aNil))) aNil))) (aCons (aV (eVar 6)) aNil)))))) (sRet (eC (.bl false))) sNext)))))))))) (sRet (eC (.bl true)))))
theorem sc_law : FnScope N_law ["_law_script"] (defScope s_law) := ⟨rfl, rfl, rfl, by decide +kernel, rfl, by decide +kernel, by decide +kernel⟩
theorem sim_law (g : G K mg) {F__law_hand F__law_known F__law_some_program F_counts F__law_due F__law_is F__law_standard : FF} (i__law_hand : FnI P w K mg base "_law_hand" 1 k F__law_hand) (i__law_known : FnI P w K mg base "_law_known" 2 k F__law_known) (i__law_some_program : FnI P w K mg base "_law_some_program" 3 k F__law_some_program) (i_counts : FnI P w K mg base "counts" 1 k F_counts) (i__law_due : FnI P w K mg base "_law_due" 1 k F__law_due) (i__law_is : FnI P w K mg base "_law_is" 2 k F__law_is) (i__law_standard : FnI P w K mg base "_law_standard" 1 k F__law_standard) : BodySim P w K mg base N_law "law" (defScope s_law) f k (defBody s_law) (b_law F__law_hand F__law_known F__law_some_program F_counts F__law_due F__law_is F__law_standard) := fun cdv A outer s H E hr =>
  (sb_cons (ss_set (sc_law).nd rfl (.inl rfl) (se_callI i__law_hand hr rfl tkOf (sa_cons (sv_val (se_var 0)) sa_nil))) (sb_cons (ss_for poOf rfl (si_range1 rfl g.n_range se_int) (sg_name (sc_law).nd rfl (.inl rfl)) (sb_cons (ss_set (sc_law).nd rfl (.inl rfl) (se_callI i__law_known hr rfl tkOf (sa_cons (sv_val (se_var 1)) (sa_cons (sv_val se_int) sa_nil)))) (sb_cons (ss_set (sc_law).nd rfl (.inl rfl) (se_callI i__law_some_program hr rfl tkOf (sa_cons (sv_val (se_var 1)) (sa_cons (sv_val (se_var 3)) (sa_cons (sv_val se_int) sa_nil))))) (sb_cons (ss_set (sc_law).nd rfl (.inr rfl) (se_callI i_counts hr rfl tkOf (sa_cons (sv_val (se_var 4)) sa_nil))) (sb_cons (ss_set (sc_law).nd rfl (.inl rfl) (se_callI i__law_due hr rfl tkOf (sa_cons (sv_val (se_var 4)) sa_nil))) (sb_cons (ss_if (st_not (st_val (se_callI i__law_is hr rfl tkOf (sa_cons (sv_val (se_var 5)) (sa_cons (sv_val (se_var 6)) sa_nil))))) (sb_one (ss_ret se_bl)) sb_nil) (sb_cons (ss_if (st_cmp (op_neD hr.units) os_ne (se_fnB (cr_sum rfl) fs_sum rfl g.n_sum boot_sum (sa_cons (sv_tmp (sl_lock (i := 5) (sl_comp (own := [("_law_key", 7)]) rfl (sc_law).nd (si_any (se_var 5)) (blkOk (N := N_law) (sc := defScope s_law) rfl (by decide +kernel)) (cg_name (by decide)) (fun _ _ _ _ _ => pg_name (sc_law).nd rfl (.inl rfl) (.inr rfl)) (fun _ _ _ _ _ => pts_yes) (fun _ _ _ _ _ => (se_ix (u1 hr) (se_var 5) (se_var 7)))))) sa_nil)) (se_fnB cr_len2 fs_len rfl g.n_len boot_len (sa_cons (sv_tmp (sl_comp (own := [("_law_word", 8)]) rfl (sc_law).nd (si_any (se_var 4)) (blkOk (N := N_law) (sc := defScope s_law) rfl (by decide +kernel)) (cg_name (by decide)) (fun _ _ _ _ _ => pg_name (sc_law).nd rfl (.inl rfl) (.inr rfl)) (fun _ _ _ _ _ => pts_of (st_w (st_and (st_val (se_isi rfl g.n_isinstance sub_ty (sv_val (se_var 8)) (pe_tyN rfl g.n_str boot_str))) (st_and1 (st_cmp (op_neD hr.units) os_ne (se_var 8) (se_str rfl) (nobehind _ (by decide) (by decide))))))) (fun _ _ _ _ _ => (se_var 8)))) sa_nil)) (nobehind _ (by decide) (by decide))) (sb_one (ss_ret se_bl)) sb_nil) (sb_cons (ss_asg se_int (sg_sub (W := wx E) (u1 hr) (se_var 5) (se_str rfl)) still_gS) (sb_cons (ss_expr (se_bm0 (k := .dic) PySem.F.plainAttrs_dict PySem.F.slot_dict_clear PySem.F.type_dict_clear mtd_clear ms_dclear (se_var 5))) (sb_one (ss_if (st_w (st_or (st_not (st_val (se_callI i__law_is hr rfl tkOf (sa_cons (sv_val (se_callI i_counts hr rfl tkOf (sa_cons (sv_val (se_var 4)) sa_nil))) (sa_cons (sv_val (se_var 6)) sa_nil))))) (st_or1 (st_not (st_val (se_callI i__law_is hr rfl tkOf (sa_cons (sv_val (se_callI i_counts hr rfl tkOf (sa_cons (sv_val (se_callI i__law_standard hr rfl tkOf (sa_cons (sv_val (se_var 4)) sa_nil))) sa_nil))) (sa_cons (sv_val (se_var 6)) sa_nil)))))))) (sb_one (ss_ret se_bl)) sb_nil))))))))))) (sb_one (ss_ret se_bl))))
end U.K09
end
set_option Elab.async false
set_option linter.all false
set_option maxRecDepth 100000
set_option maxHeartbeats 4000000
noncomputable section
namespace U.K09
open PySem PySem.Spec PyProof.Rows L2 U
instance insOk : InsOk := ⟨false⟩
theorem isi_any {v : PV} {h : Hh} (q : okTy v h = true) (P : Res PV → Prop) (cs : List CD)
    (h1 : ∀ n, tyA (.val v) h = some (.ty n) → P (match anySub sub (.ty n) cs with | some b => .ok (.bl b) h | none => .stuck)) : P (isiA sub cs (.val v) h) := by
  unfold isiA
  cases v with
  | ref i =>
    simp only [okTy] at q
    cases e : h[i]? with
    | none => rw [e] at q; cases q
    | some c =>
      rw [e] at q
      cases c with
      | ins _ _ => cases q
      | lst _ => have e2 := tyA_lst e; rw [e2]; exact h1 _ e2
      | dic _ => have e2 := tyA_dic e; rw [e2]; exact h1 _ e2
      | dif _ => have e2 : tyA (.val (.ref i)) h = some (.ty "dict") := by simp only [tyA, e]
                 rw [e2]; exact h1 _ e2
  | non => exact h1 _ rfl
  | bl _ => exact h1 _ rfl
  | int _ => exact h1 _ rfl
  | str _ => exact h1 _ rfl
  | tup _ => exact h1 _ rfl
  | scr _ => exact h1 _ rfl
theorem tyA_ref {i : Nat} {h : Hh} {n : String} (q : okTy (.ref i) h = true) (e : tyA (.val (.ref i)) h = some (.ty n)) : n = "list" ∨ n = "dict" := by
  simp only [tyA] at e
  split at e <;> cases e <;> simp
@[simp] theorem isi_int {v : PV} {h : Hh} (q : okTy v h = true) : isiA sub [.ty "int"] (.val v) h = .ok (.bl (isIntP v || isBlP v)) h :=
  isi_any q (fun r => r = _) _ fun n e => by
    cases v with
    | ref i => rcases tyA_ref q e with rfl | rfl <;> simp [isIntP, isBlP]
    | _ => cases e; simp [isIntP, isBlP]
@[simp] theorem isi_bool {v : PV} {h : Hh} (q : okTy v h = true) : isiA sub [.ty "bool"] (.val v) h = .ok (.bl (isBlP v)) h :=
  isi_any q (fun r => r = _) _ fun n e => by
    cases v with
    | ref i => rcases tyA_ref q e with rfl | rfl <;> simp [isIntP, isBlP]
    | _ => cases e; simp [isIntP, isBlP]
@[simp] theorem isi_tuple {v : PV} {h : Hh} (q : okTy v h = true) : isiA sub [.ty "tuple"] (.val v) h = .ok (.bl (isTupP v)) h :=
  isi_any q (fun r => r = _) _ fun n e => by
    cases v with
    | ref i => rcases tyA_ref q e with rfl | rfl <;> simp [isTupP]
    | _ => cases e; simp [isTupP]
@[simp] theorem isi_str {v : PV} {h : Hh} (q : okTy v h = true) : isiA sub [.ty "str"] (.val v) h = .ok (.bl (isStrP v)) h :=
  isi_any q (fun r => r = _) _ fun n e => by
    cases v with
    | ref i => rcases tyA_ref q e with rfl | rfl <;> simp [isStrP]
    | _ => cases e; simp [isStrP]
/-! is_integer -/
def F_is_integer : FF := fun as h => match as with
  | [v] => if okTy v h = true then .ok (.bl (isIntP v)) h else .stuck
  | _ => .stuck
theorem gc_is_integer (as : List PV) (h : Hh) (hc : clH h) (hv : clVs h.length as) : GcR h (b_is_integer (start0 N_is_integer as) h) (F_is_integer as h) := by
  unfold F_is_integer
  split
  · rename_i v
    split
    · rename_i q
      have e : b_is_integer (start0 N_is_integer [v]) h = .rt (.bl (isIntP v)) h := by
        simp [q]
        cases v <;> simp [isIntP, isBlP, q]
      rw [e]; exact gc_same
    · trivial
  · trivial
/-! is_within -/
def withinP (v : PV) (a b : Int) : Bool := match v with | .int n => decide (a ≤ n) && decide (n ≤ b) | _ => false
def F_is_within : FF := fun as h => match as with
  | [v, .int a, .int b] => if okTy v h = true then .ok (.bl (withinP v a b)) h else .stuck
  | _ => .stuck
theorem gc_is_within (as : List PV) (h : Hh) (hc : clH h) (hv : clVs h.length as) : GcR h (b_is_within F_is_integer (start0 N_is_within as) h) (F_is_within as h) := by
  unfold F_is_within
  split
  · rename_i v a b
    split
    · rename_i q
      have e : b_is_within F_is_integer (start0 N_is_within [v, .int a, .int b]) h = .rt (.bl (withinP v a b)) h := by
        simp [q, F_is_integer]
        cases v <;> simp [isIntP, withinP]
        rename_i n
        by_cases h1 : a ≤ n <;> simp [h1]
      rw [e]; exact gc_same
    · trivial
  · trivial
/-! is_pair -/
def pairP (v : PV) : Bool := match v with | .tup xs => decide (xs.length = 2) | _ => false
def F_is_pair : FF := fun as h => match as with
  | [v] => if okTy v h = true then .ok (.bl (pairP v)) h else .stuck
  | _ => .stuck
theorem gc_is_pair (as : List PV) (h : Hh) (hc : clH h) (hv : clVs h.length as) : GcR h (b_is_pair (start0 N_is_pair as) h) (F_is_pair as h) := by
  unfold F_is_pair
  split
  · rename_i v
    split
    · rename_i q
      have e : b_is_pair (start0 N_is_pair [v]) h = .rt (.bl (pairP v)) h := by
        simp [q]
        cases v <;> simp [isTupP, pairP]
        omega
      rw [e]; exact gc_same
    · trivial
  · trivial
/-! is_name -/
def okLen (v : PV) : Bool := match v with | .str x => decide (x.length ≤ sizeLine) | _ => true
def F_is_name : FF := fun as h => match as with
  | [v] => if okTy v h = true ∧ okLen v = true then .ok (.bl (nameP v)) h else .stuck
  | _ => .stuck
theorem gc_is_name (as : List PV) (h : Hh) (hc : clH h) (hv : clVs h.length as) : GcR h (b_is_name (start0 N_is_name as) h) (F_is_name as h) := by
  unfold F_is_name
  split
  · rename_i v
    split
    · rename_i q
      obtain ⟨q, ql⟩ := q
      have e : b_is_name (start0 N_is_name [v]) h = .rt (.bl (nameP v)) h := by
        simp [q]
        cases v <;> simp [isStrP, nameP]
        rename_i x
        simp [okLen] at ql
        simp [ql, nameL]
        by_cases h1 : 1 ≤ x.length
        · have h1' : (1 : Int) ≤ x.length := by omega
          by_cases h2 : x.length ≤ 8
          · have h2' : (x.length : Int) ≤ 8 := by omega
            simp [h1', h2', h1, h2, lComp, wipeE]
            have := compL_map (b := bN 1) (e := (e2 (fIn false) (eVar 1) (eC (.str [97, 98, 99, 100, 101, 102, 103, 104, 105, 106, 107, 108, 109, 110, 111, 112, 113, 114, 115, 116, 117, 118, 119, 120, 121, 122])))) (g := none) (s := [some (PV.str x), none]) (h := h) (xs := List.map (fun c => PV.str [c]) x) (fun c => .bl (match c with | .str [c] => small c | _ => false)) trivial (by
              intro y hy
              obtain ⟨c, hc, rfl⟩ := List.mem_map.mp hy
              refine ⟨_, rfl, ?_⟩
              simp [fIn, small]) (by simpa using ql)
            rw [this]
            have := fAll_tmp (x.map small) h
            simp [Function.comp_def] at this ⊢
            rw [this]
          · have h2' : ¬ (x.length : Int) ≤ 8 := by omega
            simp [h1', h2', h1, h2]
        · have h1' : ¬ (1 : Int) ≤ x.length := by omega
          simp [h1, h1']
      rw [e]; exact gc_same
    · trivial
  · trivial
/-! is_kind_of_any_size -/
def F_is_kind_of_any_size : FF := fun as h => match as with
  | [v] => if okD v h = true ∧ szP v ≤ sizeLine then .ok (.bl (kindP v)) h else .stuck
  | _ => .stuck
theorem gc_is_kind_of_any_size (as : List PV) (h : Hh) (hc : clH h) (hv : clVs h.length as) : GcR h (b_is_kind_of_any_size F_is_pair F_is_within (start0 N_is_kind_of_any_size as) h) (F_is_kind_of_any_size as h) := by
  unfold F_is_kind_of_any_size
  split
  · rename_i v
    split
    · rename_i q
      obtain ⟨q, qz⟩ := q
      have e : ∃ g, b_is_kind_of_any_size F_is_pair F_is_within (start0 N_is_kind_of_any_size [v]) h = .rt (.bl (kindP v)) (h ++ g) := by
        simp
        generalize hr : sWhile _ _ _ _ = r
        have L := whileX hr
          (fun m s h' => ∃ xs z, s = [some v, some (.ref h.length), z] ∧ h' = h ++ [.lst xs] ∧ m = szPs xs ∧ m ≤ sizeLine ∧ kindPs xs = kindP v ∧ okDs xs h = true)
          (fun r => kindP v = false ∧ ∃ g, r = .rt (.bl false) (h ++ g))
          (fun s h' => kindP v = true ∧ ∃ z g, s = [some v, some (.ref h.length), z] ∧ h' = h ++ g) ⟨[v], none, rfl, rfl, rfl, by simpa [szPs] using qz, by simp [kindPs], by simp [okDs, q]⟩ (by
            rintro m s h' ⟨xs, z, rfl, rfl, rfl, hz, hk, ho⟩
            rcases List.eq_nil_or_concat xs with rfl | ⟨xs, y, rfl⟩
            · simp
              exact hk.symm
            · rw [List.concat_eq_append] at hz hk ho
              rw [kindPs_all] at hk
              rw [szPs_app] at hz
              have ho' := okDs_all.mp ho
              have oy := ho' y (by simp)
              have oT := okTy_app [.lst xs] (okD_ty oy)
              simp [mPop, F_is_pair, F_is_within, oT]
              cases y with
              | tup ys =>
                simp [pairP]
                by_cases hl : ys.length = 2
                · simp [szPs, szP] at hz
                  have hx := szPs_len xs
                  have hy := szPs_len ys
                  have hh := hk
                  simp [kindP, hl] at hk
                  simp [hl, Kd.chk, mExtend, szPs_app, szPs, szP]
                  rw [if_pos (by omega)]
                  simp
                  refine ⟨_, ?_, rfl, ?_, ?_, okDs_all.mpr fun x hx => ?_⟩
                  · rw [szPs_app]; omega
                  · rw [szPs_app]; have := size_le (szPs xs + (szPs ys + 1)); omega
                  · rw [← hk, kindPs_all, kindPs_all]; simp
                  · rcases List.mem_append.mp hx with h1 | h1
                    · exact ho' x (by simp [h1])
                    · simp only [okD] at oy
                      exact okDs_all.mp oy x h1
                · simp [hl, withinP]
                  rw [← hk]; simp [kindP, hl]
              | int n =>
                have hw : withinP (.int n) 0 25 = kindP (.int n) := rfl
                simp [pairP, hw]
                simp at hk
                cases q : kindP (.int n) with
                | true =>
                  simp [szPs_app, szPs, szP]
                  rw [q] at hk
                  have hz' := (size_le _).mp hz
                  simp [szPs, szP] at hz'
                  refine ⟨_, ?_, rfl, ?_, by rw [← hk, kindPs_all]; simp, okDs_all.mpr fun x hx => ho' x (by simp [hx])⟩ <;> omega
                | false => simp; rw [← hk, q]; simp
              | _ => simp [pairP, withinP]; rw [← hk]; simp [kindP])
        rcases L with ⟨s', h', rfl, hk, z, g, rfl, rfl⟩ | ⟨hk, g, rfl⟩
        · simp [hk]
        · simp [hk]
      obtain ⟨g, e⟩ := e
      rw [e]; exact gc_pure hc trivial
    · trivial
  · trivial
/-! is_take -/
def F_is_take : FF := fun as h => match as with
  | [v] => if okTy v h = true then .ok (.bl (isTupP v)) h else .stuck
  | _ => .stuck
theorem gc_is_take (as : List PV) (h : Hh) (hc : clH h) (hv : clVs h.length as) : GcR h (b_is_take (start0 N_is_take as) h) (F_is_take as h) := by
  unfold F_is_take
  split
  · rename_i v
    split
    · rename_i q
      have e : b_is_take (start0 N_is_take [v]) h = .rt (.bl (isTupP v)) h := by
        simp [q]
      rw [e]; exact gc_same
    · trivial
  · trivial
/-! is_word -/
def F_is_word : FF := fun as h => match as with
  | [v] => if okD v h = true ∧ szP v ≤ sizeLine ∧ okX v = true then .ok (.bl (wordP v)) h else .stuck
  | _ => .stuck
theorem gc_is_word (as : List PV) (h : Hh) (hc : clH h) (hv : clVs h.length as) : GcR h (b_is_word F_is_pair F_is_name F_is_kind_of_any_size (start0 N_is_word as) h) (F_is_word as h) := by
  unfold F_is_word
  split
  · rename_i v
    split
    · rename_i q
      obtain ⟨q, qz, qx⟩ := q
      have e : b_is_word F_is_pair F_is_name F_is_kind_of_any_size (start0 N_is_word [v]) h = .rt (.bl (wordP v)) h := by
        simp [F_is_pair, okD_ty q]
        cases v with
        | tup xs =>
          by_cases hl : xs.length = 2
          · match xs, hl with
            | [a, b], _ =>
              simp [okD, okDs] at q
              simp [okX, okXs] at qx
              simp [szP, szPs] at qz
              have la : okLen a = true := by
                cases a <;> simp [okLen, okX] at qx ⊢
                exact qx.1.2
              have e1 : fIx (.tup [a, b]) (.int 0) h = .ok a h := fIx_tup h rfl
              have e2 : fIx (.tup [a, b]) (.int 1) h = .ok b h := fIx_tup h rfl
              have zb : szP b ≤ 16777216 := by omega
              simp [pairP, F_is_name, F_is_kind_of_any_size, e1, e2, okD_ty q.1, la, q, zb, wordP]
              cases nameP a <;> simp
          · simp [pairP, hl]
            have : wordP (.tup xs) = false := by
              unfold wordP
              split
              · rename_i e; cases e; simp at hl
              · rename_i e; cases e
              · rfl
            rw [this]
        | str x =>
          simp [okX] at qx
          have : fEqA (.str x) (.str [64]) h = .ok (.bl (decide (x = [64]))) h := fEqA_str qx.1 rfl h
          simp [pairP, isStrP, this, wordP]
          by_cases h1 : x = [64]
          · simp [h1]
          · simp [h1, F_is_name, okLen, nameP, qx.2]
        | _ => have oT := okD_ty q; simp [pairP, isStrP, wordP, oT]
      rw [e]; exact gc_same
    · trivial
  · trivial
/-! is_whole -/
def F_is_whole : FF := fun as h => match as with
  | [.tup ws] => if okDs ws h = true ∧ okXs ws = true ∧ (∀ w ∈ ws, isTupP w = true ∨ isStrP w = true) ∧ ws.length ≤ sizeLine then .ok (.bl (wholeP ws)) h else .stuck
  | _ => .stuck
theorem gc_is_whole (as : List PV) (h : Hh) (hc : clH h) (hv : clVs h.length as) : GcR h (b_is_whole F_is_take (start0 N_is_whole as) h) (F_is_whole as h) := by
  unfold F_is_whole
  split
  · rename_i ws
    split
    · rename_i q
      obtain ⟨q, qx, qk, qz⟩ := q
      have e : b_is_whole F_is_take (start0 N_is_whole [.tup ws]) h = .rt (.bl (wholeP ws)) h := by
        simp
        generalize hr : forL _ _ _ _ _ _ = r
        have L := forX hr (fun i s h' => ∃ m z, s = [some (.tup ws), some (.int m), z] ∧ h' = h ∧ cntP (ws.drop (ws.length - i)) = some m)
          (fun r => cntP ws = none ∧ r = .rt (.bl false) h) ⟨0, none, rfl, rfl, by simp [cntP]⟩ (fun _ _ _ _ _ => trivial) (by
            rintro i w s h' e ⟨m, z, rfl, rfl, hm⟩
            obtain ⟨hi, hd⟩ := rev_drop e
            have hw : w ∈ ws := by
              have : w ∈ ws.drop (ws.length - (i + 1)) := by rw [hd]; exact List.mem_cons_self
              exact List.mem_of_mem_drop this
            have hcn : cntP (ws.drop (ws.length - (i + 1))) = (let m' := if isTupP w then m else if isUse w then m - 1 else m + 1; if m' < 1 then none else some m') := by
              rw [hd, cntP, hm]
            have oT := okD_ty (okDs_all.mp q w hw)
            have oX := okXs_all.mp qx w hw
            simp [F_is_take, oT]
            have fin : ∀ m' : Int, (cntP (ws.drop (ws.length - (i + 1))) = if m' < 1 then none else some m') → SOk (fun s h2 => ∃ m, (∃ x, s = [some (PV.tup ws), some (PV.int m), x]) ∧ h2 = h' ∧ cntP (ws.drop (ws.length - (i + 1))) = some m) (fun r => cntP ws = none ∧ r = SRes.rt (PV.bl false) h') (if m' < 1 then .rt (.bl false) h' else .nx [some (.tup ws), some (.int m'), some w] h') := fun m' e => by
              by_cases z : m' < 1
              · rw [if_pos z] at e ⊢
                exact ⟨cntP_drop _ e, rfl⟩
              · rw [if_neg z] at e ⊢
                exact ⟨m', ⟨_, rfl⟩, rfl, e⟩
            rcases qk w hw with k | k
            · simp [k] at hcn ⊢
              exact fin m hcn
            · cases w with
              | str x =>
                simp [okX] at oX
                have : fEqA (.str x) (.str [64]) h' = .ok (.bl (decide (x = [64]))) h' := fEqA_str oX.1 rfl h'
                simp [isTupP, isUse] at hcn
                simp [isTupP, this]
                by_cases z : x = [64]
                · subst z
                  simp only [if_true, Int.sub_eq_add_neg] at hcn
                  simp
                  exact fin _ hcn
                · simp [z] at hcn ⊢
                  exact fin _ hcn
              | _ => simp [isStrP] at k)
        rcases L with ⟨s', h', rfl, m, z, rfl, rfl, hm⟩ | ⟨hk, rfl⟩
        · simp at hm
          simp [wholeP, hm]
        · simp [wholeP, hk]
      rw [e]; exact gc_same
    · trivial
  · trivial
/-! check_program: it goes through -/
def F_check_program : FF := fun as h => match as with
  | [.tup ws] => if okDs ws h = true ∧ okXs ws = true ∧ szPs ws ≤ sizeLine ∧ ws.all wordP = true ∧ wholeP ws = true then .ok .non h else .stuck
  | _ => .stuck
theorem gc_check_program (as : List PV) (h : Hh) (hc : clH h) (hv : clVs h.length as) : GcR h (b_check_program F_is_word F_is_whole (start0 N_check_program as) h) (F_check_program as h) := by
  unfold F_check_program
  split
  · rename_i ws
    split
    · rename_i q
      obtain ⟨q, qx, qz, qw, qh⟩ := q
      have hl := szPs_len ws
      have hz := size_le (szPs ws)
      have e : b_check_program F_is_word F_is_whole (start0 N_check_program [.tup ws]) h = .nx [some (.tup ws), none] h := by
        have h0 : ws ≠ [] := by
          rintro rfl
          simp [wholeP, cntP] at qh
        have h1 : ∀ w ∈ ws, wordP w = true := by simpa using qw
        have hk : ∀ w ∈ ws, isTupP w = true ∨ isStrP w = true := fun w hw => by
          have := h1 w hw
          cases w <;> simp [wordP] at this <;> simp [isTupP, isStrP]
        have hkk : ws.length ≤ 16777216 := by omega
        simp [h0]
        generalize hr : compL _ _ _ _ _ _ _ _ = r
        have L := compM hr (fun w => .bl (wordP w)) trivial hkk (fun w hw => ⟨_, rfl, by
          have z : szP w ≤ 16777216 := by
            have := szPs_mem hw
            omega
          simp [F_is_word, okDs_all.mp q w hw, okXs_all.mp qx w hw, z]⟩)
        subst L
        have := fAll_tmp (ws.map wordP) h
        simp [Function.comp_def] at this
        have h2 : (ws.all fun x => wordP x) = true := by simpa using h1
        have h3 : F_is_whole [.tup ws] h = .ok (.bl true) h := by
          show (if _ then _ else _) = _
          rw [if_pos ⟨q, qx, hk, by simpa using hkk⟩, qh]
        simp [this, h2, h3]
      rw [e]; exact gc_nx
    · trivial
  · trivial
/-! ends_of -/
def F_ends_of : FF := fun as h => match as with
  | [.tup ws] => (match spansP ws.length ws with
    | some (es, _) => if dOks ws 63 = true ∧ ws.length ≤ sizeLine then .ok (.ref h.length) (h ++ [.lst (es.map fun e => .int (e : Nat))]) else .stuck
    | none => .stuck)
  | _ => .stuck
theorem gc_ends_of (as : List PV) (h : Hh) (hc : clH h) (hv : clVs h.length as) : GcR h (b_ends_of F_is_take (start0 N_ends_of as) h) (F_ends_of as h) := by
  unfold F_ends_of
  split
  · rename_i ws
    split
    · rename_i es wt0 es0
      split
      · rename_i q
        obtain ⟨qd, qz⟩ := q
        have qz' := (size_le _).mp qz
        have e : ∃ a b, b_ends_of F_is_take (start0 N_ends_of [.tup ws]) h = .rt (.ref (h.length + 1)) (h ++ [a, .lst (es.map fun e => .int (e : Nat)), b]) := by
          have rd := rng3_down qz
          have fm := fMul_lst (i := h.length) (n := ws.length) (xs := [.int 0]) (h := h ++ [.lst [.int 0]]) (by simp) (by simpa using qz') qz'
          simp [fm, rd]
          generalize hr : forL _ _ _ _ _ _ = r
          have L := forI hr (fun i s h' => ∃ es wt z1 z2, spansP ws.length (ws.drop (ws.length - i)) = some (es, wt) ∧ s = [some (.tup ws), some (.ref (h.length + 1)), some (.ref (h.length + 2)), z1, z2] ∧
            h' = h ++ [.lst [.int 0], .lst (List.replicate (ws.length - i) (.int 0) ++ es.map fun e => .int (e : Nat)), .lst (wt.reverse.map fun e => .int (e : Nat))]) ⟨[], [], none, none, by simp [spansP], rfl, by simp⟩ (fun _ _ _ _ _ => trivial) (by
              rintro i x s h' ex ⟨es, wt, z1, z2, hs, rfl, rfl⟩
              obtain ⟨hi, rfl⟩ := rangeL_at ex
              have hw : ws.reverse[i]? = some (ws.reverse[i]'(by simpa using hi)) := List.getElem?_eq_getElem _
              obtain ⟨w, hw⟩ : ∃ w, ws.reverse[i]? = some w := ⟨_, hw⟩
              obtain ⟨_, hd⟩ := rev_drop hw
              have hget : ws[ws.length - 1 - i]? = some w := by rw [List.getElem?_reverse hi] at hw; exact hw
              have hm : w ∈ ws := List.mem_of_getElem? hget
              have hwd : dOk w 64 = true := dOk_mono (by omega) (dOks_all.mp qd w hm)
              have hpl : ((ws.length : Int) - 1 + (i : Nat) * -1) = ((ws.length - 1 - i : Nat) : Int) := by omega
              rw [hpl]
              have hx : ∀ h, fIx (.tup ws) (.int ((ws.length - 1 - i : Nat) : Int)) h = .ok w h := fun h => fIx_tup h (atI_nat hget)
              have hs2 : spansP ws.length (ws.drop (ws.length - (i + 1))) ≠ none := fun z => by
                have := spansP_drop _ z
                rw [this] at es0
                cases es0
              rw [hd] at hs2 ⊢
              simp [hx, eqUse hwd, F_is_take, dOk_ty _ hwd]
              have hl := spansP_len hs
              have hwl := spansP_wlen hs
              simp at hl hwl
              have e0 : ws.length - 1 - i < (List.replicate (ws.length - i) (PV.int 0) ++ es.map fun e => PV.int (e : Nat)).length := by simp; omega
              have hsp := spansP_cons (w := w) hs
              have fs : ∀ (v : PV) (c : Cell), fSet (.ref (h.length + 1)) (.int ((ws.length - 1 - i : Nat) : Int)) v (h ++ [.lst [.int 0], .lst (List.replicate (ws.length - i) (.int 0) ++ es.map fun e => .int (e : Nat)), c]) = some (h ++ [.lst [.int 0], .lst (List.replicate (ws.length - (i + 1)) (.int 0) ++ v :: es.map fun e => .int (e : Nat)), c]) := fun v c => by
                rw [fSet_nat (by simp) e0, set_rep hi]
                simp
              rw [hsp] at hs2 ⊢
              have hpl2 : ((ws.length - 1 - i : Nat) : Int) + 1 = ((ws.length - (ws.drop (ws.length - i)).length : Nat) : Int) := by simp; omega
              rw [hpl2]
              generalize ws.length - (ws.drop (ws.length - i)).length = e1 at *
              unfold spStep at hs2 ⊢
              by_cases hu : isUse w = true
              · rw [if_pos hu] at hs2 ⊢
                rcases wt with _ | ⟨a, _ | ⟨b, wt⟩⟩
                · exact absurd rfl hs2
                · exact absurd rfl hs2
                · simp at hwl
                  simp [hu, mPop, Kd.chk, fs]
                  rw [mAppend_at (xs := (wt.map fun e => PV.int (e : Nat)).reverse) (by simp) (by simp; omega)]
                  simp
                  exact ⟨_, _, ⟨rfl, rfl⟩, by simp⟩
              · rw [if_neg hu] at hs2 ⊢
                by_cases ht : isTupP w = true
                · rw [if_pos ht] at hs2 ⊢
                  rcases wt with _ | ⟨a, wt⟩
                  · exact absurd rfl hs2
                  · simp at hwl
                    simp [hu, ht, mPop, Kd.chk, fs]
                    rw [mAppend_at (xs := (wt.map fun e => PV.int (e : Nat)).reverse) (by simp) (by simp; omega)]
                    simp
                    exact ⟨_, _, ⟨rfl, rfl⟩, by simp⟩
                · rw [if_neg ht]
                  simp [hu, ht, fs, Kd.chk]
                  rw [mAppend_at (xs := (wt.map fun e => PV.int (e : Nat)).reverse) (by simp) (by simp; omega)]
                  simp
                  exact ⟨_, _, ⟨rfl, rfl⟩, by simp⟩)
          obtain ⟨s', h', rfl, es', wt', z1, z2, hs, rfl, rfl⟩ := L
          simp [rangeL_len] at hs
          rw [es0] at hs
          cases hs
          simp [rangeL_len]
        obtain ⟨a, b, e⟩ := e
        rw [e]; exact gc_newm 1 hc rfl (clVs_ints _ _ _)
      · trivial
    · trivial
  · trivial
end U.K09
end
set_option Elab.async false
set_option linter.all false
set_option maxRecDepth 100000
set_option maxHeartbeats 4000000
noncomputable section
namespace U.K09
open PySem PySem.Spec PyProof.Rows L2 U
/-! takers_of -/
def F_takers_of : FF := fun as h => match as with
  | [.tup ws] => (match spansP ws.length ws with
    | some (es, _) => if dOks ws 63 = true ∧ ws.all wordP = true ∧ ws.length ≤ 1000000 then .ok (.ref h.length) (h ++ [.lst ((takersP 0 ws es []).map optP)]) else .stuck
    | none => .stuck)
  | _ => .stuck
theorem gc_takers_of (as : List PV) (h : Hh) (hc : clH h) (hv : clVs h.length as) : GcR h (b_takers_of F_ends_of F_is_take (start0 N_takers_of as) h) (F_takers_of as h) := by
  unfold F_takers_of
  split
  · rename_i ws
    split
    · rename_i es wt0 es0
      split
      · rename_i q
        obtain ⟨qd, qw, qz⟩ := q
        have e : ∃ g, g[1]? = some (.lst ((takersP 0 ws es []).map optP)) ∧ b_takers_of F_ends_of F_is_take (start0 N_takers_of [.tup ws]) h = .rt (.ref (h.length + 1)) (h ++ g) := by
          have fe : F_ends_of [.tup ws] h = .ok (.ref h.length) (h ++ [.lst (es.map fun e => .int (e : Nat))]) := by
            simp only [F_ends_of, es0]
            rw [if_pos ⟨qd, by have := size_le ws.length; omega⟩]
          simp [fe]
          generalize hr : forL _ _ _ _ _ _ = r
          have L := forI hr (fun i s h' => ∃ O g kvs fd z1 z2, s = [some (.tup ws), some (.ref h.length), some (.ref (h.length + 1)), some (.ref (h.length + 2)), some (.ref (h.length + 3)), z1, z2] ∧ h' = h ++ g ∧
            TkH h.length es (fd.map optP) g kvs O ∧ fd ++ takersP i (ws.drop i) (es.drop i) O = takersP 0 ws es [] ∧ fd.length = i ∧ O.length ≤ i ∧ kvs.length ≤ i)
            ⟨[], _, [], [], none, none, rfl, rfl, ⟨by simp, rfl, rfl, rfl, rfl, Arnd.nil _ _⟩, rfl, rfl, Nat.le_refl _, Nat.le_refl _⟩ (fun _ _ _ _ _ => trivial) (by
              rintro i y s h' ey ⟨O, g, kvs, fd, z1, z2, rfl, rfl, H, hF, hfl, hOl, hkl⟩
              obtain ⟨w, hw, rfl⟩ := enumL_at ey
              simp
              generalize hr2 : sWhile _ _ _ _ = r2
              have L2 := whileI hr2 (fun m s h' => ∃ O' g', s = [some (.tup ws), some (.ref h.length), some (.ref (h.length + 1)), some (.ref (h.length + 2)), some (.ref (h.length + 3)), some (.int (i : Nat)), some w] ∧ h' = h ++ g' ∧
                TkH h.length es (fd.map optP) g' kvs O' ∧ tkPop i O' = tkPop i O ∧ m = O'.length ∧ O'.length ≤ O.length)
                (fun s h' => ∃ g', s = [some (.tup ws), some (.ref h.length), some (.ref (h.length + 1)), some (.ref (h.length + 2)), some (.ref (h.length + 3)), some (.int (i : Nat)), some w] ∧ h' = h ++ g' ∧
                TkH h.length es (fd.map optP) g' kvs (tkPop i O) ∧ (tkPop i O).length ≤ O.length) (m := O.length) ⟨O, g, rfl, rfl, H, rfl, rfl, Nat.le_refl _⟩ (by
                  rintro m s h' ⟨O', g', rfl, rfl, H', hp, rfl, hle⟩
                  have hl : ∀ xs, g'[3]? = some (.lst xs) → fLen [.val (.ref (h.length + 3))] (h ++ g') = .ok (.int xs.length) (h ++ g') := fun xs e => fLen_lst (by rw [getA]; exact e)
                  cases O' with
                  | nil =>
                    simp [hl _ H'.c3]
                    refine ⟨?_, ?_⟩
                    · rw [← hp]; exact H'
                    · exact tkPop_le _ _
                  | cons o O' =>
                    have h3 : (h ++ g')[h.length + 3]? = some (.lst (O'.reverse.map otP ++ [otP o])) := by rw [getA, H'.c3]; simp
                    have hix : fIx (.ref (h.length + 3)) (.int (-1)) (h ++ g') = .ok (otP o) (h ++ g') := fIx_lst h3 (atI_last _ _)
                    simp only [List.length_cons] at hle
                    simp [hl _ H'.c3, hix, fIx_ot1]
                    by_cases ho : o.e ≤ i
                    · have hp2 : tkPop i (o :: O') = tkPop i O' := by
                        unfold tkPop
                        rw [List.dropWhile_cons_of_pos (by simpa using ho)]
                      obtain ⟨j, h4, e1, e2, Hp⟩ := H'.pop
                      have hj := (List.getElem?_eq_some_iff.mp e2).1
                      have po := mPop_at h3
                      simp at po
                      have c2 : (g'.set 3 (.lst (O'.reverse.map otP)))[2]? = some (.dic kvs) := by rw [List.getElem?_set_ne (by omega), H'.c2]
                      have dx : fIx (.ref (h.length + 2)) (.str o.x) (h ++ g'.set 3 (.lst (O'.reverse.map otP))) = .ok (.ref (h.length + j)) _ := fIx_dic (by rw [getA]; exact c2) rfl e1
                      have po2 := mPop_at (i := h.length + j) (xs := plsOf O' o.x) (y := .int (o.p : Nat)) (h := h ++ g'.set 3 (.lst (O'.reverse.map otP))) (by rw [getA, List.getElem?_set_ne (by omega)]; exact e2)
                      have e2' : (g'.set 3 (.lst (O'.map otP).reverse))[j]? = some (.lst (plsOf O' o.x ++ [.int (o.p : Nat)])) := by rw [List.getElem?_set_ne (by omega)]; exact e2
                      simp at dx po2 Hp
                      simp [ho, po, Kd.chk, H'.c3, fIx_ot0, dx, po2, e2']
                      exact ⟨O'.length, by omega, O', Hp, by rw [← hp, hp2], rfl, by omega⟩
                    · have hp2 : tkPop i (o :: O') = o :: O' := by
                        unfold tkPop
                        rw [List.dropWhile_cons_of_neg (by simpa using ho)]
                      simp [ho]
                      refine ⟨?_, tkPop_le _ _⟩
                      rw [← hp, hp2]; exact H')
              obtain ⟨s2, h2, rfl, g2, rfl, rfl, H2, hle2⟩ := L2
              have ma := mAppend_at (i := h.length + 1) (xs := fd.map optP) (u := .non) (h := h ++ g2) (by rw [getA]; exact H2.c1) (by simp; have := (List.getElem?_eq_some_iff.mp hw).1; omega)
              simp at ma
              have H3 := H2.fnd (fd.map optP ++ [.non])
              have hwm := List.mem_of_getElem? hw
              have hww : wordP w = true := by
                simp at qw
                exact qw w hwm
              have hwd : dOk w 64 = true := dOk_mono (by omega) (dOks_all.mp qd w hwm)
              have hil := (List.getElem?_eq_some_iff.mp hw).1
              simp [ma, Kd.chk, H2.c1, F_is_take, dOk_ty _ hwd]
              generalize g2.set 1 (.lst (fd.map optP ++ [.non])) = g3 at H3 ⊢
              obtain ⟨e, he⟩ : ∃ e, es[i]? = some e := ⟨_, List.getElem?_eq_getElem (by rw [spansP_len es0]; exact hil)⟩
              have hst := takers_step hw he O
              rcases wordP_cases hww with rfl | ⟨x, rfl, hx, hn⟩ | ⟨x, k, rfl, hx, hk, hn⟩
              · have hu : isUse useP = true := rfl
                simp [neUse hwd, hu]
                refine ⟨tkPop i O, kvs, fd ++ [none], by rw [← optP_app]; exact H3, ?_, by simp [hfl], by omega, by omega⟩
                rw [← hF, hst]
                simp [tkFind, hu, tkPush]
              · have hu : isUse (.str x) = false := by simp [isUse, hn]
                obtain ⟨j, ej, gj⟩ := H3.ar.get x
                have hgd := getD2_at (i := h.length + 2) (kvs := kvs) (u := .str x) (d := .ref (h.length + g3.length)) (k := .inr x) (h := h ++ (g3 ++ [.lst []])) (by rw [getA]; exact getO (c := .dic _) _ H3.c2) rfl
                rw [ej] at hgd
                have hlen : fLen [.val (.ref (h.length + j))] (h ++ (g3 ++ [.lst []])) = .ok (.int (plsOf (tkPop i O) x).length) (h ++ (g3 ++ [.lst []])) := fLen_lst (by rw [getA]; exact gj)
                simp [neUse hwd, hu, H3.c2, hgd, hlen]
                by_cases hz : plsOf (tkPop i O) x = []
                · have hf := plsOf_nil hz
                  simp [hz]
                  refine ⟨tkPop i O, kvs, fd ++ [none], by rw [← optP_app]; exact H3.app _, ?_, by simp [hfl], by omega, by omega⟩
                  rw [← hF, hst]
                  rw [tkFind_str hn, hf, tkPush_str]
                  simp
                · obtain ⟨ps, o, hps, hf⟩ := plsOf_snoc hz
                  have hz' : 0 < (plsOf (tkPop i O) x).length := by rw [hps]; simp
                  obtain ⟨j, _, ej, gj⟩ : ∃ j, 4 ≤ j ∧ valP kvs (.inr x) = some (.ref (h.length + j)) ∧ g3[j]? = some (.lst (plsOf (tkPop i O) x)) := by
                    cases ev : valP kvs (.inr x) with
                    | none => exact absurd (H3.ar.no x ev) hz
                    | some v =>
                      obtain ⟨j, h4, rfl, gj⟩ := H3.ar.at_ x v ev
                      exact ⟨j, h4, rfl, gj⟩
                  have d1 : fIx (.ref (h.length + 2)) (.str x) (h ++ (g3 ++ [.lst []])) = .ok (.ref (h.length + j)) _ := fIx_dic (by rw [getA]; exact getO (c := .dic _) _ H3.c2) rfl ej
                  have d2 : fIx (.ref (h.length + j)) (.int (-1)) (h ++ (g3 ++ [.lst []])) = .ok (.int (o.p : Nat)) _ := fIx_lst (by rw [getA]; exact getO (c := .lst _) _ gj) (by rw [hps]; exact atI_last _ _)
                  have d3 := fSet_nat (j := h.length + 1) (k := i) (v := .int (o.p : Nat)) (h := h ++ (g3 ++ [.lst []])) (by rw [getA]; exact getO (c := .lst _) _ H3.c1) (by simp [hfl])
                  simp [← hfl] at d3
                  rw [hfl] at d3
                  simp [hz', d1, d2, d3]
                  refine ⟨tkPop i O, kvs, fd ++ [some o.p], by rw [← optP_app]; exact (H3.app _).fnd _, ?_, by simp [hfl], by omega, by omega⟩
                  rw [← hF, hst]
                  rw [tkFind_str hn, hf, tkPush_str]
                  simp
              · have f0 : ∀ h, fIx (.tup [.str x, k]) (.int 0) h = .ok (.str x) h := fun h => fIx_tup h rfl
                obtain ⟨j, ej, gj⟩ := H3.ar.get x
                have hgd := getD2_at (i := h.length + 2) (kvs := kvs) (u := .str x) (d := .ref (h.length + g3.length)) (k := .inr x) (h := h ++ (g3 ++ [.lst []])) (by rw [getA]; exact getO (c := .dic _) _ H3.c2) rfl
                rw [ej] at hgd
                have hpl := plsOf_le (tkPop i O) x
                have fa := fAdd_lst (i := h.length + j) (j := h.length + (g3.length + 1)) (xs := plsOf (tkPop i O) x) (ys := [.int (i : Nat)]) (h := h ++ (g3 ++ [.lst [], .lst [.int (i : Nat)]])) (by
                  rw [getA]
                  have := getO [Cell.lst [.int (i : Nat)]] gj
                  simpa using this) (by rw [getA]; simp) (by simp; omega)
                simp at fa hgd
                have d3 := fSet_dic (j := h.length + 2) (u := .str x) (v := .ref (h.length + (g3.length + 2))) (k := .inr x) (kvs := kvs) (h := h ++ (g3 ++ [.lst [], .lst [.int (i : Nat)], .lst (plsOf (tkPop i O) x ++ [.int (i : Nat)])])) (by rw [getA]; exact getO (c := .dic _) _ H3.c2) rfl (by simp; omega)
                simp at d3
                have c3 := getO [Cell.lst [], Cell.lst [.int (i : Nat)], Cell.lst (plsOf (tkPop i O) x ++ [.int (i : Nat)])] H3.c3
                have d4 := mAppend_at (i := h.length + 3) (xs := ((tkPop i O).reverse.map otP)) (u := .tup [.str x, .int (e : Nat)]) (h := h ++ (g3 ++ [Cell.lst [], Cell.lst [.int (i : Nat)], Cell.lst (plsOf (tkPop i O) x ++ [.int (i : Nat)])]).set 2 (.dic (putP kvs (.inr x) (.ref (h.length + (g3.length + 2)))))) (by rw [getA, List.getElem?_set_ne (by omega)]; exact c3) (by simp; omega)
                have d5 : fIx (.ref h.length) (.int (i : Nat)) (h ++ (g3 ++ [Cell.lst [], Cell.lst [.int (i : Nat)], Cell.lst (plsOf (tkPop i O) x ++ [.int (i : Nat)])]).set 2 (.dic (putP kvs (.inr x) (.ref (h.length + (g3.length + 2)))))) = .ok (.int (e : Nat)) _ := fIx_lst (by rw [getA0, List.getElem?_set_ne (by omega)]; exact getO (c := .lst _) _ H3.c0) (atI_nat (by simp [he]))
                simp at c3 d4 d5
                simp [f0, H2.c2, H3.c2, hgd, fa, d3, c3, d4, d5]
                have Hp := (H3.app [Cell.lst [], Cell.lst [.int (i : Nat)]]).push ⟨x, i, e⟩
                have hkp := putP_len kvs (.inr x) (.ref (h.length + (g3.length + 2)))
                simp [otP] at Hp
                refine ⟨⟨x, i, e⟩ :: tkPop i O, _, fd ++ [none], by rw [← optP_app]; simpa [otP, optP] using Hp, ?_, by simp [hfl], by simp; omega, by omega⟩
                rw [← hF, hst, tkFind_tup, tkPush_tup]
                simp)
          obtain ⟨s', h', rfl, O, g, kvs, fd, z1, z2, rfl, rfl, H, hF, _⟩ := L
          rw [enumL_len] at hF
          simp [takersP] at hF
          refine ⟨g, ?_, by simp⟩
          rw [H.c1, ← hF]
        obtain ⟨g, hg, e⟩ := e
        rw [e]; exact gc_newm 1 hc hg (clVs_all.mpr fun x hx => by
          obtain ⟨y, _, rfl⟩ := List.mem_map.mp hx
          cases y <;> trivial)
      · trivial
    · trivial
  · trivial
end U.K09
end
set_option Elab.async false
set_option linter.all false
set_option maxRecDepth 100000
set_option maxHeartbeats 4000000
noncomputable section
namespace U.K09
open PySem PySem.Spec PyProof.Rows L2 U
/-! is_open_at -/
def F_is_open_at : FF := fun as h => match as with
  | [.tup ws, .ref j, .int p] => (match h[j]? with
    | some (.lst xs) => (match atI ws p, atI xs p with
      | some w, some y => if dOk w 64 = true then .ok (.bl (!isTupP w && !isUse w && y.isN)) h else .stuck
      | _, _ => .stuck)
    | _ => .stuck)
  | _ => .stuck
theorem gc_is_open_at (as : List PV) (h : Hh) (hc : clH h) (hv : clVs h.length as) : GcR h (b_is_open_at F_is_take (start0 N_is_open_at as) h) (F_is_open_at as h) := by
  unfold F_is_open_at
  split
  · rename_i ws j p
    split
    · rename_i xs ex
      split
      · rename_i w y ew ey
        split
        · rename_i q
          have e : b_is_open_at F_is_take (start0 N_is_open_at [.tup ws, .ref j, .int p]) h = .rt (.bl (!isTupP w && !isUse w && y.isN)) h := by
            have f1 := fIx_tup h ew
            have f2 := fIx_lst ex ey
            simp [f1, f2, F_is_take, dOk_ty _ q, neUse q]
            cases isTupP w <;> cases isUse w <;> simp
          rw [e]; exact gc_same
        · trivial
      · trivial
    · trivial
  · trivial
/-! counts_of -/
def F_counts_of : FF := fun as h => match as with
  | [.tup ws] => (match spansP ws.length ws with
    | some (es, _) => if dOks ws 63 = true ∧ ws.all wordP = true ∧ ws.length ≤ 1000000 ∧ ((takersP 0 ws es []).all fun t => match t with | none => true | some q => (valP (cnt0 ws) (.inl (q : Nat))).isSome) = true then .ok (.ref h.length) (h ++ [.dic (cntW (cnt0 ws) ws (takersP 0 ws es []))]) else .stuck
    | none => .stuck)
  | _ => .stuck
theorem gc_counts_of (as : List PV) (h : Hh) (hc : clH h) (hv : clVs h.length as) : GcR h (b_counts_of F_takers_of F_is_take F_is_open_at (start0 N_counts_of as) h) (F_counts_of as h) := by
  unfold F_counts_of
  split
  · rename_i ws
    split
    · rename_i es wt0 es0
      split
      · rename_i q
        obtain ⟨qd, qw, qz, qt⟩ := q
        have hes := spansP_len es0
        have htl := takersP_len 0 ws es [] hes
        have e : ∃ c, b_counts_of F_takers_of F_is_take F_is_open_at (start0 N_counts_of [.tup ws]) h = .rt (.ref (h.length + 1)) (h ++ [c, .dic (cntW (cnt0 ws) ws (takersP 0 ws es []))]) := by
          have ft : F_takers_of [.tup ws] h = .ok (.ref h.length) (h ++ [.lst ((takersP 0 ws es []).map optP)]) := by
            simp only [F_takers_of, es0]
            rw [if_pos ⟨qd, qw, qz⟩]
          generalize takersP 0 ws es [] = tks at *
          simp [ft]
          generalize hr : dcompL _ _ _ _ _ _ _ _ _ = r
          have L := dcompP hr (fun y => match y with | .tup [_, w] => isTupP w | _ => false) (fun y => match y with | .tup [.int p, _] => .inl p | _ => .inl 0) (fun _ => .int 0) trivial (by rw [enumL_len]; have := size_le ws.length; omega) (fun y hy => by
            obtain ⟨i, hi⟩ := List.getElem?_of_mem hy
            obtain ⟨w, hw, rfl⟩ := enumL_at hi
            have hwd := dOks_all.mp qd w (List.mem_of_getElem? hw)
            refine ⟨_, rfl, ?_, fun _ => ⟨.int (i : Nat), ?_, rfl, ?_⟩⟩
            · simp [F_is_take, dOk_ty _ hwd]
            · simp
            · simp)
          have e0 : r = .ok (cnt0 ws) (h ++ [.lst (tks.map optP)]) := L
          subst e0
          simp
          clear hr
          generalize hr : forL _ _ _ _ _ _ = r
          have L := forI hr (fun i s h' => ∃ kvs z1 z2, s = [some (.tup ws), some (.ref h.length), some (.ref (h.length + 1)), z1, z2] ∧ h' = h ++ [.lst (tks.map optP), .dic kvs] ∧
            cntW kvs (ws.drop i) (tks.drop i) = cntW (cnt0 ws) ws tks ∧ (∀ k v, valP kvs k = some v → ∃ n, v = .int n) ∧ (∀ k, (valP (cnt0 ws) k).isSome = true → (valP kvs k).isSome = true) ∧ kvs.length ≤ ws.length + i)
            ⟨cnt0 ws, none, none, rfl, rfl, rfl, cnt0_int ws, fun _ h => h, cnt0_len ws⟩ (fun _ _ _ _ _ => trivial) (by
              rintro i y s h' ey ⟨kvs, z1, z2, rfl, rfl, hF, hI, hK, hl⟩
              obtain ⟨w, hw, rfl⟩ := enumL_at ey
              have hil := (List.getElem?_eq_some_iff.mp hw).1
              obtain ⟨t, ht⟩ : ∃ t, tks[i]? = some t := ⟨_, List.getElem?_eq_getElem (by omega)⟩
              have hst := cntW_step (kvs := kvs) hw ht
              rw [hF] at hst
              have hwd : dOk w 64 = true := dOk_mono (by omega) (dOks_all.mp qd w (List.mem_of_getElem? hw))
              have fx : fIx (.ref h.length) (.int (i : Nat)) (h ++ [.lst (tks.map optP), .dic kvs]) = .ok (optP t) _ := fIx_lst (xs := tks.map optP) (by simp) (atI_nat (by simp [ht]))
              simp [fx]
              cases t with
              | some q =>
                have hq : (valP (cnt0 ws) (.inl (q : Nat))).isSome = true := by
                  simp only [List.all_eq_true] at qt
                  exact qt (some q) (List.mem_of_getElem? ht)
                obtain ⟨v, hv2⟩ := Option.isSome_iff_exists.mp (hK _ hq)
                obtain ⟨n, rfl⟩ := hI _ _ hv2
                have g1 : fIxM (.ref (h.length + 1)) (.int (q : Nat)) (h ++ [.lst (tks.map optP), .dic kvs]) = .ok (.int n) _ := fIxM_dic (k := .inl (q : Nat)) (kvs := kvs) (by simp) rfl hv2
                have g2 := fSet_dic (j := h.length + 1) (u := .int (q : Nat)) (v := .int (n + 1)) (k := .inl (q : Nat)) (kvs := kvs) (h := h ++ [.lst (tks.map optP), .dic kvs]) (by simp) rfl (by simp; omega)
                simp at g2
                simp [optP, g1, g2]
                have hs : stepC kvs w (some q) = putP kvs (.inl (q : Nat)) (.int (n + 1)) := by simp [stepC, hv2, incP]
                rw [hs] at hst
                exact ⟨hst.symm, putP_int hI _ _, fun k hk => putP_some (hK k hk), by have := putP_len kvs (.inl (q : Nat)) (.int (n + 1)); omega⟩
              | none =>
                have ho : F_is_open_at [.tup ws, .ref h.length, .int (i : Nat)] (h ++ [.lst (tks.map optP), .dic kvs]) = .ok (.bl (!isTupP w && !isUse w)) (h ++ [.lst (tks.map optP), .dic kvs]) := by
                  have a1 : atI ws (i : Nat) = some w := atI_nat hw
                  have a2 : atI (tks.map optP) (i : Nat) = some .non := atI_nat (by simp [ht, optP])
                  simp only [F_is_open_at, getA0, List.getElem?_cons_zero, a1, a2, hwd, if_true]
                  simp [PV.isN]
                have hww : wordP w = true := by
                  simp at qw
                  exact qw w (List.mem_of_getElem? hw)
                rcases wordP_cases hww with rfl | ⟨x, rfl, hx, hn⟩ | ⟨x, k, rfl, hx, hk, hn⟩
                · have hu : isUse useP = true := rfl
                  have hs : stepC kvs useP none = kvs := by simp [stepC, hu]
                  rw [hs] at hst
                  simp [optP, ho, hu]
                  exact ⟨hst.symm, hI, hK, by omega⟩
                · have hu : isUse (.str x) = false := by simp [isUse, hn]
                  have hs : stepC kvs (.str x) none = putP kvs (.inr x) (incP (valP kvs (.inr x))) := by simp [stepC, hu, nmOf]
                  rw [hs] at hst
                  have g1 := getD2_at (i := h.length + 1) (u := .str x) (d := .int 0) (k := .inr x) (kvs := kvs) (h := h ++ [.lst (tks.map optP), .dic kvs]) (by simp) rfl
                  obtain ⟨n, hn1, hn2⟩ : ∃ n, (valP kvs (.inr x)).getD (.int 0) = .int n ∧ incP (valP kvs (.inr x)) = .int (n + 1) := by
                    cases ev : valP kvs (.inr x) with
                    | none => exact ⟨0, rfl, rfl⟩
                    | some v =>
                      obtain ⟨n, rfl⟩ := hI _ _ ev
                      exact ⟨n, rfl, rfl⟩
                  rw [hn1] at g1
                  rw [hn2] at hst
                  have g2 := fSet_dic (j := h.length + 1) (u := .str x) (v := .int (n + 1)) (k := .inr x) (kvs := kvs) (h := h ++ [.lst (tks.map optP), .dic kvs]) (by simp) rfl (by simp; omega)
                  simp at g2
                  simp [optP, ho, hu, g1, g2, Kd.chk]
                  exact ⟨hst.symm, putP_int hI _ _, fun k hk => putP_some (hK k hk), by have := putP_len kvs (.inr x) (.int (n + 1)); omega⟩
                · have hs : stepC kvs (.tup [.str x, k]) none = kvs := by simp [stepC]
                  rw [hs] at hst
                  simp [optP, ho]
                  exact ⟨hst.symm, hI, hK, by omega⟩)
          obtain ⟨s', h', rfl, kvs, z1, z2, rfl, rfl, hF, _⟩ := L
          rw [enumL_len] at hF
          simp [cntW] at hF
          simp [hF]
        obtain ⟨c, e⟩ := e
        rw [e]; exact gc_newm 1 hc rfl ((AllI.cnt0 ws).cntW.cl _)
      · trivial
    · trivial
  · trivial
/-! counts -/
def F_counts : FF := fun as h => match as with
  | [.tup ws] => (match F_check_program [.tup ws] h with
    | .ok _ _ => F_counts_of [.tup ws] h
    | _ => .stuck)
  | _ => .stuck
theorem F_check_same {as : List PV} {h h' : Hh} {v : PV} (e : F_check_program as h = .ok v h') : v = .non ∧ h' = h := by
  unfold F_check_program at e
  split at e
  · split at e
    · cases e; exact ⟨rfl, rfl⟩
    · cases e
  · cases e
theorem gc_counts (as : List PV) (h : Hh) (hc : clH h) (hv : clVs h.length as) : GcR h (b_counts F_check_program F_counts_of (start0 N_counts as) h) (F_counts as h) := by
  unfold F_counts
  split
  · rename_i ws
    split
    · rename_i v h' e
      obtain ⟨rfl, rfl⟩ := F_check_same e
      cases q : F_counts_of [.tup ws] h' with
      | stuck => trivial
      | ok v h2 =>
        have e2 : b_counts F_check_program F_counts_of (start0 N_counts [.tup ws]) h' = .rt v h2 := by simp [e, q]
        rw [e2]; exact gc_same
      | exn c fs h2 =>
        unfold F_counts_of at q
        simp only at q
        split at q
        · split at q <;> cases q
        · cases q
    · trivial
  · trivial
end U.K09
end
set_option Elab.async false
set_option linter.all false
set_option maxRecDepth 100000
set_option maxHeartbeats 4000000
noncomputable section
namespace U.K09
open PySem PySem.Spec PyProof.Rows L2 U
/-! _law_spans -/
def F__law_spans : FF := fun as h => match as with
  | [.tup ws] => (match spansP ws.length ws with
    | some (es, _) => if dOks ws 63 = true ∧ ws.length ≤ sizeLine then .ok (.ref h.length) (h ++ [.lst (es.map fun e => .int (e : Nat))]) else .stuck
    | none => .stuck)
  | _ => .stuck
theorem gc__law_spans (as : List PV) (h : Hh) (hc : clH h) (hv : clVs h.length as) : GcR h (b__law_spans (start0 N__law_spans as) h) (F__law_spans as h) := by
  unfold F__law_spans
  split
  · rename_i ws
    split
    · rename_i es wt0 es0
      split
      · rename_i q
        obtain ⟨qd, qz⟩ := q
        have qz' := (size_le _).mp qz
        have e : ∃ a b, b__law_spans (start0 N__law_spans [.tup ws]) h = .rt (.ref (h.length + 1)) (h ++ [a, .lst (es.map fun e => .int (e : Nat)), b]) := by
          have rd := rng3_down qz
          have fm := fMul_lst (i := h.length) (n := ws.length) (xs := [.int 0]) (h := h ++ [.lst [.int 0]]) (by simp) (by simpa using qz') qz'
          simp [fm, rd]
          generalize hr : forL _ _ _ _ _ _ = r
          have L := forI hr (fun i s h' => ∃ es wt z1 z2, spansP ws.length (ws.drop (ws.length - i)) = some (es, wt) ∧ s = [some (.tup ws), some (.ref (h.length + 1)), some (.ref (h.length + 2)), z1, z2] ∧
            h' = h ++ [.lst [.int 0], .lst (List.replicate (ws.length - i) (.int 0) ++ es.map fun e => .int (e : Nat)), .lst (wt.reverse.map fun e => .int (e : Nat))]) ⟨[], [], none, none, by simp [spansP], rfl, by simp⟩ (fun _ _ _ _ _ => trivial) (by
              rintro i x s h' ex ⟨es, wt, z1, z2, hs, rfl, rfl⟩
              obtain ⟨hi, rfl⟩ := rangeL_at ex
              have hw : ws.reverse[i]? = some (ws.reverse[i]'(by simpa using hi)) := List.getElem?_eq_getElem _
              obtain ⟨w, hw⟩ : ∃ w, ws.reverse[i]? = some w := ⟨_, hw⟩
              obtain ⟨_, hd⟩ := rev_drop hw
              have hget : ws[ws.length - 1 - i]? = some w := by rw [List.getElem?_reverse hi] at hw; exact hw
              have hm : w ∈ ws := List.mem_of_getElem? hget
              have hwd : dOk w 64 = true := dOk_mono (by omega) (dOks_all.mp qd w hm)
              have hpl : ((ws.length : Int) - 1 + (i : Nat) * -1) = ((ws.length - 1 - i : Nat) : Int) := by omega
              rw [hpl]
              have hx : ∀ h, fIx (.tup ws) (.int ((ws.length - 1 - i : Nat) : Int)) h = .ok w h := fun h => fIx_tup h (atI_nat hget)
              have hs2 : spansP ws.length (ws.drop (ws.length - (i + 1))) ≠ none := fun z => by
                have := spansP_drop _ z
                rw [this] at es0
                cases es0
              rw [hd] at hs2 ⊢
              simp [hx, eqUse hwd, dOk_ty _ hwd]
              have hl := spansP_len hs
              have hwl := spansP_wlen hs
              simp at hl hwl
              have e0 : ws.length - 1 - i < (List.replicate (ws.length - i) (PV.int 0) ++ es.map fun e => PV.int (e : Nat)).length := by simp; omega
              have hsp := spansP_cons (w := w) hs
              have fs : ∀ (v : PV) (c : Cell), fSet (.ref (h.length + 1)) (.int ((ws.length - 1 - i : Nat) : Int)) v (h ++ [.lst [.int 0], .lst (List.replicate (ws.length - i) (.int 0) ++ es.map fun e => .int (e : Nat)), c]) = some (h ++ [.lst [.int 0], .lst (List.replicate (ws.length - (i + 1)) (.int 0) ++ v :: es.map fun e => .int (e : Nat)), c]) := fun v c => by
                rw [fSet_nat (by simp) e0, set_rep hi]
                simp
              rw [hsp] at hs2 ⊢
              have hpl2 : ((ws.length - 1 - i : Nat) : Int) + 1 = ((ws.length - (ws.drop (ws.length - i)).length : Nat) : Int) := by simp; omega
              rw [hpl2]
              generalize ws.length - (ws.drop (ws.length - i)).length = e1 at *
              unfold spStep at hs2 ⊢
              by_cases hu : isUse w = true
              · rw [if_pos hu] at hs2 ⊢
                rcases wt with _ | ⟨a, _ | ⟨b, wt⟩⟩
                · exact absurd rfl hs2
                · exact absurd rfl hs2
                · simp at hwl
                  simp [hu, mPop, Kd.chk, fs]
                  rw [mAppend_at (xs := (wt.map fun e => PV.int (e : Nat)).reverse) (by simp) (by simp; omega)]
                  simp
                  exact ⟨_, _, ⟨rfl, rfl⟩, by simp⟩
              · rw [if_neg hu] at hs2 ⊢
                by_cases ht : isTupP w = true
                · rw [if_pos ht] at hs2 ⊢
                  rcases wt with _ | ⟨a, wt⟩
                  · exact absurd rfl hs2
                  · simp at hwl
                    simp [hu, ht, mPop, Kd.chk, fs]
                    rw [mAppend_at (xs := (wt.map fun e => PV.int (e : Nat)).reverse) (by simp) (by simp; omega)]
                    simp
                    exact ⟨_, _, ⟨rfl, rfl⟩, by simp⟩
                · rw [if_neg ht]
                  simp [hu, ht, fs, Kd.chk]
                  rw [mAppend_at (xs := (wt.map fun e => PV.int (e : Nat)).reverse) (by simp) (by simp; omega)]
                  simp
                  exact ⟨_, _, ⟨rfl, rfl⟩, by simp⟩)
          obtain ⟨s', h', rfl, es', wt', z1, z2, hs, rfl, rfl⟩ := L
          simp [rangeL_len] at hs
          rw [es0] at hs
          cases hs
          simp [rangeL_len]
        obtain ⟨a, b, e⟩ := e
        rw [e]; exact gc_newm 1 hc rfl (clVs_ints _ _ _)
      · trivial
    · trivial
  · trivial
end U.K09
end
set_option Elab.async false
set_option linter.all false
set_option maxRecDepth 100000
set_option maxHeartbeats 4000000
noncomputable section
namespace U.K09
open PySem PySem.Spec PyProof.Rows L2 U
theorem rng_ok {n : Nat} (h : n ≤ 16777216) : rngOk (n : Nat) := by
  constructor
  · show (-4611686018427387904 : Int) ≤ _; omega
  · show _ < (4611686018427387904 : Int); omega
theorem iR1_ok {m : Ev} {s : Ev0} {h : Hh} {n : Nat} (e : m s h = .ok (.int (n : Nat)) h) (hn : n ≤ 16777216) : iR1 m s h = .ok (rangeL 0 1 n, none) h := by
  have r := rng_ok hn
  simp only [iR1, e, Res.bind, Res.guard]
  rw [if_pos r]
  simp
/-! _law_owners -/
def ownersP (ws : List PV) (es : List Nat) : List (Option Nat) := owL (gOwn [] (takesP 0 ws es)) 0 ws
def F__law_owners : FF := fun as h => match as with
  | [.tup ws] => (match spansP ws.length ws with
    | some (es, _) => if dOks ws 63 = true ∧ ws.all wordP = true ∧ ws.length ≤ 1000000 then .ok (.ref h.length) (h ++ [.lst ((ownersP ws es).map optP)]) else .stuck
    | none => .stuck)
  | _ => .stuck
def eqW (x : List Nat) (w : PV) : Bool := match w with
  | .str z => decide (x = z)
  | _ => false
theorem fMax_lst {i : Nat} {ns : List Int} {h : Hh} (e : h[i]? = some (.lst (ns.map PV.int))) (h0 : 0 < ns.length) : fMax [.val (.ref i)] h = .ok (.int (maxI ns)) h := by
  unfold fMax
  simp [lstA_ref e, h0]
theorem owl_take (g : Nat → PV → Option Nat) : ∀ (p i : Nat) (ws : List PV) (w : PV), ws[i]? = some w → (owL g p ws).take (i + 1) = (owL g p ws).take i ++ [g (p + i) w] := by
  intro p i ws w e
  rw [List.take_succ, owL_get g e]
  rfl
/-- a comprehension over the places -/
theorem comp_takes {s : Ev0} {k : Nat} {ws : List PV} {h : Hh} (h0 : k ≠ 0) (hk : k < s.length) (hs : s[0]? = some (some (.tup ws))) (hwd : ∀ w ∈ ws, dOk w 63 = true) (hz : ws.length ≤ 1000000) :
    compL (bN k) (tB1 (eIsi sub [.ty "tuple"] (aV (e2 fIx (eVar 0) (eVar k))))) (eVar k) none s (rangeL 0 1 ws.length) [] h = .ok ((tksP ws).map fun o => .int (o : Nat)) h := by
  have := compP (b := bN k) (c := tB1 (eIsi sub [.ty "tuple"] (aV (e2 fIx (eVar 0) (eVar k))))) (e := eVar k) (g := none) (s := s) (xs := rangeL 0 1 ws.length) (h := h) rfl (fun y => match y with | .int q => (match ws[q.toNat]? with | some w => isTupP w | none => false) | _ => false) (fun y => y) trivial (by rw [rangeL_len]; have := size_le ws.length; omega) (by
    intro x hx
    obtain ⟨i, hi0⟩ := List.getElem?_of_mem hx
    obtain ⟨hi, rfl⟩ := rangeL_at hi0
    obtain ⟨w, hw⟩ : ∃ w, ws[i]? = some w := ⟨_, List.getElem?_eq_getElem hi⟩
    have e1 : (0 : Int) + (i : Nat) * 1 = (i : Nat) := by omega
    rw [e1]
    have s0 : (s.set k (some (.int (i : Nat))))[0]? = some (some (.tup ws)) := by rw [List.getElem?_set_ne h0, hs]
    have sk : (s.set k (some (.int (i : Nat))))[k]? = some (some (.int (i : Nat))) := List.getElem?_set_self hk
    have fx : fIx (.tup ws) (.int (i : Nat)) h = .ok w h := fIx_tup h (atI_nat hw)
    refine ⟨_, rfl, ?_, fun _ => by simp [sk]⟩
    simp [s0, sk, fx, hw, dOk_ty _ (hwd w (List.mem_of_getElem? hw))])
  rw [this]
  simp [rangeL, List.filter_map, Function.comp_def, tksP] <;> rfl
theorem takes_tks (ws : List PV) (es : List Nat) (hes : es.length = ws.length) : (takesP 0 ws es).map (·.p) = tksP ws := by
  rw [takesP_filter 0 ws es hes]
  simp
  rfl
/-- what is known of the takes -/
def OwnL (ws : List PV) (es : List Nat) (L : List OT) : Prop := ∀ o ∈ L, ∃ w x k, ws[o.p]? = some w ∧ es[o.p]? = some o.e ∧ w = .tup [.str x, k] ∧ o.x = x ∧ nameL x = true
theorem ownL_takes {ws : List PV} {es : List Nat} (hww : ∀ w ∈ ws, wordP w = true) : OwnL ws es (takesP 0 ws es) := fun o ho => by
  obtain ⟨i, w, h1, h2, h3, h4, h5⟩ := takesP_mem ho
  have := hww w (List.mem_of_getElem? h1)
  cases w with
  | tup as =>
    obtain ⟨x, k, rfl, hn, _⟩ := wordP_tup this
    rw [Nat.zero_add] at h3
    exact ⟨_, x, k, by rw [h3]; exact h1, by rw [h3]; exact h2, rfl, h5, hn⟩
  | _ => simp at h4
abbrev ownC : Tv := tAndE (tB1 (eChain fLt fLt (eVar 7) (eVar 4) (e2 fIx (eVar 1) (eVar 7)))) (tB1 (e2 fEqA (e2 fIx (e2 fIx (eVar 0) (eVar 7)) (eC (.int 0))) (eVar 5)))
def ownS (L : List OT) (i : Nat) (w : PV) : List OT := L.filter fun o => decide (o.p < i) && decide (i < o.e) && eqW o.x w
theorem own_comp {ws : List PV} {es : List Nat} {L : List OT} {n i : Nat} {w : PV} {z6 : Option PV} {H : Hh} (hL : OwnL ws es L) (hLl : L.length ≤ 1000000) (hwd : dOk w 63 = true) (H0 : H[n]? = some (.lst (es.map fun e => .int (e : Nat)))) (H1 : H[n + 1]? = some (.lst (L.map fun o => .int (o.p : Nat)))) :
    compL (bN 7) ownC (eVar 7) (some (n + 1, .lst (L.map fun o => .int (o.p : Nat)))) [some (.tup ws), some (.ref n), some (.ref (n + 1)), some (.ref (n + 2)), some (.int (i : Nat)), some w, z6, none] (L.map fun o => .int (o.p : Nat)) [] H = .ok ((ownS L i w).map fun o => .int (o.p : Nat)) H := by
  have := compP (b := bN 7) (c := ownC) (e := eVar 7) (g := (some (n + 1, .lst (L.map fun o => .int (o.p : Nat))))) (s := [some (.tup ws), some (.ref n), some (.ref (n + 1)), some (.ref (n + 2)), some (.int (i : Nat)), some w, z6, none]) (xs := (L.map fun o => .int (o.p : Nat))) (h := H) rfl
    (fun y => match y with | .int q => (match ws[q.toNat]?, es[q.toNat]? with | some u, some e => decide (q.toNat < i) && decide (i < e) && eqW (nmOf u) w | _, _ => false) | _ => false) (fun y => y) H1 (by simp; omega) (by
    intro y hy
    obtain ⟨o, ho, rfl⟩ := List.mem_map.mp hy
    obtain ⟨u, x, k, h1, h2, rfl, h3, h4⟩ := hL o ho
    refine ⟨_, rfl, ?_, fun _ => by simp⟩
    have f1 : fIx (.ref n) (.int (o.p : Nat)) H = .ok (.int (o.e : Nat)) H := fIx_lst H0 (atI_nat (by simp [h2]))
    have f2 : fIx (.tup ws) (.int (o.p : Nat)) H = .ok (.tup [.str x, k]) H := fIx_tup H (atI_nat h1)
    have f3 : fIx (.tup [.str x, k]) (.int 0) H = .ok (.str x) H := fIx_tup H rfl
    have f4 : fEqA (.str x) w H = .ok (.bl (eqW x w)) H := by
      have hx64 : dOk (.str x) 64 = true := (name_okS h4).1
      rw [fEqA_pure hx64 (dOk_mono (by omega) hwd)]
      cases w <;> simp [eqP, eqW]
      rename_i z
      by_cases q : x = z <;> simp [q]
    have n1 : nmOf (.tup [.str x, k]) = x := rfl
    by_cases c1 : o.p < i
    · by_cases c2 : i < o.e
      · simp [h1, h2, f1, f2, f3, f4, n1, c1, c2]
      · simp [h1, h2, f1, c1, c2]
    · simp [h1, h2, f1, c1])
  rw [this]
  simp [List.filter_map, Function.comp_def, ownS]
  congr 1
  apply List.filter_congr
  intro o ho
  obtain ⟨u, x, k, h1, h2, rfl, h3, h4⟩ := hL o ho
  simp [h1, h2, h3, nmOf]
theorem own_key {ws : List PV} {es : List Nat} {L : List OT} {i : Nat} {w : PV} (hL : OwnL ws es L) (hLa : L.Pairwise fun a b => a.p < b.p) (hw : wordP w = true) :
    (match w with | .str x => (if 0 < (ownS L i w).length then PV.int (maxI ((ownS L i w).map fun o => (o.p : Int))) else .non) | _ => .non) = optP (gOwn [] L i w) := by
  have g0 : gOwn [] L i w = if isTupP w = true ∨ isUse w = true then none else nearT L i (nmOf w) := by
    unfold gOwn
    simp
  rw [g0]
  rcases wordP_cases hw with rfl | ⟨x, rfl, hx, hn⟩ | ⟨x, k, rfl, hx, hk, hn⟩
  · have : ownS L i useP = [] := by
      unfold ownS
      rw [List.filter_eq_nil_iff]
      intro o ho
      obtain ⟨u, x, k, h1, h2, rfl, h3, h4⟩ := hL o ho
      have := use_nn h4
      simp [eqW, h3, this]
    simp [this, isUse, optP]
  · have hu : isUse (.str x) = false := by simp [isUse, hn]
    simp only [isTupP_str, hu, Bool.false_eq_true, or_self, if_false]
    have hS2 : (L.filter fun o => decide (o.p < i) && decide (i < o.e) && decide (o.x = x)) = ownS L i (.str x) := rfl
    show _ = optP (nearT L i x)
    unfold nearT
    rw [hS2]
    by_cases h0 : 0 < (ownS L i (.str x)).length
    · rw [if_pos h0]
      obtain ⟨o, ho⟩ : ∃ o, (ownS L i (.str x)).getLast? = some o := ⟨_, List.getLast?_eq_some_getLast (List.length_pos_iff.mp h0)⟩
      rw [ho]
      show _ = PV.int (o.p : Nat)
      congr 1
      apply maxI_asc
      · have h1 : (ownS L i (.str x)).Pairwise fun a b => a.p < b.p := hLa.sublist List.filter_sublist
        rw [List.pairwise_map]
        exact h1.imp fun h => by omega
      · rw [List.getLast?_map, ho]; rfl
    · have : ownS L i (.str x) = [] := List.length_eq_zero_iff.mp (by omega)
      simp [this, optP]
  · simp [optP]
abbrev ownB : Sv := (sSeq (sAsg (eNew (lComp (iAny (eVar 2)) (bN 7) ownC (eVar 7) [7])) (gN 6)) (sExpr (eMt .lst mAppend (eVar 3) (aCons (aV (eIf (tAndE (tB1 (eIsi sub [.ty "str"] (aV (eVar 5)))) (tB1 (e2 fGt (eFn fLen (aCons (aV (eVar 6)) aNil)) (eC (.int 0))))) (eFn fMax (aCons (aV (eVar 6)) aNil)) (eC .non))) aNil))))
theorem own_step {ws : List PV} {es : List Nat} {L : List OT} {n i : Nat} {w : PV} {z6 : Option PV} {H : Hh} {fd : List PV} (hL : OwnL ws es L) (hLa : L.Pairwise fun a b => a.p < b.p) (hLl : L.length ≤ 1000000) (hw : wordP w = true) (hwd : dOk w 63 = true) (H0 : H[n]? = some (.lst (es.map fun e => .int (e : Nat)))) (H1 : H[n + 1]? = some (.lst (L.map fun o => .int (o.p : Nat)))) (H2 : H[n + 2]? = some (.lst fd)) (hf : fd.length ≤ 1000000) :
    ownB [some (.tup ws), some (.ref n), some (.ref (n + 1)), some (.ref (n + 2)), some (.int (i : Nat)), some w, z6, none] H = .nx [some (.tup ws), some (.ref n), some (.ref (n + 1)), some (.ref (n + 2)), some (.int (i : Nat)), some w, some (.ref H.length), none] ((H ++ [Cell.lst ((ownS L i w).map fun o => .int (o.p : Nat))]).set (n + 2) (.lst (fd ++ [optP (gOwn [] L i w)]))) := by
  have an := anyOf_lst H1
  have cS := own_comp (i := i) (z6 := z6) hL hLl hwd H0 H1
  have key := own_key (i := i) hL hLa hw
  generalize ownS L i w = S at *
  have gl : (H ++ [Cell.lst (S.map fun o => .int (o.p : Nat))])[H.length]? = some (.lst (S.map fun o => .int (o.p : Nat))) := by simp
  have fl := fLen_lst gl
  simp at fl
  have oT := dOk_ty (H ++ [Cell.lst (S.map fun o => .int (o.p : Nat))]) hwd
  have g2 : (H ++ [Cell.lst (S.map fun o => .int (o.p : Nat))])[n + 2]? = some (.lst fd) := getO _ H2
  have ma := fun u => mAppend_at (u := u) g2 ((size_lt _).mpr (by omega))
  have ck := chk_lst g2
  rw [← key]
  generalize gOwn [] L i w = go at *
  by_cases h0 : 0 < S.length
  · have h0' : (0 : Int) < S.length := by omega
    have fm := fMax_lst (ns := S.map fun o => (o.p : Int)) (i := H.length) (h := H ++ [Cell.lst (S.map fun o => .int (o.p : Nat))]) (by simp) (by simpa using h0)
    cases w with
    | str x => simp [an, cS, oT, fl, h0, fm, ck, ma]
    | _ => simp [an, cS, oT, ck, ma]
  · cases w with
    | str x => simp [an, cS, oT, fl, h0, ck, ma]
    | _ => simp [an, cS, oT, ck, ma]
theorem own_loop {ws : List PV} {es : List Nat} {L : List OT} {h : Hh} (hoP : ownersP ws es = owL (gOwn [] L) 0 ws) (hL : OwnL ws es L) (hLa : L.Pairwise fun a b => a.p < b.p) (hLl : L.length ≤ 1000000) (hww : ∀ w ∈ ws, wordP w = true) (hwd : ∀ w ∈ ws, dOk w 63 = true) (qz : ws.length ≤ 1000000) :
    ∃ g z4 z5 z6, forL (gT (gCons (gN 4) (gCons (gN 5) gNil))) ownB none (enumL ws) [some (.tup ws), some (.ref h.length), some (.ref (h.length + 1)), some (.ref (h.length + 2)), none, none, none, none] (h ++ [.lst (es.map fun e => .int (e : Nat)), .lst (L.map fun o => .int (o.p : Nat)), .lst []]) =
      .nx [some (.tup ws), some (.ref h.length), some (.ref (h.length + 1)), some (.ref (h.length + 2)), z4, z5, z6, none] (h ++ .lst (es.map fun e => .int (e : Nat)) :: .lst (L.map fun o => .int (o.p : Nat)) :: .lst ((ownersP ws es).map optP) :: g) := by
  generalize hr : forL _ _ _ _ _ _ = r
  have stp := @own_step
  generalize ownB = B at stp hr
  have LL := forI hr (fun i s h' => ∃ g z4 z5 z6, s = [some (.tup ws), some (.ref h.length), some (.ref (h.length + 1)), some (.ref (h.length + 2)), z4, z5, z6, none] ∧
    h' = h ++ .lst (es.map fun e => .int (e : Nat)) :: .lst (L.map fun o => .int (o.p : Nat)) :: .lst (((ownersP ws es).take i).map optP) :: g)
    ⟨[], none, none, none, rfl, by simp⟩ (fun _ _ _ _ _ => trivial) (by
      rintro i y s h' ey ⟨g, z4, z5, z6, rfl, rfl⟩
      obtain ⟨w, hw, rfl⟩ := enumL_at ey
      have hil := (List.getElem?_eq_some_iff.mp hw).1
      have hwm := List.mem_of_getElem? hw
      have st := stp (i := i) (z6 := z6) (n := h.length) (fd := ((ownersP ws es).take i).map optP) (H := h ++ .lst (es.map fun e => .int (e : Nat)) :: .lst (L.map fun o => .int (o.p : Nat)) :: .lst (((ownersP ws es).take i).map optP) :: g) hL hLa (by omega) (hww w hwm) (hwd w hwm) (by simp) (by simp) (by simp) (by simp; omega)
      refine has_nx (s1 := [some (.tup ws), some (.ref h.length), some (.ref (h.length + 1)), some (.ref (h.length + 2)), some (.int (i : Nat)), some w, z6, none]) (h1 := h ++ .lst (es.map fun e => .int (e : Nat)) :: .lst (L.map fun o => .int (o.p : Nat)) :: .lst (((ownersP ws es).take i).map optP) :: g) st ⟨g ++ [Cell.lst ((ownS L i w).map fun o => .int (o.p : Nat))], _, _, _, rfl, ?_⟩
      have hst := owl_take (gOwn [] L) 0 i ws w hw
      rw [← hoP, Nat.zero_add] at hst
      rw [hst, List.map_append]
      simp)
  obtain ⟨s', h', e1, g, z4, z5, z6, e2, e3⟩ := LL
  have hol : (ownersP ws es).length = ws.length := by rw [hoP]; exact owL_len _ _ _
  rw [enumL_len, List.take_of_length_le (Nat.le_of_eq hol)] at e3
  exact ⟨g, z4, z5, z6, by rw [e1, e2, e3]⟩
theorem gc__law_owners (as : List PV) (h : Hh) (hc : clH h) (hv : clVs h.length as) : GcR h (b__law_owners F__law_spans (start0 N__law_owners as) h) (F__law_owners as h) := by
  unfold F__law_owners
  split
  · rename_i ws
    split
    · rename_i es wt0 es0
      split
      · rename_i q
        obtain ⟨qd, qw, qz⟩ := q
        have hes := spansP_len es0
        have e : ∃ a b g, b__law_owners F__law_spans (start0 N__law_owners [.tup ws]) h = .rt (.ref (h.length + 2)) (h ++ a :: b :: .lst ((ownersP ws es).map optP) :: g) := by
          have fe : F__law_spans [.tup ws] h = .ok (.ref h.length) (h ++ [.lst (es.map fun e => .int (e : Nat))]) := by
            simp only [F__law_spans, es0]
            rw [if_pos ⟨qd, by have := size_le ws.length; omega⟩]
          have hww : ∀ w ∈ ws, wordP w = true := by simpa using qw
          have hwd : ∀ w ∈ ws, dOk w 63 = true := fun w hw => dOks_all.mp qd w hw
          have cL := comp_takes (s := [some (.tup ws), some (.ref h.length), none, none, none, none, none, none]) (k := 7) (h := h ++ [.lst (es.map fun e => .int (e : Nat))]) (by decide) (by simp) rfl hwd qz
          have hr0 : b__law_owners F__law_spans (start0 N__law_owners [.tup ws]) h = sSeq (sAsg (eCall 1 F__law_spans (aCons (aV (eVar 0)) aNil)) (gN 1)) (sSeq (sAsg (eNew (lComp (iR1 (eFn fLen (aCons (aV (eVar 0)) aNil))) (bN 7) (tB1 (eIsi sub [.ty "tuple"] (aV (e2 fIx (eVar 0) (eVar 7))))) (eVar 7) [7])) (gN 2)) (sSeq (sAsg (eNew (lLst aNil)) (gN 3)) (sSeq (sFor (iEnumA (eVar 0)) (gT (gCons (gN 4) (gCons (gN 5) gNil))) ownB) (sRet (eVar 3))))) [some (.tup ws), none, none, none, none, none, none, none] h := rfl
          rw [hr0]
          clear hr0
          have hL := ownL_takes (es := es) hww
          have hLa := takesP_asc 0 ws es
          have hLt := takes_tks ws es hes
          have hLl : (takesP 0 ws es).length ≤ ws.length := by
            have := congrArg List.length hLt
            simp at this
            rw [this]
            unfold tksP
            exact Nat.le_trans (List.length_filter_le _ _) (by simp)
          have hoP : ownersP ws es = owL (gOwn [] (takesP 0 ws es)) 0 ws := rfl
          rw [show ((tksP ws).map fun o => PV.int (o : Nat)) = (takesP 0 ws es).map fun o => PV.int (o.p : Nat) by rw [← hLt, List.map_map]; rfl] at cL
          generalize takesP 0 ws es = L at *
          obtain ⟨g, z4, z5, z6, hl⟩ := own_loop (h := h) hoP hL hLa (by omega) hww hwd qz
          refine ⟨.lst (es.map fun e => .int (e : Nat)), .lst (L.map fun o => .int (o.p : Nat)), g, ?_⟩
          generalize ownB = B at hl ⊢
          have r1 := fun H => iR1_ok (m := eFn fLen (aCons (aV (eVar 0)) aNil)) (s := [some (.tup ws), some (.ref h.length), none, none, none, none, none, none]) (h := H) (n := ws.length) (by simp) (by omega)
          rw [seq_nx (s1 := [some (.tup ws), some (.ref h.length), none, none, none, none, none, none]) (h1 := h ++ [.lst (es.map fun e => .int (e : Nat))]) (by simp [fe])]
          rw [seq_nx (s1 := [some (.tup ws), some (.ref h.length), some (.ref (h.length + 1)), none, none, none, none, none]) (h1 := h ++ [.lst (es.map fun e => .int (e : Nat)), .lst (L.map fun o => .int (o.p : Nat))]) (by rw [asg_new (lcomp_eq (r1 _) cL)]; simp)]
          rw [seq_nx (s1 := [some (.tup ws), some (.ref h.length), some (.ref (h.length + 1)), some (.ref (h.length + 2)), none, none, none, none]) (h1 := h ++ [.lst (es.map fun e => .int (e : Nat)), .lst (L.map fun o => .int (o.p : Nat)), .lst []]) (by simp)]
          rw [seq_nx (s1 := [some (.tup ws), some (.ref h.length), some (.ref (h.length + 1)), some (.ref (h.length + 2)), z4, z5, z6, none]) (h1 := (h ++ .lst (es.map fun e => .int (e : Nat)) :: .lst (L.map fun o => .int (o.p : Nat)) :: .lst ((ownersP ws es).map optP) :: g)) (by rw [for_eq (xs := enumL ws) (g := none) (h1 := h ++ [.lst (es.map fun e => .int (e : Nat)), .lst (L.map fun o => .int (o.p : Nat)), .lst []]) (by simp)]; exact hl)]
          simp
        obtain ⟨a, b, g, e⟩ := e
        rw [e]; exact gc_newm 2 hc rfl (clVs_all.mpr fun x hx => by
          obtain ⟨y, _, rfl⟩ := List.mem_map.mp hx
          cases y <;> trivial)
      · trivial
    · trivial
  · trivial
end U.K09
end
set_option Elab.async false
set_option linter.all false
set_option maxRecDepth 100000
set_option maxHeartbeats 4000000
noncomputable section
namespace U.K09
open PySem PySem.Spec PyProof.Rows L2 U
/-! _law_hand -/
def Good__law_hand : List PV → Hh → Res PV → Prop := fun as h r => match as with
  | [.scr ns] => ∃ c, r = .ok (.ref (h.length + 1)) (h ++ [c, hdC h.length 0 0 (1 + ((ns.take 63).length : Nat)) 0]) ∧ ∃ ms : List Int, c = .lst (ms.map PV.int)
  | _ => False
def F__law_hand : FF := specF b__law_hand N__law_hand Good__law_hand
theorem cutP_63 {α : Type} (xs : List α) : cutP xs none (some 63) = xs.take 63 := by
  unfold cutP HT.sIx
  simp
theorem use__law_hand (ns : List Int) (h : Hh) : ∃ v h', F__law_hand [.scr ns] h = .ok v h' ∧ ∃ c, v = .ref (h.length + 1) ∧ h' = h ++ [c, hdC h.length 0 0 (1 + ((ns.take 63).length : Nat)) 0] ∧ ∃ ms : List Int, c = .lst (ms.map PV.int) := by
  have e : ∃ ms : List Int, b__law_hand (start0 N__law_hand [.scr ns]) h = .rt (.ref (h.length + 2)) (h ++ [.lst ((ns.take 63).map PV.int), .lst (ms.map PV.int), hdC (h.length + 1) 0 0 (1 + ((ns.take 63).length : Nat)) 0]) := by
    refine ⟨(ns.take 63).map fun i => if i < 0 then -i else i, ?_⟩
    have an := anyOf_lst (j := h.length) (xs := (ns.map PV.int).take 63) (h := h ++ [.lst ((ns.map PV.int).take 63)]) (by simp)
    simp [fSl, cutP_63]

    simp [an]
    generalize hr : compL _ _ _ _ _ _ _ _ = r
    have L := compM hr (fun x => match x with | .int i => .int (if i < 0 then -i else i) | _ => .non) (by simp) (by simp; omega) (by
      intro x hx
      obtain ⟨i, _, rfl⟩ := List.mem_map.mp (List.mem_of_mem_take hx)
      exact ⟨_, rfl, by simp⟩)
    subst L
    simp [hdC, fAdd_int]
    rfl
  obtain ⟨ms, e⟩ := e
  obtain ⟨h1, g⟩ := specF_use (m := b__law_hand) (N := N__law_hand) (Good := Good__law_hand) (as := [.scr ns]) (h := h) ⟨.ok (.ref (h.length + 1)) (h ++ [.lst (ms.map PV.int), hdC h.length 0 0 (1 + ((ns.take 63).length : Nat)) 0]), by simp, ⟨_, rfl, ms, rfl⟩, fun hc _ => by
    rw [e]
    refine .inl ⟨_, _, rfl, Cp.keep (ks := [1, 2]) rfl hc (by decide) rfl ?_ ?_⟩
    · intro k m c h1 h2
      match k, h1, h2 with
      | 0, h1, h2 =>
        cases h1; cases h2
        refine ⟨_, rfl, RnC.refl (n := 0) (fun i hi => absurd hi (by omega)) _ (clVs_all.mpr fun x hx => ?_)⟩
        obtain ⟨i, _, rfl⟩ := List.mem_map.mp hx
        trivial
      | 1, h1, h2 =>
        cases h1; cases h2
        refine ⟨_, rfl, _, rfl, _, _, rfl, ⟨_, rfl, .inr ⟨0, 1, rfl, rfl, rfl⟩⟩, _, _, rfl, rfl, _, _, rfl, rfl, _, _, rfl, rfl, _, _, rfl, rfl, rfl⟩
      | k + 2, h1, _ => simp at h1
    · exact ⟨_, rfl, .inr ⟨1, 2, rfl, rfl, rfl⟩⟩⟩
  obtain ⟨c, g1, g2⟩ := g
  exact ⟨_, _, g1, c, rfl, rfl, g2⟩
/-! _law_draw -/
abbrev B_draw2 : Sv := (sSeq (sIf (tB1 (e2 fGt (e2 fIx (eVar 0) (eC (.int 2))) (eC (.int 0)))) (sSeq (sAsg (e2 fMod (eFn (fV1 gInt) (aCons (aV (e2 fIx (eVar 0) (eC (.int 2)))) aNil)) (eVar 1)) (gN 3)) (sSeq (sAsg (e2 fDiv (e2 fIx (eVar 0) (eC (.int 2))) (eVar 1)) (gS (eVar 0) (eC (.int 2)))) (sRet (eVar 3)))) sNext) (sSeq (sAsg (e2 fAdd (e2 fIx (eVar 0) (eC (.int 4))) (eC (.int 1))) (gS (eVar 0) (eC (.int 4)))) (sSeq (sAsg (e2 fMod (eFn (fV1 gInt) (aCons (aV (e2 fMul (eFn (fV1 gInt) (aCons (aV (e2 fAdd (e2 fIx (eVar 0) (eC (.int 3))) (e2 fMul (eC (.int 7919)) (e2 fIx (eVar 0) (eC (.int 4)))))) aNil)) (eC (.int 48271)))) aNil)) (eC (.int 2147483647))) (gN 4)) (sSeq (sAsg (e2 fMod (eFn (fV1 gInt) (aCons (aV (e2 fMul (eVar 4) (e2 fAdd (e2 fDiv (eVar 4) (eC (.int 1009))) (eC (.int 69621))))) aNil)) (eC (.int 2147483647))) (gN 4)) (sSeq (sAsg (e2 fMod (eFn (fV1 gInt) (aCons (aV (e2 fMul (eVar 4) (e2 fAdd (e2 fDiv (eVar 4) (eC (.int 2003))) (eC (.int 40692))))) aNil)) (eC (.int 2147483399))) (gN 4)) (sRet (e2 fMod (eFn (fV1 gInt) (aCons (aV (e2 fDiv (eVar 4) (eC (.int 16)))) aNil)) (eVar 1))))))))
theorem draw2 {c : Nat} {p b s n : Int} {z : Option PV} {h : Hh} {i : Nat} {many : Int} (e : h[i]? = some (hdC c p b s n)) (hm : 0 < many) (hm2 : many < 1073741824) :
    ∃ d b' n', B_draw2 [some (.ref i), some (.int many), z, none, none] h = .rt (.int d) (h.set i (hdC c p b' s n')) ∧ 0 ≤ d ∧ d < many := by
  have hl := (List.getElem?_eq_some_iff.mp e).1
  by_cases hb : 0 < b
  · refine ⟨b % many, b / many, n, ?_, Int.emod_nonneg _ (by omega), Int.emod_lt_of_pos _ hm⟩
    simp [hd2 e, hb, hm, hm2, CDiv, hs2 e]
  · have e2 : (h.set i (hdC c p b s (n + 1)))[i]? = some (hdC c p b s (n + 1)) := List.getElem?_set_self hl
    have m1 : ∀ (x : Int) (h : Hh), fMul (.int 7919) (.int x) h = .ok (.int (7919 * x)) h := fun x h => fMul_l (by omega) (by omega)
    have m2 : ∀ (x : Int) (h : Hh), fMul (.int x) (.int 48271) h = .ok (.int (x * 48271)) h := fun x h => fMul_r (by omega) (by omega)
    have m3 : ∀ (x y : Int) (h : Hh), fMul (.int (x % 2147483647)) (.int y) h = .ok (.int (x % 2147483647 * y)) h := fun x y h => fMul_l (by have := Int.emod_nonneg x (b := 2147483647) (by omega); omega) (by have := Int.emod_lt_of_pos x (b := 2147483647) (by omega); omega)
    simp [hd2 e, hb, hd4 e, fAdd_int, hs4 e, hd3 e2, hd4 e2, m1, m2, m3, CDiv, hm]
    generalize ((s + 7919 * (n + 1)) * 48271 % 2147483647) = x
    generalize x * (x / 1009 + 69621) = y
    generalize y % 2147483647 * (y % 2147483647 / 2003 + 40692) % 2147483399 / 16 = w
    exact ⟨_, ⟨rfl, ⟨_, _, rfl⟩⟩, Int.emod_nonneg _ (by omega), Int.emod_lt_of_pos _ hm⟩
def Good__law_draw : List PV → Hh → Res PV → Prop := fun as h r => match as with
  | [.ref i, .int many] => ∃ d h', r = .ok (.int d) h' ∧ 0 ≤ d ∧ d < many ∧ Drawn i h h'
  | _ => False
def F__law_draw : FF := specF b__law_draw N__law_draw Good__law_draw
theorem use__law_draw {i : Nat} {h : Hh} {many : Int} (a : Hand i h) (hm : 0 < many) (hm2 : many < 1073741824) : ∃ d h', F__law_draw [.ref i, .int many] h = .ok (.int d) h' ∧ 0 ≤ d ∧ d < many ∧ Drawn i h h' := by
  have e : ∃ d h', b__law_draw (start0 N__law_draw [.ref i, .int many]) h = .rt (.int d) h' ∧ 0 ≤ d ∧ d < many ∧ Drawn i h h' := by
    obtain ⟨c, p, b, s, n, ns, e, ec, hc, hp⟩ := a
    have hl := (List.getElem?_eq_some_iff.mp e).1
    have fin : ∀ (z : Option PV) (p' b' s' : Int), 0 ≤ p' → ∃ d h', B_draw2 [some (.ref i), some (.int many), z, none, none] (h.set i (hdC c p' b' s' n)) = .rt (.int d) h' ∧ 0 ≤ d ∧ d < many ∧ Drawn i h h' := fun z p' b' s' hp' => by
      obtain ⟨d, b2, n2, e1, e2, e3⟩ := draw2 (z := z) (many := many) (i := i) (h := h.set i (hdC c p' b' s' n)) (List.getElem?_set_self hl) hm hm2
      refine ⟨d, _, e1, e2, e3, c, p, b, s, n, p', b2, s', n2, e, hp', by rw [List.set_set]⟩
    have h0 : h = h.set i (hdC c p b s n) := (set_same e).symm
    have fl : fLen [.val (.ref c)] h = .ok (.int ns.length) h := by have := fLen_lst ec; simpa using this
    have hcc : ∀ x, (h.set i x)[c]? = some (.lst (ns.map PV.int)) := fun x => by rw [List.getElem?_set_ne (Ne.symm hc), ec]
    show ∃ d h', sSeq _ B_draw2 _ _ = _ ∧ _
    generalize hB : B_draw2 = B at fin ⊢
    by_cases h1 : b = 0
    · by_cases h2 : p < ns.length
      · have hx : ∃ x, ns[p.toNat]? = some x := ⟨_, List.getElem?_eq_getElem (by omega)⟩
        obtain ⟨x, hx⟩ := hx
        have hpp : ((p.toNat : Nat) : Int) = p := by omega
        have fx : fIx (.ref c) (.int p) h = .ok (.int x) h := fIx_lst ec (by rw [← hpp]; exact atI_nat (by simp [hx]))
        have e1 : (h.set i (hdC c (p + 1) b s n))[i]? = some (hdC c (p + 1) b s n) := List.getElem?_set_self hl
        have m1 : ∀ (x : Int) (h : Hh), fMul (.int x) (.int 69621) h = .ok (.int (x * 69621)) h := fun x h => fMul_r (by omega) (by omega)
        subst h1
        have cp : CPow 10 18 := ⟨by decide, by decide, by decide⟩
        have e2 := fun s => hs3 e1 (v := s)
        have e3 : ∀ s, ((h.set i (hdC c (p + 1) 0 s n)))[i]? = some (hdC c (p + 1) 0 s n) := fun s => List.getElem?_set_self hl
        by_cases h3 : 1000000000000000000 ≤ x
        · simp [hd2 e, hd1 e, hd0 e, fl, h2, fx, fAdd_int, hs1 e, hd3 e1, m1, e2, cp, h3, hs2 (e3 _)]
          exact fin _ _ _ _ (by omega)
        · simp [hd2 e, hd1 e, hd0 e, fl, h2, fx, fAdd_int, hs1 e, hd3 e1, m1, e2, cp, h3]
          exact fin _ _ _ _ (by omega)
      · simp [hd2 e, hd1 e, hd0 e, fl, h2, h1]
        have := fin none p b s hp
        rw [← h0] at this
        exact this
    · simp [hd2 e, h1]
      have := fin none p b s hp
      rw [← h0] at this
      exact this
  obtain ⟨d, h', e, h1, h2, h3⟩ := e
  obtain ⟨_, g⟩ := specF_use (m := b__law_draw) (N := N__law_draw) (Good := Good__law_draw) (as := [.ref i, .int many]) (h := h) ⟨.ok (.int d) h', by simp, ⟨d, h', rfl, h1, h2, h3⟩, fun hc _ => by
    rw [e]; exact gc_same⟩
  exact g
/-! _law_some -/
def Good__law_some : List PV → Hh → Res PV → Prop := fun as h r => match as with
  | [.ref i, t] => ∃ v h' xs, r = .ok v h' ∧ Drawn i h h' ∧ seqA (.val t) h = some xs ∧ v ∈ xs
  | _ => False
def F__law_some : FF := specF (b__law_some F__law_draw) N__law_some Good__law_some
theorem fLen_seq {t : PV} {xs : List PV} {h : Hh} (e : seqA (.val t) h = some xs) : fLen [.val t] h = .ok (.int xs.length) h := by
  unfold fLen
  simp [e]
theorem seqA_cases {t : PV} {xs : List PV} {h : Hh} (e : seqA (.val t) h = some xs) : t = .tup xs ∨ (∃ j, t = .ref j ∧ h[j]? = some (.lst xs)) ∨ ∃ ns, t = .scr ns := by
  cases t with
  | tup ys => simp at e; subst e; exact .inl rfl
  | ref j =>
    refine .inr (.inl ⟨j, rfl, ?_⟩)
    simp only [seqA, lstA, tupA] at e
    cases q : h[j]? with
    | none => rw [q] at e; simp at e
    | some c => rw [q] at e; cases c <;> simp at e; subst e; rfl
  | scr ns => exact .inr (.inr ⟨ns, rfl⟩)
  | _ => simp [seqA, lstA, tupA] at e
theorem fIx_seq {t : PV} {xs : List PV} {h : Hh} (hs : ∀ ns, t ≠ .scr ns) (e : seqA (.val t) h = some xs) {d : Int} (h1 : 0 ≤ d) (h2 : d < xs.length) : ∃ y, y ∈ xs ∧ fIx t (.int d) h = .ok y h := by
  have hx : ∃ y, xs[d.toNat]? = some y := ⟨_, List.getElem?_eq_getElem (by omega)⟩
  obtain ⟨y, hy⟩ := hx
  have hdd : ((d.toNat : Nat) : Int) = d := by omega
  refine ⟨y, List.mem_of_getElem? hy, ?_⟩
  rcases seqA_cases e with rfl | ⟨j, rfl, ej⟩ | ⟨ns, rfl⟩
  · exact fIx_tup h (by rw [← hdd]; exact atI_nat hy)
  · exact fIx_lst ej (by rw [← hdd]; exact atI_nat hy)
  · exact absurd rfl (hs ns)
theorem seqA_drawn {t : PV} {xs : List PV} {i : Nat} {h h' : Hh} (d : Drawn i h h') (ht : t ≠ .ref i) (e : seqA (.val t) h = some xs) : seqA (.val t) h' = some xs := by
  cases t with
  | ref j =>
    have hj : j ≠ i := fun q => ht (by rw [q])
    simp only [seqA, lstA, tupA] at e ⊢
    rw [d.ne hj]
    exact e
  | _ => exact e
theorem use__law_some {i : Nat} {h : Hh} {t : PV} {xs : List PV} (a : Hand i h) (ht : t ≠ .ref i) (hs : ∀ ns, t ≠ .scr ns) (e : seqA (.val t) h = some xs) (h0 : xs ≠ []) (hz : xs.length ≤ 16777216) : ∃ v h', F__law_some [.ref i, t] h = .ok v h' ∧ Drawn i h h' ∧ v ∈ xs := by
  have hp : 0 < xs.length := List.length_pos_iff.mpr h0
  obtain ⟨d, h', e1, h1, h2, h3⟩ := use__law_draw (many := xs.length) a (by omega) (by omega)
  obtain ⟨y, hy, ey⟩ := fIx_seq hs (seqA_drawn h3 ht e) h1 h2
  have eb : b__law_some F__law_draw (start0 N__law_some [.ref i, t]) h = .rt y h' := by
    simp [fLen_seq e, e1, ey]
  obtain ⟨_, g⟩ := specF_use (m := b__law_some F__law_draw) (N := N__law_some) (Good := Good__law_some) (as := [.ref i, t]) (h := h) ⟨.ok y h', by simp, ⟨y, h', xs, rfl, h3, e, hy⟩, fun hc _ => by
    rw [eb]; exact gc_same⟩
  obtain ⟨v, h2, xs', g1, g2, g3, g4⟩ := g
  rw [e] at g3
  cases g3
  exact ⟨v, h2, g1, g2, g4⟩
end U.K09
end
set_option Elab.async false
set_option linter.all false
set_option maxRecDepth 100000
set_option maxHeartbeats 4000000
noncomputable section
namespace U.K09
open PySem PySem.Spec PyProof.Rows L2 U
/-! _law_shuffled -/
def Good__law_shuffled : List PV → Hh → Res PV → Prop := fun as h r => match as with
  | [.ref i, t] => ∃ h' xs ys, r = .ok (.ref h.length) (h' ++ [.lst ys]) ∧ Drawn i h h' ∧ seqA (.val t) h = some xs ∧ ys.Perm xs
  | _ => False
def F__law_shuffled : FF := specF (b__law_shuffled F__law_draw) N__law_shuffled Good__law_shuffled
theorem fList_seq {t : PV} {xs : List PV} {h : Hh} (e : seqA (.val t) h = some xs) : fList [.val t] h = .ok xs h := by
  unfold fList
  simp [e]
theorem mPop_idx {i : Nat} {xs : List PV} {d : Int} {y : PV} {h : Hh} (e : h[i]? = some (.lst xs)) (h1 : 0 ≤ d) (h2 : d < xs.length) (hz : xs.length ≤ 16777216) (hy : xs[d.toNat]? = some y) : mPop (.ref i) [.val (.int d)] h = .ok y (h.set i (.lst (xs.eraseIdx d.toNat))) := by
  have es : seqIndex? d xs.length = some d.toNat := by
    unfold seqIndex?
    have : ¬ d < 0 := by omega
    simp [this]
    omega
  unfold mPop
  simp only [e, es, hy]
  have hb : d < 9223372036854775808 := by omega
  exact if_pos ⟨by show (-9223372036854775808 : Int) ≤ d; omega, hb⟩
theorem erase_perm {α : Type} {y : α} : ∀ (l : List α) (i : Nat), l[i]? = some y → (y :: l.eraseIdx i).Perm l
  | [], i, h => by simp at h
  | x :: l, 0, h => by simp at h; subst h; simp
  | x :: l, i + 1, h => by
    have ih := erase_perm l i (by simpa using h)
    simp
    exact (List.Perm.swap x y _).trans (ih.cons x)
theorem use__law_shuffled {i : Nat} {h : Hh} {t : PV} {xs : List PV} (a : Hand i h) (e : seqA (.val t) h = some xs) (hcl : clVs h.length xs) (hz : xs.length ≤ 16777216) : ∃ h' ys, F__law_shuffled [.ref i, t] h = .ok (.ref h.length) (h' ++ [.lst ys]) ∧ Drawn i h h' ∧ ys.Perm xs := by
  have eb : ∃ h' ys, b__law_shuffled F__law_draw (start0 N__law_shuffled [.ref i, t]) h = .rt (.ref (h.length + 1)) (h' ++ [.lst [], .lst ys]) ∧ Drawn i h h' ∧ ys.Perm xs := by
    simp [fList_seq e]
    generalize hr : sWhile _ _ _ _ = r
    have L := whileI hr (fun m s h' => ∃ h1 ps ys, s = [some (.ref i), some t, some (.ref h.length), some (.ref (h.length + 1))] ∧ h' = h1 ++ [.lst ps, .lst ys] ∧ Drawn i h h1 ∧ (ys ++ ps).Perm xs ∧ m = ps.length)
      (fun s h' => ∃ h1 ys, s = [some (.ref i), some t, some (.ref h.length), some (.ref (h.length + 1))] ∧ h' = h1 ++ [.lst [], .lst ys] ∧ Drawn i h h1 ∧ ys.Perm xs)
      (m := xs.length) ⟨h, xs, [], rfl, rfl, Drawn.refl a, by simp, rfl⟩ (by
        rintro m s h' ⟨h1, ps, ys, rfl, rfl, d, hp, rfl⟩
        have hl := d.len
        have hlen := hp.length_eq
        simp at hlen
        have g0 : (h1 ++ [Cell.lst ps, Cell.lst ys])[h.length]? = some (.lst ps) := by rw [getN0 hl]; rfl
        have g1 : (h1 ++ [Cell.lst ps, Cell.lst ys])[h.length + 1]? = some (.lst ys) := by rw [getN hl]; rfl
        have fl := fLen_lst g0
        simp [fl]
        by_cases h0 : ps = []
        · subst h0
          simp
          exact ⟨h1, ys, rfl, d, by simpa using hp⟩
        · have hpos : 0 < ps.length := List.length_pos_iff.mpr h0
          have hpi : (0 : Int) < ps.length := by omega
          obtain ⟨q, h2, e1, e2, e3, e4⟩ := use__law_draw (many := ps.length) ((d.hand a).app [Cell.lst ps, Cell.lst ys]) (by omega) (by omega)
          obtain ⟨h3, rfl, d3⟩ := e4.split (by rw [hl]; exact d.lt)
          have hl3 := d3.len.trans hl
          have hy : ∃ y, ps[q.toNat]? = some y := ⟨_, List.getElem?_eq_getElem (by omega)⟩
          obtain ⟨y, hy⟩ := hy
          have p1 := mPop_idx (i := h.length) (h := h3 ++ [Cell.lst ps, Cell.lst ys]) (by rw [getN0 hl3]; rfl) e2 e3 (by omega) hy
          rw [setN0 hl3] at p1
          have p2 := mAppend_at (i := h.length + 1) (xs := ys) (u := y) (h := h3 ++ [Cell.lst (ps.eraseIdx q.toNat), Cell.lst ys]) (by rw [getN hl3]; rfl) (by simp; omega)
          rw [setN hl3] at p2
          simp at p1 p2
          have hk : Kd.chk .lst (.ref h.length) (h1 ++ [Cell.lst ps, Cell.lst ys]) = true := chk_lst g0
          have hk1 : Kd.chk .lst (.ref (h.length + 1)) (h1 ++ [Cell.lst ps, Cell.lst ys]) = true := chk_lst g1
          simp [hpi, hk, hk1, fl, e1, p1, p2]
          rw [if_pos hpos]
          refine ⟨_, ?_, h3, _, _, rfl, d.trans d3, ?_, rfl⟩
          · rw [List.length_eraseIdx]
            split <;> omega
          · refine List.Perm.trans ?_ hp
            have hm : (y :: ps.eraseIdx q.toNat).Perm ps := erase_perm _ _ hy
            simp
            exact List.Perm.append_left ys hm)
    obtain ⟨s', h', rfl, h1, ys, rfl, rfl, d, hp⟩ := L
    exact ⟨h1, ys, by simp, d, hp⟩
  obtain ⟨h', ys, eb, d, hp⟩ := eb
  obtain ⟨_, g⟩ := specF_use (m := b__law_shuffled F__law_draw) (N := N__law_shuffled) (Good := Good__law_shuffled) (as := [.ref i, t]) (h := h) ⟨.ok (.ref h.length) (h' ++ [.lst ys]), by simp, ⟨h', xs, ys, rfl, d, e, hp⟩, fun hc _ => by
    rw [eb]
    exact gc_drawm 1 hc d rfl (clVs_all.mpr fun x hx => clVs_all.mp hcl x (hp.mem_iff.mp hx))⟩
  obtain ⟨h', xs', ys, g1, g2, g3, g4⟩ := g
  rw [e] at g3
  cases g3
  exact ⟨h', ys, g1, g2, g4⟩
/-! _law_kind -/
abbrev B_kindL (F__law_draw : FF) : Sv := (sRet (eCall 2 F__law_draw (aCons (aV (eVar 0)) (aCons (aV (e2 fAdd (eC (.int 2)) (eFn (fV1 gInt) (aCons (aV (e2 fEqA (eCall 2 F__law_draw (aCons (aV (eVar 0)) (aCons (aV (eC (.int 8))) aNil))) (eC (.int 0)))) aNil)))) aNil))))
def Good__law_kind : List PV → Hh → Res PV → Prop := fun as h r => match as with
  | [.ref i, .int deep] => ∃ v h', r = .ok v h' ∧ Drawn i h h' ∧ kindP v = true ∧ dOk v deep.toNat = true
  | _ => False
def F__law_kind : Nat → FF
  | 0 => fun _ _ => .stuck
  | n + 1 => specF (b__law_kind F__law_draw (F__law_kind n)) N__law_kind Good__law_kind
theorem use__law_kind : ∀ (n : Nat) {i : Nat} {h : Hh} {deep : Int}, Hand i h → 0 ≤ deep → deep.toNat < n → ∃ v h', F__law_kind n [.ref i, .int deep] h = .ok v h' ∧ Drawn i h h' ∧ kindP v = true ∧ dOk v deep.toNat = true := by
  intro n
  induction n with
  | zero => intro i h deep _ _ hn; omega
  | succ n ih =>
    intro i h deep a h0 hn
    have eb : ∃ v h', b__law_kind F__law_draw (F__law_kind n) (start0 N__law_kind [.ref i, .int deep]) h = .rt v h' ∧ Drawn i h h' ∧ kindP v = true ∧ dOk v deep.toNat = true := by
      have low : ∀ h1, Drawn i h h1 → ∃ v h', B_kindL F__law_draw [some (.ref i), some (.int deep)] h1 = .rt v h' ∧ Drawn i h h' ∧ kindP v = true ∧ dOk v deep.toNat = true := by
        intro h1 d1
        obtain ⟨q, h2, e1, e2, e3, d2⟩ := use__law_draw (many := 8) (d1.hand a) (by omega) (by omega)
        have d12 := d1.trans d2
        have : ∃ m : Int, (2 + if q = 0 then 1 else 0) = m ∧ 0 < m ∧ m ≤ 3 := ⟨_, rfl, by split <;> omega, by split <;> omega⟩
        obtain ⟨m, em, m1, m2⟩ := this
        obtain ⟨q2, h3, e4, e5, e6, d3⟩ := use__law_draw (many := m) (d12.hand a) m1 (by omega)
        refine ⟨.int q2, h3, ?_, d12.trans d3, by simp [kindP]; omega, rfl⟩
        simp [e1, em, e4]
      show ∃ v h', sSeq (sIf _ (B_kindL F__law_draw) sNext) _ _ _ = _ ∧ _
      generalize hB : B_kindL F__law_draw = B at low ⊢
      by_cases hd : deep = 0
      · obtain ⟨v, h', e1, e2⟩ := low h (Drawn.refl a)
        refine ⟨v, h', ?_, e2⟩
        simp [hd] at e1 ⊢
        simp [e1]
      · obtain ⟨q, h1, e1, e2, e3, d1⟩ := use__law_draw (many := 3) a (by omega) (by omega)
        by_cases hq : q = 0
        · obtain ⟨v, h', e4, e5⟩ := low h1 d1
          refine ⟨v, h', ?_, e5⟩
          simp [hd, e1, hq, e4]
        · obtain ⟨v1, h2, f1, d2, k1, k2⟩ := ih (deep := deep + -1) (d1.hand a) (by omega) (by omega)
          obtain ⟨v2, h3, f2, d3, k3, k4⟩ := ih (deep := deep + -1) ((d1.trans d2).hand a) (by omega) (by omega)
          have hs : deep - 1 = deep + -1 := by omega
          refine ⟨.tup [v1, v2], h3, ?_, (d1.trans d2).trans d3, by simp [kindP, kindPs, k1, k3], ?_⟩
          · simp [hd, e1, hq, hs, f1, f2]
          · have : deep.toNat = (deep + -1).toNat + 1 := by omega
            rw [this]
            simp [dOk, dOks, k2, k4]
    obtain ⟨v, h', eb, d, k1, k2⟩ := eb
    obtain ⟨_, g⟩ := specF_use (m := b__law_kind F__law_draw (F__law_kind n)) (N := N__law_kind) (Good := Good__law_kind) (as := [.ref i, .int deep]) (h := h) ⟨.ok v h', by simp, ⟨v, h', rfl, d, k1, k2⟩, fun hc _ => by
      rw [eb]; exact gc_same⟩
    exact g
/-! _law_ends -/
def F__law_ends : FF := fun as h => match as with
  | [v] => if kindP v = true ∧ szP v ≤ 16777215 then .ok (.tup [.ref h.length, endP v]) (h ++ [.lst (leftsP v)]) else .stuck
  | _ => .stuck
theorem gc__law_ends (as : List PV) (h : Hh) (hc : clH h) (hv : clVs h.length as) : GcR h (b__law_ends (start0 N__law_ends as) h) (F__law_ends as h) := by
  unfold F__law_ends
  split
  · rename_i v
    split
    · rename_i q
      obtain ⟨qk, qz⟩ := q
      have e : b__law_ends (start0 N__law_ends [v]) h = .rt (.tup [.ref h.length, endP v]) (h ++ [.lst (leftsP v)]) := by
        simp
        generalize hr : sWhile _ _ _ _ = r
        have L := whileI hr (fun m s h' => ∃ v' xs, s = [some v', some (.ref h.length)] ∧ h' = h ++ [.lst xs] ∧ kindP v' = true ∧ leftsP v = xs ++ leftsP v' ∧ endP v = endP v' ∧ m = szP v')
          (fun s h' => ∃ v', s = [some v', some (.ref h.length)] ∧ h' = h ++ [.lst (leftsP v)] ∧ endP v = v') (m := szP v) ⟨v, [], rfl, rfl, qk, rfl, rfl, rfl⟩ (by
            rintro m s h' ⟨v', xs, rfl, rfl, hk, hl, he, rfl⟩
            have hlen := (lefts_ok _ v (Nat.le_refl _) qk).2.1
            rw [hl] at hlen
            simp at hlen
            rcases kindP_cases hk with ⟨n, rfl, _, _⟩ | ⟨a, b, rfl, ha, hb⟩
            · simp at hl he
              simp [hl, he]
            · have f0 : ∀ h, fIx (.tup [a, b]) (.int 0) h = .ok a h := fun h => fIx_tup h rfl
              have f1 : ∀ h, fIx (.tup [a, b]) (.int 1) h = .ok b h := fun h => fIx_tup h rfl
              have ma := mAppend_at (i := h.length) (xs := xs) (u := a) (h := h ++ [.lst xs]) (by simp) (by simp; omega)
              simp at ma
              simp [f0, f1, ma, Kd.chk]
              refine ⟨szP b, by rw [szP_pair]; omega, hb, by rw [hl]; simp, by rw [he]; simp, rfl⟩)
        obtain ⟨s', h', rfl, v', rfl, rfl, rfl⟩ := L
        simp
      rw [e]; exact gc_same
    · trivial
  · trivial
theorem use__law_ends {v : PV} {h : Hh} (k : kindP v = true) {d : Nat} (hd : dOk v d = true) (h20 : d ≤ 20) : F__law_ends [v] h = .ok (.tup [.ref h.length, endP v]) (h ++ [.lst (leftsP v)]) := by
  have := szP_dok d v k hd
  have h2 : 2 ^ (d + 1) ≤ 2 ^ 21 := Nat.pow_le_pow_right (by omega) (by omega)
  exact if_pos ⟨k, by omega⟩
end U.K09
end
set_option Elab.async false
set_option linter.all false
set_option maxRecDepth 100000
set_option maxHeartbeats 4000000
noncomputable section
namespace U.K09
open PySem PySem.Spec PyProof.Rows L2 U
def pkP (p : List Nat × PV) : PV := .tup [.str p.1, p.2]
def names9 : List (List Nat) := [[102], [103], [104], [109], [110], [111, 110, 101], [116, 119, 111], [116, 104, 114, 101, 101], [97, 98, 99, 100, 101, 102, 103, 104]]
/-! _law_known -/
def GoodKnown (v : PV) : Prop := ∃ ps : List (List Nat × PV), v = .tup (ps.map pkP) ∧ ps.length = 3 ∧ (ps.map (·.1)).Nodup ∧ ∀ p ∈ ps, p.1 ∈ names9 ∧ nameL p.1 = true ∧ kindP p.2 = true ∧ dOk p.2 2 = true
def Good__law_known : List PV → Hh → Res PV → Prop := fun as h r => match as with
  | [.ref i, .int 3] => ∃ v h', r = .ok v h' ∧ Drawn i h h' ∧ GoodKnown v
  | _ => False
def F__law_known : FF := specF (b__law_known F__law_shuffled (F__law_kind 4)) N__law_known Good__law_known
theorem cutP_3 {α : Type} (xs : List α) (h : 3 ≤ xs.length) : cutP xs none (some 3) = xs.take 3 := by
  unfold cutP HT.sIx
  simp
theorem clVs_pk {n : Nat} {ps : List (List Nat × PV)} (h : ∀ p ∈ ps, kindP p.2 = true) : clVs n (ps.map pkP) := clVs_all.mpr fun x hx => by
  obtain ⟨p, hp, rfl⟩ := List.mem_map.mp hx
  exact ⟨trivial, kind_cl n _ (h p hp), trivial⟩
theorem use__law_known {i : Nat} {h : Hh} (a : Hand i h) : ∃ v h', F__law_known [.ref i, .int 3] h = .ok v h' ∧ Drawn i h h' ∧ GoodKnown v := by
  have eb : ∃ v h' g, b__law_known F__law_shuffled (F__law_kind 4) (start0 N__law_known [.ref i, .int 3]) h = .rt v (h' ++ g) ∧ Drawn i h h' ∧ GoodKnown v := by
    obtain ⟨h1, ys, e1, d1, hp⟩ := use__law_shuffled (t := .ref h.length) (xs := names9.map PV.str) (a.app [.lst (names9.map PV.str)]) (by simp) (clVs_all.mpr fun x hx => by
      obtain ⟨y, _, rfl⟩ := List.mem_map.mp hx
      trivial) (by simp [names9])
    obtain ⟨h2, rfl, d2⟩ := d1.split a.lt
    have hl2 := d2.len
    have hys : ∃ zs : List (List Nat), ys = zs.map PV.str ∧ zs.Perm names9 := by
      have : ∃ zs : List (List Nat), ys = zs.map PV.str := by
        have hm : ∀ y ∈ ys, ∃ z, y = PV.str z := fun y hy => by
          obtain ⟨z, _, rfl⟩ := List.mem_map.mp (hp.mem_iff.mp hy)
          exact ⟨z, rfl⟩
        clear e1 hp
        induction ys with
        | nil => exact ⟨[], rfl⟩
        | cons y r ih =>
          obtain ⟨zs, e⟩ := ih fun x hx => hm x (List.mem_cons_of_mem _ hx)
          obtain ⟨z, rfl⟩ := hm y List.mem_cons_self
          exact ⟨z :: zs, by rw [e]; rfl⟩
      obtain ⟨zs, rfl⟩ := this
      refine ⟨zs, rfl, ?_⟩
      have := hp.filterMap (fun v => match v with | .str x => some x | _ => none)
      simpa [List.filterMap_map, Function.comp_def] using this
    obtain ⟨zs, rfl, hz⟩ := hys
    have hlen : zs.length = 9 := by rw [hz.length_eq]; rfl
    have hnd : zs.Nodup := hz.nodup_iff.mpr (by decide)
    have hmem : ∀ z ∈ zs, z ∈ names9 := fun z m => hz.mem_iff.mp m
    have hnm : ∀ z ∈ names9, nameL z = true := by decide
    simp [names9] at e1
    have g1 : (h2 ++ [Cell.lst (names9.map PV.str), Cell.lst (zs.map PV.str)])[h.length + 1]? = some (.lst (zs.map PV.str)) := by rw [getN hl2]; rfl
    have fs : fSl (.ref (h.length + 1)) none (some 3) (h2 ++ [Cell.lst (names9.map PV.str), Cell.lst (zs.map PV.str)]) = .ok (.ref (h.length + 2)) (h2 ++ [Cell.lst (names9.map PV.str), Cell.lst (zs.map PV.str), Cell.lst ((zs.map PV.str).take 3)]) := by
      simp only [fSl, g1]
      rw [cutP_3 _ (by simp; omega)]
      simp [hl2]
    have g2 : ∀ h2 : Hh, h2.length = h.length → (h2 ++ [Cell.lst (names9.map PV.str), Cell.lst (zs.map PV.str), Cell.lst ((zs.map PV.str).take 3)])[h.length + 2]? = some (.lst ((zs.map PV.str).take 3)) := fun h2 hl2 => by rw [getN hl2]; rfl
    have an := anyOf_lst (g2 h2 hl2)
    have e1' : F__law_shuffled [.ref i, .ref h.length] (h ++ [Cell.lst [PV.str [102], PV.str [103], PV.str [104], PV.str [109], PV.str [110], PV.str [111, 110, 101], PV.str [116, 119, 111], PV.str [116, 104, 114, 101, 101], PV.str [97, 98, 99, 100, 101, 102, 103, 104]]]) = .ok (.ref (h.length + 1)) (h2 ++ [Cell.lst (names9.map PV.str), Cell.lst (zs.map PV.str)]) := by
      rw [e1]; simp [names9]
    simp [e1', fs, an]
    generalize hr : compL _ _ _ _ _ _ _ _ = r
    have L := compI hr (fun k acc h' => ∃ h3 ps, acc = ps.map pkP ∧ ps.map (·.1) = (zs.take 3).take k ∧ (∀ p ∈ ps, kindP p.2 = true ∧ dOk p.2 2 = true) ∧ Drawn i h h3 ∧ h' = h3 ++ [Cell.lst (names9.map PV.str), Cell.lst (zs.map PV.str), Cell.lst ((zs.map PV.str).take 3)])
      ⟨h2, [], rfl, by simp, by simp, d2, rfl⟩ (by
        rintro k acc h' _ ⟨h3, ps, _, _, _, d3, rfl⟩
        have := g2 h3 d3.len
        simpa using this) (by
        rintro k x acc h' hx ⟨h3, ps, rfl, hps, hk, d3, rfl⟩
        have hx' : x ∈ (zs.take 3).map PV.str := List.mem_of_getElem? (by rw [List.map_take]; exact hx)
        obtain ⟨z, hz1, rfl⟩ := List.mem_map.mp hx'
        obtain ⟨v, h4, f1, d4, k1, k2⟩ := use__law_kind 4 (deep := 2) ((d3.hand a).app [Cell.lst (names9.map PV.str), Cell.lst (zs.map PV.str), Cell.lst ((zs.map PV.str).take 3)]) (by omega) (by decide)
        obtain ⟨h5, rfl, d5⟩ := d4.split (by rw [d3.len]; exact a.lt)
        refine ⟨_, rfl, ?_⟩
        have hpl : ps.length ≤ 3 := by
          have := congrArg List.length hps
          simp at this
          omega
        simp [f1]
        refine ⟨by omega, h5, ps ++ [(z, v)], by simp [pkP], ?_, fun p q hx2 => ?_, d3.trans d5, rfl⟩
        · rw [List.map_append, hps]
          have hz0 : (zs.take 3)[k]? = some z := by
            have hx : ((zs.take 3).map PV.str)[k]? = some (.str z) := by rw [List.map_take]; exact hx
            rw [List.getElem?_map] at hx
            cases q : (zs.take 3)[k]? with
            | none => rw [q] at hx; cases hx
            | some y => rw [q] at hx; cases hx; rfl
          rw [List.take_succ (l := zs.take 3) (i := k), hz0]
          rfl
        · rcases List.mem_append.mp hx2 with hx | hx
          · exact hk _ hx
          · simp at hx; obtain ⟨rfl, rfl⟩ := hx; exact ⟨k1, k2⟩)
    obtain ⟨acc, h', rfl, h3, ps, rfl, hps, hk, d3, rfl⟩ := L
    have hl3 : (zs.take 3).length = 3 := by simp; omega
    rw [List.length_take, List.length_map, hlen] at hps
    simp at hps
    refine ⟨.tup (ps.map pkP), h3, ⟨_, by simp; rfl⟩, d3, ps, rfl, ?_, ?_, fun p hp => ?_⟩
    · have := congrArg List.length hps
      simp at this; omega
    · rw [hps, List.take_take]; exact hnd.sublist (List.take_sublist _ _)
    · have : p.1 ∈ zs.take 3 := by
        have q : p.1 ∈ (zs.take 3).take 3 := by rw [← hps]; exact List.mem_map_of_mem hp
        rw [List.take_take] at q; exact q
      have := hmem _ (List.mem_of_mem_take this)
      exact ⟨this, hnm _ this, hk p hp⟩
  obtain ⟨v, h', g, eb, d, hg⟩ := eb
  obtain ⟨_, g⟩ := specF_use (m := b__law_known F__law_shuffled (F__law_kind 4)) (N := N__law_known) (Good := Good__law_known) (as := [.ref i, .int 3]) (h := h) ⟨.ok v h', by simp, ⟨v, h', rfl, d, hg⟩, fun hc _ => by
    rw [eb]
    obtain ⟨ps, rfl, _, _, hk⟩ := hg
    exact gc_draw hc d (clVs_pk fun p hp => (hk p hp).2.2.1)⟩
  exact g
/-! _law_heads -/
def Good__law_heads : List PV → Hh → Res PV → Prop := fun as h r => match as with
  | [.ref j, .int e, .int deep] => ∃ (ys : List (List Nat)) (kvs : List (PKey × PV)), h[j]? = some (.dic kvs) ∧ r = .ok (.ref h.length) (h ++ [.lst (ys.map PV.str)]) ∧ ys.length ≤ kvs.length ∧ ∀ y ∈ ys, ∃ k, valP kvs (.inr y) = some k ∧ (0 < deep ∨ isTupP k = false)
  | _ => False
def F__law_heads : FF := specF (b__law_heads F__law_ends) N__law_heads Good__law_heads
theorem use__law_heads {j : Nat} {h : Hh} {kvs : List (PKey × PV)} {e deep : Int} (ej : h[j]? = some (.dic kvs)) (hk : KDd 20 kvs) (hz : kvs.length < 64) :
    ∃ ys : List (List Nat), F__law_heads [.ref j, .int e, .int deep] h = .ok (.ref h.length) (h ++ [.lst (ys.map PV.str)]) ∧ ys.length ≤ kvs.length ∧ ∀ y ∈ ys, ∃ k, valP kvs (.inr y) = some k ∧ (0 < deep ∨ isTupP k = false) := by
  have eb : ∃ (ys : List (List Nat)) (g : Hh), b__law_heads F__law_ends (start0 N__law_heads [.ref j, .int e, .int deep]) h = .rt (.ref h.length) (h ++ .lst (ys.map PV.str) :: g) ∧ ys.length ≤ kvs.length ∧ ∀ y ∈ ys, ∃ k, valP kvs (.inr y) = some k ∧ (0 < deep ∨ isTupP k = false) := by
    obtain ⟨xs, sx, hl, hx⟩ := sort_names (kvs := kvs) fun kv m => let ⟨x, e, _⟩ := hk kv m; ⟨x, e⟩
    have fs := fSorted_dic (h := h ++ [.lst []]) (getO _ ej) hz sx
    simp [fs]
    generalize hr : forL _ _ _ _ _ _ = r
    have L := forI hr (fun k s h' => ∃ (ys : List (List Nat)) (g : Hh) (z : Option PV), s = [some (.ref j), some (.int e), some (.int deep), some (.ref h.length), z] ∧ h' = h ++ .lst (ys.map PV.str) :: g ∧ ys.length ≤ k ∧ ∀ y ∈ ys, ∃ k, valP kvs (.inr y) = some k ∧ (0 < deep ∨ isTupP k = false))
      ⟨[], [], none, rfl, rfl, by simp, by simp⟩ (fun _ _ _ _ _ => trivial) (by
        rintro k x s h' hxk ⟨ys, g, z, rfl, rfl, hyl, hy⟩
        obtain ⟨x, hxm, rfl⟩ := List.mem_map.mp (List.mem_of_getElem? hxk)
        have hkl := (List.getElem?_eq_some_iff.mp hxk).1
        simp at hkl
        obtain ⟨v0, hv0⟩ := hx x hxm
        obtain ⟨v, hv⟩ := mem_valP hv0
        obtain ⟨_, _, _, kv1, kv2⟩ := hk _ (valP_mem hv)
        simp at kv1 kv2
        obtain ⟨m, em, _⟩ := (lefts_ok _ v (Nat.le_refl _) kv1).1
        have d1 : fIx (.ref j) (.str x) (h ++ .lst (ys.map PV.str) :: g) = .ok v _ := fIx_dic (getO _ ej) rfl hv
        have en := use__law_ends (h := h ++ .lst (ys.map PV.str) :: g) kv1 kv2 (by omega)
        rw [em] at en
        have f1 : ∀ p h, fIx (.tup [.ref p, .int m]) (.int 1) h = .ok (.int m) h := fun p h => fIx_tup h rfl
        have d2 : fIx (.ref j) (.str x) (h ++ .lst (ys.map PV.str) :: (g ++ [.lst (leftsP v)])) = .ok v _ := fIx_dic (getO _ ej) rfl hv
        have oT : ∀ h, okTy v h = true := fun h => okD_ty (kind_okD h v kv1)
        have ma := fun g => mAppend_at (i := h.length) (xs := ys.map PV.str) (u := .str x) (h := h ++ .lst (ys.map PV.str) :: g) (by simp) (by simp; omega)
        have ck : ∀ g, Kd.chk .lst (.ref h.length) (h ++ .lst (ys.map PV.str) :: g) = true := fun g => chk_lst (xs := ys.map PV.str) (by simp)
        simp at en ma
        by_cases c1 : e = m
        · subst c1
          by_cases c2 : 0 < deep ∨ isTupP v = false
          · refine has_nx (s2 := [some (.ref j), some (.int e), some (.int deep), some (.ref h.length), some (.str x)]) (h2 := h ++ .lst (ys.map PV.str ++ [.str x]) :: (g ++ [.lst (leftsP v)])) ?_ ⟨ys ++ [x], g ++ [.lst (leftsP v)], _, rfl, by simp, by simp; omega, fun y hy' => ?_⟩
            · by_cases c3 : 0 < deep
              · simp [d1, en, f1, d2, oT, c3, ma, ck]
              · have c4 : isTupP v = false := c2.resolve_left c3
                simp [d1, en, f1, d2, oT, c3, c4, ma, ck]
            · rcases List.mem_append.mp hy' with hy' | hy'
              · exact hy y hy'
              · simp at hy'; subst hy'; exact ⟨v, hv, c2⟩
          · refine has_nx (s2 := [some (.ref j), some (.int e), some (.int deep), some (.ref h.length), some (.str x)]) (h2 := h ++ .lst (ys.map PV.str) :: (g ++ [.lst (leftsP v)])) ?_ ⟨ys, _, _, rfl, rfl, by omega, hy⟩
            have c3 : ¬ 0 < deep := fun q => c2 (.inl q)
            have c4 : isTupP v = true := by
              cases q : isTupP v with
              | true => rfl
              | false => exact absurd (.inr q) c2
            simp [d1, en, f1, d2, oT, c3, c4]
        · refine has_nx (s2 := [some (.ref j), some (.int e), some (.int deep), some (.ref h.length), some (.str x)]) (h2 := h ++ .lst (ys.map PV.str) :: (g ++ [.lst (leftsP v)])) ?_ ⟨ys, _, _, rfl, rfl, by omega, hy⟩
          have c1' : ¬ m = e := fun q => c1 q.symm
          simp [d1, en, f1, c1'])
    obtain ⟨s', h', rfl, ys, g, z, rfl, rfl, hyl, hy⟩ := L
    exact ⟨ys, ⟨g, by simp⟩, by simpa [hl] using hyl, hy⟩
  obtain ⟨ys, g, eb, hyl, hy⟩ := eb
  obtain ⟨_, g⟩ := specF_use (m := b__law_heads F__law_ends) (N := N__law_heads) (Good := Good__law_heads) (as := [.ref j, .int e, .int deep]) (h := h) ⟨.ok (.ref h.length) (h ++ [.lst (ys.map PV.str)]), by simp, ⟨ys, kvs, ej, rfl, hyl, hy⟩, fun hc _ => by
    rw [eb]
    exact gc_newm 0 hc rfl (clVs_all.mpr fun x hx => by
      obtain ⟨y, _, rfl⟩ := List.mem_map.mp hx
      trivial)⟩
  obtain ⟨ys, kvs', g0, g1, g2⟩ := g
  rw [ej] at g0
  cases g0
  exact ⟨ys, g1, g2⟩
end U.K09
end
set_option Elab.async false
set_option linter.all false
set_option maxRecDepth 100000
set_option maxHeartbeats 4000000
noncomputable section
namespace U.K09
open PySem PySem.Spec PyProof.Rows L2 U
theorem code_cl {n : Nat} {t : Tr} {d : Nat} (h : t.fine d) : clVs n t.code := clVs_all.mpr fun w hw => by
  induction t with
  | nm x => simp [Tr.code] at hw; subst hw; trivial
  | ap f a i1 i2 =>
    simp [Tr.code] at hw
    rcases hw with rfl | hw | hw
    · trivial
    · exact i1 h.1 hw
    · exact i2 h.2 hw
  | lam x k b i1 =>
    simp [Tr.code] at hw
    rcases hw with rfl | hw
    · exact ⟨trivial, kind_cl n k h.2.1, trivial⟩
    · exact i1 h.2.2.2 hw
/-! _law_loose -/
def GoodTree (m : Nat) (v : PV) : Prop := ∃ t : Tr, v = .tup t.code ∧ t.fine 2 ∧ t.sz ≤ m
def Good__law_loose : List PV → Hh → Res PV → Prop := fun as h r => match as with
  | [.ref i, .ref j, .int deep] => ∃ v h', r = .ok v h' ∧ Drawn i h h' ∧ GoodTree (2 ^ (deep.toNat + 1) - 1) v
  | _ => False
def F__law_loose : Nat → FF
  | 0 => fun _ _ => .stuck
  | n + 1 => specF (b__law_loose F__law_draw F__law_some (F__law_loose n) (F__law_kind 4)) N__law_loose Good__law_loose
theorem use__law_loose : ∀ (n : Nat) {i j : Nat} {h : Hh} {deep : Int} {xs : List (List Nat)}, Hand i h → j ≠ i → h[j]? = some (.lst (xs.map PV.str)) → (∀ x ∈ xs, nameL x = true) → xs ≠ [] → xs.length ≤ 16777216 → 0 ≤ deep → deep ≤ 10 → deep.toNat < n →
    ∃ v h', F__law_loose n [.ref i, .ref j, .int deep] h = .ok v h' ∧ Drawn i h h' ∧ GoodTree (2 ^ (deep.toNat + 1) - 1) v := by
  intro n
  induction n with
  | zero => intro i j h deep xs _ _ _ _ _ _ _ _ hn; omega
  | succ n ih =>
    intro i j h deep xs a hji ej hnm h0 hz hd0 hd10 hn
    have some_ : ∀ h1, Drawn i h h1 → ∃ x h', F__law_some [.ref i, .ref j] h1 = .ok (.str x) h' ∧ Drawn i h h' ∧ nameL x = true := by
      intro h1 d1
      have e1 : seqA (.val (.ref j)) h1 = some (xs.map PV.str) := seqA_lst (by rw [d1.ne hji, ej])
      obtain ⟨v, h', e, d, hv⟩ := use__law_some (t := .ref j) (d1.hand a) (fun q => hji (by injection q)) (fun ns q => nomatch q) e1 (by simpa using h0) (by simpa using hz)
      obtain ⟨x, hx, rfl⟩ := List.mem_map.mp hv
      exact ⟨x, h', e, d1.trans d, hnm x hx⟩
    have sub : ∀ h1, 0 < deep → Drawn i h h1 → ∃ v h', F__law_loose n [.ref i, .ref j, .int (deep - 1)] h1 = .ok v h' ∧ Drawn i h h' ∧ GoodTree (2 ^ (deep - 1).toNat.succ - 1) v := by
      intro h1 hd d1
      obtain ⟨v, h', e, d, g⟩ := ih (deep := deep - 1) (d1.hand a) hji (by rw [d1.ne hji, ej]) hnm h0 hz (by omega) (by omega) (by omega)
      exact ⟨v, h', e, d1.trans d, g⟩
    have eb : ∃ v h', b__law_loose F__law_draw F__law_some (F__law_loose n) (F__law_kind 4) (start0 N__law_loose [.ref i, .ref j, .int deep]) h = .rt v h' ∧ Drawn i h h' ∧ GoodTree (2 ^ (deep.toNat + 1) - 1) v := by
      have one : 1 ≤ 2 ^ (deep.toNat + 1) - 1 := by
        have : 2 ^ (deep.toNat + 1) = 2 ^ deep.toNat * 2 := Nat.pow_succ 2 _
        have : 1 ≤ 2 ^ deep.toNat := Nat.one_le_two_pow
        omega
      by_cases hd : 0 < deep
      · have ed : deep.toNat = (deep - 1).toNat + 1 := by omega
        have pw : 2 ^ (deep.toNat + 1) = 2 ^ ((deep - 1).toNat + 1) * 2 := by rw [ed, Nat.pow_succ 2 ((deep - 1).toNat + 1)]
        have big : 2 ^ ((deep - 1).toNat + 1) ≤ 2 ^ 12 := Nat.pow_le_pow_right (by omega) (by omega)
        have big1 : 1 ≤ 2 ^ ((deep - 1).toNat + 1) := Nat.one_le_two_pow
        simp only [Nat.succ_eq_add_one] at sub
        generalize 2 ^ ((deep - 1).toNat + 1) = M at *
        obtain ⟨q, h1, e1, q0, q1, d1⟩ := use__law_draw (many := 4) a (by omega) (by omega)
        by_cases hq : q = 0
        · obtain ⟨x, h2, e2, d2, hx⟩ := some_ h1 d1
          refine ⟨.tup [.str x], h2, ?_, d2, .nm x, rfl, hx, one⟩
          simp [hd, e1, hq, e2]
        · by_cases hq3 : q < 3
          · obtain ⟨v1, h2, e2, d2, t1, rfl, f1, s1⟩ := sub h1 hd d1
            obtain ⟨v2, h3, e3, d3, t2, rfl, f2, s2⟩ := sub h2 hd d2
            have l1 := t1.len
            have l2 := t2.len
            have a1 : ∀ h, fAdd (.tup [.str [64]]) (.tup t1.code) h = .ok (.tup (.str [64] :: t1.code)) h := fun h => fAdd_tup (by simp; omega)
            have a2 : ∀ h, fAdd (.tup (.str [64] :: t1.code)) (.tup t2.code) h = .ok (.tup (.str [64] :: (t1.code ++ t2.code))) h := fun h => fAdd_tup (by simp; omega)
            refine ⟨.tup (Tr.ap t1 t2).code, h3, ?_, d3, .ap t1 t2, rfl, ⟨f1, f2⟩, ?_⟩
            · simp [hd, e1, hq, hq3, e2, e3, a1, a2, Tr.code]
            · simp only [Tr.sz]; omega
          · obtain ⟨x, h2, e2, d2, hx⟩ := some_ h1 d1
            obtain ⟨k, h3, e3, d3, k1, k2⟩ := use__law_kind 4 (deep := 1) (d2.hand a) (by omega) (by decide)
            have d13 := d2.trans d3
            obtain ⟨v2, h4, e4, d4, t2, rfl, f2, s2⟩ := sub h3 hd d13
            have l2 := t2.len
            have a1 : ∀ h, fAdd (.tup [.tup [.str x, k]]) (.tup t2.code) h = .ok (.tup (.tup [.str x, k] :: t2.code)) h := fun h => fAdd_tup (by simp; omega)
            refine ⟨.tup (Tr.lam x k t2).code, h4, ?_, d4, .lam x k t2, rfl, ⟨hx, k1, dOk_mono (by decide) k2, f2⟩, ?_⟩
            · simp [hd, e1, hq, hq3, e2, e3, e4, a1, Tr.code]
            · simp only [Tr.sz]; omega
      · obtain ⟨x, h2, e2, d2, hx⟩ := some_ h (Drawn.refl a)
        refine ⟨.tup [.str x], h2, ?_, d2, .nm x, rfl, hx, one⟩
        simp [hd, e2]
    obtain ⟨v, h', eb, d, g⟩ := eb
    obtain ⟨_, g⟩ := specF_use (m := b__law_loose F__law_draw F__law_some (F__law_loose n) (F__law_kind 4)) (N := N__law_loose) (Good := Good__law_loose) (as := [.ref i, .ref j, .int deep]) (h := h) ⟨.ok v h', by simp, ⟨v, h', rfl, d, g⟩, fun hc _ => by
      rw [eb]; exact gc_same⟩
    exact g
end U.K09
end
set_option Elab.async false
set_option linter.all false
set_option maxRecDepth 100000
set_option maxHeartbeats 4000000
noncomputable section
namespace U.K09
open PySem PySem.Spec PyProof.Rows L2 U
/-! _law_fit -/
/-- the heap of a fit: the lefts, the inner dict behind h0 -/
def FitH (i : Nat) (h0 : Hh) (ls : List PV) (kv : List (PKey × PV)) (H : Hh) : Prop := ∃ h1 g, H = h1 ++ g ∧ Drawn i h0 h1 ∧ g[0]? = some (.lst ls) ∧ g[1]? = some (.dic kv)
section
variable {i : Nat} {h0 H H' : Hh} {ls : List PV} {kv kv' : List (PKey × PV)}
theorem FitH.hand (f : FitH i h0 ls kv H) (a : Hand i h0) : Hand i H := by
  obtain ⟨h1, g, rfl, d, _⟩ := f
  exact (d.hand a).app g
theorem FitH.lt (f : FitH i h0 ls kv H) : i < h0.length ∧ h0.length + 2 ≤ H.length := by
  obtain ⟨h1, g, rfl, d, g0, g1⟩ := f
  have := (List.getElem?_eq_some_iff.mp g1).1
  rw [List.length_append, d.len]
  exact ⟨d.lt, by omega⟩
theorem FitH.drawn (f : FitH i h0 ls kv H) (d : Drawn i H H') : FitH i h0 ls kv H' := by
  obtain ⟨h1, g, rfl, d1, g0, g1⟩ := f
  obtain ⟨h2, rfl, d2⟩ := d.split (by rw [d1.len]; exact d1.lt)
  exact ⟨h2, g, rfl, d1.trans d2, g0, g1⟩
theorem FitH.new (f : FitH i h0 ls kv H) (c : List Cell) : FitH i h0 ls kv (H ++ c) := by
  obtain ⟨h1, g, rfl, d1, g0, g1⟩ := f
  exact ⟨h1, g ++ c, by simp, d1, getO _ g0, getO _ g1⟩
theorem FitH.inner (f : FitH i h0 ls kv H) : H[h0.length + 1]? = some (.dic kv) := by
  obtain ⟨h1, g, rfl, d1, g0, g1⟩ := f
  rw [getN d1.len, g1]
theorem FitH.lefts (f : FitH i h0 ls kv H) : H[h0.length]? = some (.lst ls) := by
  obtain ⟨h1, g, rfl, d1, g0, g1⟩ := f
  rw [getN0 d1.len, g0]
theorem FitH.put (f : FitH i h0 ls kv H) : FitH i h0 ls kv' (H.set (h0.length + 1) (.dic kv')) := by
  obtain ⟨h1, g, rfl, d1, g0, g1⟩ := f
  refine ⟨h1, g.set 1 (.dic kv'), setN d1.len _ _ _, d1, ?_, List.getElem?_set_self (List.getElem?_eq_some_iff.mp g1).1⟩
  rw [List.getElem?_set_ne (by omega)]
  exact g0
end
def six : List (List Nat) := [[120], [121], [122], [120], [117], [118]]
abbrev fitB3 (F__law_some : FF) : Sv := (sFor (iAny (eVar 4)) (gN 8) (sSeq (sAsg (eCall 2 F__law_some (aCons (aV (eVar 0)) (aCons (aV (eNew (lLst (aCons (aV (eC (.str [120]))) (aCons (aV (eC (.str [121]))) (aCons (aV (eC (.str [122]))) (aCons (aV (eC (.str [120]))) (aCons (aV (eC (.str [117]))) (aCons (aV (eC (.str [118]))) aNil))))))))) aNil))) (gN 9)) (sSeq (sAsg (e2 fAdd (eVar 7) (eTup (aCons (aV (eTup (aCons (aV (eVar 9)) (aCons (aV (eVar 8)) aNil)))) aNil))) (gN 7)) (sAsg (eVar 8) (gS (eVar 6) (eVar 9))))))
abbrev fitB5 (F__law_some : FF) : Sv := (sIf (tB1 (e2 fEqA (eFn fLen (aCons (aV (eVar 10)) aNil)) (eC (.int 0)))) (sRet (e2 fAdd (eVar 7) (eTup (aCons (aV (eCall 2 F__law_some (aCons (aV (eVar 0)) (aCons (aV (e2 fAdd (eNew (eFn fSorted (aCons (aV (eVar 6)) aNil))) (eNew (lLst (aCons (aV (eC (.str [119]))) aNil))))) aNil)))) aNil)))) sNext)
abbrev fitB8 (F__law_ends F__law_fit : FF) : Sv := (sFor (iAny (e2 fIx (eCall 1 F__law_ends (aCons (aV (e2 fIx (eVar 6) (eVar 9))) aNil)) (eC (.int 0)))) (gN 8) (sAsg (e2 fAdd (e2 fAdd (eTup (aCons (aV (eC (.str [64]))) aNil)) (eVar 11)) (eCall 4 F__law_fit (aCons (aV (eVar 0)) (aCons (aV (eVar 6)) (aCons (aV (eVar 8)) (aCons (aV (e2 fSub (eVar 3) (eC (.int 1)))) aNil)))))) (gN 11)))
abbrev fitB9 (F__law_some F__law_fit F__law_draw F__law_kind : FF) : Sv := (sIf (tAndE (tB1 (e2 fGt (eVar 3) (eC (.int 0)))) (tB1 (e2 fEqA (eCall 2 F__law_draw (aCons (aV (eVar 0)) (aCons (aV (eC (.int 6))) aNil))) (eC (.int 0))))) (sSeq (sPar 9 8 (eCall 2 F__law_some (aCons (aV (eVar 0)) (aCons (aV (eNew (lLst (aCons (aV (eC (.str [120]))) (aCons (aV (eC (.str [121]))) (aCons (aV (eC (.str [113]))) aNil)))))) aNil))) (eCall 2 F__law_kind (aCons (aV (eVar 0)) (aCons (aV (eC (.int 1))) aNil)))) (sSeq (sAsg (eFn fDict (aCons (aV (eVar 6)) aNil)) (gN 12)) (sSeq (sAsg (eVar 8) (gS (eVar 12) (eVar 9))) (sSeq (sAsg (eCall 4 F__law_fit (aCons (aV (eVar 0)) (aCons (aV (eVar 12)) (aCons (aV (eVar 5)) (aCons (aV (e2 fSub (eVar 3) (eC (.int 1)))) aNil))))) (gN 13)) (sAsg (e2 fAdd (e2 fAdd (eTup (aCons (aV (eC (.str [64]))) (aCons (aV (eTup (aCons (aV (eVar 9)) (aCons (aV (eVar 8)) aNil)))) aNil))) (eVar 13)) (eCall 4 F__law_fit (aCons (aV (eVar 0)) (aCons (aV (eVar 6)) (aCons (aV (eVar 8)) (aCons (aV (e2 fSub (eVar 3) (eC (.int 1)))) aNil)))))) (gN 11)))))) sNext)
/-- one of a new list of names -/
theorem some_new {i : Nat} {H : Hh} (a : Hand i H) (xs : List (List Nat)) (h0 : xs ≠ []) (hz : xs.length ≤ 16777216) :
    ∃ x H', F__law_some [.ref i, .ref H.length] (H ++ [.lst (xs.map PV.str)]) = .ok (.str x) H' ∧ Drawn i (H ++ [.lst (xs.map PV.str)]) H' ∧ x ∈ xs := by
  have hl := a.lt
  obtain ⟨v, H', e, d, hv⟩ := use__law_some (t := .ref H.length) (h := H ++ [.lst (xs.map PV.str)]) (a.app _) (fun q => by injection q with q; omega) (fun ns q => nomatch q) (seqA_lst (xs := xs.map PV.str) (by simp)) (by simpa using h0) (by simpa using hz)
  obtain ⟨x, hx, rfl⟩ := List.mem_map.mp hv
  exact ⟨x, H', e, d, hx⟩
theorem fit3 {i j : Nat} {h0 H : Hh} {kind e : PV} {deep : Int} {ls : List PV} {kvs : List (PKey × PV)} (a : Hand i h0) (hf : FitH i h0 ls kvs H) (hl : ls.length ≤ 20) (hls : ∀ l ∈ ls, kindP l = true ∧ dOk l 2 = true) (hk : KDd 2 kvs) (hz : kvs.length ≤ 100) :
    ∃ s' H', fitB3 F__law_some [some (.ref i), some (.ref j), some kind, some (.int deep), some (.ref h0.length), some e, some (.ref (h0.length + 1)), some (.tup []), none, none, none, none, none, none] H = .nx s' H' ∧
      ∃ (kv : List (PKey × PV)) (ts : List (List Nat × PV)) (z8 z9 : Option PV), s' = [some (.ref i), some (.ref j), some kind, some (.int deep), some (.ref h0.length), some e, some (.ref (h0.length + 1)), some (.tup (ts.map pkP)), z8, z9, none, none, none, none] ∧ FitH i h0 ls kv H' ∧ KDd 2 kv ∧ kv.length ≤ kvs.length + ls.length ∧ ts.length = ls.length ∧ (∀ p ∈ ts, nameL p.1 = true ∧ kindP p.2 = true ∧ dOk p.2 2 = true) := by
  have an := anyOf_lst hf.lefts
  have hs : ∀ x ∈ six, nameL x = true := by decide
  generalize hr : fitB3 _ _ _ = r
  simp [an] at hr
  have L := forI hr (fun k s' H' => ∃ (kv : List (PKey × PV)) (ts : List (List Nat × PV)) (z8 z9 : Option PV), s' = [some (.ref i), some (.ref j), some kind, some (.int deep), some (.ref h0.length), some e, some (.ref (h0.length + 1)), some (.tup (ts.map pkP)), z8, z9, none, none, none, none] ∧ FitH i h0 ls kv H' ∧ KDd 2 kv ∧ kv.length ≤ kvs.length + k ∧ ts.length = k ∧ (∀ p ∈ ts, nameL p.1 = true ∧ kindP p.2 = true ∧ dOk p.2 2 = true))
    ⟨kvs, [], none, none, rfl, hf, hk, Nat.le_refl _, rfl, by simp⟩ (by
      rintro k s' H' _ ⟨kv, ts, z8, z9, _, f, _⟩
      exact f.lefts) (by
      rintro k l s' H' hlk ⟨kv, ts, z8, z9, rfl, f, hk', hkl, htl, hts⟩
      have hll := hls l (List.mem_of_getElem? hlk)
      have hkk := (List.getElem?_eq_some_iff.mp hlk).1
      obtain ⟨x, H2, e1, d1, hx⟩ := some_new (f.hand a) six (by decide) (by decide)
      have f2 := (f.new _).drawn d1
      have hnx := hs x hx
      simp [six] at e1
      have a1 : ∀ h, fAdd (.tup (ts.map pkP)) (.tup [.tup [.str x, l]]) h = .ok (.tup (ts.map pkP ++ [.tup [.str x, l]])) h := fun h => fAdd_tup (by simp; omega)
      have p1 := fSet_dic (u := .str x) (v := l) (k := .inr x) f2.inner rfl ((size_lt _).mpr (by omega))
      refine has_nx (s2 := [some (.ref i), some (.ref j), some kind, some (.int deep), some (.ref h0.length), some e, some (.ref (h0.length + 1)), some (.tup ((ts ++ [(x, l)]).map pkP)), some l, some (.str x), none, none, none, none]) (h2 := H2.set (h0.length + 1) (.dic (putP kv (.inr x) l))) ?_ ⟨putP kv (.inr x) l, ts ++ [(x, l)], some l, some (.str x), rfl, f2.put, hk'.put hnx hll.1 hll.2, ?_, by simp [htl], fun p hp => ?_⟩
      · simp [e1, a1, p1, pkP]
      · have := putP_len kv (.inr x) l; omega
      · rcases List.mem_append.mp hp with hp | hp
        · exact hts p hp
        · simp at hp; subst hp; exact ⟨hnx, hll⟩)
  obtain ⟨s', H', rfl, kv, ts, z8, z9, rfl, f, h1, h2, h3, h4⟩ := L
  exact ⟨_, H', rfl, kv, ts, z8, z9, rfl, f, h1, h2, h3, h4⟩
theorem fit5 {i j : Nat} {h0 H : Hh} {kind e : PV} {deep : Int} {ls : List PV} {kv : List (PKey × PV)} {ts : List (List Nat × PV)} {z8 z9 : Option PV} {m : Nat} (a : Hand i h0) (f : FitH i h0 ls kv H) (hk : KDd 2 kv) (hz : kv.length < 64) (ht : ts.length ≤ 20) (hm : H[m]? = some (.lst [])) :
    ∃ x H', fitB5 F__law_some [some (.ref i), some (.ref j), some kind, some (.int deep), some (.ref h0.length), some e, some (.ref (h0.length + 1)), some (.tup (ts.map pkP)), z8, z9, some (.ref m), none, none, none] H = .rt (.tup (ts.map pkP ++ [.str x])) H' ∧ FitH i h0 ls kv H' ∧ nameL x = true := by
  obtain ⟨xs, sx, hl, hx⟩ := sort_names (kvs := kv) fun kv m => let ⟨x, e, _⟩ := hk kv m; ⟨x, e⟩
  have fl := fLen_lst hm
  have fs := fSorted_dic f.inner hz sx
  have fa := fAdd_lst (i := H.length) (j := H.length + 1) (xs := xs.map PV.str) (ys := [.str [119]]) (h := H ++ [.lst (xs.map PV.str), .lst [.str [119]]]) (by simp) (by simp) (by simp; omega)
  obtain ⟨x, H2, e1, d1, hxm⟩ := some_new ((f.new [.lst (xs.map PV.str), .lst [.str [119]]]).hand a) (xs ++ [[119]]) (by simp) (by simp; omega)
  have f2 := ((f.new [.lst (xs.map PV.str), .lst [.str [119]]]).new _).drawn d1
  have a1 : ∀ h, fAdd (.tup (ts.map pkP)) (.tup [.str x]) h = .ok (.tup (ts.map pkP ++ [.str x])) h := fun h => fAdd_tup (by simp; omega)
  simp at fl e1 fa
  refine ⟨x, H2, ?_, f2, ?_⟩
  · simp [fl, fs, fa, e1, a1]
  · rcases List.mem_append.mp hxm with hxm | hxm
    · obtain ⟨v, hv⟩ := hx x hxm
      obtain ⟨y, hy, hn, _⟩ := hk _ hv
      simp at hy; subst hy; exact hn
    · simp at hxm; subst hxm; decide
def GoodFit (deep : Int) (v : PV) : Prop := ∃ t : Tr, v = .tup t.code ∧ t.fine 2 ∧ t.sz + 5 ≤ 2 ^ (deep.toNat + 3)
def Good__law_fit : List PV → Hh → Res PV → Prop := fun as h r => match as with
  | [.ref i, .ref _, _, .int deep] => ∃ v h', r = .ok v h' ∧ Drawn i h h' ∧ GoodFit deep v
  | _ => False
def F__law_fit : Nat → FF
  | 0 => fun _ _ => .stuck
  | n + 1 => specF (b__law_fit F__law_ends F__law_some F__law_heads (F__law_fit n) F__law_draw (F__law_kind 4)) N__law_fit Good__law_fit
/-- what a fit asks for -/
structure FitPre (i j : Nat) (h : Hh) (kind : PV) (deep : Int) (kvs : List (PKey × PV)) : Prop where
  a : Hand i h
  ej : h[j]? = some (.dic kvs)
  hk : KDd 2 kvs
  kd : kindP kind = true
  kk : dOk kind 2 = true
  d0 : 0 ≤ deep
  d10 : deep ≤ 10
  len : kvs.length + 3 * deep.toNat ≤ 50
/-- the fits of lesser depth -/
abbrev FitIH (F : FF) (deep : Int) : Prop := ∀ {i j : Nat} {h : Hh} {kind : PV} {kvs : List (PKey × PV)}, FitPre i j h kind deep kvs → ∃ v h', F [.ref i, .ref j, kind, .int deep] h = .ok v h' ∧ Drawn i h h' ∧ GoodFit deep v
theorem fit8 {i j : Nat} {h0 H : Hh} {kind e k0 : PV} {deep : Int} {ls : List PV} {kv : List (PKey × PV)} {tk z8 : PV} {y : List Nat} {Z8 z10 z12 : Option PV} {F : FF} (a : Hand i h0) (f : FitH i h0 ls kv H) (hk : KDd 2 kv) (hy : valP kv (.inr y) = some k0) (hd0 : 0 ≤ deep) (hd10 : deep ≤ 10) (hz : 0 < deep → kv.length + 3 * (deep - 1).toNat ≤ 50) (hdk : 0 < deep ∨ isTupP k0 = false) (IH : 0 < deep → FitIH F (deep - 1)) :
    ∃ s' H', fitB8 F__law_ends F [some (.ref i), some (.ref j), some kind, some (.int deep), some (.ref h0.length), some e, some (.ref (h0.length + 1)), some tk, Z8, some (.str y), z10, some (.tup [.str y]), none, none] H = .nx s' H' ∧
      ∃ t z, s' = [some (.ref i), some (.ref j), some kind, some (.int deep), some (.ref h0.length), some e, some (.ref (h0.length + 1)), some tk, z, some (.str y), z10, some (.tup (Tr.code t)), none, none] ∧ FitH i h0 ls kv H' ∧ t.fine 2 ∧ (deep ≤ 0 → t.sz = 1) ∧ (0 < deep → t.sz + 7 ≤ 2 * 2 ^ ((deep - 1).toNat + 3)) := by
  obtain ⟨y', hy', hn, k1, k2⟩ := hk _ (valP_mem hy)
  simp at hy' k1 k2
  subst hy'
  have fx : fIx (.ref (h0.length + 1)) (.str y) H = .ok k0 H := fIx_dic f.inner rfl hy
  have en := use__law_ends (h := H) k1 k2 (by omega)
  have f0 : ∀ h, fIx (.tup [.ref H.length, endP k0]) (.int 0) h = .ok (.ref H.length) h := fun h => fIx_tup h rfl
  have an := anyOf_lst (j := H.length) (xs := leftsP k0) (h := H ++ [.lst (leftsP k0)]) (by simp)
  obtain ⟨hll, hlm⟩ := lefts_dok 2 k0 k1 k2
  have hlk := (lefts_ok _ k0 (Nat.le_refl _) k1).2.2
  generalize hr : fitB8 _ _ _ _ = r
  simp [fx, en, f0, an] at hr
  have M1 : 8 ≤ 2 ^ ((deep - 1).toNat + 3) := by
    have : 2 ^ ((deep - 1).toNat + 3) = 2 ^ (deep - 1).toNat * 8 := by rw [Nat.pow_add]
    have : 1 ≤ 2 ^ (deep - 1).toNat := Nat.one_le_two_pow
    omega
  have M2 : 2 ^ ((deep - 1).toNat + 3) ≤ 2 ^ 13 := Nat.pow_le_pow_right (by omega) (by omega)
  have hnl := f.lt
  have hni : H.length ≠ i := by omega
  simp only [FitIH, GoodFit] at IH
  generalize 2 ^ ((deep - 1).toNat + 3) = M at *
  have L := forI hr (fun k s' H' => ∃ t z, s' = [some (.ref i), some (.ref j), some kind, some (.int deep), some (.ref h0.length), some e, some (.ref (h0.length + 1)), some tk, z, some (.str y), z10, some (.tup (Tr.code t)), none, none] ∧ FitH i h0 ls kv H' ∧ H'[H.length]? = some (.lst (leftsP k0)) ∧ t.fine 2 ∧ t.sz ≤ 1 + k * (M - 4))
    ⟨.nm y, Z8, rfl, f.new _, by simp, hn, by simp [Tr.sz]⟩ (by
      rintro k s' H' _ ⟨t, z, _, _, hg, _⟩
      exact hg) (by
      rintro k l s' H' hlk' ⟨t, z, rfl, f', hg, tf, ts⟩
      have hlm' := List.mem_of_getElem? hlk'
      have hk2 := (List.getElem?_eq_some_iff.mp hlk').1
      have hd : 0 < deep := by
        rcases hdk with q | q
        · exact q
        · rcases kindP_cases k1 with ⟨n, rfl, _, _⟩ | ⟨a, b, rfl, _, _⟩
          · simp at hlm'
          · simp at q
      obtain ⟨v, H2, e1, d1, t2, rfl, tf2, ts2⟩ := IH hd (i := i) (j := h0.length + 1) (h := H') (kind := l) (kvs := kv) ⟨f'.hand a, f'.inner, hk, hlk l hlm', dOk_mono (by omega) (hlm l hlm').1, by omega, by omega, hz hd⟩
      have l1 := t.len
      have l2 := t2.len
      have hkm : k * (M - 4) ≤ 1 * (M - 4) := Nat.mul_le_mul_right _ (by omega)
      have a1 : ∀ h, fAdd (.tup [.str [64]]) (.tup t.code) h = .ok (.tup (.str [64] :: t.code)) h := fun h => fAdd_tup (by simp; omega)
      have a2 : ∀ h, fAdd (.tup (.str [64] :: t.code)) (.tup t2.code) h = .ok (.tup (.str [64] :: (t.code ++ t2.code))) h := fun h => fAdd_tup (by simp; omega)
      refine has_nx (s2 := [some (.ref i), some (.ref j), some kind, some (.int deep), some (.ref h0.length), some e, some (.ref (h0.length + 1)), some tk, some l, some (.str y), z10, some (.tup (Tr.code (.ap t t2))), none, none]) (h2 := H2) ?_ ⟨.ap t t2, some l, rfl, f'.drawn d1, by rw [d1.ne hni]; exact hg, ⟨tf, tf2⟩, ?_⟩
      · simp [e1, a1, a2, Tr.code]
      · simp only [Tr.sz, Nat.add_mul]; omega)
  obtain ⟨s', H', rfl, t, z, rfl, f', _, tf, ts⟩ := L
  refine ⟨_, H', rfl, t, z, rfl, f', tf, fun hd => ?_, fun hd => ?_⟩
  · have : leftsP k0 = [] := by
      rcases hdk with q | q
      · omega
      · rcases kindP_cases k1 with ⟨n, rfl, _, _⟩ | ⟨a, b, rfl, _, _⟩
        · simp
        · simp at q
    rw [this] at ts
    have : 1 ≤ t.sz := t.pos
    simp at ts
    omega
  · have : (leftsP k0).length * (M - 4) ≤ 2 * (M - 4) := Nat.mul_le_mul_right _ hll
    omega
end U.K09
end
set_option Elab.async false
set_option linter.all false
set_option maxRecDepth 100000
set_option maxHeartbeats 4000000
noncomputable section
namespace U.K09
open PySem PySem.Spec PyProof.Rows L2 U
theorem fit9 {i j : Nat} {h0 H : Hh} {kind : PV} {e deep : Int} {ls : List PV} {kv : List (PKey × PV)} {tk : PV} {y : List Nat} {z8 z10 : Option PV} {t : Tr} {F : FF} (a : Hand i h0) (f : FitH i h0 ls kv H) (hk : KDd 2 kv) (he : 0 ≤ e ∧ e ≤ 25) (hd0 : 0 ≤ deep) (hd10 : deep ≤ 10) (hz : 0 < deep → kv.length + 1 + 3 * (deep - 1).toNat ≤ 50) (tf : t.fine 2)
    (ts0 : deep ≤ 0 → t.sz = 1) (ts1 : 0 < deep → t.sz + 7 ≤ 2 * 2 ^ ((deep - 1).toNat + 3)) (IH : 0 < deep → FitIH F (deep - 1)) :
    ∃ s' H', fitB9 F__law_some F F__law_draw (F__law_kind 4) [some (.ref i), some (.ref j), some kind, some (.int deep), some (.ref h0.length), some (.int e), some (.ref (h0.length + 1)), some tk, z8, some (.str y), z10, some (.tup (Tr.code t)), none, none] H = .nx s' H' ∧
      ∃ (t' : Tr) (z8 z9 z12 z13 : Option PV), s' = [some (.ref i), some (.ref j), some kind, some (.int deep), some (.ref h0.length), some (.int e), some (.ref (h0.length + 1)), some tk, z8, z9, z10, some (.tup (Tr.code t')), z12, z13] ∧ FitH i h0 ls kv H' ∧ t'.fine 2 ∧ t'.sz + 7 ≤ 2 ^ (deep.toNat + 3) := by
  by_cases hd : 0 < deep
  · have pw : 2 ^ (deep.toNat + 3) = 2 * 2 ^ ((deep - 1).toNat + 3) := by
      have : deep.toNat + 3 = ((deep - 1).toNat + 3) + 1 := by omega
      rw [this, Nat.pow_succ 2 ((deep - 1).toNat + 3)]; omega
    have ts := ts1 hd
    have IH : FitIH F (deep - 1) := @IH hd
    have hz := hz hd
    have M1 : 8 ≤ 2 ^ ((deep - 1).toNat + 3) := by
      have : 2 ^ ((deep - 1).toNat + 3) = 2 ^ (deep - 1).toNat * 8 := by rw [Nat.pow_add]
      have : 1 ≤ 2 ^ (deep - 1).toNat := Nat.one_le_two_pow
      omega
    have M2 : 2 ^ ((deep - 1).toNat + 3) ≤ 2 ^ 13 := Nat.pow_le_pow_right (by omega) (by omega)
    rw [pw]
    clear ts0 ts1 pw
    simp only [FitIH, GoodFit] at IH
    generalize 2 ^ ((deep - 1).toNat + 3) = M at *
    obtain ⟨q, H1, e1, _, _, d1⟩ := use__law_draw (many := 6) (f.hand a) (by omega) (by omega)
    have f1 := f.drawn d1
    by_cases hq : q = 0
    · obtain ⟨x, H2, e2, d2, hx⟩ := some_new (f1.hand a) [[120], [121], [113]] (by decide) (by decide)
      have f2 := (f1.new _).drawn d2
      have hnx : nameL x = true := by
        have : ∀ x ∈ [[120], [121], [113]], nameL x = true := by decide
        exact this x hx
      obtain ⟨l, H3, e3, d3, l1, l2⟩ := use__law_kind 4 (deep := 1) (f2.hand a) (by omega) (by decide)
      have f3 := f2.drawn d3
      have e4 := fDict_dic f3.inner
      have g0 : (H3 ++ [Cell.dic kv])[H3.length]? = some (.dic kv) := by simp
      have e5 := fSet_dic (u := .str x) (v := l) (k := .inr x) g0 rfl ((size_lt _).mpr (by omega))
      simp at e5
      have f4 := f3.new [Cell.dic (putP kv (.inr x) l)]
      have hpl := putP_len kv (.inr x) l
      have hk2 := hk.put hnx l1 (dOk_mono (by decide) l2)
      obtain ⟨v1, H5, e6, d5, t1, rfl, tf1, s1⟩ := IH (i := i) (j := H3.length) (h := H3 ++ [Cell.dic (putP kv (.inr x) l)]) (kind := .int e) (kvs := putP kv (.inr x) l) ⟨f4.hand a, by simp, hk2, by simp [kindP]; omega, rfl, by omega, by omega, by omega⟩
      have f5 := f4.drawn d5
      obtain ⟨v2, H6, e7, d6, t2, rfl, tf2, s2⟩ := IH (i := i) (j := h0.length + 1) (h := H5) (kind := l) (kvs := kv) ⟨f5.hand a, f5.inner, hk, l1, dOk_mono (by decide) l2, by omega, by omega, by omega⟩
      have f6 := f5.drawn d6
      have n1 := t1.len
      have n2 := t2.len
      have a1 : ∀ h, fAdd (.tup [.str [64], .tup [.str x, l]]) (.tup t1.code) h = .ok (.tup (.str [64] :: .tup [.str x, l] :: t1.code)) h := fun h => fAdd_tup (by simp; omega)
      have a2 : ∀ h, fAdd (.tup (.str [64] :: .tup [.str x, l] :: t1.code)) (.tup t2.code) h = .ok (.tup (.str [64] :: .tup [.str x, l] :: (t1.code ++ t2.code))) h := fun h => fAdd_tup (by simp; omega)
      refine ⟨[some (.ref i), some (.ref j), some kind, some (.int deep), some (.ref h0.length), some (.int e), some (.ref (h0.length + 1)), some tk, some l, some (.str x), z10, some (.tup (Tr.code (.ap (.lam x l t1) t2))), some (.ref H3.length), some (.tup t1.code)], H6, ?_, .ap (.lam x l t1) t2, _, _, _, _, rfl, f6, ⟨⟨hnx, l1, dOk_mono (by decide) l2, tf1⟩, tf2⟩, ?_⟩
      · simp at e2
        simp [hd, e1, hq, e2, e3, e4, e5, e6, e7, a1, a2, Tr.code]
      · simp only [Tr.sz]; omega
    · refine ⟨_, H1, ?_, t, z8, some (.str y), none, none, rfl, f1, tf, ts⟩
      simp [hd, e1, hq]
  · refine ⟨_, H, ?_, t, z8, some (.str y), none, none, rfl, f, tf, ?_⟩
    · simp [hd]
    · have := ts0 (by omega)
      have : deep.toNat = 0 := by omega
      rw [this]
      omega
theorem use__law_fit : ∀ (n : Nat) {i j : Nat} {h : Hh} {kind : PV} {deep : Int} {kvs : List (PKey × PV)}, FitPre i j h kind deep kvs → deep.toNat < n → ∃ v h', F__law_fit n [.ref i, .ref j, kind, .int deep] h = .ok v h' ∧ Drawn i h h' ∧ GoodFit deep v := by
  intro n
  induction n with
  | zero => intro i j h kind deep kvs _ hn; omega
  | succ n ih =>
    intro i j h kind deep kvs P hn
    have IH : 0 < deep → FitIH (F__law_fit n) (deep - 1) := fun hd => fun {i j h kind kvs} p => ih p (by have := P.d0; omega)
    obtain ⟨a, ej, hk, kd, kk, d0, d10, hlen⟩ := P
    obtain ⟨⟨e, ee, he⟩, _, hlp⟩ := lefts_ok _ kind (Nat.le_refl _) kd
    obtain ⟨hll, hlm⟩ := lefts_dok 2 kind kd kk
    have eb : ∃ v h' g, b__law_fit F__law_ends F__law_some F__law_heads (F__law_fit n) F__law_draw (F__law_kind 4) (start0 N__law_fit [.ref i, .ref j, kind, .int deep]) h = .rt v (h' ++ g) ∧ Drawn i h h' ∧ GoodFit deep v := by
      have en := use__law_ends (h := h) kd kk (by omega)
      rw [ee] at en
      have ed := fDict_dic (h := h ++ [.lst (leftsP kind)]) (getO _ ej)
      have F0 : FitH i h (leftsP kind) kvs (h ++ [.lst (leftsP kind), .dic kvs]) := ⟨h, _, rfl, Drawn.refl a, rfl, rfl⟩
      obtain ⟨s1, H1, b3, kv, ts, z8, z9, rfl, f1, hk1, hz1, htl, hts⟩ := fit3 (j := j) (kind := kind) (e := .int e) (deep := deep) a F0 (by omega) (fun l hl => ⟨hlp l hl, dOk_mono (by omega) (hlm l hl).1⟩) hk (by omega)
      have hk20 : KDd 20 kv := fun q hq => let ⟨x, a, b, c, d⟩ := hk1 q hq; ⟨x, a, b, c, dOk_mono (by omega) d⟩
      obtain ⟨ys, eh, hyl0, hy⟩ := use__law_heads (e := e) (deep := deep) f1.inner hk20 (by omega)
      have f2 := f1.new [Cell.lst (ys.map PV.str)]
      have M1 : 8 ≤ 2 ^ (deep.toNat + 3) := by
        have : 2 ^ (deep.toNat + 3) = 2 ^ deep.toNat * 8 := by rw [Nat.pow_add]
        have : 1 ≤ 2 ^ deep.toNat := Nat.one_le_two_pow
        omega
      have M2 : 2 ^ (deep.toNat + 3) ≤ 2 ^ 13 := Nat.pow_le_pow_right (by omega) (by omega)
      have out : ∀ (H : Hh), FitH i h (leftsP kind) kv H → ∃ h1 g, H = h1 ++ g ∧ Drawn i h h1 := fun H ⟨h1, g, e, d, _⟩ => ⟨h1, g, e, d⟩
      have fin : ∀ (t : Tr) (H : Hh) (r : SRes), t.fine 2 → FitH i h (leftsP kind) kv H → ts.length + t.sz + 5 ≤ 2 ^ (deep.toNat + 3) → r = .rt (.tup (ts.map pkP ++ t.code)) H → ∃ v h' g, r = .rt v (h' ++ g) ∧ Drawn i h h' ∧ GoodFit deep v := fun t H r tf f hz er => by
        obtain ⟨h1, g, rfl, d⟩ := out H f
        refine ⟨_, h1, g, er, d, Tr.lams ts t, ?_, Tr.lams_fine hts tf, ?_⟩
        · rw [Tr.lams_code]; rfl
        · rw [Tr.lams_sz]; exact hz
      have hg1 : (H1 ++ [Cell.lst (ys.map PV.str)])[H1.length]? = some (.lst (ys.map PV.str)) := by simp
      show ∃ v h' g, sSeq _ (sSeq _ (sSeq _ (sSeq (fitB3 F__law_some) (sSeq _ (sSeq (fitB5 F__law_some) (sSeq _ (sSeq _ (sSeq (fitB8 F__law_ends (F__law_fit n)) (sSeq (fitB9 F__law_some (F__law_fit n) F__law_draw (F__law_kind 4)) _))))))))) _ _ = _ ∧ _
      by_cases hys : ys = []
      · subst hys
        obtain ⟨x, H2, b5, f3, hx⟩ := fit5 (j := j) (kind := kind) (e := .int e) (deep := deep) (z8 := z8) (z9 := z9) (m := H1.length) (ts := ts) a f2 hk1 (by omega) (by omega) hg1
        generalize fitB3 F__law_some = B3 at *
        generalize fitB5 F__law_some = B5 at *
        generalize fitB8 F__law_ends (F__law_fit n) = B8 at *
        generalize fitB9 F__law_some (F__law_fit n) F__law_draw (F__law_kind 4) = B9 at *
        refine fin (.nm x) H2 _ hx f3 (by simp only [Tr.sz]; omega) ?_
        simp at eh b5
        simp [en, ed, b3, eh, b5, Tr.code]
      · obtain ⟨yv, H2, e6, d6, hyv⟩ := use__law_some (t := .ref H1.length) (f2.hand a) (by have := f1.lt; intro q; injection q with q; omega) (fun ns q => nomatch q) (seqA_lst hg1) (by simpa using hys) (by simp; omega)
        obtain ⟨y, hym, rfl⟩ := List.mem_map.mp hyv
        obtain ⟨k0, hk0, hdk⟩ := hy y hym
        have f3 := f2.drawn d6
        obtain ⟨s4, H4, b8, t, z, rfl, f4, tf, ts0, ts1⟩ := fit8 (j := j) (kind := kind) (e := .int e) (deep := deep) (tk := .tup (ts.map pkP)) (Z8 := z8) (z10 := some (.ref H1.length)) (z8 := .non) (z12 := none) (F := F__law_fit n) a f3 hk1 hk0 d0 d10 (fun _ => by omega) hdk IH
        obtain ⟨s5, H5, b9, t', w8, w9, w12, w13, rfl, f5, tf', ts'⟩ := fit9 (j := j) (kind := kind) (e := e) (deep := deep) (tk := .tup (ts.map pkP)) (y := y) (z8 := z) (z10 := some (.ref H1.length)) (F := F__law_fit n) a f4 hk1 he d0 d10 (fun _ => by omega) tf ts0 ts1 IH
        have n1 := t'.len
        have a1 : fAdd (.tup (ts.map pkP)) (.tup t'.code) H5 = .ok (.tup (ts.map pkP ++ t'.code)) H5 := fAdd_tup (by simp; omega)
        have fl := fLen_lst hg1
        have hyl : ys.length ≠ 0 := by simpa using hys
        simp at fl
        have b5 : fitB5 F__law_some [some (.ref i), some (.ref j), some kind, some (.int deep), some (.ref h.length), some (.int e), some (.ref (h.length + 1)), some (.tup (ts.map pkP)), z8, z9, some (.ref H1.length), none, none, none] (H1 ++ [Cell.lst (ys.map PV.str)]) = .nx [some (.ref i), some (.ref j), some kind, some (.int deep), some (.ref h.length), some (.int e), some (.ref (h.length + 1)), some (.tup (ts.map pkP)), z8, z9, some (.ref H1.length), none, none, none] (H1 ++ [Cell.lst (ys.map PV.str)]) := by
          simp [fl, hys]
        generalize fitB3 F__law_some = B3 at *
        generalize fitB5 F__law_some = B5 at *
        generalize fitB8 F__law_ends (F__law_fit n) = B8 at *
        generalize fitB9 F__law_some (F__law_fit n) F__law_draw (F__law_kind 4) = B9 at *
        refine fin t' H5 _ tf' f5 (by omega) ?_
        simp [en, ed, b3, eh, b5, e6, b8, b9, a1]
    obtain ⟨v, h', g, eb, d, hg⟩ := eb
    obtain ⟨_, g⟩ := specF_use (m := b__law_fit F__law_ends F__law_some F__law_heads (F__law_fit n) F__law_draw (F__law_kind 4)) (N := N__law_fit) (Good := Good__law_fit) (as := [.ref i, .ref j, kind, .int deep]) (h := h) ⟨.ok v h', by simp, ⟨v, h', rfl, d, hg⟩, fun hc _ => by
      rw [eb]
      obtain ⟨t, rfl, tf, _⟩ := hg
      exact gc_draw hc d (code_cl tf)⟩
    exact g
end U.K09
end
set_option Elab.async false
set_option linter.all false
set_option maxRecDepth 100000
set_option maxHeartbeats 4000000
noncomputable section
namespace U.K09
open PySem PySem.Spec PyProof.Rows L2 U
/-! _law_some_program -/
/-- drawn from, and something new -/
def DrawnG (i : Nat) (h H : Hh) : Prop := ∃ h1 g, H = h1 ++ g ∧ Drawn i h h1
section
variable {i : Nat} {h0 H H' : Hh}
theorem DrawnG.hand (f : DrawnG i h0 H) (a : Hand i h0) : Hand i H := by
  obtain ⟨h1, g, rfl, d⟩ := f
  exact (d.hand a).app g
theorem DrawnG.drawn (f : DrawnG i h0 H) (d : Drawn i H H') : DrawnG i h0 H' := by
  obtain ⟨h1, g, rfl, d1⟩ := f
  obtain ⟨h2, rfl, d2⟩ := d.split (by rw [d1.len]; exact d1.lt)
  exact ⟨h2, g, rfl, d1.trans d2⟩
theorem DrawnG.new (f : DrawnG i h0 H) (c : List Cell) : DrawnG i h0 (H ++ c) := by
  obtain ⟨h1, g, rfl, d1⟩ := f
  exact ⟨h1, g ++ c, by simp, d1⟩
end
def GoodProg (v : PV) : Prop := ∃ t : Tr, v = .tup t.code ∧ t.fine 2 ∧ t.sz ≤ 60
def Good__law_some_program : List PV → Hh → Res PV → Prop := fun as h r => match as with
  | [.ref i, _, .int 3] => ∃ v h', r = .ok v h' ∧ Drawn i h h' ∧ GoodProg v
  | _ => False
def F__law_some_program : FF := specF (b__law_some_program F__law_draw (F__law_loose 5) (F__law_fit 5) (F__law_kind 4)) N__law_some_program Good__law_some_program
theorem pairs_pk : ∀ (ps : List (List Nat × PV)), pairsP (ps.map pkP) = some (ps.map fun p => ((.inr p.1 : PKey), p.2))
  | [] => rfl
  | p :: r => by
    have ih := pairs_pk r
    show (match (PV.str p.1).key?, pairsP (r.map pkP) with
      | some k, some r => some ((k, p.2) :: r)
      | _, _ => none) = _
    rw [ih]
    rfl
theorem merge_kd {d : Nat} : ∀ (ps acc : List (PKey × PV)), KDd d ps → KDd d acc → KDd d (ps.foldl (fun acc kv => putP acc kv.1 kv.2) acc) ∧ (ps.foldl (fun acc kv => putP acc kv.1 kv.2) acc).length ≤ acc.length + ps.length
  | [], acc, _, ha => ⟨ha, by simp⟩
  | p :: r, acc, hp, ha => by
    obtain ⟨x, e, h1, h2, h3⟩ := hp p List.mem_cons_self
    have hl := putP_len acc p.1 p.2
    obtain ⟨i1, i2⟩ := merge_kd r (putP acc p.1 p.2) (fun q hq => hp q (List.mem_cons_of_mem _ hq)) (by rw [e]; exact ha.put h1 h2 h3)
    refine ⟨i1, ?_⟩
    simp only [List.foldl_cons, List.length_cons]
    omega
abbrev spIf1 (F__law_draw F__law_loose F__law_fit F__law_kind : FF) : Sv := (sIf (tB1 (e2 fEqA (eCall 2 F__law_draw (aCons (aV (eVar 0)) (aCons (aV (eC (.int 4))) aNil))) (eC (.int 0)))) (sAsg (eCall 3 F__law_loose (aCons (aV (eVar 0)) (aCons (aV (e2 fAdd (eNew (lComp (iAny (eVar 1)) (bT [5, 6]) tYesE (eVar 5) [5, 6])) (eNew (lLst (aCons (aV (eC (.str [120]))) (aCons (aV (eC (.str [121]))) (aCons (aV (eC (.str [122]))) aNil))))))) (aCons (aV (eVar 2)) aNil)))) (gN 4)) (sAsg (eCall 4 F__law_fit (aCons (aV (eVar 0)) (aCons (aV (eFn fDict (aCons (aV (eVar 1)) aNil))) (aCons (aV (eCall 2 F__law_kind (aCons (aV (eVar 0)) (aCons (aV (eC (.int 2))) aNil)))) (aCons (aV (eVar 2)) aNil))))) (gN 4)))
theorem spOne {i : Nat} {h0 H : Hh} {ps : List (List Nat × PV)} {z3 z4 : Option PV} (a : Hand i h0) (f : DrawnG i h0 H) (hl : ps.length = 3) (hps : ∀ p ∈ ps, nameL p.1 = true ∧ kindP p.2 = true ∧ dOk p.2 2 = true) :
    ∃ (t : Tr) (H' : Hh), spIf1 F__law_draw (F__law_loose 5) (F__law_fit 5) (F__law_kind 4) [some (.ref i), some (.tup (ps.map pkP)), some (.int 3), z3, z4, none, none] H = .nx [some (.ref i), some (.tup (ps.map pkP)), some (.int 3), z3, some (.tup t.code), none, none] H' ∧ DrawnG i h0 H' ∧ t.fine 2 ∧ t.sz ≤ 1000 := by
  obtain ⟨q, H1, e1, _, _, d1⟩ := use__law_draw (many := 4) (f.hand a) (by omega) (by omega)
  have f1 := f.drawn d1
  by_cases hq : q = 0
  · have hc : compL (bT [5, 6]) tYesE (eVar 5) none [some (.ref i), some (.tup (ps.map pkP)), some (.int 3), z3, z4, none, none] (ps.map pkP) [] H1 = .ok (ps.map fun p => PV.str p.1) H1 := by
      have := compM (b := bT [5, 6]) (e := eVar 5) (g := none) (s := [some (.ref i), some (.tup (ps.map pkP)), some (.int 3), z3, z4, none, none]) (xs := ps.map pkP) (h := H1) rfl (fun y => match y with | .tup [x, _] => x | _ => .non) trivial (by simp; omega) (by
        intro x hx
        obtain ⟨p, _, rfl⟩ := List.mem_map.mp hx
        exact ⟨_, rfl, rfl⟩)
      rw [this, List.map_map]
      rfl
    have fa := fAdd_lst (i := H1.length) (j := H1.length + 1) (xs := ps.map fun p => PV.str p.1) (ys := [.str [120], .str [121], .str [122]]) (h := H1 ++ [.lst (ps.map fun p => PV.str p.1), .lst [.str [120], .str [121], .str [122]]]) (by simp) (by simp) (by simp; omega)
    have f2 := f1.new [.lst (ps.map fun p => PV.str p.1), .lst [.str [120], .str [121], .str [122]], .lst ((ps.map fun p => PV.str p.1) ++ [.str [120], .str [121], .str [122]])]
    have hi := (f1.hand a).lt
    obtain ⟨v, H2, e2, d2, t, rfl, tf, ts⟩ := use__law_loose 5 (i := i) (j := H1.length + 2) (deep := 3) (xs := (ps.map (·.1)) ++ [[120], [121], [122]]) (f2.hand a) (by omega) (by simp) (by
      intro x hx
      rcases List.mem_append.mp hx with hx | hx
      · obtain ⟨p, hp, rfl⟩ := List.mem_map.mp hx
        exact (hps p hp).1
      · have : ∀ x ∈ [[120], [121], [122]], nameL x = true := by decide
        exact this x hx) (by simp) (by simp; omega) (by omega) (by omega) (by decide)
    refine ⟨t, H2, ?_, f2.drawn d2, tf, ?_⟩
    · simp at fa e2
      simp [e1, hq, hc, fa, e2]
    · have : 2 ^ ((3 : Int).toNat + 1) - 1 = 15 := rfl
      omega
  · have hpp := pairs_pk ps
    have ed := fDict_tup (h := H1) hpp
    obtain ⟨hk, hkl⟩ := merge_kd (d := 2) (ps.map fun p => ((.inr p.1 : PKey), p.2)) [] (fun kv hkv => by
      obtain ⟨p, hp, rfl⟩ := List.mem_map.mp hkv
      exact ⟨p.1, rfl, (hps p hp)⟩) (fun kv hkv => by simp at hkv)
    have hM : mergeP (ps.map fun p => ((.inr p.1 : PKey), p.2)) = (ps.map fun p => ((.inr p.1 : PKey), p.2)).foldl (fun acc kv => putP acc kv.1 kv.2) [] := rfl
    rw [← hM] at hk hkl
    generalize mergeP (ps.map fun p => ((.inr p.1 : PKey), p.2)) = kvs at *
    have f2 := f1.new [.dic kvs]
    obtain ⟨k, H2, e2, d2, k1, k2⟩ := use__law_kind 4 (deep := 2) (f2.hand a) (by omega) (by decide)
    have f3 := f2.drawn d2
    have hi := (f1.hand a).lt
    have ej : H2[H1.length]? = some (.dic kvs) := by rw [d2.ne (by omega)]; simp
    obtain ⟨v, H3, e3, d3, t, rfl, tf, ts⟩ := use__law_fit 5 (i := i) (j := H1.length) (h := H2) (kind := k) (deep := 3) (kvs := kvs) ⟨f3.hand a, ej, hk, k1, k2, by omega, by omega, by simp at hkl; omega⟩ (by decide)
    refine ⟨t, H3, ?_, f3.drawn d3, tf, ?_⟩
    · simp [e1, hq, ed, e2, e3]
    · have : 2 ^ ((3 : Int).toNat + 3) = 64 := rfl
      omega
theorem use__law_some_program {i : Nat} {h : Hh} {v : PV} (a : Hand i h) (hv : GoodKnown v) : ∃ v' h', F__law_some_program [.ref i, v, .int 3] h = .ok v' h' ∧ Drawn i h h' ∧ GoodProg v' := by
  obtain ⟨ps, rfl, hl, _, hps⟩ := hv
  have eb : ∃ v' h' g, b__law_some_program F__law_draw (F__law_loose 5) (F__law_fit 5) (F__law_kind 4) (start0 N__law_some_program [.ref i, .tup (ps.map pkP), .int 3]) h = .rt v' (h' ++ g) ∧ Drawn i h h' ∧ GoodProg v' := by
    generalize hB : b__law_some_program F__law_draw (F__law_loose 5) (F__law_fit 5) (F__law_kind 4) (start0 N__law_some_program [.ref i, .tup (ps.map pkP), .int 3]) h = r0
    have hB2 : sSeq (sFor (iR1 (eC (.int 6))) (gN 3) (sSeq (spIf1 F__law_draw (F__law_loose 5) (F__law_fit 5) (F__law_kind 4)) (sIf (tB1 (e2 fLe (eFn fLen (aCons (aV (eVar 4)) aNil)) (eC (.int 60)))) (sRet (eVar 4)) sNext))) (sRet (eTup (aCons (aV (eTup (aCons (aV (eC (.str [120]))) (aCons (aV (eC (.int 0))) aNil)))) (aCons (aV (eC (.str [120]))) aNil)))) [some (.ref i), some (.tup (ps.map pkP)), some (.int 3), none, none, none, none] h = r0 := hB
    clear hB
    have one := @spOne i h
    generalize spIf1 F__law_draw (F__law_loose 5) (F__law_fit 5) (F__law_kind 4) = B at one hB2
    have rg : rngOk 6 := by decide
    simp [iR1, rg] at hB2
    generalize hr : forL _ _ _ _ _ _ = r at hB2
    have L := forX hr (fun k s H => ∃ z3 z4, s = [some (.ref i), some (.tup (ps.map pkP)), some (.int 3), z3, z4, none, none] ∧ DrawnG i h H) (fun r => ∃ (t : Tr) (H : Hh), r = .rt (.tup t.code) H ∧ DrawnG i h H ∧ t.fine 2 ∧ t.sz ≤ 60)
      ⟨none, none, rfl, h, [], by simp, Drawn.refl a⟩ (fun _ _ _ _ _ => trivial) (by
        rintro k x s H _ ⟨z3, z4, rfl, f⟩
        obtain ⟨t, H', e, f', tf, ts⟩ := one (z3 := some x) (z4 := z4) a f hl (fun p hp => (hps p hp).2)
        have hlen := t.len
        by_cases hz : t.sz ≤ 60
        · refine has_rt (s1 := [some (.ref i), some (.tup (ps.map pkP)), some (.int 3), some x, z4, none, none]) (h1 := H) (v := .tup t.code) (h2 := H') ?_ ⟨t, H', rfl, f', tf, hz⟩
          have : ((t.code.length : Nat) : Int) ≤ 60 := by omega
          simp [e, this]
        · refine has_nx (s1 := [some (.ref i), some (.tup (ps.map pkP)), some (.int 3), some x, z4, none, none]) (h1 := H) (s2 := [some (.ref i), some (.tup (ps.map pkP)), some (.int 3), some x, some (.tup t.code), none, none]) (h2 := H') ?_ ⟨_, _, rfl, f'⟩
          have : ¬ ((t.code.length : Nat) : Int) ≤ 60 := by omega
          simp [e, this])
    rcases L with ⟨s', H, rfl, z3, z4, rfl, h1, g, rfl, d⟩ | ⟨t, H, rfl, ⟨h1, g, rfl, d⟩, tf, ts⟩
    · simp at hB2
      subst hB2
      exact ⟨_, h1, g, rfl, d, .lam [120] (.int 0) (.nm [120]), rfl, ⟨by decide, by decide, rfl, (by decide : nameL [120] = true)⟩, by decide⟩
    · simp at hB2
      subst hB2
      exact ⟨_, h1, g, rfl, d, t, rfl, tf, ts⟩
  obtain ⟨v', h', g, eb, d, hg⟩ := eb
  obtain ⟨_, g⟩ := specF_use (m := b__law_some_program F__law_draw (F__law_loose 5) (F__law_fit 5) (F__law_kind 4)) (N := N__law_some_program) (Good := Good__law_some_program) (as := [.ref i, .tup (ps.map pkP), .int 3]) (h := h) ⟨.ok v' h', by simp, ⟨v', h', rfl, d, hg⟩, fun hc _ => by
    rw [eb]
    obtain ⟨t, rfl, tf, _⟩ := hg
    exact gc_draw hc d (code_cl tf)⟩
  exact g
end U.K09
end
set_option Elab.async false
set_option linter.all false
set_option maxRecDepth 100000
set_option maxHeartbeats 4000000
noncomputable section
namespace U.K09
open PySem PySem.Spec PyProof.Rows L2 U
/-- words of a tree, and whom they belong to -/
def WK (ws : List PV) (os : List (Option Nat)) : Prop := ∃ t : Tr, t.fine 2 ∧ t.sz ≤ 1000 ∧ ws = t.code ∧ os = t.own 0 []
structure WF (ws : List PV) (os : List (Option Nat)) : Prop where
  word : ∀ w ∈ ws, wordP w = true
  dok : ∀ w ∈ ws, dOk w 61 = true
  len : ws.length ≤ 1000
  ol : ws.length = os.length
  nm : ∀ pr ∈ ws.zip os, pr.2.isSome = true → isNm pr.1 = true
  tk : ∀ q, some q ∈ os → q ∈ tksP ws
theorem WK.facts {ws : List PV} {os : List (Option Nat)} (k : WK ws os) : WF ws os := by
  obtain ⟨t, tf, ts, rfl, rfl⟩ := k
  have tk := tf.ok (by omega)
  have e := own_tree t 0 [] tk
  have hes : (t.ends 0).length = t.code.length := by rw [t.ends_len, t.len]
  have at_ : ∀ i w, t.code[i]? = some w → (t.own 0 [])[i]? = some (gOwn [] (t.tks 0) i w) := fun i w h => by
    rw [e, owL_get _ h, Nat.zero_add]
  have g0 : ∀ i w, gOwn [] (t.tks 0) i w = if isTupP w = true ∨ isUse w = true then none else nearT (t.tks 0) i (nmOf w) := fun i w => by
    unfold gOwn
    simp
  refine ⟨fun w hw => Tr.code_word tk hw, fun w hw => Tr.code_dOk tk hw, by rw [t.len]; exact ts, by rw [t.len, t.own_len], fun pr hp hs => ?_, fun q hq => ?_⟩
  · obtain ⟨i, hi⟩ := List.getElem?_of_mem hp
    rw [List.getElem?_zip_eq_some] at hi
    have h2 := at_ i _ hi.1
    rw [hi.2, g0] at h2
    injection h2 with h2
    rw [h2] at hs
    split at hs
    · cases hs
    · rename_i c
      unfold isNm
      cases h1 : isTupP pr.1 <;> cases h2 : isUse pr.1 <;> simp [h1, h2] at c ⊢
  · obtain ⟨i, hi⟩ := List.getElem?_of_mem hq
    have hl := (List.getElem?_eq_some_iff.mp hi).1
    rw [t.own_len, ← t.len] at hl
    have h2 := at_ i _ (List.getElem?_eq_getElem hl)
    rw [hi, g0] at h2
    injection h2 with h2
    split at h2
    · cases h2
    · unfold nearT at h2
      cases e2 : ((t.tks 0).filter fun o => decide (o.p < i) && decide (i < o.e) && decide (o.x = nmOf t.code[i])).getLast? with
      | none => rw [e2] at h2; cases h2
      | some o =>
        rw [e2] at h2
        injection h2 with h2
        have hm := (List.mem_filter.mp (List.mem_of_getLast? e2)).1
        rw [← takes_tks t.code (t.ends 0) hes, h2]
        exact List.mem_map_of_mem hm
theorem WK.spans {ws : List PV} {os : List (Option Nat)} (k : WK ws os) : ∃ es wt, spansP ws.length ws = some (es, wt) ∧ takersP 0 ws es [] = os ∧ ownersP ws es = os := by
  obtain ⟨t, tf, ts, rfl, rfl⟩ := k
  have tk := tf.ok (by omega)
  refine ⟨_, _, spans_code tk, takers_code tk, ?_⟩
  rw [own_tree t 0 [] tk]
  rfl
theorem use__law_owners {ws : List PV} {os : List (Option Nat)} (k : WK ws os) (h : Hh) : F__law_owners [.tup ws] h = .ok (.ref h.length) (h ++ [.lst (os.map optP)]) := by
  obtain ⟨es, wt, e1, _, e2⟩ := k.spans
  have f := k.facts
  have hl := f.len
  unfold F__law_owners
  simp only [e1]
  rw [if_pos ⟨dOks_all.mpr fun w hw => dOk_mono (by omega) (f.dok w hw), by simpa using f.word, by omega⟩, e2]
/-! counts -/
theorem use_counts {ws : List PV} {os : List (Option Nat)} (k : WK ws os) (h : Hh) : F_counts [.tup ws] h = .ok (.ref h.length) (h ++ [.dic (cntW (cnt0 ws) ws os)]) := by
  obtain ⟨es, wt, e1, e2, _⟩ := k.spans
  have f := k.facts
  have hl := f.len
  have c1 : F_check_program [.tup ws] h = .ok .non h := by
    obtain ⟨t, tf, ts, rfl, rfl⟩ := k
    have tk := tf.ok (by omega)
    have hz := Tr.code_sz tf
    have : t.sz * 2 ^ (2 + 2) ≤ 1000 * 2 ^ (2 + 2) := Nat.mul_le_mul_right _ ts
    exact if_pos ⟨okDs_all.mpr fun w hw => Tr.code_okD h tk hw, okXs_all.mpr fun w hw => Tr.code_okX tk hw, (size_le _).mpr (by omega), by simpa using f.word, whole_code tk⟩
  have c2 : F_counts_of [.tup ws] h = .ok (.ref h.length) (h ++ [.dic (cntW (cnt0 ws) ws os)]) := by
    unfold F_counts_of
    simp only [e1, e2]
    refine if_pos ⟨dOks_all.mpr fun w hw => dOk_mono (by omega) (f.dok w hw), by simpa using f.word, by omega, ?_⟩
    rw [List.all_eq_true]
    intro t ht
    cases t with
    | none => rfl
    | some q =>
      have := f.tk q ht
      show (valP (cnt0 ws) (.inl (q : Int))).isSome = true
      rw [cnt0_eq, fold_val (fun q : Nat => (.inl (q : Int) : PKey)) (fun _ => .int 0) (fun _ => .int 0) (fun _ => rfl), if_pos ⟨q, this, rfl⟩]
      rfl
  show (match F_check_program [.tup ws] h with | .ok _ _ => F_counts_of [.tup ws] h | _ => .stuck) = _
  rw [c1]
  exact c2
/-! _law_is_open -/
def F__law_is_open : FF := fun as h => match as with
  | [.tup ws, .ref j, .int p] => (match h[j]? with
    | some (.lst xs) => (match atI ws p, atI xs p with
      | some w, some y => if dOk w 64 = true then .ok (.bl (isStrP w && (!isUse w && y.isN))) h else .stuck
      | _, _ => .stuck)
    | _ => .stuck)
  | _ => .stuck
theorem gc__law_is_open (as : List PV) (h : Hh) (hc : clH h) (hv : clVs h.length as) : GcR h (b__law_is_open (start0 N__law_is_open as) h) (F__law_is_open as h) := by
  unfold F__law_is_open
  split
  · rename_i ws j p
    split
    · rename_i xs ex
      split
      · rename_i w y ew ey
        split
        · rename_i q
          have e : b__law_is_open (start0 N__law_is_open [.tup ws, .ref j, .int p]) h = .rt (.bl (isStrP w && (!isUse w && y.isN))) h := by
            have f1 := fIx_tup h ew
            have f2 := fIx_lst ex ey
            simp [f1, f2, dOk_ty _ q, neUse q]
            cases isStrP w <;> cases isUse w <;> simp
          rw [e]; exact gc_same
        · trivial
      · trivial
    · trivial
  · trivial
theorem isN_optP (o : Option Nat) : (optP o).isN = o.isNone := by cases o <;> rfl
theorem opW_str {w : PV} {o : Option Nat} (hw : wordP w = true) : (isStrP w && (!isUse w && (optP o).isN)) = opW (w, o) := by
  rw [isN_optP]
  unfold opW
  rcases wordP_cases hw with rfl | ⟨x, rfl, hx, hn⟩ | ⟨x, k, rfl, hx, hk, hn⟩
  · simp [isUse]
  · simp
    cases o <;> simp
  · simp
theorem use__law_is_open {ws : List PV} {os : List (Option Nat)} (f : WF ws os) {j i : Nat} {h : Hh} (ej : h[j]? = some (.lst (os.map optP))) (hi : i < ws.length) : F__law_is_open [.tup ws, .ref j, .int (i : Nat)] h = .ok (.bl (opW ((ws.zip os).getD i (.non, none)))) h := by
  have e1 : ws[i]? = some ws[i] := List.getElem?_eq_getElem hi
  have ho : i < os.length := by rw [← f.ol]; exact hi
  have e2 : os[i]? = some os[i] := List.getElem?_eq_getElem ho
  have a1 : atI ws (i : Nat) = some ws[i] := atI_nat e1
  have a2 : atI (os.map optP) (i : Nat) = some (optP os[i]) := atI_nat (by simp [e2])
  have hw := List.getElem_mem hi
  unfold F__law_is_open
  simp only [ej, a1, a2]
  rw [if_pos (dOk_mono (by omega) (f.dok _ hw)), opW_str (f.word _ hw)]
  congr 3
  rw [List.getD_eq_getElem?_getD]
  have : (ws.zip os)[i]? = some (ws[i], os[i]) := by rw [List.getElem?_zip_eq_some]; exact ⟨e1, e2⟩
  rw [this]
  rfl
/-! _law_open -/
def F__law_open : FF := fun as h => match as with
  | [.tup ws] => open Classical in if q : ∃ os, WK ws os then .ok (.ref h.length) (h ++ [.lst ((openL ws q.choose).map PV.str)]) else .stuck
  | _ => .stuck
theorem WK.uniq {ws : List PV} {os os' : List (Option Nat)} (k : WK ws os) (k' : WK ws os') : os' = os := by
  obtain ⟨es, wt, e1, e2, _⟩ := k.spans
  obtain ⟨es', wt', e1', e2', _⟩ := k'.spans
  rw [e1] at e1'
  cases e1'
  rw [← e2, ← e2']
theorem use__law_open {ws : List PV} {os : List (Option Nat)} (k : WK ws os) (h : Hh) : F__law_open [.tup ws] h = .ok (.ref h.length) (h ++ [.lst ((openL ws os).map PV.str)]) := by
  have q : ∃ os, WK ws os := ⟨os, k⟩
  refine (dif_pos q).trans ?_
  rw [k.uniq q.choose_spec]
theorem setSorted_str {xs : List (List Nat)} {h : Hh} (hz : xs.length ≤ 2000) : fSetSorted [.tmp (xs.map PV.str)] h = .ok ((sortC (ddP xs)).map PV.str) h := by
  have e : setV (xs.map PV.str) = some ((ddP xs).map PV.str) := by
    cases xs with
    | nil => rfl
    | cons x r =>
      unfold setV
      have : intsP ((x :: r).map PV.str) = none := rfl
      rw [this, strsP_map]
  have e2 : sortV ((ddP xs).map PV.str) = some ((sortC (ddP xs)).map PV.str) := by
    generalize ddP xs = ys
    cases ys with
    | nil => simp [sortV, intsP, sortI, sortC]
    | cons x r =>
      unfold sortV
      have : intsP ((x :: r).map PV.str) = none := rfl
      rw [this, strsP_map]
  unfold fSetSorted
  simp only [seqA_tmp, e, e2]
  refine if_pos ?_
  show (xs.map PV.str).length + 1 < 4096
  simp
  omega
theorem open_comp {ws : List PV} {os : List (Option Nat)} (f : WF ws os) {s : Ev0} {j k : Nat} {h : Hh} (h0 : k ≠ 0) (h1 : k ≠ 1) (hk : k < s.length) (hs : s[0]? = some (some (.tup ws))) (hs1 : s[1]? = some (some (.ref j))) (ej : h[j]? = some (.lst (os.map optP))) :
    compL (bN k) (tB1 (eCall 3 F__law_is_open (aCons (aV (eVar 0)) (aCons (aV (eVar 1)) (aCons (aV (eVar k)) aNil))))) (e2 fIx (eVar 0) (eVar k)) none s (rangeL 0 1 ws.length) [] h = .ok ((openN ws os).map PV.str) h := by
  have hl := f.len
  have := compP (b := bN k) (c := tB1 (eCall 3 F__law_is_open (aCons (aV (eVar 0)) (aCons (aV (eVar 1)) (aCons (aV (eVar k)) aNil))))) (e := e2 fIx (eVar 0) (eVar k)) (g := none) (s := s) (xs := rangeL 0 1 ws.length) (h := h) rfl (fun y => match y with | .int q => opW ((ws.zip os).getD q.toNat (.non, none)) | _ => false) (fun y => match y with | .int q => ((ws.zip os).getD q.toNat (.non, none)).1 | _ => .non) trivial (by rw [rangeL_len]; have := size_le ws.length; omega) (by
    intro x hx
    obtain ⟨i, hi0⟩ := List.getElem?_of_mem hx
    obtain ⟨hi, rfl⟩ := rangeL_at hi0
    have e1 : (0 : Int) + (i : Nat) * 1 = (i : Nat) := by omega
    rw [e1]
    have s0 : (s.set k (some (.int (i : Nat))))[0]? = some (some (.tup ws)) := by rw [List.getElem?_set_ne h0, hs]
    have s1 : (s.set k (some (.int (i : Nat))))[1]? = some (some (.ref j)) := by rw [List.getElem?_set_ne h1, hs1]
    have sk : (s.set k (some (.int (i : Nat))))[k]? = some (some (.int (i : Nat))) := List.getElem?_set_self hk
    have u := use__law_is_open f ej hi
    have hz : (ws.zip os)[i]? = some (ws[i], os[i]'(by rw [← f.ol]; exact hi)) := by
      rw [List.getElem?_zip_eq_some]
      exact ⟨List.getElem?_eq_getElem hi, List.getElem?_eq_getElem _⟩
    have fx : fIx (.tup ws) (.int (i : Nat)) h = .ok ws[i] h := fIx_tup h (atI_nat (List.getElem?_eq_getElem hi))
    refine ⟨_, rfl, ?_, fun _ => ?_⟩
    · simp [s0, s1, sk, u]
    · simp [s0, sk, fx, hz])
  rw [this]
  have hzl : (ws.zip os).length = ws.length := by rw [List.length_zip, ← f.ol, Nat.min_self]
  have rf := range_filter (ws.zip os) (.non, none) opW (fun p => p.1)
  rw [hzl] at rf
  have : ((rangeL 0 1 ws.length).filter (fun y => match y with | .int q => opW ((ws.zip os).getD q.toNat (.non, none)) | _ => false)).map (fun y => match y with | .int q => ((ws.zip os).getD q.toNat (.non, none)).1 | _ => .non) = ((List.range ws.length).filter fun i => opW ((ws.zip os).getD i (.non, none))).map fun i => ((ws.zip os).getD i (.non, none)).1 := by
    simp [rangeL, List.filter_map, Function.comp_def]
  rw [this, rf]
  congr 1
  unfold openN
  rw [List.map_map]
  apply List.map_congr_left
  intro p hp
  obtain ⟨hp1, hp2⟩ := List.mem_filter.mp hp
  have hw := f.word _ (List.of_mem_zip hp1).1
  rcases wordP_cases hw with e | ⟨x, e, hx, hn⟩ | ⟨x, k, e, hx, hk, hn⟩
  · unfold opW at hp2; rw [e] at hp2; simp [isUse] at hp2
  · rw [e]; simp [e, nmOf]
  · unfold opW at hp2; rw [e] at hp2; simp at hp2
theorem gc__law_open (as : List PV) (h : Hh) (hc : clH h) (hv : clVs h.length as) : GcR h (b__law_open F__law_owners F__law_is_open (start0 N__law_open as) h) (F__law_open as h) := by
  unfold F__law_open
  split
  · rename_i ws
    split
    · rename_i q
      have k := q.choose_spec
      generalize q.choose = os at k
      have f := k.facts
      have hl := f.len
      have e : b__law_open F__law_owners F__law_is_open (start0 N__law_open [.tup ws]) h = .rt (.ref (h.length + 1)) (h ++ [.lst (os.map optP), .lst ((openL ws os).map PV.str)]) := by
        have c := open_comp f (s := [some (.tup ws), some (.ref h.length), none]) (j := h.length) (k := 2) (h := h ++ [.lst (os.map optP)]) (by decide) (by decide) (by simp) rfl rfl (by simp)
        have r1 := iR1_ok (m := eFn fLen (aCons (aV (eVar 0)) aNil)) (s := [some (.tup ws), some (.ref h.length), none]) (h := h ++ [.lst (os.map optP)]) (n := ws.length) (by simp) (by omega)
        have on := openN_len ws os
        have ss := setSorted_str (h := h ++ [.lst (os.map optP)]) (xs := openN ws os) (by omega)
        have m1 : lComp (iR1 (eFn fLen (aCons (aV (eVar 0)) aNil))) (bN 2) (tB1 (eCall 3 F__law_is_open (aCons (aV (eVar 0)) (aCons (aV (eVar 1)) (aCons (aV (eVar 2)) aNil))))) (e2 fIx (eVar 0) (eVar 2)) [2] [some (.tup ws), some (.ref h.length), none] (h ++ [.lst (os.map optP)]) = .ok ((openN ws os).map PV.str) (h ++ [.lst (os.map optP)]) := lcomp_eq r1 c
        refine (seq_nx (s1 := [some (.tup ws), some (.ref h.length), none]) (h1 := h ++ [.lst (os.map optP)]) (by simp [use__law_owners k])).trans ?_
        refine (ret_new (fn_tmp m1 ss)).trans ?_
        rw [List.append_assoc, List.length_append]
        rfl
      rw [e]
      exact gc_newm 1 hc rfl (clVs_all.mpr fun x hx => by
        obtain ⟨y, _, rfl⟩ := List.mem_map.mp hx
        trivial)
    · trivial
  · trivial
end U.K09
end
set_option Elab.async false
set_option linter.all false
set_option maxRecDepth 100000
set_option maxHeartbeats 4000000
noncomputable section
namespace U.K09
open PySem PySem.Spec PyProof.Rows L2 U
/-! _law_standing -/
def F__law_standing : FF := fun as h => match as with
  | [.tup ws, .str x] => open Classical in if q : (∃ os, WK ws os) ∧ nameL x = true then .ok (.int (cO ws q.1.choose x : Nat)) h else .stuck
  | _ => .stuck
theorem use__law_standing {ws : List PV} {os : List (Option Nat)} (k : WK ws os) {x : List Nat} (hx : nameL x = true) (h : Hh) : F__law_standing [.tup ws, .str x] h = .ok (.int (cO ws os x : Nat)) h := by
  have q : (∃ os, WK ws os) ∧ nameL x = true := ⟨⟨os, k⟩, hx⟩
  refine (dif_pos q).trans ?_
  rw [k.uniq q.1.choose_spec]
theorem standing_comp {ws : List PV} {os : List (Option Nat)} (f : WF ws os) {x : List Nat} (hx : nameL x = true) {j : Nat} {h : Hh} (ej : h[j]? = some (.lst (os.map optP))) :
    ∃ ys, compL (bN 3) (tAndE (tB1 (eCall 3 F__law_is_open (aCons (aV (eVar 0)) (aCons (aV (eVar 2)) (aCons (aV (eVar 3)) aNil))))) (tB1 (e2 fEqA (e2 fIx (eVar 0) (eVar 3)) (eVar 1)))) (eVar 3) none [some (.tup ws), some (.str x), some (.ref j), none] (rangeL 0 1 ws.length) [] h = .ok ys h ∧ ys.length = cO ws os x := by
  have hl := f.len
  have := compP (b := bN 3) (c := tAndE (tB1 (eCall 3 F__law_is_open (aCons (aV (eVar 0)) (aCons (aV (eVar 2)) (aCons (aV (eVar 3)) aNil))))) (tB1 (e2 fEqA (e2 fIx (eVar 0) (eVar 3)) (eVar 1)))) (e := eVar 3) (g := none) (s := [some (.tup ws), some (.str x), some (.ref j), none]) (xs := rangeL 0 1 ws.length) (h := h) rfl (fun y => match y with | .int q => opW ((ws.zip os).getD q.toNat (.non, none)) && decide (nmOf ((ws.zip os).getD q.toNat (.non, none)).1 = x) | _ => false) (fun y => y) trivial (by rw [rangeL_len]; have := size_le ws.length; omega) (by
    intro y hy
    obtain ⟨i, hi0⟩ := List.getElem?_of_mem hy
    obtain ⟨hi, rfl⟩ := rangeL_at hi0
    have e1 : (0 : Int) + (i : Nat) * 1 = (i : Nat) := by omega
    rw [e1]
    have u := use__law_is_open f ej hi
    have hz : (ws.zip os)[i]? = some (ws[i], os[i]'(by rw [← f.ol]; exact hi)) := by
      rw [List.getElem?_zip_eq_some]
      exact ⟨List.getElem?_eq_getElem hi, List.getElem?_eq_getElem _⟩
    have hzd : (ws.zip os).getD i (.non, none) = (ws[i], os[i]'(by rw [← f.ol]; exact hi)) := by
      rw [List.getD_eq_getElem?_getD, hz]; rfl
    have fx : fIx (.tup ws) (.int (i : Nat)) h = .ok ws[i] h := fIx_tup h (atI_nat (List.getElem?_eq_getElem hi))
    have hwm := List.getElem_mem hi
    rw [hzd] at u
    refine ⟨_, rfl, ?_, fun _ => by simp⟩
    simp only [Int.toNat_natCast, hzd]
    cases ho : opW (ws[i], os[i]'(by rw [← f.ol]; exact hi)) with
    | false =>
      rw [ho] at u
      simp [u]
    | true =>
      rw [ho] at u
      have e : ∃ z, ws[i] = .str z ∧ nameL z = true := by
        rcases wordP_cases (f.word _ hwm) with e | ⟨z, e, hz, hn⟩ | ⟨z, k, e, hz, hk, hn⟩
        · unfold opW at ho; rw [e] at ho; simp [isUse] at ho
        · exact ⟨z, e, hz⟩
        · unfold opW at ho; rw [e] at ho; simp at ho
      obtain ⟨z, ez, hnz⟩ := e
      have fe : fEqA (.str z) (.str x) h = .ok (.bl (decide (z = x))) h := fEqA_str (name_okS hnz).1 (name_okS hx).1 h
      rw [ez] at fx
      simp [u, fx, fe, ez, nmOf])
  refine ⟨_, this, ?_⟩
  have hzl : (ws.zip os).length = ws.length := by rw [List.length_zip, ← f.ol, Nat.min_self]
  have rf := congrArg List.length (range_filter (ws.zip os) (.non, none) (fun p => opW p && decide (nmOf p.1 = x)) (fun p => p.1))
  rw [hzl] at rf
  rw [List.length_map, List.length_map] at rf
  unfold cO
  rw [List.countP_eq_length_filter, ← rf, List.length_map]
  simp [rangeL, List.filter_map, Function.comp_def]
theorem gc__law_standing (as : List PV) (h : Hh) (hc : clH h) (hv : clVs h.length as) : GcR h (b__law_standing F__law_owners F__law_is_open (start0 N__law_standing as) h) (F__law_standing as h) := by
  unfold F__law_standing
  split
  · rename_i ws x
    split
    · rename_i q
      have k := q.1.choose_spec
      generalize q.1.choose = os at k
      have f := k.facts
      have hl := f.len
      obtain ⟨ys, c, hy⟩ := standing_comp f q.2 (j := h.length) (h := h ++ [.lst (os.map optP)]) (by simp)
      have e : b__law_standing F__law_owners F__law_is_open (start0 N__law_standing [.tup ws, .str x]) h = .rt (.int (cO ws os x : Nat)) (h ++ [.lst (os.map optP)]) := by
        have r1 := iR1_ok (m := eFn fLen (aCons (aV (eVar 0)) aNil)) (s := [some (.tup ws), some (.str x), some (.ref h.length), none]) (h := h ++ [.lst (os.map optP)]) (n := ws.length) (by simp) (by omega)
        refine (seq_nx (s1 := [some (.tup ws), some (.str x), some (.ref h.length), none]) (h1 := h ++ [.lst (os.map optP)]) (by simp [use__law_owners k])).trans ?_
        exact ret_val (fn_tmp (lcomp_eq r1 c) (by rw [fLen_tmp, hy]))
      rw [e]
      exact gc_pure hc trivial
    · trivial
  · trivial
/-! _law_takes -/
def F__law_takes : FF := fun as h => match as with
  | [.tup ws] => if dOks ws 63 = true ∧ ws.length ≤ 1000000 then .ok (.ref h.length) (h ++ [.lst ((tksP ws).map fun q => .int (q : Nat))]) else .stuck
  | _ => .stuck
theorem gc__law_takes (as : List PV) (h : Hh) (hc : clH h) (hv : clVs h.length as) : GcR h (b__law_takes (start0 N__law_takes as) h) (F__law_takes as h) := by
  unfold F__law_takes
  split
  · rename_i ws
    split
    · rename_i q
      have r1 := iR1_ok (m := eFn fLen (aCons (aV (eVar 0)) aNil)) (s := [some (.tup ws), none]) (h := h) (n := ws.length) (by simp) (by omega)
      have c := comp_takes (s := [some (.tup ws), none]) (k := 1) (h := h) (by decide) (by simp) rfl (fun w hw => dOks_all.mp q.1 w hw) q.2
      have e : b__law_takes (start0 N__law_takes [.tup ws]) h = .rt (.ref h.length) (h ++ [.lst ((tksP ws).map fun q => .int (q : Nat))]) := ret_new (lcomp_eq r1 c)
      rw [e]
      exact gc_newm 0 hc rfl (clVs_ints _ _ _)
    · trivial
  · trivial
theorem use__law_takes {ws : List PV} {os : List (Option Nat)} (f : WF ws os) (h : Hh) : F__law_takes [.tup ws] h = .ok (.ref h.length) (h ++ [.lst ((tksP ws).map fun q => .int (q : Nat))]) :=
  if_pos ⟨dOks_all.mpr fun w hw => dOk_mono (by omega) (f.dok w hw), by have := f.len; omega⟩
/-! _law_due -/
def F__law_due : FF := fun as h => match as with
  | [.tup ws] => open Classical in if q : ∃ os, WK ws os then .ok (.ref h.length) (h ++ [.dic (dueP ws q.choose)]) else .stuck
  | _ => .stuck
theorem use__law_due {ws : List PV} {os : List (Option Nat)} (k : WK ws os) (h : Hh) : F__law_due [.tup ws] h = .ok (.ref h.length) (h ++ [.dic (dueP ws os)]) := by
  have q : ∃ os, WK ws os := ⟨os, k⟩
  refine (dif_pos q).trans ?_
  rw [k.uniq q.choose_spec]
theorem openL_name {ws : List PV} {os : List (Option Nat)} (f : WF ws os) {x : List Nat} (hx : x ∈ openL ws os) : nameL x = true := by
  rw [mem_openL, ← mem_openN] at hx
  unfold openN at hx
  obtain ⟨p, hp, rfl⟩ := List.mem_map.mp hx
  obtain ⟨h1, h2⟩ := List.mem_filter.mp hp
  have hw := f.word _ (List.of_mem_zip h1).1
  rcases wordP_cases hw with e | ⟨x, e, hx, hn⟩ | ⟨x, k, e, hx, hk, hn⟩
  · unfold opW at h2; rw [e] at h2; simp [isUse] at h2
  · rw [e]; exact hx
  · unfold opW at h2; rw [e] at h2; simp at h2
theorem count_opt (os : List (Option Nat)) (q : Nat) : ((os.map optP).countP fun z => eqP z (.int (q : Nat))) = cI os (q : Nat) := by
  unfold cI
  rw [List.countP_map]
  congr 1
  funext t
  cases t with
  | none => rfl
  | some p =>
    simp [optP, eqP]
    rfl
theorem dOks_opt (os : List (Option Nat)) : dOks (os.map optP) 63 = true := dOks_all.mpr fun x hx => by
  obtain ⟨o, _, rfl⟩ := List.mem_map.mp hx
  cases o <;> rfl
theorem fold_take {α β : Type} (f : β → α → β) (b : β) {l : List α} {i : Nat} {x : α} (h : l[i]? = some x) : (l.take (i + 1)).foldl f b = f ((l.take i).foldl f b) x := by
  rw [List.take_succ, h, List.foldl_append]
  rfl
theorem fold_lenG {α : Type} (f : α → PKey) (g : α → PV) : ∀ (xs : List α) (kvs : List (PKey × PV)), (xs.foldl (fun acc y => putP acc (f y) (g y)) kvs).length ≤ kvs.length + xs.length
  | [], _ => by simp
  | x :: xs, kvs => by
    have h1 := fold_lenG f g xs (putP kvs (f x) (g x))
    have h2 := putP_len kvs (f x) (g x)
    simp only [List.foldl_cons, List.length_cons]
    omega
theorem gc__law_due (as : List PV) (h : Hh) (hc : clH h) (hv : clVs h.length as) : GcR h (b__law_due F__law_owners F__law_open F__law_standing F__law_takes (start0 N__law_due as) h) (F__law_due as h) := by
  unfold F__law_due
  split
  · rename_i ws
    split
    · rename_i q
      have k := q.choose_spec
      generalize q.choose = os at k
      have f := k.facts
      have hl := f.len
      have hol := openL_len ws os
      have htl : (tksP ws).length ≤ ws.length := by
        unfold tksP
        exact Nat.le_trans (List.length_filter_le _ _) (by simp)
      have e : ∃ g, b__law_due F__law_owners F__law_open F__law_standing F__law_takes (start0 N__law_due [.tup ws]) h = .rt (.ref (h.length + 1)) (h ++ .lst (os.map optP) :: .dic (dueP ws os) :: g) := by
        let D1 := (openL ws os).foldl (fun acc x => putP acc (.inr x) (.int (cO ws os x : Nat))) []
        have hD1 : D1.length ≤ 1000 := by
          have := fold_lenG (fun x : List Nat => (.inr x : PKey)) (fun x => .int (cO ws os x : Nat)) (openL ws os) []
          simp at this
          exact Nat.le_trans this (by omega)
        have l1 : ∃ z, forL (gN 3) (sAsg (eCall 2 F__law_standing (aCons (aV (eVar 0)) (aCons (aV (eVar 3)) aNil))) (gS (eVar 2) (eVar 3))) (some (h.length + 2, .lst ((openL ws os).map PV.str))) ((openL ws os).map PV.str) [some (.tup ws), some (.ref h.length), some (.ref (h.length + 1)), none, none] (h ++ [.lst (os.map optP), .dic [], .lst ((openL ws os).map PV.str)]) =
            .nx [some (.tup ws), some (.ref h.length), some (.ref (h.length + 1)), z, none] (h ++ [.lst (os.map optP), .dic D1, .lst ((openL ws os).map PV.str)]) := by
          generalize hr : forL _ _ _ _ _ _ = r
          have L := forI hr (fun i s h' => ∃ z, s = [some (.tup ws), some (.ref h.length), some (.ref (h.length + 1)), z, none] ∧ h' = h ++ [.lst (os.map optP), .dic (((openL ws os).take i).foldl (fun acc x => putP acc (.inr x) (.int (cO ws os x : Nat))) []), .lst ((openL ws os).map PV.str)])
            ⟨none, rfl, by simp⟩ (by
              rintro i s h' _ ⟨z, rfl, rfl⟩
              simp) (by
              rintro i y s h' hy ⟨z, rfl, rfl⟩
              rw [List.getElem?_map] at hy
              obtain ⟨x, hx, rfl⟩ := Option.map_eq_some_iff.mp hy
              have hn := openL_name f (List.mem_of_getElem? hx)
              have u := fun h => use__law_standing k hn h
              have hlen := fold_lenG (fun x : List Nat => (.inr x : PKey)) (fun x => .int (cO ws os x : Nat)) ((openL ws os).take i) []
              rw [List.length_take] at hlen
              simp only [List.length_nil, Nat.zero_add] at hlen
              refine has_nx (s1 := [some (.tup ws), some (.ref h.length), some (.ref (h.length + 1)), some (.str x), none]) (h1 := h ++ [.lst (os.map optP), .dic (((openL ws os).take i).foldl (fun acc x => putP acc (.inr x) (.int (cO ws os x : Nat))) []), .lst ((openL ws os).map PV.str)]) (s2 := [some (.tup ws), some (.ref h.length), some (.ref (h.length + 1)), some (.str x), none]) (h2 := h ++ [.lst (os.map optP), .dic (((openL ws os).take (i + 1)).foldl (fun acc x => putP acc (.inr x) (.int (cO ws os x : Nat))) []), .lst ((openL ws os).map PV.str)]) ?_ ⟨_, rfl, rfl⟩
              rw [fold_take _ _ hx]
              generalize ((openL ws os).take i).foldl (fun acc x => putP acc (.inr x) (.int (cO ws os x : Nat))) [] = D at *
              have p := fSet_dic (j := h.length + 1) (u := .str x) (v := .int (cO ws os x : Nat)) (k := .inr x) (kvs := D) (h := h ++ [.lst (os.map optP), .dic D, .lst ((openL ws os).map PV.str)]) (by simp) rfl ((size_lt _).mpr (by omega))
              simp at p
              simp [u, p])
          obtain ⟨s', h', rfl, z, rfl, rfl⟩ := L
          refine ⟨z, ?_⟩
          rw [List.length_map, List.take_length]
        have l2 : ∀ z, ∃ z4, forL (gN 4) (sAsg (eMt .lst mCount (eVar 1) (aCons (aV (eVar 4)) aNil)) (gS (eVar 2) (eVar 4))) (some (h.length + 3, .lst ((tksP ws).map fun q => .int (q : Nat)))) ((tksP ws).map fun q => .int (q : Nat)) [some (.tup ws), some (.ref h.length), some (.ref (h.length + 1)), z, none] (h ++ [.lst (os.map optP), .dic D1, .lst ((openL ws os).map PV.str), .lst ((tksP ws).map fun q => .int (q : Nat))]) =
            .nx [some (.tup ws), some (.ref h.length), some (.ref (h.length + 1)), z, z4] (h ++ [.lst (os.map optP), .dic (dueP ws os), .lst ((openL ws os).map PV.str), .lst ((tksP ws).map fun q => .int (q : Nat))]) := by
          intro z
          have hdue : dueP ws os = (tksP ws).foldl (fun acc q => putP acc (.inl (q : Nat)) (.int (cI os (q : Nat) : Nat))) D1 := rfl
          rw [hdue]
          generalize D1 = D1 at *
          generalize hr : forL _ _ _ _ _ _ = r
          have L := forI hr (fun i s h' => ∃ z4, s = [some (.tup ws), some (.ref h.length), some (.ref (h.length + 1)), z, z4] ∧ h' = h ++ [.lst (os.map optP), .dic (((tksP ws).take i).foldl (fun acc q => putP acc (.inl (q : Nat)) (.int (cI os (q : Nat) : Nat))) D1), .lst ((openL ws os).map PV.str), .lst ((tksP ws).map fun q => .int (q : Nat))])
            ⟨none, rfl, by simp⟩ (by
              rintro i s h' _ ⟨z4, rfl, rfl⟩
              simp) (by
              rintro i y s h' hy ⟨z4, rfl, rfl⟩
              rw [List.getElem?_map] at hy
              obtain ⟨x, hx, rfl⟩ := Option.map_eq_some_iff.mp hy
              have hlen := fold_lenG (fun q : Nat => (.inl (q : Int) : PKey)) (fun q => .int (cI os (q : Nat) : Nat)) ((tksP ws).take i) D1
              rw [List.length_take] at hlen
              refine has_nx (s1 := [some (.tup ws), some (.ref h.length), some (.ref (h.length + 1)), z, some (.int (x : Nat))]) (h1 := h ++ [.lst (os.map optP), .dic (((tksP ws).take i).foldl (fun acc q => putP acc (.inl (q : Nat)) (.int (cI os (q : Nat) : Nat))) D1), .lst ((openL ws os).map PV.str), .lst ((tksP ws).map fun q => .int (q : Nat))]) (s2 := [some (.tup ws), some (.ref h.length), some (.ref (h.length + 1)), z, some (.int (x : Nat))]) (h2 := h ++ [.lst (os.map optP), .dic (((tksP ws).take (i + 1)).foldl (fun acc q => putP acc (.inl (q : Nat)) (.int (cI os (q : Nat) : Nat))) D1), .lst ((openL ws os).map PV.str), .lst ((tksP ws).map fun q => .int (q : Nat))]) ?_ ⟨_, rfl, rfl⟩
              rw [fold_take _ _ hx]
              generalize ((tksP ws).take i).foldl (fun acc q => putP acc (.inl (q : Nat)) (.int (cI os (q : Nat) : Nat))) D1 = D at *
              have p := fSet_dic (j := h.length + 1) (u := .int (x : Nat)) (v := .int (cI os (x : Nat) : Nat)) (k := .inl (x : Nat)) (kvs := D) (h := h ++ [.lst (os.map optP), .dic D, .lst ((openL ws os).map PV.str), .lst ((tksP ws).map fun q => .int (q : Nat))]) (by simp) rfl ((size_lt _).mpr (by omega))
              have mc := mCount_at (j := h.length) (xs := os.map optP) (u := .int (x : Nat)) (h := h ++ [.lst (os.map optP), .dic D, .lst ((openL ws os).map PV.str), .lst ((tksP ws).map fun q => .int (q : Nat))]) (by simp) (dOks_opt os) rfl
              rw [count_opt] at mc
              simp at p
              simp [mc, p, Kd.chk])
          obtain ⟨s', h', rfl, z4, rfl, rfl⟩ := L
          refine ⟨z4, ?_⟩
          rw [List.length_map, List.take_length]
        obtain ⟨z, l1⟩ := l1
        obtain ⟨z4, l2⟩ := l2 z
        refine ⟨[.lst ((openL ws os).map PV.str), .lst ((tksP ws).map fun q => .int (q : Nat))], ?_⟩
        have an1 := anyOf_lst (j := h.length + 2) (xs := (openL ws os).map PV.str) (h := h ++ [.lst (os.map optP), .dic [], .lst ((openL ws os).map PV.str)]) (by simp)
        have an2 := anyOf_lst (j := h.length + 3) (xs := (tksP ws).map fun q => .int (q : Nat)) (h := h ++ [.lst (os.map optP), .dic D1, .lst ((openL ws os).map PV.str), .lst ((tksP ws).map fun q => .int (q : Nat))]) (by simp)
        generalize D1 = D1 at *
        refine (seq_nx (s1 := [some (.tup ws), some (.ref h.length), none, none, none]) (h1 := h ++ [.lst (os.map optP)]) (by simp [use__law_owners k])).trans ?_
        refine (seq_nx (s1 := [some (.tup ws), some (.ref h.length), some (.ref (h.length + 1)), none, none]) (h1 := h ++ [.lst (os.map optP), .dic []]) (by simp)).trans ?_
        refine (seq_nx (s1 := [some (.tup ws), some (.ref h.length), some (.ref (h.length + 1)), z, none]) (h1 := h ++ [.lst (os.map optP), .dic D1, .lst ((openL ws os).map PV.str)]) (by
          rw [for_eq (xs := (openL ws os).map PV.str) (g := some (h.length + 2, .lst ((openL ws os).map PV.str))) (h1 := h ++ [.lst (os.map optP), .dic [], .lst ((openL ws os).map PV.str)]) (by simp [use__law_open k, an1])]
          exact l1)).trans ?_
        refine (seq_nx (s1 := [some (.tup ws), some (.ref h.length), some (.ref (h.length + 1)), z, z4]) (h1 := h ++ [.lst (os.map optP), .dic (dueP ws os), .lst ((openL ws os).map PV.str), .lst ((tksP ws).map fun q => .int (q : Nat))]) (by
          rw [for_eq (xs := (tksP ws).map fun q => .int (q : Nat)) (g := some (h.length + 3, .lst ((tksP ws).map fun q => .int (q : Nat)))) (h1 := h ++ [.lst (os.map optP), .dic D1, .lst ((openL ws os).map PV.str), .lst ((tksP ws).map fun q => .int (q : Nat))]) (by simp [use__law_takes f, an2])]
          exact l2)).trans ?_
        exact ret_val rfl
      obtain ⟨g, e⟩ := e
      rw [e]
      exact gc_newm 1 hc rfl (fun kv hkv => by
        obtain ⟨n, hn⟩ := due_int ws os kv hkv
        rw [hn]; trivial)
    · trivial
  · trivial
end U.K09
end
set_option Elab.async false
set_option linter.all false
set_option maxRecDepth 100000
set_option maxHeartbeats 4000000
noncomputable section
namespace U.K09
open PySem PySem.Spec PyProof.Rows L2 U
/-! _law_named -/
def gD (D : List (PKey × PV)) (q : Nat) : List Nat := match valP D (.inl (q : Nat)) with
  | some (.str x) => x
  | _ => []
def F__law_named : FF := fun as h => match as with
  | [.tup ws, .ref j] => (match h[j]? with
    | some (.dic D) => open Classical in if q : (∃ os, WK ws os) ∧ ∀ q ∈ tksP ws, ∃ x, valP D (.inl (q : Nat)) = some (.str x) then .ok (.tup (renL (gD D) 0 ws q.1.choose)) h else .stuck
    | _ => .stuck)
  | _ => .stuck
theorem use__law_named {ws : List PV} {os : List (Option Nat)} (k : WK ws os) {j : Nat} {D : List (PKey × PV)} {h : Hh} (ej : h[j]? = some (.dic D)) (hD : ∀ q ∈ tksP ws, ∃ x, valP D (.inl (q : Nat)) = some (.str x)) : F__law_named [.tup ws, .ref j] h = .ok (.tup (renL (gD D) 0 ws os)) h := by
  have q : (∃ os, WK ws os) ∧ ∀ q ∈ tksP ws, ∃ x, valP D (.inl (q : Nat)) = some (.str x) := ⟨⟨os, k⟩, hD⟩
  unfold F__law_named
  simp only [ej]
  rw [dif_pos q, k.uniq q.1.choose_spec]
theorem renL_take {g : Nat → List Nat} {ws : List PV} {os : List (Option Nat)} {i : Nat} {w : PV} {o : Option Nat} (h1 : ws[i]? = some w) (h2 : os[i]? = some o) : (renL g 0 ws os).take (i + 1) = (renL g 0 ws os).take i ++ [renW g i w o] := by
  have := renL_get g (p := 0) h1 h2
  rw [List.take_succ, this, Nat.zero_add]
  rfl
theorem gc__law_named (as : List PV) (h : Hh) (hc : clH h) (hv : clVs h.length as) : GcR h (b__law_named F__law_owners (start0 N__law_named as) h) (F__law_named as h) := by
  unfold F__law_named
  split
  · rename_i ws j
    split
    · rename_i D ej
      split
      · rename_i q
        have k := q.1.choose_spec
        have hD := q.2
        generalize q.1.choose = os at k
        have f := k.facts
        have hl := f.len
        have hrl := renL_len (gD D) 0 ws os f.ol
        have e : ∃ g, b__law_named F__law_owners (start0 N__law_named [.tup ws, .ref j]) h = .rt (.tup (renL (gD D) 0 ws os)) (h ++ g) := by
          have lp : ∃ z4 z5, forL (gT (gCons (gN 4) (gCons (gN 5) gNil))) (sIf (tB1 (eIsi sub [.ty "tuple"] (aV (eVar 5)))) (sExpr (eMt .lst mAppend (eVar 3) (aCons (aV (eTup (aCons (aV (e2 fIx (eVar 1) (eVar 4))) (aCons (aV (e2 fIx (eVar 5) (eC (.int 1)))) aNil)))) aNil))) (sExpr (eMt .lst mAppend (eVar 3) (aCons (aV (eIf (tB1 (e2 fIs (e2 fIx (eVar 2) (eVar 4)) (eC .non))) (eVar 5) (e2 fIx (eVar 1) (e2 fIx (eVar 2) (eVar 4))))) aNil)))) none (enumL ws) [some (.tup ws), some (.ref j), some (.ref h.length), some (.ref (h.length + 1)), none, none] (h ++ [.lst (os.map optP), .lst []]) =
              .nx [some (.tup ws), some (.ref j), some (.ref h.length), some (.ref (h.length + 1)), z4, z5] (h ++ [.lst (os.map optP), .lst (renL (gD D) 0 ws os)]) := by
            generalize hr : forL _ _ _ _ _ _ = r
            have L := forI hr (fun i s h' => ∃ z4 z5, s = [some (.tup ws), some (.ref j), some (.ref h.length), some (.ref (h.length + 1)), z4, z5] ∧ h' = h ++ [.lst (os.map optP), .lst ((renL (gD D) 0 ws os).take i)])
              ⟨none, none, rfl, by simp⟩ (fun _ _ _ _ _ => trivial) (by
                rintro i y s h' ey ⟨z4, z5, rfl, rfl⟩
                obtain ⟨w, hw, rfl⟩ := enumL_at ey
                have hil := (List.getElem?_eq_some_iff.mp hw).1
                have hwm := List.mem_of_getElem? hw
                have ho : os[i]? = some (os[i]'(by rw [← f.ol]; exact hil)) := List.getElem?_eq_getElem _
                generalize os[i]'(by rw [← f.ol]; exact hil) = o at ho
                have rt := renL_take (g := gD D) hw ho
                have fo : fIx (.ref h.length) (.int (i : Nat)) (h ++ [.lst (os.map optP), .lst ((renL (gD D) 0 ws os).take i)]) = .ok (optP o) _ := fIx_lst (xs := os.map optP) (by simp) (atI_nat (by simp [ho]))
                have gj : (h ++ [.lst (os.map optP), .lst ((renL (gD D) 0 ws os).take i)])[j]? = some (.dic D) := getO _ ej
                have gd : ∀ q ∈ tksP ws, fIx (.ref j) (.int (q : Nat)) (h ++ [.lst (os.map optP), .lst ((renL (gD D) 0 ws os).take i)]) = .ok (.str (gD D q)) _ := fun q hq => by
                  obtain ⟨x, hx⟩ := hD q hq
                  have : gD D q = x := by unfold gD; rw [hx]
                  rw [this]
                  exact fIx_dic gj rfl hx
                have ma : ∀ u, mAppend (.ref (h.length + 1)) [.val u] (h ++ [.lst (os.map optP), .lst ((renL (gD D) 0 ws os).take i)]) = .ok .non (h ++ [.lst (os.map optP), .lst ((renL (gD D) 0 ws os).take i ++ [u])]) := fun u => by
                  rw [mAppend_at (xs := (renL (gD D) 0 ws os).take i) (by simp) (by simp; omega)]
                  simp
                have oT := dOk_ty (h ++ [.lst (os.map optP), .lst ((renL (gD D) 0 ws os).take i)]) (f.dok w hwm)
                refine has_nx (s1 := [some (.tup ws), some (.ref j), some (.ref h.length), some (.ref (h.length + 1)), some (.int (i : Nat)), some w]) (h1 := h ++ [.lst (os.map optP), .lst ((renL (gD D) 0 ws os).take i)]) (s2 := [some (.tup ws), some (.ref j), some (.ref h.length), some (.ref (h.length + 1)), some (.int (i : Nat)), some w]) (h2 := h ++ [.lst (os.map optP), .lst ((renL (gD D) 0 ws os).take (i + 1))]) ?_ ⟨_, _, rfl, rfl⟩
                rw [rt]
                rcases wordP_cases (f.word w hwm) with rfl | ⟨x, rfl, hx, hn⟩ | ⟨x, kd, rfl, hx, hk, hn⟩
                · cases o with
                  | none => simp [fo, optP, ma, Kd.chk, renW]
                  | some q =>
                    have := f.nm (useP, some q) (by
                      apply List.mem_of_getElem? (i := i)
                      rw [List.getElem?_zip_eq_some]
                      exact ⟨hw, ho⟩) rfl
                    simp [isNm, isUse] at this
                · cases o with
                  | none => simp [fo, optP, ma, Kd.chk, renW]
                  | some q =>
                    have := gd q (f.tk q (List.mem_of_getElem? ho))
                    simp [fo, optP, ma, Kd.chk, renW, this]
                · have hit : i ∈ tksP ws := by
                    unfold tksP
                    rw [List.mem_filter]
                    exact ⟨by simpa using hil, by rw [hw]; rfl⟩
                  have g1 := gd i hit
                  have f1 : ∀ h, fIx (.tup [.str x, kd]) (.int 1) h = .ok kd h := fun h => fIx_tup h rfl
                  simp [g1, f1, ma, Kd.chk, renW])
            obtain ⟨s', h', rfl, z4, z5, rfl, rfl⟩ := L
            refine ⟨z4, z5, ?_⟩
            rw [enumL_len, List.take_of_length_le (by omega)]
          obtain ⟨z4, z5, lp⟩ := lp
          refine ⟨[.lst (os.map optP), .lst (renL (gD D) 0 ws os)], ?_⟩
          refine (seq_nx (s1 := [some (.tup ws), some (.ref j), some (.ref h.length), none, none, none]) (h1 := h ++ [.lst (os.map optP)]) (by simp [use__law_owners k])).trans ?_
          refine (seq_nx (s1 := [some (.tup ws), some (.ref j), some (.ref h.length), some (.ref (h.length + 1)), none, none]) (h1 := h ++ [.lst (os.map optP), .lst []]) (by simp)).trans ?_
          refine (seq_nx (s1 := [some (.tup ws), some (.ref j), some (.ref h.length), some (.ref (h.length + 1)), z4, z5]) (h1 := h ++ [.lst (os.map optP), .lst (renL (gD D) 0 ws os)]) ((for_eq (xs := enumL ws) (g := none) (h1 := h ++ [.lst (os.map optP), .lst []]) (by simp)).trans lp)).trans ?_
          exact ret_val (by simp)
        obtain ⟨g, e⟩ := e
        rw [e]
        refine gc_pure hc (clVs_all.mpr fun x hx => ?_)
        obtain ⟨i, hi⟩ := List.getElem?_of_mem hx
        have hil := (List.getElem?_eq_some_iff.mp hi).1
        rw [hrl] at hil
        have e1 : ws[i]? = some ws[i] := List.getElem?_eq_getElem hil
        have ho : os[i]? = some (os[i]'(by rw [← f.ol]; exact hil)) := List.getElem?_eq_getElem _
        have e3 := renL_get (gD D) (p := 0) e1 ho
        rw [hi] at e3
        injection e3 with e3
        rw [e3]
        have hw := f.word _ (List.getElem_mem hil)
        generalize os[i]'(by rw [← f.ol]; exact hil) = o
        rcases wordP_cases hw with e | ⟨x, e, hx, hn⟩ | ⟨x, kd, e, hx, hk, hn⟩
        · rw [e]; cases o <;> trivial
        · rw [e]; cases o <;> trivial
        · rw [e]; exact ⟨trivial, kind_cl _ _ hk, trivial⟩
      · trivial
    · trivial
  · trivial
/-! _law_standard -/
def Good__law_standard : List PV → Hh → Res PV → Prop := fun as h r => match as with
  | [.tup ws] => ∃ os ws', WK ws os ∧ r = .ok (.tup ws') h ∧ WK ws' os ∧ ∀ k, valP (dueP ws' os) k = valP (dueP ws os) k
  | _ => False
def F__law_standard : FF := specF (b__law_standard F__law_open F__law_takes F__law_named) N__law_standard Good__law_standard
theorem cutP_4 : cutP lets none (some 4) = [97, 98, 99, 100] := by decide +kernel
theorem pairs_of : ∀ (ps : List (Nat × List Nat)), pairsP (ps.map fun p => .tup [.int (p.1 : Nat), .str p.2]) = some (ps.map fun p => ((.inl (p.1 : Nat) : PKey), .str p.2))
  | [] => rfl
  | p :: r => by
    have ih := pairs_of r
    show (match (PV.int (p.1 : Nat)).key?, pairsP (r.map fun p => .tup [.int (p.1 : Nat), .str p.2]) with
      | some k, some r => some ((k, PV.str p.2) :: r)
      | _, _ => none) = _
    rw [ih]
    rfl
/-- the dict of new names -/
theorem new_names {ws : List PV} {os : List (Option Nat)} (k : WK ws os) (hz : ws.length ≤ 60) :
    (tksP ws).length ≤ (freeN (openL ws os)).length ∧ (∀ q ∈ tksP ws, ∃ x, valP (mergeP (((tksP ws).zip (freeN (openL ws os))).map fun p => ((.inl (p.1 : Nat) : PKey), .str p.2))) (.inl (q : Nat)) = some (.str x)) ∧
      WK (renL (gD (mergeP (((tksP ws).zip (freeN (openL ws os))).map fun p => ((.inl (p.1 : Nat) : PKey), .str p.2)))) 0 ws os) os ∧ ∀ kk, valP (dueP (renL (gD (mergeP (((tksP ws).zip (freeN (openL ws os))).map fun p => ((.inl (p.1 : Nat) : PKey), .str p.2)))) 0 ws os) os) kk = valP (dueP ws os) kk := by
  have f := k.facts
  have hol := openL_len ws os
  have hfl := freeN_len (openL ws os)
  have htl : (tksP ws).length ≤ ws.length := by
    unfold tksP
    exact Nat.le_trans (List.length_filter_le _ _) (by simp)
  have htn := tks_nodup ws
  have hfn : (freeN (openL ws os)).Nodup := names130_nd.sublist List.filter_sublist
  have hmem : ∀ x ∈ freeN (openL ws os), nameL x = true ∧ x ∉ openL ws os := fun x hx => by
    unfold freeN at hx
    rw [List.mem_filter] at hx
    exact ⟨names130_ok x hx.1, by simpa using hx.2⟩
  have hle : (tksP ws).length ≤ (freeN (openL ws os)).length := by omega
  generalize hF : freeN (openL ws os) = FN at *
  have hkeys : ((((tksP ws).zip FN).map fun p => ((.inl (p.1 : Nat) : PKey), PV.str p.2)).map (·.1)).Nodup := by
    rw [List.map_map]
    have : ((tksP ws).zip FN).map ((fun x => x.1) ∘ fun p => ((.inl (p.1 : Nat) : PKey), PV.str p.2)) = (((tksP ws).zip FN).map Prod.fst).map fun q : Nat => (.inl (q : Int) : PKey) := by
      rw [List.map_map]; rfl
    rw [this, List.map_fst_zip hle]
    exact nodup_map_of (fun x y e => by injection e with e; omega) htn
  have val : ∀ (i q : Nat) (x : List Nat), (tksP ws)[i]? = some q → FN[i]? = some x → valP (mergeP (((tksP ws).zip FN).map fun p => ((.inl (p.1 : Nat) : PKey), .str p.2))) (.inl (q : Nat)) = some (.str x) := fun i q x h1 h2 => by
    refine merge_val _ _ hkeys ?_
    refine List.mem_map.mpr ⟨(q, x), ?_, rfl⟩
    apply List.mem_of_getElem? (i := i)
    rw [List.getElem?_zip_eq_some]
    exact ⟨h1, h2⟩
  have ex : ∀ q ∈ tksP ws, ∃ i x, (tksP ws)[i]? = some q ∧ FN[i]? = some x := fun q hq => by
    obtain ⟨i, hi⟩ := List.getElem?_of_mem hq
    have := (List.getElem?_eq_some_iff.mp hi).1
    exact ⟨i, _, hi, List.getElem?_eq_getElem (by omega)⟩
  generalize mergeP (((tksP ws).zip FN).map fun p => ((.inl (p.1 : Nat) : PKey), .str p.2)) = D at *
  have gv : ∀ (i q : Nat) (x : List Nat), (tksP ws)[i]? = some q → FN[i]? = some x → gD D q = x := fun i q x h1 h2 => by
    unfold gD
    rw [val i q x h1 h2]
  refine ⟨hle, fun q hq => ?_, ?_, ?_⟩
  · obtain ⟨i, x, h1, h2⟩ := ex q hq
    exact ⟨x, val i q x h1 h2⟩
  · obtain ⟨t, tf, ts, e1, e2⟩ := k
    have tk := tf.ok (by omega)
    have hS : t.tkIn (fun q => q ∈ tksP ws) 0 := Tr.tkIn_of t 0 fun i w hw ht => by
      rw [← e1] at hw
      show 0 + i ∈ tksP ws
      unfold tksP
      rw [List.mem_filter, Nat.zero_add]
      refine ⟨by simpa using (List.getElem?_eq_some_iff.mp hw).1, ?_⟩
      rw [hw]; exact ht
    have hO : t.opIn (fun x => x ∈ openL ws os) 0 [] := Tr.opIn_of t 0 [] tk fun i w hw hn hi => by
      rw [← e1] at hw
      rw [← e2] at hn
      show nmOf w ∈ openL ws os
      rw [mem_openL, ← mem_openN]
      unfold openN
      refine List.mem_map.mpr ⟨(w, none), List.mem_filter.mpr ⟨?_, ?_⟩, rfl⟩
      · apply List.mem_of_getElem? (i := i)
        rw [List.getElem?_zip_eq_some]
        exact ⟨hw, hn⟩
      · unfold isNm at hi
        simpa [opW] using hi
    refine ⟨t.ren (gD D) 0 [], Tr.ren_fine (S := fun q => q ∈ tksP ws) (fun q hq => ?_) t 0 [] (by simp) hS tf, by rw [Tr.ren_sz]; exact ts, ?_, ?_⟩
    · obtain ⟨i, x, h1, h2⟩ := ex q hq
      rw [gv i q x h1 h2]
      exact (hmem x (List.mem_of_getElem? h2)).1
    · rw [Tr.ren_code, ← e1, ← e2]
    · have := Tr.ren_own (g := gD D) (S := fun q => q ∈ tksP ws) (O := fun x => x ∈ openL ws os) (fun q q' hq hq' he => by
        obtain ⟨i, x, h1, h2⟩ := ex q hq
        obtain ⟨i', x', h1', h2'⟩ := ex q' hq'
        rw [gv i q x h1 h2, gv i' q' x' h1' h2'] at he
        subst he
        have := nodup_at hfn h2 h2'
        subst this
        rw [h1] at h1'
        injection h1') (fun x q hx hq => by
        obtain ⟨i, x', h1, h2⟩ := ex q hq
        rw [gv i q x' h1 h2]
        rintro rfl
        exact (hmem x' (List.mem_of_getElem? h2)).2 hx) t 0 [] (by simp) hS hO
      rw [e2]
      exact this.symm
  · exact due_ren (gD D) f.ol f.word f.nm
end U.K09
end
set_option Elab.async false
set_option linter.all false
set_option maxRecDepth 100000
set_option maxHeartbeats 4000000
noncomputable section
namespace U.K09
open PySem PySem.Spec PyProof.Rows L2 U
theorem fList_str {x : List Nat} {h : Hh} (hz : x.length ≤ 16777216) : fList [.val (.str x)] h = .ok (x.map fun c => .str [c]) h := by
  unfold fList
  simp [hz]
theorem fAdd_str {x y : List Nat} {h : Hh} (hz : x.length + y.length ≤ 16777216) : fAdd (.str x) (.str y) h = .ok (.str (x ++ y)) h := by
  unfold fAdd
  exact if_pos hz
theorem fIn_lst {j : Nat} {xs : List (List Nat)} {x : List Nat} {h : Hh} (e : h[j]? = some (.lst (xs.map PV.str))) : fIn true (.str x) (.ref j) h = .ok (.bl (!decide (x ∈ xs))) h := by
  unfold fIn
  simp only [e]
  have hf : (xs.map PV.str).all PV.flat = true := by
    rw [List.all_eq_true]
    intro y hy
    obtain ⟨z, _, rfl⟩ := List.mem_map.mp hy
    rfl
  refine (if_pos ⟨rfl, hf⟩).trans ?_
  have hi : inF (.str x) (xs.map PV.str) = decide (x ∈ xs) := by
    unfold inF
    rw [List.any_map]
    have aux : ∀ r : List (List Nat), r.any ((fun y => y.eqF (PV.str x)) ∘ PV.str) = decide (x ∈ r) := by
      intro r
      induction r with
      | nil => rfl
      | cons w r ih =>
        rw [List.any_cons, ih]
        by_cases q : w = x
        · subst q; simp [PV.eqF]
        · have q' : ¬ x = w := fun e => q e.symm
          simp [PV.eqF, q, q']
    exact aux xs
  rw [hi]
  cases decide (x ∈ xs) <;> rfl
/-- the names of two letters -/
def two (i : Nat) : List (List Nat) := lets.map (fun c => [c]) ++ ([97, 98, 99, 100].take i).flatMap fun a => lets.map fun b => [a, b]
theorem two_4 : two 4 = names130 := rfl
theorem two_step {i a : Nat} (h : [97, 98, 99, 100][i]? = some a) : two (i + 1) = two i ++ lets.map fun b => [a, b] := by
  unfold two
  rw [List.take_succ, h, List.flatMap_append, ← List.append_assoc]
  simp
theorem two_len (i : Nat) : (two i).length ≤ 200 := by
  unfold two
  simp only [List.length_append, List.length_map]
  have h1 : lets.length = 26 := rfl
  have h2 : (([97, 98, 99, 100].take i).flatMap fun a => lets.map fun b => [a, b]).length ≤ 104 := by
    rcases Nat.lt_or_ge i 4 with q | q
    · have : i = 0 ∨ i = 1 ∨ i = 2 ∨ i = 3 := by omega
      rcases this with rfl | rfl | rfl | rfl <;> decide
    · rw [List.take_of_length_le (by simpa using q)]
      decide
  omega
theorem std_loop {ws : List PV} {n : Nat} {g0 : Cell} {h : Hh} (hn : h.length = n) :
    ∃ z, forL (gN 4) (sExpr (eMt .lst mExtend (eVar 3) (aCons (aT (lComp (iAny (eVar 2)) (bN 7) tYesE (e2 fAdd (eVar 4) (eVar 7)) [7])) aNil))) none ([97, 98, 99, 100].map fun c => .str [c]) [some (.tup ws), some (.ref n), some (.str lets), some (.ref (n + 1)), none, none, none, none, none] (h ++ [g0, .lst ((two 0).map PV.str)]) =
      .nx [some (.tup ws), some (.ref n), some (.str lets), some (.ref (n + 1)), z, none, none, none, none] (h ++ [g0, .lst (names130.map PV.str)]) := by
  generalize hr : forL _ _ _ _ _ _ = r
  have L := forI hr (fun i s h' => ∃ z, s = [some (.tup ws), some (.ref n), some (.str lets), some (.ref (n + 1)), z, none, none, none, none] ∧ h' = h ++ [g0, .lst ((two i).map PV.str)])
    ⟨none, rfl, rfl⟩ (fun _ _ _ _ _ => trivial) (by
      rintro i y s h' hy ⟨z, rfl, rfl⟩
      rw [List.getElem?_map] at hy
      obtain ⟨a, ha, rfl⟩ := Option.map_eq_some_iff.mp hy
      have h2 := two_len i
      have hc : compL (bN 7) tYesE (e2 fAdd (eVar 4) (eVar 7)) none [some (.tup ws), some (.ref n), some (.str lets), some (.ref (n + 1)), some (.str [a]), none, none, none, none] (lets.map fun c => .str [c]) [] (h ++ [g0, .lst ((two i).map PV.str)]) = .ok ((lets.map fun b => [a, b]).map PV.str) (h ++ [g0, .lst ((two i).map PV.str)]) := by
        have := compM (b := bN 7) (e := e2 fAdd (eVar 4) (eVar 7)) (g := none) (s := [some (.tup ws), some (.ref n), some (.str lets), some (.ref (n + 1)), some (.str [a]), none, none, none, none]) (xs := lets.map fun c => .str [c]) (h := h ++ [g0, .lst ((two i).map PV.str)]) rfl (fun y => match y with | .str z => .str (a :: z) | _ => .non) trivial (by decide) (by
          intro x hx
          obtain ⟨c, _, rfl⟩ := List.mem_map.mp hx
          refine ⟨_, rfl, ?_⟩
          have fa : ∀ h, fAdd (.str [a]) (.str [c]) h = .ok (.str ([a] ++ [c])) h := fun h => fAdd_str (by simp)
          simp [fa])
        rw [this, List.map_map, List.map_map]
        rfl
      have me := mExtend_tmp (i := n + 1) (xs := (two i).map PV.str) (ys := (lets.map fun b => [a, b]).map PV.str) (h := h ++ [g0, .lst ((two i).map PV.str)]) (by rw [getN hn]; rfl) (by
        have : ((lets.map fun b => [a, b]).map PV.str).length = 26 := by simp [lets]
        rw [this, List.length_map]
        have := size_le 226
        show _ ≤ 16777216
        omega)
      rw [setN hn] at me
      have hk : Kd.chk .lst (.ref (n + 1)) (h ++ [g0, .lst ((two i).map PV.str)]) = true := chk_lst (xs := (two i).map PV.str) (by rw [getN hn]; rfl)
      have lc : lComp (iAny (eVar 2)) (bN 7) tYesE (e2 fAdd (eVar 4) (eVar 7)) [7] [some (.tup ws), some (.ref n), some (.str lets), some (.ref (n + 1)), some (.str [a]), none, none, none, none] (h ++ [g0, .lst ((two i).map PV.str)]) = .ok ((lets.map fun b => [a, b]).map PV.str) (h ++ [g0, .lst ((two i).map PV.str)]) := lcomp_eq (xs := lets.map fun c => .str [c]) (g := none) (by simp) hc
      refine has_nx (s1 := [some (.tup ws), some (.ref n), some (.str lets), some (.ref (n + 1)), some (.str [a]), none, none, none, none]) (h1 := h ++ [g0, .lst ((two i).map PV.str)]) (s2 := [some (.tup ws), some (.ref n), some (.str lets), some (.ref (n + 1)), some (.str [a]), none, none, none, none]) (h2 := h ++ [g0, .lst ((two (i + 1)).map PV.str)]) ?_ ⟨_, rfl, rfl⟩
      rw [two_step ha, List.map_append]
      generalize lComp (iAny (eVar 2)) (bN 7) tYesE (e2 fAdd (eVar 4) (eVar 7)) [7] = m at lc ⊢
      generalize (lets.map fun b => [a, b]).map PV.str = ys at *
      simp at me
      simp [hk, lc, me])
  obtain ⟨s', h', rfl, z, rfl, rfl⟩ := L
  exact ⟨z, by rw [List.length_map]; show SRes.nx _ (h ++ [g0, .lst ((two 4).map PV.str)]) = _; rw [two_4]⟩
theorem use__law_standard {ws : List PV} {os : List (Option Nat)} (k : WK ws os) (hz : ws.length ≤ 60) (h : Hh) : ∃ ws', F__law_standard [.tup ws] h = .ok (.tup ws') h ∧ WK ws' os ∧ ∀ k, valP (dueP ws' os) k = valP (dueP ws os) k := by
  have f := k.facts
  obtain ⟨hle, hval, hk', hdue⟩ := new_names k hz
  generalize hps : ((tksP ws).zip (freeN (openL ws os))) = ps at *
  generalize hD : mergeP (ps.map fun p => ((.inl (p.1 : Nat) : PKey), PV.str p.2)) = D at *
  generalize hW : renL (gD D) 0 ws os = ws' at *
  have eb : ∃ g, b__law_standard F__law_open F__law_takes F__law_named (start0 N__law_standard [.tup ws]) h = .rt (.tup ws') (h ++ g) := by
    obtain ⟨z, lp⟩ := std_loop (ws := ws) (n := h.length) (g0 := .lst ((openL ws os).map PV.str)) (h := h) rfl
    let H2 : Hh := h ++ [.lst ((openL ws os).map PV.str), .lst (names130.map PV.str)]
    let H3 : Hh := h ++ [.lst ((openL ws os).map PV.str), .lst (names130.map PV.str), .lst ((freeN (openL ws os)).map PV.str)]
    let H4 : Hh := h ++ [.lst ((openL ws os).map PV.str), .lst (names130.map PV.str), .lst ((freeN (openL ws os)).map PV.str), .lst ((tksP ws).map fun q => .int (q : Nat))]
    let H5 : Hh := h ++ [.lst ((openL ws os).map PV.str), .lst (names130.map PV.str), .lst ((freeN (openL ws os)).map PV.str), .lst ((tksP ws).map fun q => .int (q : Nat)), .dic D]
    refine ⟨[.lst ((openL ws os).map PV.str), .lst (names130.map PV.str), .lst ((freeN (openL ws os)).map PV.str), .lst ((tksP ws).map fun q => .int (q : Nat)), .dic D], ?_⟩
    refine (seq_nx (s1 := [some (.tup ws), some (.ref h.length), none, none, none, none, none, none, none]) (h1 := h ++ [.lst ((openL ws os).map PV.str)]) (by simp [use__law_open k])).trans ?_
    refine (seq_nx (s1 := [some (.tup ws), some (.ref h.length), some (.str lets), none, none, none, none, none, none]) (h1 := h ++ [.lst ((openL ws os).map PV.str)]) (by simp; rfl)).trans ?_
    have fl := fList_str (x := lets) (h := h ++ [.lst ((openL ws os).map PV.str)]) (by decide)
    refine (seq_nx (s1 := [some (.tup ws), some (.ref h.length), some (.str lets), some (.ref (h.length + 1)), none, none, none, none, none]) (h1 := h ++ [.lst ((openL ws os).map PV.str), .lst ((two 0).map PV.str)]) (by
      have e : eFn fList (aCons (aV (eVar 2)) aNil) [some (.tup ws), some (.ref h.length), some (.str lets), none, none, none, none, none, none] (h ++ [.lst ((openL ws os).map PV.str)]) = .ok (lets.map fun c => .str [c]) (h ++ [.lst ((openL ws os).map PV.str)]) := by
        simpa using fl
      rw [asg_new e]
      have : (two 0).map PV.str = lets.map fun c => .str [c] := by
        unfold two
        simp
      rw [this]
      simp)).trans ?_
    have hfs : ∀ h : Hh, fSl (.str lets) none (some 4) h = .ok (.str [97, 98, 99, 100]) h := fun h => by
      show Res.guard (lets.length ≤ sizeLine) (Res.ok (PV.str (cutP lets none (some 4))) h) = _
      rw [cutP_4]
      exact if_pos (by have := size_le 26; show 26 ≤ sizeLine; omega)
    refine (seq_nx (s1 := [some (.tup ws), some (.ref h.length), some (.str lets), some (.ref (h.length + 1)), z, none, none, none, none]) (h1 := H2) ((for_eq (xs := [97, 98, 99, 100].map fun c => .str [c]) (g := none) (h1 := h ++ [.lst ((openL ws os).map PV.str), .lst ((two 0).map PV.str)]) (by simp [hfs])).trans lp)).trans ?_
    have hc : compL (bN 6) (tB1 (e2 (fIn true) (eVar 6) (eVar 1))) (eVar 6) (some (h.length + 1, .lst (names130.map PV.str))) [some (.tup ws), some (.ref h.length), some (.str lets), some (.ref (h.length + 1)), z, none, none, none, none] (names130.map PV.str) [] H2 = .ok ((freeN (openL ws os)).map PV.str) H2 := by
      have g1 : H2[h.length + 1]? = some (.lst (names130.map PV.str)) := by simp [H2]
      have g0 : H2[h.length]? = some (.lst ((openL ws os).map PV.str)) := by simp [H2]
      have := compP (b := bN 6) (c := tB1 (e2 (fIn true) (eVar 6) (eVar 1))) (e := eVar 6) (g := some (h.length + 1, .lst (names130.map PV.str))) (s := [some (.tup ws), some (.ref h.length), some (.str lets), some (.ref (h.length + 1)), z, none, none, none, none]) (xs := names130.map PV.str) (h := H2) rfl (fun y => match y with | .str x => !decide (x ∈ openL ws os) | _ => false) (fun y => y) g1 (by rw [List.length_map, names130_len]; have := size_le 130; omega) (by
        intro y hy
        obtain ⟨x, _, rfl⟩ := List.mem_map.mp hy
        refine ⟨_, rfl, ?_, fun _ => by simp⟩
        have := fIn_lst (x := x) g0
        simp [this])
      rw [this]
      unfold freeN
      simp [List.filter_map, Function.comp_def]
    have an := anyOf_lst (j := h.length + 1) (xs := names130.map PV.str) (h := H2) (by simp [H2])
    have lc : lComp (iAny (eVar 3)) (bN 6) (tB1 (e2 (fIn true) (eVar 6) (eVar 1))) (eVar 6) [6] [some (.tup ws), some (.ref h.length), some (.str lets), some (.ref (h.length + 1)), z, none, none, none, none] H2 = .ok ((freeN (openL ws os)).map PV.str) H2 := lcomp_eq (xs := names130.map PV.str) (g := some (h.length + 1, .lst (names130.map PV.str))) (by simp [an]) hc
    refine (seq_nx (s1 := [some (.tup ws), some (.ref h.length), some (.str lets), some (.ref (h.length + 2)), z, none, none, none, none]) (h1 := H3) (by
      rw [asg_new lc]
      simp [H2, H3])).trans ?_
    refine (seq_nx (s1 := [some (.tup ws), some (.ref h.length), some (.str lets), some (.ref (h.length + 2)), z, some (.ref (h.length + 3)), none, none, none]) (h1 := H4) (by simp [use__law_takes f, H3, H4])).trans ?_
    have hpl : ps.length = (tksP ws).length := by rw [← hps, List.length_zip, Nat.min_eq_left hle]
    have hpt : ∀ i, i < (tksP ws).length → ∃ q x, (tksP ws)[i]? = some q ∧ (freeN (openL ws os))[i]? = some x ∧ ps[i]? = some (q, x) := fun i hi => by
      obtain ⟨q, hq⟩ : ∃ q, (tksP ws)[i]? = some q := ⟨_, List.getElem?_eq_getElem hi⟩
      obtain ⟨x, hx⟩ : ∃ x, (freeN (openL ws os))[i]? = some x := ⟨_, List.getElem?_eq_getElem (by omega)⟩
      refine ⟨q, x, hq, hx, ?_⟩
      rw [← hps, List.getElem?_zip_eq_some]
      exact ⟨hq, hx⟩
    have htl : (tksP ws).length ≤ ws.length := by
      unfold tksP
      exact Nat.le_trans (List.length_filter_le _ _) (by simp)
    have g3 : H4[h.length + 3]? = some (.lst ((tksP ws).map fun q => .int (q : Nat))) := by simp [H4]
    have g2 : H4[h.length + 2]? = some (.lst ((freeN (openL ws os)).map PV.str)) := by simp [H4]
    have hc2 : compL (bN 8) tYesE (eTup (aCons (aV (e2 fIx (eVar 5) (eVar 8))) (aCons (aV (e2 fIx (eVar 3) (eVar 8))) aNil))) none [some (.tup ws), some (.ref h.length), some (.str lets), some (.ref (h.length + 2)), z, some (.ref (h.length + 3)), none, none, none] (rangeL 0 1 (tksP ws).length) [] H4 = .ok (ps.map fun p => .tup [.int (p.1 : Nat), .str p.2]) H4 := by
      have := compM (b := bN 8) (e := eTup (aCons (aV (e2 fIx (eVar 5) (eVar 8))) (aCons (aV (e2 fIx (eVar 3) (eVar 8))) aNil))) (g := none) (s := [some (.tup ws), some (.ref h.length), some (.str lets), some (.ref (h.length + 2)), z, some (.ref (h.length + 3)), none, none, none]) (xs := rangeL 0 1 (tksP ws).length) (h := H4) rfl (fun y => match y with | .int i => (match ps[i.toNat]? with | some p => .tup [.int (p.1 : Nat), .str p.2] | none => .non) | _ => .non) trivial (by rw [rangeL_len]; have := size_le 60; omega) (by
        intro y hy
        obtain ⟨i, hi0⟩ := List.getElem?_of_mem hy
        obtain ⟨hi, rfl⟩ := rangeL_at hi0
        have e1 : (0 : Int) + (i : Nat) * 1 = (i : Nat) := by omega
        rw [e1]
        obtain ⟨q, x, h1, h2, h3⟩ := hpt i hi
        have f1 : fIx (.ref (h.length + 3)) (.int (i : Nat)) H4 = .ok (.int (q : Nat)) H4 := fIx_lst g3 (atI_nat (by simp [h1]))
        have f2 : fIx (.ref (h.length + 2)) (.int (i : Nat)) H4 = .ok (.str x) H4 := fIx_lst g2 (atI_nat (by simp [h2]))
        refine ⟨_, rfl, ?_⟩
        simp [f1, f2, h3])
      rw [this]
      congr 1
      apply List.ext_getElem?
      intro i
      rw [List.getElem?_map, List.getElem?_map]
      by_cases hi : i < (tksP ws).length
      · obtain ⟨q, x, h1, h2, h3⟩ := hpt i hi
        rw [h3]
        simp [rangeL, hi, h3]
      · rw [List.getElem?_eq_none (by rw [rangeL_len]; omega), List.getElem?_eq_none (by omega)]
        rfl
    have r1 := iR1_ok (m := eFn fLen (aCons (aV (eVar 5)) aNil)) (s := [some (.tup ws), some (.ref h.length), some (.str lets), some (.ref (h.length + 2)), z, some (.ref (h.length + 3)), none, none, none]) (h := H4) (n := (tksP ws).length) (by
      have := fLen_lst g3
      rw [List.length_map] at this
      simp [this]) (by omega)
    have lc2 := lcomp_eq (own := [8]) r1 hc2
    have fd : eFn fDict (aCons (aT (lComp (iR1 (eFn fLen (aCons (aV (eVar 5)) aNil))) (bN 8) tYesE (eTup (aCons (aV (e2 fIx (eVar 5) (eVar 8))) (aCons (aV (e2 fIx (eVar 3) (eVar 8))) aNil))) [8])) aNil) [some (.tup ws), some (.ref h.length), some (.str lets), some (.ref (h.length + 2)), z, some (.ref (h.length + 3)), none, none, none] H4 = .ok (.ref (h.length + 4)) H5 := by
      refine fn_tmp lc2 ?_
      have e : fDict [.tmp (ps.map fun p => .tup [.int (p.1 : Nat), .str p.2])] H4 = .ok (.ref H4.length) (H4 ++ [.dic (mergeP (ps.map fun p => ((.inl (p.1 : Nat) : PKey), PV.str p.2)))]) := by
        unfold fDict
        simp only [seqA_tmp, pairs_of]
      rw [e, hD]
      simp [H4, H5]
    have nm := use__law_named k (j := h.length + 4) (D := D) (h := H5) (by simp [H5]) hval
    rw [hW] at nm
    refine ret_val ?_
    clear lc2 r1 hc2 lc an hc
    generalize eFn fDict (aCons (aT (lComp (iR1 (eFn fLen (aCons (aV (eVar 5)) aNil))) (bN 8) tYesE (eTup (aCons (aV (e2 fIx (eVar 5) (eVar 8))) (aCons (aV (e2 fIx (eVar 3) (eVar 8))) aNil))) [8])) aNil) = m at fd
    show eCall 2 F__law_named (aCons (aV (eVar 0)) (aCons (aV m) aNil)) _ _ = _
    simp [fd, nm]
    rfl
  obtain ⟨g, eb⟩ := eb
  obtain ⟨_, g⟩ := specF_use (m := b__law_standard F__law_open F__law_takes F__law_named) (N := N__law_standard) (Good := Good__law_standard) (as := [.tup ws]) (h := h) ⟨.ok (.tup ws') h, by simp, ⟨os, ws', k, rfl, hk', hdue⟩, fun hc _ => by
    rw [eb]
    obtain ⟨t, tf, _, rfl, _⟩ := hk'
    exact gc_pure hc (code_cl tf)⟩
  obtain ⟨os2, ws2, g1, g2, g3, g4⟩ := g
  have := k.uniq g1
  subst this
  exact ⟨ws2, g2, g3, g4⟩
end U.K09
end
set_option Elab.async false
set_option linter.all false
set_option maxRecDepth 100000
set_option maxHeartbeats 4000000
noncomputable section
namespace U.K09
open PySem PySem.Spec PyProof.Rows L2 U
/-! _law_is -/
def Good__law_is1 : List PV → Hh → Res PV → Prop := fun as h r => match as with
  | [.int a, .int b] => r = .ok (.bl (decide (a = b))) h
  | _ => False
def F__law_is0 : FF := fun _ _ => .stuck
def F__law_is1 : FF := specF (b__law_is F__law_is0) N__law_is Good__law_is1
theorem isi_tl_int (a : Int) (h : Hh) : isiA sub [.ty "tuple", .ty "list"] (.val (.int a)) h = .ok (.bl false) h := by simp [isiA]
theorem isi_d_int (a : Int) (h : Hh) : isiA sub [.ty "dict"] (.val (.int a)) h = .ok (.bl false) h := by simp [isiA]
theorem isi_tl_dic {j : Nat} {kvs : List (PKey × PV)} {h : Hh} (e : h[j]? = some (.dic kvs)) : isiA sub [.ty "tuple", .ty "list"] (.val (.ref j)) h = .ok (.bl false) h := by simp [isiA, tyA_dic e]
theorem isi_d_dic {j : Nat} {kvs : List (PKey × PV)} {h : Hh} (e : h[j]? = some (.dic kvs)) : isiA sub [.ty "dict"] (.val (.ref j)) h = .ok (.bl true) h := by simp [isiA, tyA_dic e]
theorem use__law_is1 (a b : Int) (h : Hh) : F__law_is1 [.int a, .int b] h = .ok (.bl (decide (a = b))) h := by
  have eb : b__law_is F__law_is0 (start0 N__law_is [.int a, .int b]) h = .rt (.bl (decide (a = b))) h := by
    simp [isi_tl_int, isi_d_int]
  obtain ⟨_, g⟩ := specF_use (m := b__law_is F__law_is0) (N := N__law_is) (Good := Good__law_is1) (as := [.int a, .int b]) (h := h) ⟨.ok (.bl (decide (a = b))) h, by simp, rfl, fun hc _ => by
    rw [eb]; exact gc_same⟩
  exact g
abbrev isM : Lv := lLock 1 (lComp (iAny (eVar 1)) (bN 3) tYesE (eCall 2 F__law_is1 (aCons (aV (e2 fIx (eVar 0) (eVar 3))) (aCons (aV (e2 fIx (eVar 1) (eVar 3))) aNil))) [3])
def Good__law_is2 : List PV → Hh → Res PV → Prop := fun as h r => match as with
  | [.ref _, .ref _] => r = .ok (.bl true) h
  | _ => False
def F__law_is2 : FF := specF (b__law_is F__law_is1) N__law_is Good__law_is2
theorem fEqA_dic {i j : Nat} {a b : List (PKey × PV)} {h : Hh} (ei : h[i]? = some (.dic a)) (ej : h[j]? = some (.dic b)) (hl : a.length = b.length) (hv : ∀ kv ∈ a, kv.2.flatB = true ∧ valP b kv.1 = some kv.2) : fEqA (.ref i) (.ref j) h = .ok (.bl true) h := by
  have e0 : eqD h (.ref i) (.ref j) = none := by
    have : dat h (.ref i) = none := by
      show refD h 64 i = none
      unfold refD
      simp only [ei]
    unfold eqD
    rw [this]
  unfold fEqA
  rw [e0]
  unfold fEqK
  simp only [ei, ej]
  refine if_pos ⟨hl, ?_⟩
  rw [List.all_eq_true]
  intro kv hkv
  obtain ⟨h1, h2⟩ := hv kv hkv
  rw [h1, h2]
  simp
theorem keyP_key (k : PKey) : (keyP k).key? = some k := by cases k <;> rfl
theorem use__law_is2 {i j : Nat} {a b : List (PKey × PV)} {h : Hh} (hij : i ≠ j) (ei : h[i]? = some (.dic a)) (ej : h[j]? = some (.dic b)) (ka : KN a) (kb : KN b) (hv : ∀ k, valP a k = valP b k) (hI : ∀ kv ∈ b, ∃ n, kv.2 = .int n) (hz : b.length ≤ 16777216) : F__law_is2 [.ref i, .ref j] h = .ok (.bl true) h := by
  have hab := ka.eq kb hv
  have hI' : ∀ kv ∈ a, ∃ n, kv.2 = .int n := fun kv hkv => hI (kv.1, kv.2) (valP_mem (hab.2 kv hkv))
  have eb : b__law_is F__law_is1 (start0 N__law_is [.ref i, .ref j]) h = .rt (.bl true) h := by
    have fe := fEqA_dic ei ej hab.1 (fun kv hkv => by
      obtain ⟨n, hn⟩ := hI' kv hkv
      exact ⟨by rw [hn]; rfl, hab.2 kv hkv⟩)
    have hjl := (List.getElem?_eq_some_iff.mp ej).1
    have gj : (h.set j (.dif b))[j]? = some (.dif b) := List.getElem?_set_self hjl
    have gi : (h.set j (.dif b))[i]? = some (.dic a) := by rw [List.getElem?_set_ne (Ne.symm hij), ei]
    have an := anyOf_dif gj
    have hc : compL (bN 3) tYesE (eCall 2 F__law_is1 (aCons (aV (e2 fIx (eVar 0) (eVar 3))) (aCons (aV (e2 fIx (eVar 1) (eVar 3))) aNil))) (some (j, .dif b)) [some (.ref i), some (.ref j), none, none] (b.map fun kv => keyP kv.1) [] (h.set j (.dif b)) = .ok ((b.map fun kv => keyP kv.1).map fun _ => .bl true) (h.set j (.dif b)) :=
      compM (b := bN 3) (e := eCall 2 F__law_is1 (aCons (aV (e2 fIx (eVar 0) (eVar 3))) (aCons (aV (e2 fIx (eVar 1) (eVar 3))) aNil))) (g := some (j, .dif b)) (s := [some (.ref i), some (.ref j), none, none]) (xs := b.map fun kv => keyP kv.1) (h := h.set j (.dif b)) rfl (fun _ => .bl true) gj (by simpa using hz) (by
        intro x hx
        obtain ⟨kv, hkv, rfl⟩ := List.mem_map.mp hx
        obtain ⟨n, hn⟩ := hI kv hkv
        have v2 : valP b kv.1 = some (.int n) := by rw [← hn]; exact kb.val hkv
        have v1 : valP a kv.1 = some (.int n) := by rw [hv, v2]
        have f1 : fIx (.ref i) (keyP kv.1) (h.set j (.dif b)) = .ok (.int n) (h.set j (.dif b)) := fIx_dic gi (keyP_key _) v1
        have f2 : fIx (.ref j) (keyP kv.1) (h.set j (.dif b)) = .ok (.int n) (h.set j (.dif b)) := fIx_dif gj (keyP_key _) v2
        refine ⟨_, rfl, ?_⟩
        simp [f1, f2, use__law_is1])
    have lk : lLock 1 (lComp (iAny (eVar 1)) (bN 3) tYesE (eCall 2 F__law_is1 (aCons (aV (e2 fIx (eVar 0) (eVar 3))) (aCons (aV (e2 fIx (eVar 1) (eVar 3))) aNil))) [3]) [some (.ref i), some (.ref j), none, none] h = .ok ((b.map fun kv => keyP kv.1).map fun _ => .bl true) h := by
      have lc : lComp (iAny (eVar 1)) (bN 3) tYesE (eCall 2 F__law_is1 (aCons (aV (e2 fIx (eVar 0) (eVar 3))) (aCons (aV (e2 fIx (eVar 1) (eVar 3))) aNil))) [3] [some (.ref i), some (.ref j), none, none] (h.set j (.dif b)) = .ok ((b.map fun kv => keyP kv.1).map fun _ => .bl true) (h.set j (.dif b)) := lcomp_eq (xs := b.map fun kv : PKey × PV => keyP kv.1) (h1 := h.set j (.dif b)) (g := some (j, .dif b)) (by simp [an]) hc
      generalize lComp (iAny (eVar 1)) (bN 3) tYesE (eCall 2 F__law_is1 (aCons (aV (e2 fIx (eVar 0) (eVar 3))) (aCons (aV (e2 fIx (eVar 1) (eVar 3))) aNil))) [3] = m at lc ⊢
      unfold lLock
      simp only [List.getElem?_cons_succ, List.getElem?_cons_zero, ej, lc, gj, if_true]
      rw [List.set_set, set_same ej]
    have fa : fAll [.tmp ((b.map fun kv => keyP kv.1).map fun _ => .bl true)] h = .ok (.bl true) h := by
      have := fAll_tmp (b.map fun _ => true) h
      rw [List.map_map] at this
      rw [List.map_map]
      have e1 : ((b.map fun _ => true).all id) = true := by
        rw [List.all_eq_true]
        intro x hx
        obtain ⟨_, _, rfl⟩ := List.mem_map.mp hx
        rfl
      rw [e1] at this
      exact this
    show sSeq _ (sSeq (sIf _ (sRet (eAnd _ (eAnd _ (eFn fAll (aCons (aT isM) aNil))))) sNext) _) _ _ = _
    have lk : isM [some (.ref i), some (.ref j), none, none] h = .ok ((b.map fun kv => keyP kv.1).map fun _ => .bl true) h := lk
    generalize isM = m at lk ⊢
    rw [List.map_map] at fa lk
    simp [isi_tl_dic ej, isi_d_dic ej, isi_d_dic ei, fe, lk, fa]
  obtain ⟨_, g⟩ := specF_use (m := b__law_is F__law_is1) (N := N__law_is) (Good := Good__law_is2) (as := [.ref i, .ref j]) (h := h) ⟨.ok (.bl true) h, by simp, rfl, fun hc _ => by
    rw [eb]; exact gc_same⟩
  exact g
/-! law -/
def Good_law : List PV → Hh → Res PV → Prop := fun as h r => match as with
  | [.scr _] => ∃ H, r = .ok (.bl true) H
  | _ => False
def F_law : FF := specF (b_law F__law_hand F__law_known F__law_some_program F_counts F__law_due F__law_is2 F__law_standard) N_law Good_law
abbrev lawB : Sv := (sSeq (sAsg (eCall 2 F__law_known (aCons (aV (eVar 1)) (aCons (aV (eC (.int 3))) aNil))) (gN 3)) (sSeq (sAsg (eCall 3 F__law_some_program (aCons (aV (eVar 1)) (aCons (aV (eVar 3)) (aCons (aV (eC (.int 3))) aNil)))) (gN 4)) (sSeq (sAsg (eCall 1 F_counts (aCons (aV (eVar 4)) aNil)) (gN 5)) (sSeq (sAsg (eCall 1 F__law_due (aCons (aV (eVar 4)) aNil)) (gN 6)) (sSeq (sIf (tNotE (tB1 (eCall 2 F__law_is2 (aCons (aV (eVar 5)) (aCons (aV (eVar 6)) aNil))))) (sRet (eC (.bl false))) sNext) (sSeq (sIf (tB1 (e2 fNe (eFn fSum (aCons (aT (lLock 5 (lComp (iAny (eVar 5)) (bN 7) tYesE (e2 fIx (eVar 5) (eVar 7)) [7]))) aNil)) (eFn fLen (aCons (aT (lComp (iAny (eVar 4)) (bN 8) (tAndE (tB1 (eIsi sub [.ty "str"] (aV (eVar 8)))) (tB1 (e2 fNe (eVar 8) (eC (.str [64]))))) (eVar 8) [8])) aNil)))) (sRet (eC (.bl false))) sNext) (sSeq (sAsg (eC (.int 99)) (gS (eVar 5) (eC (.str [102])))) (sSeq (sExpr (eMt .dic mDClear (eVar 5) aNil)) (sIf (tOrE (tNotE (tB1 (eCall 2 F__law_is2 (aCons (aV (eCall 1 F_counts (aCons (aV (eVar 4)) aNil))) (aCons (aV (eVar 6)) aNil))))) (tNotE (tB1 (eCall 2 F__law_is2 (aCons (aV (eCall 1 F_counts (aCons (aV (eCall 1 F__law_standard (aCons (aV (eVar 4)) aNil))) aNil))) (aCons (aV (eVar 6)) aNil)))))) (sRet (eC (.bl false))) sNext)))))))))
theorem tot_map (D : List (PKey × PV)) (h : AllI D) : (D.map fun kv => kv.2) = ((D.map fun kv => match kv.2 with | .int n => n | _ => 0).map PV.int) := by
  rw [List.map_map]
  apply List.map_congr_left
  intro kv hkv
  obtain ⟨n, hn⟩ := h kv hkv
  simp [hn]
theorem if_ne_same {a b : Ev} {c : Sv} {s : Ev0} {h : Hh} {n : Int} (ea : a s h = .ok (.int n) h) (eb : b s h = .ok (.int n) h) : sIf (tB1 (e2 fNe a b)) c sNext s h = .nx s h := by
  simp [ea, eb]
theorem law_step {i : Nat} {H : Hh} {z0 z2 z3 z4 z5 z6 : Option PV} (a : Hand i H) :
    ∃ y3 y4 y5 y6 H', lawB [z0, some (.ref i), z2, z3, z4, z5, z6, none, none] H = .nx [z0, some (.ref i), z2, y3, y4, y5, y6, none, none] H' ∧ Hand i H' := by
  obtain ⟨kv, H1, q1, d1, hk⟩ := use__law_known a
  have a1 := d1.hand a
  obtain ⟨wv, H2, q2, d2, t, rfl, tf, ts⟩ := use__law_some_program a1 hk
  have a2 := d2.hand a1
  have tok := tf.ok (by omega)
  have K : WK t.code (t.own 0 []) := ⟨t, tf, by omega, rfl, rfl⟩
  generalize hws : t.code = ws at *
  generalize t.own 0 [] = os at *
  have hlen : ws.length ≤ 60 := by rw [← hws, t.len]; exact ts
  have f := K.facts
  have kA := cnt_KN ws os
  have kB := due_KN ws os
  have hv := due_val f.ol f.tk
  have dI := due_int ws os
  have aI : AllI (cntW (cnt0 ws) ws os) := (AllI.cnt0 ws).cntW
  have hab := kA.eq kB hv
  have htot := cntW_tot ws os (cnt0 ws) f.ol (by rw [cnt0_eq]; exact fold_KN _ _ _ .nil) (AllI.cnt0 ws) f.nm
  have ht0 : tot (cnt0 ws) = 0 := by
    have hz : ∀ kv ∈ cnt0 ws, kv.2 = .int 0 := by
      rw [cnt0_eq]
      exact fold_vals _ _ (fun v => v = .int 0) (fun _ => rfl) _ _ (by simp)
    unfold tot
    generalize cnt0 ws = D at hz
    induction D with
    | nil => rfl
    | cons x r ih =>
      rw [List.map_cons, List.sum_cons, ih fun kv hkv => hz kv (List.mem_cons_of_mem _ hkv), hz x List.mem_cons_self]
      rfl
  have hal : (cntW (cnt0 ws) ws os).length ≤ 2000 := by
    have h1 : ∀ (ws : List PV) (os : List (Option Nat)) (D : List (PKey × PV)), (cntW D ws os).length ≤ D.length + ws.length := by
      intro ws
      induction ws with
      | nil => intro os D; cases os <;> simp [cntW]
      | cons w r ih =>
        intro os D
        cases os with
        | nil => simp [cntW]
        | cons o os =>
          have h1 := ih os (stepC D w o)
          have h2 := stepC_len D w o
          simp only [cntW, List.length_cons]
          omega
    have := h1 ws os (cnt0 ws)
    have := cnt0_len ws
    omega
  have hbl : (dueP ws os).length ≤ 16777216 := by rw [← hab.1]; omega
  obtain ⟨ws', e9, K', hdue'⟩ := use__law_standard K hlen (H2 ++ [.dic [], .dic (dueP ws os), .dic (cntW (cnt0 ws) ws os)])
  have f' := K'.facts
  have i1 := use__law_is2 (i := H2.length) (j := H2.length + 1) (h := H2 ++ [.dic (cntW (cnt0 ws) ws os), .dic (dueP ws os)]) (by omega) (by simp) (by simp) kA kB hv dI hbl
  have i2 := use__law_is2 (i := H2.length + 2) (j := H2.length + 1) (h := H2 ++ [.dic [], .dic (dueP ws os), .dic (cntW (cnt0 ws) ws os)]) (by omega) (by simp) (by simp) kA kB hv dI hbl
  have i3 := use__law_is2 (i := H2.length + 3) (j := H2.length + 1) (h := H2 ++ [.dic [], .dic (dueP ws os), .dic (cntW (cnt0 ws) ws os), .dic (cntW (cnt0 ws') ws' os)]) (by omega) (by simp) (by simp) (cnt_KN ws' os) kB (fun k => by rw [due_val f'.ol f'.tk, hdue']) dI hbl
  have c1 := use_counts K H2
  have c2 := use__law_due K (H2 ++ [.dic (cntW (cnt0 ws) ws os)])
  have c3 := use_counts K (H2 ++ [.dic [], .dic (dueP ws os)])
  have c4 := use_counts K' (H2 ++ [.dic [], .dic (dueP ws os), .dic (cntW (cnt0 ws) ws os)])
  have wd := f.word
  have dk := f.dok
  generalize cntW (cnt0 ws') ws' os = A' at *
  generalize cntW (cnt0 ws) ws os = A at *
  generalize dueP ws os = B at *
  -- the sum
  have lkS : lLock 5 (lComp (iAny (eVar 5)) (bN 7) tYesE (e2 fIx (eVar 5) (eVar 7)) [7]) [z0, some (.ref i), z2, some kv, some (.tup ws), some (.ref H2.length), some (.ref (H2.length + 1)), none, none] (H2 ++ [.dic A, .dic B]) = .ok (A.map fun kv => kv.2) (H2 ++ [.dic A, .dic B]) := by
    have gj : (H2 ++ [Cell.dif A, .dic B])[H2.length]? = some (.dif A) := by simp
    have an := anyOf_dif gj
    have hc : compL (bN 7) tYesE (e2 fIx (eVar 5) (eVar 7)) (some (H2.length, .dif A)) [z0, some (.ref i), z2, some kv, some (.tup ws), some (.ref H2.length), some (.ref (H2.length + 1)), none, none] (A.map fun kv => keyP kv.1) [] (H2 ++ [.dif A, .dic B]) = .ok (A.map fun kv => kv.2) (H2 ++ [.dif A, .dic B]) := by
      have := compM (b := bN 7) (e := e2 fIx (eVar 5) (eVar 7)) (g := some (H2.length, .dif A)) (s := [z0, some (.ref i), z2, some kv, some (.tup ws), some (.ref H2.length), some (.ref (H2.length + 1)), none, none]) (xs := A.map fun kv => keyP kv.1) (h := H2 ++ [.dif A, .dic B]) rfl (fun y => match y.key? with | some k => (valP A k).getD .non | none => .non) gj (by rw [List.length_map]; exact (size_le _).mpr (by omega)) (by
        intro x hx
        obtain ⟨p, hp, rfl⟩ := List.mem_map.mp hx
        have v1 := kA.val (show (p.1, p.2) ∈ A from hp)
        have f1 : fIx (.ref H2.length) (keyP p.1) (H2 ++ [.dif A, .dic B]) = .ok p.2 (H2 ++ [.dif A, .dic B]) := fIx_dif gj (keyP_key _) v1
        refine ⟨_, rfl, ?_⟩
        simp [f1, keyP_key, v1])
      rw [this, List.map_map]
      congr 1
      apply List.map_congr_left
      intro p hp
      simp [keyP_key, kA.val (show (p.1, p.2) ∈ A from hp)]
    have lc : lComp (iAny (eVar 5)) (bN 7) tYesE (e2 fIx (eVar 5) (eVar 7)) [7] [z0, some (.ref i), z2, some kv, some (.tup ws), some (.ref H2.length), some (.ref (H2.length + 1)), none, none] (H2 ++ [.dif A, .dic B]) = .ok (A.map fun kv => kv.2) (H2 ++ [.dif A, .dic B]) := lcomp_eq (xs := A.map fun kv : PKey × PV => keyP kv.1) (h1 := H2 ++ [Cell.dif A, Cell.dic B]) (g := some (H2.length, .dif A)) (by simp [an]) hc
    generalize lComp (iAny (eVar 5)) (bN 7) tYesE (e2 fIx (eVar 5) (eVar 7)) [7] = m at lc ⊢
    unfold lLock
    simp [lc]
  have hsum : fSum [.tmp (A.map fun kv => kv.2)] (H2 ++ [.dic A, .dic B]) = .ok (.int (ws.countP isNm : Nat)) (H2 ++ [.dic A, .dic B]) := by
    rw [tot_map A aI, fSum_tmp]
    have : (A.map fun kv => match kv.2 with | .int n => n | _ => 0).sum = tot A := rfl
    rw [this, htot, ht0]
    simp
  -- the names
  have lcN : lComp (iAny (eVar 4)) (bN 8) (tAndE (tB1 (eIsi sub [.ty "str"] (aV (eVar 8)))) (tB1 (e2 fNe (eVar 8) (eC (.str [64]))))) (eVar 8) [8] [z0, some (.ref i), z2, some kv, some (.tup ws), some (.ref H2.length), some (.ref (H2.length + 1)), none, none] (H2 ++ [.dic A, .dic B]) = .ok (ws.filter isNm) (H2 ++ [.dic A, .dic B]) := by
    refine lcomp_eq (xs := ws) (h1 := H2 ++ [.dic A, .dic B]) (g := none) (by simp) ?_
    have := compP (b := bN 8) (c := tAndE (tB1 (eIsi sub [.ty "str"] (aV (eVar 8)))) (tB1 (e2 fNe (eVar 8) (eC (.str [64]))))) (e := eVar 8) (g := none) (s := [z0, some (.ref i), z2, some kv, some (.tup ws), some (.ref H2.length), some (.ref (H2.length + 1)), none, none]) (xs := ws) (h := H2 ++ [.dic A, .dic B]) rfl isNm (fun y => y) trivial ((size_le _).mpr (by omega)) (by
      intro w hw
      have n1 := neUse (dOk_mono (by omega) (dk w hw) : dOk w 64 = true) (H2 ++ [.dic A, .dic B])
      have oT := dOk_ty (H2 ++ [.dic A, .dic B]) (dk w hw)
      refine ⟨_, rfl, ?_, fun _ => by simp⟩
      rcases wordP_cases (wd w hw) with rfl | ⟨x, rfl, hx, hn⟩ | ⟨x, k, rfl, hx, hk, hn⟩
      · simp [n1, isNm, isUse]
      · simp [n1, isNm]
      · simp [isNm, oT])
    rw [show wipeE [z0, some (.ref i), z2, some kv, some (.tup ws), some (.ref H2.length), some (.ref (H2.length + 1)), none, none] [8] = [z0, some (.ref i), z2, some kv, some (.tup ws), some (.ref H2.length), some (.ref (H2.length + 1)), none, none] from rfl, this]
    simp
  have hlenN : fLen [.tmp (ws.filter isNm)] (H2 ++ [.dic A, .dic B]) = .ok (.int (ws.countP isNm : Nat)) (H2 ++ [.dic A, .dic B]) := by
    rw [fLen_tmp, List.countP_eq_length_filter]
  refine ⟨some kv, some (.tup ws), some (.ref H2.length), some (.ref (H2.length + 1)), H2 ++ [.dic [], .dic B, .dic A, .dic A'], ?_, a2.app _⟩
  refine (seq_nx (s1 := [z0, some (.ref i), z2, some kv, z4, z5, z6, none, none]) (h1 := H1) (by simp [q1])).trans ?_
  refine (seq_nx (s1 := [z0, some (.ref i), z2, some kv, some (.tup ws), z5, z6, none, none]) (h1 := H2) (by simp [q2])).trans ?_
  refine (seq_nx (s1 := [z0, some (.ref i), z2, some kv, some (.tup ws), some (.ref H2.length), z6, none, none]) (h1 := H2 ++ [.dic A]) (by simp [c1])).trans ?_
  refine (seq_nx (s1 := [z0, some (.ref i), z2, some kv, some (.tup ws), some (.ref H2.length), some (.ref (H2.length + 1)), none, none]) (h1 := H2 ++ [.dic A, .dic B]) (by simp at c2; simp [c2])).trans ?_
  refine (seq_nx (s1 := [z0, some (.ref i), z2, some kv, some (.tup ws), some (.ref H2.length), some (.ref (H2.length + 1)), none, none]) (h1 := H2 ++ [.dic A, .dic B]) (by simp [i1])).trans ?_
  have s1 := fn_tmp (f := fSum) lkS hsum
  have s2 := fn_tmp (f := fLen) lcN hlenN
  refine (seq_nx (s1 := [z0, some (.ref i), z2, some kv, some (.tup ws), some (.ref H2.length), some (.ref (H2.length + 1)), none, none]) (h1 := H2 ++ [.dic A, .dic B]) (if_ne_same s1 s2)).trans ?_
  have p := fSet_dic (j := H2.length) (u := .str [102]) (v := .int 99) (k := .inr [102]) (kvs := A) (h := H2 ++ [.dic A, .dic B]) (by simp) rfl ((size_lt _).mpr (by omega))
  simp at p
  refine (seq_nx (s1 := [z0, some (.ref i), z2, some kv, some (.tup ws), some (.ref H2.length), some (.ref (H2.length + 1)), none, none]) (h1 := H2 ++ [.dic (putP A (.inr [102]) (.int 99)), .dic B]) (by simp [p])).trans ?_
  refine (seq_nx (s1 := [z0, some (.ref i), z2, some kv, some (.tup ws), some (.ref H2.length), some (.ref (H2.length + 1)), none, none]) (h1 := H2 ++ [.dic [], .dic B]) (by simp [mDClear, Kd.chk])).trans ?_
  simp at c3 c4
  simp [c3, i2, e9, c4, i3]
theorem use_law (ns : List Int) (h : Hh) : ∃ H, F_law [.scr ns] h = .ok (.bl true) H := by
  have eb : ∃ H, b_law F__law_hand F__law_known F__law_some_program F_counts F__law_due F__law_is2 F__law_standard (start0 N_law [.scr ns]) h = .rt (.bl true) H := by
    obtain ⟨v, H0, e0, c, rfl, rfl, ms, rfl⟩ := use__law_hand ns h
    have a0 : Hand (h.length + 1) (h ++ [.lst (ms.map PV.int), hdC h.length 0 0 (1 + ((ns.take 63).length : Nat)) 0]) := ⟨h.length, 0, 0, (1 + ((ns.take 63).length : Nat)), 0, ms, getA h _ 1, getA0 h _, by omega, by omega⟩
    generalize (h ++ [.lst (ms.map PV.int), hdC h.length 0 0 (1 + ((ns.take 63).length : Nat)) 0]) = H0 at *
    have lp : ∃ y2 y3 y4 y5 y6 H', forL (gN 2) lawB none (rangeL 0 1 4) [some (.scr ns), some (.ref (h.length + 1)), none, none, none, none, none, none, none] H0 = .nx [some (.scr ns), some (.ref (h.length + 1)), y2, y3, y4, y5, y6, none, none] H' := by
      generalize hr : forL _ _ _ _ _ _ = r
      have st := @law_step
      generalize lawB = B at st hr
      have L := forI hr (fun k s H => ∃ y2 y3 y4 y5 y6, s = [some (.scr ns), some (.ref (h.length + 1)), y2, y3, y4, y5, y6, none, none] ∧ Hand (h.length + 1) H) ⟨_, _, _, _, _, rfl, a0⟩ (fun _ _ _ _ _ => trivial) (by
        rintro k x s H _ ⟨y2, y3, y4, y5, y6, rfl, a⟩
        obtain ⟨w3, w4, w5, w6, H', e, a'⟩ := st (z0 := some (.scr ns)) (z2 := some x) (z3 := y3) (z4 := y4) (z5 := y5) (z6 := y6) a
        exact has_nx e ⟨_, _, _, _, _, rfl, a'⟩)
      obtain ⟨s', H', rfl, y2, y3, y4, y5, y6, rfl, _⟩ := L
      exact ⟨_, _, _, _, _, _, rfl⟩
    obtain ⟨y2, y3, y4, y5, y6, H', lp⟩ := lp
    refine ⟨H', ?_⟩
    refine (seq_nx (s1 := [some (.scr ns), some (.ref (h.length + 1)), none, none, none, none, none, none, none]) (h1 := H0) (by simp [e0])).trans ?_
    refine (seq_nx (s1 := [some (.scr ns), some (.ref (h.length + 1)), y2, y3, y4, y5, y6, none, none]) (h1 := H') ((for_eq (xs := rangeL 0 1 4) (g := none) (h1 := H0) (iR1_ok (n := 4) rfl (by decide))).trans lp)).trans ?_
    exact ret_val rfl
  obtain ⟨H, eb⟩ := eb
  obtain ⟨_, g⟩ := specF_use (m := b_law F__law_hand F__law_known F__law_some_program F_counts F__law_due F__law_is2 F__law_standard) (N := N_law) (Good := Good_law) (as := [.scr ns]) (h := h) ⟨.ok (.bl true) H, by simp, ⟨H, rfl⟩, fun hc _ => by
    rw [eb]; exact gc_same⟩
  exact g
end U.K09
end
set_option Elab.async false
set_option linter.all false
set_option maxRecDepth 100000
set_option maxHeartbeats 0
noncomputable section
namespace U.K09
open PySem PySem.Spec PyProof.Rows L2 U
def names0 : List PySem.Str := ["CountsError", "NoProgram", "SMALL", "MOST_SIGNS", "is_integer", "is_within", "is_pair", "is_name", "LAST_LETTER", "is_kind_of_any_size", "USE", "is_take", "is_word", "is_whole", "check_program", "ends_of", "takers_of", "is_open_at", "counts_of", "counts", "_law_hand", "_law_draw", "_law_some", "_law_shuffled", "_law_is", "_law_kind", "_law_ends", "_law_known", "_law_some_program", "_law_spans"]
def names1 : List PySem.Str := ["_law_owners", "_law_is_open", "_law_open", "_law_standing", "_law_heads", "_law_fit", "_law_loose", "_law_named", "_law_takes", "_law_standard", "_law_due"]
def names : List PySem.Str := names0 ++ (names1)
def d_is_integer : He.DefD := ⟨("is_integer", none), "is_integer", "is_integer", defArgs s_is_integer, defBody s_is_integer, defScope s_is_integer, [], []⟩
def d_is_within : He.DefD := ⟨("is_within", none), "is_within", "is_within", defArgs s_is_within, defBody s_is_within, defScope s_is_within, [], []⟩
def d_is_pair : He.DefD := ⟨("is_pair", none), "is_pair", "is_pair", defArgs s_is_pair, defBody s_is_pair, defScope s_is_pair, [], []⟩
def d_is_name : He.DefD := ⟨("is_name", none), "is_name", "is_name", defArgs s_is_name, defBody s_is_name, defScope s_is_name, [], []⟩
def d_is_kind_of_any_size : He.DefD := ⟨("is_kind_of_any_size", none), "is_kind_of_any_size", "is_kind_of_any_size", defArgs s_is_kind_of_any_size, defBody s_is_kind_of_any_size, defScope s_is_kind_of_any_size, [], []⟩
def d_is_take : He.DefD := ⟨("is_take", none), "is_take", "is_take", defArgs s_is_take, defBody s_is_take, defScope s_is_take, [], []⟩
def d_is_word : He.DefD := ⟨("is_word", none), "is_word", "is_word", defArgs s_is_word, defBody s_is_word, defScope s_is_word, [], []⟩
def d_is_whole : He.DefD := ⟨("is_whole", none), "is_whole", "is_whole", defArgs s_is_whole, defBody s_is_whole, defScope s_is_whole, [], []⟩
def d_check_program : He.DefD := ⟨("check_program", none), "check_program", "check_program", defArgs s_check_program, defBody s_check_program, defScope s_check_program, [], []⟩
def d_ends_of : He.DefD := ⟨("ends_of", none), "ends_of", "ends_of", defArgs s_ends_of, defBody s_ends_of, defScope s_ends_of, [], []⟩
def d_takers_of : He.DefD := ⟨("takers_of", none), "takers_of", "takers_of", defArgs s_takers_of, defBody s_takers_of, defScope s_takers_of, [], []⟩
def d_is_open_at : He.DefD := ⟨("is_open_at", none), "is_open_at", "is_open_at", defArgs s_is_open_at, defBody s_is_open_at, defScope s_is_open_at, [], []⟩
def d_counts_of : He.DefD := ⟨("counts_of", none), "counts_of", "counts_of", defArgs s_counts_of, defBody s_counts_of, defScope s_counts_of, [], []⟩
def d_counts : He.DefD := ⟨("counts", none), "counts", "counts", defArgs s_counts, defBody s_counts, defScope s_counts, [], []⟩
def d__law_hand : He.DefD := ⟨("_law_hand", none), "_law_hand", "_law_hand", defArgs s__law_hand, defBody s__law_hand, defScope s__law_hand, [], []⟩
def d__law_draw : He.DefD := ⟨("_law_draw", none), "_law_draw", "_law_draw", defArgs s__law_draw, defBody s__law_draw, defScope s__law_draw, [], []⟩
def d__law_some : He.DefD := ⟨("_law_some", none), "_law_some", "_law_some", defArgs s__law_some, defBody s__law_some, defScope s__law_some, [], []⟩
def d__law_shuffled : He.DefD := ⟨("_law_shuffled", none), "_law_shuffled", "_law_shuffled", defArgs s__law_shuffled, defBody s__law_shuffled, defScope s__law_shuffled, [], []⟩
def d__law_is : He.DefD := ⟨("_law_is", none), "_law_is", "_law_is", defArgs s__law_is, defBody s__law_is, defScope s__law_is, [], []⟩
def d__law_kind : He.DefD := ⟨("_law_kind", none), "_law_kind", "_law_kind", defArgs s__law_kind, defBody s__law_kind, defScope s__law_kind, [], []⟩
def d__law_ends : He.DefD := ⟨("_law_ends", none), "_law_ends", "_law_ends", defArgs s__law_ends, defBody s__law_ends, defScope s__law_ends, [], []⟩
def d__law_known : He.DefD := ⟨("_law_known", none), "_law_known", "_law_known", defArgs s__law_known, defBody s__law_known, defScope s__law_known, [], []⟩
def d__law_some_program : He.DefD := ⟨("_law_some_program", none), "_law_some_program", "_law_some_program", defArgs s__law_some_program, defBody s__law_some_program, defScope s__law_some_program, [], []⟩
def d__law_spans : He.DefD := ⟨("_law_spans", none), "_law_spans", "_law_spans", defArgs s__law_spans, defBody s__law_spans, defScope s__law_spans, [], []⟩
def d__law_owners : He.DefD := ⟨("_law_owners", none), "_law_owners", "_law_owners", defArgs s__law_owners, defBody s__law_owners, defScope s__law_owners, [], []⟩
def d__law_is_open : He.DefD := ⟨("_law_is_open", none), "_law_is_open", "_law_is_open", defArgs s__law_is_open, defBody s__law_is_open, defScope s__law_is_open, [], []⟩
def d__law_open : He.DefD := ⟨("_law_open", none), "_law_open", "_law_open", defArgs s__law_open, defBody s__law_open, defScope s__law_open, [], []⟩
def d__law_standing : He.DefD := ⟨("_law_standing", none), "_law_standing", "_law_standing", defArgs s__law_standing, defBody s__law_standing, defScope s__law_standing, [], []⟩
def d__law_heads : He.DefD := ⟨("_law_heads", none), "_law_heads", "_law_heads", defArgs s__law_heads, defBody s__law_heads, defScope s__law_heads, [], []⟩
def d__law_fit : He.DefD := ⟨("_law_fit", none), "_law_fit", "_law_fit", defArgs s__law_fit, defBody s__law_fit, defScope s__law_fit, [], []⟩
def d__law_loose : He.DefD := ⟨("_law_loose", none), "_law_loose", "_law_loose", defArgs s__law_loose, defBody s__law_loose, defScope s__law_loose, [], []⟩
def d__law_named : He.DefD := ⟨("_law_named", none), "_law_named", "_law_named", defArgs s__law_named, defBody s__law_named, defScope s__law_named, [], []⟩
def d__law_takes : He.DefD := ⟨("_law_takes", none), "_law_takes", "_law_takes", defArgs s__law_takes, defBody s__law_takes, defScope s__law_takes, [], []⟩
def d__law_standard : He.DefD := ⟨("_law_standard", none), "_law_standard", "_law_standard", defArgs s__law_standard, defBody s__law_standard, defScope s__law_standard, [], []⟩
def d__law_due : He.DefD := ⟨("_law_due", none), "_law_due", "_law_due", defArgs s__law_due, defBody s__law_due, defScope s__law_due, [], []⟩
def d_law : He.DefD := ⟨("law", none), "law", "law", defArgs s_law, defBody s_law, defScope s_law, [], []⟩
def fn0 : List He.DefD := [d_is_integer, d_is_within, d_is_pair, d_is_name, d_is_kind_of_any_size, d_is_take, d_is_word, d_is_whole, d_check_program, d_ends_of, d_takers_of, d_is_open_at, d_counts_of, d_counts, d__law_hand, d__law_draw, d__law_some, d__law_shuffled, d__law_is, d__law_kind, d__law_ends, d__law_known, d__law_some_program, d__law_spans, d__law_owners, d__law_is_open, d__law_open, d__law_standing, d__law_heads, d__law_fit]
def fn1 : List He.DefD := [d__law_loose, d__law_named, d__law_takes, d__law_standard, d__law_due, d_law]
def fn : List He.DefD := fn0 ++ (fn1)
def fa0 : List He.Fa := [.glo "is_integer", .glo "is_within", .glo "is_pair", .glo "is_name", .glo "is_kind_of_any_size", .glo "is_take", .glo "is_word", .glo "is_whole", .glo "check_program", .glo "ends_of", .glo "takers_of", .glo "is_open_at", .glo "counts_of", .glo "counts", .glo "_law_hand", .glo "_law_draw", .glo "_law_some", .glo "_law_shuffled", .glo "_law_is", .glo "_law_kind", .glo "_law_ends", .glo "_law_known", .glo "_law_some_program", .glo "_law_spans", .glo "_law_owners", .glo "_law_is_open", .glo "_law_open", .glo "_law_standing", .glo "_law_heads", .glo "_law_fit"]
def fa1 : List He.Fa := [.glo "_law_loose", .glo "_law_named", .glo "_law_takes", .glo "_law_standard", .glo "_law_due", .glo "law", .free "abs", .free "all", .free "bool", .free "dict", .free "enumerate", .free "int", .free "isinstance", .free "len", .free "list", .free "max", .free "range", .free "set", .free "sorted", .free "str", .free "sum", .free "tuple", .int "LAST_LETTER" 25, .int "MOST_SIGNS" 8, .str "SMALL" "abcdefghijklmnopqrstuvwxyz", .str "USE" "@"]
def fa : List He.Fa := fa0 ++ (fa1)
abbrev R : PySem.W.OpenRow := PySem.W.OpenLaw.row PySem.Challenge.rw_usecounts_k09_whole_counts_of_names
abbrev hk : PySem.W.Hook := He.hookD 4 fa fn
def ob (s : PySem.W.SharedT) : He.AlD := He.obsDG 4 fa fn (HandSHeadRun.getT s)
theorem ob_eq (s : PySem.W.SharedT) : ob s = hk.obs s.abs := He.obsDG_eq (HandSHeadRun.getT_eq s)
theorem run (w : World) : HandSHeadRun.RunEq R (PySem.W.view R.prog [46]) hk ob 60000 names w := by
  intro os
  kernel_rfl
end U.K09
end
set_option Elab.async false
set_option linter.all false
set_option maxRecDepth 100000
set_option maxHeartbeats 0
noncomputable section
namespace U.K09
open PySem PySem.Spec PyProof.Rows L2 U
theorem fnI_stuck {P : Program} {w : World} {K : PySem.W.Frag} {mg : Str → Option Value} {base : Heap} {x qual : Str} {params : Arguments} {body : List Stmt} {scope : Scope} {f : Addr} {fd : FuncData} {ps : List Str} {k n : Nat}
    (D : FunD K x qual params body scope [] [] f fd) (hm : mg x = some (.ref f)) (hn : ps.length = n)
    (bd : ∀ (kV doc pm : Value) (an : Option Addr) (cdv ct : Value) (us : List Value), us.length = ps.length → bindArgs (PySem.W.fnOf x qual params body scope .none kV doc pm an cdv ct) ⟨us, []⟩ = pure (ps.zip us)) : FnI P w K mg base x n k (fun _ _ => .stuck) := by
  subst hn
  exact ⟨f, fd, ps, rfl, hm, D.kp, D.bindsN bd, ⟨fun vs H Q E q => q.1, fun A outer s H args us vs Q E hr he hb hv hs => by
    obtain ⟨_, w, h, as, _, _, _, p⟩ := hs
    exact p.elim⟩⟩
def CXe : CXT := fun _ _ _ E _ _ => ∃ cls d H', E cls d H'
theorem ok_e {P : Program} {w : World} {K : PySem.W.Frag} {mg : Str → Option Value} {base : Heap} {k : Nat} {f : Addr} {fd : FuncData} {ps : List Str} {sp : Sp} (F : FnOk P w K mg base (L2.CX P w) k f fd ps sp) : FnOk P w K mg base CXe k f fd ps sp :=
  ⟨F.len, fun A outer s H args us vs Q E hr he hb hv hs => codeAny_mono (F.run A outer s H args us vs Q E hr he hb hv hs) fun r s' h => by
    cases r with
    | ok f => cases f <;> exact h
    | error e =>
      obtain ⟨a, B, H', cls, d, _, _, _, _, _, _, _, hE⟩ := h
      exact ⟨cls, d, H', hE⟩⟩
theorem sqF_of {K : PySem.W.Frag} {H : Hp} {a : Addr} {vs : List V} (hO : Only H) (h : SqL K H a vs) : SqF K H a vs := by
  rcases h with (h | h) | h
  · rcases hO a with q | ⟨o, xs, q⟩
    · rw [q] at h; cases h
    · rw [q] at h; cases h
  · exact .inl h
  · exact .inr h
structure Hd (K : PySem.W.Frag) (mg : Str → Option Value) : Prop where
  g : G K mg
  d_is_integer : ∃ f fd, FunD K "is_integer" "is_integer" (defArgs s_is_integer) (defBody s_is_integer) (defScope s_is_integer) [] [] f fd ∧ mg "is_integer" = some (.ref f)
  d_is_within : ∃ f fd, FunD K "is_within" "is_within" (defArgs s_is_within) (defBody s_is_within) (defScope s_is_within) [] [] f fd ∧ mg "is_within" = some (.ref f)
  d_is_pair : ∃ f fd, FunD K "is_pair" "is_pair" (defArgs s_is_pair) (defBody s_is_pair) (defScope s_is_pair) [] [] f fd ∧ mg "is_pair" = some (.ref f)
  d_is_name : ∃ f fd, FunD K "is_name" "is_name" (defArgs s_is_name) (defBody s_is_name) (defScope s_is_name) [] [] f fd ∧ mg "is_name" = some (.ref f)
  d_is_kind_of_any_size : ∃ f fd, FunD K "is_kind_of_any_size" "is_kind_of_any_size" (defArgs s_is_kind_of_any_size) (defBody s_is_kind_of_any_size) (defScope s_is_kind_of_any_size) [] [] f fd ∧ mg "is_kind_of_any_size" = some (.ref f)
  d_is_take : ∃ f fd, FunD K "is_take" "is_take" (defArgs s_is_take) (defBody s_is_take) (defScope s_is_take) [] [] f fd ∧ mg "is_take" = some (.ref f)
  d_is_word : ∃ f fd, FunD K "is_word" "is_word" (defArgs s_is_word) (defBody s_is_word) (defScope s_is_word) [] [] f fd ∧ mg "is_word" = some (.ref f)
  d_is_whole : ∃ f fd, FunD K "is_whole" "is_whole" (defArgs s_is_whole) (defBody s_is_whole) (defScope s_is_whole) [] [] f fd ∧ mg "is_whole" = some (.ref f)
  d_check_program : ∃ f fd, FunD K "check_program" "check_program" (defArgs s_check_program) (defBody s_check_program) (defScope s_check_program) [] [] f fd ∧ mg "check_program" = some (.ref f)
  d_ends_of : ∃ f fd, FunD K "ends_of" "ends_of" (defArgs s_ends_of) (defBody s_ends_of) (defScope s_ends_of) [] [] f fd ∧ mg "ends_of" = some (.ref f)
  d_takers_of : ∃ f fd, FunD K "takers_of" "takers_of" (defArgs s_takers_of) (defBody s_takers_of) (defScope s_takers_of) [] [] f fd ∧ mg "takers_of" = some (.ref f)
  d_is_open_at : ∃ f fd, FunD K "is_open_at" "is_open_at" (defArgs s_is_open_at) (defBody s_is_open_at) (defScope s_is_open_at) [] [] f fd ∧ mg "is_open_at" = some (.ref f)
  d_counts_of : ∃ f fd, FunD K "counts_of" "counts_of" (defArgs s_counts_of) (defBody s_counts_of) (defScope s_counts_of) [] [] f fd ∧ mg "counts_of" = some (.ref f)
  d_counts : ∃ f fd, FunD K "counts" "counts" (defArgs s_counts) (defBody s_counts) (defScope s_counts) [] [] f fd ∧ mg "counts" = some (.ref f)
  d__law_hand : ∃ f fd, FunD K "_law_hand" "_law_hand" (defArgs s__law_hand) (defBody s__law_hand) (defScope s__law_hand) [] [] f fd ∧ mg "_law_hand" = some (.ref f)
  d__law_draw : ∃ f fd, FunD K "_law_draw" "_law_draw" (defArgs s__law_draw) (defBody s__law_draw) (defScope s__law_draw) [] [] f fd ∧ mg "_law_draw" = some (.ref f)
  d__law_some : ∃ f fd, FunD K "_law_some" "_law_some" (defArgs s__law_some) (defBody s__law_some) (defScope s__law_some) [] [] f fd ∧ mg "_law_some" = some (.ref f)
  d__law_shuffled : ∃ f fd, FunD K "_law_shuffled" "_law_shuffled" (defArgs s__law_shuffled) (defBody s__law_shuffled) (defScope s__law_shuffled) [] [] f fd ∧ mg "_law_shuffled" = some (.ref f)
  d__law_is : ∃ f fd, FunD K "_law_is" "_law_is" (defArgs s__law_is) (defBody s__law_is) (defScope s__law_is) [] [] f fd ∧ mg "_law_is" = some (.ref f)
  d__law_kind : ∃ f fd, FunD K "_law_kind" "_law_kind" (defArgs s__law_kind) (defBody s__law_kind) (defScope s__law_kind) [] [] f fd ∧ mg "_law_kind" = some (.ref f)
  d__law_ends : ∃ f fd, FunD K "_law_ends" "_law_ends" (defArgs s__law_ends) (defBody s__law_ends) (defScope s__law_ends) [] [] f fd ∧ mg "_law_ends" = some (.ref f)
  d__law_known : ∃ f fd, FunD K "_law_known" "_law_known" (defArgs s__law_known) (defBody s__law_known) (defScope s__law_known) [] [] f fd ∧ mg "_law_known" = some (.ref f)
  d__law_some_program : ∃ f fd, FunD K "_law_some_program" "_law_some_program" (defArgs s__law_some_program) (defBody s__law_some_program) (defScope s__law_some_program) [] [] f fd ∧ mg "_law_some_program" = some (.ref f)
  d__law_spans : ∃ f fd, FunD K "_law_spans" "_law_spans" (defArgs s__law_spans) (defBody s__law_spans) (defScope s__law_spans) [] [] f fd ∧ mg "_law_spans" = some (.ref f)
  d__law_owners : ∃ f fd, FunD K "_law_owners" "_law_owners" (defArgs s__law_owners) (defBody s__law_owners) (defScope s__law_owners) [] [] f fd ∧ mg "_law_owners" = some (.ref f)
  d__law_is_open : ∃ f fd, FunD K "_law_is_open" "_law_is_open" (defArgs s__law_is_open) (defBody s__law_is_open) (defScope s__law_is_open) [] [] f fd ∧ mg "_law_is_open" = some (.ref f)
  d__law_open : ∃ f fd, FunD K "_law_open" "_law_open" (defArgs s__law_open) (defBody s__law_open) (defScope s__law_open) [] [] f fd ∧ mg "_law_open" = some (.ref f)
  d__law_standing : ∃ f fd, FunD K "_law_standing" "_law_standing" (defArgs s__law_standing) (defBody s__law_standing) (defScope s__law_standing) [] [] f fd ∧ mg "_law_standing" = some (.ref f)
  d__law_heads : ∃ f fd, FunD K "_law_heads" "_law_heads" (defArgs s__law_heads) (defBody s__law_heads) (defScope s__law_heads) [] [] f fd ∧ mg "_law_heads" = some (.ref f)
  d__law_fit : ∃ f fd, FunD K "_law_fit" "_law_fit" (defArgs s__law_fit) (defBody s__law_fit) (defScope s__law_fit) [] [] f fd ∧ mg "_law_fit" = some (.ref f)
  d__law_loose : ∃ f fd, FunD K "_law_loose" "_law_loose" (defArgs s__law_loose) (defBody s__law_loose) (defScope s__law_loose) [] [] f fd ∧ mg "_law_loose" = some (.ref f)
  d__law_named : ∃ f fd, FunD K "_law_named" "_law_named" (defArgs s__law_named) (defBody s__law_named) (defScope s__law_named) [] [] f fd ∧ mg "_law_named" = some (.ref f)
  d__law_takes : ∃ f fd, FunD K "_law_takes" "_law_takes" (defArgs s__law_takes) (defBody s__law_takes) (defScope s__law_takes) [] [] f fd ∧ mg "_law_takes" = some (.ref f)
  d__law_standard : ∃ f fd, FunD K "_law_standard" "_law_standard" (defArgs s__law_standard) (defBody s__law_standard) (defScope s__law_standard) [] [] f fd ∧ mg "_law_standard" = some (.ref f)
  d__law_due : ∃ f fd, FunD K "_law_due" "_law_due" (defArgs s__law_due) (defBody s__law_due) (defScope s__law_due) [] [] f fd ∧ mg "_law_due" = some (.ref f)
  d_law : ∃ f fd, FunD K "law" "law" (defArgs s_law) (defBody s_law) (defScope s_law) [] [] f fd ∧ mg "law" = some (.ref f)
variable {P : Program} {w : World} {K : PySem.W.Frag} {mg : Str → Option Value} {base : Heap}
theorem i_is_integer (c : Hd K mg) : FnI P w K mg base "is_integer" 1 1 F_is_integer := by
  obtain ⟨f, fd, D, hm⟩ := c.d_is_integer
  exact fn_simI (k := 0) D hm sc_is_integer rfl (sim_is_integer c.g ) (fun _ _ _ _ _ _ us hl => match us, hl with | [_], _ => rfl) (fun as h hc hv _ => gc_is_integer as h hc hv)
theorem i_is_within (c : Hd K mg) : FnI P w K mg base "is_within" 3 2 F_is_within := by
  obtain ⟨f, fd, D, hm⟩ := c.d_is_within
  exact fn_simI (k := 1) D hm sc_is_within rfl (sim_is_within c.g ((i_is_integer c).mono (by omega))) (fun _ _ _ _ _ _ us hl => match us, hl with | [_, _, _], _ => rfl) (fun as h hc hv _ => gc_is_within as h hc hv)
theorem i_is_pair (c : Hd K mg) : FnI P w K mg base "is_pair" 1 1 F_is_pair := by
  obtain ⟨f, fd, D, hm⟩ := c.d_is_pair
  exact fn_simI (k := 0) D hm sc_is_pair rfl (sim_is_pair c.g ) (fun _ _ _ _ _ _ us hl => match us, hl with | [_], _ => rfl) (fun as h hc hv _ => gc_is_pair as h hc hv)
theorem i_is_name (c : Hd K mg) : FnI P w K mg base "is_name" 1 1 F_is_name := by
  obtain ⟨f, fd, D, hm⟩ := c.d_is_name
  exact fn_simI (k := 0) D hm sc_is_name rfl (sim_is_name c.g ) (fun _ _ _ _ _ _ us hl => match us, hl with | [_], _ => rfl) (fun as h hc hv _ => gc_is_name as h hc hv)
theorem i_is_kind_of_any_size (c : Hd K mg) : FnI P w K mg base "is_kind_of_any_size" 1 3 F_is_kind_of_any_size := by
  obtain ⟨f, fd, D, hm⟩ := c.d_is_kind_of_any_size
  exact fn_simI (k := 2) D hm sc_is_kind_of_any_size rfl (sim_is_kind_of_any_size c.g ((i_is_pair c).mono (by omega)) ((i_is_within c).mono (by omega))) (fun _ _ _ _ _ _ us hl => match us, hl with | [_], _ => rfl) (fun as h hc hv _ => gc_is_kind_of_any_size as h hc hv)
theorem i_is_take (c : Hd K mg) : FnI P w K mg base "is_take" 1 1 F_is_take := by
  obtain ⟨f, fd, D, hm⟩ := c.d_is_take
  exact fn_simI (k := 0) D hm sc_is_take rfl (sim_is_take c.g ) (fun _ _ _ _ _ _ us hl => match us, hl with | [_], _ => rfl) (fun as h hc hv _ => gc_is_take as h hc hv)
theorem i_is_word (c : Hd K mg) : FnI P w K mg base "is_word" 1 4 F_is_word := by
  obtain ⟨f, fd, D, hm⟩ := c.d_is_word
  exact fn_simI (k := 3) D hm sc_is_word rfl (sim_is_word c.g ((i_is_pair c).mono (by omega)) ((i_is_name c).mono (by omega)) ((i_is_kind_of_any_size c).mono (by omega))) (fun _ _ _ _ _ _ us hl => match us, hl with | [_], _ => rfl) (fun as h hc hv _ => gc_is_word as h hc hv)
theorem i_is_whole (c : Hd K mg) : FnI P w K mg base "is_whole" 1 2 F_is_whole := by
  obtain ⟨f, fd, D, hm⟩ := c.d_is_whole
  exact fn_simI (k := 1) D hm sc_is_whole rfl (sim_is_whole c.g ((i_is_take c).mono (by omega))) (fun _ _ _ _ _ _ us hl => match us, hl with | [_], _ => rfl) (fun as h hc hv _ => gc_is_whole as h hc hv)
theorem i_check_program (c : Hd K mg) : FnI P w K mg base "check_program" 1 5 F_check_program := by
  obtain ⟨f, fd, D, hm⟩ := c.d_check_program
  exact fn_simI (k := 4) D hm sc_check_program rfl (sim_check_program c.g ((i_is_word c).mono (by omega)) ((i_is_whole c).mono (by omega))) (fun _ _ _ _ _ _ us hl => match us, hl with | [_], _ => rfl) (fun as h hc hv _ => gc_check_program as h hc hv)
theorem i_ends_of (c : Hd K mg) : FnI P w K mg base "ends_of" 1 2 F_ends_of := by
  obtain ⟨f, fd, D, hm⟩ := c.d_ends_of
  exact fn_simI (k := 1) D hm sc_ends_of rfl (sim_ends_of c.g ((i_is_take c).mono (by omega))) (fun _ _ _ _ _ _ us hl => match us, hl with | [_], _ => rfl) (fun as h hc hv _ => gc_ends_of as h hc hv)
theorem i_takers_of (c : Hd K mg) : FnI P w K mg base "takers_of" 1 3 F_takers_of := by
  obtain ⟨f, fd, D, hm⟩ := c.d_takers_of
  exact fn_simI (k := 2) D hm sc_takers_of rfl (sim_takers_of c.g ((i_ends_of c).mono (by omega)) ((i_is_take c).mono (by omega))) (fun _ _ _ _ _ _ us hl => match us, hl with | [_], _ => rfl) (fun as h hc hv _ => gc_takers_of as h hc hv)
theorem i_is_open_at (c : Hd K mg) : FnI P w K mg base "is_open_at" 3 2 F_is_open_at := by
  obtain ⟨f, fd, D, hm⟩ := c.d_is_open_at
  exact fn_simI (k := 1) D hm sc_is_open_at rfl (sim_is_open_at c.g ((i_is_take c).mono (by omega))) (fun _ _ _ _ _ _ us hl => match us, hl with | [_, _, _], _ => rfl) (fun as h hc hv _ => gc_is_open_at as h hc hv)
theorem i_counts_of (c : Hd K mg) : FnI P w K mg base "counts_of" 1 4 F_counts_of := by
  obtain ⟨f, fd, D, hm⟩ := c.d_counts_of
  exact fn_simI (k := 3) D hm sc_counts_of rfl (sim_counts_of c.g ((i_takers_of c).mono (by omega)) ((i_is_take c).mono (by omega)) ((i_is_open_at c).mono (by omega))) (fun _ _ _ _ _ _ us hl => match us, hl with | [_], _ => rfl) (fun as h hc hv _ => gc_counts_of as h hc hv)
theorem i_counts (c : Hd K mg) : FnI P w K mg base "counts" 1 6 F_counts := by
  obtain ⟨f, fd, D, hm⟩ := c.d_counts
  exact fn_simI (k := 5) D hm sc_counts rfl (sim_counts c.g ((i_check_program c).mono (by omega)) ((i_counts_of c).mono (by omega))) (fun _ _ _ _ _ _ us hl => match us, hl with | [_], _ => rfl) (fun as h hc hv _ => gc_counts as h hc hv)
theorem i__law_hand (c : Hd K mg) : FnI P w K mg base "_law_hand" 1 1 F__law_hand := by
  obtain ⟨f, fd, D, hm⟩ := c.d__law_hand
  exact fn_simI (k := 0) D hm sc__law_hand rfl (sim__law_hand c.g ) (fun _ _ _ _ _ _ us hl => match us, hl with | [_], _ => rfl) (fun as h hc hv _ => specF_gc hc hv)
theorem i__law_draw (c : Hd K mg) : FnI P w K mg base "_law_draw" 2 1 F__law_draw := by
  obtain ⟨f, fd, D, hm⟩ := c.d__law_draw
  exact fn_simI (k := 0) D hm sc__law_draw rfl (sim__law_draw c.g ) (fun _ _ _ _ _ _ us hl => match us, hl with | [_, _], _ => rfl) (fun as h hc hv _ => specF_gc hc hv)
theorem i__law_some (c : Hd K mg) : FnI P w K mg base "_law_some" 2 2 F__law_some := by
  obtain ⟨f, fd, D, hm⟩ := c.d__law_some
  exact fn_simI (k := 1) D hm sc__law_some rfl (sim__law_some c.g ((i__law_draw c).mono (by omega))) (fun _ _ _ _ _ _ us hl => match us, hl with | [_, _], _ => rfl) (fun as h hc hv _ => specF_gc hc hv)
theorem i__law_shuffled (c : Hd K mg) : FnI P w K mg base "_law_shuffled" 2 2 F__law_shuffled := by
  obtain ⟨f, fd, D, hm⟩ := c.d__law_shuffled
  exact fn_simI (k := 1) D hm sc__law_shuffled rfl (sim__law_shuffled c.g ((i__law_draw c).mono (by omega))) (fun _ _ _ _ _ _ us hl => match us, hl with | [_, _], _ => rfl) (fun as h hc hv _ => specF_gc hc hv)
theorem i__law_is0 (c : Hd K mg) : FnI P w K mg base "_law_is" 2 0 F__law_is0 := by
  obtain ⟨f, fd, D, hm⟩ := c.d__law_is
  exact fnI_stuck (ps := ["_law_told", "_law_due_here"]) D hm rfl (fun _ _ _ _ _ _ us hl => match us, hl with | [_, _], _ => rfl)
theorem i__law_is1 (c : Hd K mg) : FnI P w K mg base "_law_is" 2 1 F__law_is1 := by
  obtain ⟨f, fd, D, hm⟩ := c.d__law_is
  exact fn_simI (k := 0) D hm sc__law_is rfl (sim__law_is c.g (i__law_is0 c)) (fun _ _ _ _ _ _ us hl => match us, hl with | [_, _], _ => rfl) (fun as h hc hv _ => specF_gc hc hv)
theorem i__law_is2 (c : Hd K mg) : FnI P w K mg base "_law_is" 2 2 F__law_is2 := by
  obtain ⟨f, fd, D, hm⟩ := c.d__law_is
  exact fn_simI (k := 1) D hm sc__law_is rfl (sim__law_is c.g (i__law_is1 c)) (fun _ _ _ _ _ _ us hl => match us, hl with | [_, _], _ => rfl) (fun as h hc hv _ => specF_gc hc hv)
theorem i__law_kind (c : Hd K mg) : ∀ n, FnI P w K mg base "_law_kind" 2 (1 + n) (F__law_kind n)
  | 0 => by
    obtain ⟨f, fd, D, hm⟩ := c.d__law_kind
    exact fnI_stuck (ps := ["_law_hand_here", "_law_deep"]) D hm rfl (fun _ _ _ _ _ _ us hl => match us, hl with | [_, _], _ => rfl)
  | n + 1 => by
    have ih := i__law_kind c n
    obtain ⟨f, fd, D, hm⟩ := c.d__law_kind
    exact fn_simI (k := 1 + n) D hm sc__law_kind rfl (sim__law_kind c.g ((i__law_draw c).mono (by omega)) ih) (fun _ _ _ _ _ _ us hl => match us, hl with | [_, _], _ => rfl) (fun as h hc hv _ => specF_gc hc hv)
theorem i__law_ends (c : Hd K mg) : FnI P w K mg base "_law_ends" 1 1 F__law_ends := by
  obtain ⟨f, fd, D, hm⟩ := c.d__law_ends
  exact fn_simI (k := 0) D hm sc__law_ends rfl (sim__law_ends c.g ) (fun _ _ _ _ _ _ us hl => match us, hl with | [_], _ => rfl) (fun as h hc hv _ => gc__law_ends as h hc hv)
theorem i__law_known (c : Hd K mg) : FnI P w K mg base "_law_known" 2 6 F__law_known := by
  obtain ⟨f, fd, D, hm⟩ := c.d__law_known
  exact fn_simI (k := 5) D hm sc__law_known rfl (sim__law_known c.g ((i__law_shuffled c).mono (by omega)) (((i__law_kind c 4)).mono (by omega))) (fun _ _ _ _ _ _ us hl => match us, hl with | [_, _], _ => rfl) (fun as h hc hv _ => specF_gc hc hv)
theorem i__law_loose (c : Hd K mg) : ∀ n, FnI P w K mg base "_law_loose" 3 (5 + n) (F__law_loose n)
  | 0 => by
    obtain ⟨f, fd, D, hm⟩ := c.d__law_loose
    exact fnI_stuck (ps := ["_law_hand_here", "_law_names", "_law_deep"]) D hm rfl (fun _ _ _ _ _ _ us hl => match us, hl with | [_, _, _], _ => rfl)
  | n + 1 => by
    have ih := i__law_loose c n
    obtain ⟨f, fd, D, hm⟩ := c.d__law_loose
    exact fn_simI (k := 5 + n) D hm sc__law_loose rfl (sim__law_loose c.g ((i__law_draw c).mono (by omega)) ((i__law_some c).mono (by omega)) ih (((i__law_kind c 4)).mono (by omega))) (fun _ _ _ _ _ _ us hl => match us, hl with | [_, _, _], _ => rfl) (fun as h hc hv _ => specF_gc hc hv)
theorem i__law_heads (c : Hd K mg) : FnI P w K mg base "_law_heads" 3 2 F__law_heads := by
  obtain ⟨f, fd, D, hm⟩ := c.d__law_heads
  exact fn_simI (k := 1) D hm sc__law_heads rfl (sim__law_heads c.g ((i__law_ends c).mono (by omega))) (fun _ _ _ _ _ _ us hl => match us, hl with | [_, _, _], _ => rfl) (fun as h hc hv _ => specF_gc hc hv)
theorem i__law_fit (c : Hd K mg) : ∀ n, FnI P w K mg base "_law_fit" 4 (5 + n) (F__law_fit n)
  | 0 => by
    obtain ⟨f, fd, D, hm⟩ := c.d__law_fit
    exact fnI_stuck (ps := ["_law_hand_here", "_law_known_here", "_law_kind_here", "_law_deep"]) D hm rfl (fun _ _ _ _ _ _ us hl => match us, hl with | [_, _, _, _], _ => rfl)
  | n + 1 => by
    have ih := i__law_fit c n
    obtain ⟨f, fd, D, hm⟩ := c.d__law_fit
    exact fn_simI (k := 5 + n) D hm sc__law_fit rfl (sim__law_fit c.g ((i__law_ends c).mono (by omega)) ((i__law_some c).mono (by omega)) ((i__law_heads c).mono (by omega)) ih ((i__law_draw c).mono (by omega)) (((i__law_kind c 4)).mono (by omega))) (fun _ _ _ _ _ _ us hl => match us, hl with | [_, _, _, _], _ => rfl) (fun as h hc hv _ => specF_gc hc hv)
theorem i__law_some_program (c : Hd K mg) : FnI P w K mg base "_law_some_program" 3 11 F__law_some_program := by
  obtain ⟨f, fd, D, hm⟩ := c.d__law_some_program
  exact fn_simI (k := 10) D hm sc__law_some_program rfl (sim__law_some_program c.g ((i__law_draw c).mono (by omega)) (((i__law_loose c 5)).mono (by omega)) (((i__law_fit c 5)).mono (by omega)) (((i__law_kind c 4)).mono (by omega))) (fun _ _ _ _ _ _ us hl => match us, hl with | [_, _, _], _ => rfl) (fun as h hc hv _ => specF_gc hc hv)
theorem i__law_spans (c : Hd K mg) : FnI P w K mg base "_law_spans" 1 1 F__law_spans := by
  obtain ⟨f, fd, D, hm⟩ := c.d__law_spans
  exact fn_simI (k := 0) D hm sc__law_spans rfl (sim__law_spans c.g ) (fun _ _ _ _ _ _ us hl => match us, hl with | [_], _ => rfl) (fun as h hc hv _ => gc__law_spans as h hc hv)
theorem i__law_owners (c : Hd K mg) : FnI P w K mg base "_law_owners" 1 2 F__law_owners := by
  obtain ⟨f, fd, D, hm⟩ := c.d__law_owners
  exact fn_simI (k := 1) D hm sc__law_owners rfl (sim__law_owners c.g ((i__law_spans c).mono (by omega))) (fun _ _ _ _ _ _ us hl => match us, hl with | [_], _ => rfl) (fun as h hc hv _ => gc__law_owners as h hc hv)
theorem i__law_is_open (c : Hd K mg) : FnI P w K mg base "_law_is_open" 3 1 F__law_is_open := by
  obtain ⟨f, fd, D, hm⟩ := c.d__law_is_open
  exact fn_simI (k := 0) D hm sc__law_is_open rfl (sim__law_is_open c.g ) (fun _ _ _ _ _ _ us hl => match us, hl with | [_, _, _], _ => rfl) (fun as h hc hv _ => gc__law_is_open as h hc hv)
theorem i__law_open (c : Hd K mg) : FnI P w K mg base "_law_open" 1 3 F__law_open := by
  obtain ⟨f, fd, D, hm⟩ := c.d__law_open
  exact fn_simI (k := 2) D hm sc__law_open rfl (sim__law_open c.g ((i__law_owners c).mono (by omega)) ((i__law_is_open c).mono (by omega))) (fun _ _ _ _ _ _ us hl => match us, hl with | [_], _ => rfl) (fun as h hc hv _ => gc__law_open as h hc hv)
theorem i__law_standing (c : Hd K mg) : FnI P w K mg base "_law_standing" 2 3 F__law_standing := by
  obtain ⟨f, fd, D, hm⟩ := c.d__law_standing
  exact fn_simI (k := 2) D hm sc__law_standing rfl (sim__law_standing c.g ((i__law_owners c).mono (by omega)) ((i__law_is_open c).mono (by omega))) (fun _ _ _ _ _ _ us hl => match us, hl with | [_, _], _ => rfl) (fun as h hc hv _ => gc__law_standing as h hc hv)
theorem i__law_named (c : Hd K mg) : FnI P w K mg base "_law_named" 2 3 F__law_named := by
  obtain ⟨f, fd, D, hm⟩ := c.d__law_named
  exact fn_simI (k := 2) D hm sc__law_named rfl (sim__law_named c.g ((i__law_owners c).mono (by omega))) (fun _ _ _ _ _ _ us hl => match us, hl with | [_, _], _ => rfl) (fun as h hc hv _ => gc__law_named as h hc hv)
theorem i__law_takes (c : Hd K mg) : FnI P w K mg base "_law_takes" 1 1 F__law_takes := by
  obtain ⟨f, fd, D, hm⟩ := c.d__law_takes
  exact fn_simI (k := 0) D hm sc__law_takes rfl (sim__law_takes c.g ) (fun _ _ _ _ _ _ us hl => match us, hl with | [_], _ => rfl) (fun as h hc hv _ => gc__law_takes as h hc hv)
theorem i__law_standard (c : Hd K mg) : FnI P w K mg base "_law_standard" 1 4 F__law_standard := by
  obtain ⟨f, fd, D, hm⟩ := c.d__law_standard
  exact fn_simI (k := 3) D hm sc__law_standard rfl (sim__law_standard c.g ((i__law_open c).mono (by omega)) ((i__law_takes c).mono (by omega)) ((i__law_named c).mono (by omega))) (fun _ _ _ _ _ _ us hl => match us, hl with | [_], _ => rfl) (fun as h hc hv _ => specF_gc hc hv)
theorem i__law_due (c : Hd K mg) : FnI P w K mg base "_law_due" 1 4 F__law_due := by
  obtain ⟨f, fd, D, hm⟩ := c.d__law_due
  exact fn_simI (k := 3) D hm sc__law_due rfl (sim__law_due c.g ((i__law_owners c).mono (by omega)) ((i__law_open c).mono (by omega)) ((i__law_standing c).mono (by omega)) ((i__law_takes c).mono (by omega))) (fun _ _ _ _ _ _ us hl => match us, hl with | [_], _ => rfl) (fun as h hc hv _ => gc__law_due as h hc hv)
theorem i_law (c : Hd K mg) : FnI P w K mg base "law" 1 12 F_law := by
  obtain ⟨f, fd, D, hm⟩ := c.d_law
  exact fn_simI (k := 11) D hm sc_law rfl (sim_law c.g ((i__law_hand c).mono (by omega)) ((i__law_known c).mono (by omega)) ((i__law_some_program c).mono (by omega)) ((i_counts c).mono (by omega)) ((i__law_due c).mono (by omega)) ((i__law_is2 c).mono (by omega)) ((i__law_standard c).mono (by omega))) (fun _ _ _ _ _ _ us hl => match us, hl with | [_], _ => rfl) (fun as h hc hv _ => specF_gc hc hv)
theorem hd {K : PySem.W.Frag} {h : Heap} {mg : Str → Option Value} (X : K.In h) (G : h.Ns mainGlobals mg) (c : He.SaysD fa fn K) : Hd K mg :=
  ⟨⟨(He.free_ok X G (c.fact 36 (f := .free "abs") rfl)), (He.free_ok X G (c.fact 37 (f := .free "all") rfl)), (He.free_ok X G (c.fact 38 (f := .free "bool") rfl)), (He.free_ok X G (c.fact 39 (f := .free "dict") rfl)), (He.free_ok X G (c.fact 40 (f := .free "enumerate") rfl)), (He.free_ok X G (c.fact 41 (f := .free "int") rfl)), (He.free_ok X G (c.fact 42 (f := .free "isinstance") rfl)), (He.free_ok X G (c.fact 43 (f := .free "len") rfl)), (He.free_ok X G (c.fact 44 (f := .free "list") rfl)), (He.free_ok X G (c.fact 45 (f := .free "max") rfl)), (He.free_ok X G (c.fact 46 (f := .free "range") rfl)), (He.free_ok X G (c.fact 47 (f := .free "set") rfl)), (He.free_ok X G (c.fact 48 (f := .free "sorted") rfl)), (He.free_ok X G (c.fact 49 (f := .free "str") rfl)), (He.free_ok X G (c.fact 50 (f := .free "sum") rfl)), (He.free_ok X G (c.fact 51 (f := .free "tuple") rfl)), (He.int_ok X G (c.fact 52 (f := .int "LAST_LETTER" 25) rfl)), (He.int_ok X G (c.fact 53 (f := .int "MOST_SIGNS" 8) rfl)), (He.str_ok X G (c.fact 54 (f := .str "SMALL" "abcdefghijklmnopqrstuvwxyz") rfl)), (He.str_ok X G (c.fact 55 (f := .str "USE" "@") rfl))⟩,
    (by obtain ⟨fd, D⟩ := c.def_ 0 (d := d_is_integer) rfl; exact ⟨_, fd, D, He.glo_ok X G (c.fact 0 (f := .glo "is_integer") rfl)⟩),
    (by obtain ⟨fd, D⟩ := c.def_ 1 (d := d_is_within) rfl; exact ⟨_, fd, D, He.glo_ok X G (c.fact 1 (f := .glo "is_within") rfl)⟩),
    (by obtain ⟨fd, D⟩ := c.def_ 2 (d := d_is_pair) rfl; exact ⟨_, fd, D, He.glo_ok X G (c.fact 2 (f := .glo "is_pair") rfl)⟩),
    (by obtain ⟨fd, D⟩ := c.def_ 3 (d := d_is_name) rfl; exact ⟨_, fd, D, He.glo_ok X G (c.fact 3 (f := .glo "is_name") rfl)⟩),
    (by obtain ⟨fd, D⟩ := c.def_ 4 (d := d_is_kind_of_any_size) rfl; exact ⟨_, fd, D, He.glo_ok X G (c.fact 4 (f := .glo "is_kind_of_any_size") rfl)⟩),
    (by obtain ⟨fd, D⟩ := c.def_ 5 (d := d_is_take) rfl; exact ⟨_, fd, D, He.glo_ok X G (c.fact 5 (f := .glo "is_take") rfl)⟩),
    (by obtain ⟨fd, D⟩ := c.def_ 6 (d := d_is_word) rfl; exact ⟨_, fd, D, He.glo_ok X G (c.fact 6 (f := .glo "is_word") rfl)⟩),
    (by obtain ⟨fd, D⟩ := c.def_ 7 (d := d_is_whole) rfl; exact ⟨_, fd, D, He.glo_ok X G (c.fact 7 (f := .glo "is_whole") rfl)⟩),
    (by obtain ⟨fd, D⟩ := c.def_ 8 (d := d_check_program) rfl; exact ⟨_, fd, D, He.glo_ok X G (c.fact 8 (f := .glo "check_program") rfl)⟩),
    (by obtain ⟨fd, D⟩ := c.def_ 9 (d := d_ends_of) rfl; exact ⟨_, fd, D, He.glo_ok X G (c.fact 9 (f := .glo "ends_of") rfl)⟩),
    (by obtain ⟨fd, D⟩ := c.def_ 10 (d := d_takers_of) rfl; exact ⟨_, fd, D, He.glo_ok X G (c.fact 10 (f := .glo "takers_of") rfl)⟩),
    (by obtain ⟨fd, D⟩ := c.def_ 11 (d := d_is_open_at) rfl; exact ⟨_, fd, D, He.glo_ok X G (c.fact 11 (f := .glo "is_open_at") rfl)⟩),
    (by obtain ⟨fd, D⟩ := c.def_ 12 (d := d_counts_of) rfl; exact ⟨_, fd, D, He.glo_ok X G (c.fact 12 (f := .glo "counts_of") rfl)⟩),
    (by obtain ⟨fd, D⟩ := c.def_ 13 (d := d_counts) rfl; exact ⟨_, fd, D, He.glo_ok X G (c.fact 13 (f := .glo "counts") rfl)⟩),
    (by obtain ⟨fd, D⟩ := c.def_ 14 (d := d__law_hand) rfl; exact ⟨_, fd, D, He.glo_ok X G (c.fact 14 (f := .glo "_law_hand") rfl)⟩),
    (by obtain ⟨fd, D⟩ := c.def_ 15 (d := d__law_draw) rfl; exact ⟨_, fd, D, He.glo_ok X G (c.fact 15 (f := .glo "_law_draw") rfl)⟩),
    (by obtain ⟨fd, D⟩ := c.def_ 16 (d := d__law_some) rfl; exact ⟨_, fd, D, He.glo_ok X G (c.fact 16 (f := .glo "_law_some") rfl)⟩),
    (by obtain ⟨fd, D⟩ := c.def_ 17 (d := d__law_shuffled) rfl; exact ⟨_, fd, D, He.glo_ok X G (c.fact 17 (f := .glo "_law_shuffled") rfl)⟩),
    (by obtain ⟨fd, D⟩ := c.def_ 18 (d := d__law_is) rfl; exact ⟨_, fd, D, He.glo_ok X G (c.fact 18 (f := .glo "_law_is") rfl)⟩),
    (by obtain ⟨fd, D⟩ := c.def_ 19 (d := d__law_kind) rfl; exact ⟨_, fd, D, He.glo_ok X G (c.fact 19 (f := .glo "_law_kind") rfl)⟩),
    (by obtain ⟨fd, D⟩ := c.def_ 20 (d := d__law_ends) rfl; exact ⟨_, fd, D, He.glo_ok X G (c.fact 20 (f := .glo "_law_ends") rfl)⟩),
    (by obtain ⟨fd, D⟩ := c.def_ 21 (d := d__law_known) rfl; exact ⟨_, fd, D, He.glo_ok X G (c.fact 21 (f := .glo "_law_known") rfl)⟩),
    (by obtain ⟨fd, D⟩ := c.def_ 22 (d := d__law_some_program) rfl; exact ⟨_, fd, D, He.glo_ok X G (c.fact 22 (f := .glo "_law_some_program") rfl)⟩),
    (by obtain ⟨fd, D⟩ := c.def_ 23 (d := d__law_spans) rfl; exact ⟨_, fd, D, He.glo_ok X G (c.fact 23 (f := .glo "_law_spans") rfl)⟩),
    (by obtain ⟨fd, D⟩ := c.def_ 24 (d := d__law_owners) rfl; exact ⟨_, fd, D, He.glo_ok X G (c.fact 24 (f := .glo "_law_owners") rfl)⟩),
    (by obtain ⟨fd, D⟩ := c.def_ 25 (d := d__law_is_open) rfl; exact ⟨_, fd, D, He.glo_ok X G (c.fact 25 (f := .glo "_law_is_open") rfl)⟩),
    (by obtain ⟨fd, D⟩ := c.def_ 26 (d := d__law_open) rfl; exact ⟨_, fd, D, He.glo_ok X G (c.fact 26 (f := .glo "_law_open") rfl)⟩),
    (by obtain ⟨fd, D⟩ := c.def_ 27 (d := d__law_standing) rfl; exact ⟨_, fd, D, He.glo_ok X G (c.fact 27 (f := .glo "_law_standing") rfl)⟩),
    (by obtain ⟨fd, D⟩ := c.def_ 28 (d := d__law_heads) rfl; exact ⟨_, fd, D, He.glo_ok X G (c.fact 28 (f := .glo "_law_heads") rfl)⟩),
    (by obtain ⟨fd, D⟩ := c.def_ 29 (d := d__law_fit) rfl; exact ⟨_, fd, D, He.glo_ok X G (c.fact 29 (f := .glo "_law_fit") rfl)⟩),
    (by obtain ⟨fd, D⟩ := c.def_ 30 (d := d__law_loose) rfl; exact ⟨_, fd, D, He.glo_ok X G (c.fact 30 (f := .glo "_law_loose") rfl)⟩),
    (by obtain ⟨fd, D⟩ := c.def_ 31 (d := d__law_named) rfl; exact ⟨_, fd, D, He.glo_ok X G (c.fact 31 (f := .glo "_law_named") rfl)⟩),
    (by obtain ⟨fd, D⟩ := c.def_ 32 (d := d__law_takes) rfl; exact ⟨_, fd, D, He.glo_ok X G (c.fact 32 (f := .glo "_law_takes") rfl)⟩),
    (by obtain ⟨fd, D⟩ := c.def_ 33 (d := d__law_standard) rfl; exact ⟨_, fd, D, He.glo_ok X G (c.fact 33 (f := .glo "_law_standard") rfl)⟩),
    (by obtain ⟨fd, D⟩ := c.def_ 34 (d := d__law_due) rfl; exact ⟨_, fd, D, He.glo_ok X G (c.fact 34 (f := .glo "_law_due") rfl)⟩),
    (by obtain ⟨fd, D⟩ := c.def_ 35 (d := d_law) rfl; exact ⟨_, fd, D, He.glo_ok X G (c.fact 35 (f := .glo "law") rfl)⟩)⟩
theorem facts {P : Program} {w : World} {K : PySem.W.Frag} {h : Heap} {mg : Str → Option Value} {f : Addr} (X : K.In h) (G : h.Ns mainGlobals mg) (hfa : mg ("law" : Str) = some (.ref f)) (c : He.SaysD fa fn K) :
    ∃ fd : FuncData, (∀ (s : Shared) (v : Value), BindsTo s fd ⟨[v], []⟩ [("_law_script", v)]) ∧ ∀ base : Heap, FnOk P w K mg base CXe 12 f fd ["_law_script"] (spF K 1 F_law) := by
  have H := hd X G c
  obtain ⟨fd, D, hm⟩ : ∃ fd, FunD K "law" "law" (defArgs s_law) (defBody s_law) (defScope s_law) [] [] f fd ∧ mg "law" = some (.ref f) := by
    obtain ⟨f', fd, D, hm⟩ := H.d_law
    rw [hfa] at hm
    cases hm
    exact ⟨fd, D, hfa⟩
  have b := FunD.bindsA (ps := ["_law_script"]) D fun _ _ _ _ _ _ us hl => match us, hl with | [_], _ => rfl
  refine ⟨fd, fun s v => b s [v] rfl, fun base => ?_⟩
  have fo := fn_sim (k := 11) (P := P) (w := w) (base := base) (F := F_law) D sc_law (sim_law H.g ((i__law_hand H).mono (by omega)) ((i__law_known H).mono (by omega)) ((i__law_some_program H).mono (by omega)) ((i_counts H).mono (by omega)) ((i__law_due H).mono (by omega)) ((i__law_is2 H).mono (by omega)) ((i__law_standard H).mono (by omega))) (fun as h hc hv _ => specF_gc hc hv)
  exact ok_e fo
theorem law_true (ns : List Int) {K : PySem.W.Frag} (H : Hp) (a : Addr) (hS : SqF K H a (ns.map V.int)) : spF K 1 F_law [.ref a] H (fun v _ => v = .bl true) fun _ _ _ => False := by
  refine ⟨rfl, ⟨0, fun _ => 0, H⟩, [], [.scr ns], rfl, ⟨rfl, fun i c e => by simp at e, fun i j hi => absurd hi (Nat.not_lt_zero _)⟩, ⟨_, _, rfl, ⟨a, rfl, hS⟩, rfl⟩, ?_⟩
  obtain ⟨H', e⟩ := use_law ns []
  rw [e]
  intro w' x _ _ r
  exact r
end U.K09
open PySem PySem.W PySem.Calls PyProof.Rows
theorem PySem.Challenge.cw_usecounts_k09_whole_counts_of_names_holds : PySem.Challenge.rw_usecounts_k09_whole_counts_of_names.Holds := by
  w_on; o_law
  refine HandSHeadRun.head_any (r := OpenLaw.row PySem.Challenge.rw_usecounts_k09_whole_counts_of_names) (q := view (OpenLaw.row PySem.Challenge.rw_usecounts_k09_whole_counts_of_names).prog [46]) (H := U.K09.hk) (ob := U.K09.ob) (M := 60000) (loose := U.K09.names) (d := HandSHeadRun.topDef (OpenLaw.row PySem.Challenge.rw_usecounts_k09_whole_counts_of_names).prog 46) (kwd := []) U.K09.ob_eq
    (by kernel_rfl) (fun s => by kernel_rfl) U.K09.run (by kernel_rfl) (by kernel_rfl) (by kernel_rfl) (by rfl) (by first | assumption | decide +kernel) (by decide +kernel) ⟨rfl, rfl, rfl, rfl, rfl, by decide +kernel⟩ ?hw ?hc
  case hw => w_witness2
  case hc =>
    refine L2.walk_ofE (l := PySem.Challenge.rw_usecounts_k09_whole_counts_of_names) (n := 63) (k := 12) (x := "_law_script") (CX := U.K09.CXe) rfl (by decide) (by kernel_rfl) ⟨rfl, by decide, by decide⟩ ?F (fun _ _ _ _ z => let ⟨_, _, _, h⟩ := z; h)
    intro w mg fa h Y G hmg0
    obtain ⟨K, KX, c⟩ := Y
    have hmg : mg ("law" : PySem.Str) = some (.ref fa) := by
      have e : (HandSHeadRun.topDef (OpenLaw.row PySem.Challenge.rw_usecounts_k09_whole_counts_of_names).prog 46).name = ("law" : PySem.Str) := by kernel_rfl
      rw [← e]
      exact hmg0
    obtain ⟨fd, hb, hF⟩ := U.K09.facts (P := (PySem.Challenge.rw_usecounts_k09_whole_counts_of_names).prog) (w := w) KX G hmg c
    exact ⟨K, fd, U.spF K 1 U.K09.F_law, KX, hb, fun H a ns hl hO hS => U.K09.law_true ns H a (U.K09.sqF_of hO hS), fun base _ _ => hF base⟩
end
