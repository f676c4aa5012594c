import PyProof.Rows.All
import HandS.ForMost
import KE.SortData
import KE.DataCmp
import HandS.TupAny
import HandS.TupLe
import HandS.Style
import HandS.NoneIn
import HandS.Deep
import HandS.IsInst
import HandS.SortInts
import HandS.Replace
import HandS.Walk
import KE.KDictPairs
import HandS.More
import PyProof.MinMaxWalk
import KE.KMinBuiltin
import PyProof.Rows.SetFrom
import PyProof.SetRoads
import PyProof.StrWalks
import HandS.Set
import HandS.Wide
import HandS.TupMul
import PyProof.FString5
import PyProof.ListStr
import PyProof.TupleOfStr
import HandS.Text
import PyProof.ReprRoads
import PyProof.CallFns
import KE.KDictList
import HandS.Strs
import PyProof.ZipIter
import PyProof.EnumMake
import PyProof.Draws
import KE.GoesZip
import HandS.Zip
import KE.KDictZip
import KE.KRevSl
import HandS.SortKw
import HandS.Defaults
import KE.GoesEnum
import KE.GoesMore
import PyProof.WalkInts
import PyProof.SeqI3
import HandS.Small
import HandS.Head0
import HandS.Head1
import HandS.Head2
import HandS.HeadEnd
import HandS.EndBits
import HandS.HeadHook1
import HandS.HeadHook2
import PySem.Challenge.RW_stretchkeep_k36_whole_fewest_of_other_ne
set_option Elab.async false
set_option linter.all false
set_option maxRecDepth 100000
set_option maxHeartbeats 16000000
namespace PyI
/-- unlike things, in the order in which they are met -/
def metF {K : Type} [DecidableEq K] (acc : List K) (x : K) : List K := if x ∈ acc then acc else acc ++ [x]
def met {K : Type} [DecidableEq K] (l : List K) : List K := l.foldl metF []
section
variable {K : Type} [DecidableEq K]
theorem met_snoc (l : List K) (x : K) : met (l ++ [x]) = metF (met l) x := by simp [met, List.foldl_append]
theorem mem_metF {acc : List K} {x k : K} : k ∈ metF acc x ↔ k ∈ acc ∨ k = x := by
  unfold metF
  by_cases h : x ∈ acc
  · rw [if_pos h]
    exact ⟨.inl, fun q => q.elim id fun e => by rw [e]; exact h⟩
  · rw [if_neg h]
    simp
theorem mem_foldF {k : K} : ∀ {l acc : List K}, k ∈ l.foldl metF acc ↔ k ∈ acc ∨ k ∈ l
  | [], acc => by simp
  | x :: l, acc => by
    rw [List.foldl_cons, mem_foldF, mem_metF, List.mem_cons, or_assoc]
theorem mem_met {l : List K} {k : K} : k ∈ met l ↔ k ∈ l := by
  unfold met; rw [mem_foldF]; simp
theorem nd_metF {acc : List K} {x : K} (h : acc.Nodup) : (metF acc x).Nodup := by
  unfold metF
  split
  · exact h
  · rename_i hx
    rw [List.nodup_append]
    exact ⟨h, by simp, fun a ha b hb e => by rw [List.mem_singleton.mp hb] at e; subst e; exact hx ha⟩
theorem nd_foldF : ∀ {l acc : List K}, acc.Nodup → (l.foldl metF acc).Nodup
  | [], _, h => h
  | x :: l, acc, h => by rw [List.foldl_cons]; exact nd_foldF (nd_metF h)
theorem nd_met {l : List K} : (met l).Nodup := nd_foldF .nil
theorem len_metF {acc : List K} {x : K} : (metF acc x).length = if x ∈ acc then acc.length else acc.length + 1 := by
  unfold metF; split <;> simp
theorem len_foldF : ∀ {l acc : List K}, (l.foldl metF acc).length ≤ acc.length + l.length
  | [], _ => by simp
  | x :: l, acc => by
    rw [List.foldl_cons]
    have := len_foldF (l := l) (acc := metF acc x)
    rw [len_metF] at this
    simp only [List.length_cons]
    split at this <;> omega
theorem len_met {l : List K} : (met l).length ≤ l.length := by
  have := len_foldF (l := l) (acc := ([] : List K))
  simpa [met] using this
theorem foldF_nd : ∀ {l acc : List K}, (acc ++ l).Nodup → l.foldl metF acc = acc ++ l
  | [], acc, _ => by simp
  | x :: l, acc, h => by
    have hx : x ∉ acc := fun hm => (List.nodup_append.mp h).2.2 x hm x (by simp) rfl
    have e : acc ++ x :: l = (acc ++ [x]) ++ l := by simp
    rw [List.foldl_cons, show metF acc x = acc ++ [x] from if_neg hx, e]
    rw [e] at h
    exact foldF_nd h
theorem met_nd {l : List K} (h : l.Nodup) : met l = l := by
  have := foldF_nd (l := l) (acc := []) (by simpa using h)
  simpa [met] using this
theorem met_len_iff {l : List K} : (met l).length = l.length ↔ l.Nodup := by
  refine ⟨fun h => ?_, fun h => by rw [met_nd h]⟩
  have key : ∀ (l acc : List K), acc.Nodup → (l.foldl metF acc).length = acc.length + l.length → (acc ++ l).Nodup := by
    intro l
    induction l with
    | nil => intro acc h _; simpa using h
    | cons x l ih =>
      intro acc h hl
      rw [List.foldl_cons] at hl
      have h2 := len_foldF (l := l) (acc := metF acc x)
      have h3 : x ∉ acc := fun hm => by
        rw [len_metF, if_pos hm] at h2
        simp only [List.length_cons] at hl
        omega
      have e : metF acc x = acc ++ [x] := if_neg h3
      have := ih (metF acc x) (nd_metF h) (by rw [hl, e]; simp; omega)
      rw [e] at this
      simpa using this
  have := key l [] .nil (by simpa [met] using h)
  simpa using this
end

theorem met_foldI {K L : Type} [DecidableEq K] [DecidableEq L] (f : K → L) (hf : ∀ a b, f a = f b → a = b) : ∀ (l acc : List K), (l.map f).foldl metF (acc.map f) = (l.foldl metF acc).map f
  | [], acc => rfl
  | x :: l, acc => by
    have : metF (acc.map f) (f x) = (metF acc x).map f := by
      unfold metF
      have e : f x ∈ acc.map f ↔ x ∈ acc := by
        rw [List.mem_map]
        exact ⟨fun ⟨y, hy, h⟩ => by rw [← hf y x h]; exact hy, fun h => ⟨x, h, rfl⟩⟩
      by_cases h : x ∈ acc
      · rw [if_pos (e.mpr h), if_pos h]
      · rw [if_neg (fun q => h (e.mp q)), if_neg h]; simp
    simp only [List.map_cons, List.foldl_cons, this]
    exact met_foldI f hf l (metF acc x)
theorem met_map {K L : Type} [DecidableEq K] [DecidableEq L] (f : K → L) (hf : ∀ a b, f a = f b → a = b) (l : List K) : met (l.map f) = (met l).map f := met_foldI f hf l []
end PyI
namespace PyI
open PySem L2

/-- pure data: lists and dicts by value; a place of the store -/
inductive D where
  | non | bl (b : Bool) | int (i : Int) | str (s : List Nat)
  | tup (ds : List D) | tupw (ds : List D) | lst (ds : List D) | dict (ks vs : List D) | ref (l : Nat) | scr (ns : List Int)
  | dictF (ks vs : List D)
  deriving Inhabited

/-- what stands in the store -/
inductive Cell where
  | lst (ds : List D) | dict (ks vs : List D) | ins (c : Nat) (fs : List (Nat × D)) | gone
  deriving Inhabited
abbrev Store := List Cell

/-- how far a value may be used: frozen data, a new list of nobody's, a list of the frame's own -/
inductive Stt where | fr | fresh | own
  deriving DecidableEq, Inhabited

/-- a slot of a frame -/
inductive Slot where | no | val (d : D) | own (d : D)
  deriving Inhabited
abbrev SEnv := List Slot

def txt (s : List Nat) : Str := ⟨s.toArray⟩
theorem txt_list (s : List Nat) : (txt s).cps.toList = s := by simp [txt]
theorem txt_of (x : Str) : txt x.cps.toList = x := by
  cases x; simp [txt]
theorem txt_inj {a b : List Nat} (h : txt a = txt b) : a = b := by
  have := congrArg (fun x : Str => x.cps.toList) h
  simpa [txt] using this

/-- names of fields, of classes: given from outside by numbers -/
structure Nm where
  fld : Nat → Str
  cls : Nat → Addr
  inj : ∀ x y, fld x = fld y → x = y

/-- a tuple, its object known -/
def SqTP (H : Hp) (a : Addr) (xs : List V) : Prop := ∃ o : Obj, H a = some (.frz o (.tup xs)) ∧ o.cls = .type "tuple" ∧ o.dict = none
theorem SqTP.sq {K : PySem.W.Frag} {H : Hp} {a : Addr} {xs : List V} (h : SqTP H a xs) : SqT K H a xs := by
  obtain ⟨o, h, _⟩ := h
  exact .inl (.inr ⟨o, h⟩)
theorem SqTP.mk' {H : Hp} {a : Addr} {xs : List V} {o : Obj} (h1 : o.cls = .type "tuple") (h2 : o.dict = none) : SqTP (upd H a (.frz o (.tup xs))) a xs := ⟨o, upd_same, h1, h2⟩
section
variable (K : PySem.W.Frag) (M : Nm) (H : Hp) (Z : Addr → Prop) (ι : Nat → Addr) (n : Nat)
/-- the script: known to the object -/
def ScL (a : Addr) (ns : List Int) : Prop :=
  (∃ o, H a = some (.frz o (.lst (ns.map V.int)))) ∨
    ∃ (o : Obj) (its : Array Value) (k : Nat), K.lookup a = some o ∧ o.cls = .type "list" ∧ o.dict = none ∧ o.data = .seq its k ∧ its.size ≤ sizeLine ∧ Vals (ns.map V.int) its.toList
mutual
inductive Rep : V → D → Prop
  | non : Rep .non .non
  | bl (b : Bool) : Rep (.bl b) (.bl b)
  | int (i : Int) : Rep (.int i) (.int i)
  | str (s : List Nat) : Rep (.str (txt s)) (.str s)
  | tup {a : Addr} {xs : List V} {ds : List D} : SqTP H a xs → Reps xs ds → Rep (.ref a) (.tup ds)
  | tupw {a : Addr} {xs : List V} {ds : List D} : SqT K H a xs → Reps xs ds → Rep (.ref a) (.tupw ds)
  | lst {a : Addr} {xs : List V} {ds : List D} : Z a → H a = some (.lst xs) → Reps xs ds → Rep (.ref a) (.lst ds)
  | scr {a : Addr} {ns : List Int} : ScL K H a ns → Rep (.ref a) (.scr ns)
  | dict {a : Addr} {kvs : List (Key × V)} {ks ds : List D} : Z a → H a = some (.dK kvs) → Reps (kvs.map fun p => kV p.1) ks → Reps (kvs.map (·.2)) ds → Rep (.ref a) (.dict ks ds)
  | ref {l : Nat} : l < n → Rep (.ref (ι l)) (.ref l)
  | dictF {a : Addr} {o : Obj} {kvs : List (Key × V)} {ks ds : List D} : H a = some (.frz o (.dK kvs)) → Reps (kvs.map fun p => kV p.1) ks → Reps (kvs.map (·.2)) ds → Rep (.ref a) (.dictF ks ds)
inductive Reps : List V → List D → Prop
  | nil : Reps [] []
  | cons {v : V} {vs : List V} {d : D} {ds : List D} : Rep v d → Reps vs ds → Reps (v :: vs) (d :: ds)
end
/-- a list or dict that may be written -/
def LR (a : Addr) : D → Prop
  | .lst ds => ∃ xs, H a = some (.lst xs) ∧ Reps K H Z ι n xs ds
  | .dict ks ds => ∃ kvs : List (Key × V), H a = some (.dK kvs) ∧ Reps K H Z ι n (kvs.map fun p => kV p.1) ks ∧ Reps K H Z ι n (kvs.map (·.2)) ds
  | _ => False
/-- a list or dict that may be read -/
def LQ (a : Addr) : D → Prop
  | .lst ds => ∃ xs, H a = some (.lst xs) ∧ Reps K H Z ι n xs ds
  | .dict ks ds => ∃ kvs : List (Key × V), Rd H a (.dK kvs) ∧ Reps K H Z ι n (kvs.map fun p => kV p.1) ks ∧ Reps K H Z ι n (kvs.map (·.2)) ds
  | _ => False
/-- what may be read as d -/
def RdV (v : V) (d : D) : Prop := Rep K H Z ι n v d ∨ ∃ a, v = .ref a ∧ LQ K H Z ι n a d
/-- a cell of the store -/
def CR (a : Addr) : Cell → Prop
  | .lst ds => ∃ xs, H a = some (.lst xs) ∧ Reps K H Z ι n xs ds
  | .dict ks ds => ∃ kvs : List (Key × V), H a = some (.dK kvs) ∧ Reps K H Z ι n (kvs.map fun p => kV p.1) ks ∧ Reps K H Z ι n (kvs.map (·.2)) ds
  | .ins c fs => ∃ dx gs, H a = some (.ins (M.cls c) dx gs) ∧ gs.map (·.1) = fs.map (fun p => M.fld p.1) ∧ Reps K H Z ι n (gs.map (·.2)) (fs.map (·.2))
  | .gone => ∃ o, ∃ kvs : List (Key × V), H a = some (.frz o (.dK kvs))
end

/-- the store stands in the heap -/
structure HR (K : PySem.W.Frag) (M : Nm) (H : Hp) (Z : Addr → Prop) (ι : Nat → Addr) (S : Store) : Prop where
  cell : ∀ l c, S[l]? = some c → CR K M H Z ι S.length (ι l) c
  inj : ∀ l l', l < S.length → l' < S.length → ι l = ι l' → l = l'
  nz : ∀ l, l < S.length → ¬ Z (ι l)
  zs : ∀ a, Z a → H a ≠ none

/-- how heaps go on -/
structure Ext (H : Hp) (Z : Addr → Prop) (ι : Nat → Addr) (n : Nat) (H' : Hp) (Z' : Addr → Prop) (ι' : Nat → Addr) (n' : Nat) : Prop where
  le : n ≤ n'
  ag : ∀ l, l < n → ι' l = ι l
  zz : ∀ a, Z a → Z' a
  zn : ∀ a, Z' a → Z a ∨ H a = none
  fn : ∀ l, n ≤ l → l < n' → H (ι' l) = none
  fr : ∀ a o, H a = some o → (∀ l, l < n → ι l ≠ a) → H' a = some o
  al : ∀ a, H a ≠ none → H' a ≠ none
  fz : ∀ a o u, H a = some (.frz o u) → H' a = some (.frz o u)

/-- the status of a value -/
def VR (K : PySem.W.Frag) (H : Hp) (Z : Addr → Prop) (ι : Nat → Addr) (n : Nat) (H0 : Hp) : Stt → V → D → Prop
  | .fr, v, d => Rep K H Z ι n v d
  | .fresh, v, d => ∃ a, v = .ref a ∧ H0 a = none ∧ ¬ Z a ∧ (∀ l, l < n → ι l ≠ a) ∧ LR K H Z ι n a d
  | .own, v, d => ∃ a, v = .ref a ∧ ¬ Z a ∧ (∀ l, l < n → ι l ≠ a) ∧ LR K H Z ι n a d

/-- the slots of a frame; H0: the heap at the frame's entry -/
structure SR (K : PySem.W.Frag) (H : Hp) (Z : Addr → Prop) (ι : Nat → Addr) (n : Nat) (H0 : Hp) (ρ : SEnv) (σ : St) : Prop where
  len : ρ.length = σ.length
  val : ∀ (i : Nat) d, ρ[i]? = some (.val d) → ∃ v, σ[i]? = some (some v) ∧ Rep K H Z ι n v d
  own : ∀ (i : Nat) d, ρ[i]? = some (.own d) → ∃ a, σ[i]? = some (some (.ref a)) ∧ H0 a = none ∧ ¬ Z a ∧ (∀ l, l < n → ι l ≠ a) ∧ LR K H Z ι n a d
  two : ∀ (i j : Nat) d e a, i ≠ j → ρ[i]? = some (.own d) → ρ[j]? = some (.own e) → σ[i]? = some (some (.ref a)) → σ[j]? = some (some (.ref a)) → False

section
variable {K : PySem.W.Frag} {M : Nm} {H H' H2 H0 : Hp} {Z Z' Z2 : Addr → Prop} {ι ι' ι2 : Nat → Addr} {n n' n2 : Nat} {S S' : Store}

theorem Ext.refl : Ext H Z ι n H Z ι n := ⟨Nat.le_refl _, fun _ _ => rfl, fun _ h => h, fun _ h => .inl h, fun _ h1 h2 => absurd h2 (by omega), fun _ _ h _ => h, fun _ h => h, fun _ _ _ h => h⟩
theorem Ext.trans (a : Ext H Z ι n H' Z' ι' n') (b : Ext H' Z' ι' n' H2 Z2 ι2 n2) : Ext H Z ι n H2 Z2 ι2 n2 where
  le := Nat.le_trans a.le b.le
  ag := fun l h => (b.ag l (Nat.lt_of_lt_of_le h a.le)).trans (a.ag l h)
  zz := fun x h => b.zz x (a.zz x h)
  zn := fun x h => by
    rcases b.zn x h with h | h
    · exact a.zn x h
    · refine .inr ?_
      cases e : H x with
      | none => rfl
      | some o => exact absurd h (a.al x (by rw [e]; simp))
  fn := fun l h1 h2 => by
    by_cases hl : l < n'
    · rw [b.ag l hl]; exact a.fn l h1 hl
    · have h := b.fn l (Nat.le_of_not_lt hl) h2
      cases e : H (ι2 l) with
      | none => rfl
      | some o => exact absurd h (a.al _ (by rw [e]; simp))
  fr := fun x o h hn => by
    refine b.fr x o (a.fr x o h hn) fun l hl e => ?_
    by_cases hl' : l < n
    · exact hn l hl' ((a.ag l hl').symm.trans e)
    · have := a.fn l (Nat.le_of_not_lt hl') hl
      rw [e, h] at this; cases this
  al := fun x h => b.al x (a.al x h)
  fz := fun x o u h => b.fz x o u (a.fz x o u h)

/-- what a representation leans on -/
structure Keep (K : PySem.W.Frag) (H : Hp) (Z : Addr → Prop) (ι : Nat → Addr) (n : Nat) (H' : Hp) (Z' : Addr → Prop) (ι' : Nat → Addr) (n' : Nat) : Prop where
  le : n ≤ n'
  ag : ∀ l, l < n → ι' l = ι l
  zz : ∀ a, Z a → Z' a
  tp : ∀ a xs, Rd H a (.tup xs) → Rd H' a (.tup xs)
  zk : ∀ a o, Z a → H a = some o → H' a = some o
  fz : ∀ a o u, H a = some (.frz o u) → H' a = some (.frz o u)

theorem Rd.move {a : Addr} {u : HO} (h : Rd H a u) (k : ∀ o, H a = some o → H' a = some o) : Rd H' a u := by
  rcases h with h | ⟨o, h⟩
  · exact .inl (k _ h)
  · exact .inr ⟨o, k _ h⟩
mutual
theorem Rep.keep (k : Keep K H Z ι n H' Z' ι' n') : ∀ {v : V} {d : D}, Rep K H Z ι n v d → Rep K H' Z' ι' n' v d
  | _, _, .non => .non
  | _, _, .bl b => .bl b
  | _, _, .int i => .int i
  | _, _, .str s => .str s
  | _, _, .tup h r => .tup (by
      obtain ⟨o, h, h1, h2⟩ := h
      exact ⟨o, k.fz _ _ _ h, h1, h2⟩) (Reps.keep k r)
  | _, _, .tupw h r => .tupw (by
      rcases h with h | h
      · exact .inl (k.tp _ _ h)
      · exact .inr h) (Reps.keep k r)
  | _, _, .lst z h r => .lst (k.zz _ z) (k.zk _ _ z h) (Reps.keep k r)
  | _, _, .scr h => .scr (by
      rcases h with ⟨o, h⟩ | h
      · exact .inl ⟨o, k.fz _ _ _ h⟩
      · exact .inr h)
  | _, _, .dict z h r1 r2 => .dict (k.zz _ z) (k.zk _ _ z h) (Reps.keep k r1) (Reps.keep k r2)
  | _, _, .ref (l := l) h => by
      rw [← k.ag l h]
      exact .ref (Nat.lt_of_lt_of_le h k.le)
  | _, _, .dictF h r1 r2 => .dictF (k.fz _ _ _ h) (Reps.keep k r1) (Reps.keep k r2)
theorem Reps.keep (k : Keep K H Z ι n H' Z' ι' n') : ∀ {v : List V} {d : List D}, Reps K H Z ι n v d → Reps K H' Z' ι' n' v d
  | _, _, .nil => .nil
  | _, _, .cons h r => .cons (Rep.keep k h) (Reps.keep k r)
end

theorem ScL.sq {a : Addr} {ns : List Int} (h : ScL K H a ns) : SqL K H a (ns.map V.int) := by
  rcases h with ⟨o, h⟩ | h
  · exact .inl (.inr ⟨o, h⟩)
  · exact .inr h
theorem CR.nottup {a : Addr} {c : Cell} (h : CR K M H Z ι n a c) (xs : List V) (q : Rd H a (.tup xs)) : False := by
  cases c with
  | lst ds =>
    obtain ⟨ys, e, _⟩ := h
    rcases q with q | ⟨o, q⟩ <;> rw [e] at q <;> cases q
  | dict ks ds =>
    obtain ⟨ys, e, _⟩ := h
    rcases q with q | ⟨o, q⟩ <;> rw [e] at q <;> cases q
  | ins c fs =>
    obtain ⟨dx, gs, e, _⟩ := h
    rcases q with q | ⟨o, q⟩ <;> rw [e] at q <;> cases q
  | gone =>
    obtain ⟨o, kvs, e⟩ := h
    rcases q with q | ⟨o, q⟩ <;> rw [e] at q <;> cases q
theorem HR.at (h : HR K M H Z ι S) {l : Nat} (hl : l < S.length) : CR K M H Z ι S.length (ι l) S[l] := h.cell l _ (List.getElem?_eq_getElem hl)
theorem Ext.keep (x : Ext H Z ι n H' Z' ι' n') (nz : ∀ l, l < n → ¬ Z (ι l)) (nt : ∀ l, l < n → ∀ xs, ¬ Rd H (ι l) (.tup xs)) : Keep K H Z ι n H' Z' ι' n' where
  le := x.le
  ag := x.ag
  zz := x.zz
  tp := fun a xs h => Rd.move h fun o e => x.fr a o e fun l hl q => nt l hl xs (q ▸ h)
  zk := fun a o z e => x.fr a o e fun l hl q => nz l hl (q ▸ z)
  fz := x.fz
theorem HR.keep (h : HR K M H Z ι S) (x : Ext H Z ι S.length H' Z' ι' n') : Keep K H Z ι S.length H' Z' ι' n' :=
  x.keep h.nz (fun l hl xs q => (h.at hl).nottup xs q)

theorem LR.keep {a : Addr} {d : D} (k : Keep K H Z ι n H' Z' ι' n') (ha : ∀ o, H a = some o → H' a = some o) (h : LR K H Z ι n a d) : LR K H' Z' ι' n' a d := by
  cases d with
  | lst ds => obtain ⟨xs, e, r⟩ := h; exact ⟨xs, ha _ e, r.keep k⟩
  | dict ks ds => obtain ⟨kvs, e, r1, r2⟩ := h; exact ⟨kvs, ha _ e, r1.keep k, r2.keep k⟩
  | _ => exact h.elim
theorem LR.there {a : Addr} {d : D} (h : LR K H Z ι n a d) : H a ≠ none := by
  cases d with
  | lst ds => obtain ⟨xs, e, r⟩ := h; rw [e]; simp
  | dict ks ds => obtain ⟨kvs, e, r1, r2⟩ := h; rw [e]; simp
  | _ => exact h.elim
/-- a value that waits -/
theorem VR.ext {st : Stt} {v : V} {d : D} (h : HR K M H Z ι S) (x : Ext H Z ι S.length H' Z' ι' n') (r : VR K H Z ι S.length H0 st v d) : VR K H' Z' ι' n' H0 st v d := by
  have k := h.keep x
  have nzz : ∀ a, LR K H Z ι S.length a d → ¬ Z a → ¬ Z' a := fun a l z z' => by
    rcases x.zn a z' with q | q
    · exact z q
    · exact l.there q
  have nfo : ∀ a, LR K H Z ι S.length a d → (∀ l, l < S.length → ι l ≠ a) → ∀ l, l < n' → ι' l ≠ a := fun a l f i hi e => by
    by_cases hl : i < S.length
    · exact f i hl ((x.ag i hl).symm.trans e)
    · have := x.fn i (Nat.le_of_not_lt hl) hi
      rw [e] at this
      exact l.there this
  cases st with
  | fr => exact Rep.keep k r
  | fresh =>
    obtain ⟨a, e, h0, z, f, l⟩ := r
    exact ⟨a, e, h0, nzz a l z, nfo a l f, l.keep k fun o e => x.fr a o e f⟩
  | own =>
    obtain ⟨a, e, z, f, l⟩ := r
    exact ⟨a, e, nzz a l z, nfo a l f, l.keep k fun o e => x.fr a o e f⟩
theorem SR.ext {ρ : SEnv} {σ : St} (h : HR K M H Z ι S) (x : Ext H Z ι S.length H' Z' ι' n') (r : SR K H Z ι S.length H0 ρ σ) : SR K H' Z' ι' n' H0 ρ σ := by
  have k := h.keep x
  refine ⟨r.len, fun i d e => ?_, fun i d e => ?_, r.two⟩
  · obtain ⟨v, e1, q⟩ := r.val i d e
    exact ⟨v, e1, q.keep k⟩
  · obtain ⟨a, e1, h0, z, f, l⟩ := r.own i d e
    obtain ⟨b, q1, q2, q3, q4⟩ := VR.ext (st := .own) (H0 := H0) h x ⟨a, rfl, z, f, l⟩
    cases q1
    exact ⟨a, e1, h0, q2, q3, q4⟩
/-- a new list of nobody's is never written any more -/
theorem VR.freeze {st : Stt} {v : V} {d : D} (h : HR K M H Z ι S) (hs : st ≠ .own) (r : VR K H Z ι S.length H0 st v d) :
    ∃ Z2 : Addr → Prop, (∀ a, Z a → Z2 a) ∧ (∀ a, Z2 a → Z a ∨ H0 a = none) ∧ (∀ a, Z2 a → H a ≠ none) ∧ (∀ l, l < S.length → ¬ Z2 (ι l)) ∧ Rep K H Z2 ι S.length v d := by
  cases st with
  | own => exact absurd rfl hs
  | fr => exact ⟨Z, fun _ z => z, fun _ z => .inl z, h.zs, h.nz, r⟩
  | fresh =>
    obtain ⟨a, e, h0, z, f, l⟩ := r
    refine ⟨fun b => Z b ∨ b = a, fun _ z => .inl z, fun b q => ?_, fun b q => ?_, fun i hi q => ?_, ?_⟩
    · rcases q with q | rfl
      · exact .inl q
      · exact .inr h0
    · rcases q with q | rfl
      · exact h.zs b q
      · exact l.there
    · rcases q with q | q
      · exact h.nz i hi q
      · exact f i hi q
    · subst e
      have k : Keep K H Z ι S.length H (fun b => Z b ∨ b = a) ι S.length := ⟨Nat.le_refl _, fun _ _ => rfl, fun _ z => .inl z, fun _ _ h => h, fun _ _ _ h => h, fun _ _ _ h => h⟩
      cases d with
      | lst ds => obtain ⟨xs, e, r⟩ := l; exact .lst (.inr rfl) e (r.keep k)
      | dict ks ds => obtain ⟨kvs, e, r1, r2⟩ := l; exact .dict (.inr rfl) e (r1.keep k) (r2.keep k)
      | _ => exact l.elim
theorem LR.lq {a : Addr} {d : D} (h : LR K H Z ι n a d) : LQ K H Z ι n a d := by
  cases d with
  | lst ds => exact h
  | dict ks ds => obtain ⟨kvs, e, r1, r2⟩ := h; exact ⟨kvs, .inl e, r1, r2⟩
  | _ => exact h.elim
theorem CR.keep {a : Addr} {c : Cell} (k : Keep K H Z ι n H' Z' ι' n') (ha : ∀ o, H a = some o → H' a = some o) (h : CR K M H Z ι n a c) : CR K M H' Z' ι' n' a c := by
  cases c with
  | lst ds => obtain ⟨xs, e, r⟩ := h; exact ⟨xs, ha _ e, r.keep k⟩
  | dict ks ds => obtain ⟨kvs, e, r1, r2⟩ := h; exact ⟨kvs, ha _ e, r1.keep k, r2.keep k⟩
  | ins c fs => obtain ⟨dx, gs, e, q, r⟩ := h; exact ⟨dx, gs, ha _ e, q, r.keep k⟩
  | gone => obtain ⟨o, kvs, e⟩ := h; exact ⟨o, kvs, ha _ e⟩
/-- heaps that only grow, more frozen -/
theorem HR.grow (h : HR K M H Z ι S) (g : ∀ a o, H a = some o → H' a = some o) (zz : ∀ a, Z a → Z' a) (zs : ∀ a, Z' a → H' a ≠ none) (nz : ∀ l, l < S.length → ¬ Z' (ι l)) : HR K M H' Z' ι S := by
  have k : Keep K H Z ι S.length H' Z' ι S.length := ⟨Nat.le_refl _, fun _ _ => rfl, zz, fun a xs q => Rd.move q fun o e => g a o e, fun a o _ e => g a o e, fun a o u e => g a _ e⟩
  exact ⟨fun l c e => (h.cell l c e).keep k fun o q => g _ o q, h.inj, nz, zs⟩
theorem Ext.grow (g : ∀ a o, H a = some o → H' a = some o) (zz : ∀ a, Z a → Z' a) (zn : ∀ a, Z' a → Z a ∨ H a = none) : Ext H Z ι n H' Z' ι n where
  le := Nat.le_refl _
  ag := fun _ _ => rfl
  zz := zz
  zn := zn
  fn := fun _ h1 h2 => absurd h2 (by omega)
  fr := fun a o e _ => g a o e
  al := fun a h e => by
    cases q : H a with
    | none => exact h q
    | some o => rw [g a o q] at e; cases e
  fz := fun a o u e => g a _ e
theorem grow_upd {p : Addr} {o : HO} (hp : H p = none) : ∀ a q, H a = some q → upd H p o a = some q := fun a q e => by
  rw [upd_ne]; exact e
  intro z; rw [z, hp] at e; cases e
end
end PyI
namespace PyI
open PySem L2

inductive Op2 where | add | sub | mul | fdiv | mod | pow | eq | ne | lt | le | gt | ge | isin | notin | isn | isnn | isb | isnb
  deriving DecidableEq
/-- built-ins by their names -/
inductive Bi where | len | list | tuple | sorted | sum | min | max | all | any | int | str | dict | isint | isstr | istup | islst | isbool | istl | repr
  deriving DecidableEq
/-- methods of built-in types -/
inductive Me where | sindex | join | dget | dgetd | lindex | tindex | upper | split
  deriving DecidableEq
/-- forms with one argument that are written otherwise: len(set(x)), x.upper(), list(x.values()) -/
inductive Un where | lens | upper | vals | sset | dzip
  deriving DecidableEq
inductive Tg where | nm (i : Nat) | tp (is : List Nat) | tq (ts : List (Nat ⊕ List Nat))
mutual
inductive E where
  | var (i : Nat) | own (i : Nat)
  | non | bl (b : Bool) | int (i : Int) | str (s : List Nat)
  | tup (es : Es) | lst (es : Es)
  | bin (o : Op2) (a b : E) | neg (a : E)
  | and (a b : E) | or (a b : E) | not (a : E)
  | ite (c a b : E)
  | chain (o1 o2 : Op2) (a b c : E)
  | ix (a i : E) | sl (a : E) (lo hi : Es) | rev (a : E)
  | bi (f : Bi) (es : Es)
  | me (m : Me) (o : E) (es : Es)
  | call (f : Nat) (es : Es)
  | comp (elt : E) (tg : Tg) (it : I) (cond : Es) (vs : List Nat)
  | newr (e : E)
  | pcall (f : Nat) (es : Es) | chain3 (o1 o2 o3 : Op2) (a b c d : E)
  | toL (it : I) | dnew | gint (i : Int) | gstr (s : List Nat)
  | lk (e : E) | frr (e : E) | fld (c : Nat) (o : E) (x : Nat) | mk (c f : Nat) (es : Es) | mcall (c f : Nat) (o : E) (es : Es) | bid (mx : Bool) (a b : E) | un (f : Un) (a : E)
inductive Es where | nil | cons (e : E) (es : Es)
inductive I where | over (e : E) | range1 (a : E) | range2 (a b : E) | enum (a : E) | zip (a b : E) | items (a : E) | vals (a : E) | keys (a : E)
end
mutual
inductive T where
  | set (i : Nat) (e : E) | setO (i : Nat) (e : E) | setT (is : List Nat) (e : E)
  | ifs (c : E) (a b : Ts) | ret (e : E) | retO (i : Nat) | retN
  | «for» (tg : Tg) (it : I) (body : Ts) | «while» (fuel : Nat) (c : E) (body : Ts)
  | brk | cont | pass | rai | ex (e : E)
  | app (x : Nat) (e : E) | appPop (y x : Nat) (e : E) | addPop (i x : Nat) (e : E) | setPop (i x : Nat) (e : E) | ins (x : Nat) (a e : E) | ext (x : Nat) (e : E)
  | setIx (x : Nat) (i e : E) | setIxR (o i e : E)
  | appR (o e : E)
  | frz (x : Nat) | lkx (x : Nat)
  | setF (c : Nat) (o : E) (x : Nat) (e : E) | setFT (c : Nat) (o : E) (xs : List Nat) (e : E)
  | forR (tg : Tg) (e : E) (body : Ts) | setPop0 (i x : Nat)
inductive Ts where | nil | cons (t : T) (ts : Ts)
end

def keyD : D → Option Key
  | .int i => some (.inl i)
  | .str s => some (.inr (txt s))
  | _ => none
def b2i' (b : Bool) : Int := if b then 1 else 0
mutual
/-- Python's == over data -/
def deq : D → D → Bool
  | .non, .non => true
  | .bl a, .bl b => a == b
  | .bl a, .int j => b2i' a == j
  | .int i, .bl b => i == b2i' b
  | .int i, .int j => i == j
  | .str x, .str y => x == y
  | .tup xs, .tup ys => deqs xs ys
  | .lst xs, .lst ys => deqs xs ys
  | _, _ => false
def deqs : List D → List D → Bool
  | [], [] => true
  | x :: xs, y :: ys => deq x y && deqs xs ys
  | _, _ => false
end
def cpOk (s : List Nat) : Bool := s.all fun c => decide (c < 1114112)
mutual
/-- what may be compared: n deep at most -/
def shp : Nat → D → Bool
  | _, .non => true
  | _, .bl _ => true
  | _, .int _ => true
  | _, .str s => cpOk s
  | n + 1, .tup ds => shps n ds
  | n + 1, .lst ds => shps n ds
  | _, _ => false
def shps : Nat → List D → Bool
  | _, [] => true
  | n, d :: ds => shp n d && shps n ds
end
mutual
def toP : D → PyData
  | .non => .none | .bl b => .bool b | .int i => .int i | .str s => .str (txt s)
  | .tup ds => .tuple (toPs ds) | .lst ds => .list (toPs ds)
  | _ => .none
def toPs : List D → List PyData
  | [] => []
  | d :: ds => toP d :: toPs ds
end
def lexI (z : Bool) : List Int → List Int → Bool
  | [], [] => z
  | [], _ :: _ => true
  | _ :: _, [] => false
  | x :: xs, y :: ys => if x = y then lexI z xs ys else decide (x < y)
def intsD : List D → Option (List Int)
  | [] => some []
  | .int i :: ds => (intsD ds).map (i :: ·)
  | _ => none
def strsD : List D → Option (List (List Nat))
  | [] => some []
  | .str i :: ds => (strsD ds).map (i :: ·)
  | _ => none
def boolsD : List D → Option (List Bool)
  | [] => some []
  | .bl i :: ds => (boolsD ds).map (i :: ·)
  | _ => none
def szL : Nat := 16777216
def small (i : Int) : Bool := decide (-18446744073709551616 < i) && decide (i < 18446744073709551616)
def keq : D → D → Bool
  | .int i, .int j => decide (i = j)
  | .str x, .str y => decide (x = y)
  | _, _ => false
def findK (k : D) : List D → List D → Option D
  | k' :: ks, v :: vs => if keq k' k then some v else findK k ks vs
  | _, _ => none

/-- alike data, compared -/
def alk (x y : D) : Bool := shp 60 x && shp 60 y && PySem.W.alike (toP x) (toP y)
def cmpP (o : Op2) (x y : D) : Option D := if alk x y = true then match o with
  | .lt => some (.bl (PySem.W.dataLt (toP x) (toP y)))
  | .le => some (.bl (!PySem.W.dataLt (toP y) (toP x)))
  | .gt => some (.bl (PySem.W.dataLt (toP y) (toP x)))
  | .ge => some (.bl (!PySem.W.dataLt (toP x) (toP y)))
  | _ => none else none
def neT : D → Bool
  | .tup (_ :: _) => true
  | _ => false
def srtOk (ds : List D) : Bool := decide (ds.length ≤ szL) && ds.all neT && ds.all fun a => ds.all fun b => alk a b
def scS : D → Bool
  | .str _ => true | .int _ => true | _ => false
def srtT (ds : List D) : Bool := decide (ds.length ≤ szL) && (ds.all neT || ds.all scS) && ds.all fun a => ds.all fun b => alk a b
def leP (x y : D) : Bool := PySem.W.dataLe false toP x y
def cmpD (o : Op2) : D → D → Option D
  | .int i, .int j => match o with
    | .lt => some (.bl (decide (i < j)))
    | .le => some (.bl (decide (i ≤ j)))
    | .gt => some (.bl (decide (j < i)))
    | .ge => some (.bl (decide (j ≤ i)))
    | _ => none
  | .str x, .str y => match o with
    | .lt => some (.bl (decide (x < y)))
    | .le => some (.bl (!decide (y < x)))
    | .gt => some (.bl (decide (y < x)))
    | .ge => some (.bl (!decide (x < y)))
    | _ => none
  | .tup xs, .tup ys => match intsD xs, intsD ys with
    | some ns, some ms => match o with
      | .lt => some (.bl (lexI false ns ms))
      | .le => some (.bl (lexI true ns ms))
      | o => cmpP o (.tup xs) (.tup ys)
    | _, _ => cmpP o (.tup xs) (.tup ys)
  | .lst xs, .lst ys => cmpP o (.lst xs) (.lst ys)
  | _, _ => none
def scalD : D → Bool
  | .non => true | .bl _ => true | .int _ => true | .str _ => true | _ => false
def inD (x : D) : D → Option Bool
  | .str y => match x with
    | .str [c] => some (decide (c ∈ y))
    | _ => none
  | .lst ds => if scalD x && ds.all scalD then some (ds.any fun z => deq z x) else if shp 60 x && shps 60 ds then some (ds.any fun z => deq z x) else none
  | .tup ds => if scalD x && ds.all scalD then some (ds.any fun z => deq z x) else none
  | .dict ks _ => match keyD x with
    | some _ => some (ks.any fun z => keq z x)
    | none => none
  | _ => none
/-- scalars of one kind, or None beside one -/
def kind : D → D → Bool
  | .int _, .int _ => true | .str _, .str _ => true | .bl _, .bl _ => true
  | .non, .non => true | .non, .int _ => true | .int _, .non => true | .non, .bl _ => true | .bl _, .non => true | .non, .str _ => true | .str _, .non => true
  | .int _, .str _ => true | .str _, .int _ => true | .bl _, .str _ => true | .str _, .bl _ => true
  | _, _ => false
def eqD (x y : D) : Option Bool := if kind x y || (shp 60 x && shp 60 y) || (shp 500 x && shp 500 y && (shp 60 x || shp 60 y)) then some (deq x y) else none

def binD (o : Op2) (x y : D) : Option D :=
  match o with
  | .add => match x, y with
    | .int i, .int j => some (.int (i + j))
    | .str a, .str b => if a.length + b.length ≤ szL then some (.str (a ++ b)) else none
    | .tup a, .tup b => if a.length + b.length ≤ szL then some (.tup (a ++ b)) else none
    | .lst a, .lst b => if a.length + b.length ≤ szL then some (.lst (a ++ b)) else none
    | _, _ => none
  | .sub => match x, y with
    | .int i, .int j => some (.int (i - j))
    | _, _ => none
  | .mul => match x, y with
    | .int i, .int j => if small i || small j then some (.int (i * j)) else none
    | .lst ds, .int k => if decide (-1000000 ≤ k) && decide (k ≤ 1000000) && decide (ds.length * k.toNat ≤ szL) then some (.lst (List.replicate k.toNat ds).flatten) else none
    | .tup ds, .int k => if decide (2 ≤ k) && decide (k ≤ 1000) && decide (ds.length ≤ 1000) && !ds.isEmpty then some (.tup (List.replicate k.toNat ds).flatten) else none
    | _, _ => none
  | .fdiv => match x, y with
    | .int i, .int j => if decide (0 < j) && decide (j < 4611686018427387904) then some (.int (i / j)) else none
    | _, _ => none
  | .mod => match x, y with
    | .int i, .int j => if 0 < j then some (.int (i % j)) else none
    | _, _ => none
  | .pow => match x, y with
    | .int i, .int j => if decide (0 ≤ j) && decide (j ≤ 1000000) && decide (i.natAbs < 18446744073709551616) then some (.int (i ^ j.toNat)) else none
    | _, _ => none
  | .eq => (eqD x y).map .bl
  | .ne => (eqD x y).map fun b => .bl (!b)
  | .isin => (inD x y).map .bl
  | .notin => (inD x y).map fun b => .bl (!b)
  | .isn => match x with
    | .non => some (.bl true)
    | _ => some (.bl false)
  | .isnn => match x with
    | .non => some (.bl false)
    | _ => some (.bl true)
  | .isb => match x, y with
    | .bl a, .bl b => some (.bl (decide (a = b)))
    | _, _ => none
  | .isnb => match x, y with
    | .bl a, .bl b => some (.bl (!decide (a = b)))
    | _, _ => none
  | _ => cmpD o x y

def cutD {α : Type} (xs : List α) (lo hi : Option Int) : List α := (xs.drop (HT.sIx xs.length 0 lo)).take (HT.sIx xs.length xs.length hi - HT.sIx xs.length 0 lo)
def ixD : D → D → Option D
  | .lst ds, .int i => atI ds i
  | .tup ds, .int i => atI ds i
  | .str s, .int i => if s.length ≤ szL then (atI s i).map fun c => .str [c] else none
  | .scr ns, .int i => (atI ns i).map .int
  | .dict ks vs, k => match keyD k with
    | some _ => findK k ks vs
    | none => none
  | _, _ => none
def slD : D → Option Int → Option Int → Option D
  | .lst ds, lo, hi => some (.lst (cutD ds lo hi))
  | .tup ds, lo, hi => some (.tup (cutD ds lo hi))
  | .str s, lo, hi => if s.length ≤ szL then some (.str (cutD s lo hi)) else none
  | .scr ns, lo, hi => some (.lst (cutD (ns.map .int) lo hi))
  | _, _, _ => none
def backD : D → Option D
  | .lst ds => some (.lst ds.reverse)
  | .tup ds => some (.tup ds.reverse)
  | .str s => if s.length ≤ szL then some (.str s.reverse) else none
  | _ => none
def partD : List D → Option (Option Int)
  | [] => some none
  | [.int i] => some (some i)
  | _ => none
def insI (x : Int) : List Int → List Int
  | [] => [x]
  | y :: ys => if x ≤ y then x :: y :: ys else y :: insI x ys
def sortI : List Int → List Int
  | [] => []
  | x :: xs => insI x (sortI xs)
def insS (x : List Nat) : List (List Nat) → List (List Nat)
  | [] => [x]
  | y :: ys => if y < x then y :: insS x ys else x :: y :: ys
def sortS : List (List Nat) → List (List Nat)
  | [] => []
  | x :: xs => insS x (sortS xs)
def minI : Int → List Int → Int
  | m, [] => m
  | m, x :: xs => minI (if x < m then x else m) xs
def maxI : Int → List Int → Int
  | m, [] => m
  | m, x :: xs => maxI (if m < x then x else m) xs
def repK (k v : D) : List D → List D → List D
  | k' :: ks, v' :: vs => (if keq k' k then v else v') :: repK k v ks vs
  | _, _ => []
def putD (k v : D) (ks vs : List D) : List D × List D :=
  if ks.any fun z => keq z k then (ks, repK k v ks vs) else (ks ++ [k], vs ++ [v])
def pairsD : List D → Option (List (D × D))
  | [] => some []
  | .tup [k, v] :: ds => match keyD k with
    | some _ => (pairsD ds).map ((k, v) :: ·)
    | none => none
  | _ => none
def seqD : D → Option (List D)
  | .lst ds => some ds
  | .tup ds => some ds
  | .str s => some (s.map fun c => .str [c])
  | .scr ns => some (ns.map .int)
  | _ => none
def joinN (sep : List Nat) : List (List Nat) → List Nat
  | [] => []
  | [x] => x
  | x :: y :: r => x ++ sep ++ joinN sep (y :: r)
def biD1 (f : Bi) (x : D) : Option D :=
  match f with
  | .len => match x with
    | .str s => if s.length ≤ szL then some (.int s.length) else none
    | .lst ds => some (.int ds.length)
    | .tup ds => some (.int ds.length)
    | .scr ns => some (.int ns.length)
    | .dict ks _ => some (.int ks.length)
    | _ => none
  | .list => match x with
    | .lst ds => some (.lst ds)
    | .tup ds => some (.lst ds)
    | .str s => if s.length ≤ 10000 then some (.lst (s.map fun c => .str [c])) else none
    | .dict ks _ => some (.lst ks)
    | _ => none
  | .tuple => match x with
    | .lst ds => some (.tup ds)
    | .tup ds => some (.tup ds)
    | .str s => if s.length ≤ 10000 then some (.tup (s.map fun c => .str [c])) else none
    | _ => none
  | .sorted => match x with
    | .lst ds => match intsD ds with
      | some ns => some (.lst ((sortI ns).map .int))
      | none => match strsD ds with
        | some ss => if ss.length < 64 then some (.lst ((sortS ss).map .str)) else none
        | none => if srtOk ds = true then some (.lst (ds.mergeSort leP)) else none
    | .tup ds => if srtT ds = true then some (.lst (ds.mergeSort leP)) else none
    | .str s => if s.length ≤ 10000 then some (.lst ((sortS (s.map fun c => [c])).map .str)) else none
    | .dict ks _ => match strsD ks with
      | some ss => if ss.length < 64 then some (.lst ((sortS ss).map .str)) else none
      | none => none
    | _ => none
  | .sum => match x with
    | .lst ds => (intsD ds).map fun ns => .int ns.sum
    | _ => none
  | .min => match x with
    | .lst ds => match intsD ds with
      | some (n :: ns) => some (.int (minI n ns))
      | _ => none
    | _ => none
  | .max => match x with
    | .lst ds => match intsD ds with
      | some (n :: ns) => some (.int (maxI n ns))
      | _ => none
    | .tup ds => match intsD ds with
      | some (n :: ns) => some (.int (maxI n ns))
      | _ => none
    | _ => none
  | .all => match x with
    | .lst ds => (boolsD ds).map fun bs => .bl (bs.all id)
    | _ => none
  | .any => match x with
    | .lst ds => (boolsD ds).map fun bs => .bl (bs.any id)
    | _ => none
  | .int => match x with
    | .int i => some (.int i)
    | .bl b => some (.int (b2i' b))
    | _ => none
  | .dict => match x with
    | .lst ds => match pairsD ds with
      | some ps => let r := ps.foldl (fun acc p => putD p.1 p.2 acc.1 acc.2) (([], []) : List D × List D); some (.dict r.1 r.2)
      | none => none
    | .tup ds => match pairsD ds with
      | some ps => let r := ps.foldl (fun acc p => putD p.1 p.2 acc.1 acc.2) (([], []) : List D × List D); some (.dict r.1 r.2)
      | none => none
    | _ => none
  | .isint => match x with
    | .int _ => some (.bl true)
    | .bl _ => some (.bl true)
    | .ref _ => none
    | .scr _ => none
    | .tupw _ => none
    | _ => some (.bl false)
  | .isstr => match x with
    | .str _ => some (.bl true)
    | .ref _ => none
    | .scr _ => none
    | .tupw _ => none
    | _ => some (.bl false)
  | .istup => match x with
    | .tup _ => some (.bl true)
    | .ref _ => none
    | .scr _ => none
    | .tupw _ => none
    | _ => some (.bl false)
  | .islst => match x with
    | .lst _ => some (.bl true)
    | .ref _ => none
    | .scr _ => none
    | .tupw _ => none
    | _ => some (.bl false)
  | .isbool => match x with
    | .bl _ => some (.bl true)
    | .ref _ => none
    | .scr _ => none
    | .tupw _ => none
    | _ => some (.bl false)
  | .repr => if shp 60 x && (toP x).showable && decide ((toP x).shown.cps.size ≤ szL) then some (.str (toP x).shown.cps.toList) else none
  | .istl => match x with
    | .tup _ => some (.bl true)
    | .lst _ => some (.bl true)
    | .ref _ => none
    | .scr _ => none
    | .tupw _ => none
    | _ => some (.bl false)
  | _ => none
/-- sorted(set(x)) -/
def ssetD (ds : List D) : Option D := if 1000 < ds.length then none else match strsD ds with
  | some ss => some (.lst ((sortS (met ss)).map .str))
  | none => match intsD ds with
    | some ns => some (.lst ((sortI (met ns)).map .int))
    | none => none
/-- dict(zip(a, b)) of two texts -/
def zipP (a b : List Nat) : List (D × D) := (a.zip b).map fun p => (.str [p.1], .str [p.2])
def dzipD (a b : List Nat) : List D × List D := (zipP a b).foldl (fun acc p => putD p.1 p.2 acc.1 acc.2) ([], [])
def unD (f : Un) (x : D) : Option D := match f, x with
  | .dzip, .tup [.str a, .str b] => if a.length ≤ 1000 then some (.dict (dzipD a b).1 (dzipD a b).2) else none
  | .sset, .lst ds => ssetD ds
  | .sset, .tup ds => ssetD ds
  | .lens, .str s => if s.length ≤ 1000 then some (.int (met s).length) else none
  | .upper, .str s => if s.length ≤ 100000 then some (.str (Txt.upper (txt s)).cps.toList) else none
  | .vals, .dict _ vs => if vs.length ≤ 10000 then some (.lst vs) else none
  | _, _ => none
def biD2 (f : Bi) (x y : D) : Option D :=
  match x, y with
  | .int i, .int j => match f with
    | .min => some (.int (if j < i then j else i))
    | .max => some (.int (if j > i then j else i))
    | _ => none
  | _, _ => none
def biD (f : Bi) : List D → Option D
  | [x] => biD1 f x
  | [x, y] => biD2 f x y
  | _ => none
def idx1 (c : Nat) : List Nat → Option Nat
  | [] => none
  | x :: xs => if x = c then some 0 else (idx1 c xs).map (· + 1)
def meD (m : Me) (o : D) (xs : List D) : Option D :=
  match m, o, xs with
  | .sindex, .str s, [.str [c]] => (idx1 c s).map fun (i : Nat) => D.int (i : Int)
  | .join, .str s, [.lst ds] => match strsD ds with
    | some ss => if (joinN s ss).length + s.length ≤ szL then some (.str (joinN s ss)) else none
    | none => none
  | .join, .str s, [.tup ds] => match strsD ds with
    | some ss => if (joinN s ss).length + s.length ≤ szL then some (.str (joinN s ss)) else none
    | none => none
  | .dget, .dict ks vs, [k] => match keyD k with
    | some _ => some ((findK k ks vs).getD .non)
    | none => none
  | .dgetd, .dict ks vs, [k, z] => match keyD k with
    | some _ => if scalD z then some ((findK k ks vs).getD z) else none
    | none => none
  | _, _, _ => none

/-- the receiver's kind -/
def meK (m : Me) (o : D) : Bool := match o with
  | .str _ => (match m with | .sindex => true | .join => true | .upper => true | .split => true | _ => false)
  | .dict _ _ => (match m with | .dget => true | .dgetd => true | _ => false)
  | .lst _ => (match m with | .lindex => true | _ => false)
  | _ => false
abbrev R := Option (D × Stt × Store)
abbrev CF := Nat → List D → Store → R
def stD : D → Stt
  | .lst _ => .fresh
  | .dict _ _ => .fresh
  | _ => .fr
def ok (d : D) (S : Store) : R := some (d, stD d, S)
def andT {β : Type} (x : R) (f : D → Stt → Store → Option β) : Option β := match x with | some (d, s, S) => f d s S | none => none
@[simp] theorem andT_some {β : Type} (d : D) (s : Stt) (S : Store) (f : D → Stt → Store → Option β) : andT (some (d, s, S)) f = f d s S := rfl
@[simp] theorem andT_none {β : Type} (f : D → Stt → Store → Option β) : andT none f = none := rfl
@[simp] theorem andT_ok {β : Type} (d : D) (S : Store) (f : D → Stt → Store → Option β) : andT (ok d S) f = f d (stD d) S := rfl
/-- what a place of the store holds -/
def rd (S : Store) : D → D
  | .ref l => match S[l]? with
    | some (.lst ds) => .lst ds
    | some (.dict ks vs) => .dict ks vs
    | _ => .ref l
  | .dictF ks vs => .dict ks vs
  | d => d
/-- what is read of a place, all the way down -/
def alls : List (Option D) → Option (List D)
  | [] => some []
  | some d :: r => (alls r).map (d :: ·)
  | none :: _ => none
def unr (S : Store) : Nat → D → Option D
  | _, .non => some .non
  | _, .bl b => some (.bl b)
  | _, .int i => some (.int i)
  | _, .str s => some (.str s)
  | _, .scr ns => some (.scr ns)
  | k + 1, .tup ds => (alls (ds.map (unr S k))).map .tup
  | k + 1, .lst ds => (alls (ds.map (unr S k))).map .lst
  | k + 1, .ref l => match S[l]? with
    | some (.lst ds) => (alls (ds.map (unr S k))).map .lst
    | _ => none
  | _, _ => none
def unrs (S : Store) (k : Nat) (ds : List D) : Option (List D) := alls (ds.map (unr S k))
def opt (x : Option D) (S : Store) : R := match x with | some d => ok d S | none => none
@[simp] theorem opt_some (d : D) (S : Store) : opt (some d) S = ok d S := rfl
@[simp] theorem opt_none (S : Store) : opt none S = none := rfl
def bindQ : List (Nat ⊕ List Nat) → List D → SEnv → Option SEnv
  | [], [], ρ => some ρ
  | .inl i :: ts, d :: ds, ρ => bindQ ts ds (ρ.set i (.val d))
  | .inr is :: ts, .tup es :: ds, ρ => if es.length = is.length then bindQ ts ds ((is.zip es).foldl (fun r p => r.set p.1 (.val p.2)) ρ) else none
  | .inr is :: ts, .tupw es :: ds, ρ => if es.length = is.length then bindQ ts ds ((is.zip es).foldl (fun r p => r.set p.1 (.val p.2)) ρ) else none
  | _, _, _ => none
def bindT (tg : Tg) (d : D) (ρ : SEnv) : Option SEnv := match tg with
  | .nm i => some (ρ.set i (.val d))
  | .tp is => match d with
    | .tup ds => if ds.length = is.length then some ((is.zip ds).foldl (fun r p => r.set p.1 (.val p.2)) ρ) else none
    | .lst ds => if ds.length = is.length then some ((is.zip ds).foldl (fun r p => r.set p.1 (.val p.2)) ρ) else none
    | .tupw ds => if ds.length = is.length then some ((is.zip ds).foldl (fun r p => r.set p.1 (.val p.2)) ρ) else none
    | _ => none
  | .tq ts => match d with
    | .tup ds => bindQ ts ds ρ
    | .tupw ds => bindQ ts ds ρ
    | _ => none
def wipeE (ρ : SEnv) : List Nat → SEnv
  | [] => ρ
  | v :: vs => (wipeE ρ vs).set v .no
def loopC (f : D → Store → Option (Option D × Store)) : List D → Store → Option (List D × Store)
  | [], S => some ([], S)
  | d :: ds, S => match f d S with
    | some (r, S1) => match loopC f ds S1 with
      | some (rs, S2) => some ((match r with | some x => x :: rs | none => rs), S2)
      | none => none
    | none => none
def lstD : D → Option (List D)
  | .lst ds => some ds
  | .scr ns => some (ns.map .int)
  | _ => none
def zipD (x y : D) : Option (List D × List D) := match lstD x, lstD y with
  | some ds, some es => some (ds, es)
  | _, _ => match x, y with
    | .tup ds, .tup es => some (ds, es)
    | .str s, .str t => some (s.map fun c => .str [c], t.map fun c => .str [c])
    | _, _ => none
/-- may it be walked -/
def srcD : E → Stt → Bool
  | .own _, _ => true
  | _, .own => false
  | _, _ => true
/-- a field is set -/
def putFD (x : Nat) (d : D) : List (Nat × D) → List (Nat × D)
  | [] => [(x, d)]
  | (y, e) :: r => if y = x then (y, d) :: r else (y, e) :: putFD x d r
def minD (mx : Bool) (m : Int) (ns : List Int) : Int := if mx then maxI m ns else minI m ns
def fz (x : R) : R := match x with | some (d, .fr, S) => some (d, .fr, S) | some (d, .fresh, S) => some (d, .fr, S) | _ => none
mutual
def ev (cf : CF) : E → SEnv → Store → R
  | .var i, ρ, S => match ρ[i]? with | some (.val d) => some (d, .fr, S) | _ => none
  | .own i, ρ, S => match ρ[i]? with | some (.own d) => some (d, .own, S) | _ => none
  | .non, _, S => some (.non, .fr, S)
  | .bl b, _, S => some (.bl b, .fr, S)
  | .int i, _, S => some (.int i, .fr, S)
  | .str s, _, S => some (.str s, .fr, S)
  | .tup es, ρ, S => match evF cf es ρ S with | some (ds, S1) => if ds.length ≤ szL then some (.tup ds, .fr, S1) else none | none => none
  | .lst es, ρ, S => match evF cf es ρ S with | some (ds, S1) => if ds.length ≤ szL then some (.lst ds, .fresh, S1) else none | none => none
  | .bin o a b, ρ, S => andT (ev cf a ρ S) fun x _ S1 => andT (ev cf b ρ S1) fun y _ S2 => opt (binD o (rd S2 x) (rd S2 y)) S2
  | .neg a, ρ, S => andT (ev cf a ρ S) fun x _ S1 => match x with | .int i => ok (.int (-i)) S1 | _ => none
  | .and a b, ρ, S => andT (ev cf a ρ S) fun x _ S1 => match x with | .bl true => ev cf b ρ S1 | .bl false => ok (.bl false) S1 | _ => none
  | .or a b, ρ, S => andT (ev cf a ρ S) fun x _ S1 => match x with | .bl true => ok (.bl true) S1 | .bl false => ev cf b ρ S1 | _ => none
  | .not a, ρ, S => andT (ev cf a ρ S) fun x _ S1 => match x with | .bl b => ok (.bl (!b)) S1 | _ => none
  | .ite c a b, ρ, S => andT (ev cf c ρ S) fun x _ S1 => match x with | .bl true => ev cf a ρ S1 | .bl false => ev cf b ρ S1 | _ => none
  | .chain o1 o2 a b c, ρ, S => andT (ev cf a ρ S) fun x _ S1 => andT (ev cf b ρ S1) fun y _ S2 => match binD o1 (rd S2 x) (rd S2 y) with
    | some (.bl true) => andT (ev cf c ρ S2) fun z _ S3 => opt (binD o2 (rd S3 y) (rd S3 z)) S3
    | some (.bl false) => ok (.bl false) S2
    | _ => none
  | .chain3 o1 o2 o3 a b c d, ρ, S => andT (ev cf a ρ S) fun x _ S1 => andT (ev cf b ρ S1) fun y _ S2 => match binD o1 (rd S2 x) (rd S2 y) with
    | some (.bl true) => andT (ev cf c ρ S2) fun z _ S3 => match binD o2 (rd S3 y) (rd S3 z) with
      | some (.bl true) => andT (ev cf d ρ S3) fun w _ S4 => opt (binD o3 (rd S4 z) (rd S4 w)) S4
      | some (.bl false) => ok (.bl false) S3
      | _ => none
    | some (.bl false) => ok (.bl false) S2
    | _ => none
  | .ix a i, ρ, S => andT (ev cf a ρ S) fun x _ S1 => andT (ev cf i ρ S1) fun y _ S2 => match ixD (rd S2 x) y with | some d => some (d, .fr, S2) | none => none
  | .sl a lo hi, ρ, S => andT (ev cf a ρ S) fun x _ S1 => match evF cf lo ρ S1 with
    | some (l, S2) => match evF cf hi ρ S2 with
      | some (h, S3) => match partD l, partD h with
        | some lo, some hi => opt (slD (rd S3 x) lo hi) S3
        | _, _ => none
      | none => none
    | none => none
  | .rev a, ρ, S => andT (ev cf a ρ S) fun x _ S1 => opt (backD (rd S1 x)) S1
  | .bi f es, ρ, S => match evR cf es ρ S with | some (ds, S1) => opt (biD f (ds.map (rd S1))) S1 | none => none
  | .me m o es, ρ, S => andT (ev cf o ρ S) fun x _ S1 => if meK m (rd S1 x) = false then none else match evR cf es ρ S1 with | some (ds, S2) => (match meD m (rd S2 x) (ds.map (rd S2)) with | some d => some (d, .fr, S2) | none => none) | none => none
  | .call f es, ρ, S => match evF cf es ρ S with | some (ds, S1) => cf f ds S1 | none => none
  | .pcall f es, ρ, S => match evR cf es ρ S with
    | some (ds, S1) => match unrs S1 64 ds with
      | some ds' => match cf f ds' [] with
        | some (d, _, _) => if scalD d = true then some (d, .fr, S1) else none
        | none => none
      | none => none
    | none => none
  | .comp elt tg it cond vs, ρ, S => match evI cf it ρ S with
    | some (ds, S1) => if szL < ds.length then none else match loopC (fun d S => match bindT tg d (wipeE ρ vs) with
        | some ρ1 => match evR cf cond ρ1 S with
          | some ([], S2) => (match fz (ev cf elt ρ1 S2) with | some (x, _, S3) => some (some x, S3) | none => none)
          | some ([.bl true], S2) => (match fz (ev cf elt ρ1 S2) with | some (x, _, S3) => some (some x, S3) | none => none)
          | some ([.bl false], S2) => some (none, S2)
          | _ => none
        | none => none) ds S1 with
      | some (xs, S2) => some (.lst xs, .fresh, S2)
      | none => none
    | none => none
  | .newr e, ρ, S => andT (ev cf e ρ S) fun x s S1 => match s, x with
    | .fresh, .lst ds => some (.ref S1.length, .fr, S1 ++ [.lst ds])
    | .fresh, .dict ks vs => some (.ref S1.length, .fr, S1 ++ [.dict ks vs])
    | _, _ => none
  | .toL it, ρ, S => match evI cf it ρ S with | some (ds, S1) => if ds.length ≤ szL then some (.lst ds, .fresh, S1) else none | none => none
  | .dnew, _, S => some (.dict [] [], .fresh, S)
  | .gint i, _, S => some (.int i, .fr, S)
  | .gstr s, _, S => some (.str s, .fr, S)
  | .lk e, ρ, S => andT (ev cf e ρ S) fun x s S1 => match s, x with
    | .fresh, .dict ks vs => some (.dictF ks vs, .fr, S1)
    | _, _ => none
  | .frr e, ρ, S => andT (ev cf e ρ S) fun x _ S1 => match x with
    | .ref l => match S1[l]? with
      | some (.dict ks vs) => some (.dictF ks vs, .fr, S1.set l .gone)
      | _ => none
    | _ => none
  | .fld c o x, ρ, S => andT (ev cf o ρ S) fun v _ S1 => match v with
    | .ref l => match S1[l]? with
      | some (.ins c' fs) => if c' = c then (match fs.lookup x with
        | some d => some (d, .fr, S1)
        | none => none) else none
      | _ => none
    | _ => none
  | .mk c f es, ρ, S => match evF cf es ρ S with
    | some (ds, S1) => match cf f (.ref S1.length :: ds) (S1 ++ [.ins c []]) with
      | some (.non, _, S2) => some (.ref S1.length, .fr, S2)
      | _ => none
    | none => none
  | .mcall c f o es, ρ, S => andT (ev cf o ρ S) fun v _ S1 => match v with
    | .ref l => match S1[l]? with
      | some (.ins c' _) => if c' = c then (match evF cf es ρ S1 with
        | some (ds, S2) => cf f (.ref l :: ds) S2
        | none => none) else none
      | _ => none
    | _ => none
  | .bid mx a b, ρ, S => andT (ev cf a ρ S) fun x _ S1 => andT (ev cf b ρ S1) fun y _ S2 => match rd S2 x with
    | .lst ds => match intsD ds with
      | some [] => if scalD y then some (y, .fr, S2) else none
      | some (m :: ns) => some (.int (minD mx m ns), .fr, S2)
      | none => none
    | _ => none
  | .un f a, ρ, S => andT (ev cf a ρ S) fun x _ S1 => opt (unD f (rd S1 x)) S1
/-- arguments that are kept: frozen -/
def evF (cf : CF) : Es → SEnv → Store → Option (List D × Store)
  | .nil, _, S => some ([], S)
  | .cons e es, ρ, S => match ev cf e ρ S with
    | some (_, .own, _) => none
    | some (d, _, S1) => match evF cf es ρ S1 with | some (ds, S2) => some (d :: ds, S2) | none => none
    | none => none
/-- arguments that are read -/
def evR (cf : CF) : Es → SEnv → Store → Option (List D × Store)
  | .nil, _, S => some ([], S)
  | .cons e es, ρ, S => match ev cf e ρ S with
    | some (d, _, S1) => match evR cf es ρ S1 with | some (ds, S2) => some (d :: ds, S2) | none => none
    | none => none
def evI (cf : CF) : I → SEnv → Store → Option (List D × Store)
  | .over e, ρ, S => andT (ev cf e ρ S) fun x s S1 => if srcD e s = true then (match seqD x with | some ds => some (ds, S1) | none => none) else none
  | .range1 a, ρ, S => andT (ev cf a ρ S) fun x _ S1 => match x with
    | .int j => if decide (-4611686018427387904 ≤ j) && decide (j < 4611686018427387904) then some ((List.range j.toNat).map (fun k : Nat => D.int (k : Int)), S1) else none
    | _ => none
  | .range2 a b, ρ, S => andT (ev cf a ρ S) fun x _ S1 => andT (ev cf b ρ S1) fun y _ S2 => match x, y with
    | .int i, .int j => if decide (-4611686018427387904 ≤ i) && decide (i < 4611686018427387904) && decide (-4611686018427387904 ≤ j) && decide (j < 4611686018427387904) then some ((List.range (j - i).toNat).map (fun k : Nat => D.int (i + (k : Int))), S2) else none
    | _, _ => none
  | .enum a, ρ, S => andT (ev cf a ρ S) fun x s S1 => if srcD a s = true then (match seqD x with | some ds => some (ds.zipIdx.map (fun p => .tupw [.int p.2, p.1]), S1) | none => none) else none
  | .zip a b, ρ, S => andT (ev cf a ρ S) fun x s S1 => andT (ev cf b ρ S1) fun y t S2 => if srcD a s = true ∧ srcD b t = true then (match zipD x y with
    | some (ds, es) => some ((ds.zip es).map (fun p => .tupw [p.1, p.2]), S2)
    | none => none) else none
  | .items a, ρ, S => andT (ev cf a ρ S) fun x _ S1 => match x with
    | .dictF ks vs => some ((ks.zip vs).map (fun p => .tupw [p.1, p.2]), S1)
    | _ => none
  | .keys a, ρ, S => andT (ev cf a ρ S) fun x _ S1 => match x with
    | .dictF ks _ => some (ks, S1)
    | _ => none
  | .vals a, ρ, S => andT (ev cf a ρ S) fun x _ S1 => match x with
    | .dictF _ vs => some (vs, S1)
    | _ => none
end

inductive Out where | nx (ρ : SEnv) (S : Store) | bk (ρ : SEnv) (S : Store) | ct (ρ : SEnv) (S : Store) | ret (d : D) (s : Stt) (S : Store)
def loopF (f : D → SEnv → Store → Option Out) : List D → SEnv → Store → Option Out
  | [], ρ, S => some (.nx ρ S)
  | d :: ds, ρ, S => match f d ρ S with
    | some (.nx ρ' S') => loopF f ds ρ' S'
    | some (.ct ρ' S') => loopF f ds ρ' S'
    | some (.bk ρ' S') => some (.nx ρ' S')
    | some (.ret d s S') => some (.ret d s S')
    | none => none
def loopW (c : SEnv → Store → R) (f : SEnv → Store → Option Out) : Nat → SEnv → Store → Option Out
  | 0, _, _ => none
  | n + 1, ρ, S => match c ρ S with
    | some (.bl true, _, S1) => match f ρ S1 with
      | some (.nx ρ' S') => loopW c f n ρ' S'
      | some (.ct ρ' S') => loopW c f n ρ' S'
      | some (.bk ρ' S') => some (.nx ρ' S')
      | some (.ret d s S') => some (.ret d s S')
      | none => none
    | some (.bl false, _, S1) => some (.nx ρ S1)
    | _ => none
def E.owns : E → List Nat
  | .own i => [i]
  | _ => []
def I.owns : I → List Nat
  | .over e => e.owns
  | .enum e => e.owns
  | .zip a b => a.owns ++ b.owns
  | _ => []
def ixQ (ts : List (Nat ⊕ List Nat)) : List Nat := ts.flatMap fun t => match t with | .inl i => [i] | .inr is => is
def Tg.ix : Tg → List Nat
  | .nm i => [i]
  | .tp is => is
  | .tq ts => ixQ ts
mutual
def T.touch : T → List Nat
  | .set i _ => [i] | .setO i _ => [i] | .setT is _ => is
  | .ifs _ a b => a.touch ++ b.touch
  | .for tg _ body => tg.ix ++ body.touch
  | .while _ _ body => body.touch
  | .app x _ => [x] | .appPop y x _ => [y, x] | .addPop i x _ => [i, x] | .setPop i x _ => [i, x] | .ins x _ _ => [x] | .ext x _ => [x]
  | .setIx x _ _ => [x] | .frz x => [x] | .lkx x => [x]
  | .forR tg _ body => tg.ix ++ body.touch | .setPop0 i x => [i, x]
  | _ => []
def Ts.touch : Ts → List Nat
  | .nil => []
  | .cons t ts => t.touch ++ ts.touch
end
def thenT (x : Option Out) (f : SEnv → Store → Option Out) : Option Out := match x with
  | some (.nx ρ S) => f ρ S
  | r => r
@[simp] theorem thenT_nx (ρ : SEnv) (S : Store) (f : SEnv → Store → Option Out) : thenT (some (.nx ρ S)) f = f ρ S := rfl
@[simp] theorem thenT_ret (d : D) (s : Stt) (S : Store) (f : SEnv → Store → Option Out) : thenT (some (.ret d s S)) f = some (.ret d s S) := rfl
@[simp] theorem thenT_bk (ρ : SEnv) (S : Store) (f : SEnv → Store → Option Out) : thenT (some (.bk ρ S)) f = some (.bk ρ S) := rfl
@[simp] theorem thenT_ct (ρ : SEnv) (S : Store) (f : SEnv → Store → Option Out) : thenT (some (.ct ρ S)) f = some (.ct ρ S) := rfl
@[simp] theorem thenT_none (f : SEnv → Store → Option Out) : thenT none f = none := rfl
/-- fields set one by one -/
def setFs (c : Nat) (o : Store → R) : List (Nat × D) → SEnv → Store → Option Out
  | [], ρ, S => some (.nx ρ S)
  | (x, z) :: r, ρ, S => andT (o S) fun v _ S2 => match v with
    | .ref l => match S2[l]? with
      | some (.ins c' fs) => if c' = c ∧ fs.length < 1000 then setFs c o r ρ (S2.set l (.ins c (putFD x z fs))) else none
      | _ => none
    | _ => none
mutual
def exe (cf : CF) : T → SEnv → Store → Option Out
  | .set i e, ρ, S => andT (fz (ev cf e ρ S)) fun d _ S1 => some (.nx (ρ.set i (.val d)) S1)
  | .setO i e, ρ, S => andT (ev cf e ρ S) fun d s S1 => match s with | .fresh => some (.nx (ρ.set i (.own d)) S1) | _ => none
  | .setT is e, ρ, S => andT (fz (ev cf e ρ S)) fun d _ S1 => match bindT (.tp is) d ρ with | some ρ1 => some (.nx ρ1 S1) | none => none
  | .ifs c a b, ρ, S => andT (ev cf c ρ S) fun d _ S1 => match d with | .bl true => exes cf a ρ S1 | .bl false => exes cf b ρ S1 | _ => none
  | .ret e, ρ, S => andT (ev cf e ρ S) fun d s S1 => match s with | .own => none | _ => some (.ret d s S1)
  | .retO i, ρ, S => match ρ[i]? with | some (.own d) => some (.ret d .fresh S) | _ => none
  | .retN, _, S => some (.ret .non .fr S)
  | .for tg it body, ρ, S => if it.owns.all (fun i => !((tg.ix ++ body.touch).contains i)) then match evI cf it ρ S with
    | some (ds, S1) => loopF (fun d ρ S => match bindT tg d ρ with | some ρ1 => exes cf body ρ1 S | none => none) ds ρ S1
    | none => none else none
  | .while n c body, ρ, S => loopW (fun ρ S => ev cf c ρ S) (fun ρ S => exes cf body ρ S) n ρ S
  | .brk, ρ, S => some (.bk ρ S)
  | .cont, ρ, S => some (.ct ρ S)
  | .pass, ρ, S => some (.nx ρ S)
  | .rai, _, _ => none
  | .ex e, ρ, S => andT (ev cf e ρ S) fun _ _ S1 => some (.nx ρ S1)
  | .app x e, ρ, S => andT (fz (ev cf e ρ S)) fun d _ S1 => match ρ[x]? with
    | some (.own (.lst ds)) => if ds.length < szL then some (.nx (ρ.set x (.own (.lst (ds ++ [d])))) S1) else none
    | _ => none
  | .appPop y x e, ρ, S => andT (ev cf e ρ S) fun d _ S1 => match d, ρ[x]?, ρ[y]? with
    | .int k, some (.own (.lst ds)), some (.own (.lst es)) => if decide (0 ≤ k) && decide (k < 16777216) && decide (es.length < szL) && !(x == y) then match ds[k.toNat]? with
      | some p => some (.nx ((ρ.set x (.own (.lst (ds.eraseIdx k.toNat)))).set y (.own (.lst (es ++ [p])))) S1)
      | none => none else none
    | _, _, _ => none
  | .addPop i x e, ρ, S => match ρ[i]? with
    | some (.val (.str s)) => andT (ev cf e ρ S) fun d _ S1 => match d, ρ[x]? with
      | .int k, some (.own (.lst ds)) => if decide (0 ≤ k) && decide (k < 16777216) && !(x == i) then match ds[k.toNat]? with
        | some (.str t) => if s.length + t.length ≤ szL then some (.nx ((ρ.set x (.own (.lst (ds.eraseIdx k.toNat)))).set i (.val (.str (s ++ t)))) S1) else none
        | _ => none else none
      | _, _ => none
    | _ => none
  | .setPop i x e, ρ, S => andT (ev cf e ρ S) fun d _ S1 => match d, ρ[x]? with
    | .int k, some (.own (.lst ds)) => if decide (0 ≤ k) && decide (k < 16777216) && !(x == i) then match ds[k.toNat]? with
      | some p => some (.nx ((ρ.set x (.own (.lst (ds.eraseIdx k.toNat)))).set i (.val p)) S1)
      | none => none else none
    | _, _ => none
  | .ins x a e, ρ, S => andT (ev cf a ρ S) fun d _ S1 => andT (fz (ev cf e ρ S1)) fun z _ S2 => match d, ρ[x]? with
    | .int k, some (.own (.lst ds)) => if decide (0 ≤ k) && decide (k < 16777216) && decide (ds.length < szL) then some (.nx (ρ.set x (.own (.lst (ds.take k.toNat ++ z :: ds.drop k.toNat)))) S2) else none
    | _, _ => none
  | .ext x e, ρ, S => andT (fz (ev cf e ρ S)) fun d _ S1 => match d, ρ[x]? with
    | .lst es, some (.own (.lst ds)) => if ds.length + es.length ≤ szL then some (.nx (ρ.set x (.own (.lst (ds ++ es)))) S1) else none
    | _, _ => none
  | .setIx x i e, ρ, S => andT (fz (ev cf e ρ S)) fun z _ S1 => andT (ev cf i ρ S1) fun k _ S2 => match ρ[x]?, k with
    | some (.own (.lst ds)), .int k => match ixN ds.length k with
      | some j => some (.nx (ρ.set x (.own (.lst (ds.set j z)))) S2)
      | none => none
    | some (.own (.dict ks vs)), k => match keyD k with
      | some _ => if ks.length < szL then let r := putD k z ks vs; some (.nx (ρ.set x (.own (.dict r.1 r.2))) S2) else none
      | none => none
    | _, _ => none
  | .setIxR o i e, ρ, S => andT (fz (ev cf e ρ S)) fun z _ S1 => andT (ev cf o ρ S1) fun x _ S2 => andT (ev cf i ρ S2) fun k _ S3 => match x with
    | .ref l => match S3[l]?, k with
      | some (.lst ds), .int k => match ixN ds.length k with
        | some j => some (.nx ρ (S3.set l (.lst (ds.set j z))))
        | none => none
      | some (.dict ks vs), k => match keyD k with
        | some _ => if ks.length < szL then let r := putD k z ks vs; some (.nx ρ (S3.set l (.dict r.1 r.2))) else none
        | none => none
      | _, _ => none
    | _ => none
  | .appR o e, ρ, S => andT (ev cf o ρ S) fun x _ S1 => andT (fz (ev cf e ρ S1)) fun z _ S2 => match x with
    | .ref l => match S1[l]?, S2[l]? with
      | some (.lst _), some (.lst ds) => if ds.length < szL then some (.nx ρ (S2.set l (.lst (ds ++ [z])))) else none
      | _, _ => none
    | _ => none
  | .frz x, ρ, S => match ρ[x]? with | some (.own d) => some (.nx (ρ.set x (.val d)) S) | _ => none
  | .lkx x, ρ, S => match ρ[x]? with | some (.own (.dict ks vs)) => some (.nx (ρ.set x (.val (.dictF ks vs))) S) | _ => none
  | .setF c o x e, ρ, S => andT (fz (ev cf e ρ S)) fun z _ S1 => andT (ev cf o ρ S1) fun v _ S2 => match v with
    | .ref l => match S2[l]? with
      | some (.ins c' fs) => if c' = c ∧ fs.length < 1000 then some (.nx ρ (S2.set l (.ins c (putFD x z fs)))) else none
      | _ => none
    | _ => none
  | .forR tg e body, ρ, S => andT (ev cf e ρ S) fun x _ S1 => match x with
    | .ref l => match S1[l]? with
      | some (.lst ds) => match loopF (fun k ρ S => match k, S[l]? with
        | .int i, some (.lst es) => if es.length = ds.length then match es[i.toNat]? with
          | some d => (match bindT tg d ρ with | some ρ1 => exes cf body ρ1 S | none => none)
          | none => none else none
        | _, _ => none) ((List.range ds.length).map fun k : Nat => D.int (k : Int)) ρ S1 with
        | some (.nx ρ' S') => match S'[l]? with
          | some (.lst es) => if es.length = ds.length then some (.nx ρ' S') else none
          | _ => none
        | r => r
      | _ => none
    | _ => none
  | .setPop0 i x, ρ, S => match ρ[x]? with
    | some (.own (.lst ds)) => if x == i then none else match ds.getLast? with
      | some p => some (.nx ((ρ.set x (.own (.lst ds.dropLast))).set i (.val p)) S)
      | none => none
    | _ => none
  | .setFT c o xs e, ρ, S => andT (fz (ev cf e ρ S)) fun z _ S1 => match z with
    | .tup ds => if ds.length = xs.length then setFs c (fun S => ev cf o ρ S) (xs.zip ds) ρ S1 else none
    | _ => none
def exes (cf : CF) : Ts → SEnv → Store → Option Out
  | .nil, ρ, S => some (.nx ρ S)
  | .cons t ts, ρ, S => thenT (exe cf t ρ S) fun ρ' S' => exes cf ts ρ' S'
end
/-- a def: how many parameters, its names, its body -/
structure FD where
  np : Nat
  ns : Nat
  body : Ts
def runF (cf : CF) (f : FD) (args : List D) (S : Store) : R :=
  if args.length = f.np then match exes cf f.body (args.map Slot.val ++ List.replicate (f.ns - f.np) Slot.no) S with
    | some (.ret d s S') => some (d, s, S')
    | some (.nx _ S') => some (.non, .fr, S')
    | _ => none else none
/-- calls, n deep at most -/
def callN (tab : Nat → Option FD) : Nat → CF
  | 0 => fun _ _ _ => none
  | n + 1 => fun f args S => match tab f with | some fd => runF (callN tab n) fd args S | none => none
end PyI
namespace PyI
open PySem L2

section
variable {K : PySem.W.Frag} {M : Nm} {H H' : Hp} {Z Z' : Addr → Prop} {ι ι' : Nat → Addr} {n n' : Nat}

theorem Reps.length : ∀ {xs : List V} {ds : List D}, Reps K H Z ι n xs ds → xs.length = ds.length
  | _, _, .nil => rfl
  | _, _, .cons _ r => by simp [Reps.length r]
theorem Reps.get : ∀ {xs : List V} {ds : List D} {i : Nat} {d : D}, Reps K H Z ι n xs ds → ds[i]? = some d → ∃ v, xs[i]? = some v ∧ Rep K H Z ι n v d
  | _, _, i, d, .nil, h => by simp at h
  | _, _, 0, d, .cons r _, h => by simp at h; subst h; exact ⟨_, rfl, r⟩
  | _, _, i + 1, d, .cons _ r, h => by
    obtain ⟨v, h1, h2⟩ := Reps.get (i := i) (d := d) r (by simpa using h)
    exact ⟨v, by simpa using h1, h2⟩
theorem Reps.getV : ∀ {xs : List V} {ds : List D} {i : Nat} {v : V}, Reps K H Z ι n xs ds → xs[i]? = some v → ∃ d, ds[i]? = some d ∧ Rep K H Z ι n v d
  | _, _, i, d, .nil, h => by simp at h
  | _, _, 0, d, .cons r _, h => by simp at h; subst h; exact ⟨_, rfl, r⟩
  | _, _, i + 1, d, .cons _ r, h => by
    obtain ⟨v, h1, h2⟩ := Reps.getV (i := i) (v := d) r (by simpa using h)
    exact ⟨v, by simpa using h1, h2⟩
theorem Reps.append : ∀ {xs ys : List V} {ds es : List D}, Reps K H Z ι n xs ds → Reps K H Z ι n ys es → Reps K H Z ι n (xs ++ ys) (ds ++ es)
  | _, _, _, _, .nil, s => s
  | _, _, _, _, .cons r t, s => .cons r (Reps.append t s)
theorem Reps.take : ∀ {xs : List V} {ds : List D} (k : Nat), Reps K H Z ι n xs ds → Reps K H Z ι n (xs.take k) (ds.take k)
  | _, _, 0, _ => .nil
  | _, _, _ + 1, .nil => .nil
  | _, _, k + 1, .cons r t => .cons r (Reps.take k t)
theorem Reps.drop : ∀ {xs : List V} {ds : List D} (k : Nat), Reps K H Z ι n xs ds → Reps K H Z ι n (xs.drop k) (ds.drop k)
  | _, _, 0, r => r
  | _, _, _ + 1, .nil => .nil
  | _, _, k + 1, .cons _ t => Reps.drop k t
theorem Reps.set {v : V} {d : D} (r : Rep K H Z ι n v d) : ∀ {xs : List V} {ds : List D} (k : Nat), Reps K H Z ι n xs ds → Reps K H Z ι n (xs.set k v) (ds.set k d)
  | _, _, _, .nil => .nil
  | _, _, 0, .cons _ t => .cons r t
  | _, _, k + 1, .cons q t => .cons q (Reps.set r k t)
theorem Reps.erase : ∀ {xs : List V} {ds : List D} (k : Nat), Reps K H Z ι n xs ds → Reps K H Z ι n (xs.eraseIdx k) (ds.eraseIdx k)
  | _, _, _, .nil => .nil
  | _, _, 0, .cons _ t => t
  | _, _, k + 1, .cons q t => .cons q (Reps.erase k t)
theorem Reps.rev : ∀ {xs : List V} {ds : List D}, Reps K H Z ι n xs ds → Reps K H Z ι n xs.reverse ds.reverse
  | _, _, .nil => .nil
  | _, _, .cons r t => by
    rw [List.reverse_cons, List.reverse_cons]
    exact (Reps.rev t).append (.cons r .nil)
theorem Reps.ints : ∀ {xs : List V} {ds : List D} {ns : List Int}, Reps K H Z ι n xs ds → intsD ds = some ns → xs = ns.map V.int
  | _, _, ns, .nil, h => by simp [intsD] at h; subst h; rfl
  | _, _, ns, .cons (d := d) (ds := ds) r t, h => by
    cases r <;> simp [intsD] at h
    obtain ⟨ms, h1, rfl⟩ := h
    rw [Reps.ints t h1]; rfl
theorem Reps.strs : ∀ {xs : List V} {ds : List D} {ns : List (List Nat)}, Reps K H Z ι n xs ds → strsD ds = some ns → xs = (ns.map txt).map V.str
  | _, _, ns, .nil, h => by simp [strsD] at h; subst h; rfl
  | _, _, ns, .cons (d := d) (ds := ds) r t, h => by
    cases r <;> simp [strsD] at h
    obtain ⟨ms, h1, rfl⟩ := h
    rw [Reps.strs t h1]; rfl
theorem Reps.bools : ∀ {xs : List V} {ds : List D} {ns : List Bool}, Reps K H Z ι n xs ds → boolsD ds = some ns → xs = ns.map V.bl
  | _, _, ns, .nil, h => by simp [boolsD] at h; subst h; rfl
  | _, _, ns, .cons (d := d) (ds := ds) r t, h => by
    cases r <;> simp [boolsD] at h
    obtain ⟨ms, h1, rfl⟩ := h
    rw [Reps.bools t h1]; rfl
theorem reps_ints : ∀ ns : List Int, Reps K H Z ι n (ns.map V.int) (ns.map D.int)
  | [] => .nil
  | n :: ns => .cons (.int n) (reps_ints ns)
theorem reps_strs : ∀ ns : List (List Nat), Reps K H Z ι n ((ns.map txt).map V.str) (ns.map D.str)
  | [] => .nil
  | n :: ns => .cons (.str n) (reps_strs ns)

theorem RdV.non {v : V} (h : RdV K H Z ι n v .non) : v = .non := by
  rcases h with h | ⟨a, _, h⟩
  · cases h; rfl
  · exact h.elim
theorem RdV.bl {v : V} {b : Bool} (h : RdV K H Z ι n v (.bl b)) : v = .bl b := by
  rcases h with h | ⟨a, _, h⟩
  · cases h; rfl
  · exact h.elim
theorem RdV.int {v : V} {b : Int} (h : RdV K H Z ι n v (.int b)) : v = .int b := by
  rcases h with h | ⟨a, _, h⟩
  · cases h; rfl
  · exact h.elim
theorem RdV.str {v : V} {b : List Nat} (h : RdV K H Z ι n v (.str b)) : v = .str (txt b) := by
  rcases h with h | ⟨a, _, h⟩
  · cases h; rfl
  · exact h.elim
theorem RdV.tupP {v : V} {ds : List D} (h : RdV K H Z ι n v (.tup ds)) : ∃ a xs, v = .ref a ∧ SqTP H a xs ∧ Reps K H Z ι n xs ds := by
  rcases h with h | ⟨a, _, h⟩
  · cases h with
    | tup h1 h2 => exact ⟨_, _, rfl, h1, h2⟩
  · exact h.elim
theorem RdV.tup {v : V} {ds : List D} (h : RdV K H Z ι n v (.tup ds)) : ∃ a xs, v = .ref a ∧ SqT K H a xs ∧ Reps K H Z ι n xs ds := by
  obtain ⟨a, xs, e, h1, h2⟩ := h.tupP
  exact ⟨a, xs, e, h1.sq, h2⟩
theorem RdV.lst {v : V} {ds : List D} (h : RdV K H Z ι n v (.lst ds)) : ∃ a xs, v = .ref a ∧ H a = some (.lst xs) ∧ Reps K H Z ι n xs ds := by
  rcases h with h | ⟨a, e, xs, h1, h2⟩
  · cases h; exact ⟨_, _, rfl, by assumption, by assumption⟩
  · exact ⟨a, xs, e, h1, h2⟩
theorem RdV.dict {v : V} {ks ds : List D} (h : RdV K H Z ι n v (.dict ks ds)) : ∃ a, ∃ kvs : List (Key × V), v = .ref a ∧ Rd H a (.dK kvs) ∧ Reps K H Z ι n (kvs.map fun p => kV p.1) ks ∧ Reps K H Z ι n (kvs.map (·.2)) ds := by
  rcases h with h | ⟨a, e, xs, h1, h2, h3⟩
  · cases h; exact ⟨_, _, rfl, .inl (by assumption), by assumption, by assumption⟩
  · exact ⟨a, xs, e, h1, h2, h3⟩
theorem RdV.scr {v : V} {ns : List Int} (h : RdV K H Z ι n v (.scr ns)) : ∃ a, v = .ref a ∧ SqL K H a (ns.map V.int) := by
  rcases h with h | ⟨a, _, h⟩
  · cases h; exact ⟨_, rfl, ScL.sq (by assumption)⟩
  · exact h.elim
theorem VR.rd {H0 : Hp} {st : Stt} {v : V} {d : D} (h : VR K H Z ι n H0 st v d) : RdV K H Z ι n v d := by
  cases st with
  | fr => exact .inl h
  | fresh => obtain ⟨a, e, _, _, _, l⟩ := h; exact .inr ⟨a, e, l.lq⟩
  | own => obtain ⟨a, e, _, _, l⟩ := h; exact .inr ⟨a, e, l.lq⟩
theorem DGet.kR {H : Hp} {a : Addr} {kvs : List (Key × V)} {k : Key} (e : Rd H a (.dK kvs)) : DGet H a (kV k) (valV kvs k) := .inl ⟨kvs, k, e, rfl, rfl⟩
/-- a locked dict is read as a dict -/
theorem Rep.unF {v : V} {ks ds : List D} (h : Rep K H Z ι n v (.dictF ks ds)) : RdV K H Z ι n v (.dict ks ds) := by
  cases h with
  | dictF h1 h2 h3 => exact .inr ⟨_, rfl, _, .inr ⟨_, h1⟩, h2, h3⟩

/-- a value that an operation makes -/
def NV (K : PySem.W.Frag) (H : Hp) (Z : Addr → Prop) (ι : Nat → Addr) (n : Nat) (H' : Hp) (v : V) (d : D) : Prop :=
  match stD d with
  | .fresh => ∃ a, v = .ref a ∧ H a = none ∧ LR K H' Z ι n a d
  | _ => Rep K H' Z ι n v d
def Grow (H H' : Hp) : Prop := ∀ a o, H a = some o → H' a = some o
theorem Grow.keep (g : Grow H H') : Keep K H Z ι n H' Z ι n :=
  ⟨Nat.le_refl _, fun _ _ => rfl, fun _ z => z, fun a xs q => Rd.move q fun o e => g a o e, fun a o _ e => g a o e, fun a o u e => g a _ e⟩
/-- two operands -/
def rB (K : PySem.W.Frag) (f : D → D → Option D) : R2 := fun x y H Q => ∃ Z ι n a b d, RdV K H Z ι n x a ∧ RdV K H Z ι n y b ∧ f a b = some d ∧
  ∀ v H', Grow H H' → NV K H Z ι n H' v d → Q v H'
/-- the operands of a call -/
def rC (K : PySem.W.Frag) (f : List D → Option D) : List V → Hp → VK → Prop := fun vs H Q => ∃ Z ι n ds d, Paired (RdV K H Z ι n) vs ds ∧ f ds = some d ∧
  ∀ v H', Grow H H' → NV K H Z ι n H' v d → Q v H'
theorem Grow.refl : Grow H H := fun _ _ h => h
theorem Grow.new {p : Addr} {o : HO} (hp : H p = none) : Grow H (upd H p o) := grow_upd hp

mutual
theorem Rep.dp : ∀ {v : V} {d : D} (k : Nat), Rep K H Z ι n v d → shp k d = true → Dp K H v (toP d)
  | _, _, _, .non, _ => .non
  | _, _, _, .bl b, _ => .bl b
  | _, _, _, .int i, _ => .int i
  | _, _, _, .str s, _ => .str _
  | _, _, 0, .tup _ _, h => by simp [shp] at h
  | _, _, k + 1, .tup q r, h => .tup q.sq (Reps.dp k r (by simpa [shp] using h))
  | _, _, 0, .tupw _ _, h => by simp [shp] at h
  | _, _, _ + 1, .tupw _ _, h => by simp [shp] at h
  | _, _, 0, .lst _ _ _, h => by simp [shp] at h
  | _, _, k + 1, .lst _ q r, h => .lst (SqL.of q) (Reps.dp k r (by simpa [shp] using h))
  | _, _, 0, .scr _, h => by simp [shp] at h
  | _, _, _ + 1, .scr _, h => by simp [shp] at h
  | _, _, 0, .dict _ _ _ _, h => by simp [shp] at h
  | _, _, _ + 1, .dict _ _ _ _, h => by simp [shp] at h
  | _, _, 0, .ref _, h => by simp [shp] at h
  | _, _, _ + 1, .ref _, h => by simp [shp] at h
  | _, _, 0, .dictF _ _ _, h => by simp [shp] at h
  | _, _, _ + 1, .dictF _ _ _, h => by simp [shp] at h
theorem Reps.dp : ∀ {vs : List V} {ds : List D} (k : Nat), Reps K H Z ι n vs ds → shps k ds = true → DpAll K H vs (toPs ds)
  | _, _, _, .nil, _ => .nil
  | _, _, k, .cons r t, h => by
    simp only [shps, Bool.and_eq_true] at h
    exact .cons (Rep.dp k r h.1) (Reps.dp k t h.2)
end
theorem RdV.dp {v : V} {d : D} {k : Nat} (h : RdV K H Z ι n v d) (s : shp k d = true) : Dp K H v (toP d) := by
  rcases h with h | ⟨a, e, l⟩
  · exact h.dp k s
  · subst e
    cases d with
    | lst ds =>
      obtain ⟨xs, h1, h2⟩ := l
      cases k with
      | zero => simp [shp] at s
      | succ k => exact .lst (SqL.of h1) (h2.dp k (by simpa [shp] using s))
    | dict ks vs => cases k <;> simp [shp] at s
    | _ => exact l.elim
theorem strOk_txt {s : List Nat} (h : cpOk s = true) : PyData.strOk (txt s) = true := by
  unfold cpOk at h
  unfold PyData.strOk txt
  rw [Array.all_eq_true_iff_forall_mem]
  intro x hx
  have := List.all_eq_true.mp h x (by simpa using hx)
  simpa using this
mutual
theorem can_toP : ∀ (d : D) (k : Nat), shp k d = true → (toP d).canLay0 = true
  | .non, _, _ => by simp [toP, PyData.canLay0]
  | .bl _, _, _ => by simp [toP, PyData.canLay0]
  | .int _, _, _ => by simp [toP, PyData.canLay0]
  | .str s, k, h => by
    simp only [toP, PyData.canLay0]
    exact strOk_txt (by cases k <;> simpa [shp] using h)
  | .tup ds, k, h => by
    cases k with
    | zero => simp [shp] at h
    | succ k => simp only [toP, PyData.canLay0]; exact can_toPs ds k (by simpa [shp] using h)
  | .lst ds, k, h => by
    cases k with
    | zero => simp [shp] at h
    | succ k => simp only [toP, PyData.canLay0]; exact can_toPs ds k (by simpa [shp] using h)
  | .dict _ _, k, h => by cases k <;> simp [shp] at h
  | .ref _, k, h => by cases k <;> simp [shp] at h
  | .scr _, k, h => by cases k <;> simp [shp] at h
  | .tupw _, k, h => by cases k <;> simp [shp] at h
theorem can_toPs : ∀ (ds : List D) (k : Nat), shps k ds = true → PyData.canLayAll0 (toPs ds) = true
  | [], _, _ => by simp [toPs, PyData.canLayAll0]
  | d :: ds, k, h => by
    simp only [shps, Bool.and_eq_true] at h
    simp only [toPs, PyData.canLayAll0, Bool.and_eq_true]
    exact ⟨can_toP d k h.1, can_toPs ds k h.2⟩
end
mutual
theorem depth_toP : ∀ (d : D) (k : Nat), shp k d = true → (toP d).depth ≤ k
  | .non, _, _ => by simp [toP, PyData.depth]
  | .bl _, _, _ => by simp [toP, PyData.depth]
  | .int _, _, _ => by simp [toP, PyData.depth]
  | .str s, k, h => by simp [toP, PyData.depth]
  | .tup ds, k, h => by
    cases k with
    | zero => simp [shp] at h
    | succ k =>
      simp only [toP, PyData.depth]
      have := depth_toPs ds k (by simpa [shp] using h)
      omega
  | .lst ds, k, h => by
    cases k with
    | zero => simp [shp] at h
    | succ k =>
      simp only [toP, PyData.depth]
      have := depth_toPs ds k (by simpa [shp] using h)
      omega
  | .dict _ _, k, h => by cases k <;> simp [shp] at h
  | .ref _, k, h => by cases k <;> simp [shp] at h
  | .scr _, k, h => by cases k <;> simp [shp] at h
  | .tupw _, k, h => by cases k <;> simp [shp] at h
theorem depth_toPs : ∀ (ds : List D) (k : Nat), shps k ds = true → PyData.depthAll (toPs ds) ≤ k
  | [], _, _ => by simp [toPs, PyData.depthAll]
  | d :: ds, k, h => by
    simp only [shps, Bool.and_eq_true] at h
    simp only [toPs, PyData.depthAll]
    have h1 := depth_toP d k h.1
    have h2 := depth_toPs ds k h.2
    omega
end
theorem shaped_toP {d : D} {k : Nat} (hk : k ≤ 64) (h : shp k d = true) : SeqAt.shaped (toP d) = true := by
  unfold SeqAt.shaped
  rw [Bool.and_eq_true]
  exact ⟨can_toP d k h, decide_eq_true (Nat.le_trans (depth_toP d k h) hk)⟩
theorem txt_beq (x y : List Nat) : (txt x == txt y) = (x == y) := by
  by_cases h : x = y
  · subst h; simp
  · have : txt x ≠ txt y := fun e => h (txt_inj e)
    rw [beq_eq_false_iff_ne.mpr this, beq_eq_false_iff_ne.mpr h]
mutual
theorem eqv_toP : ∀ (d e : D) (k j : Nat), shp k d = true → shp j e = true → PyData.eqv (toP d) (toP e) = deq d e
  | .dict _ _, e, k, j, h, _ => by cases k <;> simp [shp] at h
  | .ref _, e, k, j, h, _ => by cases k <;> simp [shp] at h
  | .scr _, e, k, j, h, _ => by cases k <;> simp [shp] at h
  | .tupw _, e, k, j, h, _ => by cases k <;> simp [shp] at h
  | d, .dict _ _, k, j, _, h => by cases j <;> simp [shp] at h
  | d, .ref _, k, j, _, h => by cases j <;> simp [shp] at h
  | d, .scr _, k, j, _, h => by cases j <;> simp [shp] at h
  | d, .tupw _, k, j, _, h => by cases j <;> simp [shp] at h
  | .tup ds, .tup es, k, j, h, g => by
    cases k with
    | zero => simp [shp] at h
    | succ k =>
      cases j with
      | zero => simp [shp] at g
      | succ j =>
        simp only [toP, PyData.eqv, deq]
        exact eqv_toPs ds es k j (by simpa [shp] using h) (by simpa [shp] using g)
  | .lst ds, .lst es, k, j, h, g => by
    cases k with
    | zero => simp [shp] at h
    | succ k =>
      cases j with
      | zero => simp [shp] at g
      | succ j =>
        simp only [toP, PyData.eqv, deq]
        exact eqv_toPs ds es k j (by simpa [shp] using h) (by simpa [shp] using g)
  | .str x, .str y, _, _, _, _ => by simp only [toP, PyData.eqv, deq, txt_beq]
  | .non, .non, _, _, _, _ | .non, .bl _, _, _, _, _ | .non, .int _, _, _, _, _ | .non, .str _, _, _, _, _ | .non, .tup _, _, _, _, _ | .non, .lst _, _, _, _, _ => by simp [toP, PyData.eqv, deq]
  | .bl _, .non, _, _, _, _ | .bl _, .bl _, _, _, _, _ | .bl _, .int _, _, _, _, _ | .bl _, .str _, _, _, _, _ | .bl _, .tup _, _, _, _, _ | .bl _, .lst _, _, _, _, _ => by simp [toP, PyData.eqv, deq, b2i']
  | .int _, .non, _, _, _, _ | .int _, .bl _, _, _, _, _ | .int _, .int _, _, _, _, _ | .int _, .str _, _, _, _, _ | .int _, .tup _, _, _, _, _ | .int _, .lst _, _, _, _, _ => by simp [toP, PyData.eqv, deq, b2i']
  | .str _, .non, _, _, _, _ | .str _, .bl _, _, _, _, _ | .str _, .int _, _, _, _, _ | .str _, .tup _, _, _, _, _ | .str _, .lst _, _, _, _, _ => by simp [toP, PyData.eqv, deq]
  | .tup _, .non, _, _, _, _ | .tup _, .bl _, _, _, _, _ | .tup _, .int _, _, _, _, _ | .tup _, .str _, _, _, _, _ | .tup _, .lst _, _, _, _, _ => by simp [toP, PyData.eqv, deq]
  | .lst _, .non, _, _, _, _ | .lst _, .bl _, _, _, _, _ | .lst _, .int _, _, _, _, _ | .lst _, .str _, _, _, _, _ | .lst _, .tup _, _, _, _, _ => by simp [toP, PyData.eqv, deq]
theorem eqv_toPs : ∀ (ds es : List D) (k j : Nat), shps k ds = true → shps j es = true → PyData.eqvAll (toPs ds) (toPs es) = deqs ds es
  | [], [], _, _, _, _ => by simp [toPs, PyData.eqvAll, deqs]
  | [], _ :: _, _, _, _, _ => by simp [toPs, PyData.eqvAll, deqs]
  | _ :: _, [], _, _, _, _ => by simp [toPs, PyData.eqvAll, deqs]
  | d :: ds, e :: es, k, j, h, g => by
    simp only [shps, Bool.and_eq_true] at h g
    simp only [toPs, PyData.eqvAll, deqs]
    rw [eqv_toP d e k j h.1 g.1, eqv_toPs ds es k j h.2 g.2]
end
end
end PyI
namespace PyI
open PySem PySem.Spec PyProof.Rows L2 HT
variable {X : Cx}
/-- what a new tuple gives -/
def nT (xs : List V) (H : Hp) (Q : VK) : Prop := ∀ p (o : Obj), H p = none → o.cls = .type "tuple" → o.dict = none → Q (.ref p) (upd H p (.frz o (.tup xs)))
theorem laidT {pins : List (Addr × Obj)} {σ : L2.St} {H : Hp} {s : Shared} {vs : List V} {us : List Value} {Q : VK} {k : Nat} {h' : Heap} (I : Inv X pins σ H s) (r : Vals vs us) (hz : vs.length ≤ sizeLine)
    (kp : ∀ b u, s.heap.get? b = some u → h'.get? b = some u) (hn : h'.get? s.heap.objs.size = some { cls := .type "tuple", data := .seq us.toArray }) (h : nT vs H Q) :
    EP X pins σ Q (.ref s.heap.objs.size) { s with toks := k, heap := h' } := by
  have hp := I.hok.fresh (Nat.le_refl _)
  exact ⟨.ref s.heap.objs.size, upd H s.heap.objs.size (.frz { cls := .type "tuple", data := .seq us.toArray } (.tup vs)), I.laid kp (Nat.le_refl _) ⟨hn, hz, us, r, ⟨_, hn, rfl, _, rfl⟩⟩, rfl, h _ _ hp rfl rfl⟩
theorem laidTp {pins : List (Addr × Obj)} {σ : L2.St} {H : Hp} {s : Shared} {vs : List V} {us : List Value} {Q : VK} (I : Inv X pins σ H s) (r : Vals vs us) (hz : vs.length ≤ sizeLine) (h : nT vs H Q) :
    EP X pins σ Q (.ref s.heap.objs.size) { s with heap := s.heap.push { cls := .type "tuple", data := .seq us.toArray } } :=
  laidT (k := s.toks) I r hz (fun b u q => Heap.get?_push_of_some _ q) (Heap.get?_push_size _ rfl) h
def rCatP (K : PySem.W.Frag) : R2 := fun x y H Q => ∃ a b xs ys, x = .ref a ∧ y = .ref b ∧ SqT K H a xs ∧ SqT K H b ys ∧ xs.length + ys.length ≤ sizeLine ∧
  (xs = [] → Q (.ref b) H) ∧ (xs ≠ [] → ys = [] → Q (.ref a) H) ∧ (xs ≠ [] → ys ≠ [] → nT (xs ++ ys) H Q)
theorem op_catP : OpR X (binaryOp .Add) (rCatP X.K) := by
  intro pins s σ H x y v u Q I rx ry h
  obtain ⟨a, b, xs, ys, rfl, rfl, ha, hb, hz, q0, q1, q2⟩ := h
  cases rx
  cases ry
  obtain ⟨its, r1, p1, _⟩ := I.tuple ha
  obtain ⟨its2, r2, p2, _⟩ := I.tuple hb
  by_cases hx : xs = []
  · subst hx
    cases r1
    exact cat_tup0 p1 p2 ⟨.ref b, H, I, rfl, q0 rfl⟩
  · refine HT.cat_tup p1 p2 (fun z => hx (r1.nil_iff.mp z)) (fun z => ⟨.ref a, H, I, rfl, q1 hx (r2.nil_iff.mp z)⟩) (fun z => ?_) (by rw [← r1.length, ← r2.length]; exact hz)
    exact laidTp I (r1.append r2) (by rw [List.length_append]; exact hz) (q2 hx fun w => z (r2.nil_iff.mpr w))
def rSlP (K : PySem.W.Frag) : V → Option Int → Option Int → Hp → VK → Prop := fun x lo hi H Q => ∃ a xs, x = .ref a ∧ SqT K H a xs ∧
  (HT.sIx xs.length 0 lo = 0 ∧ HT.sIx xs.length xs.length hi = xs.length → Q (.ref a) H) ∧ (¬ (HT.sIx xs.length 0 lo = 0 ∧ HT.sIx xs.length xs.length hi = xs.length) → nT (cutV xs lo hi) H Q)
theorem sl_tupP : SlR X (rSlP X.K) := by
  intro pins s σ H x v vl vu lo hi sl Q I rx hs pl pu h
  obtain ⟨a, xs, rfl, hx, q1, q2⟩ := h
  cases rx
  obtain ⟨its, r, ht, hz⟩ := I.tuple hx
  have hlen : its.toArray.size = xs.length := by rw [List.size_toArray]; exact r.length.symm
  by_cases hw : HT.sIx xs.length 0 lo = 0 ∧ HT.sIx xs.length xs.length hi = xs.length
  · refine ⟨"tuple", _, PyProof.Rows.slot_tuple_getitem.lookup, ht.typeIs, ?_⟩
    exact getItem_tuple_whole ht hs pl pu (by rw [hlen]; exact hw) ⟨.ref a, H, I, rfl, q1 hw⟩
  · refine ⟨"tuple", _, PyProof.Rows.slot_tuple_getitem.lookup, ht.typeIs, ?_⟩
    refine HT.getItem_tuple_cut ht hs pl pu (by rw [hlen]; exact hw) ?_ (by rw [hlen]; exact hz)
    rw [hlen]
    exact laidTp I ((r.drop (HT.sIx xs.length 0 lo)).take (HT.sIx xs.length xs.length hi - HT.sIx xs.length 0 lo)) (Nat.le_trans (cutV_length xs lo hi) hz) (q2 hw)
theorem call_tupleP : CallR X (.type "tuple") (fun xs H Q => ∃ p ys, xs = [.ref p] ∧ ((SqL X.K H p ys ∧ nT ys H Q) ∨ (SqT X.K H p ys ∧ Q (.ref p) H))) := by
  intro pins s σ H xs us Q I r h
  obtain ⟨p, ys, rfl, h⟩ := h
  obtain ⟨u, rfl, rx⟩ := vals1 r
  cases rx
  rcases h with ⟨hq, q⟩ | ⟨hq, q⟩
  · obtain ⟨its, r', pl, hz⟩ := I.list hq
    have hlen := r'.length
    refine call_tuple_list pl.isList (fun h' kp => ?_) (by simp only [List.size_toArray] <;> omega)
    have I1 : Inv X pins σ H { s with heap := h' } := I.kept (t' := s.toks) kp
    exact laidTp I1 r' hz q
  · obtain ⟨its, r', pl, hz⟩ := I.tuple hq
    exact call_tuple_same pl ⟨.ref p, H, I, rfl, q⟩
def tTupP (t : TA) : TE := fun σ H Q => t σ H fun xs H1 => xs.length ≤ sizeLine ∧ nT xs H1 Q
theorem pe_tupP {es : List Expr} {t : TA} {pos : Pos} {x1} (h : PA X es t) : PE X (.Tuple es x1 pos) (tTupP t) := by
  refine ⟨fun pins s σ H Q I hq => ?_⟩
  refine wpAny_Tuple_spliced (thn (h.run pos pins s σ H _ I hq) fun us s1 ⟨xs, H1, I1, r, z, q⟩ => ⟨by rw [← r.length]; exact z, ?_⟩)
  exact laidTp I1 r z q
end PyI
namespace PyI
open PySem PySem.Spec L2
variable {X : Cx}
theorem call_dictT (hcalm : X.calm = true) : CallR X (.type "dict") (fun xs H Q => ∃ (a : Addr) (ps : List Addr) (kvs : List (Key × V)), xs = [.ref a] ∧ SqTP H a (ps.map V.ref) ∧ Paired (fun p kv => SqT X.K H p [kV kv.1, kv.2]) ps kvs ∧
    ∀ p, H p = none → Q (.ref p) (upd H p (.dK (mergeK [] kvs)))) := by
  intro pins s σ H xs us Q I r q
  obtain ⟨a, ps, kvs, ex, hq, hp, q⟩ := q
  subst ex
  obtain ⟨u, eu, rx⟩ := vals1 r
  subst eu
  cases rx
  obtain ⟨o, hHa, hcls, hdict⟩ := hq
  obtain ⟨hget, hz, its, rv, pt⟩ := I.hok a _ hHa
  have ei := refs_at rv
  subst ei
  rw [List.length_map] at hz
  obtain ⟨prs, rel, hl, hpr⟩ := pairs_of I hp
  obtain ⟨o', ho', _, n, hdat⟩ := pt
  have : o' = o := Option.some.inj (ho'.symm.trans hget)
  subst this
  have ex : ∃ qs : List (Value × Value), qs.length = prs.length ∧ ∀ (j : Nat) (q : Key × Value), prs[j]? = some q → ∃ (b : Addr) (u : Value), qs[j]? = some (u, q.2) ∧ ps[j]? = some b ∧ s.heap.IsTuple b #[u, q.2] ∧ keyIs q.1 u = true := by
    clear rel hl
    generalize ps = ps at hpr
    induction prs generalizing ps with
    | nil => exact ⟨[], rfl, fun j q e => by simp at e⟩
    | cons x xs ih =>
      obtain ⟨b, u, e1, e2, e3⟩ := hpr 0 x rfl
      cases ps with
      | nil => simp at e1
      | cons p ps =>
        obtain ⟨qs, h1, h2⟩ := ih ps fun j q e => by
          obtain ⟨b, u, q1, q2⟩ := hpr (j + 1) q (by simpa using e)
          exact ⟨b, u, by simpa using q1, q2⟩
        refine ⟨(u, x.2) :: qs, by simp [h1], fun j q e => ?_⟩
        cases j with
        | zero => simp at e; subst e; exact ⟨b, u, rfl, e1, e2, e3⟩
        | succ j =>
          obtain ⟨b, u, q1, q2, q3⟩ := h2 j q (by simpa using e)
          exact ⟨b, u, by simpa using q1, by simpa using q2, q3⟩
  obtain ⟨qs, hql, hqs⟩ := ex
  refine PySem.call_dict_pairs (knd := mixKind X.prog X.w) (kvs := prs) (PairArg.tuple a (ps.map Value.ref).toArray (fun j => (ps[j]?).getD 0) qs) (I.ok.hd hcalm) ⟨⟨o', n, hget, hcls, hdict, hdat⟩, ?_, fun j k v e => ?_⟩ ⟨hql.symm, fun i k v e => ?_⟩ ?_ fun h' tk hd' kp => ?_
  · simp [hql, hl]
  · obtain ⟨q, hq⟩ : ∃ q, prs[j]? = some q := ⟨_, List.getElem?_eq_getElem (by rw [← hql]; exact (List.getElem?_eq_some_iff.mp e).1)⟩
    obtain ⟨b, u, q1, q2, q3, _⟩ := hqs j q hq
    rw [q1] at e
    cases e
    refine ⟨by simp [q2], ?_⟩
    simp only [q2, Option.getD_some]
    exact .inl q3
  · obtain ⟨q, hq⟩ : ∃ q, prs[i]? = some q := ⟨_, List.getElem?_eq_getElem (by rw [← hql]; exact (List.getElem?_eq_some_iff.mp e).1)⟩
    obtain ⟨b, u, q1, q2, q3, q4⟩ := hqs i q hq
    have e' : qs[i]? = some (k, v) := e
    rw [q1] at e'
    cases e'
    exact ⟨q.1, hq, q4⟩
  · rw [hql, hl]; exact hz
  · have hm : (s.heap.objs.size == sysModules) = false := beq_eq_false_iff_ne.mpr (Nat.ne_of_gt I.big)
    have hlen : (mergeK [] kvs).length ≤ sizeLine := by
      refine Nat.le_trans (length_mergeK kvs []) ?_
      rw [List.length_nil, Nat.zero_add, rel.length, hl]
      exact hz
    have kp' : ∀ b o, s.heap.get? b = some o → h'.get? b = some o := fun b o e => kp b o (by simp) e
    exact ⟨.ref s.heap.objs.size, upd H s.heap.objs.size (.dK (mergeK [] kvs)), I.laid (t' := tk) kp' (Nat.le_refl _) (show ObjOk X.prog X.w _ _ _ (.dK (mergeK [] kvs)) from ⟨hlen, hm, merged [] prs, KV.merge rel .nil, hd'⟩), rfl, q _ (I.hok.fresh (Nat.le_refl _))⟩
end PyI
namespace PyI
open PySem PySem.Calls PyProof.Rows PySem.W
variable {prog : Program} {w : World} {A : Around} {E : Value → Shared → Prop} {s : Shared}
theorem collect_tuple {l : Addr} {vs : List Value} {Q : List Value → Shared → Prop} (hl : s.heap.IsTuple l vs.toArray)
    (h : Q vs { s with heap := (s.heap.push (seqObj "list" #[] 0)).update s.heap.objs.size (Obj.mapSeq (· ++ vs.toArray)) }) (hsz : vs.length ≤ sizeLine) :
    wpAny (model prog w) A (collect (.ref l)) Q E s := by
  obtain ⟨o, ho, hc, n, hd⟩ := id hl
  unfold collect
  refine wpAny_bind (wpAny_runValue (codeAny_builtin entry_proto_collect' ?_))
  show wpAny _ _ (do again (.builtin "list.__iadd__" ⟨[← newList [], .ref l], []⟩)) _ _ s
  refine wpAny_bind (wpAny_newList (wpAny_pure ⟨Code.quiet_builtin _ (by decide +kernel), codeAny_builtin entry_list_iadd' ?_⟩))
  show wpAny _ _ (Builtin.List.listExtendWith (.ref s.heap.objs.size) (.ref l) (.ref s.heap.objs.size)) _ _ { s with heap := s.heap.push (seqObj "list" #[] 0) }
  unfold Builtin.List.listExtendWith
  have ho' : (s.heap.push (seqObj "list" #[] 0)).get? l = some o := Heap.get?_push_of_some _ ho
  refine wpAny_bind (wpAny_typeOf (T := "tuple") ⟨o, ho', hc⟩ ?_)
  have ht : (Value.type "tuple" == Value.type "tuple") = true := by rfl
  rw [if_pos (by rw [ht]; simp)]
  refine wpAny_bind (listItems_at ho' hd ?_)
  refine wpAny_bind (listItems_at (xs := #[]) (n := 0) (Heap.get?_push_size _ rfl) rfl ?_)
  rw [if_neg (by simp)]
  refine wpAny_bind (listUpdate_at (xs := #[]) (n := 0) (Heap.get?_push_size _ rfl) rfl ?_ (Nat.zero_le _) (by show (#[] ++ vs.toArray).size ≤ sizeLine + 1; simp only [Array.size_append, List.size_toArray, List.length_nil]; omega))
  refine wpAny_pure ?_
  show wpAny (model prog w) A (do
      let o ← load s.heap.objs.size
      match o.data with
      | .seq xs _ => pure xs.toList
      | _ => unsupported "internal:collect") Q E { s with heap := (s.heap.push (seqObj "list" #[] 0)).update s.heap.objs.size (Obj.mapSeq (· ++ vs.toArray)) }
  refine wpAny_bind (wpAny_load (get?_update_seq (Heap.get?_push_size _ rfl) _) ?_)
  show wpAny _ _ (pure ((#[] : Array Value) ++ vs.toArray).toList) Q E _
  rw [show ((#[] : Array Value) ++ vs.toArray).toList = vs by simp]
  exact wpAny_pure h
theorem sorted_of_sortT {l : Addr} {vs : List Value} {kw : List (Str × Value)} {Q : Value → Shared → Prop} (hl : s.heap.IsTuple l vs.toArray) (hL : vs.length ≤ sizeLine) (ha1 : argsOk "sorted" ⟨[.ref l], kw⟩) (ha2 : ∀ x, argsOk "list.sort" ⟨[.ref x], kw⟩)
    (body : ∀ E' : Value → Shared → Prop, wpAny (model prog w) A.in1.in1 (Builtin.«list.sort» ⟨[.ref (s.heap.objs.size + 1)], kw⟩) (fun f s' => f = .done (.ret .none) ∧ Q (.ref (s.heap.objs.size + 1)) s') E' { s with heap := copyHeap s.heap vs }) :
    wpAny (model prog w) A (call (.builtin "sorted") [.ref l] kw) Q E s := by
  refine call_function_entry_kw kind_sorted plain_sorted entry_sorted ha1 ?_
  unfold Builtin.«sorted»
  refine wpAny_bind (m := checkCount "sorted" 1 1 _) (wpAny_pure ?_)
  refine wpAny_bind (collect_tuple hl ?_ hL)
  refine wpAny_bind (wpAny_newList ?_ hL)
  have hsz : ((s.heap.push (seqObj "list" #[] 0)).update s.heap.objs.size (Obj.mapSeq (· ++ vs.toArray))).objs.size = s.heap.objs.size + 1 := by
    rw [Heap.size_update, size_push']
  show wpAny _ _ _ _ _ { s with heap := copyHeap s.heap vs }
  rw [hsz]
  refine wpAny_bind (wpAny_holding (wpAny_call_entry_kw slot_list_sort ⟨_, copyHeap_at s.heap vs, rfl⟩ entry_list_sort ?body (ha2 _)))
  case body =>
    show wpAny (model prog w) A.in1.in1 (Builtin.«list.sort» ⟨[.ref (s.heap.objs.size + 1)], kw⟩) _ _ _
    refine wpAny_mono (body _) (fun f s' hf => ?_) fun _ _ e => e
    obtain ⟨rfl, hq⟩ := hf
    exact ⟨_, rfl, wpAny_pure ⟨_, rfl, hq⟩⟩
theorem sorted_dataT {β : Type} {R : Value → β → Prop} {enc : β → PyData} {vs : List Value} {bs : List β} {l : Addr} {Q : Value → Shared → Prop} (hl : s.heap.IsTuple l vs.toArray) (e : EachIs R vs bs) (er : EachIs (fun v b => ∃ as, Reads s.heap v (enc b) as) vs bs) (hal : AllAlike (bs.map enc)) (hk : Sortable (bs.map enc)) (hL : bs.length ≤ sizeLine)
    (hu : ∀ b, b ∈ bs → A.units + 2 + (enc b).depth < cLine) (h : ∀ out, out.length = bs.length → EachIs R out (bs.mergeSort (dataLe false enc)) → Q (.ref (s.heap.objs.size + 1)) { s with heap := sortedAll s.heap vs (List.toArray out) }) :
    wpAny (model prog w) A (call (.builtin "sorted") [.ref l]) Q E s := by
  have er' : EachIs (fun v b => ∃ as, Reads (sortingHeap (copyHeap s.heap vs) (s.heap.objs.size + 1) vs) v (enc b) as) vs bs := er.mono fun _ _ ⟨as, r⟩ => ⟨as, PyProof.Rows.Reads.keeps (fun _ _ => sorting_copy_old) r⟩
  refine sorted_of_sortT hl (by rw [e.length]; exact hL) (args_sorted1 _) (fun _ => args_list_sort _) fun _ => list_sort_vals (s := { s with heap := copyHeap s.heap vs }) (copyHeap_at s.heap vs) (SortsAt.data (s := { s with heap := sortingHeap (copyHeap s.heap vs) (s.heap.objs.size + 1) vs }) (each_map (R := fun v d => ∃ as, Reads (sortingHeap (copyHeap s.heap vs) (s.heap.objs.size + 1) vs) v d as) enc er') hal hk (bound_map hu)) (by rw [e.length]; exact hL) ⟨rfl, ?_⟩
  exact h _ (by rw [sortVals_length false rfl]; exact e.length) (sortVals_data false e er' hal)
end PyI
namespace PyI
open PySem PySem.Spec PySem.Calls PyProof.Rows L2
variable {X : Cx} {a b c d : Expr} {ta tb tc td : TE} {pos : Pos}
def tChain3 (r r' r'' : R2) (ta tb tc td : TE) : TE := fun σ H Q => ta σ H fun x H1 => tb σ H1 fun y H2 => r x y H2 fun z H3 => ∃ k, z = .bl k ∧
  (if k = true then tc σ H3 fun w' H4 => r' y w' H4 fun z2 H5 => ∃ k2, z2 = .bl k2 ∧ (if k2 = true then td σ H5 fun w2 H6 => r'' w' w2 H6 Q else Q (.bl false) H5) else Q (.bl false) H3)
theorem pe_chain3 {op op' op'' : CmpOp} {r r' r'' : R2} (ho : OpR X (compareOp op) r) (ho' : OpR X (compareOp op') r') (ho'' : OpR X (compareOp op'') r'') (ha : PE X a ta) (hb : PE X b tb) (hc : PE X c tc) (hd : PE X d td)
    (hm : lastMarks [op, op', op''] [b, c, d] = false) : PE X (.Compare a [op, op', op''] [b, c, d] pos) (tChain3 r r' r'' ta tb tc td) := by
  refine ⟨fun pins s σ H Q I h => ?_⟩
  refine Compare_chain (thn (ha.run pins s σ H _ I h) fun v s1 ⟨x, H1, I1, r1, q1⟩ => chain_link (thn (hb.run pins s1 σ H1 _ I1 q1) fun u s2 ⟨y, H2, I2, r2, q2⟩ =>
    thn (ho pins s2 σ H2 x y v u _ I2 r1 r2 q2) fun d s3 ⟨z, H3, I3, r3, k, e, q3⟩ => ?_)) hm
  subst e
  cases r3
  refine wpAny_truthy_bool ?_
  cases k with
  | false => exact ite_ff ⟨.bl false, H3, I3, rfl, q3⟩
  | true =>
    refine ite_tt (chain_link (thn (hc.run pins s3 σ H3 _ I3 q3) fun u2 s4 ⟨y2, H4, I4, r4, q4⟩ => thn (ho' pins s4 σ H4 y y2 u u2 _ I4 r2 r4 q4) fun d2 s5 ⟨z2, H5, I5, r5, k2, e2, q5⟩ => ?_))
    subst e2
    cases r5
    refine wpAny_truthy_bool ?_
    cases k2 with
    | false => exact ite_ff ⟨.bl false, H5, I5, rfl, q5⟩
    | true => exact ite_tt (chain_last (thn (hd.run pins s5 σ H5 _ I5 q5) fun w' s6 ⟨z', H6, I6, r6, q6⟩ => ho'' pins s6 σ H6 y2 z' u2 w' Q I6 r4 r6 q6))
theorem pt_chain3 {op op' op'' : CmpOp} {r r' r'' : R2} (ho : OpR X (compareOp op) r) (ho' : OpR X (compareOp op') r') (ho'' : OpR X (compareOp op'') r'') (ha : PE X a ta) (hb : PE X b tb) (hc : PE X c tc) (hd : PE X d td)
    (hm : lastMarks [op, op', op''] [b, c, d] = false) : PT X (.Compare a [op, op', op''] [b, c, d] pos) (tTest (tChain3 r r' r'' ta tb tc td)) := by
  refine ⟨fun pins s σ H Q I h => ?_⟩
  refine isTrue_chain (thn (ha.run pins s σ H _ I h) fun v s1 ⟨x, H1, I1, r1, q1⟩ => test_link (thn (hb.run pins s1 σ H1 _ I1 q1) fun u s2 ⟨y, H2, I2, r2, q2⟩ =>
    thn (ho pins s2 σ H2 x y v u _ I2 r1 r2 q2) fun d s3 ⟨z, H3, I3, r3, k, e, q3⟩ => ?_)) hm
  subst e
  cases r3
  refine wpAny_truthy_bool ?_
  cases k with
  | false =>
    obtain ⟨k', e', q'⟩ := q3
    cases e'
    exact ite_ff ⟨H3, I3, q'⟩
  | true =>
    refine ite_tt (test_link (thn (hc.run pins s3 σ H3 _ I3 q3) fun u2 s4 ⟨y2, H4, I4, r4, q4⟩ => thn (ho' pins s4 σ H4 y y2 u u2 _ I4 r2 r4 q4) fun d2 s5 ⟨z2, H5, I5, r5, k2, e2, q5⟩ => ?_))
    subst e2
    cases r5
    refine wpAny_truthy_bool ?_
    cases k2 with
    | false =>
      obtain ⟨k', e', q'⟩ := q5
      cases e'
      exact ite_ff ⟨H5, I5, q'⟩
    | true =>
      refine ite_tt (test_last (thn (hd.run pins s5 σ H5 _ I5 q5) fun w' s6 ⟨z', H6, I6, r6, q6⟩ => thn (ho'' pins s6 σ H6 y2 z' u2 w' _ I6 r4 r6 q6) fun d3 s7 ⟨z3, H7, I7, r7, k3, e3, q7⟩ => ?_))
      subst e3
      cases r7
      exact wpAny_truthy_bool ⟨H7, I7, q7⟩
end PyI
namespace PyI
open PySem PySem.Calls PyProof.Rows PySem.W
variable {prog : Program} {w : World} {A : Around} {E : Value → Shared → Prop} {s : Shared}
theorem ints_at : ∀ {its : List Value} {ns : List Int}, IntsAre its ns → ∀ (i : Nat) v, its.toArray[i]? = some v → ∃ t, v = .int (ns.getD i 0) t
  | _, _, .nil, i, v, h => by simp at h
  | _, _, .cons n t r, 0, v, h => by
    simp at h
    subst h
    exact ⟨t, by simp⟩
  | _, _, .cons n t r, i + 1, v, h => by
    have := ints_at r i v (by simpa using h)
    simpa using this
theorem getD_at {ns : List Int} {i : Nat} (h : i < ns.length) : ns.getD i 0 = ns[i] := by simp [h]
theorem ints_len : ∀ {its : List Value} {ns : List Int}, IntsAre its ns → its.length = ns.length
  | _, _, .nil => rfl
  | _, _, .cons n t r => by simp [ints_len r]
theorem max_rawT {l : Addr} {its : List Value} {ns : List Int} {Q : Value → Shared → Prop} (hA : A.handled = none) (hl : s.heap.IsTuple l its.toArray) (hi : IntsAre its ns) (h0 : 0 < ns.length)
    (k : ∀ (h' : Heap) (tk : Nat) (M : Int) (t' : Tok), (∀ (b : Addr) (o : Obj), s.heap.get? b = some o → h'.get? b = some o) → M ∈ ns → (∀ a ∈ ns, a ≤ M) → Q (.int M t') { s with heap := h', toks := tk }) :
    wpAny (model prog w) A (call (.builtin "max") [.ref l]) Q E s := by
  have hlt : l < s.heap.objs.size := by
    obtain ⟨o, ho, _⟩ := id hl
    exact Heap.lt_size ho
  have hlen := ints_len hi
  refine call_max_walk (wpAny_pyIter_tuple hl ⟨s.heap.objs.size, _, _, its.toArray.size, _, _, _, rfl, Walks.tuple (A := A.in1) hA _ l (Nat.ne_of_lt hlt) its.toArray, ⟨⟨_, Heap.get?_push_size _ rfl, rfl, rfl⟩, ?_⟩, ?_, ?_, CmpOf.ints_gt (fun i => ns.getD i 0) (ints_at hi), fun v h' tk hv hk => ?_⟩)
  · obtain ⟨o, ho, hc, hd⟩ := id hl
    exact ⟨o, Heap.get?_push_of_some _ ho, hc, hd⟩
  · intro b hb
    show b < (s.heap.push _).objs.size
    rw [size_push']
    simp at hb
    rcases hb with rfl | rfl
    · exact Nat.lt_succ_self _
    · exact Nat.lt_succ_of_lt hlt
  · simpa [hlen] using h0
  · obtain ⟨g1, g2⟩ := argBest_gt (fun i => ns.getD i 0) (its.toArray.size - 1)
    have hsz : its.toArray.size = ns.length := by simp [hlen]
    rw [hsz] at g1 g2
    have hlt2 : argBest (fun i j => decide (ns.getD i 0 > ns.getD j 0)) (ns.length - 1) < ns.length := by omega
    obtain ⟨t, rfl⟩ := ints_at hi _ _ hv
    rw [hsz]
    refine k h' tk _ t (fun b o ho => hk b o ?_ (Heap.get?_push_of_some _ ho)) ?_ fun a ha => ?_
    · have := Heap.lt_size ho
      intro hm
      simp at hm
      subst hm
      exact Nat.lt_irrefl _ this
    · rw [getD_at hlt2]
      exact List.getElem_mem _
    · obtain ⟨j, hj, rfl⟩ := List.getElem_of_mem ha
      have := g2 j (by omega)
      rwa [getD_at hj] at this
theorem collect_str (hA : A.handled = none) {x : Str} {t : Tok} {Q : List Value → Shared → Prop} (hz : x.cps.size ≤ sizeLine)
    (h : ∀ (h' : Heap) (tk : Nat) (acc' : Array Value) (c' : Nat), (∀ (b : Addr) (o : Obj), s.heap.get? b = some o → h'.get? b = some o) → s.heap.objs.size < h'.objs.size → ItemsOf (SignAt x) acc' x.cps.size → Q acc'.toList { s with heap := h', toks := tk }) :
    wpAny (model prog w) A (collect (.str x t)) Q E s := by
  unfold collect
  refine wpAny_bind (wpAny_runValue (codeAny_builtin entry_proto_collect' ?_))
  show wpAny _ _ (do again (.builtin "list.__iadd__" ⟨[← newList [], .str x t], []⟩)) _ _ s
  refine wpAny_bind (wpAny_newList (wpAny_pure ⟨Code.quiet_builtin _ (by decide +kernel), codeAny_builtin entry_list_iadd' ?_⟩))
  show wpAny _ _ (Builtin.List.listExtendWith (.ref s.heap.objs.size) (.str x t) (.ref s.heap.objs.size)) _ _ { s with heap := s.heap.push (seqObj "list" #[] 0) }
  let R : Result → Shared → Prop := fun r s' => match r with
    | .ok (.ret v) => wpAny (model prog w) A (match v with
      | .ref a => (do
        let o ← load a
        match o.data with
        | .seq xs _ => pure xs.toList
        | _ => unsupported "internal:collect")
      | _ => unsupported "internal:collect") Q E s'
    | .ok _ => False
    | .error e => E e s'
  rw [Around.under_plainId (by decide +kernel)]
  refine wpAny_extend_str (R := R) (s := { s with heap := s.heap.push (seqObj "list" #[] 0) }) hA x t s.heap.objs.size (.ref s.heap.objs.size) 0 (Heap.get?_push_size _ rfl) (fun h' tk acc' c' hk hS hacc => ?_) hz
  show wpAny (model prog w) A (do
      let o ← load s.heap.objs.size
      match o.data with
      | .seq xs _ => pure xs.toList
      | _ => unsupported "internal:collect") Q E { s with heap := h', toks := tk }
  refine wpAny_bind (wpAny_load hS ?_)
  show wpAny _ _ (pure acc'.toList) Q E _
  refine wpAny_pure (h h' tk acc' c' (fun b o ho => hk b o ?_ (Heap.get?_push_of_some _ ho)) (Heap.lt_size hS) hacc)
  exact Nat.ne_of_lt (Heap.lt_size ho)
theorem signs_each {x : Str} {acc : Array Value} (h : ItemsOf (SignAt x) acc x.cps.size) : EachIs (fun v (c : Nat) => ∃ t, v = .str ⟨#[c]⟩ t) acc.toList x.cps.toList := by
  have hs : acc.toList.length = x.cps.toList.length := by simpa using h.1
  have hj : ∀ (j : Nat) v, acc.toList[j]? = some v → ∃ c, x.cps.toList[j]? = some c ∧ ∃ t, v = .str ⟨#[c]⟩ t := fun j v hv => by
    obtain ⟨c, t, e1, e2⟩ := h.2 j v (by simpa using hv)
    exact ⟨c, by simpa using e1, t, e2⟩
  generalize acc.toList = us at hs hj
  generalize x.cps.toList = z at hs hj
  induction z generalizing us with
  | nil => cases us with | nil => exact .nil | cons _ _ => simp at hs
  | cons c z ih =>
    cases us with
    | nil => simp at hs
    | cons u us =>
      obtain ⟨c', e1, t, e2⟩ := hj 0 u rfl
      simp at e1
      subst e1
      exact .cons ⟨t, e2⟩ (ih us (by simpa using hs) fun j v hv => by simpa using hj (j + 1) v (by simpa using hv))
theorem sorted_str (hA : A.handled = none) (hu : A.units + 3 < cLine) {x : Str} {t : Tok} {Q : Value → Shared → Prop} (hz : x.cps.size ≤ sizeLine)
    (h : ∀ (h' : Heap) (tk : Nat) (l : Addr) (out : List Value) (e : Nat), (∀ (b : Addr) (o : Obj), s.heap.get? b = some o → h'.get? b = some o) → s.heap.objs.size ≤ l → h'.get? l = some (seqObj "list" out.toArray e) → out.length = x.cps.size →
      EachIs (fun v (c : Nat) => ∃ t, v = .str ⟨#[c]⟩ t) out (x.cps.toList.mergeSort (dataLe false fun c : Nat => PyData.str ⟨#[c]⟩)) → Q (.ref l) { s with heap := h', toks := tk }) :
    wpAny (model prog w) A (call (.builtin "sorted") [.str x t]) Q E s := by
  refine call_function_entry_kw kind_sorted plain_sorted entry_sorted (args_sorted1 _) ?_
  unfold Builtin.«sorted»
  refine wpAny_bind (m := checkCount "sorted" 1 1 _) (wpAny_pure ?_)
  refine wpAny_bind (collect_str (A := A.in1) (hA : A.in1.handled = none) hz fun h1 tk acc c hk hsz hacc => ?_)
  have hlen : acc.toList.length = x.cps.size := by simpa using hacc.1
  refine wpAny_bind (wpAny_newList ?_ (by rw [hlen]; exact hz))
  have he := signs_each hacc
  have hg : (h1.push (seqObj "list" acc.toList.toArray 0)).get? h1.objs.size = some (seqObj "list" acc.toList.toArray 0) := Heap.get?_push_size _ rfl
  have er : ∀ hh : Heap, EachIs (fun v (c : Nat) => ∃ as, Reads hh v (PyData.str ⟨#[c]⟩) as) acc.toList x.cps.toList := fun hh => he.mono fun v c ⟨t, e⟩ => ⟨[], by rw [e]; exact .str _ t⟩
  refine wpAny_bind (wpAny_holding (wpAny_call_entry_kw slot_list_sort ⟨_, hg, rfl⟩ entry_list_sort ?body (args_list_sort _)))
  case body =>
    show wpAny (model prog w) A.in1.in1 (Builtin.«list.sort» ⟨[.ref h1.objs.size], []⟩) _ _ { s with heap := h1.push (seqObj "list" acc.toList.toArray 0), toks := tk }
    have hal : AllAlike (x.cps.toList.map fun c : Nat => PyData.str ⟨#[c]⟩) := fun d hd d' hd' => by
      obtain ⟨p, _, rfl⟩ := List.mem_map.mp hd
      obtain ⟨p', _, rfl⟩ := List.mem_map.mp hd'
      simp [alike]
    refine list_sort_vals (s := { s with heap := h1.push (seqObj "list" acc.toList.toArray 0), toks := tk }) hg (SortsAt.data (s := { s with heap := sortingHeap (h1.push (seqObj "list" acc.toList.toArray 0)) h1.objs.size acc.toList, toks := tk }) (each_map (R := fun v d => ∃ as, Reads (sortingHeap (h1.push (seqObj "list" acc.toList.toArray 0)) h1.objs.size acc.toList) v d as) (fun c : Nat => PyData.str ⟨#[c]⟩) (er _)) hal ?_ ?_) (by rw [hlen]; exact hz) ?_
    · refine .inr fun d hd => ?_
      obtain ⟨p, _, rfl⟩ := List.mem_map.mp hd
      simp
    · intro d hd
      obtain ⟨p, _, rfl⟩ := List.mem_map.mp hd
      show A.units + 1 + 1 + _ < _
      simp [PyData.depth]
      omega
    · refine ⟨_, rfl, wpAny_pure ⟨_, rfl, ?_⟩⟩
      obtain ⟨e, hat⟩ := sortedHeap_at (out := (sortVals (dataKind (sortingHeap (h1.push (seqObj "list" acc.toList.toArray 0)) h1.objs.size acc.toList) (x.cps.toList.map fun c : Nat => PyData.str ⟨#[c]⟩)) false acc.toList acc.toList).toArray) hg
      refine h _ tk h1.objs.size _ e (fun b o ho => ?_) (Nat.le_of_lt hsz) hat ?_ (sortVals_data false he (er _) hal)
      · have hb := Heap.lt_size (hk b o ho)
        rw [sortedHeap_old (Nat.ne_of_lt hb) (by rw [size_push']; exact Nat.lt_succ_of_lt hb)]
        exact Heap.get?_push_of_some _ (hk b o ho)
      · rw [sortVals_length false rfl]; exact hlen
end PyI
namespace PyI
open PySem PyProof.Rows
section
variable {prog : Program} {w : World} {A : Around} {R : Result → Shared → Prop} {I : Addr} {fp wr : List Addr} {n : Nat} {P : Nat → Value → Prop} {St : Nat → Heap → Prop}

theorem max_dloop {kw : List (Str × Value)} (wk : Walks prog w A.in1 I fp wr n P St) (bt : Nat → Nat → Bool) (cmp : CmpOf prog w A.in1 .Gt P bt) (B : Addr) (nB : B ∉ fp) :
    ∀ (k j : Nat) (s : Shared) (v0 : Value) (c : Nat), n - (j + 1) = k → j + 1 ≤ n → St (j + 1) s.heap → P (argBest bt j) v0 →
    s.heap.get? B = some (seqObj "list" #[v0, v0] c) →
    (∀ v h' tk, P (argBest bt (n - 1)) v → (∀ b o, b ∉ wr → b ≠ B → s.heap.get? b = some o → h'.get? b = some o) → R (.ok (.ret v)) { s with heap := h', toks := tk }) →
    codeAny (model prog w) A (.builtin "max.loop" ⟨[.ref I, .none, .ref B], kw⟩) R s := by
  have nW : B ∉ wr := fun q => nB (wk.sub _ q)
  have nm : (toString "max" ++ toString ".loop" : String) = "max.loop" := by decide
  intro k
  induction k with
  | zero =>
    intro j s v0 c hk hj st0 p0 gB kR
    have en : j + 1 = n := by omega
    refine codeAny_builtin F.entry_max_loop ?_
    rw [Around.under_plainId F.plain_max_loop _]
    show wpAny _ A.in1 (seqItems? (.ref B) >>= _) _ _ s
    refine wpAny_bind (wpAny_seqItems gB rfl ?_)
    show wpAny _ A.in1 (tryCatch (pyNext (.ref I)) _ >>= _) _ _ s
    refine wpAny_bind (wpAny_tryCatch (wk.done s _ _ (en ▸ st0) fun h' tk kp => ?_))
    have gB' := kp B _ nW gB
    show wpAny _ A.in1 (updateSeq B (fun _ => #[]) >>= _) _ _ _
    refine wpAny_bind (wpAny_updateSeq gB' rfl (wpAny_bind (wpAny_letGo (wpAny_pure ?_))))
    refine kR v0 _ tk (by rw [← en]; exact p0) fun b o q1 q2 e => (Heap.get?_update_other _ _ (Ne.symm q2)).trans (kp b o q1 e)
  | succ k ih =>
    intro j s v0 c hk hj st0 p0 gB kR
    have lt : j + 1 < n := by omega
    refine codeAny_builtin F.entry_max_loop ?_
    rw [Around.under_plainId F.plain_max_loop _]
    show wpAny _ A.in1 (seqItems? (.ref B) >>= _) _ _ s
    refine wpAny_bind (wpAny_seqItems gB rfl ?_)
    show wpAny _ A.in1 (tryCatch (pyNext (.ref I)) _ >>= _) _ _ s
    refine wpAny_bind (wpAny_tryCatch (wk.item (j + 1) s _ _ lt st0 fun v h' tk p1 st1 kp => ?_))
    have gB' := kp B _ nW gB
    show wpAny _ A.in1 (tryCatch (holding [v, v] (richCompare .Gt v v0 >>= _)) _ >>= _) _ _ _
    refine wpAny_bind (wpAny_tryCatch (wpAny_holding (wpAny_bind (cmp (j + 1) (argBest bt j) v v0 _ _ _ p1 p0 ?_))))
    refine wpAny_bind (wpAny_holding (wpAny_truthy_bool (wpAny_bind (wpAny_letGo (wpAny_pure ?_)))))
    cases bb : bt (j + 1) (argBest bt j) with
    | true =>
      simp only [if_true]
      refine wpAny_bind (wpAny_updateSeq gB' rfl (wpAny_bind (wpAny_letGo ?_)))
      rw [nm]
      refine wpAny_pure ⟨plainId_quiet F.plain_max_loop _, ih (j + 1) _ v _ (by omega) lt (wk.frame _ _ _ st1 fun b q o e => ?_) (by simp only [argBest, bb, if_true]; exact p1) (Heap.get?_update_self _ gB' rfl) fun v' h2 t2 p2 k2 => ?_⟩
      · exact (Heap.get?_update_other _ _ (fun z : B = b => nB (by rw [z]; exact q))).trans e
      · exact kR v' h2 t2 p2 fun b o q1 q2 e => k2 b o q1 q2 ((Heap.get?_update_other _ _ (Ne.symm q2)).trans (kp b o q1 e))
    | false =>
      simp only [Bool.false_eq_true, if_false]
      refine wpAny_bind (wpAny_letGo ?_)
      rw [nm]
      refine wpAny_pure ⟨plainId_quiet F.plain_max_loop _, ih (j + 1) _ v0 c (by omega) lt st1 (by simp only [argBest, bb, Bool.false_eq_true, if_false]; exact p0) gB' fun v' h2 t2 p2 k2 => ?_⟩
      exact kR v' h2 t2 p2 fun b o q1 q2 e => k2 b o q1 q2 (kp b o q1 e)
theorem args_max_d (a d : Value) : argsOk "max" ⟨[a], [("default", d)]⟩ := by unfold argsOk; kernel_rfl
/-- max(x, default = d), walked -/
theorem max_dwalk {x d : Value} {Q : Value → Shared → Prop} {E : Value → Shared → Prop} {s : Shared}
    (h : wpAny (model prog w) A.in1 (pyIter x) (fun it s1 => ∃ I fp wr n P St bt, it = .ref I ∧ Walks prog w A.in1 I fp wr n P St ∧ St 0 s1.heap ∧ (∀ b ∈ fp, b < s1.heap.objs.size) ∧ CmpOf prog w A.in1 .Gt P bt ∧
      (n = 0 → ∀ h' tk, (∀ b o, b ∉ wr → s1.heap.get? b = some o → h'.get? b = some o) → Q d { s1 with heap := h', toks := tk }) ∧
      (0 < n → ∀ v h' tk, P (argBest bt (n - 1)) v → (∀ b o, b ∉ wr → s1.heap.get? b = some o → h'.get? b = some o) → Q v { s1 with heap := h', toks := tk })) E s) :
    wpAny (model prog w) A (call (.builtin "max") [x] [("default", d)]) Q E s := by
  have nm : (toString "max" ++ toString ".loop" : String) = "max.loop" := by decide
  refine kmb_tree F.kind_max F.plain_max F.entry_max (args_max_d x d) ?_
  show wpAny _ A.in1 (Builtin.Builtins.bindParams "max" ["key", "default"] 0 ⟨[], [("default", d)]⟩ >>= _) _ _ s
  refine wpAny_bind (wpAny_of_eq (show Builtin.Builtins.bindParams "max" ["key", "default"] 0 ⟨[], [("default", d)]⟩ = pure [none, some d] from rfl) ?_)
  refine wpAny_bind (wpAny_pure ?_)
  refine wpAny_bind (wpAny_mono h (fun it s1 h1 => ?_) fun _ _ e => e)
  obtain ⟨I, fp, wr, n, P, St, bt, rfl, wk, st0, lo, cmp, k0, k1⟩ := h1
  refine wpAny_bind (wpAny_newObj_type ?_)
  have nB : s1.heap.objs.size ∉ fp := fun q => Nat.lt_irrefl _ (lo _ q)
  have nW : s1.heap.objs.size ∉ wr := fun q => nB (wk.sub _ q)
  rw [nm]
  refine wpAny_pure ⟨plainId_quiet F.plain_max_loop _, ?_⟩
  have st1 := wk.frame 0 s1.heap (s1.heap.push (seqObj "list" #[] 0)) st0 fun b _ o e => Heap.get?_push_of_some _ e
  have gB : (s1.heap.push (seqObj "list" #[] 0)).get? s1.heap.objs.size = some (seqObj "list" #[] 0) := Heap.get?_push_size _ rfl
  refine codeAny_builtin F.entry_max_loop ?_
  rw [Around.under_plainId F.plain_max_loop _]
  show wpAny _ A.in1 (seqItems? (.ref s1.heap.objs.size) >>= _) _ _ _
  refine wpAny_bind (wpAny_seqItems gB rfl ?_)
  show wpAny _ A.in1 (tryCatch (pyNext (.ref I)) _ >>= _) _ _ _
  by_cases hn : n = 0
  · refine wpAny_bind (wpAny_tryCatch (wk.done _ _ _ (by rw [hn]; exact st1) fun h' tk kp => ?_))
    show wpAny _ A.in1 (rule _ >>= _) _ _ _
    exact wpAny_bind (wpAny_rule (wpAny_pure (k0 hn h' tk fun b o q e => kp b o q (Heap.get?_push_of_some _ e))))
  · refine wpAny_bind (wpAny_tryCatch (wk.item 0 _ _ _ (by omega) st1 fun v h' tk p1 st2 kp => ?_))
    have gB' := kp _ _ nW gB
    show wpAny _ A.in1 (updateSeq s1.heap.objs.size (fun _ => #[v, v]) >>= _) _ _ _
    refine wpAny_bind (wpAny_updateSeq gB' rfl ?_)
    rw [nm]
    refine wpAny_pure ⟨plainId_quiet F.plain_max_loop _, max_dloop wk bt cmp _ nB _ 0 _ v _ rfl (by omega) (wk.frame _ _ _ st2 fun b q o e => ?_) p1 (Heap.get?_update_self _ gB' rfl) fun v' h2 t2 p2 k2 => ?_⟩
    · exact (Heap.get?_update_other _ _ (fun z => nB (by rw [z]; exact q))).trans e
    · refine k1 (by omega) v' h2 t2 p2 fun b o q e => k2 b o q (Nat.ne_of_lt (Heap.lt_size e)) ?_
      exact (Heap.get?_update_other _ _ (Ne.symm (Nat.ne_of_lt (Heap.lt_size e)))).trans (kp b o q (Heap.get?_push_of_some _ e))


theorem min_dloop {kw : List (Str × Value)} (wk : Walks prog w A.in1 I fp wr n P St) (bt : Nat → Nat → Bool) (cmp : CmpOf prog w A.in1 .Lt P bt) (B : Addr) (nB : B ∉ fp) :
    ∀ (k j : Nat) (s : Shared) (v0 : Value) (c : Nat), n - (j + 1) = k → j + 1 ≤ n → St (j + 1) s.heap → P (argBest bt j) v0 →
    s.heap.get? B = some (seqObj "list" #[v0, v0] c) →
    (∀ v h' tk, P (argBest bt (n - 1)) v → (∀ b o, b ∉ wr → b ≠ B → s.heap.get? b = some o → h'.get? b = some o) → R (.ok (.ret v)) { s with heap := h', toks := tk }) →
    codeAny (model prog w) A (.builtin "min.loop" ⟨[.ref I, .none, .ref B], kw⟩) R s := by
  have nW : B ∉ wr := fun q => nB (wk.sub _ q)
  have nm : (toString "min" ++ toString ".loop" : String) = "min.loop" := by decide
  intro k
  induction k with
  | zero =>
    intro j s v0 c hk hj st0 p0 gB kR
    have en : j + 1 = n := by omega
    refine codeAny_builtin F.entry_min_loop ?_
    rw [Around.under_plainId F.plain_min_loop _]
    show wpAny _ A.in1 (seqItems? (.ref B) >>= _) _ _ s
    refine wpAny_bind (wpAny_seqItems gB rfl ?_)
    show wpAny _ A.in1 (tryCatch (pyNext (.ref I)) _ >>= _) _ _ s
    refine wpAny_bind (wpAny_tryCatch (wk.done s _ _ (en ▸ st0) fun h' tk kp => ?_))
    have gB' := kp B _ nW gB
    show wpAny _ A.in1 (updateSeq B (fun _ => #[]) >>= _) _ _ _
    refine wpAny_bind (wpAny_updateSeq gB' rfl (wpAny_bind (wpAny_letGo (wpAny_pure ?_))))
    refine kR v0 _ tk (by rw [← en]; exact p0) fun b o q1 q2 e => (Heap.get?_update_other _ _ (Ne.symm q2)).trans (kp b o q1 e)
  | succ k ih =>
    intro j s v0 c hk hj st0 p0 gB kR
    have lt : j + 1 < n := by omega
    refine codeAny_builtin F.entry_min_loop ?_
    rw [Around.under_plainId F.plain_min_loop _]
    show wpAny _ A.in1 (seqItems? (.ref B) >>= _) _ _ s
    refine wpAny_bind (wpAny_seqItems gB rfl ?_)
    show wpAny _ A.in1 (tryCatch (pyNext (.ref I)) _ >>= _) _ _ s
    refine wpAny_bind (wpAny_tryCatch (wk.item (j + 1) s _ _ lt st0 fun v h' tk p1 st1 kp => ?_))
    have gB' := kp B _ nW gB
    show wpAny _ A.in1 (tryCatch (holding [v, v] (richCompare .Lt v v0 >>= _)) _ >>= _) _ _ _
    refine wpAny_bind (wpAny_tryCatch (wpAny_holding (wpAny_bind (cmp (j + 1) (argBest bt j) v v0 _ _ _ p1 p0 ?_))))
    refine wpAny_bind (wpAny_holding (wpAny_truthy_bool (wpAny_bind (wpAny_letGo (wpAny_pure ?_)))))
    cases bb : bt (j + 1) (argBest bt j) with
    | true =>
      simp only [if_true]
      refine wpAny_bind (wpAny_updateSeq gB' rfl (wpAny_bind (wpAny_letGo ?_)))
      rw [nm]
      refine wpAny_pure ⟨plainId_quiet F.plain_min_loop _, ih (j + 1) _ v _ (by omega) lt (wk.frame _ _ _ st1 fun b q o e => ?_) (by simp only [argBest, bb, if_true]; exact p1) (Heap.get?_update_self _ gB' rfl) fun v' h2 t2 p2 k2 => ?_⟩
      · exact (Heap.get?_update_other _ _ (fun z : B = b => nB (by rw [z]; exact q))).trans e
      · exact kR v' h2 t2 p2 fun b o q1 q2 e => k2 b o q1 q2 ((Heap.get?_update_other _ _ (Ne.symm q2)).trans (kp b o q1 e))
    | false =>
      simp only [Bool.false_eq_true, if_false]
      refine wpAny_bind (wpAny_letGo ?_)
      rw [nm]
      refine wpAny_pure ⟨plainId_quiet F.plain_min_loop _, ih (j + 1) _ v0 c (by omega) lt st1 (by simp only [argBest, bb, Bool.false_eq_true, if_false]; exact p0) gB' fun v' h2 t2 p2 k2 => ?_⟩
      exact kR v' h2 t2 p2 fun b o q1 q2 e => k2 b o q1 q2 (kp b o q1 e)
theorem args_min_d (a d : Value) : argsOk "min" ⟨[a], [("default", d)]⟩ := by unfold argsOk; kernel_rfl
/-- min(x, default = d), walked -/
theorem min_dwalk {x d : Value} {Q : Value → Shared → Prop} {E : Value → Shared → Prop} {s : Shared}
    (h : wpAny (model prog w) A.in1 (pyIter x) (fun it s1 => ∃ I fp wr n P St bt, it = .ref I ∧ Walks prog w A.in1 I fp wr n P St ∧ St 0 s1.heap ∧ (∀ b ∈ fp, b < s1.heap.objs.size) ∧ CmpOf prog w A.in1 .Lt P bt ∧
      (n = 0 → ∀ h' tk, (∀ b o, b ∉ wr → s1.heap.get? b = some o → h'.get? b = some o) → Q d { s1 with heap := h', toks := tk }) ∧
      (0 < n → ∀ v h' tk, P (argBest bt (n - 1)) v → (∀ b o, b ∉ wr → s1.heap.get? b = some o → h'.get? b = some o) → Q v { s1 with heap := h', toks := tk })) E s) :
    wpAny (model prog w) A (call (.builtin "min") [x] [("default", d)]) Q E s := by
  have nm : (toString "min" ++ toString ".loop" : String) = "min.loop" := by decide
  refine kmb_tree F.kind_min F.plain_min F.entry_min (args_min_d x d) ?_
  show wpAny _ A.in1 (Builtin.Builtins.bindParams "min" ["key", "default"] 0 ⟨[], [("default", d)]⟩ >>= _) _ _ s
  refine wpAny_bind (wpAny_of_eq (show Builtin.Builtins.bindParams "min" ["key", "default"] 0 ⟨[], [("default", d)]⟩ = pure [none, some d] from rfl) ?_)
  refine wpAny_bind (wpAny_pure ?_)
  refine wpAny_bind (wpAny_mono h (fun it s1 h1 => ?_) fun _ _ e => e)
  obtain ⟨I, fp, wr, n, P, St, bt, rfl, wk, st0, lo, cmp, k0, k1⟩ := h1
  refine wpAny_bind (wpAny_newObj_type ?_)
  have nB : s1.heap.objs.size ∉ fp := fun q => Nat.lt_irrefl _ (lo _ q)
  have nW : s1.heap.objs.size ∉ wr := fun q => nB (wk.sub _ q)
  rw [nm]
  refine wpAny_pure ⟨plainId_quiet F.plain_min_loop _, ?_⟩
  have st1 := wk.frame 0 s1.heap (s1.heap.push (seqObj "list" #[] 0)) st0 fun b _ o e => Heap.get?_push_of_some _ e
  have gB : (s1.heap.push (seqObj "list" #[] 0)).get? s1.heap.objs.size = some (seqObj "list" #[] 0) := Heap.get?_push_size _ rfl
  refine codeAny_builtin F.entry_min_loop ?_
  rw [Around.under_plainId F.plain_min_loop _]
  show wpAny _ A.in1 (seqItems? (.ref s1.heap.objs.size) >>= _) _ _ _
  refine wpAny_bind (wpAny_seqItems gB rfl ?_)
  show wpAny _ A.in1 (tryCatch (pyNext (.ref I)) _ >>= _) _ _ _
  by_cases hn : n = 0
  · refine wpAny_bind (wpAny_tryCatch (wk.done _ _ _ (by rw [hn]; exact st1) fun h' tk kp => ?_))
    show wpAny _ A.in1 (rule _ >>= _) _ _ _
    exact wpAny_bind (wpAny_rule (wpAny_pure (k0 hn h' tk fun b o q e => kp b o q (Heap.get?_push_of_some _ e))))
  · refine wpAny_bind (wpAny_tryCatch (wk.item 0 _ _ _ (by omega) st1 fun v h' tk p1 st2 kp => ?_))
    have gB' := kp _ _ nW gB
    show wpAny _ A.in1 (updateSeq s1.heap.objs.size (fun _ => #[v, v]) >>= _) _ _ _
    refine wpAny_bind (wpAny_updateSeq gB' rfl ?_)
    rw [nm]
    refine wpAny_pure ⟨plainId_quiet F.plain_min_loop _, min_dloop wk bt cmp _ nB _ 0 _ v _ rfl (by omega) (wk.frame _ _ _ st2 fun b q o e => ?_) p1 (Heap.get?_update_self _ gB' rfl) fun v' h2 t2 p2 k2 => ?_⟩
    · exact (Heap.get?_update_other _ _ (fun z => nB (by rw [z]; exact q))).trans e
    · refine k1 (by omega) v' h2 t2 p2 fun b o q e => k2 b o q (Nat.ne_of_lt (Heap.lt_size e)) ?_
      exact (Heap.get?_update_other _ _ (Ne.symm (Nat.ne_of_lt (Heap.lt_size e)))).trans (kp b o q (Heap.get?_push_of_some _ e))

end
end PyI
namespace PyI
open PySem PyProof.Rows

section
variable {prog : Program} {w : World} {A : Around} {R : Result → Shared → Prop} {I : Addr} {fp wr : List Addr} {G : Array GenState → Array GenState → Prop} {P : Nat → Value → Prop} {St : Nat → Shared → Prop}
variable {K : Type} [DecidableEq K] [BEq K] [LawfulBEq K] {knd : KeyKind prog w K}

/-- the loop of set.update over anything that is walked -/
theorem set_loop {l : List K} (W : WalksS prog w A.in1 I fp wr G l.length P St) (S : Addr) (hSf : S ∉ fp)
    (hval : ∀ i v, P i v → ∃ hi : i < l.length, knd.is l[i] v = true ∧ v.scannable = true) (hb : l.length + 1 < scanBound) :
    ∀ (k i : Nat) (s : Shared), l.length - i = k → i ≤ l.length → St i s →
      s.heap.SetOf knd S (fun k' => decide (k' ∈ met (l.take i))) (met (l.take i)).length →
      (∀ s', Moved (S :: wr) G s s' → s'.heap.SetOf knd S (fun k' => decide (k' ∈ met l)) (met l).length → R (.ok (.ret .none)) s') →
      codeAny (model prog w) A (.builtin "set.update.loop" ⟨[.ref S, .ref I], []⟩) R s := by
  have hSw : S ∉ wr := fun h => hSf (W.sub _ h)
  have hsub : ∀ b ∈ wr, b ∈ S :: wr := fun b hb => List.mem_cons_of_mem _ hb
  intro k
  induction k with
  | zero =>
    intro i s hk hi hst hS hR
    have hin : i = l.length := by omega
    subst hin
    rw [List.take_of_length_le (Nat.le_refl _)] at hS
    refine codeAny_builtin F.entry_set_update_loop ?_
    rw [Around.under_plainId F.plain_set_update_loop _]
    show wpAny _ A.in1 (pyNext (.ref I) >>= _) _ _ s
    refine wpAny_bind (W.done s _ _ hst fun s' hm => ?_)
    show wpAny _ A.in1 (ret Value.none) _ _ s'
    exact wpAny_pure (hR s' (hm.mono hsub) (by
      obtain ⟨o, es, ep, t, ho, rest⟩ := hS
      exact ⟨o, es, ep, t, hm.heap S _ hSw ho, rest⟩))
  | succ k ih =>
    intro i s hk hi hst hS hR
    have hlt : i < l.length := by omega
    refine codeAny_builtin F.entry_set_update_loop ?_
    rw [Around.under_plainId F.plain_set_update_loop _]
    show wpAny _ A.in1 (pyNext (.ref I) >>= _) _ _ s
    refine wpAny_bind (W.item i s _ _ hlt hst fun v s' hP hst' hm => ?_)
    obtain ⟨_, hk1, hk2⟩ := hval i v hP
    have hS' : s'.heap.SetOf knd S (fun k' => decide (k' ∈ met (l.take i))) (met (l.take i)).length := by
      obtain ⟨o, es, ep, tb, ho, rest⟩ := hS
      exact ⟨o, es, ep, tb, hm.heap S _ hSw ho, rest⟩
    show wpAny _ A.in1 (holding [v] (setAdd S v) >>= _) _ _ s'
    refine wpAny_bind (wpAny_holding ?_)
    unfold setAdd
    refine wpAny_holding ?_
    refine wpAny_bind (knd.pyHash hk1 ?_)
    have hroom : (met (l.take i)).length + 1 < scanBound := by
      have := len_met (l := l.take i)
      rw [List.length_take] at this
      omega
    refine wpAny_setAddHashed_of (knd := knd) (s := { s' with toks := s'.toks + 1 }) hk1 hk2 hS' hroom fun h' hsb hS2 => ?_
    have ht : l.take (i + 1) = l.take i ++ [l[i]] := by rw [List.take_add_one, List.getElem?_eq_getElem hlt]; rfl
    have hSi : h'.SetOf knd S (fun k' => decide (k' ∈ met (l.take (i + 1)))) (met (l.take (i + 1))).length :=
      SetOf_congr hS2 (fun k' => by
        rw [ht, met_snoc]
        have : (k' ∈ metF (met (l.take i)) l[i]) ↔ (k' ∈ met (l.take i) ∨ k' = l[i]) := mem_metF
        simp only [this, Bool.decide_or]) (by
        rw [ht, met_snoc, len_metF]
        by_cases hq : l[i] ∈ met (l.take i)
        · rw [if_pos hq, if_pos (decide_eq_true hq)]
        · rw [if_neg hq, if_neg (by simpa using hq)])
    refine wpAny_pure ⟨plainId_quiet F.plain_set_update_loop _, ih (i + 1) _ (by omega) hlt (W.frame _ s' _ _ hst' (Nat.le_succ _) fun b hb o e => ?_) hSi fun s'' hm'' hS'' => ?_⟩
    · rw [hsb.2 b (fun h : b = S => hSf (by rw [← h]; exact hb))]; exact e
    · refine hR s'' (Moved.trans W.gtrans ((hm.mono hsub).then_heap (Nat.le_succ _) fun b o hb e => ?_) hm'') hS''
      rw [hsb.2 b (fun h : b = S => hb (by rw [h]; exact List.mem_cons_self))]; exact e
end

def signs (x : Str) : List Str := x.cps.toList.map fun c => ⟨#[c]⟩
theorem signs_len (x : Str) : (signs x).length = x.cps.size := by simp [signs]
theorem sub_str_set : isSubtype (.type "str") (.type "set") = pure false := by rw [isSubtype_type]; kernel_rfl
theorem sub_str_frozenset : isSubtype (.type "str") (.type "frozenset") = pure false := by rw [isSubtype_type]; kernel_rfl
section
variable {prog : Program} {w : World} {A : Around} {E : Value → Shared → Prop} {s : Shared}
/-- set(text) -/
theorem call_set_text {x : Str} {t : Tok} {Q : Value → Shared → Prop} (hh : A.handled = none) (hb : x.cps.size + 1 < scanBound)
    (h : ∀ (h' : Heap) (tk : Nat), h'.SetOf (strKind prog w) s.heap.objs.size (fun k' => decide (k' ∈ met (signs x))) (met (signs x)).length →
      (∀ b o, b < s.heap.objs.size → s.heap.get? b = some o → h'.get? b = some o) → Q (.ref s.heap.objs.size) { s with heap := h', toks := tk }) :
    wpAny (model prog w) A (call (.type "set") [.str x t]) Q E s := by
  obtain ⟨c, tl, hmro⟩ := F.called_set.mro
  have hmade := F.called_set.made
  have hsub := F.called_set.sub
  refine wpAny_call (codeAny_of_tree ?_)
  show wpAny _ _ (callAny (.type "set") _) _ _ _
  refine wpAny_pure ⟨Code.quiet_builtin _ (by decide +kernel), codeAny_builtin F.entry_type_call ?_⟩
  rw [Around.under_plain (weight_type_call_type "set" [.str x t] []) rfl]
  have h1 := F.called_set.notType
  have h2 := F.called_set.canCreate
  have hct := F.typeCall_set_1 (.str x t)
  repeat (any_goals (first | assumption | wp_step))
  refine codeAny_mono (code_set_new_1 (.str x t) (E := E) (Q₁ := fun obj s₁ => ∃ led : Bool, obj = .ref s.heap.objs.size ∧ s₁ = { s with heap := s.heap.push { cls := .type "set", dict := none, data := .set #[] 0 (.fresh 0 0 led) } }) fun led => ⟨led, rfl, rfl⟩) fun r s₁ hr => ?_
  cases r with
  | error e => exact hr
  | ok fl =>
    cases fl with
    | ret obj =>
      obtain ⟨led, rfl, rfl⟩ := hr
      have hS : (s.heap.push { cls := .type "set", dict := none, data := .set #[] 0 (.fresh 0 0 led) }).get? s.heap.objs.size = some { cls := .type "set", dict := none, data := .set #[] 0 (.fresh 0 0 led) } := Heap.get?_push_size _ rfl
      have hT : Shared.TypeIs { s with heap := s.heap.push { cls := .type "set", dict := none, data := .set #[] 0 (.fresh 0 0 led) } } (.ref s.heap.objs.size) "set" := ⟨_, hS, rfl⟩
      have hli := F.called_set.init.lookup
      have hbi := F.called_set.init.bind (.ref s.heap.objs.size)
      repeat (any_goals (first | assumption | wp_step))
      refine codeAny_mono (codeAny_call_builtin (R := wants (fun r s₂ => r = .none ∧ ∃ h' tk, s₂ = { s with heap := h', toks := tk } ∧
          h'.SetOf (strKind prog w) s.heap.objs.size (fun k' => decide (k' ∈ met (signs x))) (met (signs x)).length ∧
          (∀ b o, b < s.heap.objs.size → s.heap.get? b = some o → h'.get? b = some o)) E) F.called_set.init.plain F.entry_set_init (check_set_init_1 hT ?_)) fun r₂ s₂ hr₂ => ?_
      · have hsls := sub_str_set
        have hslf := sub_str_frozenset
        have hne : (Value.type "str" == Value.type "dict") = false := by decide
        unfold Builtin.«set.__init__» noKeywords Builtin.Frozenset.updateFrom
        generalize hPI : pyIter = PI
        wp_walk
        subst hPI
        refine wpAny_pyIter_str fun ob St hW hst => ?_
        refine wpAny_bind (wpAny_runValue ?_)
        have hh3 : A.in1.in1.in1.handled = none := by simp [hh]
        have hSf : s.heap.objs.size ∉ [(s.heap.push { cls := .type "set", dict := none, data := .set #[] 0 (.fresh 0 0 led) }).objs.size] := by
          rw [Heap.size_push]; simp only [List.mem_singleton]
          exact Nat.ne_of_lt (Nat.lt_succ_self _)
        refine set_loop (l := signs x) (knd := strKind prog w) (by rw [signs_len]; exact (hW _ hh3).toS) s.heap.objs.size hSf (fun i v hv => ?_) (by rw [signs_len]; exact hb) ((signs x).length - 0) 0 _ (by omega) (Nat.zero_le _) hst ?hS0 ?hR
        · obtain ⟨c, u, hc, rfl⟩ := hv
          have hi : i < x.cps.size := (Array.getElem?_eq_some_iff.mp hc).1
          refine ⟨by rw [signs_len]; exact hi, ?_, rfl⟩
          have e : (signs x)[i]'(by rw [signs_len]; exact hi) = ⟨#[c]⟩ := by
            have := (Array.getElem?_eq_some_iff.mp hc).2
            simp [signs, this]
          rw [e]
          exact strKind_is _ _ _ _
        case hS0 =>
          have hget : ((s.heap.push { cls := .type "set", dict := none, data := .set #[] 0 (.fresh 0 0 led) }).push ob).get? s.heap.objs.size
              = some { cls := .type "set", dict := none, data := .set #[] 0 (.fresh 0 0 led) } := Heap.get?_push_of_some _ hS
          exact PyProof.Rows.SetOf_congr ((PyProof.Rows.setObjOf_fresh (knd := strKind prog w) led).setOf hget (by unfold scanBound; omega)) (fun _ => by simp [met]) rfl
        case hR =>
          intro s' hm hS'
          obtain ⟨h', g', d', tk', os'⟩ := s'
          have eg : g' = s.gens := hm.gens
          have ed : d' = s.drawn := hm.drawn
          have eo : os' = s.os := hm.os
          subst eg; subst ed; subst eo
          show wpAny _ _ _ _ _ _
          refine wpAny_pure ?_
          show wpAny _ _ (ret Value.none) _ _ _
          refine wpAny_pure ⟨rfl, h', tk', rfl, hS', fun b o hb e => ?_⟩
          have hb1 : b ≠ s.heap.objs.size := Nat.ne_of_lt hb
          have hb2 : b ≠ (s.heap.push { cls := .type "set", dict := none, data := .set #[] 0 (.fresh 0 0 led) }).objs.size := by
            rw [Heap.size_push]; exact Nat.ne_of_lt (Nat.lt_succ_of_lt hb)
          exact hm.heap b o (by simp only [List.mem_cons, List.mem_singleton, List.not_mem_nil, or_false, not_or]; exact ⟨hb1, hb2⟩) (Heap.get?_push_of_some _ (Heap.get?_push_of_some _ e))
      · cases r₂ with
        | error e => exact hr₂
        | ok fl₂ =>
          cases fl₂ with
          | ret r =>
            obtain ⟨rfl, h', tk, rfl, hS', hk'⟩ := hr₂
            repeat (any_goals (first | assumption | wp_step))
            exact h _ _ hS' hk'
          | _ => exact hr₂.elim
    | _ => exact hr.elim
end
end PyI
namespace PyI
open PySem PySem.Calls PySem.W PyProof.Rows L2

/-- keys that can be read back -/
structure Kf {prog : Program} {w : World} {K : Type} [DecidableEq K] (knd : KeyKind prog w K) where
  kf : Value → K
  back : ∀ {k : K} {v : Value}, knd.is k v = true → kf v = k ∧ v.scannable = true
def kfS (prog : Program) (w : World) : Kf (strKind prog w) := ⟨fun v => match v with | .str x _ => x | _ => default, fun {k v} h => by
  obtain ⟨t, rfl⟩ := Value.isStrOf_shape h
  exact ⟨rfl, rfl⟩⟩
def kfI (prog : Program) (w : World) : Kf (intKind prog w) := ⟨fun v => match v with | .int x _ => x | _ => 0, fun {k v} h => by
  obtain ⟨t, rfl⟩ := Value.isInt_shape h
  exact ⟨rfl, rfl⟩⟩
theorem sub_tuple_set : isSubtype (.type "tuple") (.type "set") = pure false := by rw [isSubtype_type]; kernel_rfl
theorem sub_tuple_frozenset : isSubtype (.type "tuple") (.type "frozenset") = pure false := by rw [isSubtype_type]; kernel_rfl
section
variable {prog : Program} {w : World} {K : Type} [DecidableEq K] [BEq K] [LawfulBEq K] {knd : KeyKind prog w K}
/-- a set at a place: its keys, in some order -/
def SetA (kd : Kf knd) (h : Heap) (a : Addr) (ks : List K) : Prop :=
  ∃ (o : Obj) (xs : Array (Int × Value)) (ep : Nat) (t : SetTable), (h.get? a = some o ∧ o.ExactSet ∧ o.data = .set xs ep t) ∧ (∀ e ∈ xs.toList, knd.is (kd.kf e.2) e.2 = true ∧ e.1 = knd.hash (kd.kf e.2)) ∧
    (xs.toList.map fun e => kd.kf e.2).Perm ks ∧ (ks.Nodup ∧ ks.length < scanBound) ∧ t.fits xs.size = true ∧ Ris t.place.toList ∧ (w.params.followText "set-order" = true ∨ t.led = true)
variable {kd : Kf knd} {A : Around} {E : Value → Shared → Prop} {s : Shared} {a : Addr} {ks : List K}
theorem SetA.keep {h h' : Heap} (R : SetA kd h a ks) (k : ∀ o, h.get? a = some o → h'.get? a = some o) : SetA kd h' a ks := by
  obtain ⟨o, xs, ep, t, ⟨ho, r1⟩, r⟩ := R
  exact ⟨o, xs, ep, t, ⟨k o ho, r1⟩, r⟩
theorem elems_of {l : List (Int × Value)} (g : ∀ e ∈ l, knd.is (kd.kf e.2) e.2 = true ∧ e.1 = knd.hash (kd.kf e.2)) : ElemsOf knd l := fun e he =>
  ⟨⟨kd.kf e.2, (g e he).1, (g e he).2⟩, (kd.back (g e he).1).2⟩
theorem mem_keys {l : List (Int × Value)} (g : ∀ e ∈ l, knd.is (kd.kf e.2) e.2 = true ∧ e.1 = knd.hash (kd.kf e.2)) (k : K) : k ∈ (l.map fun e => kd.kf e.2) ↔ ∃ e ∈ l, knd.is k e.2 = true := by
  rw [List.mem_map]
  exact ⟨fun ⟨e, he, q⟩ => ⟨e, he, by rw [← q]; exact (g e he).1⟩, fun ⟨e, he, q⟩ => ⟨e, he, (kd.back q).1⟩⟩
/-- the end of an adding: what was laid is stored, laid anew where it is full -/
theorem setA_tail {gv : Bool → Sem Unit} (hgv : ∀ (b : Bool) (s1 : Shared) (Q1 : Unit → Shared → Prop), Q1 () s1 → wpAny (model prog w) A (gv b) Q1 E s1)
    {o : Obj} {xs : Array (Int × Value)} {ep : Nat} {t : SetTable} (hob : s.heap.get? a = some o) (hxo : o.ExactSet) (hdt : o.data = .set xs ep t)
    {ys : Array (Int × Value)} {t2 : SetTable} {ks2 : List K} (gy : ∀ e ∈ ys.toList, knd.is (kd.kf e.2) e.2 = true ∧ e.1 = knd.hash (kd.kf e.2)) (py : (ys.toList.map fun e => kd.kf e.2).Perm ks2) (ny : ks2.Nodup ∧ ks2.length < scanBound)
    (fy : t2.fits ys.size = true) (ry : Ris t2.place.toList) (ly : w.params.followText "set-order" = true ∨ t2.led = true) {dm : Bool} {R : Option Bool → Shared → Prop}
    (hR : ∀ h', Heap.SameBut a s.heap h' → SetA kd h' a ks2 → R (some true) { s with heap := h' }) :
    wpAny (model prog w) A (do
        storeSet a ys t2
        if (!dm && t2.tooFull) = true then do
            gv (relayAll t2 ys (SetTable.grown ys.size)).2.2
            storeSet a (relayAll t2 ys (SetTable.grown ys.size)).1 (relayAll t2 ys (SetTable.grown ys.size)).2.1
            pure (some true)
          else pure (some true)) R E s := by
  have hys : ys.size < scanBound := by
    have := py.length_eq
    rw [List.length_map, Array.length_toList] at this
    omega
  refine wpAny_bind (wpAny_storeSet_of hob hdt ?_ (fits_of_scanBound hys))
  have at1 := store_at (es' := ys) (t' := t2) hob hdt
  have same1 := Heap.SameBut.update s.heap a (Obj.putSet ys t2)
  split
  · have rp := relayAll_perm t2 ys (SetTable.grown ys.size)
    have rf := relayAll_fits t2 ys (SetTable.grown ys.size)
    have rr := relayAll_ris t2 ys (SetTable.grown ys.size)
    have rl := relayAll_led t2 ys (SetTable.grown ys.size)
    generalize relayAll t2 ys (SetTable.grown ys.size) = Z at rp rf rr rl ⊢
    obtain ⟨zs, t3, gave⟩ := Z
    dsimp only at rp rf rr rl ⊢
    have hzs : zs.size < scanBound := by rw [← Array.length_toList, rp.length_eq, Array.length_toList]; exact hys
    refine wpAny_bind (hgv _ _ _ ?_)
    refine wpAny_bind (wpAny_storeSet_of at1 rfl ?_ (fits_of_scanBound hzs))
    have at2 := store_at (es' := zs) (t' := t3) at1 rfl
    refine wpAny_pure (hR _ (same1.trans (Heap.SameBut.update _ a _)) ?_)
    exact ⟨_, zs, _, t3, ⟨at2, hxo, rfl⟩, fun e he => gy e (rp.mem_iff.mp he), (rp.map _).trans py, ny, rf, rr, ly.imp id fun z => by rw [rl]; exact z⟩
  · exact wpAny_pure (hR _ same1 ⟨_, ys, _, t2, ⟨at1, hxo, rfl⟩, gy, py, ny, fy, ry, ly⟩)
theorem setA_add {k : K} {v : Value} {Q : Bool → Shared → Prop} (hk : knd.is k v = true) (R : SetA kd s.heap a ks) (room : ks.length + 1 < scanBound)
    (hQ : ∀ h', Heap.SameBut a s.heap h' → SetA kd h' a (metF ks k) → Q (!decide (k ∈ ks)) { s with heap := h' }) : wpAny (model prog w) A (setAddHashed a v (knd.hash k)) Q E s := by
  obtain ⟨o, xs, ep, t, ⟨hob, hxo, hdt⟩, gx, px, ⟨nx, bx⟩, fx, rx, lx⟩ := R
  obtain ⟨hkf, hsc⟩ := kd.back hk
  have hxs : xs.size < scanBound := by
    have := px.length_eq
    rw [List.length_map, Array.length_toList] at this
    omega
  have hel : ElemsOf knd xs.toList := elems_of gx
  unfold setAddHashed
  unfold setAddHashedIn
  refine wpAny_holding (wpAny_bind (wpAny_setState_of hob hdt fx ?_))
  dsimp only
  rw [byScan_of hsc hxs hel]
  simp only [↓reduceIte]
  unfold setAddByScan
  refine wpAny_bind ?_
  refine wpAny_bind (wpAny_rule ?_)
  refine wpAny_bind (wpAny_setScan_of hk hob hdt fx hel ?_)
  cases hfi : List.findIdx? (fun e => knd.is k e.2) xs.toList with
  | some j =>
    dsimp only
    obtain ⟨hj, pj, _⟩ := List.findIdx?_eq_some_iff_getElem.mp hfi
    have hin : k ∈ ks := px.mem_iff.mp ((mem_keys gx k).mpr ⟨xs.toList[j], List.getElem_mem hj, pj⟩)
    refine wpAny_pure (wpAny_pure ?_)
    have q := hQ s.heap (Heap.SameBut.refl a s.heap) (by
      rw [show metF ks k = ks from if_pos hin]
      exact ⟨o, xs, ep, t, ⟨hob, hxo, hdt⟩, gx, px, ⟨nx, bx⟩, fx, rx, lx⟩)
    rw [decide_eq_true hin] at q
    exact q
  | none =>
    dsimp only
    have hnot : k ∉ ks := fun z => by
      obtain ⟨e, he, q⟩ := (mem_keys gx k).mp (px.mem_iff.mpr z)
      have c := List.findIdx?_eq_none_iff.mp hfi e he
      rw [q] at c
      cases c
    have hgw : ∀ (b : Bool) {s₁ : Shared} {Q' : Unit → Shared → Prop}, Q' () s₁ → wpAny (model prog w) A (match b with | true => rule "set.scan.the-table-gave-way" | false => pure ()) Q' E s₁ :=
      fun b s₁ Q' q => by cases b <;> first | exact wpAny_pure q | exact wpAny_rule q
    have lp := layNew_perm t xs (knd.hash k) v
    have lf := layNew_fits t xs (knd.hash k) v
    have lr := layNew_ris t xs (knd.hash k) v rx
    have ll := layNew_led t xs (knd.hash k) v
    generalize layNew t xs (knd.hash k) v = Z at lp lf lr ll ⊢
    obtain ⟨ys, t1, dm, gave⟩ := Z
    dsimp only at lp lf lr ll ⊢
    rw [Array.toList_push] at lp
    have pc : ys.toList.Perm ((knd.hash k, v) :: xs.toList) := lp.trans (List.perm_append_singleton _ _)
    have gy : ∀ e ∈ ys.toList, knd.is (kd.kf e.2) e.2 = true ∧ e.1 = knd.hash (kd.kf e.2) := fun e he => by
      rcases List.mem_cons.mp (pc.mem_iff.mp he) with z | z
      · rw [z]
        show knd.is (kd.kf v) v = true ∧ knd.hash k = knd.hash (kd.kf v)
        rw [hkf]
        exact ⟨hk, rfl⟩
      · exact gx e z
    have em : metF ks k = ks ++ [k] := if_neg hnot
    have py : (ys.toList.map fun e => kd.kf e.2).Perm (metF ks k) := by
      rw [em]
      have q := pc.map fun e : Int × Value => kd.kf e.2
      rw [List.map_cons] at q
      refine q.trans ?_
      show (kd.kf v :: xs.toList.map fun e => kd.kf e.2).Perm _
      rw [hkf]
      exact (px.cons k).trans (List.perm_append_singleton k ks).symm
    have ny : (metF ks k).Nodup ∧ (metF ks k).length < scanBound := ⟨nd_metF nx, by rw [len_metF, if_neg hnot]; exact room⟩
    have ly : w.params.followText "set-order" = true ∨ t1.led = true := lx.imp id fun z => by rw [ll]; exact z
    have fin : ∀ h', Heap.SameBut a s.heap h' → SetA kd h' a (metF ks k) → Q true { s with heap := h' } := fun h' sb r => by
      have q := hQ h' sb r
      rw [decide_eq_false hnot] at q
      exact q
    refine wpAny_bind (hgw _ ?_)
    split
    · refine wpAny_bind ?_
      rw [hashByValue_scannable 8 hsc]
      refine wpAny_pure ?_
      refine setA_tail ?_ hob hxo hdt gy py ny ?_ ?_ ?_ ?_
      · intro b s₁ Q' q; cases b <;> first | exact wpAny_pure q | exact wpAny_rule q
      · first | (split <;> first | exact lf | exact SetTable.fits_plain_off lf) | exact lf
      · first | (split <;> exact lr) | exact lr
      · first | (split <;> exact ly) | exact ly
      · intro h' sb r; dsimp only; exact wpAny_pure (fin h' sb r)
    · refine wpAny_bind (wpAny_pure ?_)
      simp only [↓reduceIte]
      refine setA_tail ?_ hob hxo hdt gy py ny lf lr ly ?_
      · intro b s₁ Q' q; cases b <;> first | exact wpAny_pure q | exact wpAny_rule q
      · intro h' sb r; dsimp only; exact wpAny_pure (fin h' sb r)
theorem setA_fresh (kd : Kf knd) {h : Heap} {led : Bool} (hl : w.params.followText "set-order" = true ∨ led = true) : SetA kd (h.push { cls := .type "set", dict := none, data := .set #[] 0 (.fresh 0 0 led) }) h.objs.size [] :=
  ⟨_, #[], 0, _, ⟨Heap.get?_push_size _ rfl, ⟨rfl, rfl, rfl⟩, rfl⟩, (fun e he => by simp at he), .nil, ⟨.nil, by show (0 : Nat) < scanBound; decide⟩, by rfl, List.Pairwise.nil, hl⟩
/-- set.__new__ with something to make it of -/
theorem code_set_of (u : Value) {Q₁ : Value → Shared → Prop}
    (h : ∀ led : Bool, (w.params.followText "set-order" = true ∨ led = true) → Q₁ (.ref s.heap.objs.size) { s with heap := s.heap.push { cls := .type "set", dict := none, data := .set #[] 0 (.fresh 0 0 led) } }) :
    codeAny (model prog w) A (.call (.builtin "set.__new__") ⟨[.type "set", u], []⟩) (wants Q₁ E) s := by
  refine codeAny_of_tree ?_
  show wpAny _ A.in1 (do checkBuiltinCall "set.__new__" ⟨[.type "set", u], []⟩; again (.builtin "set.__new__" ⟨[.type "set", u], []⟩)) _ _ s
  refine wpAny_bind (wpAny_of_eq (F.newCall_set_1 u) (wpAny_pure ⟨plainId_quiet F.plain_set_new _, codeAny_builtin F.entry_set_new ?_⟩))
  rw [Around.under_plainId F.plain_set_new _]
  unfold Builtin.«set.__new__» Builtin.Frozenset.newClass
  have hsub := sub_set_self
  obtain ⟨hp, g, d, tk, os⟩ := s
  dsimp only
  wp_walk
  refine wpAny_askSetting (wpAny_pure ?_)
  dsimp only
  simp only [newObj]
  refine wpAny_bind (wpAny_alloc (wpAny_pure ?_))
  refine wpAny_pure (h _ ?_)
  show _ ∨ (!w.params.followText "set-order") = true
  cases w.params.followText "set-order"
  · exact .inr rfl
  · exact .inl rfl
/-- the loop of set.update, with the table's order -/
theorem setA_loop {R : Result → Shared → Prop} {I : Addr} {fp wr : List Addr} {G : Array GenState → Array GenState → Prop} {P : Nat → Value → Prop} {St : Nat → Shared → Prop} {l : List K} (W : WalksS prog w A.in1 I fp wr G l.length P St) (z : Addr) (hzf : z ∉ fp)
    (hval : ∀ i v, P i v → ∃ hi : i < l.length, knd.is l[i] v = true) (hb : l.length + 1 < scanBound) :
    ∀ (k i : Nat) (s : Shared), l.length - i = k → i ≤ l.length → St i s → SetA kd s.heap z (met (l.take i)) →
      (∀ s', Moved (z :: wr) G s s' → SetA kd s'.heap z (met l) → R (.ok (.ret .none)) s') →
      codeAny (model prog w) A (.builtin "set.update.loop" ⟨[.ref z, .ref I], []⟩) R s := by
  have hzw : z ∉ wr := fun h => hzf (W.sub _ h)
  have hup : ∀ b ∈ wr, b ∈ z :: wr := fun b hb => List.mem_cons_of_mem _ hb
  intro k
  induction k with
  | zero =>
    intro i s hk hi hst hS hR
    have hin : i = l.length := by omega
    subst hin
    rw [List.take_of_length_le (Nat.le_refl _)] at hS
    refine codeAny_builtin F.entry_set_update_loop ?_
    rw [Around.under_plainId F.plain_set_update_loop _]
    show wpAny _ A.in1 (pyNext (.ref I) >>= _) _ _ s
    refine wpAny_bind (W.done s _ _ hst fun s' hm => ?_)
    show wpAny _ A.in1 (ret Value.none) _ _ s'
    exact wpAny_pure (hR s' (hm.mono hup) (hS.keep fun o ho => hm.heap z _ hzw ho))
  | succ k ih =>
    intro i s hk hi hst hS hR
    have hlt : i < l.length := by omega
    refine codeAny_builtin F.entry_set_update_loop ?_
    rw [Around.under_plainId F.plain_set_update_loop _]
    show wpAny _ A.in1 (pyNext (.ref I) >>= _) _ _ s
    refine wpAny_bind (W.item i s _ _ hlt hst fun v s' hP hst' hm => ?_)
    obtain ⟨_, hk1⟩ := hval i v hP
    have hS' : SetA kd s'.heap z (met (l.take i)) := hS.keep fun o ho => hm.heap z _ hzw ho
    show wpAny _ A.in1 (holding [v] (setAdd z v) >>= _) _ _ s'
    refine wpAny_bind (wpAny_holding ?_)
    unfold setAdd
    refine wpAny_holding ?_
    refine wpAny_bind (knd.pyHash hk1 ?_)
    have hroom : (met (l.take i)).length + 1 < scanBound := by
      have := len_met (l := l.take i)
      rw [List.length_take] at this
      omega
    refine setA_add (s := { s' with toks := s'.toks + 1 }) hk1 hS' hroom fun h' hsb hS2 => ?_
    have ht : l.take (i + 1) = l.take i ++ [l[i]] := by rw [List.take_add_one, List.getElem?_eq_getElem hlt]; rfl
    have hSi : SetA kd h' z (met (l.take (i + 1))) := by rw [ht, met_snoc]; exact hS2
    refine wpAny_pure ⟨plainId_quiet F.plain_set_update_loop _, ih (i + 1) _ (by omega) hlt (W.frame _ s' _ _ hst' (Nat.le_succ _) fun b hb o e => ?_) hSi fun s'' hm'' hS'' => ?_⟩
    · rw [hsb.2 b (fun h : b = z => hzf (by rw [← h]; exact hb))]; exact e
    · refine hR s'' (Moved.trans W.gtrans ((hm.mono hup).then_heap (Nat.le_succ _) fun b o hb e => ?_) hm'') hS''
      rw [hsb.2 b (fun h : b = z => hb (by rw [h]; exact List.mem_cons_self))]; exact e
/-- set(x), x a list -/
theorem call_setL (kd : Kf knd) {p : Addr} {items : Array Value} {l : List K} {Q : Value → Shared → Prop} (hh : A.handled = none) (hp : s.heap.IsList p items) (hlen : items.size = l.length)
    (hi : ∀ (i : Nat) (v : Value), items[i]? = some v → ∃ hi : i < l.length, knd.is l[i] v = true) (hb : l.length + 1 < scanBound)
    (h : ∀ (h' : Heap) (tk : Nat), SetA kd h' s.heap.objs.size (met l) → (∀ b o, b < s.heap.objs.size → s.heap.get? b = some o → h'.get? b = some o) → Q (.ref s.heap.objs.size) { s with heap := h', toks := tk }) :
    wpAny (model prog w) A (call (.type "set") [.ref p]) Q E s := by
  obtain ⟨c, tl, hmro⟩ := F.called_set.mro
  have hmade := F.called_set.made
  have hsub := F.called_set.sub
  refine wpAny_call (codeAny_of_tree ?_)
  show wpAny _ _ (callAny (.type "set") _) _ _ _
  refine wpAny_pure ⟨Code.quiet_builtin _ (by decide +kernel), codeAny_builtin F.entry_type_call ?_⟩
  rw [Around.under_plain (weight_type_call_type "set" [.ref p] []) rfl]
  have h1 := F.called_set.notType
  have h2 := F.called_set.canCreate
  have hct := F.typeCall_set_1 (.ref p)
  repeat (any_goals (first | assumption | wp_step))
  refine codeAny_mono (code_set_of (.ref p) (E := E) (Q₁ := fun obj s₁ => ∃ led : Bool, (w.params.followText "set-order" = true ∨ led = true) ∧ obj = .ref s.heap.objs.size ∧ s₁ = { s with heap := s.heap.push { cls := .type "set", dict := none, data := .set #[] 0 (.fresh 0 0 led) } }) fun led hl => ⟨led, hl, rfl, rfl⟩) fun r s₁ hr => ?_
  cases r with
  | error e => exact hr
  | ok fl =>
    cases fl with
    | ret obj =>
      obtain ⟨led, hled, rfl, rfl⟩ := hr
      have hS : (s.heap.push { cls := .type "set", dict := none, data := .set #[] 0 (.fresh 0 0 led) }).get? s.heap.objs.size = some { cls := .type "set", dict := none, data := .set #[] 0 (.fresh 0 0 led) } := Heap.get?_push_size _ rfl
      have hT : Shared.TypeIs { s with heap := s.heap.push { cls := .type "set", dict := none, data := .set #[] 0 (.fresh 0 0 led) } } (.ref s.heap.objs.size) "set" := ⟨_, hS, rfl⟩
      have hli := F.called_set.init.lookup
      have hbi := F.called_set.init.bind (.ref s.heap.objs.size)
      repeat (any_goals (first | assumption | wp_step))
      refine codeAny_mono (codeAny_call_builtin (R := wants (fun r s₂ => r = .none ∧ ∃ h' tk, s₂ = { s with heap := h', toks := tk } ∧ SetA kd h' s.heap.objs.size (met l) ∧
          (∀ b o, b < s.heap.objs.size → s.heap.get? b = some o → h'.get? b = some o)) E) F.called_set.init.plain F.entry_set_init (check_set_init_1 hT ?_)) fun r₂ s₂ hr₂ => ?_
      · obtain ⟨op, hop, hcl, np, hdp⟩ := hp
        obtain ⟨ocls, odict, odata, oslots⟩ := op
        simp only at hcl hdp
        subst hcl; subst hdp
        have hop' : (s.heap.push { cls := .type "set", dict := none, data := .set #[] 0 (.fresh 0 0 led) }).get? p = some { cls := .type "list", dict := odict, data := .seq items np, slots := oslots } := Heap.get?_push_of_some _ hop
        have hsls := F.sub_list_set
        have hslf := F.sub_list_frozenset
        have hne : (Value.type "list" == Value.type "dict") = false := by decide
        have hp1 : (s.heap.push { cls := .type "set", dict := none, data := .set #[] 0 (.fresh 0 0 led) }).IsList p items := ⟨_, hop', rfl, np, rfl⟩
        unfold Builtin.«set.__init__» noKeywords Builtin.Frozenset.updateFrom
        generalize hPI : pyIter = PI
        wp_walk
        subst hPI
        refine wpAny_pyIter_list hp1 ?_
        refine wpAny_bind (wpAny_runValue ?_)
        have hpS : p < s.heap.objs.size := Heap.lt_size hop
        have hh3 : A.in1.in1.in1.handled = none := by simp [hh]
        have hpI : p ≠ (s.heap.push { cls := .type "set", dict := none, data := .set #[] 0 (.fresh 0 0 led) }).objs.size := by
          rw [Heap.size_push]; exact Nat.ne_of_lt (Nat.lt_succ_of_lt hpS)
        have hSf : s.heap.objs.size ∉ [(s.heap.push { cls := .type "set", dict := none, data := .set #[] 0 (.fresh 0 0 led) }).objs.size, p] := by
          rw [Heap.size_push]; simp only [List.mem_cons, List.mem_singleton, List.not_mem_nil, or_false, not_or]
          exact ⟨Nat.ne_of_lt (Nat.lt_succ_self _), Nat.ne_of_gt hpS⟩
        have W := (Walks.list (prog := prog) (w := w) hh3 _ p hpI items).toS
        rw [hlen] at W
        refine setA_loop (kd := kd) (l := l) W s.heap.objs.size hSf hi hb (l.length - 0) 0 _ (by omega) (Nat.zero_le _)
          ⟨⟨_, Heap.get?_push_size _ rfl, rfl, rfl⟩, (hp1.push _)⟩ ?hS0 ?hR
        case hS0 => exact (setA_fresh kd hled).keep fun o ho => Heap.get?_push_of_some _ ho
        case hR =>
          intro s' hm hS'
          obtain ⟨h', g', d', tk', os'⟩ := s'
          have eg : g' = s.gens := hm.gens
          have ed : d' = s.drawn := hm.drawn
          have eo : os' = s.os := hm.os
          subst eg; subst ed; subst eo
          show wpAny _ _ _ _ _ _
          refine wpAny_pure ?_
          show wpAny _ _ (ret Value.none) _ _ _
          refine wpAny_pure ⟨rfl, h', tk', rfl, hS', fun b o hb e => ?_⟩
          have hb1 : b ≠ s.heap.objs.size := Nat.ne_of_lt hb
          have hb2 : b ≠ (s.heap.push { cls := .type "set", dict := none, data := .set #[] 0 (.fresh 0 0 led) }).objs.size := by
            rw [Heap.size_push]; exact Nat.ne_of_lt (Nat.lt_succ_of_lt hb)
          exact hm.heap b o (by simp only [List.mem_cons, List.mem_singleton, List.not_mem_nil, or_false, not_or]; exact ⟨hb1, hb2⟩) (Heap.get?_push_of_some _ (Heap.get?_push_of_some _ e))
      · cases r₂ with
        | error e => exact hr₂
        | ok fl₂ =>
          cases fl₂ with
          | ret r =>
            obtain ⟨rfl, h', tk, rfl, hS', hk'⟩ := hr₂
            repeat (any_goals (first | assumption | wp_step))
            exact h _ _ hS' hk'
          | _ => exact hr₂.elim
    | _ => exact hr.elim
/-- set(x), x a tuple -/
theorem call_setT (kd : Kf knd) {p : Addr} {items : Array Value} {l : List K} {Q : Value → Shared → Prop} (hh : A.handled = none) (hp : s.heap.IsTuple p items) (hlen : items.size = l.length)
    (hi : ∀ (i : Nat) (v : Value), items[i]? = some v → ∃ hi : i < l.length, knd.is l[i] v = true) (hb : l.length + 1 < scanBound)
    (h : ∀ (h' : Heap) (tk : Nat), SetA kd h' s.heap.objs.size (met l) → (∀ b o, b < s.heap.objs.size → s.heap.get? b = some o → h'.get? b = some o) → Q (.ref s.heap.objs.size) { s with heap := h', toks := tk }) :
    wpAny (model prog w) A (call (.type "set") [.ref p]) Q E s := by
  obtain ⟨c, tl, hmro⟩ := F.called_set.mro
  have hmade := F.called_set.made
  have hsub := F.called_set.sub
  refine wpAny_call (codeAny_of_tree ?_)
  show wpAny _ _ (callAny (.type "set") _) _ _ _
  refine wpAny_pure ⟨Code.quiet_builtin _ (by decide +kernel), codeAny_builtin F.entry_type_call ?_⟩
  rw [Around.under_plain (weight_type_call_type "set" [.ref p] []) rfl]
  have h1 := F.called_set.notType
  have h2 := F.called_set.canCreate
  have hct := F.typeCall_set_1 (.ref p)
  repeat (any_goals (first | assumption | wp_step))
  refine codeAny_mono (code_set_of (.ref p) (E := E) (Q₁ := fun obj s₁ => ∃ led : Bool, (w.params.followText "set-order" = true ∨ led = true) ∧ obj = .ref s.heap.objs.size ∧ s₁ = { s with heap := s.heap.push { cls := .type "set", dict := none, data := .set #[] 0 (.fresh 0 0 led) } }) fun led hl => ⟨led, hl, rfl, rfl⟩) fun r s₁ hr => ?_
  cases r with
  | error e => exact hr
  | ok fl =>
    cases fl with
    | ret obj =>
      obtain ⟨led, hled, rfl, rfl⟩ := hr
      have hS : (s.heap.push { cls := .type "set", dict := none, data := .set #[] 0 (.fresh 0 0 led) }).get? s.heap.objs.size = some { cls := .type "set", dict := none, data := .set #[] 0 (.fresh 0 0 led) } := Heap.get?_push_size _ rfl
      have hT : Shared.TypeIs { s with heap := s.heap.push { cls := .type "set", dict := none, data := .set #[] 0 (.fresh 0 0 led) } } (.ref s.heap.objs.size) "set" := ⟨_, hS, rfl⟩
      have hli := F.called_set.init.lookup
      have hbi := F.called_set.init.bind (.ref s.heap.objs.size)
      repeat (any_goals (first | assumption | wp_step))
      refine codeAny_mono (codeAny_call_builtin (R := wants (fun r s₂ => r = .none ∧ ∃ h' tk, s₂ = { s with heap := h', toks := tk } ∧ SetA kd h' s.heap.objs.size (met l) ∧
          (∀ b o, b < s.heap.objs.size → s.heap.get? b = some o → h'.get? b = some o)) E) F.called_set.init.plain F.entry_set_init (check_set_init_1 hT ?_)) fun r₂ s₂ hr₂ => ?_
      · obtain ⟨op, hop, hcl, np, hdp⟩ := hp
        obtain ⟨ocls, odict, odata, oslots⟩ := op
        simp only at hcl hdp
        subst hcl; subst hdp
        have hop' : (s.heap.push { cls := .type "set", dict := none, data := .set #[] 0 (.fresh 0 0 led) }).get? p = some { cls := .type "tuple", dict := odict, data := .seq items np, slots := oslots } := Heap.get?_push_of_some _ hop
        have hsls := sub_tuple_set
        have hslf := sub_tuple_frozenset
        have hne : (Value.type "tuple" == Value.type "dict") = false := by decide
        have hp1 : (s.heap.push { cls := .type "set", dict := none, data := .set #[] 0 (.fresh 0 0 led) }).IsTuple p items := ⟨_, hop', rfl, np, rfl⟩
        unfold Builtin.«set.__init__» noKeywords Builtin.Frozenset.updateFrom
        generalize hPI : pyIter = PI
        wp_walk
        subst hPI
        refine wpAny_pyIter_tuple hp1 ?_
        refine wpAny_bind (wpAny_runValue ?_)
        have hpS : p < s.heap.objs.size := Heap.lt_size hop
        have hh3 : A.in1.in1.in1.handled = none := by simp [hh]
        have hpI : p ≠ (s.heap.push { cls := .type "set", dict := none, data := .set #[] 0 (.fresh 0 0 led) }).objs.size := by
          rw [Heap.size_push]; exact Nat.ne_of_lt (Nat.lt_succ_of_lt hpS)
        have hSf : s.heap.objs.size ∉ [(s.heap.push { cls := .type "set", dict := none, data := .set #[] 0 (.fresh 0 0 led) }).objs.size, p] := by
          rw [Heap.size_push]; simp only [List.mem_cons, List.mem_singleton, List.not_mem_nil, or_false, not_or]
          exact ⟨Nat.ne_of_lt (Nat.lt_succ_self _), Nat.ne_of_gt hpS⟩
        have W := (Walks.tuple (prog := prog) (w := w) hh3 _ p hpI items).toS
        rw [hlen] at W
        refine setA_loop (kd := kd) (l := l) W s.heap.objs.size hSf hi hb (l.length - 0) 0 _ (by omega) (Nat.zero_le _)
          ⟨⟨_, Heap.get?_push_size _ rfl, rfl, rfl⟩, (hp1.push _)⟩ ?hS0 ?hR
        case hS0 => exact (setA_fresh kd hled).keep fun o ho => Heap.get?_push_of_some _ ho
        case hR =>
          intro s' hm hS'
          obtain ⟨h', g', d', tk', os'⟩ := s'
          have eg : g' = s.gens := hm.gens
          have ed : d' = s.drawn := hm.drawn
          have eo : os' = s.os := hm.os
          subst eg; subst ed; subst eo
          show wpAny _ _ _ _ _ _
          refine wpAny_pure ?_
          show wpAny _ _ (ret Value.none) _ _ _
          refine wpAny_pure ⟨rfl, h', tk', rfl, hS', fun b o hb e => ?_⟩
          have hb1 : b ≠ s.heap.objs.size := Nat.ne_of_lt hb
          have hb2 : b ≠ (s.heap.push { cls := .type "set", dict := none, data := .set #[] 0 (.fresh 0 0 led) }).objs.size := by
            rw [Heap.size_push]; exact Nat.ne_of_lt (Nat.lt_succ_of_lt hb)
          exact hm.heap b o (by simp only [List.mem_cons, List.mem_singleton, List.not_mem_nil, or_false, not_or]; exact ⟨hb1, hb2⟩) (Heap.get?_push_of_some _ (Heap.get?_push_of_some _ e))
      · cases r₂ with
        | error e => exact hr₂
        | ok fl₂ =>
          cases fl₂ with
          | ret r =>
            obtain ⟨rfl, h', tk, rfl, hS', hk'⟩ := hr₂
            repeat (any_goals (first | assumption | wp_step))
            exact h _ _ hS' hk'
          | _ => exact hr₂.elim
    | _ => exact hr.elim
theorem each_keys {l : List Value} : ∀ {ks : List K}, l.map kd.kf = ks → (∀ v ∈ l, knd.is (kd.kf v) v = true) → EachIs (fun v k => knd.is k v = true) l ks := by
  induction l with
  | nil => rintro _ rfl _; exact .nil
  | cons v l ih => rintro _ rfl h; exact .cons (h v (List.mem_cons_self ..)) (ih rfl fun u hu => h u (List.mem_cons_of_mem _ hu))
/-- sorted(s), s a set of alike scalar things -/
theorem sorted_setA (hA : A.handled = none) (hu : A.units + 3 < cLine) (R : SetA kd s.heap a ks) (h64 : ks.length ≤ sizeLine) (enc : K → PyData) (hd : ∀ k, (enc k).depth = 0) (hrd : ∀ (k : K) (v : Value) (hp : Heap), knd.is k v = true → Reads hp v (enc k) [])
    (hal : ∀ k k', alike (enc k) (enc k') = true) (hsb : ∀ l : List K, Sortable (l.map enc)) {Q : Value → Shared → Prop}
    (hQ : ∀ (s' : Shared) (p : Addr) (out : List Value) (c : Nat) (ks2 : List K), (∀ b o, s.heap.get? b = some o → s'.heap.get? b = some o) → s'.gens = s.gens → s'.os = s.os → s.heap.objs.size ≤ p → s'.heap.get? p = some (seqObj "list" out.toArray c) →
      ks2.Perm ks → EachIs (fun v k => knd.is k v = true) out (ks2.mergeSort (dataLe false enc)) → out.length = ks.length → Q (.ref p) s') :
    wpAny (model prog w) A (call (.builtin "sorted") [.ref a]) Q E s := by
  obtain ⟨o, xs, ep, t, ⟨hob, hxo, hdt⟩, gx, px, ⟨nx, bx⟩, fx, rx, lx⟩ := R
  have hxs : xs.size = ks.length := by
    have := px.length_eq
    rwa [List.length_map, Array.length_toList] at this
  refine call_function_entry_kw kind_sorted plain_sorted entry_sorted (args_sorted1 _) ?_
  unfold Builtin.«sorted»
  refine wpAny_bind (m := checkCount "sorted" 1 1 _) (wpAny_pure ?_)
  refine wpAny_bind (collect_set (A := A.in1) (hA : A.in1.handled = none) ⟨o, hob, hxo.1, hdt⟩ fx (by omega) rx lx fun s1 vs k1 hz g1 o1 pm => ?_)
  have hvl : vs.length = ks.length := by rw [pm.length_eq, List.length_map, Array.length_toList]; exact hxs
  have hvk : (vs.map kd.kf).Perm ks := by
    have q := pm.map kd.kf
    rw [List.map_map] at q
    exact q.trans px
  have he : EachIs (fun v k => knd.is k v = true) vs (vs.map kd.kf) := each_keys rfl fun v hv => by
    obtain ⟨e, he, q⟩ := List.mem_map.mp (pm.mem_iff.mp hv)
    rw [← q]
    exact (gx e he).1
  generalize hk2 : vs.map kd.kf = ks2 at hvk he
  have hl2 : ks2.length = vs.length := by rw [← hk2, List.length_map]
  refine wpAny_bind (wpAny_newList ?_ (by rw [hvl]; exact h64))
  have hg : (s1.heap.push (seqObj "list" vs.toArray 0)).get? s1.heap.objs.size = some (seqObj "list" vs.toArray 0) := Heap.get?_push_size _ rfl
  have er : ∀ hp : Heap, EachIs (fun v k => ∃ as, Reads hp v (enc k) as) vs ks2 := fun hp => he.mono fun v k e => ⟨[], hrd k v hp e⟩
  refine wpAny_bind (wpAny_holding (wpAny_call_entry_kw slot_list_sort ⟨_, hg, rfl⟩ entry_list_sort ?body (args_list_sort _)))
  case body =>
    show wpAny (model prog w) A.in1.in1 (Builtin.«list.sort» ⟨[.ref s1.heap.objs.size], []⟩) _ _ { s1 with heap := s1.heap.push (seqObj "list" vs.toArray 0) }
    have hall : AllAlike (ks2.map enc) := fun d hd d' hd' => by
      obtain ⟨p, _, rfl⟩ := List.mem_map.mp hd
      obtain ⟨p', _, rfl⟩ := List.mem_map.mp hd'
      exact hal p p'
    refine list_sort_vals (s := { s1 with heap := s1.heap.push (seqObj "list" vs.toArray 0) }) hg (SortsAt.data (s := { s1 with heap := sortingHeap (s1.heap.push (seqObj "list" vs.toArray 0)) s1.heap.objs.size vs }) (each_map (R := fun v d => ∃ as, Reads (sortingHeap (s1.heap.push (seqObj "list" vs.toArray 0)) s1.heap.objs.size vs) v d as) enc (er _)) hall (hsb _) ?_) (by rw [hvl]; exact h64) ?_
    · intro d hd'
      obtain ⟨p, _, rfl⟩ := List.mem_map.mp hd'
      show A.units + 1 + 1 + _ < _
      rw [hd p]
      omega
    · refine ⟨_, rfl, wpAny_pure ⟨_, rfl, ?_⟩⟩
      obtain ⟨c, hat⟩ := sortedHeap_at (out := (sortVals (dataKind (sortingHeap (s1.heap.push (seqObj "list" vs.toArray 0)) s1.heap.objs.size vs) (ks2.map enc)) false vs vs).toArray) hg
      refine hQ _ s1.heap.objs.size _ c ks2 (fun b u e => ?_) g1 o1 hz hat hvk (sortVals_data false he (er _) hall) (by rw [sortVals_length false rfl, hvl])
      have q := k1 b u e
      have hlt := Heap.lt_size q
      show (sortedHeap (s1.heap.push (seqObj "list" vs.toArray 0)) s1.heap.objs.size vs _).get? b = some u
      rw [sortedHeap_old (Nat.ne_of_lt hlt) (by rw [size_push']; exact Nat.lt_succ_of_lt hlt)]
      exact Heap.get?_push_of_some _ q
end
end PyI
namespace PyI
open PySem L2

section
variable {X : Cx}
theorem lexI_lt : ∀ ns ms : List Int, HT.lexLt ns ms = lexI false ns ms
  | [], [] => rfl
  | [], _ :: _ => rfl
  | _ :: _, [] => rfl
  | x :: xs, y :: ys => by
    rw [HT.lexLt_cons]; unfold lexI
    split
    · exact lexI_lt xs ys
    · rfl
theorem lexI_leAt : ∀ (ns ms as bs : List Int), as.length = bs.length →
    Ob.lexAt (fun j => decide ((as ++ ns).getD j 0 = (bs ++ ms).getD j 0)) (fun j => decide ((as ++ ns).getD j 0 ≤ (bs ++ ms).getD j 0)) (decide (ns.length ≤ ms.length)) as.length (min ns.length ms.length) = lexI true ns ms
  | [], [], as, bs, h => rfl
  | [], _ :: _, as, bs, h => by simp [lexI, Ob.lexAt_zero]
  | _ :: _, [], as, bs, h => by simp [lexI, Ob.lexAt_zero]
  | x :: xs, y :: ys, as, bs, h => by
    have e : min (x :: xs).length (y :: ys).length = min xs.length ys.length + 1 := by simp only [List.length_cons]; omega
    rw [e, Ob.lexAt_succ]
    have gx : (as ++ x :: xs).getD as.length 0 = x := by simp [List.getD]
    have gy : (bs ++ y :: ys).getD as.length 0 = y := by rw [h]; simp [List.getD]
    simp only [gx, gy]
    unfold lexI
    by_cases c : x = y
    · subst c
      simp only [decide_true, if_true]
      have := lexI_leAt xs ys (as ++ [x]) (bs ++ [x]) (by simp [h])
      simp only [List.append_assoc, List.singleton_append, List.length_append, List.length_singleton] at this
      have e2 : decide ((x :: xs).length ≤ (x :: ys).length) = decide (xs.length ≤ ys.length) := by simp
      rw [e2]
      exact this
    · have c2 : (x ≤ y) ↔ (x < y) := by omega
      simp [c, c2]
theorem opAdd : OpR X (binaryOp .Add) (rB X.K (binD .add)) := by
  intro pins s σ H x y v u Q I rx ry ⟨Z, ι, n, a, b, d, ra, rb, e, k⟩
  cases a <;> cases b <;> simp [binD] at e
  case int.int i j =>
    subst e
    exact op_add pins s σ H x y v u Q I rx ry ⟨_, _, ra.int, rb.int, k _ _ Grow.refl (Rep.int _)⟩
  case str.str i j =>
    obtain ⟨hl, e⟩ := e
    subst e
    refine op_add_str pins s σ H x y v u Q I rx ry ⟨_, _, ra.str, rb.str, ?_, k _ _ Grow.refl ?_⟩
    · simpa [txt, Str.length, szL, sizeLine_eq] using hl
    · have : (txt i ++ txt j : Str) = txt (i ++ j) := by
        have h := txt_of (txt i ++ txt j)
        have h2 : (txt i ++ txt j : Str).cps.toList = i ++ j := by
          show ((txt i).cps ++ (txt j).cps).toList = _
          simp [txt]
        rw [h2] at h
        exact h.symm
      rw [this]
      exact Rep.str _
  case tup.tup xs ys =>
    obtain ⟨hl, e⟩ := e
    subst e
    obtain ⟨p, us, e1, h1, r1⟩ := ra.tupP
    obtain ⟨q, ws, e2, h2, r2⟩ := rb.tupP
    refine op_catP pins s σ H x y v u Q I rx ry ⟨p, q, us, ws, e1, e2, h1.sq, h2.sq, ?_, fun z => ?_, fun z z2 => ?_, fun z z2 t ot ht ht1 ht2 => ?_⟩
    · rw [r1.length, r2.length, sizeLine_eq]; exact hl
    · refine k _ _ Grow.refl ?_
      subst z
      have : xs = [] := by have := r1.length; cases xs with | nil => rfl | cons _ _ => simp at this
      subst this
      exact Rep.tup h2 r2
    · refine k _ _ Grow.refl ?_
      subst z2
      have : ys = [] := by have := r2.length; cases ys with | nil => rfl | cons _ _ => simp at this
      subst this
      rw [List.append_nil]
      exact Rep.tup h1 r1
    · exact k _ _ (Grow.new ht) (Rep.tup (SqTP.mk' ht1 ht2) ((r1.append r2).keep (Grow.keep (Grow.new ht))))
  case lst.lst xs ys =>
    obtain ⟨hl, e⟩ := e
    subst e
    obtain ⟨p, us, e1, h1, r1⟩ := ra.lst
    obtain ⟨q, ws, e2, h2, r2⟩ := rb.lst
    refine op_cat pins s σ H x y v u Q I rx ry ⟨p, q, us, ws, e1, e2, h1, h2, ?_, fun t ht => ?_⟩
    · rw [r1.length, r2.length, sizeLine_eq]; exact hl
    · exact k _ _ (Grow.new ht) ⟨t, rfl, ht, us ++ ws, upd_same, (r1.append r2).keep (Grow.keep (Grow.new ht))⟩
theorem opSub : OpR X (binaryOp .Sub) (rB X.K (binD .sub)) := by
  intro pins s σ H x y v u Q I rx ry ⟨Z, ι, n, a, b, d, ra, rb, e, k⟩
  cases a <;> cases b <;> simp [binD] at e
  subst e
  exact op_sub pins s σ H x y v u Q I rx ry ⟨_, _, ra.int, rb.int, k _ _ Grow.refl (Rep.int _)⟩
theorem reps_rep {K : PySem.W.Frag} {H : Hp} {Z : Addr → Prop} {ι : Nat → Addr} {n : Nat} {xs : List V} {ds : List D} (r : Reps K H Z ι n xs ds) : ∀ m : Nat, Reps K H Z ι n (List.replicate m xs).flatten (List.replicate m ds).flatten
  | 0 => .nil
  | m + 1 => by
    rw [List.replicate_succ, List.replicate_succ, List.flatten_cons, List.flatten_cons]
    exact r.append (reps_rep r m)
/-- a tuple times an int -/
theorem op_repTP : OpR X (binaryOp .Mult) (fun x y H Q => ∃ l k xs, x = .ref l ∧ y = .int k ∧ SqT X.K H l xs ∧ xs ≠ [] ∧ 2 ≤ k ∧ k ≤ 1000 ∧ xs.length ≤ 1000 ∧ nT (List.replicate k.toNat xs).flatten H Q) := by
  intro pins s σ H x y v u Q I rx ry h
  obtain ⟨l, k, xs, rfl, rfl, hT, hne, h1, h2, hz, q⟩ := h
  cases rx
  obtain ⟨t, rfl⟩ := ry
  obtain ⟨its, r, ⟨⟨cls, dd, data, sl⟩, ho, hc, n, hd⟩, hs⟩ := I.tuple hT
  simp only at hc hd
  subst hc hd
  have hle : its.length = xs.length := r.length.symm
  have hn : its ≠ [] := fun e => hne (by
    rw [e] at hle
    exact List.eq_nil_of_length_eq_zero hle.symm)
  have hi : its.toArray.isEmpty = false := by
    cases its with
    | nil => exact absurd rfl hn
    | cons a b => rfl
  have hsz0 : its.toArray.size = xs.length := by rw [List.size_toArray, hle]
  have hm : ((its.toArray.size : Nat) : Int) * k ≤ 1000000 := by
    rw [hsz0]
    have a1 : ((xs.length : Nat) : Int) * k ≤ 1000 * k := Int.mul_le_mul_of_nonneg_right (by omega) (by omega)
    omega
  have flen : (List.replicate k.toNat its).flatten.length ≤ sizeLine := by
    rw [PyProof.Rows.lm_len_rep_flat, hle, sizeLine_eq]
    have a1 : k.toNat * xs.length ≤ 1000 * 1000 := Nat.mul_le_mul (by omega) hz
    omega
  have c0 : (decide (k < -(2 ^ 63)) || decide (k ≥ 2 ^ 63)) = false := by
    rw [decide_eq_false (by omega), decide_eq_false (by omega)] <;> rfl
  have c1 : (its.toArray.isEmpty || k == 1) = false := by
    rw [hi, Bool.false_or]
    exact beq_eq_false_iff_ne.mpr (by omega)
  have c2 : (decide (k ≤ 0) || its.toArray.isEmpty) = false := by
    rw [hi, Bool.or_false]
    exact decide_eq_false (by omega)
  have c4 : Builtin.Tuple.tupleTooMany (((its.toArray.size : Nat) : Int) * k) = false := by
    unfold Builtin.Tuple.tupleTooMany
    rw [sizeLine_eq]
    exact decide_eq_false (by omega)
  refine wpAny_binaryOp_repeat_ref (T := "tuple") (U := "int") (by decide) ⟨_, ho, rfl⟩ (fun s' => typeIs_int s' k t) noFill_tuple_mul F.fills_int_mul F.slot_int_rmul repeat_tuple F.slot_int_index.lookup
    (call_meets F.slot_int_rmul (typeIs_int s k t) F.entry_int_rmul (F.args_int_rmul_2 _ _) (int_rmul_tuple k t l its.toArray n dd sl)
      ⟨ho, rfl, ⟨_, ho, rfl⟩, call_meets F.slot_tuple_mul ⟨_, ho, rfl⟩ F.entry_tuple_mul (F.args_tuple_mul_2 _ _) (tuple_mulW l its.toArray n dd sl k t c0 c1 c2 (by omega) c4 (by rw [size_rep, List.size_toArray]; exact flen)) ⟨ho, ?_⟩⟩)
  rw [size_rep]
  exact laidTp I (r.rep k.toNat) (by rw [PyProof.Rows.lm_len_rep_flat, sizeLine_eq]; have a1 : k.toNat * xs.length ≤ 1000 * 1000 := Nat.mul_le_mul (by omega) hz; omega) q
theorem opMul : OpR X (binaryOp .Mult) (rB X.K (binD .mul)) := by
  intro pins s σ H x y v u Q I rx ry ⟨Z, ι, n, a, b, d, ra, rb, e, k⟩
  cases a <;> cases b <;> simp only [binD] at e <;> try (cases e; done)
  case int.int =>
    split at e
    rotate_left
    · cases e
    rename_i c
    cases e
    refine op_mul pins s σ H x y v u Q I rx ry ⟨_, _, ra.int, rb.int, ?_, k _ _ Grow.refl (Rep.int _)⟩
    simp [small] at c
    rcases c with c | c
    · exact .inl ⟨by omega, by omega⟩
    · exact .inr ⟨by omega, by omega⟩
  case lst.int xs j =>
    split at e
    rotate_left
    · cases e
    rename_i c
    cases e
    simp only [Bool.and_eq_true, decide_eq_true_eq] at c
    obtain ⟨⟨c1, c2⟩, c3⟩ := c
    obtain ⟨p, us, e1, h1, r1⟩ := ra.lst
    refine op_rep pins s σ H x y v u Q I rx ry ⟨p, j, us, e1, rb.int, h1, by omega, by omega, ?_, fun t ht => ?_⟩
    · rw [r1.length, sizeLine_eq]; exact c3
    · exact k _ _ (Grow.new ht) ⟨t, rfl, ht, _, upd_same, (reps_rep r1 j.toNat).keep (Grow.keep (Grow.new ht))⟩
  case tup.int xs j =>
    split at e
    rotate_left
    · cases e
    rename_i c
    cases e
    simp only [Bool.and_eq_true, decide_eq_true_eq] at c
    obtain ⟨⟨⟨c1, c2⟩, c3⟩, c4⟩ := c
    obtain ⟨p, us, e1, h1, r1⟩ := ra.tupP
    obtain ⟨its, r, hT, hz⟩ := I.tuple h1.sq
    refine op_repTP pins s σ H x y v u Q I rx ry ⟨p, j, us, e1, rb.int, h1.sq, ?_, c1, c2, by rw [r1.length]; exact c3, fun t ot ht ht1 ht2 => ?_⟩
    · intro e
      subst e
      have := r1.length
      cases xs with
      | nil => simp at c4
      | cons _ _ => simp at this
    · exact k _ _ (Grow.new ht) (Rep.tup (SqTP.mk' ht1 ht2) ((reps_rep r1 j.toNat).keep (Grow.keep (Grow.new ht))))
theorem opDiv : OpR X (binaryOp .FloorDiv) (rB X.K (binD .fdiv)) := by
  intro pins s σ H x y v u Q I rx ry ⟨Z, ι, n, a, b, d, ra, rb, e, k⟩
  cases a <;> cases b <;> simp [binD] at e
  obtain ⟨⟨c1, c2⟩, e⟩ := e
  subst e
  exact op_fdivW pins s σ H x y v u Q I rx ry ⟨_, _, ra.int, rb.int, wide_div (b := 62) c1 (by omega) (by decide) (by decide), k _ _ Grow.refl (Rep.int _)⟩
theorem opMod : OpR X (binaryOp .Mod) (rB X.K (binD .mod)) := by
  intro pins s σ H x y v u Q I rx ry ⟨Z, ι, n, a, b, d, ra, rb, e, k⟩
  cases a <;> cases b <;> simp [binD] at e
  obtain ⟨c, e⟩ := e
  subst e
  exact op_mod pins s σ H x y v u Q I rx ry ⟨_, _, ra.int, rb.int, c, k _ _ Grow.refl (Rep.int _)⟩
theorem opPow : OpR X (binaryOp .Pow) (rB X.K (binD .pow)) := by
  intro pins s σ H x y v u Q I rx ry ⟨Z, ι, n, a, b, d, ra, rb, e, k⟩
  cases a <;> cases b <;> simp [binD] at e
  obtain ⟨⟨⟨c1, c2⟩, c3⟩, e⟩ := e
  subst e
  exact op_pow pins s σ H x y v u Q I rx ry ⟨_, _, ra.int, rb.int, ⟨c1, c2, by omega⟩, k _ _ Grow.refl (Rep.int _)⟩

theorem alk_inv {a b : D} (h : alk a b = true) : shp 60 a = true ∧ shp 60 b = true ∧ PySem.W.alike (toP a) (toP b) = true := by
  simp only [alk, Bool.and_eq_true] at h
  exact ⟨h.1.1, h.1.2, h.2⟩
variable (hu : X.A.units + 65 < cLine)
include hu
theorem run_lt {pins : List (Addr × Obj)} {s : Shared} {σ : St} {H : Hp} {x y : V} {v u : Value} {Q : VK} {Z : Addr → Prop} {ι : Nat → Addr} {n : Nat} {a b d : D} (I : Inv X pins σ H s) (rx : RelV x v) (ry : RelV y u) (ra : RdV X.K H Z ι n x a) (rb : RdV X.K H Z ι n y b) (hn : toP a ≠ .none) (h : cmpP .lt a b = some d)
    (q : ∀ c, d = .bl c → Q (.bl c) H) : wpAny (model X.prog X.w) X.A (compareOp .Lt v u) (EP X pins σ Q) X.xe s := by
  unfold cmpP at h
  split at h
  rotate_left
  · cases h
  rename_i hk
  cases h
  obtain ⟨h1, h2, h3⟩ := alk_inv hk
  obtain ⟨as, r1⟩ := (ra.dp h1).reads I _ _ _ rx
  obtain ⟨bs, r2⟩ := (rb.dp h2).reads I _ _ _ ry
  have e1 := depth_toP a 60 h1
  exact PySem.W.lt_data r1 r2 h3 hn (by omega) ⟨.bl _, H, I, rfl, q _ rfl⟩
theorem run_gt {pins : List (Addr × Obj)} {s : Shared} {σ : St} {H : Hp} {x y : V} {v u : Value} {Q : VK} {Z : Addr → Prop} {ι : Nat → Addr} {n : Nat} {a b d : D} (I : Inv X pins σ H s) (rx : RelV x v) (ry : RelV y u) (ra : RdV X.K H Z ι n x a) (rb : RdV X.K H Z ι n y b) (hn : toP a ≠ .none) (h : cmpP .gt a b = some d)
    (q : ∀ c, d = .bl c → Q (.bl c) H) : wpAny (model X.prog X.w) X.A (compareOp .Gt v u) (EP X pins σ Q) X.xe s := by
  unfold cmpP at h
  split at h
  rotate_left
  · cases h
  rename_i hk
  cases h
  obtain ⟨h1, h2, h3⟩ := alk_inv hk
  obtain ⟨as, r1⟩ := (ra.dp h1).reads I _ _ _ rx
  obtain ⟨bs, r2⟩ := (rb.dp h2).reads I _ _ _ ry
  have e1 := depth_toP a 60 h1
  exact PySem.W.gt_data r1 r2 h3 hn (by omega) ⟨.bl _, H, I, rfl, q _ rfl⟩
theorem run_le {pins : List (Addr × Obj)} {s : Shared} {σ : St} {H : Hp} {x y : V} {v u : Value} {Q : VK} {Z : Addr → Prop} {ι : Nat → Addr} {n : Nat} {a b d : D} (I : Inv X pins σ H s) (rx : RelV x v) (ry : RelV y u) (ra : RdV X.K H Z ι n x a) (rb : RdV X.K H Z ι n y b) (hn : toP a ≠ .none) (h : cmpP .le a b = some d)
    (q : ∀ c, d = .bl c → Q (.bl c) H) : wpAny (model X.prog X.w) X.A (compareOp .LtE v u) (EP X pins σ Q) X.xe s := by
  unfold cmpP at h
  split at h
  rotate_left
  · cases h
  rename_i hk
  cases h
  obtain ⟨h1, h2, h3⟩ := alk_inv hk
  obtain ⟨as, r1⟩ := (ra.dp h1).reads I _ _ _ rx
  obtain ⟨bs, r2⟩ := (rb.dp h2).reads I _ _ _ ry
  have e1 := depth_toP a 60 h1
  exact PySem.W.le_data r1 r2 h3 hn (by omega) ⟨.bl _, H, I, rfl, q _ rfl⟩
theorem run_ge {pins : List (Addr × Obj)} {s : Shared} {σ : St} {H : Hp} {x y : V} {v u : Value} {Q : VK} {Z : Addr → Prop} {ι : Nat → Addr} {n : Nat} {a b d : D} (I : Inv X pins σ H s) (rx : RelV x v) (ry : RelV y u) (ra : RdV X.K H Z ι n x a) (rb : RdV X.K H Z ι n y b) (hn : toP a ≠ .none) (h : cmpP .ge a b = some d)
    (q : ∀ c, d = .bl c → Q (.bl c) H) : wpAny (model X.prog X.w) X.A (compareOp .GtE v u) (EP X pins σ Q) X.xe s := by
  unfold cmpP at h
  split at h
  rotate_left
  · cases h
  rename_i hk
  cases h
  obtain ⟨h1, h2, h3⟩ := alk_inv hk
  obtain ⟨as, r1⟩ := (ra.dp h1).reads I _ _ _ rx
  obtain ⟨bs, r2⟩ := (rb.dp h2).reads I _ _ _ ry
  have e1 := depth_toP a 60 h1
  exact PySem.W.ge_data r1 r2 h3 hn (by omega) ⟨.bl _, H, I, rfl, q _ rfl⟩
theorem opLt : OpR X (compareOp .Lt) (rB X.K (binD .lt)) := by
  intro pins s σ H x y v u Q I rx ry ⟨Z, ι, n, a, b, d, ra, rb, e, k⟩
  cases a <;> cases b <;> simp [binD, cmpD] at e
  case int.int i j =>
    subst e
    exact op_lt pins s σ H x y v u Q I rx ry ⟨_, _, ra.int, rb.int, k _ _ Grow.refl (Rep.bl _)⟩
  case str.str i j =>
    subst e
    refine op_lt_str pins s σ H x y v u Q I rx ry ⟨_, _, ra.str, rb.str, ?_⟩
    rw [txt_list, txt_list]
    exact k _ _ Grow.refl (Rep.bl _)
  case tup.tup xs ys =>
    split at e
    · rename_i ns ms q1 q2
      simp at e
      subst e
      obtain ⟨p, us, e1, h1, r1⟩ := ra.tup
      obtain ⟨q, ws, e2, h2, r2⟩ := rb.tup
      rw [r1.ints q1] at h1
      rw [r2.ints q2] at h2
      refine op_ltT (by omega) pins s σ H x y v u Q I rx ry ⟨p, q, ns, ms, e1, e2, h1, h2, ?_⟩
      rw [lexI_lt]
      exact k _ _ Grow.refl (Rep.bl _)
    · exact run_lt hu I rx ry ra rb (by simp [toP]) e fun c hc => k _ _ Grow.refl (by subst hc; exact Rep.bl _)
  case lst.lst xs ys =>
    exact run_lt hu I rx ry ra rb (by simp [toP]) e fun c hc => k _ _ Grow.refl (by subst hc; exact Rep.bl _)
theorem opLe : OpR X (compareOp .LtE) (rB X.K (binD .le)) := by
  intro pins s σ H x y v u Q I rx ry ⟨Z, ι, n, a, b, d, ra, rb, e, k⟩
  cases a <;> cases b <;> simp [binD, cmpD] at e
  case int.int i j =>
    subst e
    exact op_le pins s σ H x y v u Q I rx ry ⟨_, _, ra.int, rb.int, k _ _ Grow.refl (Rep.bl _)⟩
  case str.str i j =>
    subst e
    obtain ⟨t, rfl⟩ := (show ∃ t, v = .str (txt i) t by rw [ra.str] at rx; exact rx)
    obtain ⟨t', rfl⟩ := (show ∃ t, u = .str (txt j) t by rw [rb.str] at ry; exact ry)
    exact PySem.P.le_str ⟨.bl (!decide (j < i)), H, I, rfl, k _ _ Grow.refl (Rep.bl _)⟩
  case tup.tup xs ys =>
    split at e
    · rename_i ns ms q1 q2
      simp at e
      subst e
      obtain ⟨p, us, e1, h1, r1⟩ := ra.tup
      obtain ⟨q, ws, e2, h2, r2⟩ := rb.tup
      rw [r1.ints q1] at h1
      rw [r2.ints q2] at h2
      refine op_leT (by omega) pins s σ H x y v u Q I rx ry ⟨p, q, ns, ms, e1, e2, h1, h2, ?_⟩
      have := lexI_leAt ns ms [] [] rfl
      simp only [List.nil_append, List.length_nil] at this
      rw [this]
      exact k _ _ Grow.refl (Rep.bl _)
    · exact run_le hu I rx ry ra rb (by simp [toP]) e fun c hc => k _ _ Grow.refl (by subst hc; exact Rep.bl _)
  case lst.lst xs ys =>
    exact run_le hu I rx ry ra rb (by simp [toP]) e fun c hc => k _ _ Grow.refl (by subst hc; exact Rep.bl _)
theorem opGt : OpR X (compareOp .Gt) (rB X.K (binD .gt)) := by
  intro pins s σ H x y v u Q I rx ry ⟨Z, ι, n, a, b, d, ra, rb, e, k⟩
  cases a <;> cases b <;> simp [binD, cmpD] at e
  case int.int i j =>
    subst e
    exact op_gt pins s σ H x y v u Q I rx ry ⟨_, _, ra.int, rb.int, k _ _ Grow.refl (Rep.bl _)⟩
  case str.str i j =>
    subst e
    obtain ⟨t, rfl⟩ := (show ∃ t, v = .str (txt i) t by rw [ra.str] at rx; exact rx)
    obtain ⟨t', rfl⟩ := (show ∃ t, u = .str (txt j) t by rw [rb.str] at ry; exact ry)
    exact PySem.P.gt_str ⟨.bl (decide (j < i)), H, I, rfl, k _ _ Grow.refl (Rep.bl _)⟩
  case tup.tup xs ys =>
    split at e <;> exact run_gt hu I rx ry ra rb (by simp [toP]) e fun c hc => k _ _ Grow.refl (by subst hc; exact Rep.bl _)
  case lst.lst xs ys =>
    exact run_gt hu I rx ry ra rb (by simp [toP]) e fun c hc => k _ _ Grow.refl (by subst hc; exact Rep.bl _)
theorem opGe : OpR X (compareOp .GtE) (rB X.K (binD .ge)) := by
  intro pins s σ H x y v u Q I rx ry ⟨Z, ι, n, a, b, d, ra, rb, e, k⟩
  cases a <;> cases b <;> simp [binD, cmpD] at e
  case int.int i j =>
    subst e
    exact op_ge pins s σ H x y v u Q I rx ry ⟨_, _, ra.int, rb.int, k _ _ Grow.refl (Rep.bl _)⟩
  case str.str i j =>
    subst e
    obtain ⟨t, rfl⟩ := (show ∃ t, v = .str (txt i) t by rw [ra.str] at rx; exact rx)
    obtain ⟨t', rfl⟩ := (show ∃ t, u = .str (txt j) t by rw [rb.str] at ry; exact ry)
    exact PySem.P.ge_str ⟨.bl (!decide (i < j)), H, I, rfl, k _ _ Grow.refl (Rep.bl _)⟩
  case tup.tup xs ys =>
    split at e <;> exact run_ge hu I rx ry ra rb (by simp [toP]) e fun c hc => k _ _ Grow.refl (by subst hc; exact Rep.bl _)
  case lst.lst xs ys =>
    exact run_ge hu I rx ry ra rb (by simp [toP]) e fun c hc => k _ _ Grow.refl (by subst hc; exact Rep.bl _)
theorem kind_eq {x y : V} {a b : D} {K : PySem.W.Frag} {H : Hp} {Z : Addr → Prop} {ι : Nat → Addr} {n : Nat} (ra : RdV K H Z ι n x a) (rb : RdV K H Z ι n y b) (k : kind a b = true) : scal x y = true ∧ decide (x = y) = deq a b := by
  cases a <;> cases b <;> simp [kind] at k
  case non.non => rw [ra.non, rb.non]; exact ⟨rfl, rfl⟩
  case non.bl => rw [ra.non, rb.bl]; exact ⟨rfl, by simp [deq]⟩
  case non.int => rw [ra.non, rb.int]; exact ⟨rfl, by simp [deq]⟩
  case non.str => rw [ra.non, rb.str]; exact ⟨rfl, by simp [deq]⟩
  case bl.non => rw [ra.bl, rb.non]; exact ⟨rfl, by simp [deq]⟩
  case bl.bl => rw [ra.bl, rb.bl]; exact ⟨rfl, by rw [dec_bl]; simp [deq]⟩
  case bl.str => rw [ra.bl, rb.str]; exact ⟨rfl, by simp [deq]⟩
  case int.non => rw [ra.int, rb.non]; exact ⟨rfl, by simp [deq]⟩
  case int.int => rw [ra.int, rb.int]; exact ⟨rfl, by rw [dec_int]; simp [deq]⟩
  case int.str => rw [ra.int, rb.str]; exact ⟨rfl, by simp [deq]⟩
  case str.non => rw [ra.str, rb.non]; exact ⟨rfl, by simp [deq]⟩
  case str.bl => rw [ra.str, rb.bl]; exact ⟨rfl, by simp [deq]⟩
  case str.int => rw [ra.str, rb.int]; exact ⟨rfl, by simp [deq]⟩
  case str.str => rw [ra.str, rb.str]; exact ⟨rfl, by rw [dec_str, txt_beq]; simp [deq]⟩
theorem run_eqW {pins : List (Addr × Obj)} {s : Shared} {σ : St} {H : Hp} {x y : V} {v u : Value} {Z : Addr → Prop} {ι : Nat → Addr} {n : Nat} {a b : D} (I : Inv X pins σ H s) (rx : RelV x v) (ry : RelV y u) (ra : RdV X.K H Z ι n x a) (rb : RdV X.K H Z ι n y b) (h1 : shp 500 a = true) (h2 : shp 500 b = true) (h3 : shp 60 a = true ∨ shp 60 b = true) :
    ∃ as bs, PySem.Reads s.heap v (toP a) as ∧ PySem.Reads s.heap u (toP b) bs ∧ (toP a).canLay0 = true ∧ (toP b).canLay0 = true ∧ X.A.units + min (toP a).depth (toP b).depth < cLine := by
  obtain ⟨as, r1⟩ := Dp.reads I (toP a) x v (ra.dp h1) rx
  obtain ⟨bs, r2⟩ := Dp.reads I (toP b) y u (rb.dp h2) ry
  refine ⟨as, bs, r1, r2, can_toP a 500 h1, can_toP b 500 h2, ?_⟩
  rcases h3 with h3 | h3
  · have := depth_toP a 60 h3; omega
  · have := depth_toP b 60 h3; omega
theorem opEq : OpR X (compareOp .Eq) (rB X.K (binD .eq)) := by
  intro pins s σ H x y v u Q I rx ry ⟨Z, ι, n, a, b, d, ra, rb, e, k⟩
  simp only [binD, eqD, Option.map_eq_some_iff] at e
  obtain ⟨c, e, rfl⟩ := e
  split at e
  · rename_i hk
    cases e
    rw [Bool.or_eq_true, Bool.or_eq_true, Bool.and_eq_true, Bool.and_eq_true, Bool.and_eq_true, Bool.or_eq_true] at hk
    rcases hk with (hk | ⟨h1, h2⟩) | ⟨⟨h1, h2⟩, h3⟩
    rotate_left 2
    · obtain ⟨as, bs, r1, r2, c1, c2, c3⟩ := run_eqW hu I rx ry ra rb h1 h2 h3
      refine SeqAt.compareEq_reads r1 r2 c1 c2 c3 ⟨.bl _, H, I, rfl, ?_⟩
      rw [eqv_toP a b _ _ h1 h2]
      exact k _ _ Grow.refl (Rep.bl _)
    · obtain ⟨q1, q2⟩ := kind_eq hu ra rb hk
      refine op_eq pins s σ H x y v u Q I rx ry ⟨q1, ?_⟩
      rw [q2]
      exact k _ _ Grow.refl (Rep.bl _)
    · refine op_eqD (by omega) pins s σ H x y v u Q I rx ry ⟨toP a, toP b, ra.dp h1, rb.dp h2, shaped_toP (by omega) h1, shaped_toP (by omega) h2, ?_⟩
      rw [eqv_toP a b _ _ h1 h2]
      exact k _ _ Grow.refl (Rep.bl _)
  · cases e
theorem opNe : OpR X (compareOp .NotEq) (rB X.K (binD .ne)) := by
  intro pins s σ H x y v u Q I rx ry ⟨Z, ι, n, a, b, d, ra, rb, e, k⟩
  simp only [binD, eqD, Option.map_eq_some_iff] at e
  obtain ⟨c, e, rfl⟩ := e
  split at e
  · rename_i hk
    cases e
    rw [Bool.or_eq_true, Bool.or_eq_true, Bool.and_eq_true, Bool.and_eq_true, Bool.and_eq_true, Bool.or_eq_true] at hk
    rcases hk with (hk | ⟨h1, h2⟩) | ⟨⟨h1, h2⟩, h3⟩
    rotate_left 2
    · obtain ⟨as, bs, r1, r2, c1, c2, c3⟩ := run_eqW hu I rx ry ra rb h1 h2 h3
      refine SeqAt.compareNe_reads r1 r2 c1 c2 c3 ⟨.bl _, H, I, rfl, ?_⟩
      rw [eqv_toP a b _ _ h1 h2]
      exact k _ _ Grow.refl (Rep.bl _)
    · obtain ⟨q1, q2⟩ := kind_eq hu ra rb hk
      refine op_ne pins s σ H x y v u Q I rx ry ⟨q1, ?_⟩
      rw [q2]
      exact k _ _ Grow.refl (Rep.bl _)
    · refine op_neD (by omega) pins s σ H x y v u Q I rx ry ⟨toP a, toP b, ra.dp h1, rb.dp h2, shaped_toP (by omega) h1, shaped_toP (by omega) h2, ?_⟩
      rw [eqv_toP a b _ _ h1 h2]
      exact k _ _ Grow.refl (Rep.bl _)
  · cases e
omit hu in
theorem flat_of {x : V} {a : D} {K : PySem.W.Frag} {H : Hp} {Z : Addr → Prop} {ι : Nat → Addr} {n : Nat} (ra : RdV K H Z ι n x a) (h : scalD a = true) : flatV x = true := by
  cases a <;> simp [scalD] at h
  · rw [ra.non]; rfl
  · rw [ra.bl]; rfl
  · rw [ra.int]; rfl
  · rw [ra.str]; rfl
omit hu in
theorem eqV_of {x y : V} {a b : D} {K : PySem.W.Frag} {H : Hp} {Z : Addr → Prop} {ι : Nat → Addr} {n : Nat} (ra : RdV K H Z ι n x a) (rb : RdV K H Z ι n y b) (h : scalD a = true) (h2 : scalD b = true) : eqV x y = deq a b := by
  cases a <;> simp [scalD] at h <;> cases b <;> simp [scalD] at h2
  all_goals first
    | rw [ra.non] | rw [ra.bl] | rw [ra.int] | rw [ra.str]
  all_goals first
    | rw [rb.non] | rw [rb.bl] | rw [rb.int] | rw [rb.str]
  all_goals first
    | rfl
    | (simp [eqV, deq, b2i', txt_beq]; done)
omit hu in
theorem flats_of {K : PySem.W.Frag} {H : Hp} {Z : Addr → Prop} {ι : Nat → Addr} {n : Nat} : ∀ {xs : List V} {ds : List D}, Reps K H Z ι n xs ds → ds.all scalD = true → xs.all flatV = true
  | _, _, .nil, _ => rfl
  | _, _, .cons r t, h => by
    rw [List.all_cons, Bool.and_eq_true] at h ⊢
    exact ⟨flat_of (.inl r) h.1, flats_of t h.2⟩
omit hu in
theorem inV_of {x : V} {a : D} {K : PySem.W.Frag} {H : Hp} {Z : Addr → Prop} {ι : Nat → Addr} {n : Nat} (ra : RdV K H Z ι n x a) (ha : scalD a = true) : ∀ {xs : List V} {ds : List D}, Reps K H Z ι n xs ds → ds.all scalD = true → inV x xs = ds.any fun z => deq z a
  | _, _, .nil, _ => rfl
  | _, _, .cons r t, h => by
    rw [List.all_cons, Bool.and_eq_true] at h
    have ih := inV_of ra ha t h.2
    unfold inV at ih ⊢
    rw [List.any_cons, List.any_cons, ih, eqV_of (.inl r) ra h.1 ha]
theorem any_toP : ∀ (ds : List D) (a : D) (k j : Nat), shp k a = true → shps j ds = true → ((toPs ds).any fun z => PyData.eqv z (toP a)) = ds.any fun z => deq z a
  | [], _, _, _, _, _ => by simp [toPs]
  | d :: ds, a, k, j, h, g => by
    simp only [shps, Bool.and_eq_true] at g
    simp only [toPs, List.any_cons]
    rw [any_toP ds a k j h g.2, eqv_toP d a j k g.1 h]
omit hu in
theorem kv_key {K : PySem.W.Frag} {H : Hp} {Z : Addr → Prop} {ι : Nat → Addr} {n : Nat} {x : V} {a : D} {k : Key} (ra : RdV K H Z ι n x a) (h : keyD a = some k) : x = kV k := by
  cases a <;> simp [keyD] at h
  · subst h; rw [ra.int]; rfl
  · subst h; rw [ra.str]; rfl
omit hu in
theorem keq_of {K : PySem.W.Frag} {H : Hp} {Z : Addr → Prop} {ι : Nat → Addr} {n : Nat} {k j : Key} {d a : D} (r : Rep K H Z ι n (kV k) d) (h : keyD a = some j) : keq d a = decide (k = j) := by
  cases k with
  | inl i =>
    cases r
    cases a <;> simp [keyD] at h
    · subst h
      simp [keq]
    · subst h
      simp [keq]
  | inr x =>
    generalize ev : kV (Sum.inr x) = v at r
    cases r <;> simp [kV] at ev
    rename_i s
    cases a <;> simp [keyD] at h
    · subst h
      simp [keq]
    · rename_i s2
      subst h
      rw [ev]
      by_cases e : s = s2
      · rw [e]; simp [keq]
      · have : ¬ (Sum.inr (txt s) : Key) = Sum.inr (txt s2) := fun q => e (txt_inj (Sum.inr.inj q))
        simp [keq, e, this]
omit hu in
theorem anyK_of {K : PySem.W.Frag} {H : Hp} {Z : Addr → Prop} {ι : Nat → Addr} {n : Nat} {a : D} {j : Key} (h : keyD a = some j) : ∀ {kvs : List (Key × V)} {ks : List D}, Reps K H Z ι n (kvs.map fun p => kV p.1) ks → (valV kvs j).isSome = ks.any fun z => keq z a
  | [], _, .nil => rfl
  | p :: kvs, _, .cons r t => by
    rw [List.any_cons, keq_of r h, ← anyK_of h t]
    unfold valV
    rw [List.find?_cons]
    by_cases e : p.1 = j
    · simp [e]
    · simp [e]
omit hu in
theorem findK_of {K : PySem.W.Frag} {H : Hp} {Z : Addr → Prop} {ι : Nat → Addr} {n : Nat} {a : D} {j : Key} (h : keyD a = some j) : ∀ {kvs : List (Key × V)} {ks ds : List D}, Reps K H Z ι n (kvs.map fun p => kV p.1) ks → Reps K H Z ι n (kvs.map (·.2)) ds →
    (findK a ks ds = none ∧ valV kvs j = none) ∨ ∃ v d, findK a ks ds = some d ∧ valV kvs j = some v ∧ Rep K H Z ι n v d
  | [], _, _, .nil, .nil => .inl ⟨rfl, rfl⟩
  | p :: kvs, _, _, .cons r t, .cons r2 t2 => by
    have ih := findK_of h t t2
    unfold findK
    rw [keq_of r h]
    unfold valV at ih ⊢
    rw [List.find?_cons]
    by_cases e : p.1 = j
    · simp only [e, decide_true, if_true]
      exact .inr ⟨p.2, _, rfl, rfl, r2⟩
    · simp only [e, decide_false, Bool.false_eq_true, if_false]
      exact ih
theorem opIn : OpR X (compareOp .In) (rB X.K (binD .isin)) := by
  intro pins s σ H x y v u Q I rx ry ⟨Z, ι, n, a, b, d, ra, rb, e, k⟩
  simp only [binD, Option.map_eq_some_iff] at e
  obtain ⟨c, e, rfl⟩ := e
  have kk := fun c' (h : c' = c) => k (.bl c') H Grow.refl (h ▸ Rep.bl c')
  cases b <;> simp only [inD] at e <;> try (cases e; done)
  case str z =>
    split at e
    · rename_i q
      cases e
      refine op_in_sign pins s σ H x y v u Q I rx ry ⟨q, txt z, ra.str, rb.str, ?_⟩
      rw [txt_list]
      exact kk _ rfl
    · cases e
  case tup ds =>
    split at e
    · rename_i h
      cases e
      rw [Bool.and_eq_true] at h
      obtain ⟨p, us, e1, h1, r1⟩ := rb.tup
      refine op_in_seq pins s σ H x y v u Q I rx ry ⟨p, us, e1, .inr h1, flat_of ra h.1, flats_of r1 h.2, ?_⟩
      exact kk _ (inV_of ra h.1 r1 h.2)
    · cases e
  case lst ds =>
    obtain ⟨p, us, e1, h1, r1⟩ := rb.lst
    split at e
    · rename_i h
      cases e
      rw [Bool.and_eq_true] at h
      refine op_in_seq pins s σ H x y v u Q I rx ry ⟨p, us, e1, .inl (SqL.of h1), flat_of ra h.1, flats_of r1 h.2, ?_⟩
      exact kk _ (inV_of ra h.1 r1 h.2)
    · split at e
      · rename_i h
        cases e
        rw [Bool.and_eq_true] at h
        subst e1
        refine op_inD hu pins s σ H x _ v u Q I rx ry ⟨toP a, toPs ds, ra.dp h.1, .lst (SqL.of h1) (r1.dp 60 h.2), shaped_toP (by omega) h.1, ?_, ?_⟩
        · exact shaped_toP (d := .lst ds) (k := 61) (by omega) (by simpa [shp] using h.2)
        · exact kk _ (any_toP hu ds a 60 60 h.1 h.2)
      · cases e
  case dict ks vs =>
    split at e
    · rename_i j hj
      cases e
      obtain ⟨p, kvs, e1, h1, r1, r2⟩ := rb.dict
      subst e1
      cases ry
      refine d_in (by omega) I (DGet.kR h1) (kv_key ra hj ▸ rx) fun s' I' => ⟨.bl _, H, I', rfl, ?_⟩
      exact kk _ (anyK_of hj r1)
    · cases e
theorem opNotIn : OpR X (compareOp .NotIn) (rB X.K (binD .notin)) := by
  intro pins s σ H x y v u Q I rx ry ⟨Z, ι, n, a, b, d, ra, rb, e, k⟩
  simp only [binD, Option.map_eq_some_iff] at e
  obtain ⟨c, e, rfl⟩ := e
  have kk := fun c' (h : c' = c) => k (.bl (!c')) H Grow.refl (h ▸ Rep.bl (!c'))
  cases b <;> simp only [inD] at e <;> try (cases e; done)
  case str z =>
    split at e
    · rename_i q
      cases e
      refine op_notIn_sign pins s σ H x y v u Q I rx ry ⟨q, txt z, ra.str, rb.str, ?_⟩
      rw [txt_list]
      exact kk _ rfl
    · cases e
  case tup ds =>
    split at e
    · rename_i h
      cases e
      rw [Bool.and_eq_true] at h
      obtain ⟨p, us, e1, h1, r1⟩ := rb.tup
      refine op_notIn_seq pins s σ H x y v u Q I rx ry ⟨p, us, e1, .inr h1, flat_of ra h.1, flats_of r1 h.2, ?_⟩
      exact kk _ (inV_of ra h.1 r1 h.2)
    · cases e
  case lst ds =>
    obtain ⟨p, us, e1, h1, r1⟩ := rb.lst
    split at e
    · rename_i h
      cases e
      rw [Bool.and_eq_true] at h
      refine op_notIn_seq pins s σ H x y v u Q I rx ry ⟨p, us, e1, .inl (SqL.of h1), flat_of ra h.1, flats_of r1 h.2, ?_⟩
      exact kk _ (inV_of ra h.1 r1 h.2)
    · split at e
      · rename_i h
        cases e
        rw [Bool.and_eq_true] at h
        subst e1
        refine op_notInD hu pins s σ H x _ v u Q I rx ry ⟨toP a, toPs ds, ra.dp h.1, .lst (SqL.of h1) (r1.dp 60 h.2), shaped_toP (by omega) h.1, ?_, ?_⟩
        · exact shaped_toP (d := .lst ds) (k := 61) (by omega) (by simpa [shp] using h.2)
        · exact kk _ (any_toP hu ds a 60 60 h.1 h.2)
      · cases e
  case dict ks vs =>
    split at e
    · rename_i j hj
      cases e
      obtain ⟨p, kvs, e1, h1, r1, r2⟩ := rb.dict
      subst e1
      cases ry
      refine d_notIn (by omega) I (DGet.kR h1) (kv_key ra hj ▸ rx) fun s' I' => ⟨.bl _, H, I', rfl, ?_⟩
      exact kk _ (anyK_of hj r1)
    · cases e
omit hu
theorem opIs : OpR X (compareOp .Is) (rB X.K (binD .isb)) := by
  intro pins s σ H x y v u Q I rx ry ⟨Z, ι, n, a, b, d, ra, rb, e, k⟩
  cases a <;> cases b <;> simp [binD] at e
  subst e
  exact op_isBl pins s σ H x y v u Q I rx ry ⟨_, _, ra.bl, rb.bl, k _ _ Grow.refl (Rep.bl _)⟩
theorem opIsNot : OpR X (compareOp .IsNot) (rB X.K (binD .isnb)) := by
  intro pins s σ H x y v u Q I rx ry ⟨Z, ι, n, a, b, d, ra, rb, e, k⟩
  cases a <;> cases b <;> simp [binD] at e
  subst e
  exact op_notBl pins s σ H x y v u Q I rx ry ⟨_, _, ra.bl, rb.bl, k _ _ Grow.refl (Rep.bl _)⟩
theorem non_of {K : PySem.W.Frag} {H : Hp} {Z : Addr → Prop} {ι : Nat → Addr} {n : Nat} {x : V} {a : D} (ra : RdV K H Z ι n x a) : decide (x = .non) = (match a with | .non => true | _ => false) := by
  rcases ra with h | ⟨p, e, h⟩
  · cases h <;> simp
  · subst e
    cases a <;> first | exact h.elim | simp
theorem opIsN : OpR X (compareOp .Is) (fun x y H Q => y = .non ∧ ∃ Z ι n a, RdV X.K H Z ι n x a ∧ ∀ d, binD .isn a .non = some d → Q (match d with | .bl b => .bl b | _ => .non) H) := by
  intro pins s σ H x y v u Q I rx ry ⟨ey, Z, ι, n, a, ra, k⟩
  subst ey
  refine op_isN pins s σ H x _ v u Q I rx ry ⟨rfl, ?_⟩
  have := non_of ra
  rw [this]
  cases a <;> exact k _ rfl
theorem opIsNN : OpR X (compareOp .IsNot) (fun x y H Q => y = .non ∧ ∃ Z ι n a, RdV X.K H Z ι n x a ∧ ∀ d, binD .isnn a .non = some d → Q (match d with | .bl b => .bl b | _ => .non) H) := by
  intro pins s σ H x y v u Q I rx ry ⟨ey, Z, ι, n, a, ra, k⟩
  subst ey
  refine op_notN pins s σ H x _ v u Q I rx ry ⟨rfl, ?_⟩
  have := non_of ra
  rw [this]
  cases a <;> exact k _ rfl
end
end PyI
namespace PyI
open PySem L2

section
variable {X : Cx}
/-- a subscript: the item as it stands there -/
def rIxD (K : PySem.W.Frag) : R2 := fun x y H Q => ∃ Z ι n a b d, RdV K H Z ι n x a ∧ RdV K H Z ι n y b ∧ ixD a b = some d ∧ ∀ v, Rep K H Z ι n v d → Q v H
theorem atI_map {α β : Type} (f : α → β) (xs : List α) (i : Int) : atI (xs.map f) i = (atI xs i).map f := by
  unfold atI
  rw [List.length_map]
  cases ixN xs.length i <;> simp
theorem atI_rep {K : PySem.W.Frag} {H : Hp} {Z : Addr → Prop} {ι : Nat → Addr} {n : Nat} {xs : List V} {ds : List D} {i : Int} {d : D} (r : Reps K H Z ι n xs ds) (h : atI ds i = some d) : ∃ v, atI xs i = some v ∧ Rep K H Z ι n v d := by
  unfold atI at h ⊢
  rw [r.length]
  cases e : ixN ds.length i with
  | none => rw [e] at h; cases h
  | some j =>
    rw [e] at h
    exact r.get (by simpa using h)
theorem ixAll (hu : X.A.units + 65 < cLine) : IxR X (rIxD X.K) := by
  intro value slice pins s σ H x y v u Q I rx ry ⟨Z, ι, n, a, b, d, ra, rb, e, k⟩ hs
  cases a <;> cases b <;> simp only [ixD] at e <;> try (cases e; done)
  case lst.int ds i =>
    obtain ⟨p, us, e1, h1, r1⟩ := ra.lst
    obtain ⟨w, hw, rw'⟩ := atI_rep r1 e
    exact ix_list value slice pins s σ H x y v u Q I rx ry ⟨p, us, i, w, e1, rb.int, SqL.of h1, hw, k _ rw'⟩ hs
  case tup.int ds i =>
    obtain ⟨p, us, e1, h1, r1⟩ := ra.tup
    obtain ⟨w, hw, rw'⟩ := atI_rep r1 e
    exact ix_tup value slice pins s σ H x y v u Q I rx ry ⟨p, us, i, w, e1, rb.int, h1, hw, k _ rw'⟩ hs
  case scr.int ds i =>
    obtain ⟨p, e1, h1⟩ := ra.scr
    rw [Option.map_eq_some_iff] at e
    obtain ⟨j, e, rfl⟩ := e
    exact ix_list value slice pins s σ H x y v u Q I rx ry ⟨p, _, i, .int j, e1, rb.int, h1, by rw [atI_map, e]; rfl, k _ (.int j)⟩ hs
  case str.int z i =>
    split at e
    · rename_i hz
      rw [Option.map_eq_some_iff] at e
      obtain ⟨c, e, rfl⟩ := e
      exact ix_str value slice pins s σ H x y v u Q I rx ry ⟨txt z, i, c, ra.str, rb.int, by simpa [txt, Str.length, szL, sizeLine_eq] using hz, by rw [txt_list]; exact e, k _ (.str [c])⟩ hs
    · cases e
  all_goals
    obtain ⟨p, kvs, e1, h1, r1, r2⟩ := ra.dict
    split at e
    · rename_i j hj
      subst e1
      cases rx
      have g : DGet H p y (valV kvs j) := by
        have := DGet.kR (k := j) h1
        rw [← kv_key rb hj] at this
        exact this
      rcases findK_of hj r1 r2 with ⟨q, _⟩ | ⟨w, d', q, q2, q3⟩
      · rw [q] at e; cases e
      · rw [q] at e; cases e
        rw [q2] at g
        exact PyProof.Rows.tail_any (dict_typeIs I g) PySem.F.slot_dict_getitem.lookup (d_getItem (by omega) I g ry fun w' s3 I3 rw' => ⟨w, H, I3, rw', k _ q3⟩) hs
    · cases e
def rSlD (K : PySem.W.Frag) : V → Option Int → Option Int → Hp → VK → Prop := fun x lo hi H Q => ∃ Z ι n a d, RdV K H Z ι n x a ∧ slD a lo hi = some d ∧ ∀ v H', Grow H H' → NV K H Z ι n H' v d → Q v H'
theorem Reps.cut {K : PySem.W.Frag} {H : Hp} {Z : Addr → Prop} {ι : Nat → Addr} {n : Nat} {xs : List V} {ds : List D} (r : Reps K H Z ι n xs ds) (lo hi : Option Int) : Reps K H Z ι n (cutV xs lo hi) (cutD ds lo hi) := by
  unfold cutV cutD
  rw [r.length]
  exact (r.drop _).take _
theorem cut_whole {xs : List D} {lo hi : Option Int} (h : HT.sIx xs.length 0 lo = 0 ∧ HT.sIx xs.length xs.length hi = xs.length) : cutD xs lo hi = xs := by
  unfold cutD
  rw [h.1, h.2]
  simp
theorem slAll : SlR X (rSlD X.K) := by
  intro pins s σ H x v vl vu lo hi sl Q I rx hs pl pu ⟨Z, ι, n, a, d, ra, e, k⟩
  cases a <;> simp only [slD] at e <;> try (cases e; done)
  case lst ds =>
    cases e
    obtain ⟨p, us, e1, h1, r1⟩ := ra.lst
    exact sl_list pins s σ H x v vl vu lo hi sl Q I rx hs pl pu ⟨p, us, e1, SqL.of h1, fun t ht => k _ _ (Grow.new ht) ⟨t, rfl, ht, _, upd_same, (r1.cut lo hi).keep (Grow.keep (Grow.new ht))⟩⟩
  case tup ds =>
    cases e
    obtain ⟨p, us, e1, h1, r1⟩ := ra.tupP
    refine sl_tupP pins s σ H x v vl vu lo hi sl Q I rx hs pl pu ⟨p, us, e1, h1.sq, fun hw => ?_, fun _ t ot ht ht1 ht2 => k _ _ (Grow.new ht) (Rep.tup (SqTP.mk' ht1 ht2) ((r1.cut lo hi).keep (Grow.keep (Grow.new ht))))⟩
    rw [r1.length] at hw
    rw [cut_whole hw] at k
    exact k _ _ Grow.refl (Rep.tup h1 r1)
  case str z =>
    split at e
    · rename_i hz
      cases e
      refine sl_str pins s σ H x v vl vu lo hi sl Q I rx hs pl pu ⟨txt z, ra.str, by simpa [txt, Str.length, szL, sizeLine_eq] using hz, ?_⟩
      have : cutS (txt z) lo hi = txt (cutD z lo hi) := by
        unfold cutS cutD
        have hl : (txt z).length = z.length := by simp [txt, Str.length]
        rw [hl, txt_list]
        rfl
      rw [this]
      exact k _ _ Grow.refl (Rep.str _)
    · cases e
  case scr ns =>
    cases e
    obtain ⟨p, e1, h1⟩ := ra.scr
    exact sl_list pins s σ H x v vl vu lo hi sl Q I rx hs pl pu ⟨p, _, e1, h1, fun t ht => k _ _ (Grow.new ht) ⟨t, rfl, ht, _, upd_same, ((reps_ints ns).cut lo hi).keep (Grow.keep (Grow.new ht))⟩⟩

theorem par1 {K : PySem.W.Frag} {H : Hp} {Z : Addr → Prop} {ι : Nat → Addr} {n : Nat} {vs : List V} {d : D} (r : Paired (RdV K H Z ι n) vs [d]) : ∃ v, vs = [v] ∧ RdV K H Z ι n v d := by
  cases r with
  | cons a b => cases b; exact ⟨_, rfl, a⟩
theorem par2 {K : PySem.W.Frag} {H : Hp} {Z : Addr → Prop} {ι : Nat → Addr} {n : Nat} {vs : List V} {d e : D} (r : Paired (RdV K H Z ι n) vs [d, e]) : ∃ v w, vs = [v, w] ∧ RdV K H Z ι n v d ∧ RdV K H Z ι n w e := by
  cases r with
  | cons a b =>
    cases b with
    | cons c b => cases b; exact ⟨_, _, rfl, a, c⟩
theorem bi2 {f : Bi} {x y : D} {r : List D} {d : D} (h : biD f (x :: y :: r) = some d) : f = .min ∨ f = .max := by
  cases r with
  | nil =>
    simp only [biD, biD2] at h
    split at h
    · split at h
      · exact .inl rfl
      · exact .inr rfl
      · cases h
    · cases h
  | cons _ _ => cases h
theorem callLen : CallR X (.builtin "len") (rC X.K (biD .len)) := by
  intro pins s σ H vs us Q I r ⟨Z, ι, n, ds, d, ra, e, k⟩
  match ds, e, ra with
  | [], e, _ => cases e
  | [x], e, ra =>
    obtain ⟨v, rfl, rv⟩ := par1 ra
    cases x <;> simp only [biD, biD1] at e <;> try (cases e; done)
    case str z =>
      split at e
      · rename_i hz
        cases e
        have hl : (txt z).length = z.length := by simp [txt, Str.length]
        refine call_len_str pins s σ H _ us Q I r ⟨txt z, by rw [rv.str], by rw [hl, sizeLine_eq]; exact hz, ?_⟩
        rw [hl]
        exact k _ _ Grow.refl (Rep.int _)
      · cases e
    case lst zs =>
      cases e
      obtain ⟨p, xs, rfl, h1, r1⟩ := rv.lst
      refine call_len_seq pins s σ H _ us Q I r ⟨p, xs, rfl, .inl (SqL.of h1), ?_⟩
      rw [r1.length]
      exact k _ _ Grow.refl (Rep.int _)
    case tup zs =>
      cases e
      obtain ⟨p, xs, rfl, h1, r1⟩ := rv.tup
      refine call_len_seq pins s σ H _ us Q I r ⟨p, xs, rfl, .inr h1, ?_⟩
      rw [r1.length]
      exact k _ _ Grow.refl (Rep.int _)
    case scr zs =>
      cases e
      obtain ⟨p, rfl, h1⟩ := rv.scr
      refine call_len_seq pins s σ H _ us Q I r ⟨p, _, rfl, .inl h1, ?_⟩
      rw [List.length_map]
      exact k _ _ Grow.refl (Rep.int _)
    case dict ks vs =>
      cases e
      obtain ⟨p, kvs, rfl, h1, r1, _⟩ := rv.dict
      obtain ⟨u, rfl, ru⟩ := vals1 r
      cases ru
      refine d_len I h1 fun t s' I' => ⟨.int kvs.length, H, I', ⟨t, rfl⟩, ?_⟩
      have := r1.length
      rw [List.length_map] at this
      rw [this]
      exact k _ _ Grow.refl (Rep.int _)
  | x :: y :: r', e, _ => rcases bi2 e with q | q <;> cases q
theorem items_strs {z : List Nat} {acc : Array Value} (h : ItemsOf (SignAt (txt z)) acc z.length) : ∃ us, acc = List.toArray us ∧ Vals ((z.map fun c => txt [c]).map V.str) us := by
  refine ⟨acc.toList, by simp, ?_⟩
  have hs : acc.toList.length = z.length := by simpa using h.1
  have key : ∀ (z : List Nat) (us : List Value), us.length = z.length → (∀ (j : Nat) v, us[j]? = some v → ∃ c, z[j]? = some c ∧ ∃ t, v = .str ⟨#[c]⟩ t) → Vals ((z.map fun c => txt [c]).map V.str) us := by
    intro z
    induction z with
    | nil => intro us hl _; cases us with | nil => exact .nil | cons _ _ => simp at hl
    | cons c z ih =>
      intro us hl hj
      cases us with
      | nil => simp at hl
      | cons u us =>
        obtain ⟨c', e1, t, e2⟩ := hj 0 u rfl
        simp at e1
        subst e1
        refine .cons ⟨t, e2⟩ (ih us (by simpa using hl) fun j v hv => ?_)
        obtain ⟨c', e1, t, e2⟩ := hj (j + 1) v (by simpa using hv)
        exact ⟨c', by simpa using e1, t, e2⟩
  refine key z acc.toList hs fun j v hv => ?_
  obtain ⟨c, t, e1, e2⟩ := h.2 j v (by simpa using hv)
  exact ⟨c, by simpa [txt] using e1, t, e2⟩
theorem reps_chars {K : PySem.W.Frag} {H : Hp} {Z : Addr → Prop} {ι : Nat → Addr} {n : Nat} : ∀ z : List Nat, Reps K H Z ι n (z.map (V.str ∘ fun c => txt [c])) (z.map fun c => D.str [c])
  | [] => .nil
  | c :: z => .cons (.str [c]) (reps_chars z)
theorem callList (hc : X.calm = true) : CallR X (.type "list") (rC X.K (biD .list)) := by
  intro pins s σ H vs us Q I r ⟨Z, ι, n, ds, d, ra, e, k⟩
  match ds, e, ra with
  | [], e, _ => cases e
  | [x], e, ra =>
    obtain ⟨v, rfl, rv⟩ := par1 ra
    cases x <;> simp only [biD, biD1] at e <;> try (cases e; done)
    case str z =>
      split at e
      · rename_i hz
        cases e
        obtain ⟨u, rfl, ru⟩ := vals1 r
        rw [rv.str] at ru
        obtain ⟨t, rfl⟩ := ru
        have hl : (txt z).cps.size = z.length := by simp [txt]
        refine call_list_str (I.ok.hd hc) (txt z) t (fun h' tk acc' c' kk hS hacc => ?_) (by rw [hl, sizeLine_eq]; omega)
        rw [hl] at hacc
        obtain ⟨ws, rfl, rw'⟩ := items_strs hacc
        have hn := I.hok.fresh (Nat.le_refl s.heap.objs.size)
        refine ⟨.ref s.heap.objs.size, upd H s.heap.objs.size (.lst ((z.map fun c => txt [c]).map V.str)), I.laid (t' := tk) kk (Nat.le_refl _) ⟨?_, ws, c', rw', hS⟩, rfl, ?_⟩
        · rw [List.length_map, List.length_map, sizeLine_eq]; omega
        · refine k _ _ (Grow.new hn) ⟨_, rfl, hn, _, upd_same, ?_⟩
          rw [List.map_map]
          exact reps_chars z
      · cases e
    case lst zs =>
      cases e
      obtain ⟨p, xs, rfl, h1, r1⟩ := rv.lst
      exact call_list_of pins s σ H _ us Q I r ⟨p, xs, rfl, .inl (SqL.of h1), fun t ht => k _ _ (Grow.new ht) ⟨t, rfl, ht, xs, upd_same, r1.keep (Grow.keep (Grow.new ht))⟩⟩
    case tup zs =>
      cases e
      obtain ⟨p, xs, rfl, h1, r1⟩ := rv.tup
      exact call_list_of pins s σ H _ us Q I r ⟨p, xs, rfl, .inr h1, fun t ht => k _ _ (Grow.new ht) ⟨t, rfl, ht, xs, upd_same, r1.keep (Grow.keep (Grow.new ht))⟩⟩
    case dict ks vs' =>
      cases e
      obtain ⟨p, kvs, rfl, h1, r1, _⟩ := rv.dict
      exact call_listD hc pins s σ H _ us Q I r ⟨p, kvs, rfl, h1, fun t ht => k _ _ (Grow.new ht) ⟨t, rfl, ht, _, upd_same, r1.keep (Grow.keep (Grow.new ht))⟩⟩
  | x :: y :: r', e, _ => rcases bi2 e with q | q <;> cases q
theorem callTuple (hc : X.calm = true) : CallR X (.type "tuple") (rC X.K (biD .tuple)) := by
  intro pins s σ H vs us Q I r ⟨Z, ι, n, ds, d, ra, e, k⟩
  match ds, e, ra with
  | [], e, _ => cases e
  | [x], e, ra =>
    obtain ⟨v, rfl, rv⟩ := par1 ra
    cases x <;> simp only [biD, biD1] at e <;> try (cases e; done)
    case str z =>
      split at e
      · rename_i hz
        cases e
        obtain ⟨u, rfl, ru⟩ := vals1 r
        rw [rv.str] at ru
        obtain ⟨t, rfl⟩ := ru
        have hl : (txt z).cps.size = z.length := by simp [txt]
        refine call_tuple_str (I.ok.hd hc) (txt z) t (fun h' tk acc kk hacc => ?_) (by rw [hl, sizeLine_eq]; omega)
        rw [hl] at hacc
        obtain ⟨ws, rfl, rw'⟩ := items_strs hacc
        have I1 : Inv X pins σ H { s with heap := h', toks := tk } := I.kept kk
        refine laidTp I1 rw' (by rw [List.length_map, List.length_map, sizeLine_eq]; omega) fun t ot ht ht1 ht2 => k _ _ (Grow.new ht) (Rep.tup (SqTP.mk' ht1 ht2) ?_)
        rw [List.map_map]
        exact reps_chars z
      · cases e
    case lst zs =>
      cases e
      obtain ⟨p, xs, rfl, h1, r1⟩ := rv.lst
      exact call_tupleP pins s σ H _ us Q I r ⟨p, xs, rfl, .inl ⟨SqL.of h1, fun t ot ht ht1 ht2 => k _ _ (Grow.new ht) (Rep.tup (SqTP.mk' ht1 ht2) (r1.keep (Grow.keep (Grow.new ht))))⟩⟩
    case tup zs =>
      cases e
      obtain ⟨p, xs, rfl, h1, r1⟩ := rv.tupP
      exact call_tupleP pins s σ H _ us Q I r ⟨p, xs, rfl, .inr ⟨h1.sq, k _ _ Grow.refl (Rep.tup h1 r1)⟩⟩
  | x :: y :: r', e, _ => rcases bi2 e with q | q <;> cases q
theorem insI_perm (x : Int) : ∀ ys, (insI x ys).Perm (x :: ys)
  | [] => .refl _
  | y :: ys => by
    unfold insI
    split
    · exact .refl _
    · exact ((insI_perm x ys).cons y).trans (.swap x y ys)
theorem sortI_perm : ∀ xs, (sortI xs).Perm xs
  | [] => .refl _
  | x :: xs => (insI_perm x _).trans ((sortI_perm xs).cons x)
theorem insI_sorted (x : Int) : ∀ ys : List Int, ys.Pairwise (· ≤ ·) → (insI x ys).Pairwise (· ≤ ·)
  | [], _ => by simp [insI]
  | y :: ys, h => by
    unfold insI
    rw [List.pairwise_cons] at h
    split
    · rename_i c
      refine List.pairwise_cons.mpr ⟨fun z hz => ?_, List.pairwise_cons.mpr h⟩
      rcases List.mem_cons.mp hz with rfl | hz
      · exact c
      · exact Int.le_trans c (h.1 z hz)
    · rename_i c
      refine List.pairwise_cons.mpr ⟨fun z hz => ?_, insI_sorted x ys h.2⟩
      rcases List.mem_cons.mp ((insI_perm x ys).mem_iff.mp hz) with rfl | hz
      · omega
      · exact h.1 z hz
theorem sortI_sorted : ∀ xs : List Int, (sortI xs).Pairwise (· ≤ ·)
  | [] => .nil
  | x :: xs => insI_sorted x _ (sortI_sorted xs)
theorem insS_perm (x : List Nat) : ∀ ys, (insS x ys).Perm (x :: ys)
  | [] => .refl _
  | y :: ys => by
    unfold insS
    split
    · exact ((insS_perm x ys).cons y).trans (.swap x y ys)
    · exact .refl _
theorem sortS_perm : ∀ xs, (sortS xs).Perm xs
  | [] => .refl _
  | x :: xs => (insS_perm x _).trans ((sortS_perm xs).cons x)
theorem insS_sorted (x : List Nat) : ∀ ys : List (List Nat), ys.Pairwise (fun a b => ¬ b < a) → (insS x ys).Pairwise (fun a b => ¬ b < a)
  | [], _ => by simp [insS]
  | y :: ys, h => by
    unfold insS
    rw [List.pairwise_cons] at h
    split
    · rename_i c
      refine List.pairwise_cons.mpr ⟨fun z hz => ?_, insS_sorted x ys h.2⟩
      rcases List.mem_cons.mp ((insS_perm x ys).mem_iff.mp hz) with rfl | hz
      · exact List.lt_asymm c
      · exact h.1 z hz
    · rename_i c
      refine List.pairwise_cons.mpr ⟨fun z hz => ?_, List.pairwise_cons.mpr h⟩
      rcases List.mem_cons.mp hz with rfl | hz
      · exact c
      · have h1 := h.1 z hz
        have h2 : x ≤ y := List.not_lt.mp c
        have h3 : y ≤ z := List.not_lt.mp h1
        exact List.not_lt.mpr (List.le_trans h2 h3)
theorem sortS_sorted : ∀ xs : List (List Nat), (sortS xs).Pairwise (fun a b => ¬ b < a)
  | [] => .nil
  | x :: xs => insS_sorted x _ (sortS_sorted xs)
theorem ltCps_iff : ∀ a b : List Nat, (PySem.Spec.ltCps a b = false) ↔ ¬ a < b
  | [], [] => by simp [PySem.Spec.ltCps]
  | [], _ :: _ => by simp [PySem.Spec.ltCps]
  | _ :: _, [] => by simp [PySem.Spec.ltCps]
  | x :: xs, y :: ys => by
    have ih := ltCps_iff xs ys
    unfold PySem.Spec.ltCps
    rw [List.cons_lt_cons_iff]
    by_cases c : x < y
    · simp [c]
    · by_cases e : x = y
      · subst e; simp [ih]
      · simp [c, e]
theorem rising_pw : ∀ (p : Str) (l : List Str), PyProof.Rows.risingS p l = true → (p :: l).Pairwise (fun a b => ¬ b.cps.toList < a.cps.toList)
  | p, [], _ => by simp
  | p, x :: r, h => by
    unfold PyProof.Rows.risingS at h
    rw [Bool.and_eq_true] at h
    have ih := rising_pw x r h.2
    have h1 : ¬ x.cps.toList < p.cps.toList := by
      have := h.1
      rw [Bool.not_eq_true'] at this
      intro q
      rw [ltCps_iff] at this
      exact this q
    refine List.pairwise_cons.mpr ⟨fun z hz => ?_, ih⟩
    rcases List.mem_cons.mp hz with rfl | hz
    · exact h1
    · have h2 := (List.pairwise_cons.mp ih).1 z hz
      exact List.not_lt.mpr (List.le_trans (List.not_lt.mp h1) (List.not_lt.mp h2))
theorem sorted_same {ys : List Str} {xs : List (List Nat)} (p : ys.Perm (xs.map txt)) (h : PyProof.Rows.sortedS ys = true) : ys = (sortS xs).map txt := by
  have e1 : (ys.map fun y => y.cps.toList).Perm xs := by
    have := p.map fun y : Str => y.cps.toList
    rw [List.map_map] at this
    have e : ((fun y : Str => y.cps.toList) ∘ txt) = id := by funext z; exact txt_list z
    rwa [e, List.map_id] at this
  have e2 : (ys.map fun y => y.cps.toList).Pairwise (fun a b => ¬ b < a) := by
    rw [List.pairwise_map]
    cases ys with
    | nil => exact .nil
    | cons y ys => exact rising_pw y ys h
  have e3 : (ys.map fun y => y.cps.toList) = sortS xs := by
    refine List.Perm.eq_of_pairwise (le := fun a b => ¬ b < a) (fun a b _ _ h1 h2 => ?_) e2 (sortS_sorted xs) (e1.trans (sortS_perm xs).symm)
    exact List.le_antisymm (List.not_lt.mp h1) (List.not_lt.mp h2)
  rw [← e3, List.map_map]
  have e : (txt ∘ fun y : Str => y.cps.toList) = id := by funext z; exact txt_of z
  rw [e, List.map_id]
theorem reps_zip {K : PySem.W.Frag} {H : Hp} {Z : Addr → Prop} {ι : Nat → Addr} {n : Nat} : ∀ {xs : List V} {ds : List D}, Reps K H Z ι n xs ds → (xs.zip ds).map (·.1) = xs ∧ (xs.zip ds).map (·.2) = ds ∧ ∀ p ∈ xs.zip ds, Rep K H Z ι n p.1 p.2
  | _, _, .nil => ⟨rfl, rfl, fun _ h => nomatch h⟩
  | _, _, .cons r t => by
    obtain ⟨h1, h2, h3⟩ := reps_zip t
    refine ⟨by simp [h1], by simp [h2], fun p hp => ?_⟩
    rw [List.zip_cons_cons] at hp
    rcases List.mem_cons.mp hp with rfl | hp
    · exact r
    · exact h3 p hp
theorem reps_of {K : PySem.W.Frag} {H : Hp} {Z : Addr → Prop} {ι : Nat → Addr} {n : Nat} : ∀ {ps : List (V × D)}, (∀ p ∈ ps, Rep K H Z ι n p.1 p.2) → Reps K H Z ι n (ps.map (·.1)) (ps.map (·.2))
  | [], _ => .nil
  | p :: ps, h => .cons (h p (by simp)) (reps_of fun q hq => h q (by simp [hq]))
theorem each_of : ∀ {ps : List (V × D)} {us : List Value}, Vals (ps.map (·.1)) us → PySem.W.EachIs (fun u (p : V × D) => RelV p.1 u) us ps
  | [], _, r => by cases r; exact .nil
  | p :: ps, _, r => by
    rw [List.map_cons] at r
    cases r with
    | cons r t => exact .cons r (each_of t)
theorem vals_of : ∀ {ps : List (V × D)} {us : List Value}, PySem.W.EachIs (fun u (p : V × D) => RelV p.1 u) us ps → Vals (ps.map (·.1)) us
  | _, _, .nil => .nil
  | _, _, .cons r t => .cons r (vals_of t)
theorem each_imp {α β : Type} {R R' : α → β → Prop} : ∀ {us : List α} {ps : List β}, PySem.W.EachIs R us ps → (∀ u p, p ∈ ps → R u p → R' u p) → PySem.W.EachIs R' us ps
  | _, _, .nil, _ => .nil
  | _, _, .cons r t, f => .cons (f _ _ (by simp) r) (each_imp t fun u p hp h => f u p (by simp [hp]) h)
theorem neT_tuple {d : D} (h : neT d = true) : ∃ x r, toP d = .tuple (x :: r) := by
  cases d <;> simp [neT] at h
  rename_i ds
  cases ds with
  | nil => simp [neT] at h
  | cons x xs => exact ⟨toP x, toPs xs, by simp [toP, toPs]⟩
/-- sorted(l), l a list of tuples -/
theorem run_sortT {pins : List (Addr × Obj)} {s : Shared} {σ : St} {H : Hp} {a : Addr} {xs : List V} {ds : List D} {Q : VK} {Z : Addr → Prop} {ι : Nat → Addr} {n : Nat} (hu : X.A.units + 65 < cLine) (I : Inv X pins σ H s) (h1 : SqL X.K H a xs) (r1 : Reps X.K H Z ι n xs ds) (ho : srtOk ds = true)
    (q : ∀ (ys : List V) p, Reps X.K H Z ι n ys (ds.mergeSort leP) → H p = none → Q (.ref p) (upd H p (.lst ys))) : wpAny (model X.prog X.w) X.A (PySem.call (.builtin "sorted") [.ref a]) (EP X pins σ Q) X.xe s := by
  simp only [srtOk, Bool.and_eq_true, decide_eq_true_eq] at ho
  obtain ⟨⟨hz, hne⟩, hal⟩ := ho
  obtain ⟨e1, e2, e3⟩ := reps_zip r1
  generalize xs.zip ds = ps at e1 e2 e3
  obtain ⟨its, rv, hl, _⟩ := I.list h1
  rw [← e1] at rv
  have ea := each_of rv
  have hin : ∀ p ∈ ps, p.2 ∈ ds := fun p hp => e2 ▸ List.mem_map.mpr ⟨p, hp, rfl⟩
  have hA : ∀ x ∈ ds, ∀ y ∈ ds, alk x y = true := fun x hx y hy => List.all_eq_true.mp (List.all_eq_true.mp hal x hx) y hy
  have hlp : ps.length = ds.length := by rw [← e2, List.length_map]
  refine PySem.W.sorted_data (bs := ps) (enc := fun p : V × D => toP p.2) (R := fun u (p : V × D) => RelV p.1 u) hl.isList ea (each_imp ea fun u p hp r => ?_) ?_ (.inl fun d hd => ?_) (by rw [hlp, sizeLine_eq]; exact hz) (fun p hp => ?_) fun out hlo eo => ?_
  · exact ((e3 p hp).dp 60 (alk_inv (hA _ (hin p hp) _ (hin p hp))).1).reads I _ _ _ r
  · intro d hd d' hd'
    obtain ⟨p, hp, rfl⟩ := List.mem_map.mp hd
    obtain ⟨p', hp', rfl⟩ := List.mem_map.mp hd'
    exact (alk_inv (hA _ (hin p hp) _ (hin p' hp'))).2.2
  · obtain ⟨p, hp, rfl⟩ := List.mem_map.mp hd
    exact neT_tuple (List.all_eq_true.mp hne _ (hin p hp))
  · have := depth_toP p.2 60 (alk_inv (hA _ (hin p hp) _ (hin p hp))).1
    omega
  · have pm := List.mergeSort_perm ps (PySem.W.dataLe false fun p : V × D => toP p.2)
    have em : (ps.mergeSort (PySem.W.dataLe false fun p : V × D => toP p.2)).map (·.2) = ds.mergeSort leP := by
      rw [← e2]
      exact List.map_mergeSort fun a _ b _ => rfl
    have rr : Reps X.K H Z ι n ((ps.mergeSort (PySem.W.dataLe false fun p : V × D => toP p.2)).map (·.1)) (ds.mergeSort leP) := by
      rw [← em]
      exact reps_of fun p hp => e3 p (pm.mem_iff.mp hp)
    obtain ⟨ep, he'⟩ := PyProof.Rows.sortedAll_at s.heap its out.toArray
    have hlen : ((ps.mergeSort (PySem.W.dataLe false fun p : V × D => toP p.2)).map (·.1)).length ≤ sizeLine := by
      rw [List.length_map, pm.length_eq, hlp, sizeLine_eq]; exact hz
    exact ⟨.ref _, upd H (s.heap.objs.size + 1) (.lst _), I.laid (t' := s.toks) (fun _ _ => PyProof.Rows.sortedAll_old) (Nat.le_succ _) ⟨hlen, out, ep, vals_of eo, he'⟩, rfl, q _ _ rr (I.hok.fresh (Nat.le_succ _))⟩
/-- sorted(t), t a tuple -/
theorem run_sortTT {pins : List (Addr × Obj)} {s : Shared} {σ : St} {H : Hp} {a : Addr} {xs : List V} {ds : List D} {Q : VK} {Z : Addr → Prop} {ι : Nat → Addr} {n : Nat} (hu : X.A.units + 65 < cLine) (I : Inv X pins σ H s) (h1 : SqT X.K H a xs) (r1 : Reps X.K H Z ι n xs ds) (ho : srtT ds = true)
    (q : ∀ (ys : List V) p, Reps X.K H Z ι n ys (ds.mergeSort leP) → H p = none → Q (.ref p) (upd H p (.lst ys))) : wpAny (model X.prog X.w) X.A (PySem.call (.builtin "sorted") [.ref a]) (EP X pins σ Q) X.xe s := by
  simp only [srtT, Bool.and_eq_true, decide_eq_true_eq] at ho
  obtain ⟨⟨hz, hne⟩, hal⟩ := ho
  obtain ⟨e1, e2, e3⟩ := reps_zip r1
  generalize xs.zip ds = ps at e1 e2 e3
  obtain ⟨its, rv, hl, _⟩ := I.tuple h1
  rw [← e1] at rv
  have ea := each_of rv
  have hin : ∀ p ∈ ps, p.2 ∈ ds := fun p hp => e2 ▸ List.mem_map.mpr ⟨p, hp, rfl⟩
  have hA : ∀ x ∈ ds, ∀ y ∈ ds, alk x y = true := fun x hx y hy => List.all_eq_true.mp (List.all_eq_true.mp hal x hx) y hy
  have hlp : ps.length = ds.length := by rw [← e2, List.length_map]
  refine sorted_dataT (bs := ps) (enc := fun p : V × D => toP p.2) (R := fun u (p : V × D) => RelV p.1 u) hl ea (each_imp ea fun u p hp r => ?_) ?_ ?_ (by rw [hlp, sizeLine_eq]; exact hz) (fun p hp => ?_) fun out hlo eo => ?_
  · exact ((e3 p hp).dp 60 (alk_inv (hA _ (hin p hp) _ (hin p hp))).1).reads I _ _ _ r
  · intro d hd d' hd'
    obtain ⟨p, hp, rfl⟩ := List.mem_map.mp hd
    obtain ⟨p', hp', rfl⟩ := List.mem_map.mp hd'
    exact (alk_inv (hA _ (hin p hp) _ (hin p' hp'))).2.2
  · rcases Bool.or_eq_true _ _ ▸ hne with hne | hne
    · refine .inl fun d hd => ?_
      obtain ⟨p, hp, rfl⟩ := List.mem_map.mp hd
      exact neT_tuple (List.all_eq_true.mp hne _ (hin p hp))
    · refine .inr fun d hd => ?_
      obtain ⟨p, hp, rfl⟩ := List.mem_map.mp hd
      have := List.all_eq_true.mp hne _ (hin p hp)
      cases hd2 : p.2 <;> rw [hd2] at this <;> simp [scS] at this <;> simp [toP]
  · have := depth_toP p.2 60 (alk_inv (hA _ (hin p hp) _ (hin p hp))).1
    omega
  · have pm := List.mergeSort_perm ps (PySem.W.dataLe false fun p : V × D => toP p.2)
    have em : (ps.mergeSort (PySem.W.dataLe false fun p : V × D => toP p.2)).map (·.2) = ds.mergeSort leP := by
      rw [← e2]
      exact List.map_mergeSort fun a _ b _ => rfl
    have rr : Reps X.K H Z ι n ((ps.mergeSort (PySem.W.dataLe false fun p : V × D => toP p.2)).map (·.1)) (ds.mergeSort leP) := by
      rw [← em]
      exact reps_of fun p hp => e3 p (pm.mem_iff.mp hp)
    obtain ⟨ep, he'⟩ := PyProof.Rows.sortedAll_at s.heap its out.toArray
    have hlen : ((ps.mergeSort (PySem.W.dataLe false fun p : V × D => toP p.2)).map (·.1)).length ≤ sizeLine := by
      rw [List.length_map, pm.length_eq, hlp, sizeLine_eq]; exact hz
    exact ⟨.ref _, upd H (s.heap.objs.size + 1) (.lst _), I.laid (t' := s.toks) (fun _ _ => PyProof.Rows.sortedAll_old) (Nat.le_succ _) ⟨hlen, out, ep, vals_of eo, he'⟩, rfl, q _ _ rr (I.hok.fresh (Nat.le_succ _))⟩
theorem kv_strs {kvs : List (Key × V)} {ss : List (List Nat)} (h : (kvs.map fun p => kV p.1) = (ss.map txt).map V.str) : kvs.map (·.1) = (ss.map txt).map Sum.inr := by
  induction kvs generalizing ss with
  | nil =>
    cases ss with
    | nil => rfl
    | cons _ _ => simp at h
  | cons p kvs ih =>
    cases ss with
    | nil => simp at h
    | cons s ss =>
      simp only [List.map_cons, List.cons.injEq] at h ⊢
      refine ⟨?_, ih h.2⟩
      obtain ⟨k, v⟩ := p
      cases k with
      | inl i => simp [kV] at h
      | inr z => have h1 := h.1; simp only [kV] at h1; cases h1; rfl
theorem le_sign (a b : Nat) : PySem.W.dataLe false (fun c : Nat => PyData.str ⟨#[c]⟩) a b = decide (a ≤ b) := by
  have e : PySem.W.dataLe false (fun c : Nat => PyData.str ⟨#[c]⟩) a b = !PySem.W.dataLt (.str ⟨#[b]⟩) (.str ⟨#[a]⟩) := rfl
  rw [e, PySem.W.dataLt_str]
  by_cases h : a ≤ b
  · have : ¬ ([b] : List Nat) < [a] := by simp [List.cons_lt_cons_iff]; omega
    simp [h, this]
  · have : ([b] : List Nat) < [a] := by simp [List.cons_lt_cons_iff]; omega
    simp [h, this]
theorem sign_vals : ∀ {out : List Value} {cs : List Nat}, PySem.W.EachIs (fun v (c : Nat) => ∃ t, v = .str ⟨#[c]⟩ t) out cs → Vals (((cs.map fun c => [c]).map txt).map V.str) out
  | _, _, .nil => .nil
  | _, _, .cons r t => by
    obtain ⟨k, e⟩ := r
    exact .cons ⟨k, e⟩ (sign_vals t)
theorem sorted_signs {z : List Nat} {out : List Value} (h : PySem.W.EachIs (fun v (c : Nat) => ∃ t, v = .str ⟨#[c]⟩ t) out ((txt z).cps.toList.mergeSort (PySem.W.dataLe false fun c : Nat => PyData.str ⟨#[c]⟩))) : Vals (((sortS (z.map fun c => [c])).map txt).map V.str) out := by
  have e0 : (txt z).cps.toList = z := txt_list z
  rw [e0] at h
  have hf : (PySem.W.dataLe false fun c : Nat => PyData.str ⟨#[c]⟩) = fun a b => decide (a ≤ b) := by funext a b; exact le_sign a b
  rw [hf] at h
  have e1 : sortS (z.map fun c => [c]) = (z.mergeSort fun a b => decide (a ≤ b)).map fun c => [c] := by
    refine List.Perm.eq_of_pairwise (le := fun a b => ¬ b < a) (fun a b _ _ h1 h2 => List.le_antisymm (List.not_lt.mp h1) (List.not_lt.mp h2)) (sortS_sorted _) ?_ ((sortS_perm _).trans ((List.mergeSort_perm z _).symm.map _))
    rw [List.pairwise_map]
    have := List.pairwise_mergeSort (le := fun a b : Nat => decide (a ≤ b)) (fun a b c h1 h2 => by simp at *; omega) (fun a b => by simp; omega) z
    refine this.imp fun h => ?_
    simp at h
    simp [List.cons_lt_cons_iff]
    omega
  rw [e1]
  exact sign_vals h
theorem callSorted (hc : X.calm = true) (hu : X.A.units + 65 < cLine) : CallR X (.builtin "sorted") (rC X.K (biD .sorted)) := by
  intro pins s σ H vs us Q I r ⟨Z, ι, n, ds, d, ra, e, k⟩
  match ds, e, ra with
  | [], e, _ => cases e
  | [x], e, ra =>
    obtain ⟨v, rfl, rv⟩ := par1 ra
    cases x <;> simp only [biD, biD1] at e <;> try (cases e; done)
    case lst zs =>
      obtain ⟨p, xs, rfl, h1, r1⟩ := rv.lst
      split at e
      · rename_i ns hn
        cases e
        rw [r1.ints hn] at h1
        refine cr_sortedI pins s σ H _ us Q I r ⟨p, ns, rfl, SqL.of h1, fun ns' q hp hs hq => ?_⟩
        have : ns' = sortI ns := List.Perm.eq_of_pairwise (le := (· ≤ ·)) (fun a b _ _ h1 h2 => Int.le_antisymm h1 h2) hs (sortI_sorted ns) (hp.trans (sortI_perm ns).symm)
        subst this
        exact k _ _ (Grow.new hq) ⟨q, rfl, hq, _, upd_same, reps_ints _⟩
      · split at e
        · rename_i ss hn
          split at e
          · rename_i h64
            cases e
            rw [r1.strs hn] at h1
            refine cr_sortedS pins s σ H _ us Q I r ⟨p, ss.map txt, rfl, SqL.of h1, by rw [List.length_map]; exact h64, fun ys q hp hs hq => ?_⟩
            rw [sorted_same hp hs]
            exact k _ _ (Grow.new hq) ⟨q, rfl, hq, _, upd_same, reps_strs _⟩
          · cases e
        · split at e
          · rename_i ho
            cases e
            rw [Vals.ref1 r]
            refine run_sortT hu I (SqL.of h1) r1 ho fun ys q rr hq => ?_
            exact k _ _ (Grow.new hq) ⟨q, rfl, hq, _, upd_same, rr.keep (Grow.keep (Grow.new hq))⟩
          · cases e
    case tup zs =>
      obtain ⟨p, xs, rfl, h1, r1⟩ := rv.tup
      split at e
      · rename_i ho
        cases e
        rw [Vals.ref1 r]
        refine run_sortTT hu I h1 r1 ho fun ys q rr hq => ?_
        exact k _ _ (Grow.new hq) ⟨q, rfl, hq, _, upd_same, rr.keep (Grow.keep (Grow.new hq))⟩
      · cases e
    case str z =>
      split at e
      · rename_i hz
        cases e
        obtain ⟨u, rfl, ru⟩ := vals1 r
        rw [rv.str] at ru
        obtain ⟨t, rfl⟩ := ru
        have hl : (txt z).cps.size = z.length := by simp [txt]
        refine sorted_str (I.ok.hd hc) (by omega) (by rw [hl, sizeLine_eq]; omega) fun h' tk l out ep hk hle hat hlo he => ?_
        have hn := I.hok.fresh hle
        have ev := sorted_signs he
        refine ⟨.ref l, upd H l (.lst (((sortS (z.map fun c => [c])).map txt).map V.str)), I.laid (t' := tk) hk hle ⟨?_, out, ep, ev, hat⟩, rfl, k _ _ (Grow.new hn) ⟨_, rfl, hn, _, upd_same, reps_strs _⟩⟩
        rw [List.length_map, List.length_map, (sortS_perm _).length_eq, List.length_map, sizeLine_eq]
        omega
      · cases e
    case dict ks vs' =>
      obtain ⟨p, kvs, rfl, h1, r1, r2⟩ := rv.dict
      split at e
      · rename_i ss hn
        split at e
        · rename_i h64
          cases e
          refine call_sortedD hc pins s σ H _ us Q I r ⟨p, kvs, ss.map txt, rfl, h1, kv_strs (r1.strs hn), by rw [List.length_map]; exact h64, fun ys q hp hs hq => ?_⟩
          rw [sorted_same hp hs]
          exact k _ _ (Grow.new hq) ⟨q, rfl, hq, _, upd_same, reps_strs _⟩
        · cases e
      · cases e
  | x :: y :: r', e, _ => rcases bi2 e with q | q <;> cases q
theorem minI_spec : ∀ (ns : List Int) (m : Int), minI m ns ∈ m :: ns ∧ ∀ y ∈ m :: ns, minI m ns ≤ y
  | [], m => by simp [minI]
  | x :: xs, m => by
    unfold minI
    by_cases c : x < m
    · rw [if_pos c]
      obtain ⟨h1, h2⟩ := minI_spec xs x
      refine ⟨List.mem_cons_of_mem _ h1, fun y hy => ?_⟩
      rcases List.mem_cons.mp hy with rfl | hy
      · have := h2 x (by simp); omega
      · exact h2 y hy
    · rw [if_neg c]
      obtain ⟨h1, h2⟩ := minI_spec xs m
      refine ⟨?_, fun y hy => ?_⟩
      · rcases List.mem_cons.mp h1 with h | h
        · rw [h]; simp
        · simp [h]
      · rcases List.mem_cons.mp hy with rfl | hy
        · exact h2 y (by simp)
        · rcases List.mem_cons.mp hy with rfl | hy
          · have := h2 m (by simp); omega
          · exact h2 y (by simp [hy])
theorem maxI_spec : ∀ (ns : List Int) (m : Int), maxI m ns ∈ m :: ns ∧ ∀ y ∈ m :: ns, y ≤ maxI m ns
  | [], m => by simp [maxI]
  | x :: xs, m => by
    unfold maxI
    by_cases c : m < x
    · rw [if_pos c]
      obtain ⟨h1, h2⟩ := maxI_spec xs x
      refine ⟨List.mem_cons_of_mem _ h1, fun y hy => ?_⟩
      rcases List.mem_cons.mp hy with rfl | hy
      · have := h2 x (by simp); omega
      · exact h2 y hy
    · rw [if_neg c]
      obtain ⟨h1, h2⟩ := maxI_spec xs m
      refine ⟨?_, fun y hy => ?_⟩
      · rcases List.mem_cons.mp h1 with h | h
        · rw [h]; simp
        · simp [h]
      · rcases List.mem_cons.mp hy with rfl | hy
        · exact h2 y (by simp)
        · rcases List.mem_cons.mp hy with rfl | hy
          · have := h2 m (by simp); omega
          · exact h2 y (by simp [hy])
theorem callMin (hc : X.calm = true) : CallR X (.builtin "min") (rC X.K (biD .min)) := by
  intro pins s σ H vs us Q I r ⟨Z, ι, n, ds, d, ra, e, k⟩
  match ds, e, ra with
  | [], e, _ => cases e
  | [x], e, ra =>
    obtain ⟨v, rfl, rv⟩ := par1 ra
    cases x <;> simp only [biD, biD1] at e <;> try (cases e; done)
    case lst zs =>
      obtain ⟨p, xs, rfl, h1, r1⟩ := rv.lst
      split at e
      · rename_i m ns hn
        cases e
        rw [r1.ints hn] at h1
        refine cr_min hc pins s σ H _ us Q I r ⟨p, m :: ns, rfl, SqL.of h1, by simp, fun z hz hy => ?_⟩
        obtain ⟨q1, q2⟩ := minI_spec ns m
        have : z = minI m ns := Int.le_antisymm (hy _ q1) (q2 z hz)
        subst this
        exact k _ _ Grow.refl (Rep.int _)
      · cases e
  | [x, y], e, ra =>
    obtain ⟨v, w, rfl, rv, rw'⟩ := par2 ra
    cases x <;> cases y <;> simp only [biD, biD2] at e <;> try (cases e; done)
    cases e
    exact call_min2 hc pins s σ H _ us Q I r ⟨_, _, by rw [rv.int, rw'.int], k _ _ Grow.refl (Rep.int _)⟩
  | x :: y :: z :: r', e, _ => cases e
theorem vals_intsAre : ∀ {ns : List Int} {us : List Value}, Vals (ns.map V.int) us → PyProof.Rows.IntsAre us ns
  | [], _, r => by cases r; exact .nil
  | n :: ns, _, r => by
    rw [List.map_cons] at r
    cases r with
    | cons a t => obtain ⟨k, rfl⟩ := a; exact .cons n k (vals_intsAre t)
theorem callMax (hc : X.calm = true) : CallR X (.builtin "max") (rC X.K (biD .max)) := by
  intro pins s σ H vs us Q I r ⟨Z, ι, n, ds, d, ra, e, k⟩
  match ds, e, ra with
  | [], e, _ => cases e
  | [x], e, ra =>
    obtain ⟨v, rfl, rv⟩ := par1 ra
    cases x <;> simp only [biD, biD1] at e <;> try (cases e; done)
    case lst zs =>
      obtain ⟨p, xs, rfl, h1, r1⟩ := rv.lst
      split at e
      · rename_i m ns hn
        cases e
        rw [r1.ints hn] at h1
        refine cr_max hc pins s σ H _ us Q I r ⟨p, m :: ns, rfl, SqL.of h1, by simp, fun z hz hy => ?_⟩
        obtain ⟨q1, q2⟩ := maxI_spec ns m
        have : z = maxI m ns := Int.le_antisymm (q2 z hz) (hy _ q1)
        subst this
        exact k _ _ Grow.refl (Rep.int _)
      · cases e
    case tup zs =>
      obtain ⟨p, xs, rfl, h1, r1⟩ := rv.tup
      split at e
      · rename_i m ns hn
        cases e
        rw [r1.ints hn] at h1
        rw [Vals.ref1 r]
        obtain ⟨its, rv', hl, _⟩ := I.tuple h1
        refine max_rawT (I.ok.hd hc) hl (vals_intsAre rv') (by simp) fun h' tk z t' hk hz hy => ?_
        obtain ⟨q1, q2⟩ := maxI_spec ns m
        have : z = maxI m ns := Int.le_antisymm (q2 z hz) (hy _ q1)
        subst this
        exact ⟨.int _, H, I.kept hk, ⟨t', rfl⟩, k _ _ Grow.refl (Rep.int _)⟩
      · cases e
  | [x, y], e, ra =>
    obtain ⟨v, w, rfl, rv, rw'⟩ := par2 ra
    cases x <;> cases y <;> simp only [biD, biD2] at e <;> try (cases e; done)
    cases e
    exact call_max2 hc pins s σ H _ us Q I r ⟨_, _, by rw [rv.int, rw'.int], k _ _ Grow.refl (Rep.int _)⟩
  | x :: y :: z :: r', e, _ => cases e
theorem callSum (hc : X.calm = true) : CallR X (.builtin "sum") (rC X.K (biD .sum)) := by
  intro pins s σ H vs us Q I r ⟨Z, ι, n, ds, d, ra, e, k⟩
  match ds, e, ra with
  | [], e, _ => cases e
  | [x], e, ra =>
    obtain ⟨v, rfl, rv⟩ := par1 ra
    cases x <;> simp only [biD, biD1] at e <;> try (cases e; done)
    case lst zs =>
      obtain ⟨p, xs, rfl, h1, r1⟩ := rv.lst
      rw [Option.map_eq_some_iff] at e
      obtain ⟨ns, hn, rfl⟩ := e
      rw [r1.ints hn] at h1
      exact cr_sum hc pins s σ H _ us Q I r ⟨p, ns, rfl, SqL.of h1, k _ _ Grow.refl (Rep.int _)⟩
  | x :: y :: r', e, _ => rcases bi2 e with q | q <;> cases q
theorem callAll (hc : X.calm = true) : CallR X (.builtin "all") (rC X.K (biD .all)) := by
  intro pins s σ H vs us Q I r ⟨Z, ι, n, ds, d, ra, e, k⟩
  match ds, e, ra with
  | [], e, _ => cases e
  | [x], e, ra =>
    obtain ⟨v, rfl, rv⟩ := par1 ra
    cases x <;> simp only [biD, biD1] at e <;> try (cases e; done)
    case lst zs =>
      obtain ⟨p, xs, rfl, h1, r1⟩ := rv.lst
      rw [Option.map_eq_some_iff] at e
      obtain ⟨ns, hn, rfl⟩ := e
      rw [r1.bools hn] at h1
      exact cr_all hc pins s σ H _ us Q I r ⟨p, ns, rfl, SqL.of h1, k _ _ Grow.refl (Rep.bl _)⟩
  | x :: y :: r', e, _ => rcases bi2 e with q | q <;> cases q
theorem callAny (hc : X.calm = true) : CallR X (.builtin "any") (rC X.K (biD .any)) := by
  intro pins s σ H vs us Q I r ⟨Z, ι, n, ds, d, ra, e, k⟩
  match ds, e, ra with
  | [], e, _ => cases e
  | [x], e, ra =>
    obtain ⟨v, rfl, rv⟩ := par1 ra
    cases x <;> simp only [biD, biD1] at e <;> try (cases e; done)
    case lst zs =>
      obtain ⟨p, xs, rfl, h1, r1⟩ := rv.lst
      rw [Option.map_eq_some_iff] at e
      obtain ⟨ns, hn, rfl⟩ := e
      rw [r1.bools hn] at h1
      exact cr_any hc pins s σ H _ us Q I r ⟨p, ns, rfl, SqL.of h1, k _ _ Grow.refl (Rep.bl _)⟩
  | x :: y :: r', e, _ => rcases bi2 e with q | q <;> cases q
theorem callInt : CallR X (.type "int") (rC X.K (biD .int)) := by
  intro pins s σ H vs us Q I r ⟨Z, ι, n, ds, d, ra, e, k⟩
  match ds, e, ra with
  | [], e, _ => cases e
  | [x], e, ra =>
    obtain ⟨v, rfl, rv⟩ := par1 ra
    cases x <;> simp only [biD, biD1] at e <;> try (cases e; done)
    case int i =>
      cases e
      exact call_int1 pins s σ H _ us Q I r (.inl ⟨i, by rw [rv.int], k _ _ Grow.refl (Rep.int _)⟩)
    case bl b =>
      cases e
      exact call_int1 pins s σ H _ us Q I r (.inr ⟨b, by rw [rv.bl], k _ _ Grow.refl (Rep.int _)⟩)
  | x :: y :: r', e, _ => rcases bi2 e with q | q <;> cases q
theorem repK_rep {K : PySem.W.Frag} {H : Hp} {Z : Addr → Prop} {ι : Nat → Addr} {n : Nat} {a d : D} {j : Key} {v : V} (h : keyD a = some j) (rd : Rep K H Z ι n v d) : ∀ {kvs : List (Key × V)} {ks ds : List D}, Reps K H Z ι n (kvs.map fun p => kV p.1) ks → Reps K H Z ι n (kvs.map (·.2)) ds →
    Reps K H Z ι n ((kvs.map fun kv => if kv.1 = j then (kv.1, v) else kv).map (·.2)) (repK a d ks ds) ∧ ((kvs.map fun kv => if kv.1 = j then (kv.1, v) else kv).map fun p => kV p.1) = kvs.map fun p => kV p.1
  | [], _, _, .nil, .nil => ⟨.nil, rfl⟩
  | p :: kvs, _, _, .cons r t, .cons r2 t2 => by
    obtain ⟨h1, h2⟩ := repK_rep h rd t t2
    unfold repK
    rw [keq_of r h]
    by_cases e : p.1 = j
    · simp only [List.map_cons, e, if_true, decide_true]
      exact ⟨.cons rd h1, by rw [h2]⟩
    · simp only [List.map_cons, e, if_false, decide_false, Bool.false_eq_true]
      exact ⟨.cons r2 h1, by rw [h2]⟩
theorem anyP_of {K : PySem.W.Frag} {H : Hp} {Z : Addr → Prop} {ι : Nat → Addr} {n : Nat} {a : D} {j : Key} (h : keyD a = some j) : ∀ {kvs : List (Key × V)} {ks : List D}, Reps K H Z ι n (kvs.map fun p => kV p.1) ks → (kvs.any fun kv => decide (kv.1 = j)) = ks.any fun z => keq z a
  | [], _, .nil => rfl
  | p :: kvs, _, .cons r t => by rw [List.any_cons, List.any_cons, keq_of r h, ← anyP_of h t]
theorem putK_rep {K : PySem.W.Frag} {H : Hp} {Z : Addr → Prop} {ι : Nat → Addr} {n : Nat} {a d : D} {j : Key} {v : V} (h : keyD a = some j) (ra : Rep K H Z ι n (kV j) a) (rd : Rep K H Z ι n v d) {kvs : List (Key × V)} {ks ds : List D} (r1 : Reps K H Z ι n (kvs.map fun p => kV p.1) ks) (r2 : Reps K H Z ι n (kvs.map (·.2)) ds) :
    Reps K H Z ι n ((putK kvs j v).map fun p => kV p.1) (putD a d ks ds).1 ∧ Reps K H Z ι n ((putK kvs j v).map (·.2)) (putD a d ks ds).2 := by
  unfold putK putD
  rw [anyP_of h r1]
  obtain ⟨q1, q2⟩ := repK_rep h rd r1 r2
  split
  · exact ⟨by rw [q2]; exact r1, q1⟩
  · rw [List.map_append, List.map_append]
    exact ⟨r1.append (.cons ra .nil), r2.append (.cons rd .nil)⟩
theorem keyD_rep {K : PySem.W.Frag} {H : Hp} {Z : Addr → Prop} {ι : Nat → Addr} {n : Nat} {a : D} {j : Key} (h : keyD a = some j) : Rep K H Z ι n (kV j) a := by
  cases a <;> simp [keyD] at h
  · subst h; exact .int _
  · subst h; exact .str _
theorem pairs_rep {K : PySem.W.Frag} {H : Hp} {Z : Addr → Prop} {ι : Nat → Addr} {n : Nat} : ∀ {ds : List D} {xs : List V} {ps : List (D × D)}, Reps K H Z ι n xs ds → pairsD ds = some ps →
    ∃ (as : List Addr) (kvs : List (Key × V)), xs = as.map V.ref ∧ Paired (fun p kv => SqT K H p [kV kv.1, kv.2]) as kvs ∧ Paired (fun (kv : Key × V) (p : D × D) => keyD p.1 = some kv.1 ∧ Rep K H Z ι n kv.2 p.2) kvs ps
  | [], _, ps, .nil, h => by simp [pairsD] at h; subst h; exact ⟨[], [], rfl, .nil, .nil⟩
  | d :: ds, _, ps, .cons r t, h => by
    unfold pairsD at h
    split at h
    · rename_i heq
      cases heq
    · rename_i k v ds' heq
      obtain ⟨rfl, rfl⟩ := List.cons.inj heq
      split at h
      · rename_i j hj
        rw [Option.map_eq_some_iff] at h
        obtain ⟨ps', h, rfl⟩ := h
        obtain ⟨as, kvs, e, q1, q2⟩ := pairs_rep t h
        cases r with
        | tup hs hr =>
          cases hr with
          | cons k1 hr =>
            cases hr with
            | cons v1 hr =>
              cases hr
              have ek := kv_key (.inl k1) hj
              subst ek
              exact ⟨_ :: as, (j, _) :: kvs, by rw [e]; rfl, .cons hs.sq q1, .cons ⟨hj, v1⟩ q2⟩
      · cases h
    · cases h
theorem merge_rep {K : PySem.W.Frag} {H : Hp} {Z : Addr → Prop} {ι : Nat → Addr} {n : Nat} : ∀ {kvs : List (Key × V)} {ps : List (D × D)} {acc : List (Key × V)} {ks ds : List D}, Paired (fun (kv : Key × V) (p : D × D) => keyD p.1 = some kv.1 ∧ Rep K H Z ι n kv.2 p.2) kvs ps →
    Reps K H Z ι n (acc.map fun p => kV p.1) ks → Reps K H Z ι n (acc.map (·.2)) ds →
    Reps K H Z ι n ((mergeK acc kvs).map fun p => kV p.1) (ps.foldl (fun acc p => putD p.1 p.2 acc.1 acc.2) ((ks, ds) : List D × List D)).1 ∧ Reps K H Z ι n ((mergeK acc kvs).map (·.2)) (ps.foldl (fun acc p => putD p.1 p.2 acc.1 acc.2) ((ks, ds) : List D × List D)).2
  | _, _, _, _, _, .nil, r1, r2 => ⟨r1, r2⟩
  | kv :: kvs, p :: ps, acc, ks, ds, .cons q t, r1, r2 => by
    obtain ⟨h1, h2⟩ := putK_rep q.1 (keyD_rep q.1) q.2 r1 r2
    have := merge_rep (kvs := kvs) (ps := ps) (acc := putK acc kv.1 kv.2) t h1 h2
    exact this
theorem callDict (hc : X.calm = true) : CallR X (.type "dict") (rC X.K (biD .dict)) := by
  intro pins s σ H vs us Q I r ⟨Z, ι, n, ds, d, ra, e, k⟩
  match ds, e, ra with
  | [], e, _ => cases e
  | [x], e, ra =>
    obtain ⟨v, rfl, rv⟩ := par1 ra
    cases x <;> simp only [biD, biD1] at e <;> try (cases e; done)
    case lst zs =>
      obtain ⟨p, xs, rfl, h1, r1⟩ := rv.lst
      split at e
      · rename_i ps hp
        cases e
        obtain ⟨as, kvs, rfl, q1, q2⟩ := pairs_rep r1 hp
        refine call_dictP hc pins s σ H _ us Q I r ⟨p, as, kvs, rfl, SqL.of h1, q1, fun t ht => ?_⟩
        obtain ⟨m1, m2⟩ := merge_rep (acc := []) (ks := []) (ds := []) q2 .nil .nil
        exact k _ _ (Grow.new ht) ⟨t, rfl, ht, _, upd_same, m1.keep (Grow.keep (Grow.new ht)), m2.keep (Grow.keep (Grow.new ht))⟩
      · cases e
    case tup zs =>
      obtain ⟨p, xs, rfl, h1, r1⟩ := rv.tupP
      split at e
      · rename_i ps hp
        cases e
        obtain ⟨as, kvs, rfl, q1, q2⟩ := pairs_rep r1 hp
        refine call_dictT hc pins s σ H _ us Q I r ⟨p, as, kvs, rfl, h1, q1, fun t ht => ?_⟩
        obtain ⟨m1, m2⟩ := merge_rep (acc := []) (ks := []) (ds := []) q2 .nil .nil
        exact k _ _ (Grow.new ht) ⟨t, rfl, ht, _, upd_same, m1.keep (Grow.keep (Grow.new ht)), m2.keep (Grow.keep (Grow.new ht))⟩
      · cases e
  | x :: y :: r', e, _ => rcases bi2 e with q | q <;> cases q

def tyD : D → Option String
  | .non => some "NoneType" | .bl _ => some "bool" | .int _ => some "int" | .str _ => some "str" | .tup _ => some "tuple" | .lst _ => some "list" | .dict _ _ => some "dict" | .dictF _ _ => some "dict" | _ => none
theorem tyD_ok {K : PySem.W.Frag} {H : Hp} {Z : Addr → Prop} {ι : Nat → Addr} {n : Nat} {v : V} {d : D} {t : String} (r : RdV K H Z ι n v d) (h : tyD d = some t) : TyX K H v (.type t) := by
  cases d <;> simp [tyD] at h <;> subst h
  · rw [r.non]; exact .base .non
  · rw [r.bl]; exact .base (.bl _)
  · rw [r.int]; exact .base (.int _)
  · rw [r.str]; exact .base (.str _)
  · obtain ⟨a, xs, rfl, h1, _⟩ := r.tup
    rcases h1 with (h1 | ⟨o, h1⟩) | ⟨o, its, k, h1, h2, _⟩
    · exact .base (.tup h1)
    · exact .fTuple h1
    · exact .kTuple h1 h2
  · obtain ⟨a, xs, rfl, h1, _⟩ := r.lst
    exact .base (.lst h1)
  · obtain ⟨a, xs, rfl, h1, _⟩ := r.dict
    rcases h1 with h1 | ⟨o, h1⟩
    · exact .base (.dK h1)
    · exact .fDict h1
  · rcases r with r | ⟨_, _, r⟩
    · cases r with
      | dictF h _ _ => exact .fDict h
    · exact r.elim
def isD (T : String) (d : D) : Option Bool := match tyD d with
  | some t => kitB t T
  | none => none
/-- isinstance(x, T) -/
theorem callIs (T : String) : CallR X (.builtin "isinstance") (fun vs H Q => ∃ Z ι n x d b, vs = [x, .ty T] ∧ RdV X.K H Z ι n x d ∧ isD T d = some b ∧ Q (.bl b) H) := by
  intro pins s σ H vs us Q I r ⟨Z, ι, n, x, d, b, e, rx, h, q⟩
  unfold isD at h
  split at h
  · rename_i t ht
    exact call_isi pins s σ H vs us Q I r ⟨x, .ty T, .type t, .type T, b, e, .ty T, tyD_ok rx ht, kit_ty h, q⟩
  · cases h
theorem callIs2 (T U : String) : CallR X (.builtin "isinstance") (fun vs H Q => ∃ Z ι n x d b c p, vs = [x, .ref p] ∧ H p = some (.tup [.ty T, .ty U]) ∧ RdV X.K H Z ι n x d ∧ isD T d = some b ∧ isD U d = some c ∧ Q (.bl (b || c)) H) := by
  intro pins s σ H vs us Q I r ⟨Z, ι, n, x, d, b, c, p, e, hp, rx, h, h2, q⟩
  unfold isD at h h2
  split at h
  · rename_i t ht
    rw [ht] at h2
    refine call_isiT pins s σ H vs us Q I r ⟨x, p, [.ty T, .ty U], .type t, [.type T, .type U], b || c, e, hp, .cons (.ty T) (.cons (.ty U) .nil), tyD_ok rx ht, ?_, q⟩
    refine kitAny_cons (kit_ty h) (fun hb => ?_) (fun hb => by rw [hb]; rfl)
    refine kitAny_cons (kit_ty h2) (fun hc => ?_) (fun hc => by rw [hc]; simp)
    rw [hb, hc]
    exact kitAny_nil
  · cases h

def rM (K : PySem.W.Frag) (m : Me) : V → List V → Hp → VK → Prop := fun x vs H Q => ∃ Z ι n o ds d, RdV K H Z ι n x o ∧ Paired (RdV K H Z ι n) vs ds ∧ meD m o ds = some d ∧ ∀ v, Rep K H Z ι n v d → Q v H
theorem occ_full (s sub : Str) (hi : Nat) : ∀ (l : List Nat) (st : Array Nat × Nat), ¬ st.fst.size < 1 → (forIn l st (PySem.StrLaws.occBody s sub hi 1)).run.fst = st.fst
  | [], st, _ => rfl
  | a :: l, st, h => by
    rw [List.forIn_cons]
    unfold PySem.StrLaws.occBody
    rw [if_neg (fun q => h q.1.1.1)]
    exact occ_full s sub hi l _ h
theorem occ_first (s sub : Str) (hi j : Nat) (post : List Nat) (hj : j + sub.length ≤ hi ∧ Builtin.Str.subAt s sub j = true) : ∀ (pre : List Nat) (free : Nat), (∀ i ∈ pre, ¬ (i + sub.length ≤ hi ∧ Builtin.Str.subAt s sub i = true)) → free ≤ j →
    (forIn (pre ++ j :: post) ((#[] : Array Nat), free) (PySem.StrLaws.occBody s sub hi 1)).run.fst = #[j]
  | [], free, _, hf => by
    rw [List.nil_append, List.forIn_cons]
    unfold PySem.StrLaws.occBody
    have c1 : (((#[] : Array Nat), free).fst.size < 1 ∧ ((#[] : Array Nat), free).snd ≤ j) ∧ j + sub.length ≤ hi := ⟨⟨by simp, hf⟩, hj.1⟩
    rw [if_pos ⟨c1, hj.2⟩]
    exact occ_full s sub hi post _ (by simp)
  | a :: pre, free, h, hf => by
    rw [List.cons_append, List.forIn_cons]
    unfold PySem.StrLaws.occBody
    rw [if_neg (fun q => h a (by simp) ⟨q.1.2, q.2⟩)]
    exact occ_first s sub hi j post hj pre free (fun i hi' => h i (List.mem_cons_of_mem _ hi')) hf
theorem idx1_spec (c : Nat) : ∀ (z : List Nat) (i : Nat), idx1 c z = some i → z[i]? = some c ∧ ∀ j, j < i → z[j]? ≠ some c
  | [], i, h => by cases h
  | x :: z, i, h => by
    unfold idx1 at h
    split at h
    · rename_i e
      cases h
      exact ⟨by simp [e], fun j hj => absurd hj (by omega)⟩
    · rename_i e
      rw [Option.map_eq_some_iff] at h
      obtain ⟨k, h, rfl⟩ := h
      obtain ⟨h1, h2⟩ := idx1_spec c z k h
      refine ⟨by simpa using h1, fun j hj => ?_⟩
      cases j with
      | zero => simpa using e
      | succ j => simpa using h2 j (by omega)
theorem idx1_occ (c : Nat) (z : List Nat) (i : Nat) (h : idx1 c z = some i) : ∃ rest, Builtin.Str.occurrences (txt z) (txt [c]) 0 (txt z).length 1 = i :: rest := by
  obtain ⟨h1, h2⟩ := idx1_spec c z i h
  have hl : (txt z).length = z.length := by simp [txt, Str.length]
  have hi : i < z.length := (List.getElem?_eq_some_iff.mp h1).1
  have one : ∀ k, (k + (txt [c]).length ≤ (txt z).length ∧ Builtin.Str.subAt (txt z) (txt [c]) k = true) ↔ z[k]? = some c := fun k => by
    have := PySem.StrLaws.subAt_one (txt z) c k
    rw [txt_list] at this
    exact this
  refine ⟨[], ?_⟩
  rw [PySem.StrLaws.occ_eq]
  have e : List.range' 0 ((txt z).length + 1 - 0) = List.range' 0 i ++ i :: List.range' (i + 1) (z.length - i) := by
    rw [hl]
    have : z.length + 1 - 0 = i + (z.length - i + 1) := by omega
    rw [this, ← List.range'_append_1]
    simp [List.range'_succ]
  rw [e, occ_first _ _ _ i _ ((one i).mpr h1) _ _ (fun k hk q => h2 k (by simp [List.mem_range'] at hk; omega) ((one k).mp q)) (Nat.zero_le _)]
theorem par0 {K : PySem.W.Frag} {H : Hp} {Z : Addr → Prop} {ι : Nat → Addr} {n : Nat} {vs : List V} (r : Paired (RdV K H Z ι n) vs []) : vs = [] := by
  cases r; rfl
theorem metIndex : MtR X "str.index" (rM X.K .sindex) := by
  intro pins s σ H x vs v us Q I rx rs ⟨Z, ι, n, o, ds, d, ro, ra, e, k⟩
  unfold meD at e
  split at e <;> try (rename_i heq; cases heq; done)
  · rename_i z c _
    rw [Option.map_eq_some_iff] at e
    obtain ⟨i, e, rfl⟩ := e
    obtain ⟨w, rfl, rw'⟩ := par1 ra
    obtain ⟨rest, ho⟩ := idx1_occ c z i e
    exact mt_sindex pins s σ H x _ v us Q I rx rs ⟨txt z, txt [c], i, rest, ro.str, by rw [rw'.str], ho, k _ (.int _)⟩
  all_goals first | contradiction | (cases e)
theorem txt_app (a b : List Nat) : (txt a ++ txt b : Str) = txt (a ++ b) := by
  have h := txt_of (txt a ++ txt b)
  have h2 : (txt a ++ txt b : Str).cps.toList = a ++ b := by
    show ((txt a).cps ++ (txt b).cps).toList = _
    simp [txt]
  rw [h2] at h
  exact h.symm
theorem join_txt' (a : List Nat) : ∀ ss : List (List Nat), Str.join (txt a) (ss.map txt) = txt (joinN a ss)
  | [] => rfl
  | [x] => rfl
  | x :: y :: r => by
    have ih := join_txt' a (y :: r)
    show txt x ++ txt a ++ Str.join (txt a) ((y :: r).map txt) = _
    rw [ih, txt_app, txt_app]
    rfl
theorem join_txt (a : List Nat) (ss : List (List Nat)) : Txt.join (txt a) (ss.map txt) = txt (joinN a ss) :=
  (PySem.StrLaws.glued_eq_join _ _).trans (join_txt' a ss)
theorem join_len (a : List Nat) : ∀ ss : List (List Nat), ((ss.map txt).map (·.length)).sum + ss.length * a.length ≤ (joinN a ss).length + a.length
  | [] => by simp
  | [x] => by simp [joinN, txt, Str.length]
  | x :: y :: r => by
    have ih := join_len a (y :: r)
    have e : joinN a (x :: y :: r) = x ++ a ++ joinN a (y :: r) := rfl
    have l : (txt x).length = x.length := by simp [txt, Str.length]
    rw [e, List.length_append, List.length_append]
    simp only [List.map_cons, List.sum_cons, List.length_cons] at ih ⊢
    rw [l]
    have : (r.length + 1 + 1) * a.length = (r.length + 1) * a.length + a.length := by rw [Nat.add_mul, Nat.one_mul]
    omega
theorem metJoin : MtR X "str.join" (rM X.K .join) := by
  intro pins s σ H x vs v us Q I rx rs ⟨Z, ι, n, o, ds, d, ro, ra, e, k⟩
  unfold meD at e
  split at e <;> try (rename_i heq; cases heq; done)
  · rename_i z zs _
    obtain ⟨w, rfl, rw'⟩ := par1 ra
    obtain ⟨p, xs, rfl, h1, r1⟩ := rw'.lst
    split at e
    · rename_i ss hs
      split at e
      · rename_i hl
        cases e
        rw [r1.strs hs] at h1
        refine mt_join pins s σ H x _ v us Q I rx rs ⟨txt z, p, ss.map txt, ro.str, rfl, .inl (SqL.of h1), ?_, ?_⟩
        · have := join_len z ss
          rw [List.length_map]
          have l : (txt z).length = z.length := by simp [txt, Str.length]
          rw [l]
          have hl' : (joinN z ss).length + z.length ≤ szL := hl
          unfold szL at hl'
          omega
        · rw [join_txt]
          exact k _ (.str _)
      · cases e
    · cases e
  · rename_i z zs _
    obtain ⟨w, rfl, rw'⟩ := par1 ra
    obtain ⟨p, xs, rfl, h1, r1⟩ := rw'.tup
    split at e
    · rename_i ss hs
      split at e
      · rename_i hl
        cases e
        rw [r1.strs hs] at h1
        refine mt_join pins s σ H x _ v us Q I rx rs ⟨txt z, p, ss.map txt, ro.str, rfl, .inr h1, ?_, ?_⟩
        · have := join_len z ss
          rw [List.length_map]
          have l : (txt z).length = z.length := by simp [txt, Str.length]
          rw [l]
          have hl' : (joinN z ss).length + z.length ≤ szL := hl
          unfold szL at hl'
          omega
        · rw [join_txt]
          exact k _ (.str _)
      · cases e
    · cases e
  all_goals first | contradiction | (cases e)
theorem dget_of {K : PySem.W.Frag} {H : Hp} {Z : Addr → Prop} {ι : Nat → Addr} {n : Nat} {v w : V} {a : D} {ks vs : List D} {j : Key} (ro : RdV K H Z ι n v (.dict ks vs)) (rk : RdV K H Z ι n w a) (hj : keyD a = some j) :
    ∃ p kvs o, v = .ref p ∧ Rd H p (.dK kvs) ∧ DGet H p w o ∧ ((o = none ∧ findK a ks vs = none) ∨ ∃ x d, o = some x ∧ findK a ks vs = some d ∧ Rep K H Z ι n x d) := by
  obtain ⟨p, kvs, e1, h1, r1, r2⟩ := ro.dict
  have g : DGet H p w (valV kvs j) := by
    have := DGet.kR (k := j) h1
    rw [← kv_key rk hj] at this
    exact this
  rcases findK_of hj r1 r2 with ⟨q, q2⟩ | ⟨x, d', q, q2, q3⟩
  · exact ⟨p, kvs, _, e1, h1, g, .inl ⟨q2, q⟩⟩
  · exact ⟨p, kvs, _, e1, h1, g, .inr ⟨x, d', q2, q, q3⟩⟩
theorem metGet1 (hu : X.A.units + 65 < cLine) : MtR X "dict.get" (rM X.K .dget) := by
  intro pins s σ H x vs v us Q I rx rs ⟨Z, ι, n, o, ds, d, ro, ra, e, k⟩
  unfold meD at e
  split at e <;> try (rename_i heq; cases heq; done)
  · rename_i ks vals a _
    obtain ⟨w, rfl, rw'⟩ := par1 ra
    split at e
    · rename_i j hj
      cases e
      obtain ⟨p, kvs, o, rfl, h1, g, q⟩ := dget_of ro rw' hj
      obtain ⟨u, rfl, ru⟩ := vals1 rs
      cases rx
      refine d_get1 (by omega) I g ru fun w' s' I' rw2 => ⟨_, H, I', rw2, ?_⟩
      rcases q with ⟨rfl, q⟩ | ⟨y, d', rfl, q, q2⟩
      · rw [q] at k; exact k _ .non
      · rw [q] at k; exact k _ q2
    · cases e
  all_goals first | contradiction | (cases e)
theorem rep_scal {K : PySem.W.Frag} {H : Hp} {Z : Addr → Prop} {ι : Nat → Addr} {n : Nat} {v : V} {d : D} (r : RdV K H Z ι n v d) (h : scalD d = true) : Rep K H Z ι n v d := by
  rcases r with r | ⟨a, _, l⟩
  · exact r
  · cases d <;> first | exact l.elim | simp [scalD] at h
theorem metGet2 (hu : X.A.units + 65 < cLine) : MtR X "dict.get" (rM X.K .dgetd) := by
  intro pins s σ H x vs v us Q I rx rs ⟨Z, ι, n, o, ds, d, ro, ra, e, k⟩
  unfold meD at e
  split at e <;> try (rename_i heq; cases heq; done)
  · rename_i ks vals a z _
    obtain ⟨w, w2, rfl, rw', rz⟩ := par2 ra
    split at e
    · rename_i j hj
      split at e
      · rename_i hz
        cases e
        obtain ⟨p, kvs, o, rfl, h1, g, q⟩ := dget_of ro rw' hj
        obtain ⟨u, u2, rfl, ru, ru2⟩ := vals2 rs
        cases rx
        refine d_get2 (by omega) I g ru ru2 fun w' s' I' rw2 => ⟨_, H, I', rw2, ?_⟩
        rcases q with ⟨rfl, q⟩ | ⟨y, d', rfl, q, q2⟩
        · rw [q] at k; exact k _ (rep_scal rz hz)
        · rw [q] at k; exact k _ q2
      · cases e
    · cases e
  all_goals first | contradiction | (cases e)
end
end PyI
namespace PyI
open PySem L2 PySem.Spec PyProof.Rows
section
variable {X : Cx}
theorem callRepr (hg : X.A.guards = some []) (hu : X.A.units + 65 < cLine) : CallR X (.builtin "repr") (rC X.K (biD .repr)) := by
  intro pins s σ H vs us Q I r ⟨Z, ι, n, ds, d, ra, e, k⟩
  match ds, e, ra with
  | [], e, _ => cases e
  | _ :: _ :: _ :: _, e, _ => cases e
  | [x, y], e, _ => cases x <;> cases y <;> simp [biD, biD2] at e
  | [x], e, ra =>
    obtain ⟨v, rfl, rv⟩ := par1 ra
    simp only [biD, biD1] at e
    split at e
    rotate_left
    · cases e
    rename_i hz
    cases e
    simp only [Bool.and_eq_true, decide_eq_true_eq] at hz
    obtain ⟨⟨h1, h2⟩, h3⟩ := hz
    have hd := rv.dp h1
    have hsz : (toP x).shown.length ≤ sizeLine := by rw [sizeLine_eq]; exact h3
    have hdep := depth_toP x 60 h1
    obtain ⟨u, rfl, ru⟩ := vals1 r
    have hdic : (toP x).hasDict = true → False := fun q => by
      have := can_toP x 60 h1
      rw [PySem.PyData.hasDict_of_canLay (toP x) this] at q
      cases q
    have e1 : V.str (toP x).shown = V.str (txt (toP x).shown.cps.toList) := by rw [txt_of]
    have fin : ∀ (h' : Heap) (t : Tok) (tk : Nat), (∀ b o, s.heap.get? b = some o → h'.get? b = some o) → EP X pins σ Q (.str (toP x).shown t) { s with heap := h', toks := tk } := fun h' t tk hk =>
      ⟨.str (toP x).shown, H, I.kept (t' := tk) hk, ⟨_, rfl⟩, by rw [e1]; exact k _ _ Grow.refl (Rep.str _)⟩
    obtain ⟨as, hr⟩ := Dp.reads I (toP x) v u hd ru
    generalize toP x = dd at h2 hsz fin hr hdic hdep
    cases hr with
    | none => exact PySem.P.repr_of_none (fin _ _ _ fun _ _ h => h)
    | bool => exact PySem.P.repr_of_bool (fin _ _ _ fun _ _ h => h)
    | int => exact PySem.P.repr_of_int (by simpa [PyData.showable] using h2) (fin _ _ _ fun _ _ h => h)
    | str => exact PySem.P.repr_of_str (fin _ _ _ fun _ _ h => h) hsz
    | list a1 a2 a3 a4 => exact repr_of_reads' (.list a1 a2 a3 a4) h2 (fun q => (hdic q).elim) hg (by omega) (fun _ _ h => h) (fun h' t tk hk => fin h' t tk hk) hsz
    | tuple a1 a2 a3 a4 => exact repr_of_reads' (.tuple a1 a2 a3 a4) h2 (fun q => (hdic q).elim) hg (by omega) (fun _ _ h => h) (fun h' t tk hk => fin h' t tk hk) hsz
    | _ => exact (hdic rfl).elim
/-- len(set(text)) -/
def tLens (ta : TE) : TE := fun σ H Q => ta σ H fun x H1 => ∃ z : Str, x = .str z ∧ z.cps.size + 1 < scanBound ∧ Q (.int (met (signs z)).length) H1
theorem pe_lens {a : Expr} {ta : TE} {p p2 q pos : Pos} (hc : X.calm = true) (hg : Gl X "len") (hm : X.mg "len" = none) (hg2 : Gl X "set") (hm2 : X.mg "set" = none) (ha : PE X a ta)
    (na : starEach [a] X.env = (false, eval a X.env) :: starEach [] X.env) : PE X (.Call (.Name "len" p) [.Call (.Name "set" p2) [a] [] q] [] pos) (tLens ta) := by
  refine ⟨fun pins s σ H Q I h => ?_⟩
  refine Call_ (ld_blt I hg hm boot_len ?_)
  refine PyProof.Rows.callWith_builtin1 (PyProof.Rows.args_cons ?_ rfl) rfl rfl
  refine Call_ (ld_blt I hg2 hm2 boot_set ?_)
  refine PyProof.Rows.callWith_type1 (PyProof.Rows.args_cons (thn (ha.run pins s σ H _ I h) fun v s1 ⟨x, H1, I1, r1, q1⟩ => PyProof.Rows.args_nil ?_) na) na rfl
  obtain ⟨z, rfl, hb, q1⟩ := q1
  obtain ⟨t, rfl⟩ := r1
  refine call_set_text (I1.ok.hd hc) hb fun h' tk hS hk => ?_
  refine PyProof.Rows.args_nil ?_
  obtain ⟨o, es, ep, t, ho, hex, hd, _, _, _, hf, hn⟩ := hS
  have I2 : Inv X pins σ H1 { s1 with heap := h', toks := tk } := I1.kept fun b o e => hk b o (Heap.lt_size e) e
  have hl : (met (signs z)).length ≤ z.cps.size := by rw [← signs_len]; exact len_met
  have hsb : scanBound ≤ 2 ^ 62 := by decide
  refine call_len_set ho hex hd hf (by rw [hn]; omega) ⟨.int (met (signs z)).length, H1, I2.tok _, ⟨_, by rw [hn]⟩, q1⟩
theorem met_signs (z : List Nat) : (met (signs (txt z))).length = (met z).length := by
  have e : signs (txt z) = z.map fun c => (⟨#[c]⟩ : Str) := by simp [signs, txt]
  rw [e, met_map _ (fun a b h => by simpa using h), List.length_map]
end
end PyI
namespace PyI
open PySem L2 PySem.Spec PyProof.Rows

theorem le_text (a b : Str) : PySem.W.dataLe false PyData.str a b = decide (¬ b.cps.toList < a.cps.toList) := by
  have e : PySem.W.dataLe false PyData.str a b = !PySem.W.dataLt (.str b) (.str a) := rfl
  rw [e, PySem.W.dataLt_str]
  by_cases h : b.cps.toList < a.cps.toList <;> simp [h]
theorem le_num (a b : Int) : PySem.W.dataLe false PyData.int a b = decide (a ≤ b) := by
  have e : PySem.W.dataLe false PyData.int a b = !PySem.W.dataLt (.int b) (.int a) := rfl
  rw [e, PySem.W.dataLt_int]
  by_cases h : a ≤ b
  · have : ¬ b < a := by omega
    simp [h, this]
  · have : b < a := by omega
    simp [h, this]
theorem merge_text {l : List Str} {xs : List (List Nat)} (p : l.Perm (xs.map txt)) : l.mergeSort (PySem.W.dataLe false PyData.str) = (sortS xs).map txt := by
  have hf : PySem.W.dataLe false PyData.str = fun a b => decide (¬ b.cps.toList < a.cps.toList) := by funext a b; exact le_text a b
  rw [hf]
  have e2 : ((l.mergeSort fun a b => decide (¬ b.cps.toList < a.cps.toList)).map fun y : Str => y.cps.toList).Pairwise (fun a b => ¬ b < a) := by
    rw [List.pairwise_map]
    have := List.pairwise_mergeSort (le := fun a b : Str => decide (¬ b.cps.toList < a.cps.toList)) (fun a b c h1 h2 => by
      simp only [decide_eq_true_eq] at *
      exact List.not_lt.mpr (List.le_trans (List.not_lt.mp h1) (List.not_lt.mp h2))) (fun a b => by
      simp only [Bool.or_eq_true, decide_eq_true_eq]
      rcases List.le_total a.cps.toList b.cps.toList with h | h
      · exact .inl (List.not_lt.mpr h)
      · exact .inr (List.not_lt.mpr h)) l
    exact this.imp fun h => by simpa using h
  have e1 : ((l.mergeSort fun a b => decide (¬ b.cps.toList < a.cps.toList)).map fun y : Str => y.cps.toList).Perm xs := by
    have h1 := ((List.mergeSort_perm l fun a b => decide (¬ b.cps.toList < a.cps.toList)).trans p).map fun y : Str => y.cps.toList
    rw [List.map_map] at h1
    have e : ((fun y : Str => y.cps.toList) ∘ txt) = id := by funext z; exact txt_list z
    rwa [e, List.map_id] at h1
  have e3 : ((l.mergeSort fun a b => decide (¬ b.cps.toList < a.cps.toList)).map fun y : Str => y.cps.toList) = sortS xs := by
    refine List.Perm.eq_of_pairwise (le := fun a b => ¬ b < a) (fun a b _ _ h1 h2 => ?_) e2 (sortS_sorted xs) (e1.trans (sortS_perm xs).symm)
    exact List.le_antisymm (List.not_lt.mp h1) (List.not_lt.mp h2)
  rw [← e3, List.map_map]
  have e : (txt ∘ fun y : Str => y.cps.toList) = id := by funext z; exact txt_of z
  rw [e, List.map_id]
theorem merge_num {l xs : List Int} (p : l.Perm xs) : l.mergeSort (PySem.W.dataLe false PyData.int) = sortI xs := by
  have hf : PySem.W.dataLe false PyData.int = fun a b => decide (a ≤ b) := by funext a b; exact le_num a b
  rw [hf]
  refine List.Perm.eq_of_pairwise (le := (· ≤ ·)) (fun a b _ _ h1 h2 => Int.le_antisymm h1 h2) ?_ (sortI_sorted xs) (((List.mergeSort_perm l _).trans p).trans (sortI_perm xs).symm)
  have := List.pairwise_mergeSort (le := fun a b : Int => decide (a ≤ b)) (fun a b c h1 h2 => by simp at *; omega) (fun a b => by simp; omega) l
  exact this.imp fun h => by simpa using h
theorem each_text {prog : Program} {w : World} : ∀ {out : List Value} {ks : List Str}, PySem.W.EachIs (fun v k => (strKind prog w).is k v = true) out ks → Vals (ks.map V.str) out
  | _, _, .nil => .nil
  | _, _, .cons r t => .cons (Value.isStrOf_shape r) (each_text t)
theorem each_num {prog : Program} {w : World} : ∀ {out : List Value} {ks : List Int}, PySem.W.EachIs (fun v k => (intKind prog w).is k v = true) out ks → Vals (ks.map V.int) out
  | _, _, .nil => .nil
  | _, _, .cons r t => .cons (Value.isInt_shape r) (each_num t)
theorem text_each {prog : Program} {w : World} : ∀ {out : List Value} {ks : List Str}, Vals (ks.map V.str) out → ∀ (i : Nat) (v : Value), out[i]? = some v → ∃ hi : i < ks.length, (strKind prog w).is ks[i] v = true
  | _, [], r, i, v, h => by cases r; simp at h
  | _, k :: ks, r, i, v, h => by
    rw [List.map_cons] at r
    cases r with
    | cons r t =>
      cases i with
      | zero =>
        simp at h
        subst h
        obtain ⟨u, e⟩ := r
        subst e
        exact ⟨by simp, strKind_is _ _ _ _⟩
      | succ i =>
        obtain ⟨hi, q⟩ := text_each (prog := prog) (w := w) t i v (by simpa using h)
        exact ⟨by simp; exact hi, by simpa using q⟩
theorem num_each {prog : Program} {w : World} : ∀ {out : List Value} {ks : List Int}, Vals (ks.map V.int) out → ∀ (i : Nat) (v : Value), out[i]? = some v → ∃ hi : i < ks.length, (intKind prog w).is ks[i] v = true
  | _, [], r, i, v, h => by cases r; simp at h
  | _, k :: ks, r, i, v, h => by
    rw [List.map_cons] at r
    cases r with
    | cons r t =>
      cases i with
      | zero =>
        simp at h
        subst h
        obtain ⟨u, e⟩ := r
        subst e
        exact ⟨by simp, intKind_is _ _ _ _⟩
      | succ i =>
        obtain ⟨hi, q⟩ := num_each (prog := prog) (w := w) t i v (by simpa using h)
        exact ⟨by simp; exact hi, by simpa using q⟩
section
variable {X : Cx}
/-- a list or a tuple -/
def SqA (K : PySem.W.Frag) (H : Hp) (p : Addr) (xs : List V) : Prop := SqL K H p xs ∨ SqT K H p xs
/-- sorted(set(x)) -/
def tSset (K : PySem.W.Frag) (ta : TE) : TE := fun σ H Q => ta σ H fun x H1 => ∃ p, x = .ref p ∧
  ((∃ zs : List (List Nat), SqA K H1 p ((zs.map txt).map V.str) ∧ zs.length ≤ 1000 ∧ ∀ q, H1 q = none → Q (.ref q) (upd H1 q (.lst (((sortS (met zs)).map txt).map V.str)))) ∨
    ∃ ns : List Int, SqA K H1 p (ns.map V.int) ∧ ns.length ≤ 1000 ∧ ∀ q, H1 q = none → Q (.ref q) (upd H1 q (.lst ((sortI (met ns)).map V.int))))
theorem pe_sset {a : Expr} {ta : TE} {p p2 q pos : Pos} (hc : X.calm = true) (hu : X.A.units + 65 < cLine) (hg : Gl X "sorted") (hm : X.mg "sorted" = none) (hg2 : Gl X "set") (hm2 : X.mg "set" = none) (ha : PE X a ta)
    (na : starEach [a] X.env = (false, eval a X.env) :: starEach [] X.env) : PE X (.Call (.Name "sorted" p) [.Call (.Name "set" p2) [a] [] q] [] pos) (tSset X.K ta) := by
  refine ⟨fun pins s σ H Q I h => ?_⟩
  refine Call_ (ld_blt I hg hm PyProof.Rows.boot_sorted ?_)
  refine PyProof.Rows.callWith_builtin1 (PyProof.Rows.args_cons ?_ rfl) rfl rfl
  refine Call_ (ld_blt I hg2 hm2 boot_set ?_)
  refine PyProof.Rows.callWith_type1 (PyProof.Rows.args_cons (thn (ha.run pins s σ H _ I h) fun v s1 ⟨x, H1, I1, r1, q1⟩ => PyProof.Rows.args_nil ?_) na) na rfl
  obtain ⟨pa, rfl, q1⟩ := q1
  obtain rfl : v = Value.ref pa := r1
  have hsb : 2000 ≤ scanBound := by decide
  -- the end, whatever the kind
  have fin : ∀ {K : Type} [DecidableEq K] [BEq K] [LawfulBEq K] {knd : KeyKind X.prog X.w K} (kd : Kf knd) (enc : K → PyData) (l : List K) (vk : K → V) (h' : Heap) (tk : Nat), l.length ≤ 1000 → SetA kd h' s1.heap.objs.size (met l) → (∀ b o, b < s1.heap.objs.size → s1.heap.get? b = some o → h'.get? b = some o) →
      (∀ k, (enc k).depth = 0) → (∀ (k : K) (v : Value) (hp : Heap), knd.is k v = true → Reads hp v (enc k) []) → (∀ k k', PySem.W.alike (enc k) (enc k') = true) → (∀ l : List K, PySem.W.Sortable (l.map enc)) →
      (∀ (ks2 : List K) (out : List Value) (b : Addr), ks2.Perm (met l) → PySem.W.EachIs (fun v k => knd.is k v = true) out (ks2.mergeSort (PySem.W.dataLe false enc)) → H1 b = none → ∃ ys : List V, Vals ys out ∧ Q (.ref b) (upd H1 b (.lst ys))) →
      wpAny (model X.prog X.w) X.A (PySem.call (.builtin "sorted") [.ref s1.heap.objs.size]) (EP X pins σ Q) X.xe { s1 with heap := h', toks := tk } := by
    intro K _ _ _ knd kd enc l vk h' tk hl hS hk h1 h2 h3 h4 hq
    have I2 : Inv X pins σ H1 { s1 with heap := h', toks := tk } := I1.kept fun b o e => hk b o (Heap.lt_size e) e
    have hml := len_met (l := l)
    refine sorted_setA (I2.ok.hd hc) (by omega) hS (by rw [sizeLine_eq]; omega) enc h1 h2 h3 h4 fun s' b out c ks2 k2 g2 o2 hle hat hperm he hlen => ?_
    obtain ⟨ys, hv, hQ⟩ := hq ks2 out b hperm he (I2.hok.fresh hle)
    obtain ⟨hp', gp', dp', tp', op'⟩ := s'
    dsimp only at g2 o2 hat hle k2
    have hn : H1 b = none := I2.hok.fresh hle
    have J : Inv X pins σ (upd H1 b (.lst ys)) { ({ s1 with heap := h', toks := tk } : Shared) with heap := hp', gens := gp', drawn := dp', toks := tp' } :=
      I2.call (ch := []) (Un.laid k2 hle hn) (I2.hok.laid k2 hle ⟨by rw [hv.length, hlen, sizeLine_eq]; omega, out, c, hv, hat⟩) (by subst g2; exact I2.bare) (fun _ z => nomatch z)
    subst o2
    exact ⟨.ref b, _, J, rfl, hQ⟩
  rcases q1 with ⟨zs, hsq, hz, hq⟩ | ⟨ns, hsq, hz, hq⟩
  · have hmet : met (zs.map txt) = (met zs).map txt := met_map txt (fun _ _ h => txt_inj h) zs
    have hl : (zs.map txt).length ≤ 1000 := by rw [List.length_map]; exact hz
    have go : ∀ (its : List Value), Vals ((zs.map txt).map V.str) its → its.toArray.size = (zs.map txt).length := fun its rv => by
      have := rv.length
      simpa using this.symm
    have last := fun (h' : Heap) (tk : Nat) (hS : SetA (kfS X.prog X.w) h' s1.heap.objs.size (met (zs.map txt))) hk => fin (kfS X.prog X.w) PyData.str (zs.map txt) V.str h' tk hl hS hk (fun _ => rfl) (fun k v hp hv => by
        obtain ⟨t, rfl⟩ := Value.isStrOf_shape hv
        exact .str _ t) (fun _ _ => by simp [PySem.W.alike]) (fun l => .inr fun d hd => by
        obtain ⟨p, _, rfl⟩ := List.mem_map.mp hd
        simp) fun ks2 out b hp he hn => ⟨_, by rw [merge_text (xs := met zs) (by rw [← hmet]; exact hp)] at he; exact each_text he, hq b hn⟩
    rcases hsq with hsq | hsq
    · obtain ⟨its, rv, hli, _⟩ := I1.list hsq
      exact call_setL (kfS X.prog X.w) (I1.ok.hd hc) hli.isList (go its rv) (fun i v h => text_each rv i v (by simpa using h)) (by omega) fun h' tk hS hk => PyProof.Rows.args_nil (last h' tk hS hk)
    · obtain ⟨its, rv, hli, _⟩ := I1.tuple hsq
      exact call_setT (kfS X.prog X.w) (I1.ok.hd hc) hli (go its rv) (fun i v h => text_each rv i v (by simpa using h)) (by omega) fun h' tk hS hk => PyProof.Rows.args_nil (last h' tk hS hk)
  · have go : ∀ (its : List Value), Vals (ns.map V.int) its → its.toArray.size = ns.length := fun its rv => by
      have := rv.length
      simpa using this.symm
    have last := fun (h' : Heap) (tk : Nat) (hS : SetA (kfI X.prog X.w) h' s1.heap.objs.size (met ns)) hk => fin (kfI X.prog X.w) PyData.int ns V.int h' tk hz hS hk (fun _ => rfl) (fun k v hp hv => by
        obtain ⟨t, rfl⟩ := Value.isInt_shape hv
        exact .int _ t) (fun _ _ => by simp [PySem.W.alike]) (fun l => .inr fun d hd => by
        obtain ⟨p, _, rfl⟩ := List.mem_map.mp hd
        simp) fun ks2 out b hp he hn => ⟨_, by rw [merge_num (xs := met ns) hp] at he; exact each_num he, hq b hn⟩
    rcases hsq with hsq | hsq
    · obtain ⟨its, rv, hli, _⟩ := I1.list hsq
      exact call_setL (kfI X.prog X.w) (I1.ok.hd hc) hli.isList (go its rv) (fun i v h => num_each rv i v (by simpa using h)) (by omega) fun h' tk hS hk => PyProof.Rows.args_nil (last h' tk hS hk)
    · obtain ⟨its, rv, hli, _⟩ := I1.tuple hsq
      exact call_setT (kfI X.prog X.w) (I1.ok.hd hc) hli (go its rv) (fun i v h => num_each rv i v (by simpa using h)) (by omega) fun h' tk hS hk => PyProof.Rows.args_nil (last h' tk hS hk)
/-- list(d.values()) -/
def tLvals (ta : TE) : TE := fun σ H Q => ta σ H fun x H1 => ∃ d, ∃ kvs : List (Key × V), x = .ref d ∧ Rd H1 d (.dK kvs) ∧ ∀ q, H1 q = none → Q (.ref q) (upd H1 q (.lst (kvs.map (·.2))))
theorem pe_lvals {e : Expr} {td : TE} {p apos cpos pos : Pos} (hc : X.calm = true) (hg : Gl X "list") (hm : X.mg "list" = none) (he : PE X e td) (hbase : attributeBase e "values" X.env (eval e X.env) = eval e X.env) (hline : (apos.endLine == cpos.line) = true) :
    PE X (.Call (.Name "list" p) [.Call (.Attribute e "values" apos) [] [] cpos] [] pos) (tLvals td) := by
  refine ⟨fun pins s σ H Q I h => ?_⟩
  refine Call_ (ld_blt I hg hm PyProof.Rows.boot_list ?_)
  refine PyProof.Rows.callWith_type1 (PyProof.Rows.args_cons ?_ rfl) rfl rfl
  refine wpAny_Call_method (T := "dict") (id := "dict.values") hbase rfl hline F.plainAttrs_dict F.slot_dict_values F.type_dict_values (thn (he.run pins s σ H _ I h) fun u s1 ⟨x, H1, I1, rx, d, kvs, ex, hd, q⟩ => ?_)
  subst ex
  obtain rfl : u = Value.ref d := rx
  obtain ⟨z, lo, vs, rel, dd⟩ := dk_rd I1.hok hd
  obtain ⟨ep, hat⟩ := dd.dictAt
  refine ⟨hat.dictOf.typeIs, hat.dictOf.mapOf.noDict, ?_⟩
  refine method_meetsIn F.slot_dict_values F.entry_dict_values rfl (PySem.evalArgs_none ⟨rfl, hat.dictOf.typeIs, F.args_dict_values_1 _, _, meets_dict_values (mixKind X.prog X.w) d lo, ⟨vs, hat.dictOf⟩, ?_⟩)
  refine PyProof.Rows.args_nil ?_
  have I2 : Inv X pins σ H1 { s1 with heap := s1.heap.push { cls := .type "dict_values", data := .fields #[.ref d] } } := I1.kept (t' := s1.toks) fun b ob q => Heap.get?_push_of_some _ q
  refine PySem.W.kdl_call (PySem.W.kdl_values (knd := mixKind X.prog X.w) (kvs := vs) (ep := ep)) (I2.ok.hd hc) ⟨⟨_, Heap.get?_push_size _ rfl, rfl, rfl⟩, hat.push _⟩ (by rw [← rel.length]; exact z) fun h' tk acc c' hk hD hacc => ?_
  have hv : acc.toList = vs.map (·.2) := PySem.W.kdl_vals_eq acc.toList (by rw [Array.length_toList]; exact hacc.1) fun j v e => hacc.2 j v (by rw [← Array.getElem?_toList]; exact e)
  have hvv : Vals (kvs.map (·.2)) acc.toList := by
    rw [hv]
    clear hv hacc hat dd z hd q
    induction rel with
    | nil => exact .nil
    | cons r t ih => exact .cons r.2 ih
  refine ⟨.ref _, upd H1 _ (.lst (kvs.map (·.2))), I2.laid (t' := tk) hk (Nat.le_refl _) ⟨by rw [List.length_map]; exact z, acc.toList, c', hvv, by rw [Array.toArray_toList]; exact hD⟩, rfl, q _ (I2.hok.fresh (Nat.le_refl _))⟩
end
end PyI
namespace PyI
open PySem PySem.Spec PyProof.Rows L2

abbrev zsO (x : Str) (t : Tok) : Obj := { cls := .type (strIterType x), data := .fields #[.str x t, .int 0 0] }
abbrev zsH1 (h : Heap) (x : Str) (t : Tok) : Heap := h.push (zsO x t)
abbrev zsH2 (h : Heap) (x y : Str) (t u : Tok) : Heap := (zsH1 h x t).push (zsO y u)
abbrev zsH3 (h : Heap) (x y : Str) (t u : Tok) : Heap := (zsH2 h x y t u).push { cls := .type "tuple", data := .seq #[.ref h.objs.size, .ref (zsH1 h x t).objs.size] }
abbrev zsH4 (h : Heap) (x y : Str) (t u : Tok) : Heap := (zsH3 h x y t u).push { cls := .type "tuple", data := .seq #[.none, .none] }
abbrev zsH5 (h : Heap) (x y : Str) (t u : Tok) : Heap := (zsH4 h x y t u).push { cls := .type "zip", data := .fields #[.none, .bool false, .bool false, .ref (zsH2 h x y t u).objs.size, .ref (zsH3 h x y t u).objs.size] }
theorem meets_zipS_new (x y : Str) (t u : Tok) :
    Meets (Builtin.«zip.__new__» ⟨[.type "zip", .str x t, .str y u], []⟩) (fun _ R s => R (.ok (.ret (.ref (zsH4 s.heap x y t u).objs.size))) { s with heap := zsH5 s.heap x y t u }) :=
  .of_wp fun prog w A R s h => by
    obtain ⟨hp, g, d, tk, os⟩ := s
    have hsub := sub_zip
    wp_walk using wpAny_pyIter_strU, wpAny_pyIter_strU
    exact ⟨_, rfl, h⟩
theorem Draws.strU {prog : Program} {w : World} {A : Around} (hh : A.handled = none) (it : Addr) (x : Str) (t : Tok) :
    Draws prog w A it [it] x.cps.size (fun i v => ∃ c u, x.cps[i]? = some c ∧ v = .str ⟨#[c]⟩ u) (fun i h => h.IsStrIter it (strIterType x) x t i) := by
  cases ha : x.cps.all (· < 128)
  · have e : strIterType x = "str_iterator" := by simp [strIterType, ha]
    rw [e]; exact Draws.strWide hh it x t
  · have e : strIterType x = "str_ascii_iterator" := by simp [strIterType, ha]
    rw [e]; exact Draws.strAscii hh it x t
section
variable {prog : Program} {w : World} {A : Around} {E : Value → Shared → Prop} {s : Shared}
theorem call_zipS {x y : Str} {t u : Tok} {Q : Value → Shared → Prop}
    (h : ∀ h', IsZip h' (s.heap.objs.size + 4) (s.heap.objs.size + 2) (s.heap.objs.size + 3) .none → IsPair h' (s.heap.objs.size + 2) (.ref s.heap.objs.size) (.ref (s.heap.objs.size + 1)) →
      IsPair h' (s.heap.objs.size + 3) .none .none → h'.IsStrIter s.heap.objs.size (strIterType x) x t 0 → h'.IsStrIter (s.heap.objs.size + 1) (strIterType y) y u 0 → h'.objs.size = s.heap.objs.size + 5 →
      (∀ c o, s.heap.get? c = some o → h'.get? c = some o) → Q (.ref (s.heap.objs.size + 4)) { s with heap := h' }) :
    wpAny (model prog w) A (call (.type "zip") [.str x t, .str y u]) Q E s := by
  refine callType_new F.called_zip (by decide) (F.typeCall_zip_2 _ _) (F.newCall_zip_2 _ _) (fun obj => F.args_object_init_3 obj _ _) F.entry_zip_new
    (meets_zipS_new x y t u) ?_
  have z1 : (zsH1 s.heap x t).objs.size = s.heap.objs.size + 1 := Heap.size_push ..
  have z2 : (zsH2 s.heap x y t u).objs.size = s.heap.objs.size + 2 := by rw [Heap.size_push, z1]
  have z3 : (zsH3 s.heap x y t u).objs.size = s.heap.objs.size + 3 := by rw [Heap.size_push, z2]
  have z4 : (zsH4 s.heap x y t u).objs.size = s.heap.objs.size + 4 := by rw [Heap.size_push, z3]
  have z5 : (zsH5 s.heap x y t u).objs.size = s.heap.objs.size + 5 := by rw [Heap.size_push, z4]
  have g5 : (zsH5 s.heap x y t u).get? (zsH4 s.heap x y t u).objs.size = some _ := Heap.get?_push_size _ rfl
  have g4 : (zsH5 s.heap x y t u).get? (zsH3 s.heap x y t u).objs.size = some _ := Heap.get?_push_of_some _ (Heap.get?_push_size _ rfl)
  have g3 : (zsH5 s.heap x y t u).get? (zsH2 s.heap x y t u).objs.size = some _ := Heap.get?_push_of_some _ (Heap.get?_push_of_some _ (Heap.get?_push_size _ rfl))
  have g2 : (zsH5 s.heap x y t u).get? (zsH1 s.heap x t).objs.size = some _ := Heap.get?_push_of_some _ (Heap.get?_push_of_some _ (Heap.get?_push_of_some _ (Heap.get?_push_size _ rfl)))
  have g1 : (zsH5 s.heap x y t u).get? s.heap.objs.size = some _ := Heap.get?_push_of_some _ (Heap.get?_push_of_some _ (Heap.get?_push_of_some _ (Heap.get?_push_of_some _ (Heap.get?_push_size _ rfl))))
  show _ ∧ _
  rw [z2, z3, z4] at g5
  rw [z1, z2] at g3
  rw [z3] at g4
  rw [z1] at g2
  rw [z4]
  exact ⟨⟨_, g5, rfl⟩, h _ g5 g3 g4 ⟨_, g1, rfl, rfl⟩ ⟨_, g2, rfl, rfl⟩ z5 fun c o q =>
    Heap.get?_push_of_some _ (Heap.get?_push_of_some _ (Heap.get?_push_of_some _ (Heap.get?_push_of_some _ (Heap.get?_push_of_some _ q))))⟩
end
/-- the signs of two texts, side by side -/
def ItzS (x y : Str) : It :=
  ⟨fun i _ => i < min x.cps.size y.cps.size,
    fun i H v H' => ∃ T c d, v = .ref T ∧ H T = none ∧ H' = upd H T (.tup [.str ⟨#[c]⟩, .str ⟨#[d]⟩]) ∧ x.cps[i]? = some c ∧ y.cps[i]? = some d,
    fun i _ => i = min x.cps.size y.cps.size⟩
theorem neA {a b : Nat} (h : a ≠ b) : (a : Addr) ≠ (b : Addr) := h
theorem zs_sep (n : Nat) : ZipSep2 (n + 4) (n + 2) (n + 3) n (n + 1) [n] [n + 1] := by
  constructor <;> simp
theorem turn_zipS {P : Program} {w : World} {K : PySem.W.Frag} {elts : List Expr} {kk : Nat} {tpos : Pos} {n : Nat} (x y : Str) (t u : Tok) :
    Turn P w K (.Tuple elts kk tpos) (ItzS x y) [n + 4, n + 2, n + 3, n, n + 1] (n + 4) (fun i h => i ≤ min x.cps.size y.cps.size ∧ IsZip h (n + 4) (n + 2) (n + 3) .none ∧ IsPair h (n + 2) (.ref n) (.ref (n + 1)) ∧ (∃ a b, IsPair h (n + 3) a b) ∧ h.IsStrIter n (strIterType x) x t i ∧ h.IsStrIter (n + 1) (strIterType y) y u i) where
  mem := by simp
  obj := fun i h st c hc => by
    obtain ⟨_, hz, hTI, ⟨a, b, hTO⟩, ⟨o1, e1, _, d1⟩, ⟨o2, e2, _, d2⟩⟩ := st
    have e' : c = n + 4 ∨ c = n + 2 ∨ c = n + 3 ∨ c = n ∨ c = n + 1 := by simpa using hc
    rcases e' with q | q | q | q | q
    · rw [q]; exact ⟨_, hz, fun v q => nomatch q⟩
    · rw [q]; exact ⟨_, hTI, fun v q => nomatch q⟩
    · rw [q]; exact ⟨_, hTO, fun v q => nomatch q⟩
    · rw [q]; exact ⟨o1, e1, fun v q => by rw [d1] at q; cases q⟩
    · rw [q]; exact ⟨o2, e2, fun v q => by rw [d2] at q; cases q⟩
  keep := fun i h h' st k => by
    obtain ⟨hi, hz, hTI, ⟨a, b, hTO⟩, ⟨o1, e1, r1⟩, ⟨o2, e2, r2⟩⟩ := st
    exact ⟨hi, k _ (by simp) _ hz, k _ (by simp) _ hTI, ⟨a, b, k _ (by simp) _ hTO⟩, ⟨o1, k _ (by simp) _ e1, r1⟩, ⟨o2, k _ (by simp) _ e2, r2⟩⟩
  item := by
    intro X hP hw hK hc i pins s σ H E I hf st hg
    subst hP hw hK
    obtain ⟨hi, hz, hTI, ⟨a, b, hTO⟩, h1, h2⟩ := st
    have hg' : i < min x.cps.size y.cps.size := hg
    have hzl : n + 4 < s.heap.objs.size := Heap.lt_size hz
    have hA : X.A.in1.handled = none := I.ok.hd hc
    refine wpAny_pyNext_zipD2_item (zs_sep n) (Draws.strU hA n x t) (Draws.strU hA (n + 1) y u) hz hTI hTO h1 h2 (by omega) (by omega) fun v1 v2 h' tk ⟨c, tc, hcx, e1⟩ ⟨d, td, hdy, e2⟩ z' TO' h1' h2' hT hsz hk => ?_
    subst e1
    subst e2
    refine ⟨_, rfl, wpAny_letOwnedTupleGo_zip (s := { s with heap := h', toks := tk }) z' fun h'' z'' sb => ?_⟩
    have hT2 : h''.get? s.heap.objs.size = some { cls := .type "tuple", data := .seq #[.str ⟨#[c]⟩ tc, .str ⟨#[d]⟩ td] } := (sb.2 _ (Nat.ne_of_gt hzl)).trans hT
    have new : ObjOk X.prog X.w (upd H s.heap.objs.size (.tup [.str ⟨#[c]⟩, .str ⟨#[d]⟩])) h'' s.heap.objs.size (.tup [.str ⟨#[c]⟩, .str ⟨#[d]⟩]) :=
      ⟨by show 2 ≤ sizeLine; decide, [.str ⟨#[c]⟩ tc, .str ⟨#[d]⟩ td], .cons ⟨_, rfl⟩ (.cons ⟨_, rfl⟩ .nil), ⟨_, hT2, rfl, _, rfl⟩⟩
    have I1 : L2.Inv X pins σ (upd H s.heap.objs.size (.tup [.str ⟨#[c]⟩, .str ⟨#[d]⟩])) { s with heap := h'', toks := tk } :=
      I.turnedNew (t' := tk) (ch := [n + 4, n + 2, n + 3, n, n + 1]) (fun c o hb q => (sb.2 c (fun q' => hb (by simp [q']))).trans (hk c o (fun q' => hb (by simp [q'])) (fun q' => hb (by simp [q'])) (fun q' => hb (by simp [q'])) (fun q' => hb (by simp [q'])) q)) hf (Nat.le_refl _) new
    refine ⟨.ref s.heap.objs.size, _, I1, rfl, ⟨_, c, d, rfl, I.hok.fresh (Nat.le_refl _), rfl, hcx, hdy⟩, ⟨by omega, z'', ?_, ⟨.str ⟨#[c]⟩ tc, .str ⟨#[d]⟩ td, ?_⟩, ?_, ?_⟩, fun c hcm => ?_⟩
    · exact (sb.2 (n + 2) (neA (by omega))).trans (hk (n + 2) _ (neA (by omega)) (neA (by omega)) (neA (by omega)) (neA (by omega)) hTI)
    · exact (sb.2 (n + 3) (neA (by omega))).trans TO'
    · obtain ⟨o1, q1, r1⟩ := h1'
      exact ⟨o1, (sb.2 n (neA (by omega))).trans q1, r1⟩
    · obtain ⟨o2, q2, r2⟩ := h2'
      exact ⟨o2, (sb.2 (n + 1) (neA (by omega))).trans q2, r2⟩
    · have hlt : c < s.heap.objs.size := by
        have e' : c = n + 4 ∨ c = n + 2 ∨ c = n + 3 ∨ c = n ∨ c = n + 1 := by simpa using hcm
        have hz2 : n + 4 < s.heap.objs.size := hzl
        generalize s.heap.objs.size = k at hz2
        have key : ∀ c n k : Nat, n + 4 < k → (c = n + 4 ∨ c = n + 2 ∨ c = n + 3 ∨ c = n ∨ c = n + 1) → c < k := by omega
        exact key c n k hz2 e'
      rw [upd_ne (Nat.ne_of_lt hlt)]
      exact (hf c hcm).1
  done := by
    intro X hP hw hK hc i pins s σ H E I hf st hg
    subst hP hw hK
    obtain ⟨hi, hz, hTI, ⟨a, b, hTO⟩, h1, h2⟩ := st
    have hg' : i = min x.cps.size y.cps.size := hg
    have hA : X.A.in1.handled = none := I.ok.hd hc
    exact wpAny_pyNext_zipD2_end (zs_sep n) (Draws.strU hA n x t) (Draws.strU hA (n + 1) y u) hz hTI hTO h1 h2 (by omega) (by omega) (by omega) fun h' tk hk => ⟨rfl, I.turnedL (t' := tk) (ch := [n + 4, n + 2, n + 3, n, n + 1]) (fun c o hb q =>
      hk c o (fun q' => hb (by simp [q'])) (fun q' => hb (by simp [q'])) (fun q' => hb (by simp [q'])) (fun q' => hb (by simp [q'])) q) hf⟩
  self := fun A i s Q E st h => wpAny_pyIter_zip st.2.1 h
def iZipS (ta : TA) : TI := fun σ H R => ta σ H fun vs H1 => ∃ x y, vs = [.str x, .str y] ∧ R (ItzS x y) H1
theorem pi_zipS {X : Cx} {e e2 : Expr} {ta : TA} {p pos tpos : Pos} {elts : List Expr} {kk : Nat} (hg : Gl X "zip") (hm : X.mg "zip" = none) (ha : PA X [e, e2] ta)
    (hs : starEach [e, e2] X.env = (false, eval e X.env) :: starEach [e2] X.env) (hpl : (backTo pos (starEach [e2] X.env)).any (·.1) = false) :
    PI X (.Tuple elts kk tpos) (.Call (.Name "zip" p) [e, e2] [] pos) (iZipS ta) := by
  refine ⟨fun pins s σ H R I h => ?_⟩
  refine Call_ (ld_blt I hg hm PyProof.Rows.boot_zip (PyProof.Rows.callWith_type1 (thn (ha.run pos pins s σ H _ I h) fun us s1 ⟨vs, H1, I1, r1, q1⟩ => ?_) hs hpl))
  obtain ⟨x, y, ex, q⟩ := q1
  subst ex
  cases r1 with
  | cons r rr =>
    cases rr with
    | cons r' rr =>
      cases rr
      obtain ⟨t, rfl⟩ := r
      obtain ⟨u, rfl⟩ := r'
      have fresh5 : ∀ c, c ∈ [s1.heap.objs.size + 4, s1.heap.objs.size + 2, s1.heap.objs.size + 3, s1.heap.objs.size, s1.heap.objs.size + 1] → FpOk X pins H1 c := fun c hcm => by
        have e' : c = s1.heap.objs.size + 4 ∨ c = s1.heap.objs.size + 2 ∨ c = s1.heap.objs.size + 3 ∨ c = s1.heap.objs.size ∨ c = s1.heap.objs.size + 1 := by simpa using hcm
        have hle : s1.heap.objs.size ≤ c := by omega
        exact I1.fpOk hle (I1.hok.fresh hle)
      refine call_zipS fun h' hz hTI hTO h1 h2 hsz hk => wpAny_pyIter_zip hz ?_
      have I2 : L2.Inv X pins σ H1 { s1 with heap := h' } := I1.kept (t' := s1.toks) hk
      exact ⟨s1.heap.objs.size + 4, [s1.heap.objs.size + 4, s1.heap.objs.size + 2, s1.heap.objs.size + 3, s1.heap.objs.size, s1.heap.objs.size + 1], _, _, H1, rfl, I2, turn_zipS x y t u, ⟨Nat.zero_le _, hz, hTI, ⟨_, _, hTO⟩, h1, h2⟩, fresh5, q⟩
end PyI
namespace PyI
open PySem L2 PySem.Spec PyProof.Rows
section
variable {prog : Program} {w : World} {A : Around} {E : Value → Shared → Prop} {s : Shared} {z TI TO i1 i2 T : Addr} {f : Bool} {oT : Obj} {fp1 fp2 : List Addr} {n1 n2 i : Nat} {P1 P2 : Nat → Value → Prop} {St1 St2 : Nat → Heap → Prop} {a1 a2 : Value}
theorem zipDH_next_item {Q : Value → Shared → Prop} (S : ZipSep2 z TI TO i1 i2 fp1 fp2) (D1 : Draws prog w A i1 fp1 n1 P1 St1) (D2 : Draws prog w A i2 fp2 n2 P2 St2)
    (hz : IsZipHeld s.heap z TI TO T f) (hT : s.heap.get? T = some oT) (hTI : IsTupOf2 s.heap TI (.ref i1) (.ref i2)) (st1 : St1 i s.heap) (st2 : St2 i s.heap) (hlt1 : i < n1) (hlt2 : i < n2)
    (hQ : ∀ x1 x2 h' tk, P1 i x1 → P2 i x2 → IsZipHeld h' z TI TO T true → St1 (i + 1) h' → St2 (i + 1) h' → IsTupOf2 h' s.heap.objs.size x1 x2 → h'.objs.size = s.heap.objs.size + 1 →
      (∀ c o, c ≠ z → c ≠ i1 → c ≠ i2 → s.heap.get? c = some o → h'.get? c = some o) → Q (.ref s.heap.objs.size) { s with heap := h', toks := tk }) :
    wpAny (model prog w) A (Builtin.«zip.__next__» ⟨[.ref z], []⟩) (fun fin s' => ∃ v, fin = .done (.ret v) ∧ Q v s') E s := by
  obtain ⟨hp, g, d, tk0, os⟩ := s
  show wpAny _ _ (field (.ref z) 2 >>= _) _ _ _
  refine wpAny_bind (wpAny_field hz rfl (x := .bool false) rfl ?_)
  show wpAny _ _ (field (.ref z) 3 >>= _) _ _ _
  refine wpAny_bind (wpAny_field hz rfl (x := .ref TI) rfl ?_)
  refine wpAny_bind (wpAny_seqItems hTI rfl ?_)
  show wpAny _ _ (Builtin.SmallTypes.ownedTupleIsFree (.ref z) >>= _) _ _ _
  refine wpAny_bind (wpAny_tupleHeld_zip hz hT fun g0 hz0 hs0 => ?_)
  replace hs0 : Heap.SameBut z hp g0 := hs0
  simp only [Bool.false_eq_true, if_false]
  refine wpAny_bind ?_
  rw [← Array.forIn_toList]
  simp only [List.forIn_cons, List.forIn_nil]
  refine wpAny_bind (wpAny_bind (wpAny_holding ?_))
  show wpAny _ _ (Builtin.SmallTypes.nextOf (.ref i1) >>= _) _ _ ⟨g0, g, d, tk0, os⟩
  refine wpAny_bind (D1.item i _ _ _ hlt1 (D1.over st1 hs0 S.zf1) fun x1 p1 tk1 hx1 sn1 hp1 => wpAny_pure ?_)
  replace hp1 : Heap.SameBut i1 g0 p1 := hp1
  refine wpAny_pure ?_
  refine wpAny_bind (wpAny_bind (wpAny_holding ?_))
  show wpAny _ _ (Builtin.SmallTypes.nextOf (.ref i2) >>= _) _ _ ⟨p1, g, d, tk1, os⟩
  refine wpAny_bind (D2.item i _ _ _ hlt2 (D2.over (D2.over st2 hs0 S.zf2) hp1 S.sep1_2) fun x2 p2 tk2 hx2 sn2 hp2 => wpAny_pure ?_)
  replace hp2 : Heap.SameBut i2 p1 p2 := hp2
  refine wpAny_pure (wpAny_pure ?_)
  show wpAny _ _ (newTuple [x1, x2] >>= _) _ _ _
  refine wpAny_bind (wpAny_newTuple ?_)
  have hsz : p2.objs.size = hp.objs.size := by rw [hp2.1, hp1.1, hs0.1]
  have hz3 : IsZipHeld p2 z TI TO T true := hp2.extBut _ _ S.zi2 (hp1.extBut _ _ S.zi1 hz0)
  have hk : ∀ c o, c ≠ z → c ≠ i1 → c ≠ i2 → hp.get? c = some o → p2.get? c = some o := fun c o c1 c2 c3 e => hp2.extBut _ _ c3 (hp1.extBut _ _ c2 (hs0.extBut _ _ c1 e))
  have hj1 : St1 (i + 1) p2 := D1.over sn1 hp2 S.sep2_1
  refine wpAny_pure ⟨_, rfl, ?_⟩
  show Q (.ref p2.objs.size) _
  have hq : IsTupOf2 (p2.push { cls := .type "tuple", data := .seq #[x1, x2] }) p2.objs.size x1 x2 := Heap.get?_push_size _ rfl
  have hz4 : (p2.push { cls := .type "tuple", data := .seq #[x1, x2] }).objs.size = p2.objs.size + 1 := Heap.size_push ..
  rw [hsz] at hq hz4 ⊢
  exact hQ x1 x2 _ tk2 hx1 hx2 (Heap.get?_push_of_some _ hz3) (D1.frame _ _ _ hj1 fun b hb o e => Heap.get?_push_of_some _ e) (D2.frame _ _ _ sn2 fun b hb o e => Heap.get?_push_of_some _ e) hq hz4 fun c o c1 c2 c3 e => Heap.get?_push_of_some _ (hk c o c1 c2 c3 e)
theorem zipDH_next_end {Q : Fin → Shared → Prop} (S : ZipSep2 z TI TO i1 i2 fp1 fp2) (D1 : Draws prog w A i1 fp1 n1 P1 St1) (D2 : Draws prog w A i2 fp2 n2 P2 St2)
    (hz : IsZipHeld s.heap z TI TO T f) (hT : s.heap.get? T = some oT) (hTI : IsTupOf2 s.heap TI (.ref i1) (.ref i2)) (st1 : St1 i s.heap) (st2 : St2 i s.heap) (hle1 : i ≤ n1) (hle2 : i ≤ n2) (hend : i = n1 ∨ i = n2)
    (hE : ∀ h' tk e, (∀ c o, c ≠ z → c ≠ i1 → c ≠ i2 → s.heap.get? c = some o → h'.get? c = some o) → (∃ o, h'.get? e = some o ∧ o.cls = .type "StopIteration") → E (.ref e) { s with heap := h', toks := tk }) :
    wpAny (model prog w) A (Builtin.«zip.__next__» ⟨[.ref z], []⟩) Q E s := by
  obtain ⟨hp, g, d, tk0, os⟩ := s
  show wpAny _ _ (field (.ref z) 2 >>= _) _ _ _
  refine wpAny_bind (wpAny_field hz rfl (x := .bool false) rfl ?_)
  show wpAny _ _ (field (.ref z) 3 >>= _) _ _ _
  refine wpAny_bind (wpAny_field hz rfl (x := .ref TI) rfl ?_)
  refine wpAny_bind (wpAny_seqItems hTI rfl ?_)
  show wpAny _ _ (Builtin.SmallTypes.ownedTupleIsFree (.ref z) >>= _) _ _ _
  refine wpAny_bind (wpAny_tupleHeld_zip hz hT fun g0 hz0 hs0 => ?_)
  replace hs0 : Heap.SameBut z hp g0 := hs0
  simp only [Bool.false_eq_true, if_false]
  refine wpAny_bind ?_
  rw [← Array.forIn_toList]
  simp only [List.forIn_cons, List.forIn_nil]
  refine wpAny_bind (wpAny_bind (wpAny_holding ?_))
  show wpAny _ _ (Builtin.SmallTypes.nextOf (.ref i1) >>= _) _ _ ⟨g0, g, d, tk0, os⟩
  by_cases h1 : i = n1
  · subst h1
    refine wpAny_bind (D1.done _ _ _ (D1.over st1 hs0 S.zf1) fun h2 e hs2 he => ?_)
    exact hE h2 tk0 e (fun c o c1 c2 _ x => hs2 _ _ c2 (hs0.extBut _ _ c1 x)) he
  · have h2 : i = n2 := hend.resolve_left h1
    refine wpAny_bind (D1.item i _ _ _ (Nat.lt_of_le_of_ne hle1 h1) (D1.over st1 hs0 S.zf1) fun x1 p1 tk1 hx1 sn1 hp1 => wpAny_pure ?_)
    replace hp1 : Heap.SameBut i1 g0 p1 := hp1
    refine wpAny_pure ?_
    refine wpAny_bind (wpAny_bind (wpAny_holding ?_))
    show wpAny _ _ (Builtin.SmallTypes.nextOf (.ref i2) >>= _) _ _ ⟨p1, g, d, tk1, os⟩
    subst h2
    refine wpAny_bind (D2.done _ _ _ (D2.over (D2.over st2 hs0 S.zf2) hp1 S.sep1_2) fun h3 e hs3 he => ?_)
    exact hE h3 tk1 e (fun c o c1 c2 c3 x => hs3 _ _ c3 (hp1.extBut _ _ c2 (hs0.extBut _ _ c1 x))) he
theorem pyNext_zipDH_item {Q : Option Value → Shared → Prop} (S : ZipSep2 z TI TO i1 i2 fp1 fp2) (D1 : Draws prog w A.in1 i1 fp1 n1 P1 St1) (D2 : Draws prog w A.in1 i2 fp2 n2 P2 St2)
    (hz : IsZipHeld s.heap z TI TO T f) (hT : s.heap.get? T = some oT) (hTI : IsTupOf2 s.heap TI (.ref i1) (.ref i2)) (st1 : St1 i s.heap) (st2 : St2 i s.heap) (hlt1 : i < n1) (hlt2 : i < n2)
    (hQ : ∀ x1 x2 h' tk, P1 i x1 → P2 i x2 → IsZipHeld h' z TI TO T true → St1 (i + 1) h' → St2 (i + 1) h' → IsTupOf2 h' s.heap.objs.size x1 x2 → h'.objs.size = s.heap.objs.size + 1 →
      (∀ c o, c ≠ z → c ≠ i1 → c ≠ i2 → s.heap.get? c = some o → h'.get? c = some o) → Q (some (.ref s.heap.objs.size)) { s with heap := h', toks := tk }) :
    wpAny (model prog w) A (pyNext (.ref z)) Q E s := by
  have hTy : s.TypeIs (.ref z) "zip" := ⟨_, hz, rfl⟩
  unfold pyNext
  exact wpAny_bind (wpAny_attempt (wpAny_callSpecial?_slot (name := Str.ofString "__next__") hTy F.slot_zip_next
    (wpAny_call_entry F.slot_zip_next hTy F.entry_zip_next
      (zipDH_next_item S D1 D2 hz hT hTI st1 st2 hlt1 hlt2 fun x1 x2 h' tk a1 a2 a3 a4 a5 a6 a7 a8 => wpAny_pure (hQ x1 x2 h' tk a1 a2 a3 a4 a5 a6 a7 a8)) (F.args_zip_next_1 _))))
theorem pyNext_zipDH_end {Q : Option Value → Shared → Prop} (S : ZipSep2 z TI TO i1 i2 fp1 fp2) (D1 : Draws prog w A.in1 i1 fp1 n1 P1 St1) (D2 : Draws prog w A.in1 i2 fp2 n2 P2 St2)
    (hz : IsZipHeld s.heap z TI TO T f) (hT : s.heap.get? T = some oT) (hTI : IsTupOf2 s.heap TI (.ref i1) (.ref i2)) (st1 : St1 i s.heap) (st2 : St2 i s.heap) (hle1 : i ≤ n1) (hle2 : i ≤ n2) (hend : i = n1 ∨ i = n2)
    (hQ : ∀ h' tk, (∀ c o, c ≠ z → c ≠ i1 → c ≠ i2 → s.heap.get? c = some o → h'.get? c = some o) → Q none { s with heap := h', toks := tk }) :
    wpAny (model prog w) A (pyNext (.ref z)) Q E s := by
  have hTy : s.TypeIs (.ref z) "zip" := ⟨_, hz, rfl⟩
  unfold pyNext
  refine wpAny_bind (wpAny_attempt (wpAny_callSpecial?_slot (name := Str.ofString "__next__") hTy F.slot_zip_next
    (wpAny_call_entry F.slot_zip_next hTy F.entry_zip_next (zipDH_next_end S D1 D2 hz hT hTI st1 st2 hle1 hle2 hend fun h' tk e hk he => ?_) (F.args_zip_next_1 _))))
  obtain ⟨o, ho, hc⟩ := he
  refine wpAny_bind (wpAny_isInstance (T := "StopIteration") (b := true) ⟨o, ho, hc⟩ isSubtype_stop ?_)
  exact wpAny_pure (hQ _ _ hk)
end
section
variable {prog : Program} {w : World}
/-- the pairs of two texts -/
abbrev RelZ (x y : Str) (i : Nat) (k v : Value) : Prop := ∃ c tc d td, x.cps[i]? = some c ∧ k = .str ⟨#[c]⟩ tc ∧ y.cps[i]? = some d ∧ v = .str ⟨#[d]⟩ td
theorem ne5 {a b n : Nat} (h : a < b) : n + a ≠ n + b := by omega
theorem PairArg_zipS (n : Addr) (x y : Str) (t u : Tok) :
    PairArg prog w "zip" (n + 4) [n + 4, n + 2, n + 3, n, n + 1] [n + 4, n + 3, n, n + 1] (min x.cps.size y.cps.size) (RelZ x y)
      (fun h => IsZip h (n + 4) (n + 2) (n + 3) .none ∧ IsPair h (n + 2) (.ref n) (.ref (n + 1)) ∧ (∃ a b, IsPair h (n + 3) a b) ∧ h.IsStrIter n (strIterType x) x t 0 ∧ h.IsStrIter (n + 1) (strIterType y) y u 0) where
  type := fun s ok => ⟨_, ok.1, rfl⟩
  notDict := by decide
  keep := fun h h' ok hk => by
    obtain ⟨hz, hTI, ⟨a, b, hTO⟩, ⟨o1, e1, r1⟩, ⟨o2, e2, r2⟩⟩ := ok
    exact ⟨hk _ _ hz, hk _ _ hTI, ⟨a, b, hk _ _ hTO⟩, ⟨o1, hk _ _ e1, r1⟩, ⟨o2, hk _ _ e2, r2⟩⟩
  there := fun h ok b hb => by
    obtain ⟨hz, hTI, ⟨a, c, hTO⟩, ⟨o1, e1, r1⟩, ⟨o2, e2, r2⟩⟩ := ok
    simp only [List.mem_cons, List.not_mem_nil, or_false] at hb
    rcases hb with rfl | rfl | rfl | rfl | rfl
    · exact ⟨_, hz⟩
    · exact ⟨_, hTI⟩
    · exact ⟨_, hTO⟩
    · exact ⟨_, e1⟩
    · exact ⟨_, e2⟩
  sub := fun b hb => by
    simp only [List.mem_cons, List.not_mem_nil, or_false] at hb ⊢
    rcases hb with q | q | q | q <;> simp [q]
  noKeys := fun A s Q E hA ok h => getAttrOr_miss_zip ok.1 rfl rfl rfl zip_no_keys (by decide +kernel) hA h
  iter := fun A s d Q E hA ok hd hdf h => by
    obtain ⟨hz, hTI, ⟨a, b, hTO⟩, h1, h2⟩ := ok
    simp only [List.mem_cons, List.not_mem_nil, or_false, not_or] at hdf
    obtain ⟨dz, dTI, dTO, di1, di2⟩ := hdf
    refine wpAny_pyIter_zip hz (h (n + 4) [n + 4, n + 3, n, n + 1] (fun i h => IsPair h (n + 2) (.ref n) (.ref (n + 1)) ∧ h.IsStrIter n (strIterType x) x t i ∧ h.IsStrIter (n + 1) (strIterType y) y u i ∧
      ((IsZip h (n + 4) (n + 2) (n + 3) .none ∧ ∃ a b, IsPair h (n + 3) a b) ∨ ∃ T f oT, IsZipHeld h (n + 4) (n + 2) (n + 3) T f ∧ h.get? T = some oT ∧ T ≠ n + 4 ∧ T ≠ n ∧ T ≠ n + 1 ∧ T ≠ d)) s.heap s.toks ?_
      ⟨hTI, h1, h2, .inl ⟨hz, a, b, hTO⟩⟩ (fun _ _ e => e) fun b hb => .inl hb)
    have hA1 : A.in1.handled = none := hA
    exact {
      off := fun hm => by
        simp only [List.mem_cons, List.not_mem_nil, or_false] at hm
        rcases hm with e | e | e | e
        · exact dz e
        · exact dTO e
        · exact di1 e
        · exact di2 e
      frame := fun i h₁ h₂ st hk => by
        obtain ⟨hTI, ⟨o1, e1, r1⟩, ⟨o2, e2, r2⟩, hz⟩ := st
        refine ⟨hk _ _ (Ne.symm dTI) hTI, ⟨o1, hk _ _ (Ne.symm di1) e1, r1⟩, ⟨o2, hk _ _ (Ne.symm di2) e2, r2⟩, ?_⟩
        rcases hz with ⟨hz, a, b, hTO⟩ | ⟨T, f, oT, hz, hT, r1, r2, r3, r4⟩
        · exact .inl ⟨hk _ _ (Ne.symm dz) hz, a, b, hk _ _ (Ne.symm dTO) hTO⟩
        · exact .inr ⟨T, f, oT, hk _ _ (Ne.symm dz) hz, hk _ _ r4 hT, r1, r2, r3, r4⟩
      item := fun i s₁ Q₁ E₁ hi st hds hQ => by
        obtain ⟨hTI, h1, h2, hz⟩ := st
        have lt : ∀ {c o}, s₁.heap.get? c = some o → s₁.heap.objs.size ≠ c := fun e => Nat.ne_of_gt (Heap.lt_size e)
        have n1 : s₁.heap.objs.size ≠ n := let ⟨_, e, _⟩ := h1; lt e
        have n2 : s₁.heap.objs.size ≠ n + 1 := let ⟨_, e, _⟩ := h2; lt e
        have hix : i < x.cps.size := Nat.lt_of_lt_of_le hi (Nat.min_le_left ..)
        have hiy : i < y.cps.size := Nat.lt_of_lt_of_le hi (Nat.min_le_right ..)
        rcases hz with ⟨hz, a, b, hTO⟩ | ⟨T, f, oT, hz, hT, r1, r2, r3, r4⟩
        · refine wpAny_pyNext_zipD2_item (zs_sep n) (Draws.strU hA1 n x t) (Draws.strU hA1 (n + 1) y u) hz hTI hTO h1 h2 hix hiy fun v1 v2 h' tk ⟨c, tc, hcx, e1⟩ ⟨d', td, hdy, e2⟩ z' TO' h1' h2' hT hsz hk => ?_
          exact hQ s₁.heap.objs.size v1 v2 h' tk ⟨c, tc, d', td, hcx, e1, hdy, e2⟩ (.inl ⟨_, hT, rfl, _, rfl⟩)
            ⟨hk _ _ (ne5 (by decide)) (ne5 (by decide)) (by simp) (by simp) hTI, h1', h2', .inr ⟨s₁.heap.objs.size, false, _, z', hT, lt hz, n1, n2, Nat.ne_of_gt hds⟩⟩
            fun c o hc e => hk c o (fun x => hc (by simp [x])) (fun x => hc (by simp [x])) (fun x => hc (by simp [x])) (fun x => hc (by simp [x])) e
        · refine pyNext_zipDH_item (zs_sep n) (Draws.strU hA1 n x t) (Draws.strU hA1 (n + 1) y u) hz hT hTI h1 h2 hix hiy fun v1 v2 h' tk ⟨c, tc, hcx, e1⟩ ⟨d', td, hdy, e2⟩ z' h1' h2' hT' hsz hk => ?_
          exact hQ s₁.heap.objs.size v1 v2 h' tk ⟨c, tc, d', td, hcx, e1, hdy, e2⟩ (.inl ⟨_, hT', rfl, _, rfl⟩)
            ⟨hk _ _ (ne5 (by decide)) (by simp) (by simp) hTI, h1', h2', .inr ⟨T, true, oT, z', hk _ _ r1 r2 r3 hT, r1, r2, r3, r4⟩⟩
            fun c o hc e => hk c o (fun x => hc (by simp [x])) (fun x => hc (by simp [x])) (fun x => hc (by simp [x])) e
      done := fun s₁ Q₁ E₁ st hQ => by
        obtain ⟨hTI, h1, h2, hz⟩ := st
        have hend : min x.cps.size y.cps.size = x.cps.size ∨ min x.cps.size y.cps.size = y.cps.size := by omega
        rcases hz with ⟨hz, a, b, hTO⟩ | ⟨T, f, oT, hz, hT, r1, r2, r3, r4⟩
        · exact wpAny_pyNext_zipD2_end (zs_sep n) (Draws.strU hA1 n x t) (Draws.strU hA1 (n + 1) y u) hz hTI hTO h1 h2 (by omega) (by omega) hend fun h' tk hk => hQ h' tk fun c o hc e => hk c o (fun x => hc (by simp [x])) (fun x => hc (by simp [x])) (fun x => hc (by simp [x])) (fun x => hc (by simp [x])) e
        · exact pyNext_zipDH_end (zs_sep n) (Draws.strU hA1 n x t) (Draws.strU hA1 (n + 1) y u) hz hT hTI h1 h2 (by omega) (by omega) hend fun h' tk hk => hQ h' tk fun c o hc e => hk c o (fun x => hc (by simp [x])) (fun x => hc (by simp [x])) (fun x => hc (by simp [x])) e }
theorem paired_snoc {α β : Type} {F : α → β → Prop} {a : α} {b : β} (h : F a b) : ∀ {l₁ : List α} {l₂ : List β}, Paired F l₁ l₂ → Paired F (l₁ ++ [a]) (l₂ ++ [b])
  | _, _, .nil => .cons h .nil
  | _, _, .cons r t => .cons r (paired_snoc h t)
/-- the letters of two texts, one by one -/
def kvZ (x y : Str) : List (Key × V) := (x.cps.toList.zip y.cps.toList).map fun p => (Sum.inr ⟨#[p.1]⟩, V.str ⟨#[p.2]⟩)
theorem kvZ_len (x y : Str) : (kvZ x y).length = min x.cps.size y.cps.size := by simp [kvZ]
theorem kvZ_at {x y : Str} {i c d : Nat} (h1 : x.cps[i]? = some c) (h2 : y.cps[i]? = some d) : (kvZ x y)[i]? = some (Sum.inr ⟨#[c]⟩, V.str ⟨#[d]⟩) := by
  have e1 : x.cps.toList[i]? = some c := by rw [Array.getElem?_toList]; exact h1
  have e2 : y.cps.toList[i]? = some d := by rw [Array.getElem?_toList]; exact h2
  unfold kvZ
  have e3 : (x.cps.toList.zip y.cps.toList)[i]? = some (c, d) := List.getElem?_zip_eq_some.mpr ⟨e1, e2⟩
  rw [List.getElem?_map, e3]
  rfl
theorem call_dzip {A : Around} {E : Value → Shared → Prop} {s : Shared} {n : Addr} {x y : Str} {t u : Tok} {Q : Value → Shared → Prop} (hh : A.handled = none)
    (ok : IsZip s.heap (n + 4) (n + 2) (n + 3) .none ∧ IsPair s.heap (n + 2) (.ref n) (.ref (n + 1)) ∧ (∃ a b, IsPair s.heap (n + 3) a b) ∧ s.heap.IsStrIter n (strIterType x) x t 0 ∧ s.heap.IsStrIter (n + 1) (strIterType y) y u 0)
    (hz : min x.cps.size y.cps.size ≤ sizeLine)
    (h : ∀ h' tk prs, KV (kvZ x y) prs → h'.DictOf (mixKind prog w) s.heap.objs.size (merged [] prs) → (∀ b o, b ∉ [n + 4, n + 3, n, n + 1] → s.heap.get? b = some o → h'.get? b = some o) → Q (.ref s.heap.objs.size) { s with heap := h', toks := tk }) :
    wpAny (model prog w) A (call (.type "dict") [.ref (n + 4)]) Q E s := by
  refine call_dict_arg (PairArg_zipS n x y t u) ok fun s₁ hs₁ hdf ok₁ => ?_
  subst hs₁
  refine updateFrom_arg (A := A.in1) (Tab := fun i h => ∃ prs, KV ((kvZ x y).take i) prs ∧ prs.length = i ∧ h.DictOf (mixKind prog w) s.heap.objs.size (merged [] prs)) (PairArg_zipS n x y t u) .none hh ok₁ hdf ⟨[], .nil, rfl, Heap.DictOf.new s.heap⟩ (fun _ _ ⟨_, _, _, tb⟩ => tb.lt_size) (fun i h h' wr' hd _ ⟨prs, r, hl, tb⟩ hk => ⟨prs, r, hl, tb.at' fun o e => hk _ o hd e⟩) ?_ ?_
  · intro i key v s' Q' E' hi hrel tb _ hQ
    obtain ⟨prs, r, hl, tb⟩ := tb
    obtain ⟨c, tc, d, td, hc, rfl, hd, rfl⟩ := hrel
    refine wpAny_dictSet_pairs (hsz := by have := merged_length [] prs; rw [List.length_nil] at this; omega) (k := (Sum.inr ⟨#[c]⟩ : Key)) (show keyIs (Sum.inr ⟨#[c]⟩) (.str ⟨#[c]⟩ tc) = true from keyIs_str ⟨#[c]⟩ tc) tb fun h' hm' hs => ?_
    refine hQ h' _ ⟨prs ++ [(Sum.inr ⟨#[c]⟩, .str ⟨#[d]⟩ td)], ?_, by simp [hl], ?_⟩ hs
    · rw [List.take_add_one, kvZ_at hc hd]
      exact paired_snoc ⟨rfl, td, rfl⟩ r
    · have : merged [] (prs ++ [(Sum.inr ⟨#[c]⟩, Value.str ⟨#[d]⟩ td)]) = stored (merged [] prs) (Sum.inr ⟨#[c]⟩ : Key) (Value.str ⟨#[d]⟩ td) := by
        simp [merged, List.foldl_append]
      rw [this]
      exact hm'
  · rintro h' tk ⟨prs, r, hl, tb⟩ hk
    rw [List.take_of_length_le (Nat.le_of_eq (kvZ_len x y))] at r
    exact ⟨rfl, h h' tk prs r tb fun b o hw e => hk b o (Nat.ne_of_lt (Heap.lt_size e)) hw (Heap.get?_push_of_some _ e)⟩
end
section
variable {X : Cx}
def tDzip (ta : TA) : TE := fun σ H Q => ta σ H fun vs H1 => ∃ x y : Str, vs = [.str x, .str y] ∧ min x.cps.size y.cps.size ≤ 1000 ∧ ∀ b, H1 b = none → Q (.ref b) (upd H1 b (.dK (mergeK [] (kvZ x y))))
theorem pe_dzip {e e2 : Expr} {ta : TA} {p p2 q pos : Pos} (hc : X.calm = true) (hg : Gl X "dict") (hm : X.mg "dict" = none) (hg2 : Gl X "zip") (hm2 : X.mg "zip" = none) (ha : PA X [e, e2] ta)
    (hs : starEach [e, e2] X.env = (false, eval e X.env) :: starEach [e2] X.env) (hpl : (backTo q (starEach [e2] X.env)).any (·.1) = false) :
    PE X (.Call (.Name "dict" p) [.Call (.Name "zip" p2) [e, e2] [] q] [] pos) (tDzip ta) := by
  refine ⟨fun pins s σ H Q I h => ?_⟩
  refine Call_ (ld_blt I hg hm PyProof.Rows.boot_dict ?_)
  refine PyProof.Rows.callWith_type1 (PyProof.Rows.args_cons ?_ rfl) rfl rfl
  refine Call_ (ld_blt I hg2 hm2 PyProof.Rows.boot_zip (PyProof.Rows.callWith_type1 (thn (ha.run q pins s σ H _ I h) fun us s1 ⟨vs, H1, I1, r1, q1⟩ => ?_) hs hpl))
  obtain ⟨x, y, ex, hz, q1⟩ := q1
  subst ex
  cases r1 with
  | cons r rr =>
    cases rr with
    | cons r' rr =>
      cases rr
      obtain ⟨t, rfl⟩ := r
      obtain ⟨u, rfl⟩ := r'
      refine call_zipS fun h' hz' hTI hTO h1 h2 hsz hk => ?_
      refine PyProof.Rows.args_nil ?_
      have I2 : Inv X pins σ H1 { s1 with heap := h' } := I1.kept (t' := s1.toks) hk
      refine call_dzip (n := s1.heap.objs.size) (x := x) (y := y) (t := t) (u := u) (I2.ok.hd hc) ⟨hz', hTI, ⟨_, _, hTO⟩, h1, h2⟩ (Nat.le_trans hz (by rw [sizeLine_eq]; decide)) fun h'' tk prs rel hd' kp => ?_
      have hlen : (mergeK [] (kvZ x y)).length ≤ sizeLine := by
        refine Nat.le_trans (length_mergeK (kvZ x y) []) ?_
        rw [List.length_nil, Nat.zero_add, kvZ_len, sizeLine_eq]
        omega
      have hmm : (h'.objs.size == sysModules) = false := beq_eq_false_iff_ne.mpr (Nat.ne_of_gt I2.big)
      have big : ∀ b, b ∈ [s1.heap.objs.size + 4, s1.heap.objs.size + 3, s1.heap.objs.size, s1.heap.objs.size + 1] → s1.heap.objs.size ≤ b := fun b hb => by
        simp only [List.mem_cons, List.not_mem_nil, or_false] at hb
        rcases hb with q | q | q | q <;> rw [q]
        · exact Nat.le_add_right ..
        · exact Nat.le_add_right ..
        · exact Nat.le_refl _
        · exact Nat.le_add_right ..
      have kp2 : ∀ b o, s1.heap.get? b = some o → h''.get? b = some o := fun b o e => kp b o (fun hb => Nat.not_lt.mpr (big b hb) (Heap.lt_size e)) (hk b o e)
      have hle : s1.heap.objs.size ≤ h'.objs.size := by rw [hsz]; exact Nat.le_add_right ..
      exact ⟨.ref h'.objs.size, upd H1 h'.objs.size (.dK (mergeK [] (kvZ x y))), I1.laid (t' := tk) kp2 hle (show ObjOk X.prog X.w _ _ _ (.dK (mergeK [] (kvZ x y))) from ⟨hlen, hmm, merged [] prs, KV.merge rel .nil, hd'⟩), rfl, q1 _ (I1.hok.fresh hle)⟩
end
end PyI
namespace PyI
open PySem L2 PySem.Calls PyProof.Rows
section
variable {prog : Program} {w : World} {A : Around} {E : Value → Shared → Prop} {s : Shared}
theorem applied_back {sl : Addr} {vl vu vs : Value} {n : Nat} {Q : Int × Int × Nat → Shared → Prop} (hs : s.heap.IsSliceOf sl vl vu vs) (pl : IsPart vl none) (pu : IsPart vu none) (ps : IsPart vs (some (-1)))
    (h : Q ((n : Int) - 1, -1, n) s) : wpAny (model prog w) A (Builtin.Slice.sliceApplied (.ref sl) (pure (n : Int))) Q E s := by
  obtain ⟨os, hos, hcs, hds⟩ := id hs
  unfold Builtin.Slice.sliceApplied Builtin.Slice.sliceFields
  refine wpAny_bind (wpAny_bind (wpAny_field hos hds (x := vl) rfl (wpAny_bind (wpAny_field hos hds (x := vu) rfl (wpAny_bind (wpAny_field hos hds (x := vs) rfl (wpAny_pure ?_)))))))
  refine wpAny_bind (HT.slicePart_ ps ?_)
  show wpAny _ _ (if ((-1 : Int) == 0) = true then _ else _) _ _ s
  rw [if_neg (by decide)]
  refine wpAny_bind (HT.slicePart_ pl (wpAny_bind (HT.slicePart_ pu (wpAny_bind (wpAny_pure ?_)))))
  have e1 : Builtin.Slice.sliceAdjust none none (-1) (n : Int) = ((n : Int) - 1, -1) := by
    simp [Builtin.Slice.sliceAdjust]
  have e2 : Builtin.Slice.slicePlaces ((n : Int) - 1) (-1) (-1) = n := by
    unfold Builtin.Slice.slicePlaces
    simp
    split <;> omega
  show wpAny _ _ (match Builtin.Slice.sliceAdjust none none (-1) (n : Int) with | (lo, hi) => pure (lo, (-1 : Int), Builtin.Slice.slicePlaces lo hi (-1))) _ _ s
  rw [e1]
  show wpAny _ _ (pure ((n : Int) - 1, (-1 : Int), Builtin.Slice.slicePlaces ((n : Int) - 1) (-1) (-1))) _ _ s
  rw [e2]
  exact wpAny_pure h
theorem pick_back (xs : Array Value) : ((List.range xs.size).filterMap fun (m : Nat) => xs[(((xs.size : Int) - 1) + (m : Int) * (-1)).toNat]?).toArray = xs.toList.reverse.toArray := by
  have e : (List.range xs.size).filterMap (fun (m : Nat) => xs[(((xs.size : Int) - 1) + (m : Int) * (-1)).toNat]?) = ((List.range xs.size).map fun k => xs.size - 1 - k).filterMap (xs[·]?) := by
    rw [List.filterMap_map]
    congr 1
    funext m
    have : (((xs.size : Int) - 1) + (m : Int) * (-1)).toNat = xs.size - 1 - m := by omega
    rw [this]
    rfl
  rw [e, PySem.W.krv_range, List.filterMap_reverse, PySem.W.krv_all]
theorem getItem_tuple_back {t sl : Addr} {items : Array Value} {vl vu vs : Value} {Q : Value → Shared → Prop} (ht : IsTup s.heap t items) (hs : s.heap.IsSliceOf sl vl vu vs) (pl : IsPart vl none) (pu : IsPart vu none) (ps : IsPart vs (some (-1)))
    (h : Q (.ref s.heap.objs.size) { s with heap := s.heap.push { cls := .type "tuple", data := .seq items.toList.reverse.toArray } })
    (hsz : items.size ≤ sizeLine) : wpAny (model prog w) A (getItem (.ref t) (.ref sl)) Q E s := by
  have htake : sizeOk (.seq items.toList.reverse.toArray) := by
    show items.toList.reverse.toArray.size ≤ sizeLine
    rw [List.size_toArray, List.length_reverse, Array.length_toList]
    exact hsz
  obtain ⟨os, hos, hcs, hds⟩ := id hs
  have hTs : s.TypeIs (.ref sl) "slice" := ⟨os, hos, hcs⟩
  unfold getItem
  try with_reducible refine wpAny_holding ?_
  first | refine wpAny_bind (wpAny_pure ?_) | skip
  refine wpAny_bind (wpAny_sequenceKey ht.typeIs (by decide) ?_)
  refine wpAny_bind (wpAny_callSpecial?_slot (name := Str.ofString "__getitem__") ht.typeIs PyProof.Rows.slot_tuple_getitem
    (wpAny_call_entry PyProof.Rows.slot_tuple_getitem ht.typeIs entry_tuple_getitem ?_ (args_tuple_getitem _ _)))
  show wpAny _ _ (Builtin.Tuple.tupleItemsOf (.ref t) >>= _) _ _ s
  refine wpAny_bind (tupleItemsOf_ ht ?_)
  refine wpAny_bind (wpAny_typeOf hTs ?_)
  rw [if_pos (by decide)]
  refine wpAny_bind (applied_back hs pl pu ps ?_)
  have hno : ¬ ((((items.size : Int) - 1) == 0 && (-1 : Int) == 1 && items.size == items.size) = true) := by simp
  show wpAny _ _ (if ((((items.size : Int) - 1) == 0 && (-1 : Int) == 1 && items.size == items.size) = true) then _ else _) _ _ s
  rw [if_neg hno, pick_back]
  first
    | exact wpAny_bind (m := Builtin.Tuple.tupleExact _) (wpAny_newObj_type (wpAny_pure ⟨_, rfl, wpAny_pure h⟩) htake)
    | exact wpAny_bind (m := Builtin.Tuple.tupleExact _) (wpAny_newObj_type (wpAny_bind (wpAny_pure (wpAny_pure ⟨_, rfl, wpAny_pure h⟩))) htake)
    | exact wpAny_bind (wpAny_bind (m := Builtin.Tuple.tupleExact _) (wpAny_newObj_type (wpAny_pure (wpAny_pure ⟨_, rfl, wpAny_pure h⟩)) htake))
    | exact wpAny_bind (wpAny_bind (m := Builtin.Tuple.tupleExact _) (wpAny_newObj_type (wpAny_pure ⟨_, rfl, wpAny_pure h⟩) htake))
end
section
variable {X : Cx}
/-- what a thing turned about asks, the slice being made -/
def BackR (X : Cx) (r : V → Hp → VK → Prop) : Prop := ∀ (pins : List (Addr × Obj)) (s : Shared) (σ : L2.St) (H : Hp) (x : V) (v vl vu vs : Value) (sl : Addr) (Q : VK),
  L2.Inv X pins σ H s → RelV x v → s.heap.IsSliceOf sl vl vu vs → IsPart vl none → IsPart vu none → IsPart vs (some (-1)) → r x H Q →
    ∃ T id, typeLookup (.type T) (Str.ofString "__getitem__") = pure (some (.builtin id)) ∧ s.TypeIs v T ∧ wpAny (model X.prog X.w) X.A (getItem v (.ref sl)) (EP X pins σ Q) X.xe s
theorem pe_back {r : V → Hp → VK → Prop} {e : Expr} {te : TE} {k : Nat} {q1 q2 q3 q4 : Pos} (hr : BackR X r) (he : PE X e te) :
    PE X (.Subscript e (.Slice none none (some (.UnaryOp .USub (.Constant (.int 1) k q1) q2)) q3) q4) (fun σ H Q => te σ H fun x H1 => r x H1 Q) := by
  refine ⟨fun pins s σ H Q I h => Subscript_ (thn (he.run pins s σ H _ I h) ?_)⟩
  rintro v s1 ⟨x, H1, I1, rx, hq⟩
  have step : PO X (some (.UnaryOp .USub (.Constant (.int 1) k q1) q2)) (tPart (tUn (rU fun i => .int (-i)) (tC (.int 1)))) := po_some (pe_un un_neg pe_int)
  refine wpAny_Slice (thn (po_none.run pins s1 σ H1 (fun a G => a = none ∧ H1 = G) I1 ⟨rfl, rfl⟩) ?_)
  rintro vl s2 ⟨_, _, I2, pl, rfl, rfl⟩
  refine thn (po_none.run pins s2 σ H1 (fun a G => a = none ∧ H1 = G) I2 ⟨rfl, rfl⟩) ?_
  rintro vu s3 ⟨_, _, I3, pu, rfl, rfl⟩
  refine thn (step.run pins s3 σ H1 (fun a G => a = some (-1) ∧ H1 = G) I3 ⟨1, rfl, -1, rfl, rfl, rfl⟩) ?_
  rintro vs s4 ⟨_, _, I4, ps, rfl, rfl⟩
  obtain ⟨T, id, hT, ht, hg⟩ := hr pins { s4 with heap := s4.heap.push { cls := .type "slice", data := .fields #[vl, vu, vs] } } σ H1 x v vl vu vs s4.heap.objs.size Q (I4.kept (t' := s4.toks) fun b ob hb => Heap.get?_push_of_some _ hb) rx (Heap.IsSliceOf.new ..) pl pu ps hq
  exact tail_any (ops := [v, .ref s4.heap.objs.size]) ht hT hg (by with_unfolding_all rfl)
theorem back_text (z : List Nat) : ((Builtin.Str.strSliceIndices none none (-1) (txt z).length).filterMap ((txt z).cps[·]?)) = z.reverse := by
  have hl : (txt z).length = z.length := by simp [txt, Str.length]
  have e : Builtin.Str.strSliceIndices none none (-1) (txt z).length = sliceRange (((txt z).length : Int) - 1) (-1) (-1) := by simp [Builtin.Str.strSliceIndices]
  rw [e, PySem.W.krv_sliceRange, PySem.W.krv_range, List.filterMap_reverse]
  have := PySem.W.krv_all (txt z).cps
  rw [show (txt z).cps.size = (txt z).length from rfl] at this
  rw [this, txt_list]
def rBackD (K : PySem.W.Frag) : V → Hp → VK → Prop := fun x H Q => ∃ Z ι n a d, RdV K H Z ι n x a ∧ backD a = some d ∧ ∀ v H', Grow H H' → NV K H Z ι n H' v d → Q v H'
theorem Reps.back {K : PySem.W.Frag} {H : Hp} {Z : Addr → Prop} {ι : Nat → Addr} {n : Nat} : ∀ {xs : List V} {ds : List D}, Reps K H Z ι n xs ds → Reps K H Z ι n xs.reverse ds.reverse
  | _, _, .nil => .nil
  | _, _, .cons r t => by
    rw [List.reverse_cons, List.reverse_cons]
    exact t.back.append (.cons r .nil)
theorem backAll : BackR X (rBackD X.K) := by
  rintro pins s σ H x v vl vu vs sl Q I rx hs pl pu ps ⟨Z, ι, n, a, d, ra, e, k⟩
  cases a <;> simp only [backD] at e <;> try (cases e; done)
  case lst ds =>
    cases e
    obtain ⟨p, us, rfl, h1, r1⟩ := ra.lst
    cases rx
    obtain ⟨its, r, ht, hz⟩ := I.list (SqL.of h1)
    refine ⟨"list", _, PySem.slot_list_getitem.lookup, ht.isList.typeIs, ?_⟩
    refine wpAny_getItem_list_slice ht.isList hs pl pu ps (by decide) ?_ (by have := r.length; rw [List.size_toArray]; omega)
    rw [PySem.W.krv_pick]
    have hn := I.hok.fresh (Nat.le_refl s.heap.objs.size)
    refine ⟨.ref s.heap.objs.size, upd H s.heap.objs.size (.lst us.reverse), I.laid (t' := s.toks) (fun b ob q => Heap.get?_push_of_some _ q) (Nat.le_refl _) ⟨by rw [List.length_reverse]; exact hz, its.reverse, 0, r.reverse, Heap.get?_push_size _ rfl⟩, rfl, ?_⟩
    exact k _ _ (Grow.new hn) ⟨_, rfl, hn, _, upd_same, r1.back.keep (Grow.keep (Grow.new hn))⟩
  case tup ds =>
    cases e
    obtain ⟨p, us, rfl, h1, r1⟩ := ra.tupP
    cases rx
    obtain ⟨its, r, ht, hz⟩ := I.tuple h1.sq
    refine ⟨"tuple", _, PyProof.Rows.slot_tuple_getitem.lookup, ht.typeIs, ?_⟩
    refine getItem_tuple_back ht hs pl pu ps ?_ (by have := r.length; rw [List.size_toArray]; omega)
    exact laidTp I r.reverse (by rw [List.length_reverse]; exact hz) fun t ot ht ht1 ht2 => k _ _ (Grow.new ht) (Rep.tup (SqTP.mk' ht1 ht2) (r1.back.keep (Grow.keep (Grow.new ht))))
  case str z =>
    split at e
    · rename_i hz
      cases e
      rw [ra.str] at rx
      obtain ⟨t, rfl⟩ := rx
      obtain ⟨os, hos, hcs, hds⟩ := hs
      cases pl
      cases pu
      cases ps with
      | int _ ts =>
        refine ⟨"str", _, F.slot_str_getitem.lookup, typeIs_str _ _ _, ?_⟩
        refine wpAny_getItem_str_slice (l := none) (u := none) (st := some (-1, ts)) ⟨os, hos, hcs, hds⟩ rfl ?_
        show Made.post (if false = true then Made.val (.str (txt z) t) else Made.str ⟨((Builtin.Str.strSliceIndices none none (-1) (txt z).length).filterMap ((txt z).cps[·]?)).toArray⟩) (EP X pins σ Q) s
        rw [if_neg (by simp), back_text]
        refine ⟨?_, .str (txt z.reverse), H, I.tok _, ⟨_, rfl⟩, k _ _ Grow.refl (Rep.str _)⟩
        show z.reverse.toArray.size ≤ sizeLine
        rw [List.size_toArray, List.length_reverse, sizeLine_eq]; exact hz
    · cases e
end
end PyI
namespace PyI
open PySem L2

structure MC where
  N : List Str
  fn : Nat → Option Str
  bl : List Str
  gi : List (Str × Int) := []
  gs : List (Str × List Nat) := []
  cn : Nat → Option Str := fun _ => none
  me : Nat → Option (Nat × Str) := fun _ => none
  fl : Nat → Option Str := fun _ => none

def visB (sc : Scope) (x : Str) : Bool := match sc.names.lookup x with
  | some .local => true
  | some .cell => true
  | some .free => true
  | _ => false
def glB (sc : Scope) (x : Str) : Bool := match sc.names.lookup x with
  | some .globalImplicit => true
  | _ => false
def locB (sc : Scope) (fnB : Str → Bool) (x : Str) : Bool := match sc.names.lookup x with
  | some .local => true
  | some .cell => fnB x
  | _ => false
def okNm (x : Str) : Bool := !(x == ("__debug__" : Str)) && !(x == ("__classdict__" : Str)) && !(x == ("__name__" : Str))
def plain : Expr → Bool
  | .Starred .. => false
  | .Set .. => false
  | .Slice .. => false
  | _ => true
def okBase : Expr → Bool
  | .Call (.Name _ _) [] [] _ => false
  | _ => true
def nmAt (cx : MC) (i : Nat) (x : Str) : Bool := decide (cx.N[i]? = some x)
def pyBin : Op2 → Option Operator
  | .add => some .Add | .sub => some .Sub | .mul => some .Mult | .fdiv => some .FloorDiv | .mod => some .Mod | .pow => some .Pow | _ => none
def pyCmp : Op2 → Option CmpOp
  | .eq => some .Eq | .ne => some .NotEq | .lt => some .Lt | .le => some .LtE | .gt => some .Gt | .ge => some .GtE | .isin => some .In | .notin => some .NotIn | .isb => some .Is | .isnb => some .IsNot | _ => none
def biNm : Bi → Option Str
  | .len => some "len" | .list => some "list" | .tuple => some "tuple" | .sorted => some "sorted" | .sum => some "sum" | .min => some "min" | .max => some "max" | .all => some "all" | .any => some "any" | .int => some "int" | .dict => some "dict" | .repr => some "repr" | _ => none
def biIs : Bi → Option Str
  | .isint => some "int" | .isstr => some "str" | .istup => some "tuple" | .islst => some "list" | .isbool => some "bool" | _ => none
def meNm : Me → Option Str
  | .sindex => some "index" | .join => some "join" | .dget => some "get" | .dgetd => some "get" | _ => none
/-- a built-in's name, not taken -/
def bltB (cx : MC) (sc : Scope) (x : Str) : Bool := glB sc x && cx.bl.contains x && okNm x
def scopeOk (cx : MC) (sc scope : Scope) (vs : List Nat) : Bool :=
  vs.all (fun v => (cx.N[v]?).isSome) && blkC cx.N sc scope (vs.filterMap fun v => (cx.N[v]?).map fun x => (x, v))
def mtNames (cx : MC) (sc : Scope) (fnB : Str → Bool) : List Nat → List Expr → Bool
  | [], [] => true
  | i :: is, .Name x _ :: es => nmAt cx i x && locB sc fnB x && mtNames cx sc fnB is es
  | _, _ => false
def mtQ (cx : MC) (sc : Scope) (fnB : Str → Bool) : List (Nat ⊕ List Nat) → List Expr → Bool
  | [], [] => true
  | .inl i :: ts, .Name x _ :: es => nmAt cx i x && locB sc fnB x && mtQ cx sc fnB ts es
  | .inr is :: ts, .Tuple ns _ _ :: es => mtNames cx sc fnB is ns && mtQ cx sc fnB ts es
  | _, _ => false
def mtTg (cx : MC) (sc : Scope) (fnB : Str → Bool) : Tg → Expr → Bool
  | .nm i, .Name x _ => nmAt cx i x && locB sc fnB x
  | .tp is, .Tuple es _ _ => mtNames cx sc fnB is es
  | .tq ts, .Tuple es _ _ => mtQ cx sc fnB ts es
  | _, _ => false
def isTup : Expr → Bool
  | .Tuple _ _ _ => true
  | _ => false
def noneE : E → Bool | .non => true | _ => false
mutual
def mtE (cx : MC) (sc : Scope) : E → Expr → Bool
  | .var i, .Name x _ => nmAt cx i x && visB sc x && okNm x
  | .own i, .Name x _ => nmAt cx i x && visB sc x && okNm x
  | .non, .Constant .none _ _ => true
  | .bl b, .Constant (.bool c) _ _ => b == c
  | .int i, .Constant (.int j) _ _ => i == j
  | .str s, .Constant (.str x) _ _ => decide (x = txt s)
  | .tup es, .Tuple pes _ _ => mtEs cx sc es pes
  | .lst es, .List pes _ => mtEs cx sc es pes
  | .bin o a b, .BinOp l op r _ => decide (pyBin o = some op) && mtE cx sc a l && mtE cx sc b r
  | .bin o a b, .Compare l [op] [r] _ => mtE cx sc a l && mtE cx sc b r && plain r && (decide (pyCmp o = some op) || (noneE b && ((decide (o = .isn) && decide (op = .Is)) || (decide (o = .isnn) && decide (op = .IsNot)))))
  | .neg a, .UnaryOp .USub p _ => mtE cx sc a p
  | .not a, .UnaryOp .Not p _ => mtE cx sc a p
  | .and a b, .BoolOp .And (p :: q :: r) pos => mtE cx sc a p && (match r with | [] => mtE cx sc b q | _ => mtE cx sc b (.BoolOp .And (q :: r) pos))
  | .or a b, .BoolOp .Or (p :: q :: r) pos => mtE cx sc a p && (match r with | [] => mtE cx sc b q | _ => mtE cx sc b (.BoolOp .Or (q :: r) pos))
  | .ite c a b, .IfExp pc pa pb _ => mtE cx sc c pc && mtE cx sc a pa && mtE cx sc b pb
  | .chain o1 o2 a b c, .Compare l [op1, op2] [m, r] _ => decide (pyCmp o1 = some op1) && decide (pyCmp o2 = some op2) && mtE cx sc a l && mtE cx sc b m && mtE cx sc c r && plain m && plain r
  | .chain3 o1 o2 o3 a b c d, .Compare l [op1, op2, op3] [m, r, t] _ => decide (pyCmp o1 = some op1) && decide (pyCmp o2 = some op2) && decide (pyCmp o3 = some op3) && mtE cx sc a l && mtE cx sc b m && mtE cx sc c r && mtE cx sc d t && plain m && plain r && plain t
  | .sl a lo hi, .Subscript p (.Slice plo phi none _) _ => mtE cx sc a p && mtO cx sc lo plo && mtO cx sc hi phi
  | .rev a, .Subscript p (.Slice none none (some (.UnaryOp .USub (.Constant (.int 1) _ _) _)) _) _ => mtE cx sc a p
  | .ix a i, .Subscript p q _ => mtE cx sc a p && mtE cx sc i q && plain q
  | .bi f es, .Call (.Name x _) pes [] _ => bltB cx sc x && (
      (decide (biNm f = some x) && mtEs cx sc es pes && !pes.isEmpty) ||
      (decide (x = "isinstance") && (match pes with
        | [p, .Name t _] => decide (biIs f = some t) && bltB cx sc t && mtEs cx sc es [p]
        | [p, .Tuple [.Name t _, .Name u _] _ _] => decide (f = .istl) && decide (t = "tuple") && decide (u = "list") && bltB cx sc t && bltB cx sc u && mtEs cx sc es [p]
        | _ => false)))
  | .me m o es, .Call (.Attribute p x apos) pes [] cpos => decide (meNm m = some x) && mtE cx sc o p && mtEs cx sc es pes && !pes.isEmpty && decide (pes.length < 20) && okBase p && (apos.endLine == cpos.line)
  | .call f es, .Call (.Name x _) pes [] _ => decide (cx.fn f = some x) && glB sc x && okNm x && mtEs cx sc es pes
  | .pcall f es, .Call (.Name x _) pes [] _ => decide (cx.fn f = some x) && glB sc x && okNm x && mtEs cx sc es pes && !pes.isEmpty
  | .comp elt tg it cond vs, .ListComp pelt [⟨ptg, pit, pifs, 0⟩] scope _ => scopeOk cx sc scope vs && mtI cx sc it (isTup ptg) pit && mtTg cx (relS scope sc) (fun x => scope.names.lookup x == some .cell) tg ptg && tg.ix.all (vs.contains ·) && mtEs cx (relS scope sc) cond pifs && mtE cx (relS scope sc) elt pelt
  | .newr e, p => mtE cx sc e p
  | .toL it, .Call (.Name x _) [.Call (.Name y _) ps [] _] [] _ => decide (x = "list") && bltB cx sc x && (decide (y = "range") && bltB cx sc y && mtRg cx sc it ps)
  | .dnew, .Dict [] [] _ => true
  | .gint i, .Name x _ => glB sc x && okNm x && decide (cx.gi.lookup x = some i)
  | .gstr s, .Name x _ => glB sc x && okNm x && decide (cx.gs.lookup x = some s)
  | .lk e, p => mtE cx sc e p
  | .frr e, p => mtE cx sc e p
  | .fld c o x, .Attribute p f _ => decide (cx.fl x = some f) && (cx.cn c).isSome && mtE cx sc o p && okBase p
  | .mk c f es, .Call (.Name x _) pes [] _ => decide (cx.cn c = some x) && decide (cx.me f = some (c, ("__init__" : Str))) && glB sc x && okNm x && mtEs cx sc es pes
  | .mcall c f o es, .Call (.Attribute p m apos) pes [] cpos => decide (cx.me f = some (c, m)) && (cx.cn c).isSome && mtE cx sc o p && mtEs cx sc es pes && okBase p && decide (pes.length < 20) && (apos.endLine == cpos.line)
  | .bid mx a b, .Call (.Name x _) [p] [⟨some k, q, _⟩] _ => bltB cx sc x && decide (x = if mx then "max" else "min") && decide (k = "default") && mtE cx sc a p && plain p && mtE cx sc b q
  | .un .lens a, .Call (.Name x _) [.Call (.Name y _) [p] [] _] [] _ => decide (x = "len") && bltB cx sc x && (decide (y = "set") && bltB cx sc y && (mtE cx sc a p && plain p))
  | .un .dzip (.tup es), .Call (.Name x _) [.Call (.Name y _) [p, q] [] _] [] _ => decide (x = "dict") && bltB cx sc x && (decide (y = "zip") && bltB cx sc y && (mtEs cx sc es [p, q] && (plain p && plain q)))
  | .un .sset a, .Call (.Name x _) [.Call (.Name y _) [p] [] _] [] _ => decide (x = "sorted") && bltB cx sc x && (decide (y = "set") && bltB cx sc y && (mtE cx sc a p && plain p))
  | .un .vals a, .Call (.Name x _) [.Call (.Attribute p m apos) [] [] cpos] [] _ => decide (x = "list") && bltB cx sc x && (decide (m = "values") && mtE cx sc a p && okBase p && (apos.endLine == cpos.line))
  | .un .upper a, .Call (.Attribute p m apos) [] [] cpos => decide (m = "upper") && mtE cx sc a p && okBase p && (apos.endLine == cpos.line)
  | _, _ => false
def mtEs (cx : MC) (sc : Scope) : Es → List Expr → Bool
  | .nil, [] => true
  | .cons e es, p :: ps => mtE cx sc e p && plain p && mtEs cx sc es ps
  | _, _ => false
def mtO (cx : MC) (sc : Scope) : Es → Option Expr → Bool
  | .nil, none => true
  | .cons e .nil, some p => mtE cx sc e p
  | _, _ => false
def mtRg (cx : MC) (sc : Scope) : I → List Expr → Bool
  | .range1 a, [p] => mtE cx sc a p && plain p
  | .range2 a b, [p, q] => mtE cx sc a p && mtE cx sc b q && plain p && plain q
  | _, _ => false
def mtI (cx : MC) (sc : Scope) : I → Bool → Expr → Bool
  | .over e, _, p => mtE cx sc e p && plain p
  | .range1 a, _, .Call (.Name x _) [p] [] _ => decide (x = "range") && bltB cx sc x && mtE cx sc a p && plain p
  | .range2 a b, _, .Call (.Name x _) [p, q] [] _ => decide (x = "range") && bltB cx sc x && mtE cx sc a p && mtE cx sc b q && plain p && plain q
  | .enum a, true, .Call (.Name x _) [p] [] _ => decide (x = "enumerate") && bltB cx sc x && mtE cx sc a p && plain p
  | .zip a b, true, .Call (.Name x _) [p, q] [] _ => decide (x = "zip") && bltB cx sc x && mtE cx sc a p && mtE cx sc b q && plain p && plain q
  | .items a, true, .Call (.Attribute p m apos) [] [] cpos => decide (m = "items") && mtE cx sc a p && okBase p && (apos.endLine == cpos.line)
  | .keys a, _, p => mtE cx sc a p && plain p
  | .vals a, _, .Call (.Attribute p m apos) [] [] cpos => decide (m = "values") && mtE cx sc a p && okBase p && (apos.endLine == cpos.line)
  | _, _, _ => false
end

theorem star_plain {e : Expr} {es : List Expr} {env : PySem.Env} (h : plain e = true) : starEach (e :: es) env = (false, eval e env) :: starEach es env := by
  cases e <;> simp [plain] at h <;> rfl
theorem marks_plain {op : CmpOp} {e : Expr} (h : plain e = true) : behindInMarks op e = false := by
  cases e <;> simp [plain] at h <;> rfl
theorem ix_plain {e : Expr} (h : plain e = true) : PlainIx e := fun o i => by
  cases e <;> simp [plain] at h <;> rfl
theorem fold_plain {e : Expr} {env : PySem.Env} (h : plain e = true) : ∀ x, foldedSetIterable e env x = pure x := fun x => by
  cases e <;> simp [plain] at h <;> rfl
theorem base_plain {o : Expr} {f : Str} {env : PySem.Env} (h : okBase o = true) : attributeBase o f env (eval o env) = eval o env := by
  unfold attributeBase
  split
  · simp [okBase] at h
  · rfl
theorem any_plain {es : List Expr} {env : PySem.Env} {pos : Pos} (h : es.all plain = true) : (backTo pos (starEach es env)).any (·.1) = false := by
  induction es with
  | nil => rfl
  | cons e es ih =>
    rw [List.all_cons, Bool.and_eq_true] at h
    rw [star_plain h.1]
    show (false || (backTo pos (starEach es env)).any (·.1)) = false
    rw [ih h.2]; rfl
theorem all_plain {es : List Expr} {env : PySem.Env} {pos : Pos} (h : es.all plain = true) : (backTo pos (starEach es env)).all (fun x => !x.1) = true := by
  induction es with
  | nil => rfl
  | cons e es ih =>
    rw [List.all_cons, Bool.and_eq_true] at h
    rw [star_plain h.1]
    show (true && (backTo pos (starEach es env)).all (fun x => !x.1)) = true
    rw [ih h.2]; rfl
end PyI
namespace PyI
open PySem L2 PySem.Spec
open PyProof.Rows hiding St

/-- a def's promise where no guard stands on the stack -/
structure FnG (P : Program) (w : World) (K : PySem.W.Frag) (mg : Str → Option Value) (base : Heap) (C0 : CXT) (k : Nat) (f : Addr) (fd : FuncData) (ps : List Str) (sp : Sp) : Prop where
  len : ∀ vs H Q E, sp vs H Q E → vs.length = ps.length
  run : ∀ (A : Around) (outer : List PySem.Env) (s : Shared) (H : Hp) (args : Args) (us : List Value) (vs : List V) (Q : VK) (E : XK), A.guards = some [] → Room k A → Env0 P w K mg base A outer s H →
    BindsTo s fd args (ps.zip us) → Vals vs us → sp vs H Q E → codeAny (model P w) A (.call (.ref f) args) (L2.CR C0 outer P w H s Q E) s
section
variable {P : Program} {w : World} {K : PySem.W.Frag} {mg : Str → Option Value} {base : Heap} {C0 : CXT} {j k : Nat} {f C : Addr} {fd : FuncData} {ps : List Str} {sp : Sp}
theorem FnG.mono (F : FnG P w K mg base C0 j f fd ps sp) (h : j ≤ k) : FnG P w K mg base C0 k f fd ps sp :=
  ⟨F.len, fun A outer s H args us vs Q E g hr => F.run A outer s H args us vs Q E g (hr.mono h)⟩
/-- a def of the text, by its body -/
theorem FunD.okG {x qual : Str} {params : Arguments} {body : List Stmt} {scope : Scope} {dvs : List V} {kws : List (Str × V)} {N : List Str} (F : FunD K x qual params body scope dvs kws f fd) (S : FnScope N ps scope)
    (len : ∀ vs H Q E, sp vs H Q E → vs.length = ps.length)
    (hb : ∀ (cdv : Value) (A : Around) (outer : List PySem.Env) (s : Shared) (H : Hp) (vs : List V) (Q : VK) (E : XK), A.guards = some [] → Room k (A.deeper (envOfC qual scope s.heap.objs.size f cdv)) → sp vs H Q E →
      ∃ t, PSs (cxOf C0 P w K mg base N qual scope f cdv A outer s H E) body t ∧ t { nx := fun _ H' => Q .non H', rt := Q } (L2.start N vs) H) : FnG P w K mg base C0 (k + 1) f fd ps sp := by
  obtain ⟨oc, od, dV, kV, doc, pm, an, cdv, ct, osl, rfl, lk, hcd, _, _⟩ := F.ex
  refine ⟨len, fun A outer s H args us vs Q E hgd hr e0 hbd r hsp => ?_⟩
  have nl := len _ _ _ _ hsp
  have inK : K.In s.heap := e0.mod.kin.keeps fun b o e => (e0.bs b o e).1
  have noL : s.heap.NoLimit := e0.mod.nolimit.keeps fun b o e => (e0.bs b o e).1
  have kd : ∀ y ∈ ps.zip us, scope.names.lookup y.1 = some .local ∨ (scope.names.lookup y.1 = some .cell ∧ ((cellsFrom (s.heap.objs.size + 1) scope.names []).lookup y.1).isSome = true) := by
    rintro ⟨n, v⟩ hy
    rcases S.par n (List.of_mem_zip hy).1 with q | q
    · exact .inl q
    · exact .inr ⟨q, PySem.W.cellsFrom_some _ _ _ (.inl q)⟩
  refine codeAny_call_function hr.depth (inK _ _ lk) rfl S.co S.gen rfl (PySem.W.codeRec_of inK hcd) (hbd _ _ _ _ ?_)
  refine wpAny_newFunctionEnv_cells S.kind kd fun env he s1 x => ?_
  subst he
  refine ⟨noL.keeps x.toInCall.keep, codeAny_func ?_⟩
  obtain ⟨t, ht, hq⟩ := hb cdv A outer s H vs Q E hgd (hr.deeper _) hsp
  have I : Inv (cxOf C0 P w K mg base N qual scope f cdv A outer s H E) [] (L2.start N vs) H s1 := inv_start S hr.hd e0 nl r x
  refine wpAny_mono (ht.run [] s1 (L2.start N vs) H _ I hq) (fun fl s' hs => ?_) fun e s' hs => hs
  have fin : ∀ {σ' : St} {H' : Hp} {v : V} {u : Value}, Inv (cxOf C0 P w K mg base N qual scope f cdv A outer s H E) [] σ' H' s' → RelV v u → Q v H' → CE outer P w H s Q u s' := by
    intro σ' H' v u J rv q
    exact ⟨v, H', J.os, J.bare, J.base, J.hok, rv, q⟩
  cases fl with
  | ret u => obtain ⟨v, σ', H', J, rv, q⟩ := hs; exact fin J rv q
  | next => obtain ⟨σ', H', J, q⟩ := hs; exact fin (v := V.non) (u := Value.none) J rfl q
  | brk => obtain ⟨_, _, _, q⟩ := hs; exact q.elim
  | cont => obtain ⟨_, _, _, q⟩ := hs; exact q.elim
end
section
variable {X : Cx} {C0 : CXT} {k : Nat} {f C : Addr} {fd : FuncData} {ps : List Str} {sp : Sp} {E : XK} {x m : Str} {p pos apos : Pos} {e o : Expr} {es : List Expr} {ta : TE} {t : TA}
theorem runG {pins : List (Addr × Obj)} {σ : L2.St} {H : Hp} {s : Shared} {Q : VK} {us : List Value} {vs : List V} (F : FnG X.prog X.w X.K X.mg X.base C0 k f fd ps sp) (hgd : X.A.guards = some []) (hr : Room k X.A) (hb : Binds X.K fd ps []) (hx : Passes C0 X E)
    (I : Inv X pins σ H s) (r : Vals vs us) (h : sp vs H Q E) : wpAny (model X.prog X.w) X.A (call (.ref f) us) (EP X pins σ Q) X.xe s := by
  have hl : (us ++ []).length = ps.length := by rw [List.append_nil, ← r.length]; exact F.len _ _ _ _ h
  have bd := hb s us I.kIn hl
  rw [List.append_nil] at bd
  refine wpAny_call (codeAny_mono (F.run X.A X.stack s H ⟨us, []⟩ us vs Q E hgd hr I.env0 bd r h) fun r s' hq => ?_)
  cases r with
  | error e => exact hx pins σ H s e s' I hq
  | ok fl => cases fl <;> first | exact I.after hq | exact False.elim hq
theorem peG_call (F : FnG X.prog X.w X.K X.mg X.base C0 k f fd ps sp) (hgd : X.A.guards = some []) (hr : Room k X.A) (hg : Gl X x) (hm : X.mg x = some (.ref f)) (hk : PySem.W.keepIn X.K (.ref f) = true) (hb : Binds X.K fd ps []) (hx : Passes C0 X E)
    (ha : PA X (e :: es) t) (hdb : (x == ("__debug__" : Str)) = false) (he : starEach (e :: es) X.env = (false, eval e X.env) :: starEach es X.env) (hpl : (backTo pos (starEach es X.env)).any (·.1) = false) :
    PE X (.Call (.Name x p) (e :: es) [] pos) (tCall sp [] E t) := by
  refine ⟨fun pins s σ H Q I h => wpAny_Call_Name_kw (ld_glob I hg hm ?_ hdb)⟩
  refine PySem.W.callWith_K (h₀ := X.base) I.ok.mod.kin hk (thn (ha.run pos pins s σ H _ I h) fun us s1 ⟨vs, H1, I1, r, q⟩ => ⟨I1.kIn, ?_⟩) he hpl
  replace q : sp (vs ++ []) H1 Q E := q
  rw [List.append_nil] at q
  exact runG F hgd hr hb hx I1 r q
theorem peG_call0 (F : FnG X.prog X.w X.K X.mg X.base C0 k f fd ps sp) (hgd : X.A.guards = some []) (hr : Room k X.A) (hg : Gl X x) (hm : X.mg x = some (.ref f)) (hk : PySem.W.keepIn X.K (.ref f) = true) (hb : Binds X.K fd ps []) (hx : Passes C0 X E)
    (hdb : (x == ("__debug__" : Str)) = false) : PE X (.Call (.Name x p) [] [] pos) (tCall sp [] E tNil) := by
  refine ⟨fun pins s σ H Q I h => wpAny_Call_Name_kw (ld_glob I hg hm ?_ hdb)⟩
  exact PySem.W.callWith_K0 I.kIn hk (runG (us := []) F hgd hr hb hx I .nil h)
/-- o.m(..) -/
theorem peG_meth {pl : Sem Bool} (he : PE X o ta) (c : Cls X.K C) (hm : Meth X.K C m f) (F : FnG X.prog X.w X.K X.mg X.base C0 k f fd ps sp) (hgd : X.A.guards = some []) (hr : Room k X.A) (hb : Binds X.K fd ps []) (hx : Passes C0 X E) (ha : PA X (e :: es) t)
    (hst : starEach (e :: es) X.env = (false, eval e X.env) :: starEach es X.env) (hpl : (backTo pos (starEach es X.env)).any (·.1) = false)
    (ht : eval (.Call (.Attribute o m apos) (e :: es) [] pos) X.env = (do
      let ov ← eval o X.env
      standAt apos.atName
      let (g, first) ← holding [ov] (getMethod ov m pl)
      callWith pos g first (backTo pos (starEach (e :: es) X.env)) (backToKw pos (keywordEach [] X.env)))) :
    PE X (.Call (.Attribute o m apos) (e :: es) [] pos) (tMeth C m sp [] E ta t) := by
  refine ⟨fun pins s σ H Q I h => ?_⟩
  refine PySem.W.methodCall_KW (pl := pl) (thn (he.run pins s σ H _ I h) fun u s1 ⟨x, H1, I1, rx, a, dx, fs, ex, ea, l, q⟩ => ?_) ht
  subst ex
  obtain rfl : u = Value.ref a := rx
  refine getmeth_ok I1 ea c hm l ?_
  refine PySem.W.callWith_K (first := [.ref a]) (h₀ := X.base) I.ok.mod.kin hm.kp (thn (ha.run pos pins s1 σ H1 _ I1 q) fun us s2 ⟨vs, H2, I2, r, q2⟩ => ⟨I2.kIn, ?_⟩) hst hpl
  replace q2 : sp (.ref a :: (vs ++ [])) H2 Q E := q2
  rw [List.append_nil] at q2
  exact runG (us := .ref a :: us) (vs := .ref a :: vs) F hgd hr hb hx I2 (.cons rfl r) q2
theorem peG_meth0 {pl : Sem Bool} (he : PE X o ta) (c : Cls X.K C) (hm : Meth X.K C m f) (F : FnG X.prog X.w X.K X.mg X.base C0 k f fd ps sp) (hgd : X.A.guards = some []) (hr : Room k X.A) (hb : Binds X.K fd ps []) (hx : Passes C0 X E)
    (ht : eval (.Call (.Attribute o m apos) [] [] pos) X.env = (do
      let ov ← eval o X.env
      standAt apos.atName
      let (g, first) ← holding [ov] (getMethod ov m pl)
      callWith pos g first (backTo pos (starEach [] X.env)) (backToKw pos (keywordEach [] X.env)))) :
    PE X (.Call (.Attribute o m apos) [] [] pos) (tMeth C m sp [] E ta tNil) := by
  refine ⟨fun pins s σ H Q I h => ?_⟩
  refine PySem.W.methodCall_KW (pl := pl) (thn (he.run pins s σ H _ I h) fun u s1 ⟨x, H1, I1, rx, a, dx, fs, ex, ea, l, q⟩ => ?_) ht
  subst ex
  obtain rfl : u = Value.ref a := rx
  refine getmeth_ok I1 ea c hm l ?_
  exact PySem.W.callWith_K0 (first := [.ref a]) I1.kIn hm.kp (runG (us := [.ref a]) (vs := [.ref a]) F hgd hr hb hx I1 (.cons rfl .nil) q)
theorem make_guards {A : Around} {C : Addr} {us : List Value} {kw : List (Str × Value)} (h : A.guards = some []) : (A.under (.builtin "type.__call__" ⟨.ref C :: us, kw⟩)).guards = some [] := by
  have e : (Code.builtin "type.__call__" ⟨.ref C :: us, kw⟩).isGuard = false := by
    first | rfl | simp [Code.isGuard, guardIds]
  simp [Around.under, Code.guards, e, pushGuards, h]
/-- C(..) -/
theorem runG_make {pins : List (Addr × Obj)} {σ : L2.St} {H : Hp} {s : Shared} {Q : VK} {us : List Value} {vs : List V} (M : Mk X.K C f) (F : FnG X.prog X.w X.K X.mg X.base C0 k f fd ps sp) (hgd : X.A.guards = some []) (hr : Room (k + 1) X.A) (hb : Binds X.K fd ps [])
    (hx : Passes C0 X E) (I : Inv X pins σ H s) (r : Vals vs us)
    (h : ∀ x dx, H x = none → H dx = none → dx ≠ x → sp (.ref x :: vs) (upd (upd H dx (.own x)) x (.ins C dx [])) (fun v H2 => v = .non ∧ Q (.ref x) H2) E) :
    wpAny (model X.prog X.w) X.A (call (.ref C) us) (EP X pins σ Q) X.xe s := by
  have hq := h (s.heap.objs.size + 1) s.heap.objs.size (I.hok.fresh (Nat.le_succ _)) (I.hok.fresh (Nat.le_refl _)) (Nat.ne_of_lt (Nat.lt_succ_self _))
  have I2 := Inv.made (C := C) I
  have r2 : Vals (V.ref (s.heap.objs.size + 1) :: vs) (Value.ref (s.heap.objs.size + 1) :: us) := .cons rfl r
  have hl : ((Value.ref (s.heap.objs.size + 1) :: us) ++ []).length = ps.length := by
    rw [List.append_nil, ← r2.length]
    exact F.len _ _ _ _ hq
  have bd := hb _ (Value.ref (s.heap.objs.size + 1) :: us) I2.kIn hl
  rw [List.append_nil] at bd
  refine wpAny_call (make_map (f := f) I.kIn M.makes M.init (beq_iff_eq.mp M.fn) (codeAny_mono (F.run _ X.stack _ _ ⟨Value.ref (s.heap.objs.size + 1) :: us, []⟩ (Value.ref (s.heap.objs.size + 1) :: us) _ _ E (make_guards hgd) (hr.make C us [])
    (I2.env0.make C us []) bd r2 hq) fun r s' hq' => ?_))
  cases r with
  | error e => exact hx pins σ _ _ e s' I2 hq'
  | ok fl =>
    cases fl with
    | ret u =>
      obtain ⟨v, H', I3, rv, ev, q3⟩ := I2.after hq'
      subst ev
      exact ⟨rv, V.ref (s.heap.objs.size + 1), H', I3, rfl, q3⟩
    | _ => exact False.elim hq'
theorem peG_make (M : Mk X.K C f) (F : FnG X.prog X.w X.K X.mg X.base C0 k f fd ps sp) (hgd : X.A.guards = some []) (hr : Room (k + 1) X.A) (hg : Gl X x) (hm : X.mg x = some (.ref C)) (hb : Binds X.K fd ps []) (hx : Passes C0 X E)
    (ha : PA X (e :: es) t) (hdb : (x == ("__debug__" : Str)) = false) (he : starEach (e :: es) X.env = (false, eval e X.env) :: starEach es X.env) (hpl : (backTo pos (starEach es X.env)).any (·.1) = false) :
    PE X (.Call (.Name x p) (e :: es) [] pos) (tMake C sp [] E t) := by
  refine ⟨fun pins s σ H Q I h => wpAny_Call_Name_kw (ld_glob I hg hm ?_ hdb)⟩
  refine PySem.W.callWith_K (h₀ := X.base) I.ok.mod.kin M.kp (thn (ha.run pos pins s σ H _ I h) fun us s1 ⟨vs, H1, I1, r, q⟩ => ⟨I1.kIn, ?_⟩) he hpl
  refine runG_make M F hgd hr hb hx I1 r fun x dx h1 h2 h3 => ?_
  have := q x dx h1 h2 h3
  rw [List.append_nil] at this
  exact this
theorem peG_make0 (M : Mk X.K C f) (F : FnG X.prog X.w X.K X.mg X.base C0 k f fd ps sp) (hgd : X.A.guards = some []) (hr : Room (k + 1) X.A) (hg : Gl X x) (hm : X.mg x = some (.ref C)) (hb : Binds X.K fd ps []) (hx : Passes C0 X E)
    (hdb : (x == ("__debug__" : Str)) = false) : PE X (.Call (.Name x p) [] [] pos) (tMake C sp [] E tNil) := by
  refine ⟨fun pins s σ H Q I h => wpAny_Call_Name_kw (ld_glob I hg hm ?_ hdb)⟩
  exact PySem.W.callWith_K0 I.kIn M.kp (runG_make (us := []) M F hgd hr hb hx I .nil h)
end
end PyI
namespace PyI
open PySem L2

/-- what a def of the table promises -/
def SpD (K : PySem.W.Frag) (M : Nm) (cf : CF) (f : Nat) : Sp := fun vs H Q _ => ∃ Z ι S ds d st S', HR K M H Z ι S ∧ Reps K H Z ι S.length vs ds ∧ cf f ds S = some (d, st, S') ∧
  ∀ v H' Z' ι', Ext H Z ι S.length H' Z' ι' S'.length → HR K M H' Z' ι' S' → VR K H' Z' ι' S'.length H st v d → Q v H'
def FnAt (X : Cx) (M : Nm) (cf : CF) (f : Nat) (x : Str) : Prop :=
  ∃ (k : Nat) (fa : Addr) (fd : FuncData) (ps : List Str), FnG X.prog X.w X.K X.mg X.base CX0 k fa fd ps (SpD X.K M cf f) ∧ Room k X.A ∧ X.mg x = some (.ref fa) ∧ PySem.W.keepIn X.K (.ref fa) = true ∧ Binds X.K fd ps []
/-- a method, a maker -/
def MeAt (X : Cx) (M : Nm) (cf : CF) (f c : Nat) (m : Str) : Prop :=
  ∃ (k : Nat) (fa : Addr) (fd : FuncData) (ps : List Str), FnG X.prog X.w X.K X.mg X.base CX0 k fa fd ps (SpD X.K M cf f) ∧ Room k X.A ∧ Cls X.K (M.cls c) ∧ Meth X.K (M.cls c) m fa ∧ Binds X.K fd ps [] ∧ ∀ x, M.fld x ≠ m
def MkAt (X : Cx) (M : Nm) (cf : CF) (f c : Nat) (nm : Str) : Prop :=
  ∃ (k : Nat) (fa : Addr) (fd : FuncData) (ps : List Str), FnG X.prog X.w X.K X.mg X.base CX0 k fa fd ps (SpD X.K M cf f) ∧ Room (k + 1) X.A ∧ Mk X.K (M.cls c) fa ∧ X.mg nm = some (.ref (M.cls c)) ∧ Binds X.K fd ps []
structure XC (cx : MC) (sc : Scope) (M : Nm) (cf : CF) (X : Cx) : Prop where
  sc : X.env.scope = sc
  N : X.N = cx.N
  nd : X.N.Nodup
  calm : X.calm = true
  units : X.A.units + 65 < cLine
  bl : ∀ x ∈ cx.bl, X.mg x = none
  fn : ∀ f x, cx.fn f = some x → FnAt X M cf f x
  gi : ∀ x i, cx.gi.lookup x = some i → ∃ t, X.mg x = some (.int i t)
  gs : ∀ x i, cx.gs.lookup x = some i → ∃ t, X.mg x = some (.str (txt i) t)
  gd : X.A.guards = some []
  me : ∀ f c m, cx.me f = some (c, m) → (cx.cn c).isSome = true → MeAt X M cf f c m
  mkr : ∀ f c nm, cx.me f = some (c, ("__init__" : Str)) → cx.cn c = some nm → MkAt X M cf f c nm
  fl : ∀ c x s, (cx.cn c).isSome = true → cx.fl x = some s → Cls X.K (M.cls c) ∧ NoAttr X.K (M.cls c) s ∧ M.fld x = s

section
variable {X : Cx}
theorem PE.imp {e : Expr} {t t' : TE} (h : PE X e t) (i : ∀ σ H Q, t' σ H Q → t σ H Q) : PE X e t' := ⟨fun pins s σ H Q I hq => h.run pins s σ H Q I (i σ H Q hq)⟩
theorem PT.imp {e : Expr} {t t' : TT} (h : PT X e t) (i : ∀ σ H Q, t' σ H Q → t σ H Q) : PT X e t' := ⟨fun pins s σ H Q I hq => h.run pins s σ H Q I (i σ H Q hq)⟩
theorem PW.imp {e : Expr} {t t' : TT} (h : PW X e t) (i : ∀ σ H Q, t' σ H Q → t σ H Q) : PW X e t' := ⟨fun w pins s σ H Q I hq => h.run w pins s σ H Q I (i σ H Q hq)⟩
theorem PA.imp {e : List Expr} {t t' : TA} (h : PA X e t) (i : ∀ σ H Q, t' σ H Q → t σ H Q) : PA X e t' := ⟨fun p pins s σ H Q I hq => h.run p pins s σ H Q I (i σ H Q hq)⟩
theorem PI.imp {tg e : Expr} {t t' : TI} (h : PI X tg e t) (i : ∀ σ H Q, t' σ H Q → t σ H Q) : PI X tg e t' := ⟨fun pins s σ H Q I hq => h.run pins s σ H Q I (i σ H Q hq)⟩
end

section
variable (K : PySem.W.Frag) (M : Nm) (cf : CF)
/-- the start of a step: the heap stands for the store, the slots for the frame -/
def tE (e : E) : TE := fun σ H Q => ∃ Z ι S H0 ρ d st S', HR K M H Z ι S ∧ SR K H Z ι S.length H0 ρ σ ∧ ev cf e ρ S = some (d, st, S') ∧
  ∀ v H' Z' ι', Ext H Z ι S.length H' Z' ι' S'.length → HR K M H' Z' ι' S' → VR K H' Z' ι' S'.length H st v d → Q v H'
def tT (e : E) : TT := fun σ H Q => ∃ Z ι S H0 ρ b st S', HR K M H Z ι S ∧ SR K H Z ι S.length H0 ρ σ ∧ ev cf e ρ S = some (.bl b, st, S') ∧
  ∀ H' Z' ι', Ext H Z ι S.length H' Z' ι' S'.length → HR K M H' Z' ι' S' → Q b H'
def tF (es : Es) : TA := fun σ H Q => ∃ Z ι S H0 ρ ds S', HR K M H Z ι S ∧ SR K H Z ι S.length H0 ρ σ ∧ evF cf es ρ S = some (ds, S') ∧
  ∀ vs H' Z' ι', Ext H Z ι S.length H' Z' ι' S'.length → HR K M H' Z' ι' S' → Reps K H' Z' ι' S'.length vs ds → Q vs H'
def tR (es : Es) : TA := fun σ H Q => ∃ Z ι S H0 ρ ds S', HR K M H Z ι S ∧ SR K H Z ι S.length H0 ρ σ ∧ evR cf es ρ S = some (ds, S') ∧
  ∀ vs H' Z' ι', Ext H Z ι S.length H' Z' ι' S'.length → HR K M H' Z' ι' S' → Paired (fun v d => ∃ st, VR K H' Z' ι' S'.length H st v d) vs ds → Q vs H'
end
section
variable {K : PySem.W.Frag} {M : Nm} {cf : CF}
theorem andT_inv {β : Type} {x : R} {f : D → Stt → Store → Option β} {r : β} (h : andT x f = some r) : ∃ d s S, x = some (d, s, S) ∧ f d s S = some r := by
  unfold andT at h
  split at h
  · exact ⟨_, _, _, rfl, h⟩
  · cases h
theorem opt_inv {x : Option D} {S S' : Store} {d : D} {st : Stt} (h : opt x S = some (d, st, S')) : x = some d ∧ stD d = st ∧ S = S' := by
  unfold opt at h
  split at h
  · unfold ok at h; cases h; exact ⟨rfl, rfl, rfl⟩
  · cases h
theorem VR.back {H H2 H' : Hp} {Z : Addr → Prop} {ι : Nat → Addr} {n : Nat} {st : Stt} {v : V} {d : D} (al : ∀ a, H a ≠ none → H2 a ≠ none) (r : VR K H' Z ι n H2 st v d) : VR K H' Z ι n H st v d := by
  cases st with
  | fr => exact r
  | fresh =>
    obtain ⟨a, e, h0, q⟩ := r
    refine ⟨a, e, ?_, q⟩
    cases c : H a with
    | none => rfl
    | some o => exact absurd h0 (al a (by rw [c]; simp))
  | own => exact r
theorem Ext.gr {H H' : Hp} {Z : Addr → Prop} {ι : Nat → Addr} {n : Nat} (g : Grow H H') : Ext H Z ι n H' Z ι n := Ext.grow g (fun _ z => z) fun _ z => .inl z
theorem HR.gr {H H' : Hp} {Z : Addr → Prop} {ι : Nat → Addr} {S : Store} (h : HR K M H Z ι S) (g : Grow H H') : HR K M H' Z ι S := h.grow g (fun _ z => z) (fun a z e => by
  cases q : H a with
  | none => exact h.zs a z q
  | some o => rw [g a o q] at e; cases e) h.nz
theorem nv_vr {H H' : Hp} {Z : Addr → Prop} {ι : Nat → Addr} {S : Store} {v : V} {d : D} (h : HR K M H Z ι S) (g : Grow H H') (r : NV K H Z ι S.length H' v d) : VR K H' Z ι S.length H (stD d) v d := by
  have key : (∃ a, v = .ref a ∧ H a = none ∧ LR K H' Z ι S.length a d) → VR K H' Z ι S.length H .fresh v d := fun ⟨a, e, hn, l⟩ =>
    ⟨a, e, hn, fun z => h.zs a z hn, (fun l hl q => by
      have := h.at hl
      rw [q] at this
      cases c : S[l] <;> rw [c] at this
      · obtain ⟨xs, e, _⟩ := this; rw [hn] at e; cases e
      · obtain ⟨xs, e, _⟩ := this; rw [hn] at e; cases e
      · obtain ⟨dx, xs, e, _⟩ := this; rw [hn] at e; cases e
      · obtain ⟨o, kvs, e⟩ := this; rw [hn] at e; cases e), l⟩
  cases d <;> first | exact key r | exact r
theorem rd_rd {H : Hp} {Z : Addr → Prop} {ι : Nat → Addr} {S : Store} {v : V} {d : D} (h : HR K M H Z ι S) (r : RdV K H Z ι S.length v d) : RdV K H Z ι S.length v (rd S d) := by
  cases d with
  | ref l =>
    rcases r with r | ⟨a, _, r⟩
    · cases r with
      | ref hl =>
        have := h.at hl
        dsimp only [rd]
        rw [List.getElem?_eq_getElem hl]
        cases c : S[l] <;> rw [c] at this
        · exact .inr ⟨_, rfl, this⟩
        · obtain ⟨kvs, e, q1, q2⟩ := this
          exact .inr ⟨_, rfl, kvs, .inl e, q1, q2⟩
        · exact .inl (.ref hl)
        · exact .inl (.ref hl)
    · exact r.elim
  | dictF ks vs =>
    rcases r with r | ⟨a, _, r⟩
    · exact r.unF
    · exact r.elim
  | _ => exact r
/-- one step of an operation behind what went ahead -/
theorem fin {H H2 H' : Hp} {Z Z2 : Addr → Prop} {ι ι2 : Nat → Addr} {n : Nat} {S2 : Store} {d : D} {v : V} {Q : VK} (x : Ext H Z ι n H2 Z2 ι2 S2.length) (r2 : HR K M H2 Z2 ι2 S2)
    (k : ∀ v H' Z' ι', Ext H Z ι n H' Z' ι' S2.length → HR K M H' Z' ι' S2 → VR K H' Z' ι' S2.length H (stD d) v d → Q v H') (g : Grow H2 H') (nv : NV K H2 Z2 ι2 S2.length H' v d) : Q v H' :=
  k v H' Z2 ι2 (x.trans (Ext.gr g)) (r2.gr g) ((nv_vr r2 g nv).back x.al)
/-- a value as it was, handed on -/
theorem fin0 {H H2 : Hp} {Z Z2 : Addr → Prop} {ι ι2 : Nat → Addr} {n : Nat} {S2 : Store} {d : D} {v : V} {Q : VK} (x : Ext H Z ι n H2 Z2 ι2 S2.length) (r2 : HR K M H2 Z2 ι2 S2)
    (k : ∀ v H' Z' ι', Ext H Z ι n H' Z' ι' S2.length → HR K M H' Z' ι' S2 → VR K H' Z' ι' S2.length H .fr v d → Q v H') (r : Rep K H2 Z2 ι2 S2.length v d) : Q v H2 :=
  k v H2 Z2 ι2 x r2 r
end

/-- a value, a test -/
structure Snd (cx : MC) (M : Nm) (cf : CF) (e : E) (X : Cx) (p : Expr) : Prop where
  pe : PE X p (tE X.K M cf e)
  pt : PT X p (tT X.K M cf e)
  pw : ∀ op vs pos, p = .BoolOp op vs pos → PW X p (tT X.K M cf e)
section
variable {cx : MC} {sc : Scope} {M : Nm} {cf : CF} {X : Cx}
theorem VR.isbl {K : PySem.W.Frag} {H H0 : Hp} {Z : Addr → Prop} {ι : Nat → Addr} {n : Nat} {st : Stt} {v : V} {b : Bool} (r : VR K H Z ι n H0 st v (.bl b)) : v = .bl b := r.rd.bl
/-- a test by its value -/
theorem pt_of {e : E} {p : Expr} (h : PE X p (tE X.K M cf e)) (he : ∀ whole, isTrue p X.env whole = (do let v ← whole; standAt p.pos; holding [v] (truthy v))) : PT X p (tT X.K M cf e) :=
  PT.imp (pt_val h he) fun σ H Q ⟨Z, ι, S, H0, ρ, b, st, S', hR, sR, e, k⟩ => ⟨Z, ι, S, H0, ρ, .bl b, st, S', hR, sR, e, fun v H' Z' ι' x r vr => ⟨b, vr.isbl, k H' Z' ι' x r⟩⟩
theorem snd_of {e : E} {p : Expr} (h : PE X p (tE X.K M cf e)) (he : ∀ whole, isTrue p X.env whole = (do let v ← whole; standAt p.pos; holding [v] (truthy v))) (hb : ∀ op vs pos, p ≠ .BoolOp op vs pos) : Snd cx M cf e X p :=
  ⟨h, pt_of h he, fun op vs pos q => absurd q (hb op vs pos)⟩

theorem nmAt_ok {i : Nat} {x : Str} (c : XC cx sc M cf X) (h : nmAt cx i x = true) : X.N[i]? = some x := by
  rw [c.N]; exact of_decide_eq_true h
theorem vis_ok {x : Str} (c : XC cx sc M cf X) (h : visB sc x = true) : Vis X.env.scope x := by
  unfold visB at h
  rw [← c.sc] at h
  split at h <;> first | exact .inl (by assumption) | exact .inr (.inl (by assumption)) | exact .inr (.inr (by assumption)) | cases h
theorem gl_ok {x : Str} (c : XC cx sc M cf X) (h : glB sc x = true) : Gl X x := by
  unfold glB at h
  rw [← c.sc] at h
  split at h
  · assumption
  · cases h
theorem okNm_ok {x : Str} (h : okNm x = true) : (x == ("__debug__" : Str)) = false ∧ (x == ("__classdict__" : Str)) = false ∧ x ≠ "__name__" := by
  unfold okNm at h
  simp only [Bool.and_eq_true, Bool.not_eq_true'] at h
  exact ⟨h.1.1, h.1.2, fun e => by rw [e] at h; simp at h⟩
theorem blt_ok {x : Str} (c : XC cx sc M cf X) (h : bltB cx sc x = true) : Gl X x ∧ X.mg x = none ∧ (x == ("__debug__" : Str)) = false ∧ x ≠ "__name__" := by
  unfold bltB at h
  simp only [Bool.and_eq_true] at h
  obtain ⟨⟨h1, h2⟩, h3⟩ := h
  obtain ⟨q1, _, q2⟩ := okNm_ok h3
  exact ⟨gl_ok c h1, c.bl x (by simpa using h2), q1, q2⟩

theorem s_var {i : Nat} {p : Expr} (c : XC cx sc M cf X) (h : mtE cx sc (.var i) p = true) : Snd cx M cf (.var i) X p := by
  cases p <;> simp only [mtE, Bool.false_eq_true] at h
  simp only [Bool.and_eq_true] at h
  obtain ⟨q1, q2, _⟩ := okNm_ok h.2
  refine snd_of (PE.imp (pe_var (nmAt_ok c h.1.1) (vis_ok c h.1.2) q1 q2) fun σ H Q ⟨Z, ι, S, H0, ρ, d, st, S', hR, sR, e, k⟩ => ?_) (fun _ => rfl) (fun _ _ _ q => nomatch q)
  simp only [ev] at e
  split at e
  · rename_i d' hd
    cases e
    obtain ⟨v, e1, r⟩ := sR.val i _ hd
    exact ⟨v, e1, k v H Z ι Ext.refl hR r⟩
  · cases e
theorem s_own {i : Nat} {p : Expr} (c : XC cx sc M cf X) (h : mtE cx sc (.own i) p = true) : Snd cx M cf (.own i) X p := by
  cases p <;> simp only [mtE, Bool.false_eq_true] at h
  simp only [Bool.and_eq_true] at h
  obtain ⟨q1, q2, _⟩ := okNm_ok h.2
  refine snd_of (PE.imp (pe_var (nmAt_ok c h.1.1) (vis_ok c h.1.2) q1 q2) fun σ H Q ⟨Z, ι, S, H0, ρ, d, st, S', hR, sR, e, k⟩ => ?_) (fun _ => rfl) (fun _ _ _ q => nomatch q)
  simp only [ev] at e
  split at e
  · rename_i d' hd
    cases e
    obtain ⟨a, e1, _, r⟩ := sR.own i _ hd
    exact ⟨.ref a, e1, k _ H Z ι Ext.refl hR ⟨a, rfl, r⟩⟩
  · cases e
theorem s_con {e : E} {v : V} {d : D} {p : Expr} (h : PE X p (tC v)) (he : ∀ ρ S, ev cf e ρ S = some (d, .fr, S)) (hr : ∀ H Z ι n, Rep X.K H Z ι n v d) (ht : ∀ whole, isTrue p X.env whole = (do let v ← whole; standAt p.pos; holding [v] (truthy v))) (hb : ∀ op vs pos, p ≠ .BoolOp op vs pos) : Snd cx M cf e X p := by
  refine snd_of (PE.imp h fun σ H Q ⟨Z, ι, S, H0, ρ, d', st, S', hR, sR, e, k⟩ => ?_) ht hb
  rw [he] at e
  cases e
  exact k v H Z ι Ext.refl hR (hr H Z ι S.length)
theorem s_non {p : Expr} (h : mtE cx sc .non p = true) : Snd cx M cf .non X p := by
  cases p <;> try (simp [mtE] at h; done)
  rename_i c j pos
  cases c <;> try (simp [mtE] at h; done)
  exact s_con pe_non (fun _ _ => rfl) (fun _ _ _ _ => .non) (fun _ => rfl) (fun _ _ _ q => nomatch q)
theorem s_bl {b : Bool} {p : Expr} (h : mtE cx sc (.bl b) p = true) : Snd cx M cf (.bl b) X p := by
  cases p <;> try (simp [mtE] at h; done)
  rename_i c j pos
  cases c <;> try (simp [mtE] at h; done)
  simp only [mtE, beq_iff_eq] at h
  subst h
  exact s_con pe_bl (fun _ _ => rfl) (fun _ _ _ _ => .bl _) (fun _ => rfl) (fun _ _ _ q => nomatch q)
theorem s_int {b : Int} {p : Expr} (h : mtE cx sc (.int b) p = true) : Snd cx M cf (.int b) X p := by
  cases p <;> try (simp [mtE] at h; done)
  rename_i c j pos
  cases c <;> try (simp [mtE] at h; done)
  simp only [mtE, beq_iff_eq] at h
  subst h
  exact s_con pe_int (fun _ _ => rfl) (fun _ _ _ _ => .int _) (fun _ => rfl) (fun _ _ _ q => nomatch q)
theorem s_str {b : List Nat} {p : Expr} (h : mtE cx sc (.str b) p = true) : Snd cx M cf (.str b) X p := by
  cases p <;> try (simp [mtE] at h; done)
  rename_i c j pos
  cases c <;> try (simp [mtE] at h; done)
  simp only [mtE, decide_eq_true_eq] at h
  subst h
  exact s_con pe_str (fun _ _ => rfl) (fun _ _ _ _ => .str _) (fun _ => rfl) (fun _ _ _ q => nomatch q)
/-- two parts in a row, then an operation -/
theorem two {K : PySem.W.Frag} {a b : E} {r : R2} {σ : St} {H : Hp} {Q : VK} {Z : Addr → Prop} {ι : Nat → Addr} {S : Store} {H0 : Hp} {ρ : SEnv} {x y : D} {sx sy : Stt} {S1 S2 : Store} (hR : HR K M H Z ι S) (sR : SR K H Z ι S.length H0 ρ σ) (e1 : ev cf a ρ S = some (x, sx, S1)) (e2 : ev cf b ρ S1 = some (y, sy, S2))
    (k : ∀ v1 v2 H2 Z2 ι2, Ext H Z ι S.length H2 Z2 ι2 S2.length → HR K M H2 Z2 ι2 S2 → SR K H2 Z2 ι2 S2.length H0 ρ σ → VR K H2 Z2 ι2 S2.length H sx v1 x → VR K H2 Z2 ι2 S2.length H sy v2 y → r v1 v2 H2 Q) : tOp r (tE K M cf a) (tE K M cf b) σ H Q :=
  ⟨Z, ι, S, H0, ρ, x, sx, S1, hR, sR, e1, fun v1 H1 Z1 ι1 x1 r1 w1 => ⟨Z1, ι1, S1, H0, ρ, y, sy, S2, r1, sR.ext hR x1, e2, fun v2 H2 Z2 ι2 x2 r2 w2 =>
    k v1 v2 H2 Z2 ι2 (x1.trans x2) r2 ((sR.ext hR x1).ext r1 x2) (w1.ext r1 x2) (w2.back x1.al)⟩⟩
theorem s_op {o : Op2} {a b : E} {f : Value → Value → Sem Value} {l r : Expr} {p : Expr} (hf : ∀ ta tb, PE X l ta → PE X r tb → ∀ rr, OpR X f rr → PE X p (tOp rr ta tb)) (ho : OpR X f (rB X.K (binD o))) (ha : PE X l (tE X.K M cf a)) (hb : PE X r (tE X.K M cf b)) : PE X p (tE X.K M cf (.bin o a b)) := by
  refine PE.imp (hf _ _ ha hb _ ho) fun σ H Q ⟨Z, ι, S, H0, ρ, d, st, S', hR, sR, e, k⟩ => ?_
  simp only [ev] at e
  obtain ⟨x, sx, S1, e1, e⟩ := andT_inv e
  obtain ⟨y, sy, S2, e2, e⟩ := andT_inv e
  obtain ⟨e', es, eS⟩ := opt_inv e
  subst es
  subst eS
  clear e
  have e := e'
  refine two hR sR e1 e2 fun v1 v2 H2 Z2 ι2 x2 r2 _ w1 w2 => ?_
  exact ⟨Z2, ι2, _, _, _, d, rd_rd r2 w1.rd, rd_rd r2 w2.rd, e, fun v H' g nv => fin x2 r2 k g nv⟩
theorem bin_ok (c : XC cx sc M cf X) {o : Op2} {op : Operator} (h : pyBin o = some op) : OpR X (binaryOp op) (rB X.K (binD o)) := by
  cases o <;> simp [pyBin] at h <;> subst h
  · exact opAdd
  · exact opSub
  · exact opMul
  · exact opDiv
  · exact opMod
  · exact opPow
theorem cmp_ok (c : XC cx sc M cf X) {o : Op2} {op : CmpOp} (h : pyCmp o = some op) : OpR X (compareOp op) (rB X.K (binD o)) := by
  cases o <;> simp [pyCmp] at h <;> subst h
  · exact opEq c.units
  · exact opNe c.units
  · exact opLt c.units
  · exact opLe c.units
  · exact opGt c.units
  · exact opGe c.units
  · exact opIn c.units
  · exact opNotIn c.units
  · exact opIs
  · exact opIsNot
/-- a comparison as a test -/
theorem pt_cmp2 {o : Op2} {a b : E} {op : CmpOp} {rr : R2} {l r : Expr} {pos : Pos} (ho : OpR X (compareOp op) rr) (hm : behindInMarks op r = false) (ha : PE X l (tE X.K M cf a)) (hb : PE X r (tE X.K M cf b))
    (i : ∀ σ H Q, tE X.K M cf (.bin o a b) σ H Q → tOp rr (tE X.K M cf a) (tE X.K M cf b) σ H Q) : Snd cx M cf (.bin o a b) X (.Compare l [op] [r] pos) := by
  refine ⟨PE.imp (pe_cmpR ho ha hb hm) i, PT.imp (pt_cmpR ho ha hb hm) fun σ H Q ⟨Z, ι, S, H0, ρ, b, st, S', hR, sR, e, k⟩ => ?_, fun _ _ _ q => nomatch q⟩
  exact i σ H _ ⟨Z, ι, S, H0, ρ, .bl b, st, S', hR, sR, e, fun v H' Z' ι' x r vr => ⟨b, vr.isbl, k H' Z' ι' x r⟩⟩
theorem s_bin {o : Op2} {a b : E} {p : Expr} (c : XC cx sc M cf X) (iha : ∀ p, mtE cx sc a p = true → Snd cx M cf a X p) (ihb : ∀ p, mtE cx sc b p = true → Snd cx M cf b X p) (h : mtE cx sc (.bin o a b) p = true) : Snd cx M cf (.bin o a b) X p := by
  cases p <;> try (simp only [mtE, Bool.false_eq_true] at h; done)
  case BinOp l op r pos =>
    simp only [mtE, Bool.and_eq_true, decide_eq_true_eq] at h
    exact snd_of (s_op (fun ta tb h1 h2 rr ho => pe_op ho h1 h2) (bin_ok c h.1.1) (iha l h.1.2).pe (ihb r h.2).pe) (fun _ => rfl) (fun _ _ _ q => nomatch q)
  case Compare l ops cs pos =>
    rcases ops with _ | ⟨op, _ | ⟨op2, ops⟩⟩ <;> rcases cs with _ | ⟨r, _ | ⟨r2, cs⟩⟩ <;> try (simp only [mtE, Bool.false_eq_true] at h; done)
    simp only [mtE, Bool.and_eq_true, Bool.or_eq_true, decide_eq_true_eq] at h
    obtain ⟨⟨⟨h1, h2⟩, h3⟩, h4⟩ := h
    have pa := (iha l h1).pe
    have pb := (ihb r h2).pe
    have i1 : ∀ σ H Q, tE X.K M cf (.bin o a b) σ H Q → tOp (rB X.K (binD o)) (tE X.K M cf a) (tE X.K M cf b) σ H Q := fun σ H Q ⟨Z, ι, S, H0, ρ, d, st, S', hR, sR, e, k⟩ => by
      simp only [ev] at e
      obtain ⟨x, sx, S1, e1, e⟩ := andT_inv e
      obtain ⟨y, sy, S2, e2, e⟩ := andT_inv e
      obtain ⟨e', es, eS⟩ := opt_inv e
      subst es
      subst eS
      clear e
      have e := e'
      refine two hR sR e1 e2 fun v1 v2 H2 Z2 ι2 x2 r2 _ w1 w2 => ?_
      exact ⟨Z2, ι2, _, _, _, d, rd_rd r2 w1.rd, rd_rd r2 w2.rd, e, fun v H' g nv => fin x2 r2 k g nv⟩
    rcases h4 with h4 | ⟨hn, h4⟩
    · exact pt_cmp2 (cmp_ok c h4) (marks_plain h3) pa pb i1
    · have eb : b = .non := by cases b <;> simp [noneE] at hn ⊢
      subst eb
      have i2 : ∀ σ H Q, (o = .isn ∨ o = .isnn) → tE X.K M cf (.bin o a .non) σ H Q → tOp (fun x y H Q => y = .non ∧ ∃ Z ι n a, RdV X.K H Z ι n x a ∧ ∀ d, binD o a .non = some d → Q (match d with | .bl b => .bl b | _ => .non) H) (tE X.K M cf a) (tE X.K M cf .non) σ H Q := fun σ H Q ho ⟨Z, ι, S, H0, ρ, d, st, S', hR, sR, e, k⟩ => by
        simp only [ev] at e
        obtain ⟨x, sx, S1, e1, e⟩ := andT_inv e
        simp only [andT_some] at e
        obtain ⟨e', es, eS⟩ := opt_inv e
        subst es
        subst eS
        clear e
        have e := e'
        refine two hR sR e1 (y := .non) (sy := .fr) (S2 := S1) rfl fun v1 v2 H2 Z2 ι2 x2 r2 _ w1 w2 => ?_
        refine ⟨w2.rd.non, Z2, ι2, _, _, rd_rd r2 w1.rd, fun d' hd => ?_⟩
        have e' : binD o (rd S1 x) .non = some d := e
        rw [e'] at hd
        cases hd
        have hb : ∃ b, d = .bl b := by
          rcases ho with rfl | rfl <;> simp only [binD] at e' <;> split at e' <;> cases e' <;> exact ⟨_, rfl⟩
        obtain ⟨b, rfl⟩ := hb
        exact k (.bl b) H2 Z2 ι2 x2 r2 (Rep.bl b)
      rcases h4 with ⟨rfl, rfl⟩ | ⟨rfl, rfl⟩
      · exact pt_cmp2 opIsN (marks_plain h3) pa pb fun σ H Q => i2 σ H Q (.inl rfl)
      · exact pt_cmp2 opIsNN (marks_plain h3) pa pb fun σ H Q => i2 σ H Q (.inr rfl)
end
end PyI
namespace PyI
open PySem L2

section
variable {cx : MC} {sc : Scope} {M : Nm} {cf : CF} {X : Cx}
/-- what stands behind a step, frozen -/
theorem frz_step {K : PySem.W.Frag} {H H1 : Hp} {Z Z1 : Addr → Prop} {ι ι1 : Nat → Addr} {n : Nat} {S1 : Store} {st : Stt} {v : V} {d : D} (x : Ext H Z ι n H1 Z1 ι1 S1.length) (r1 : HR K M H1 Z1 ι1 S1) (hs : st ≠ .own) (r : VR K H1 Z1 ι1 S1.length H st v d) :
    ∃ Z2, Ext H Z ι n H1 Z2 ι1 S1.length ∧ HR K M H1 Z2 ι1 S1 ∧ Rep K H1 Z2 ι1 S1.length v d ∧ Keep K H1 Z1 ι1 S1.length H1 Z2 ι1 S1.length := by
  obtain ⟨Z2, q1, q2, q3, q4, q5⟩ := VR.freeze r1 hs r
  refine ⟨Z2, ⟨x.le, x.ag, fun a z => q1 a (x.zz a z), fun a z => ?_, x.fn, x.fr, x.al, x.fz⟩, r1.grow (fun _ _ h => h) q1 q3 q4, q5, ⟨Nat.le_refl _, fun _ _ => rfl, q1, fun _ _ h => h, fun _ _ _ h => h, fun _ _ _ h => h⟩⟩
  rcases q2 a z with z | z
  · exact x.zn a z
  · exact .inr z
theorem s_neg {a : E} {p : Expr} (iha : ∀ p, mtE cx sc a p = true → Snd cx M cf a X p) (h : mtE cx sc (.neg a) p = true) : Snd cx M cf (.neg a) X p := by
  cases p <;> try (simp [mtE] at h; done)
  rename_i op q pos
  cases op <;> try (simp [mtE] at h; done)
  simp only [mtE] at h
  refine snd_of (PE.imp (pe_un un_neg (iha q h).pe) fun σ H Q ⟨Z, ι, S, H0, ρ, d, st, S', hR, sR, e, k⟩ => ?_) (fun _ => rfl) (fun _ _ _ q => nomatch q)
  simp only [ev] at e
  obtain ⟨x, sx, S1, e1, e⟩ := andT_inv e
  split at e
  · unfold ok at e
    cases e
    exact ⟨Z, ι, S, H0, ρ, _, sx, S', hR, sR, e1, fun v1 H1 Z1 ι1 x1 r1 w1 => ⟨_, w1.rd.int, fin x1 r1 k Grow.refl (Rep.int _)⟩⟩
  · cases e
theorem s_not {a : E} {p : Expr} (iha : ∀ p, mtE cx sc a p = true → Snd cx M cf a X p) (h : mtE cx sc (.not a) p = true) : Snd cx M cf (.not a) X p := by
  cases p <;> try (simp [mtE] at h; done)
  rename_i op q pos
  cases op <;> try (simp [mtE] at h; done)
  simp only [mtE] at h
  have i : ∀ σ H (Q : Bool → Hp → Prop) Z ι S H0 ρ d st S', HR X.K M H Z ι S → SR X.K H Z ι S.length H0 ρ σ → ev cf (.not a) ρ S = some (d, st, S') → (∀ b, d = .bl b → st = .fr → ∀ H' Z' ι', Ext H Z ι S.length H' Z' ι' S'.length → HR X.K M H' Z' ι' S' → Q b H') → tT X.K M cf a σ H fun b H' => Q (!b) H' := by
    intro σ H Q Z ι S H0 ρ d st S' hR sR e k
    simp only [ev] at e
    obtain ⟨x, sx, S1, e1, e⟩ := andT_inv e
    split at e
    · unfold ok at e
      cases e
      exact ⟨Z, ι, S, H0, ρ, _, sx, S', hR, sR, e1, fun H' Z' ι' x r => k _ rfl rfl H' Z' ι' x r⟩
    · cases e
  refine ⟨PE.imp (pe_not (iha q h).pe) fun σ H Q ⟨Z, ι, S, H0, ρ, d, st, S', hR, sR, e, k⟩ => ?_, PT.imp (pt_not (iha q h).pt) fun σ H Q ⟨Z, ι, S, H0, ρ, b, st, S', hR, sR, e, k⟩ => ?_, fun _ _ _ q => nomatch q⟩
  · simp only [ev] at e
    obtain ⟨x, sx, S1, e1, e⟩ := andT_inv e
    split at e
    · unfold ok at e
      cases e
      exact ⟨Z, ι, S, H0, ρ, _, sx, S', hR, sR, e1, fun v1 H1 Z1 ι1 x1 r1 w1 => ⟨_, w1.isbl, fin x1 r1 k Grow.refl (Rep.bl _)⟩⟩
    · cases e
  · exact i σ H Q Z ι S H0 ρ _ st S' hR sR e fun b' hb _ H' Z' ι' x r => by cases hb; exact k H' Z' ι' x r
theorem and_inv {a b : E} {ρ : SEnv} {S S' : Store} {d : D} {st : Stt} (e : ev cf (.and a b) ρ S = some (d, st, S')) :
    (∃ sx S1, ev cf a ρ S = some (.bl true, sx, S1) ∧ ev cf b ρ S1 = some (d, st, S')) ∨ ∃ sx, ev cf a ρ S = some (.bl false, sx, S') ∧ d = .bl false ∧ st = .fr := by
  simp only [ev] at e
  obtain ⟨x, sx, S1, e1, e⟩ := andT_inv e
  split at e
  · exact .inl ⟨sx, S1, e1, e⟩
  · unfold ok at e; cases e; exact .inr ⟨sx, e1, rfl, rfl⟩
  · cases e
theorem or_inv {a b : E} {ρ : SEnv} {S S' : Store} {d : D} {st : Stt} (e : ev cf (.or a b) ρ S = some (d, st, S')) :
    (∃ sx S1, ev cf a ρ S = some (.bl false, sx, S1) ∧ ev cf b ρ S1 = some (d, st, S')) ∨ ∃ sx, ev cf a ρ S = some (.bl true, sx, S') ∧ d = .bl true ∧ st = .fr := by
  simp only [ev] at e
  obtain ⟨x, sx, S1, e1, e⟩ := andT_inv e
  split at e
  · unfold ok at e; cases e; exact .inr ⟨sx, e1, rfl, rfl⟩
  · exact .inl ⟨sx, S1, e1, e⟩
  · cases e
theorem s_and {a b : E} {p : Expr} (iha : ∀ p, mtE cx sc a p = true → Snd cx M cf a X p) (ihb : ∀ p, mtE cx sc b p = true → Snd cx M cf b X p) (h : mtE cx sc (.and a b) p = true) : Snd cx M cf (.and a b) X p := by
  cases p <;> try (simp [mtE] at h; done)
  rename_i op vs pos
  cases op <;> rcases vs with _ | ⟨p, _ | ⟨q, r⟩⟩ <;> try (simp [mtE] at h; done)
  simp only [mtE, Bool.and_eq_true] at h
  have ha := iha p h.1
  have hb : PE X (.BoolOp .And (q :: r) pos) (tE X.K M cf b) ∧ PW X (.BoolOp .And (q :: r) pos) (tT X.K M cf b) := by
    cases r with
    | nil => exact ⟨pe_one (ihb q h.2).pe, pw_and1 (ihb q h.2).pt⟩
    | cons q2 r => exact ⟨(ihb _ h.2).pe, (ihb _ h.2).pw _ _ _ rfl⟩
  have pw : PW X (.BoolOp .And (p :: q :: r) pos) (tT X.K M cf (.and a b)) := PW.imp (pw_and ha.pt hb.2) fun σ H Q ⟨Z, ι, S, H0, ρ, b', st, S', hR, sR, e, k⟩ => by
    rcases and_inv e with ⟨sx, S1, e1, e2⟩ | ⟨sx, e1, hd, hs⟩
    · exact ⟨Z, ι, S, H0, ρ, true, sx, S1, hR, sR, e1, fun H1 Z1 ι1 x1 r1 => by
        exact ⟨Z1, ι1, S1, H0, ρ, b', st, S', r1, sR.ext hR x1, e2, fun H2 Z2 ι2 x2 r2 => k H2 Z2 ι2 (x1.trans x2) r2⟩⟩
    · cases hd
      exact ⟨Z, ι, S, H0, ρ, false, sx, S', hR, sR, e1, fun H1 Z1 ι1 x1 r1 => by
        exact k H1 Z1 ι1 x1 r1⟩
  refine ⟨PE.imp (pe_and ha.pe hb.1) fun σ H Q ⟨Z, ι, S, H0, ρ, d, st, S', hR, sR, e, k⟩ => ?_, pw.pt, fun op vs pos' e => by cases e; exact pw⟩
  rcases and_inv e with ⟨sx, S1, e1, e2⟩ | ⟨sx, e1, hd, hs⟩
  · exact ⟨Z, ι, S, H0, ρ, _, sx, S1, hR, sR, e1, fun v1 H1 Z1 ι1 x1 r1 w1 => ⟨true, w1.isbl, by
      exact ⟨Z1, ι1, S1, H0, ρ, d, st, S', r1, sR.ext hR x1, e2, fun v2 H2 Z2 ι2 x2 r2 w2 => k v2 H2 Z2 ι2 (x1.trans x2) r2 (w2.back x1.al)⟩⟩⟩
  · subst hd hs
    exact ⟨Z, ι, S, H0, ρ, _, sx, S', hR, sR, e1, fun v1 H1 Z1 ι1 x1 r1 w1 => ⟨false, w1.isbl, by
      exact k _ H1 Z1 ι1 x1 r1 (Rep.bl _)⟩⟩
theorem s_or {a b : E} {p : Expr} (iha : ∀ p, mtE cx sc a p = true → Snd cx M cf a X p) (ihb : ∀ p, mtE cx sc b p = true → Snd cx M cf b X p) (h : mtE cx sc (.or a b) p = true) : Snd cx M cf (.or a b) X p := by
  cases p <;> try (simp [mtE] at h; done)
  rename_i op vs pos
  cases op <;> rcases vs with _ | ⟨p, _ | ⟨q, r⟩⟩ <;> try (simp [mtE] at h; done)
  simp only [mtE, Bool.and_eq_true] at h
  have ha := iha p h.1
  have hb : PE X (.BoolOp .Or (q :: r) pos) (tE X.K M cf b) ∧ PW X (.BoolOp .Or (q :: r) pos) (tT X.K M cf b) := by
    cases r with
    | nil => exact ⟨pe_one (ihb q h.2).pe, pw_or1 (ihb q h.2).pt⟩
    | cons q2 r => exact ⟨(ihb _ h.2).pe, (ihb _ h.2).pw _ _ _ rfl⟩
  have pw : PW X (.BoolOp .Or (p :: q :: r) pos) (tT X.K M cf (.or a b)) := PW.imp (pw_or ha.pt hb.2) fun σ H Q ⟨Z, ι, S, H0, ρ, b', st, S', hR, sR, e, k⟩ => by
    rcases or_inv e with ⟨sx, S1, e1, e2⟩ | ⟨sx, e1, hd, hs⟩
    · exact ⟨Z, ι, S, H0, ρ, false, sx, S1, hR, sR, e1, fun H1 Z1 ι1 x1 r1 => by
        exact ⟨Z1, ι1, S1, H0, ρ, b', st, S', r1, sR.ext hR x1, e2, fun H2 Z2 ι2 x2 r2 => k H2 Z2 ι2 (x1.trans x2) r2⟩⟩
    · cases hd
      exact ⟨Z, ι, S, H0, ρ, true, sx, S', hR, sR, e1, fun H1 Z1 ι1 x1 r1 => by
        exact k H1 Z1 ι1 x1 r1⟩
  refine ⟨PE.imp (pe_or ha.pe hb.1) fun σ H Q ⟨Z, ι, S, H0, ρ, d, st, S', hR, sR, e, k⟩ => ?_, pw.pt, fun op vs pos' e => by cases e; exact pw⟩
  rcases or_inv e with ⟨sx, S1, e1, e2⟩ | ⟨sx, e1, hd, hs⟩
  · exact ⟨Z, ι, S, H0, ρ, _, sx, S1, hR, sR, e1, fun v1 H1 Z1 ι1 x1 r1 w1 => ⟨false, w1.isbl, by
      exact ⟨Z1, ι1, S1, H0, ρ, d, st, S', r1, sR.ext hR x1, e2, fun v2 H2 Z2 ι2 x2 r2 w2 => k v2 H2 Z2 ι2 (x1.trans x2) r2 (w2.back x1.al)⟩⟩⟩
  · subst hd hs
    exact ⟨Z, ι, S, H0, ρ, _, sx, S', hR, sR, e1, fun v1 H1 Z1 ι1 x1 r1 w1 => ⟨true, w1.isbl, by
      exact k _ H1 Z1 ι1 x1 r1 (Rep.bl _)⟩⟩
/-- a if c else b, as a test -/
theorem pt_ite {c a b : Expr} {pos : Pos} {tc ta tb : TT} (hc : PT X c tc) (ha : PT X a ta) (hb : PT X b tb) : PT X (.IfExp c a b pos) (fun σ H Q => tc σ H fun k H1 => if k = true then ta σ H1 Q else tb σ H1 Q) := by
  refine ⟨fun pins s σ H Q I h => ?_⟩
  show wpAny (model X.prog X.w) X.A (do if ← isTrue c X.env (PySem.eval c X.env) then isTrue a X.env (PySem.eval a X.env) else isTrue b X.env (PySem.eval b X.env)) _ _ s
  refine wpAny_bind (thn (hc.run pins s σ H _ I h) fun d s1 ⟨H1, I1, q1⟩ => ?_)
  cases d with
  | true => exact ha.run pins s1 σ H1 Q I1 q1
  | false => exact hb.run pins s1 σ H1 Q I1 q1
theorem s_ite {c a b : E} {p : Expr} (ihc : ∀ p, mtE cx sc c p = true → Snd cx M cf c X p) (iha : ∀ p, mtE cx sc a p = true → Snd cx M cf a X p) (ihb : ∀ p, mtE cx sc b p = true → Snd cx M cf b X p) (h : mtE cx sc (.ite c a b) p = true) : Snd cx M cf (.ite c a b) X p := by
  cases p <;> try (simp [mtE] at h; done)
  simp only [mtE, Bool.and_eq_true] at h
  have inv : ∀ {ρ : SEnv} {S S' : Store} {d : D} {st : Stt}, ev cf (.ite c a b) ρ S = some (d, st, S') → ∃ k sx S1, ev cf c ρ S = some (.bl k, sx, S1) ∧ (if k = true then ev cf a ρ S1 else ev cf b ρ S1) = some (d, st, S') := by
    intro ρ S S' d st e
    simp only [ev] at e
    obtain ⟨x, sx, S1, e1, e⟩ := andT_inv e
    split at e
    · exact ⟨true, sx, S1, e1, by rw [if_pos rfl]; exact e⟩
    · exact ⟨false, sx, S1, e1, by rw [if_neg Bool.false_ne_true]; exact e⟩
    · cases e
  refine ⟨PE.imp (pe_ifExp (ihc _ h.1.1).pt (iha _ h.1.2).pe (ihb _ h.2).pe) fun σ H Q ⟨Z, ι, S, H0, ρ, d, st, S', hR, sR, e, k⟩ => ?_, PT.imp (pt_ite (ihc _ h.1.1).pt (iha _ h.1.2).pt (ihb _ h.2).pt) fun σ H Q ⟨Z, ι, S, H0, ρ, b, st, S', hR, sR, e, k⟩ => ?_, fun _ _ _ q => nomatch q⟩
  · obtain ⟨kk, sx, S1, e1, e2⟩ := inv e
    refine ⟨Z, ι, S, H0, ρ, kk, sx, S1, hR, sR, e1, fun H1 Z1 ι1 x1 r1 => ?_⟩
    cases kk with
    | true => exact ⟨Z1, ι1, S1, H0, ρ, d, st, S', r1, sR.ext hR x1, e2, fun v2 H2 Z2 ι2 x2 r2 w2 => k v2 H2 Z2 ι2 (x1.trans x2) r2 (w2.back x1.al)⟩
    | false => exact ⟨Z1, ι1, S1, H0, ρ, d, st, S', r1, sR.ext hR x1, e2, fun v2 H2 Z2 ι2 x2 r2 w2 => k v2 H2 Z2 ι2 (x1.trans x2) r2 (w2.back x1.al)⟩
  · obtain ⟨kk, sx, S1, e1, e2⟩ := inv e
    refine ⟨Z, ι, S, H0, ρ, kk, sx, S1, hR, sR, e1, fun H1 Z1 ι1 x1 r1 => ?_⟩
    cases kk with
    | true => exact ⟨Z1, ι1, S1, H0, ρ, _, st, S', r1, sR.ext hR x1, e2, fun H2 Z2 ι2 x2 r2 => k H2 Z2 ι2 (x1.trans x2) r2⟩
    | false => exact ⟨Z1, ι1, S1, H0, ρ, _, st, S', r1, sR.ext hR x1, e2, fun H2 Z2 ι2 x2 r2 => k H2 Z2 ι2 (x1.trans x2) r2⟩
theorem s_chain {o1 o2 : Op2} {a b c : E} {p : Expr} (xc : XC cx sc M cf X) (iha : ∀ p, mtE cx sc a p = true → Snd cx M cf a X p) (ihb : ∀ p, mtE cx sc b p = true → Snd cx M cf b X p) (ihc : ∀ p, mtE cx sc c p = true → Snd cx M cf c X p) (h : mtE cx sc (.chain o1 o2 a b c) p = true) : Snd cx M cf (.chain o1 o2 a b c) X p := by
  cases p <;> try (simp [mtE] at h; done)
  rename_i l ops cs pos
  rcases ops with _ | ⟨op1, _ | ⟨op2, _ | ⟨op3, ops⟩⟩⟩ <;> rcases cs with _ | ⟨m, _ | ⟨r, _ | ⟨r2, cs⟩⟩⟩ <;> try (simp [mtE] at h; done)
  simp only [mtE, Bool.and_eq_true, decide_eq_true_eq] at h
  obtain ⟨⟨⟨⟨⟨⟨h1, h2⟩, h3⟩, h4⟩, h5⟩, h6⟩, h7⟩ := h
  have hm : lastMarks [op1, op2] [m, r] = false := marks_plain h7
  have i : ∀ σ H Q, tE X.K M cf (.chain o1 o2 a b c) σ H Q → tChain (rB X.K (binD o1)) (rB X.K (binD o2)) (tE X.K M cf a) (tE X.K M cf b) (tE X.K M cf c) σ H Q := fun σ H Q ⟨Z, ι, S, H0, ρ, d, st, S', hR, sR, e, k⟩ => by
    simp only [ev] at e
    obtain ⟨x, sx, S1, e1, e⟩ := andT_inv e
    obtain ⟨y, sy, S2, e2, e⟩ := andT_inv e
    split at e
    · rename_i q
      obtain ⟨z, sz, S3, e3, e⟩ := andT_inv e
      obtain ⟨e', es, eS⟩ := opt_inv e
      subst es
      subst eS
      refine two (r := fun x y H2 Q => rB X.K (binD o1) x y H2 fun z H3 => ∃ k, z = .bl k ∧ (if k = true then tE X.K M cf c σ H3 fun w' H4 => rB X.K (binD o2) y w' H4 Q else Q (.bl false) H3)) hR sR e1 e2 fun v1 v2 H2 Z2 ι2 x2 r2 s2 w1 w2 => ?_
      refine ⟨Z2, ι2, _, _, _, .bl true, rd_rd r2 w1.rd, rd_rd r2 w2.rd, q, fun v H' g nv => ⟨true, (nv_vr r2 g nv).isbl, ?_⟩⟩
      rw [if_pos rfl]
      have x2' := x2.trans (Ext.gr g)
      have r2' := r2.gr g
      refine ⟨Z2, ι2, S2, H0, ρ, z, sz, S3, r2', s2.ext r2 (Ext.gr g), e3, fun v3 H3 Z3 ι3 x3 r3 w3 => ?_⟩
      exact ⟨Z3, ι3, _, _, _, d, rd_rd r3 ((w2.ext r2 (Ext.gr g)).ext r2' x3).rd, rd_rd r3 w3.rd, e', fun v' H' g' nv' => fin (x2'.trans x3) r3 k g' nv'⟩
    · rename_i q
      unfold ok at e
      cases e
      refine two (r := fun x y H2 Q => rB X.K (binD o1) x y H2 fun z H3 => ∃ k, z = .bl k ∧ (if k = true then tE X.K M cf c σ H3 fun w' H4 => rB X.K (binD o2) y w' H4 Q else Q (.bl false) H3)) hR sR e1 e2 fun v1 v2 H2 Z2 ι2 x2 r2 s2 w1 w2 => ?_
      refine ⟨Z2, ι2, _, _, _, .bl false, rd_rd r2 w1.rd, rd_rd r2 w2.rd, q, fun v H' g nv => ⟨false, (nv_vr r2 g nv).isbl, ?_⟩⟩
      rw [if_neg Bool.false_ne_true]
      have := (nv_vr r2 g nv).isbl
      exact fin x2 r2 k g (Rep.bl false)
    · cases e
  refine ⟨PE.imp (pe_chain (cmp_ok xc h1) (cmp_ok xc h2) (iha l h3).pe (ihb m h4).pe (ihc r h5).pe hm) i, PT.imp (pt_chain (cmp_ok xc h1) (cmp_ok xc h2) (iha l h3).pe (ihb m h4).pe (ihc r h5).pe hm) fun σ H Q ⟨Z, ι, S, H0, ρ, b, st, S', hR, sR, e, k⟩ => ?_, fun _ _ _ q => nomatch q⟩
  exact i σ H _ ⟨Z, ι, S, H0, ρ, .bl b, st, S', hR, sR, e, fun v H' Z' ι' x r vr => ⟨b, vr.isbl, k H' Z' ι' x r⟩⟩
theorem s_chain3 {o1 o2 o3 : Op2} {a b c d : E} {p : Expr} (xc : XC cx sc M cf X) (iha : ∀ p, mtE cx sc a p = true → Snd cx M cf a X p) (ihb : ∀ p, mtE cx sc b p = true → Snd cx M cf b X p) (ihc : ∀ p, mtE cx sc c p = true → Snd cx M cf c X p) (ihd : ∀ p, mtE cx sc d p = true → Snd cx M cf d X p) (h : mtE cx sc (.chain3 o1 o2 o3 a b c d) p = true) : Snd cx M cf (.chain3 o1 o2 o3 a b c d) X p := by
  cases p <;> try (simp [mtE] at h; done)
  rename_i l ops cs pos
  rcases ops with _ | ⟨op1, _ | ⟨op2, _ | ⟨op3, _ | ⟨op4, ops⟩⟩⟩⟩ <;> rcases cs with _ | ⟨m, _ | ⟨r, _ | ⟨t, _ | ⟨r2, cs⟩⟩⟩⟩ <;> try (simp [mtE] at h; done)
  simp only [mtE, Bool.and_eq_true, decide_eq_true_eq] at h
  obtain ⟨⟨⟨⟨⟨⟨⟨⟨⟨h1, h2⟩, h3⟩, h4⟩, h5⟩, h6⟩, h7⟩, h8⟩, h9⟩, h10⟩ := h
  have hm : lastMarks [op1, op2, op3] [m, r, t] = false := marks_plain h10
  have i : ∀ σ H Q, tE X.K M cf (.chain3 o1 o2 o3 a b c d) σ H Q → tChain3 (rB X.K (binD o1)) (rB X.K (binD o2)) (rB X.K (binD o3)) (tE X.K M cf a) (tE X.K M cf b) (tE X.K M cf c) (tE X.K M cf d) σ H Q := fun σ H Q ⟨Z, ι, S, H0, ρ, dd, st, S', hR, sR, e, k⟩ => by
    simp only [ev] at e
    obtain ⟨x, sx, S1, e1, e⟩ := andT_inv e
    obtain ⟨y, sy, S2, e2, e⟩ := andT_inv e
    split at e
    · rename_i q
      obtain ⟨z, sz, S3, e3, e⟩ := andT_inv e
      refine two (r := fun x y H2 Q => rB X.K (binD o1) x y H2 fun z H3 => ∃ k, z = .bl k ∧ (if k = true then tE X.K M cf c σ H3 fun w' H4 => rB X.K (binD o2) y w' H4 fun z2 H5 => ∃ k2, z2 = .bl k2 ∧ (if k2 = true then tE X.K M cf d σ H5 fun w2 H6 => rB X.K (binD o3) w' w2 H6 Q else Q (.bl false) H5) else Q (.bl false) H3)) hR sR e1 e2 fun v1 v2 H2 Z2 ι2 x2 r2 s2 w1 w2 => ?_
      refine ⟨Z2, ι2, _, _, _, .bl true, rd_rd r2 w1.rd, rd_rd r2 w2.rd, q, fun v H' g nv => ⟨true, (nv_vr r2 g nv).isbl, ?_⟩⟩
      rw [if_pos rfl]
      have x2' := x2.trans (Ext.gr g)
      have r2' := r2.gr g
      refine ⟨Z2, ι2, S2, H0, ρ, z, sz, S3, r2', s2.ext r2 (Ext.gr g), e3, fun v3 H3 Z3 ι3 x3 r3 w3 => ?_⟩
      have s3 := (s2.ext r2 (Ext.gr g)).ext r2' x3
      split at e
      · rename_i q2
        obtain ⟨w, sw, S4, e4, e⟩ := andT_inv e
        obtain ⟨e', es, eS⟩ := opt_inv e
        subst es
        subst eS
        refine ⟨Z3, ι3, _, _, _, .bl true, rd_rd r3 ((w2.ext r2 (Ext.gr g)).ext r2' x3).rd, rd_rd r3 w3.rd, q2, fun v' H' g' nv' => ⟨true, (nv_vr r3 g' nv').isbl, ?_⟩⟩
        rw [if_pos rfl]
        have x3' := (x2'.trans x3).trans (Ext.gr g')
        have r3' := r3.gr g'
        refine ⟨Z3, ι3, S3, H0, ρ, w, sw, S4, r3', s3.ext r3 (Ext.gr g'), e4, fun v4 H4 Z4 ι4 x4 r4 w4 => ?_⟩
        exact ⟨Z4, ι4, _, _, _, dd, rd_rd r4 ((w3.ext r3 (Ext.gr g')).ext r3' x4).rd, rd_rd r4 w4.rd, e', fun v' H' g' nv' => fin (x3'.trans x4) r4 k g' nv'⟩
      · rename_i q2
        unfold ok at e
        cases e
        refine ⟨Z3, ι3, _, _, _, .bl false, rd_rd r3 ((w2.ext r2 (Ext.gr g)).ext r2' x3).rd, rd_rd r3 w3.rd, q2, fun v' H' g' nv' => ⟨false, (nv_vr r3 g' nv').isbl, ?_⟩⟩
        rw [if_neg Bool.false_ne_true]
        exact fin (x2'.trans x3) r3 k g' (Rep.bl false)
      · cases e
    · rename_i q
      unfold ok at e
      cases e
      refine two (r := fun x y H2 Q => rB X.K (binD o1) x y H2 fun z H3 => ∃ k, z = .bl k ∧ (if k = true then tE X.K M cf c σ H3 fun w' H4 => rB X.K (binD o2) y w' H4 fun z2 H5 => ∃ k2, z2 = .bl k2 ∧ (if k2 = true then tE X.K M cf d σ H5 fun w2 H6 => rB X.K (binD o3) w' w2 H6 Q else Q (.bl false) H5) else Q (.bl false) H3)) hR sR e1 e2 fun v1 v2 H2 Z2 ι2 x2 r2 s2 w1 w2 => ?_
      refine ⟨Z2, ι2, _, _, _, .bl false, rd_rd r2 w1.rd, rd_rd r2 w2.rd, q, fun v H' g nv => ⟨false, (nv_vr r2 g nv).isbl, ?_⟩⟩
      rw [if_neg Bool.false_ne_true]
      exact fin x2 r2 k g (Rep.bl false)
    · cases e
  refine ⟨PE.imp (pe_chain3 (cmp_ok xc h1) (cmp_ok xc h2) (cmp_ok xc h3) (iha l h4).pe (ihb m h5).pe (ihc r h6).pe (ihd t h7).pe hm) i, PT.imp (pt_chain3 (cmp_ok xc h1) (cmp_ok xc h2) (cmp_ok xc h3) (iha l h4).pe (ihb m h5).pe (ihc r h6).pe (ihd t h7).pe hm) fun σ H Q ⟨Z, ι, S, H0, ρ, b, st, S', hR, sR, e, k⟩ => ?_, fun _ _ _ q => nomatch q⟩
  exact i σ H _ ⟨Z, ι, S, H0, ρ, .bl b, st, S', hR, sR, e, fun v H' Z' ι' x r vr => ⟨b, vr.isbl, k H' Z' ι' x r⟩⟩
theorem s_ix {a i : E} {p : Expr} (xc : XC cx sc M cf X) (iha : ∀ p, mtE cx sc a p = true → Snd cx M cf a X p) (ihb : ∀ p, mtE cx sc i p = true → Snd cx M cf i X p) (h : mtE cx sc (.ix a i) p = true) : Snd cx M cf (.ix a i) X p := by
  cases p <;> try (simp [mtE] at h; done)
  rename_i l r pos
  have h' : mtE cx sc a l = true ∧ mtE cx sc i r = true ∧ plain r = true := by
    simp only [mtE, Bool.and_eq_true] at h
    exact ⟨h.1.1, h.1.2, h.2⟩
  refine snd_of (PE.imp (pe_ix (ixAll xc.units) (iha l h'.1).pe (ihb r h'.2.1).pe (ix_plain h'.2.2)) fun σ H Q ⟨Z, ι, S, H0, ρ, d, st, S', hR, sR, e, k⟩ => ?_) (fun _ => rfl) (fun _ _ _ q => nomatch q)
  simp only [ev] at e
  obtain ⟨x, sx, S1, e1, e⟩ := andT_inv e
  obtain ⟨y, sy, S2, e2, e⟩ := andT_inv e
  split at e
  · rename_i d' hd
    cases e
    refine two hR sR e1 e2 fun v1 v2 H2 Z2 ι2 x2 r2 _ w1 w2 => ?_
    exact ⟨Z2, ι2, _, _, _, d, rd_rd r2 w1.rd, w2.rd, hd, fun v r => k v H2 Z2 ι2 x2 r2 r⟩
  · cases e
end
end PyI
namespace PyI
open PySem L2

/-- arguments: kept, read -/
structure SndS (cx : MC) (M : Nm) (cf : CF) (es : Es) (X : Cx) (ps : List Expr) : Prop where
  f : PA X ps (tF X.K M cf es)
  r : PA X ps (tR X.K M cf es)
  pl : ps.all plain = true
  hd : ∀ e es' q qs, es = .cons e es' → ps = q :: qs → PE X q (tE X.K M cf e)
section
variable {cx : MC} {sc : Scope} {M : Nm} {cf : CF} {X : Cx}
theorem evF_cons {e : E} {es : Es} {ρ : SEnv} {S S' : Store} {ds : List D} (h : evF cf (.cons e es) ρ S = some (ds, S')) : ∃ d st S1 ds', ev cf e ρ S = some (d, st, S1) ∧ st ≠ .own ∧ evF cf es ρ S1 = some (ds', S') ∧ ds = d :: ds' := by
  simp only [evF] at h
  split at h
  · cases h
  · rename_i d st S1 hn he
    split at h
    · rename_i ds' S2 h2
      cases h
      exact ⟨d, st, S1, ds', he, fun q => hn q, h2, rfl⟩
    · cases h
  · cases h
theorem evR_cons {e : E} {es : Es} {ρ : SEnv} {S S' : Store} {ds : List D} (h : evR cf (.cons e es) ρ S = some (ds, S')) : ∃ d st S1 ds', ev cf e ρ S = some (d, st, S1) ∧ evR cf es ρ S1 = some (ds', S') ∧ ds = d :: ds' := by
  simp only [evR] at h
  split at h
  · rename_i d st S1 he
    split at h
    · rename_i ds' S2 h2
      cases h
      exact ⟨d, st, S1, ds', he, h2, rfl⟩
    · cases h
  · cases h
theorem ss_nil {ps : List Expr} (h : mtEs cx sc .nil ps = true) : SndS cx M cf .nil X ps := by
  cases ps with
  | cons _ _ => simp [mtEs] at h
  | nil =>
    refine ⟨PA.imp pa_nil fun σ H Q ⟨Z, ι, S, H0, ρ, ds, S', hR, sR, e, k⟩ => ?_, PA.imp pa_nil fun σ H Q ⟨Z, ι, S, H0, ρ, ds, S', hR, sR, e, k⟩ => ?_, rfl, fun _ _ _ _ q => nomatch q⟩
    · simp only [evF] at e
      cases e
      exact k [] H Z ι Ext.refl hR .nil
    · simp only [evR] at e
      cases e
      exact k [] H Z ι Ext.refl hR .nil
theorem vr_more {K : PySem.W.Frag} {H1 H2 H0 : Hp} {Z1 Z2 : Addr → Prop} {ι1 ι2 : Nat → Addr} {n2 : Nat} {S1 : Store} {st : Stt} {v : V} {d : D} (r1 : HR K M H1 Z1 ι1 S1) (x : Ext H1 Z1 ι1 S1.length H2 Z2 ι2 n2) (w : VR K H1 Z1 ι1 S1.length H0 st v d) : VR K H2 Z2 ι2 n2 H0 st v d := w.ext r1 x
theorem ss_cons {e : E} {es : Es} {ps : List Expr} (ih : ∀ p, mtE cx sc e p = true → Snd cx M cf e X p) (ihs : ∀ ps, mtEs cx sc es ps = true → SndS cx M cf es X ps) (h : mtEs cx sc (.cons e es) ps = true) : SndS cx M cf (.cons e es) X ps := by
  cases ps with
  | nil => simp [mtEs] at h
  | cons p ps =>
    simp only [mtEs, Bool.and_eq_true] at h
    have h1 := ih p h.1.1
    have h2 := ihs ps h.2
    refine ⟨PA.imp (pa_cons h1.pe h2.f (star_plain h.1.2)) fun σ H Q ⟨Z, ι, S, H0, ρ, ds, S', hR, sR, e, k⟩ => ?_, PA.imp (pa_cons h1.pe h2.r (star_plain h.1.2)) fun σ H Q ⟨Z, ι, S, H0, ρ, ds, S', hR, sR, e, k⟩ => ?_, by rw [List.all_cons, h.1.2, h2.pl]; rfl, fun _ _ _ _ a b => by cases a; cases b; exact h1.pe⟩
    · obtain ⟨d, st, S1, ds', e1, hs, e2, rfl⟩ := evF_cons e
      refine ⟨Z, ι, S, H0, ρ, d, st, S1, hR, sR, e1, fun v1 H1 Z1 ι1 x1 r1 w1 => ?_⟩
      obtain ⟨Z2, x2, r2, q2, _⟩ := frz_step x1 r1 hs w1
      exact ⟨Z2, ι1, S1, H0, ρ, ds', S', r2, sR.ext hR x2, e2, fun vs H3 Z3 ι3 x3 r3 q3 => k (v1 :: vs) H3 Z3 ι3 (x2.trans x3) r3 (.cons (q2.keep (r2.keep x3)) q3)⟩
    · obtain ⟨d, st, S1, ds', e1, e2, rfl⟩ := evR_cons e
      refine ⟨Z, ι, S, H0, ρ, d, st, S1, hR, sR, e1, fun v1 H1 Z1 ι1 x1 r1 w1 => ?_⟩
      refine ⟨Z1, ι1, S1, H0, ρ, ds', S', r1, sR.ext hR x1, e2, fun vs H3 Z3 ι3 x3 r3 q3 => k (v1 :: vs) H3 Z3 ι3 (x1.trans x3) r3 (.cons ⟨st, w1.ext r1 x3⟩ ?_)⟩
      exact Paired.mapP q3 fun v d ⟨st, w⟩ => ⟨st, w.back x1.al⟩
theorem par_rd {K : PySem.W.Frag} {H H0 : Hp} {Z : Addr → Prop} {ι : Nat → Addr} {S : Store} (h : HR K M H Z ι S) : ∀ {vs : List V} {ds : List D}, Paired (fun v d => ∃ st, VR K H Z ι S.length H0 st v d) vs ds → Paired (RdV K H Z ι S.length) vs (ds.map (rd S))
  | _, _, .nil => .nil
  | _, _, .cons ⟨_, w⟩ t => .cons (rd_rd h w.rd) (par_rd h t)

theorem s_tup {es : Es} {p : Expr} (ihs : ∀ ps, mtEs cx sc es ps = true → SndS cx M cf es X ps) (h : mtE cx sc (.tup es) p = true) : Snd cx M cf (.tup es) X p := by
  cases p <;> try (simp [mtE] at h; done)
  simp only [mtE] at h
  refine snd_of (PE.imp (pe_tupP (ihs _ h).f) fun σ H Q ⟨Z, ι, S, H0, ρ, d, st, S', hR, sR, e, k⟩ => ?_) (fun _ => rfl) (fun _ _ _ q => nomatch q)
  simp only [ev] at e
  split at e
  · rename_i ds S1 e1
    split at e
    · rename_i hl
      cases e
      refine ⟨Z, ι, S, H0, ρ, ds, S', hR, sR, e1, fun vs H1 Z1 ι1 x1 r1 q1 => ⟨by rw [q1.length, sizeLine_eq]; exact hl, fun t ot ht ht1 ht2 => ?_⟩⟩
      exact fin (d := .tup ds) x1 r1 k (Grow.new ht) (Rep.tup (SqTP.mk' ht1 ht2) (q1.keep (Grow.keep (Grow.new ht))))
    · cases e
  · cases e
theorem s_lst {es : Es} {p : Expr} (ihs : ∀ ps, mtEs cx sc es ps = true → SndS cx M cf es X ps) (h : mtE cx sc (.lst es) p = true) : Snd cx M cf (.lst es) X p := by
  cases p <;> try (simp [mtE] at h; done)
  simp only [mtE] at h
  refine snd_of (PE.imp (pe_lst (ihs _ h).f) fun σ H Q ⟨Z, ι, S, H0, ρ, d, st, S', hR, sR, e, k⟩ => ?_) (fun _ => rfl) (fun _ _ _ q => nomatch q)
  simp only [ev] at e
  split at e
  · rename_i ds S1 e1
    split at e
    · rename_i hl
      cases e
      refine ⟨Z, ι, S, H0, ρ, ds, S', hR, sR, e1, fun vs H1 Z1 ι1 x1 r1 q1 => ⟨by rw [q1.length, sizeLine_eq]; exact hl, fun t ht => ?_⟩⟩
      exact fin (d := .lst ds) x1 r1 k (Grow.new ht) ⟨t, rfl, ht, vs, upd_same, q1.keep (Grow.keep (Grow.new ht))⟩
    · cases e
  · cases e
/-- a part of a slice -/
def tO (K : PySem.W.Frag) (M : Nm) (cf : CF) (es : Es) : TO := fun σ H Q => ∃ Z ι S H0 ρ ds o S', HR K M H Z ι S ∧ SR K H Z ι S.length H0 ρ σ ∧ evF cf es ρ S = some (ds, S') ∧ partD ds = some o ∧
  ∀ H' Z' ι', Ext H Z ι S.length H' Z' ι' S'.length → HR K M H' Z' ι' S' → Q o H'
theorem PO.imp {e : Option Expr} {t t' : TO} (h : PO X e t) (i : ∀ σ H Q, t' σ H Q → t σ H Q) : PO X e t' := ⟨fun pins s σ H Q I hq => h.run pins s σ H Q I (i σ H Q hq)⟩
theorem so_nil {p : Option Expr} (h : mtO cx sc .nil p = true) : PO X p (tO X.K M cf .nil) := by
  cases p with
  | some _ => simp [mtO] at h
  | none =>
    refine PO.imp po_none fun σ H Q ⟨Z, ι, S, H0, ρ, ds, o, S', hR, sR, e, e2, k⟩ => ?_
    simp only [evF] at e
    cases e
    simp only [partD] at e2
    cases e2
    exact k H Z ι Ext.refl hR
theorem so_cons {e : E} {es : Es} {p : Option Expr} (ih : ∀ p, mtE cx sc e p = true → Snd cx M cf e X p) (h : mtO cx sc (.cons e es) p = true) : PO X p (tO X.K M cf (.cons e es)) := by
  cases p with
  | none => cases es <;> simp [mtO] at h
  | some p =>
    cases es with
    | cons _ _ => simp [mtO] at h
    | nil =>
      simp only [mtO] at h
      refine PO.imp (po_some (ih p h).pe) fun σ H Q ⟨Z, ι, S, H0, ρ, ds, o, S', hR, sR, e, e2, k⟩ => ?_
      obtain ⟨d, st, S1, ds', e1, hs, e3, rfl⟩ := evF_cons e
      simp only [evF] at e3
      cases e3
      unfold partD at e2
      split at e2
      · rename_i q; cases q
      · rename_i i q
        cases q
        cases e2
        exact ⟨Z, ι, S, H0, ρ, _, st, S', hR, sR, e1, fun v1 H1 Z1 ι1 x1 r1 w1 => ⟨i, w1.rd.int, k H1 Z1 ι1 x1 r1⟩⟩
      · cases e2
theorem s_rev {a : E} {p : Expr} (xc : XC cx sc M cf X) (iha : ∀ p, mtE cx sc a p = true → Snd cx M cf a X p) (h : mtE cx sc (.rev a) p = true) : Snd cx M cf (.rev a) X p := by
  cases p <;> try (simp [mtE] at h; done)
  rename_i l r pos
  cases r <;> try (simp [mtE] at h; done)
  rename_i plo phi pst pos2
  unfold mtE at h
  split at h <;> try (rename_i q _; cases q; done)
  all_goals first | (cases h; done) | (rename_i q; cases q; done) | skip
  · rename_i a' p' k' u3 u2 u1 u0 he hp
    cases he
    cases hp
    refine snd_of (PE.imp (pe_back backAll (iha l h).pe) fun σ H Q ⟨Z, ι, S, H0, ρ, d, st, S', hR, sR, e, k⟩ => ?_) (fun _ => rfl) (fun _ _ _ q => nomatch q)
    simp only [ev] at e
    obtain ⟨x, sx, S1, e1, e⟩ := andT_inv e
    obtain ⟨e', es, eS⟩ := opt_inv e
    subst es
    subst eS
    refine ⟨Z, ι, S, H0, ρ, x, sx, S1, hR, sR, e1, fun v1 H1 Z1 ι1 x1 r1 w1 => ?_⟩
    exact ⟨Z1, ι1, _, _, d, rd_rd r1 w1.rd, e', fun v H' g nv => fin x1 r1 k g nv⟩
theorem s_sl {a : E} {lo hi : Es} {p : Expr} (xc : XC cx sc M cf X) (iha : ∀ p, mtE cx sc a p = true → Snd cx M cf a X p) (ihl : ∀ p, mtO cx sc lo p = true → PO X p (tO X.K M cf lo)) (ihh : ∀ p, mtO cx sc hi p = true → PO X p (tO X.K M cf hi)) (h : mtE cx sc (.sl a lo hi) p = true) : Snd cx M cf (.sl a lo hi) X p := by
  cases p <;> try (simp [mtE] at h; done)
  rename_i l r pos
  cases r <;> try (simp [mtE] at h; done)
  rename_i plo phi pst pos2
  cases pst with
  | some _ => simp [mtE] at h
  | none =>
    simp only [mtE, Bool.and_eq_true] at h
    refine snd_of (PE.imp (pe_slice slAll (iha l h.1.1).pe (ihl _ h.1.2) (ihh _ h.2)) fun σ H Q ⟨Z, ι, S, H0, ρ, d, st, S', hR, sR, e, k⟩ => ?_) (fun _ => rfl) (fun _ _ _ q => nomatch q)
    simp only [ev] at e
    obtain ⟨x, sx, S1, e1, e⟩ := andT_inv e
    split at e
    · rename_i ls S2 e2
      split at e
      · rename_i hs S3 e3
        split at e
        · rename_i o1 o2 p1 p2
          obtain ⟨e', es, eS⟩ := opt_inv e
          subst es
          subst eS
          refine ⟨Z, ι, S, H0, ρ, x, sx, S1, hR, sR, e1, fun v1 H1 Z1 ι1 x1 r1 w1 => ?_⟩
          refine ⟨Z1, ι1, S1, H0, ρ, ls, o1, S2, r1, sR.ext hR x1, e2, p1, fun H2 Z2 ι2 x2 r2 => ?_⟩
          refine ⟨Z2, ι2, S2, H0, ρ, hs, o2, S3, r2, (sR.ext hR x1).ext r1 x2, e3, p2, fun H3 Z3 ι3 x3 r3 => ?_⟩
          exact ⟨Z3, ι3, _, _, d, rd_rd r3 ((w1.ext r1 x2).ext r2 x3).rd, e', fun v H' g nv => fin ((x1.trans x2).trans x3) r3 k g nv⟩
        · cases e
      · cases e
    · cases e
theorem s_newr {e : E} {p : Expr} (ih : ∀ p, mtE cx sc e p = true → Snd cx M cf e X p) (h : mtE cx sc (.newr e) p = true) : Snd cx M cf (.newr e) X p := by
  have h1 := ih p (by cases p <;> simpa only [mtE] using h)
  have inv : ∀ {ρ : SEnv} {S S' : Store} {d : D} {st : Stt}, ev cf (.newr e) ρ S = some (d, st, S') → ∃ x S1 c, ev cf e ρ S = some (x, .fresh, S1) ∧ d = .ref S1.length ∧ st = .fr ∧ S' = S1 ++ [c] ∧ ((∃ ds, x = .lst ds ∧ c = .lst ds) ∨ ∃ ks vs, x = .dict ks vs ∧ c = .dict ks vs) := by
    intro ρ S S' d st q
    simp only [ev] at q
    obtain ⟨x, sx, S1, e1, q⟩ := andT_inv q
    split at q
    · cases q; exact ⟨_, S1, _, e1, rfl, rfl, rfl, .inl ⟨_, rfl, rfl⟩⟩
    · cases q; exact ⟨_, S1, _, e1, rfl, rfl, rfl, .inr ⟨_, _, rfl, rfl⟩⟩
    · cases q
  have main : PE X p (tE X.K M cf (.newr e)) := PE.imp h1.pe fun σ H Q ⟨Z, ι, S, H0, ρ, d, st, S', hR, sR, q, k⟩ => by
    obtain ⟨x, S1, c, e1, rfl, rfl, rfl, hc⟩ := inv q
    refine ⟨Z, ι, S, H0, ρ, x, .fresh, S1, hR, sR, e1, fun v1 H1 Z1 ι1 x1 r1 w1 => ?_⟩
    obtain ⟨a, rfl, h0, hz, hf, hl⟩ := w1
    obtain ⟨ι2, ag, at1⟩ : ∃ ι2 : Nat → Addr, (∀ l, l < S1.length → ι2 l = ι1 l) ∧ ι2 S1.length = a := ⟨fun l => if l = S1.length then a else ι1 l, fun l hl => if_neg (by omega), if_pos rfl⟩
    have len : (S1 ++ [c]).length = S1.length + 1 := by simp
    have kp : Keep X.K H1 Z1 ι1 S1.length H1 Z1 ι2 (S1.length + 1) := ⟨by omega, ag, fun _ z => z, fun _ _ h => h, fun _ _ _ h => h, fun _ _ _ h => h⟩
    have cr : CR X.K M H1 Z1 ι2 (S1.length + 1) a c := by
      rcases hc with ⟨ds, rfl, rfl⟩ | ⟨ks, vs, rfl, rfl⟩
      · obtain ⟨xs, e2, r2⟩ := hl
        exact ⟨xs, e2, r2.keep kp⟩
      · obtain ⟨kvs, e2, r2, r3⟩ := hl
        exact ⟨kvs, e2, r2.keep kp, r3.keep kp⟩
    refine k (.ref a) H1 Z1 ι2 ?_ ?_ ?_
    · rw [len]
      refine ⟨by have := x1.le; omega, fun l hl => (ag l (by have := x1.le; omega)).trans (x1.ag l hl), x1.zz, x1.zn, fun l h1 h2 => ?_, x1.fr, x1.al, x1.fz⟩
      by_cases e : l = S1.length
      · subst e; rw [at1]; exact h0
      · rw [ag l (by omega)]; exact x1.fn l h1 (by omega)
    · refine ⟨fun l c' e => ?_, fun l l' h1 h2 e => ?_, fun l hl => ?_, r1.zs⟩
      · rw [len]
        by_cases hl' : l < S1.length
        · rw [List.getElem?_append_left hl'] at e
          rw [ag l hl']
          exact (r1.cell l c' e).keep kp fun _ h => h
        · have e' : l = S1.length := by
            have := (List.getElem?_eq_some_iff.mp e).1
            rw [len] at this; omega
          subst e'
          simp at e
          subst e
          rw [at1]; exact cr
      · rw [len] at h1 h2
        by_cases a1 : l = S1.length
        · by_cases a2 : l' = S1.length
          · omega
          · subst a1
            rw [at1, ag l' (by omega)] at e
            exact absurd e.symm (hf l' (by omega))
        · by_cases a2 : l' = S1.length
          · subst a2
            rw [at1, ag l (by omega)] at e
            exact absurd e (hf l (by omega))
          · rw [ag l (by omega), ag l' (by omega)] at e
            exact r1.inj l l' (by omega) (by omega) e
      · rw [len] at hl
        by_cases a1 : l = S1.length
        · subst a1; rw [at1]; exact hz
        · rw [ag l (by omega)]; exact r1.nz l (by omega)
    · have := Rep.ref (K := X.K) (H := H1) (Z := Z1) (ι := ι2) (n := (S1 ++ [c]).length) (l := S1.length) (by rw [len]; omega)
      rw [at1] at this
      exact this
  refine ⟨main, ⟨fun pins s σ H Q I ⟨Z, ι, S, H0, ρ, b, st, S', hR, sR, q, k⟩ => ?_⟩, fun op vs pos hp => ⟨fun w pins s σ H Q I ⟨Z, ι, S, H0, ρ, b, st, S', hR, sR, q, k⟩ => ?_⟩⟩
  all_goals
    obtain ⟨x, S1, c, e1, hd, _⟩ := inv q
    cases hd
end
end PyI
namespace PyI
open PySem L2

section
variable {cx : MC} {sc : Scope} {M : Nm} {cf : CF} {X : Cx}
/-- what a built-in method is called on -/
def tyW (K : PySem.W.Frag) (T : String) (x : V) (H : Hp) : Prop := tyV K T x H ∨ (T = "dict" ∧ ∃ a, x = .ref a ∧ IsD H a)
def tBW (K : PySem.W.Frag) (T : String) (r : V → List V → Hp → VK → Prop) (to : TE) (t : TA) : TE := fun σ H Q => to σ H fun x H1 => tyW K T x H1 ∧ t σ H1 fun xs H2 => r x xs H2 Q
theorem pe_bw {T id : String} {name : Str} {r : V → List V → Hp → VK → Prop} {o e : Expr} {es : List Expr} {to : TE} {t : TA} {apos cpos : Pos} (pa : PlainAttrs T) (slot : PySem.Slot T name id) (hty : typeOf (.builtin id) = pure (.type "method_descriptor")) (hm : MtR X id r) (ho : PE X o to) (ha : PA X (e :: es) t)
    (hbase : attributeBase o name X.env (eval o X.env) = eval o X.env)
    (hfew : ((backTo cpos (starEach (e :: es) X.env)).all (fun x => !x.1) && (backToKw cpos (keywordEach [] X.env)).all (fun x => x.1.isSome) && decide ((e :: es).length + ([] : List Keyword).length + (if ([] : List Keyword).isEmpty then 0 else 1) < 30)) = true)
    (hline : (apos.endLine == cpos.line) = true) (hs : starEach (e :: es) X.env = (false, eval e X.env) :: starEach es X.env) (hpl : (backTo cpos (starEach es X.env)).any (·.1) = false) :
    PE X (.Call (.Attribute o name apos) (e :: es) [] cpos) (tBW X.K T r to t) := by
  refine ⟨fun pins s σ H Q I h => wpAny_Call_method_late hbase hfew hline rfl (thn (ho.run pins s σ H _ I h) fun v s1 ⟨x, H1, I1, r1, ty, q1⟩ => ?_)⟩
  have key : s1.TypeIs v T ∧ ∀ a, v = .ref a → ∃ ob, s1.heap.get? a = some ob ∧ ob.dict = none := by
    rcases ty with ty | ⟨rfl, a, rfl, d⟩
    · exact tyV_is I1 r1 ty
    · obtain rfl : v = Value.ref a := r1
      obtain ⟨t1, t2, _⟩ := isD_at I1 d
      exact ⟨t1, t2⟩
  refine ⟨T, id, pa, slot, hty, key.1, key.2, ?_⟩
  have hA := ha.run cpos pins s1 σ H1 _ I1 q1
  rw [hs] at hA ⊢
  refine Calls.callWith_builtin (by show (false || (backTo cpos (starEach es X.env)).any (·.1)) = false; rw [hpl]; rfl) (Calls.evalArgs_plain (thn hA fun us s2 ⟨vs, H2, I2, r2, q2⟩ => hm pins s2 σ H2 x vs v us Q I2 r1 r2 q2))
/-- a built-in's reading over arguments that are read -/
theorem tcb_of {f : Bi} {es : Es} {σ : St} {H : Hp} {Q : VK} (h : tE X.K M cf (.bi f es) σ H Q) : tCB (rC X.K (biD f)) (tR X.K M cf es) σ H Q := by
  obtain ⟨Z, ι, S, H0, ρ, d, st, S', hR, sR, e, k⟩ := h
  simp only [ev] at e
  split at e
  · rename_i ds S1 e1
    obtain ⟨e', es', eS⟩ := opt_inv e
    subst es'
    subst eS
    refine ⟨Z, ι, S, H0, ρ, ds, S1, hR, sR, e1, fun vs H1 Z1 ι1 x1 r1 q1 => ?_⟩
    exact ⟨Z1, ι1, _, _, d, par_rd r1 q1, e', fun v H' g nv => fin x1 r1 k g nv⟩
  · cases e
theorem mts_single {es : Es} {p : Expr} (h : mtEs cx sc es [p] = true) : ∃ e, es = .cons e .nil ∧ mtE cx sc e p = true ∧ plain p = true := by
  cases es with
  | nil => simp [mtEs] at h
  | cons e es =>
    cases es with
    | nil =>
      simp only [mtEs, Bool.and_eq_true] at h
      exact ⟨e, rfl, h.1.1, h.1.2⟩
    | cons _ _ => simp [mtEs] at h
theorem isd_int {K : PySem.W.Frag} (d x : D) (f : Bi) (T : String) (hf : (f = .isint ∧ T = "int") ∨ (f = .isstr ∧ T = "str") ∨ (f = .istup ∧ T = "tuple") ∨ (f = .islst ∧ T = "list") ∨ (f = .isbool ∧ T = "bool")) (h : biD f [x] = some d) : ∃ b, d = .bl b ∧ isD T x = some b := by
  rcases hf with ⟨rfl, rfl⟩ | ⟨rfl, rfl⟩ | ⟨rfl, rfl⟩ | ⟨rfl, rfl⟩ | ⟨rfl, rfl⟩ <;> cases x <;> simp only [biD, biD1] at h <;> cases h <;> exact ⟨_, rfl, by simp only [isD, tyD]; decide +kernel⟩
theorem isd_tl {K : PySem.W.Frag} (d x : D) (h : biD .istl [x] = some d) : ∃ b c, d = .bl (b || c) ∧ isD "tuple" x = some b ∧ isD "list" x = some c := by
  cases x <;> simp only [biD, biD1] at h <;> cases h
  · exact ⟨false, false, rfl, by simp only [isD, tyD]; decide +kernel, by simp only [isD, tyD]; decide +kernel⟩
  · exact ⟨false, false, rfl, by simp only [isD, tyD]; decide +kernel, by simp only [isD, tyD]; decide +kernel⟩
  · exact ⟨false, false, rfl, by simp only [isD, tyD]; decide +kernel, by simp only [isD, tyD]; decide +kernel⟩
  · exact ⟨false, false, rfl, by simp only [isD, tyD]; decide +kernel, by simp only [isD, tyD]; decide +kernel⟩
  · exact ⟨true, false, rfl, by simp only [isD, tyD]; decide +kernel, by simp only [isD, tyD]; decide +kernel⟩
  · exact ⟨false, true, rfl, by simp only [isD, tyD]; decide +kernel, by simp only [isD, tyD]; decide +kernel⟩
  · exact ⟨false, false, rfl, by simp only [isD, tyD]; decide +kernel, by simp only [isD, tyD]; decide +kernel⟩
  · exact ⟨false, false, rfl, by simp only [isD, tyD]; decide +kernel, by simp only [isD, tyD]; decide +kernel⟩
theorem s_bi {f : Bi} {es : Es} {p : Expr} (xc : XC cx sc M cf X) (ihs : ∀ ps, mtEs cx sc es ps = true → SndS cx M cf es X ps) (h : mtE cx sc (.bi f es) p = true) : Snd cx M cf (.bi f es) X p := by
  cases p <;> try (simp [mtE] at h; done)
  rename_i fn pes kws pos
  cases fn <;> cases kws <;> try (simp [mtE] at h; done)
  rename_i x p
  simp only [mtE, Bool.and_eq_true, Bool.or_eq_true, decide_eq_true_eq, Bool.not_eq_true'] at h
  obtain ⟨hb, h⟩ := h
  obtain ⟨g1, g2, g3, g4⟩ := blt_ok xc hb
  rcases h with ⟨⟨hn, hs⟩, he⟩ | ⟨rfl, h⟩
  · cases pes with
    | nil => simp at he
    | cons q pes =>
      have hh := ihs _ hs
      have hpl := hh.pl
      rw [List.all_cons, Bool.and_eq_true] at hpl
      have st := star_plain (es := pes) (env := X.env) hpl.1
      have an := any_plain (env := X.env) (pos := pos) hpl.2
      refine snd_of ?_ (fun _ => rfl) (fun _ _ _ q => nomatch q)
      cases f <;> simp only [biNm] at hn <;> cases hn
      · exact PE.imp (pe_callB callLen g1 g2 boot_len hh.r g4 g3 st an) fun _ _ _ => tcb_of
      · exact PE.imp (pe_callTy (callList xc.calm) g1 g2 PyProof.Rows.boot_list hh.r g4 g3 st an) fun _ _ _ => tcb_of
      · exact PE.imp (pe_callTy (callTuple xc.calm) g1 g2 PyProof.Rows.boot_tuple hh.r g4 g3 st an) fun _ _ _ => tcb_of
      · exact PE.imp (pe_callB (callSorted xc.calm xc.units) g1 g2 PyProof.Rows.boot_sorted hh.r g4 g3 st an) fun _ _ _ => tcb_of
      · exact PE.imp (pe_callB (callSum xc.calm) g1 g2 PyProof.Rows.boot_sum hh.r g4 g3 st an) fun _ _ _ => tcb_of
      · exact PE.imp (pe_callB (callMin xc.calm) g1 g2 PyProof.Rows.boot_min hh.r g4 g3 st an) fun _ _ _ => tcb_of
      · exact PE.imp (pe_callB (callMax xc.calm) g1 g2 PyProof.Rows.boot_max hh.r g4 g3 st an) fun _ _ _ => tcb_of
      · exact PE.imp (pe_callB (callAll xc.calm) g1 g2 PyProof.Rows.boot_all hh.r g4 g3 st an) fun _ _ _ => tcb_of
      · exact PE.imp (pe_callB (callAny xc.calm) g1 g2 PyProof.Rows.boot_any hh.r g4 g3 st an) fun _ _ _ => tcb_of
      · exact PE.imp (pe_callTy callInt g1 g2 PyProof.Rows.boot_int hh.r g4 g3 st an) fun _ _ _ => tcb_of
      · exact PE.imp (pe_callTy (callDict xc.calm) g1 g2 PyProof.Rows.boot_dict hh.r g4 g3 st an) fun _ _ _ => tcb_of
      · exact PE.imp (pe_callB (callRepr xc.gd xc.units) g1 g2 (by decide +kernel) hh.r g4 g3 st an) fun _ _ _ => tcb_of
  · rcases pes with _ | ⟨q, _ | ⟨t, _ | ⟨t2, pes⟩⟩⟩
    · simp at h
    · simp at h
    · cases t <;> try (simp at h; done)
      case Name t tp =>
        simp only [Bool.and_eq_true, decide_eq_true_eq] at h
        obtain ⟨⟨hi, hbt⟩, hs⟩ := h
        obtain ⟨e, rfl, he, hpq⟩ := mts_single hs
        obtain ⟨k1, k2, k3, k4⟩ := blt_ok xc hbt
        have he1 := (ihs _ hs).hd _ _ _ _ rfl rfl
        have key : ∀ T : String, bootBuiltins t = some (.type T) → ((f = .isint ∧ T = "int") ∨ (f = .isstr ∧ T = "str") ∨ (f = .istup ∧ T = "tuple") ∨ (f = .islst ∧ T = "list") ∨ (f = .isbool ∧ T = "bool")) → Snd cx M cf (.bi f (.cons e .nil)) X (.Call (.Name "isinstance" p) [q, .Name t tp] [] pos) := fun T hT hf => by
          have pt : PE X (.Name t tp) (tC (.ty T)) := pe_bltn (v := .ty T) k1 k2 hT rfl k4 k3
          refine snd_of (PE.imp (pe_callB (callIs T) g1 g2 PyProof.Rows.boot_isinstance (pa_cons he1 (pa_cons pt pa_nil) (star_plain hpq)) g4 g3 (star_plain hpq) rfl) fun σ H Q ⟨Z, ι, S, H0, ρ, d, st, S', hR, sR, e1, k⟩ => ?_) (fun _ => rfl) (fun _ _ _ q => nomatch q)
          simp only [ev] at e1
          split at e1
          · rename_i ds S1 e2
            obtain ⟨e', es', eS⟩ := opt_inv e1
            subst es'
            subst eS
            obtain ⟨x, sx, S2, ds', q1, q2, rfl⟩ := evR_cons e2
            simp only [evR] at q2
            cases q2
            refine ⟨Z, ι, S, H0, ρ, x, sx, _, hR, sR, q1, fun v1 H1 Z1 ι1 x1 r1 w1 => ?_⟩
            obtain ⟨b, rfl, hb⟩ := isd_int (K := X.K) d _ f T hf e'
            exact ⟨Z1, ι1, _, v1, _, b, rfl, rd_rd r1 w1.rd, hb, fin x1 r1 k Grow.refl (Rep.bl _)⟩
          · cases e1
        cases f <;> simp only [biIs] at hi <;> cases hi
        · exact key "int" PyProof.Rows.boot_int (.inl ⟨rfl, rfl⟩)
        · exact key "str" PyProof.Rows.boot_str (.inr (.inl ⟨rfl, rfl⟩))
        · exact key "tuple" PyProof.Rows.boot_tuple (.inr (.inr (.inl ⟨rfl, rfl⟩)))
        · exact key "list" PyProof.Rows.boot_list (.inr (.inr (.inr (.inl ⟨rfl, rfl⟩))))
        · exact key "bool" (by decide +kernel) (.inr (.inr (.inr (.inr ⟨rfl, rfl⟩))))
      case Tuple ts kk tp =>
        rcases ts with _ | ⟨t1, _ | ⟨t2, _ | ⟨t3, ts⟩⟩⟩
        · simp at h
        · cases t1 <;> simp at h
        · cases t1 <;> cases t2 <;> try (simp at h; done)
          rename_i t tp1 u tp2
          simp only [Bool.and_eq_true, decide_eq_true_eq] at h
          obtain ⟨⟨⟨⟨⟨rfl, rfl⟩, rfl⟩, hb1⟩, hb2⟩, hs⟩ := h
          obtain ⟨e, rfl, he, hpq⟩ := mts_single hs
          obtain ⟨k1, k2, k3, k4⟩ := blt_ok xc hb1
          obtain ⟨j1, j2, j3, j4⟩ := blt_ok xc hb2
          have he1 := (ihs _ hs).hd _ _ _ _ rfl rfl
          have pt : PE X (.Name "tuple" tp1) (tC (.ty "tuple")) := pe_bltn (v := .ty "tuple") k1 k2 PyProof.Rows.boot_tuple rfl k4 k3
          have pu : PE X (.Name "list" tp2) (tC (.ty "list")) := pe_bltn (v := .ty "list") j1 j2 PyProof.Rows.boot_list rfl j4 j3
          refine snd_of (PE.imp (pe_callB (callIs2 "tuple" "list") g1 g2 PyProof.Rows.boot_isinstance (pa_cons he1 (pa_cons (pe_tup (pa_cons pt (pa_cons pu pa_nil))) pa_nil) (star_plain hpq)) g4 g3 (star_plain hpq) rfl) fun σ H Q ⟨Z, ι, S, H0, ρ, d, st, S', hR, sR, e1, k⟩ => ?_) (fun _ => rfl) (fun _ _ _ q => nomatch q)
          simp only [ev] at e1
          split at e1
          · rename_i ds S1 e2
            obtain ⟨e', es', eS⟩ := opt_inv e1
            subst es'
            subst eS
            obtain ⟨x, sx, S2, ds', q1, q2, rfl⟩ := evR_cons e2
            simp only [evR] at q2
            cases q2
            refine ⟨Z, ι, S, H0, ρ, x, sx, _, hR, sR, q1, fun v1 H1 Z1 ι1 x1 r1 w1 => ⟨by show 2 ≤ sizeLine; decide, fun t ht => ?_⟩⟩
            obtain ⟨b, c, rfl, hb, hc⟩ := isd_tl (K := X.K) d _ e'
            exact ⟨Z1, ι1, _, v1, _, b, c, t, rfl, upd_same, rd_rd (r1.gr (Grow.new ht)) (w1.ext r1 (Ext.gr (Grow.new ht))).rd, hb, hc, fin x1 r1 k (Grow.new ht) (Rep.bl _)⟩
          · cases e1
        · cases t1 <;> cases t2 <;> simp at h
    · cases t <;> simp at h
theorem s_me {m : Me} {o : E} {es : Es} {p : Expr} (xc : XC cx sc M cf X) (iho : ∀ p, mtE cx sc o p = true → Snd cx M cf o X p) (ihs : ∀ ps, mtEs cx sc es ps = true → SndS cx M cf es X ps) (h : mtE cx sc (.me m o es) p = true) : Snd cx M cf (.me m o es) X p := by
  cases p <;> try (simp [mtE] at h; done)
  rename_i fn pes kws pos
  cases fn <;> cases kws <;> try (simp [mtE] at h; done)
  rename_i q x apos
  simp only [mtE, Bool.and_eq_true, decide_eq_true_eq, Bool.not_eq_true'] at h
  obtain ⟨⟨⟨⟨⟨⟨hn, ho⟩, hs⟩, he⟩, hl⟩, hb⟩, hline⟩ := h
  cases pes with
  | nil => simp at he
  | cons q1 pes =>
    have hh := ihs _ hs
    have hpl := hh.pl
    have hpl' := hpl
    rw [List.all_cons, Bool.and_eq_true] at hpl
    have st := star_plain (es := pes) (env := X.env) hpl.1
    have an := any_plain (env := X.env) (pos := pos) hpl.2
    have few : ((backTo pos (starEach (q1 :: pes) X.env)).all (fun x => !x.1) && (backToKw pos (keywordEach [] X.env)).all (fun x => x.1.isSome)
      && decide ((q1 :: pes).length + ([] : List Keyword).length + (if ([] : List Keyword).isEmpty then 0 else 1) < 30)) = true := by
      rw [all_plain hpl']
      have : (q1 :: pes).length + ([] : List Keyword).length + (if ([] : List Keyword).isEmpty then 0 else 1) < 30 := by simp at hl ⊢; omega
      rw [decide_eq_true this]
      rfl
    have go : ∀ (T id : String), PlainAttrs T → PySem.Slot T x id → typeOf (.builtin id) = pure (.type "method_descriptor") → MtR X id (rM X.K m) → (∀ (Z : Addr → Prop) ι n H v o', RdV X.K H Z ι n v o' → meK m o' = true → tyW X.K T v H) → Snd cx M cf (.me m o es) X (.Call (.Attribute q x apos) (q1 :: pes) [] pos) := fun T id pa sl ty mt tv => by
      refine snd_of (PE.imp (pe_bw pa sl ty mt (iho q ho).pe hh.r (base_plain hb) few hline st an) fun σ H Q ⟨Z, ι, S, H0, ρ, d, st, S', hR, sR, e1, k⟩ => ?_) (fun _ => rfl) (fun _ _ _ q => nomatch q)
      simp only [ev] at e1
      obtain ⟨x, sx, S1, e2, e1⟩ := andT_inv e1
      split at e1
      · cases e1
      · rename_i hk
        rw [Bool.not_eq_false] at hk
        split at e1
        · rename_i ds S2 e3
          split at e1
          · rename_i d' hd
            cases e1
            refine ⟨Z, ι, S, H0, ρ, x, sx, S1, hR, sR, e2, fun v1 H1 Z1 ι1 x1 r1 w1 => ⟨tv Z1 ι1 S1.length H1 v1 _ (rd_rd r1 w1.rd) hk, ?_⟩⟩
            refine ⟨Z1, ι1, S1, H0, ρ, ds, _, r1, sR.ext hR x1, e3, fun vs H2 Z2 ι2 x2 r2 q2 => ?_⟩
            exact ⟨Z2, ι2, _, _, _, d, rd_rd r2 (w1.ext r1 x2).rd, par_rd r2 q2, hd, fun v r => k v H2 Z2 ι2 (x1.trans x2) r2 r⟩
          · cases e1
        · cases e1
    cases m <;> simp only [meNm] at hn <;> cases hn
    · exact go "str" _ PySem.F.plainAttrs_str PySem.F.slot_str_index PySem.F.type_str_index metIndex fun Z ι n H v o' r hk => by
        cases o' <;> simp [meK] at hk
        rw [r.str]; exact .inl rfl
    · exact go "str" _ PySem.F.plainAttrs_str PySem.F.slot_str_join PySem.F.type_str_join metJoin fun Z ι n H v o' r hk => by
        cases o' <;> simp [meK] at hk
        rw [r.str]; exact .inl rfl
    · exact go "dict" _ PySem.F.plainAttrs_dict PySem.F.slot_dict_get PySem.F.type_dict_get (metGet1 xc.units) fun Z ι n H v o' r hk => by
        cases o' <;> simp [meK] at hk
        obtain ⟨a, kvs, rfl, h1, _⟩ := r.dict
        exact .inr ⟨rfl, a, rfl, .inl ⟨kvs, h1⟩⟩
    · exact go "dict" _ PySem.F.plainAttrs_dict PySem.F.slot_dict_get PySem.F.type_dict_get (metGet2 xc.units) fun Z ι n H v o' r hk => by
        cases o' <;> simp [meK] at hk
        obtain ⟨a, kvs, rfl, h1, _⟩ := r.dict
        exact .inr ⟨rfl, a, rfl, .inl ⟨kvs, h1⟩⟩
theorem s_call {f : Nat} {es : Es} {p : Expr} (xc : XC cx sc M cf X) (ihs : ∀ ps, mtEs cx sc es ps = true → SndS cx M cf es X ps) (h : mtE cx sc (.call f es) p = true) : Snd cx M cf (.call f es) X p := by
  cases p <;> try (simp [mtE] at h; done)
  rename_i fn pes kws pos
  cases fn <;> cases kws <;> try (simp [mtE] at h; done)
  rename_i x p
  simp only [mtE, Bool.and_eq_true, decide_eq_true_eq] at h
  obtain ⟨⟨⟨hf, hg⟩, hk⟩, hs⟩ := h
  obtain ⟨q1, q2, q3⟩ := okNm_ok hk
  obtain ⟨k, fa, fd, ps, F, hr, hm, kp, hb⟩ := xc.fn f x hf
  have hh := ihs _ hs
  have i : ∀ σ H Q, tE X.K M cf (.call f es) σ H Q → tCall (SpD X.K M cf f) [] E0 (tF X.K M cf es) σ H Q := fun σ H Q ⟨Z, ι, S, H0, ρ, d, st, S', hR, sR, e1, k⟩ => by
    simp only [ev] at e1
    split at e1
    · rename_i ds S1 e2
      refine ⟨Z, ι, S, H0, ρ, ds, S1, hR, sR, e2, fun vs H1 Z1 ι1 x1 r1 w1 => ?_⟩
      show SpD X.K M cf f (vs ++ []) H1 Q E0
      rw [List.append_nil]
      exact ⟨Z1, ι1, S1, ds, d, st, S', r1, w1, e1, fun v H2 Z2 ι2 x2 r2 w2 => k v H2 Z2 ι2 (x1.trans x2) r2 (w2.back x1.al)⟩
    · cases e1
  cases pes with
  | nil =>
    refine snd_of (PE.imp (peG_call0 F xc.gd hr (gl_ok xc hg) hm kp hb pass0 q1) fun σ H Q hq => ?_) (fun _ => rfl) (fun _ _ _ q => nomatch q)
    cases es with
    | cons _ _ => simp [mtEs] at hs
    | nil =>
      obtain ⟨Z, ι, S, H0, ρ, ds, S1, hR, sR, e2, kk⟩ := i σ H Q hq
      simp only [evF] at e2
      cases e2
      exact kk [] H Z ι Ext.refl hR .nil
  | cons q pes =>
    have hpl := hh.pl
    rw [List.all_cons, Bool.and_eq_true] at hpl
    exact snd_of (PE.imp (peG_call F xc.gd hr (gl_ok xc hg) hm kp hb pass0 hh.f q1 (star_plain hpl.1) (any_plain hpl.2)) i) (fun _ => rfl) (fun _ _ _ q => nomatch q)
theorem alls_reps {K : PySem.W.Frag} {H : Hp} {Z Z' : Addr → Prop} {ι : Nat → Addr} {n n' : Nat} {g : D → Option D} (ih : ∀ v d d', g d = some d' → Rep K H Z ι n v d → Rep K H Z' ι n' v d') : ∀ {xs : List V} {ds ds' : List D}, Reps K H Z ι n xs ds → alls (ds.map g) = some ds' → Reps K H Z' ι n' xs ds'
  | _, _, _, .nil, h => by simp only [List.map_nil, alls] at h; cases h; exact .nil
  | _, _, _, .cons (d := d) r t, h => by
    simp only [List.map_cons] at h
    cases hg : g d with
    | none => rw [hg] at h; simp [alls] at h
    | some d' =>
      rw [hg] at h
      simp only [alls, Option.map_eq_some_iff] at h
      obtain ⟨ds', h, rfl⟩ := h
      exact .cons (ih _ _ _ hg r) (alls_reps ih t h)
theorem unr_rep {K : PySem.W.Frag} {M : Nm} {H : Hp} {Z : Addr → Prop} {ι : Nat → Addr} {S : Store} (hR : HR K M H Z ι S) : ∀ (k : Nat) (v : V) (d d' : D), unr S k d = some d' → Rep K H Z ι S.length v d → Rep K H (fun a => H a ≠ none) ι 0 v d' := by
  intro k
  induction k with
  | zero =>
    intro v d d' h r
    cases r <;> simp [unr] at h
    · subst h; exact .non
    · subst h; exact .bl _
    · subst h; exact .int _
    · subst h; exact .str _
    · subst h; exact .scr (by assumption)
  | succ k ih =>
    intro v d d' h r
    cases r with
    | non => simp [unr] at h; subst h; exact .non
    | bl => simp [unr] at h; subst h; exact .bl _
    | int => simp [unr] at h; subst h; exact .int _
    | str => simp [unr] at h; subst h; exact .str _
    | scr hs => simp [unr] at h; subst h; exact .scr hs
    | tup hs rr =>
      simp only [unr, Option.map_eq_some_iff] at h
      obtain ⟨ds', h, rfl⟩ := h
      exact .tup hs (alls_reps ih rr h)
    | tupw hs rr => simp [unr] at h
    | lst z hs rr =>
      simp only [unr, Option.map_eq_some_iff] at h
      obtain ⟨ds', h, rfl⟩ := h
      exact .lst (by rw [hs]; simp) hs (alls_reps ih rr h)
    | dict z hs r1 r2 => simp [unr] at h
    | dictF hs r1 r2 => simp [unr] at h
    | @ref l hl =>
      simp only [unr] at h
      split at h
      · rename_i ds hx
        rw [Option.map_eq_some_iff] at h
        obtain ⟨ds', h, rfl⟩ := h
        obtain ⟨xs, hh, rr⟩ := hR.cell l _ hx
        exact .lst (by rw [hh]; simp) hh (alls_reps ih rr h)
      · cases h
theorem unr_vr {K : PySem.W.Frag} {M : Nm} {H H0 : Hp} {Z : Addr → Prop} {ι : Nat → Addr} {S : Store} (hR : HR K M H Z ι S) {k : Nat} {v : V} {d d' : D} {st : Stt} (h : unr S k d = some d') (r : VR K H Z ι S.length H0 st v d) : Rep K H (fun a => H a ≠ none) ι 0 v d' := by
  rcases r.rd with q | ⟨a, rfl, l⟩
  · exact unr_rep hR k v d d' h q
  · cases d with
    | lst ds =>
      obtain ⟨xs, hh, rr⟩ := l
      cases k with
      | zero => simp [unr] at h
      | succ k =>
        simp only [unr, Option.map_eq_some_iff] at h
        obtain ⟨ds', h, rfl⟩ := h
        exact .lst (by rw [hh]; simp) hh (alls_reps (unr_rep hR k) rr h)
    | dict ks vs => cases k <;> simp [unr] at h
    | _ => exact l.elim
theorem unrs_vr {K : PySem.W.Frag} {M : Nm} {H H0 : Hp} {Z : Addr → Prop} {ι : Nat → Addr} {S : Store} (hR : HR K M H Z ι S) {k : Nat} {vs : List V} {ds : List D} (q : Paired (fun v d => ∃ st, VR K H Z ι S.length H0 st v d) vs ds) : ∀ {ds' : List D}, unrs S k ds = some ds' → Reps K H (fun a => H a ≠ none) ι 0 vs ds' := by
  induction q with
  | nil => intro ds' h; simp only [unrs, List.map_nil, alls] at h; cases h; exact .nil
  | @cons v d vs ds r t ih =>
    intro ds' h
    obtain ⟨st, r⟩ := r
    simp only [unrs, List.map_cons] at h
    cases hg : unr S k d with
    | none => rw [hg] at h; simp [alls] at h
    | some d' =>
      rw [hg] at h
      simp only [alls, Option.map_eq_some_iff] at h
      obtain ⟨ds2, h, rfl⟩ := h
      exact .cons (unr_vr hR hg r) (ih (show unrs S k _ = some ds2 from h))
theorem scal_vr {K : PySem.W.Frag} {H H0 H' : Hp} {Z Z' : Addr → Prop} {ι ι' : Nat → Addr} {n n' : Nat} {st : Stt} {v : V} {d : D} (hs : scalD d = true) (r : VR K H Z ι n H0 st v d) : Rep K H' Z' ι' n' v d := by
  rcases r.rd with q | ⟨a, _, l⟩
  · cases q <;> simp [scalD] at hs
    · exact .non
    · exact .bl _
    · exact .int _
    · exact .str _
  · cases d <;> first | exact l.elim | simp [scalD] at hs
theorem s_pcall {f : Nat} {es : Es} {p : Expr} (xc : XC cx sc M cf X) (ihs : ∀ ps, mtEs cx sc es ps = true → SndS cx M cf es X ps) (h : mtE cx sc (.pcall f es) p = true) : Snd cx M cf (.pcall f es) X p := by
  cases p <;> try (simp [mtE] at h; done)
  rename_i fn pes kws pos
  cases fn <;> cases kws <;> try (simp [mtE] at h; done)
  rename_i x p
  simp only [mtE, Bool.and_eq_true, decide_eq_true_eq] at h
  obtain ⟨⟨⟨⟨hf, hg⟩, hk⟩, hs⟩, hn⟩ := h
  obtain ⟨q1, q2, q3⟩ := okNm_ok hk
  obtain ⟨k, fa, fd, ps, F, hr, hm, kp, hb⟩ := xc.fn f x hf
  have hh := ihs _ hs
  have i : ∀ σ H Q, tE X.K M cf (.pcall f es) σ H Q → tCall (SpD X.K M cf f) [] E0 (tR X.K M cf es) σ H Q := fun σ H Q ⟨Z, ι, S, H0, ρ, d, st, S', hR, sR, e1, k⟩ => by
    simp only [ev] at e1
    split at e1
    rotate_left
    · cases e1
    rename_i ds S1 e2
    split at e1
    rotate_left
    · cases e1
    rename_i ds' e3
    split at e1
    rotate_left
    · cases e1
    rename_i d1 st1 S2 e4
    split at e1
    rotate_left
    · cases e1
    rename_i hsc
    cases e1
    refine ⟨Z, ι, S, H0, ρ, ds, S', hR, sR, e2, fun vs H1 Z1 ι1 x1 r1 w1 => ?_⟩
    show SpD X.K M cf f (vs ++ []) H1 Q E0
    rw [List.append_nil]
    refine ⟨fun a => H1 a ≠ none, ι1, [], ds', d, st1, S2, ⟨fun l c e => by simp at e, fun l l' h _ => absurd h (by simp), fun l h => absurd h (by simp), fun a h => h⟩, unrs_vr r1 w1 e3, e4, fun v H2 Z2 ι2 x2 r2 w2 => ?_⟩
    have g : Grow H1 H2 := fun a o e => x2.fr a o e fun l hl => absurd hl (by simp)
    have r3 : HR X.K M H2 Z1 ι1 S' := r1.grow g (fun _ z => z) (fun a z => x2.al a (r1.zs a z)) r1.nz
    exact k v H2 Z1 ι1 (x1.trans (Ext.grow g (fun _ z => z) fun _ z => .inl z)) r3 (show VR X.K H2 Z1 ι1 S'.length H .fr v d from scal_vr hsc w2)
  cases pes with
  | nil => simp at hn
  | cons q pes =>
    have hpl := hh.pl
    rw [List.all_cons, Bool.and_eq_true] at hpl
    exact snd_of (PE.imp (peG_call F xc.gd hr (gl_ok xc hg) hm kp hb pass0 hh.r q1 (star_plain hpl.1) (any_plain hpl.2)) i) (fun _ => rfl) (fun _ _ _ q => nomatch q)
end
end PyI
namespace PyI
open PySem L2

/-- enumerate(v): whatever v is that has an iterator -/
theorem enumNew1 {v : Value} {o : Obj} {G : Heap → Prop} (B : Begins v o G) :
    Meets (Builtin.«enumerate.__new__» ⟨[.type "enumerate", v], []⟩) fun _ R s => G s.heap ∧
      R (.ok (.ret (.ref (s.heap.push o).objs.size))) { s with heap := Heap.push (s.heap.push o) { cls := .type "enumerate", data := .fields #[.none, .bool false, .ref s.heap.objs.size, rawInt 0, .none, .none] } } :=
  .of_wp fun prog w A R s hh => by
    rcases s with ⟨hp, g, d, tk, os⟩
    rcases hh with ⟨h1, h⟩
    have hsub := PySem.sub_enumerate
    have step : ∀ {A' : Around} {E : Value → Shared → Prop} {Q : Value → Shared → Prop}, Q (.ref hp.objs.size) ⟨hp.push o, g, d, tk, os⟩ → wpAny (model prog w) A' (pyIter v) Q E ⟨hp, g, d, tk, os⟩ := fun q =>
      B.iter prog w _ _ ⟨hp, g, d, tk, os⟩ _ h1 q
    wp_walk using step
    refine wpAny_stack_any fun st => wpAny_pure ?_
    split
    · rename_i c _ _ _ _ _
      cases hc : (c == Value.type "enumerate") <;>
        (wp_walk using step; exact Exists.intro _ (And.intro rfl h))
    · wp_walk using step
      exact Exists.intro _ (And.intro rfl h)
section
variable {prog : Program} {w : World} {A : Around} {E : Value → Shared → Prop} {s : Shared}
theorem enumCall1 {v : Value} {o : Obj} {G : Heap → Prop} {Q : Value → Shared → Prop} (B : Begins v o G) (h1 : G s.heap)
    (h : ∀ h', IsEnum h' (s.heap.objs.size + 1) s.heap.objs.size 0 .none → h'.get? s.heap.objs.size = some o → (∀ b u, s.heap.get? b = some u → h'.get? b = some u) → Q (.ref (s.heap.objs.size + 1)) { s with heap := h' }) :
    wpAny (model prog w) A (PySem.call (.type "enumerate") [v]) Q E s := by
  have hz : (s.heap.push o).objs.size = s.heap.objs.size + 1 := Heap.size_push ..
  refine callType_new F.called_enumerate (by decide) (F.typeCall_enumerate_1 _) (F.newCall_enumerate_1 _) (fun obj => F.args_object_init_2 obj _) F.entry_enumerate_new (enumNew1 B) ⟨h1, ?_⟩
  show _ ∧ _
  rw [hz]
  have he : IsEnum (Heap.push (s.heap.push o) { cls := .type "enumerate", data := .fields #[.none, .bool false, .ref s.heap.objs.size, rawInt 0, .none, .none] }) (s.heap.objs.size + 1) s.heap.objs.size 0 .none := by
    have q := Heap.get?_push_size (s.heap.push o) (o := { cls := .type "enumerate", data := .fields #[.none, .bool false, .ref s.heap.objs.size, rawInt 0, .none, .none] }) rfl
    rw [hz] at q
    exact q
  exact ⟨⟨_, he, rfl⟩, h _ he (Heap.get?_push_of_some _ (Heap.get?_push_size _ B.free)) fun b u x => Heap.get?_push_of_some _ (Heap.get?_push_of_some _ x)⟩
end
/-- pairs of a place and the item there -/
def IteT (K : PySem.W.Frag) (a : Addr) : It :=
  ⟨fun i H => ∃ (xs : List V) (x : V), SqT K H a xs ∧ xs[i]? = some x, fun i H v H' => ∃ T x, v = .ref T ∧ H T = none ∧ H' = upd H T (.tup [.int (i : Nat), x]) ∧ ∀ xs, SqT K H a xs → xs[i]? = some x, fun i H => ∃ xs : List V, SqT K H a xs ∧ xs.length = i⟩
def IteS (z : Str) : It :=
  ⟨fun i _ => i < z.cps.size, fun i H v H' => ∃ T c, v = .ref T ∧ H T = none ∧ H' = upd H T (.tup [.int (i : Nat), .str ⟨#[c]⟩]) ∧ z.cps[i]? = some c, fun i _ => i = z.cps.size⟩
/-- one turn of an enumerate, whatever draws -/
theorem enum_turn {X : Cx} {i : Nat} {pins : List (Addr × Obj)} {s : Shared} {σ : St} {H : Hp} {E : Value → Shared → Prop} {elts : List Expr} {kk n : Nat} {tpos : Pos} {e it : Addr} {fp : List Addr} {Pv : Nat → Value → Prop} {St0 : Nat → Heap → Prop} {J : It} {tn : Nat → Heap → Prop} {old : Value}
    (I : Inv X pins σ H s) (hf : ∀ b ∈ [e, it], FpOk X pins H b) (D : Draws X.prog X.w X.A.in1 it fp n Pv St0) (he : IsEnum s.heap e it (i : Nat) old) (st : St0 i s.heap) (hlt : i < n) (hne : e ≠ it) (hef : e ∉ fp)
    (hv : ∀ u, Pv i u → ∃ x, RelV x u ∧ ∀ T, H T = none → J.yld i H (.ref T) (upd H T (.tup [.int (i : Nat), x])))
    (ht : ∀ h u, IsEnum h e it ((i + 1 : Nat) : Int) u → St0 (i + 1) h → tn (i + 1) h) :
    wpAny (model X.prog X.w) X.A (pyNext (.ref e)) (fun r s1 => ∃ u, r = some u ∧
      wpAny (model X.prog X.w) X.A (letOwnedTupleGo (.Tuple elts kk tpos) (.ref e) u) (fun _ s2 => ∃ x H', Inv X pins σ H' s2 ∧ RelV x u ∧ J.yld i H x H' ∧ tn (i + 1) s2.heap ∧ ∀ b ∈ [e, it], H' b = none) E s1) E s := by
  have hel : e < s.heap.objs.size := Heap.lt_size he
  have hil : it < s.heap.objs.size := by obtain ⟨_, q⟩ := D.live _ _ st; exact Heap.lt_size q
  refine wpAny_pyNext_enum_itemC D he st hlt hne hef fun u h' tk pu ho st' hT hsz hk => ?_
  obtain ⟨x, ru, hy⟩ := hv u pu
  refine ⟨_, rfl, wpAny_letOwnedTupleGo_enum (s := { s with heap := h', toks := tk + 1 }) ho fun h'' he' sb => ?_⟩
  have hT2 : h''.get? s.heap.objs.size = some { cls := .type "tuple", data := .seq #[.int (i : Nat) tk, u] } := (sb.2 _ (Nat.ne_of_gt hel)).trans hT
  have hn := I.hok.fresh (Nat.le_refl s.heap.objs.size)
  have new : ObjOk X.prog X.w (upd H s.heap.objs.size (.tup [.int (i : Nat), x])) h'' s.heap.objs.size (.tup [.int (i : Nat), x]) :=
    ⟨by show 2 ≤ sizeLine; decide, [.int (i : Nat) tk, u], .cons ⟨_, rfl⟩ (.cons ru .nil), ⟨_, hT2, rfl, _, rfl⟩⟩
  have keep : ∀ b o, b ∉ [e, it] → s.heap.get? b = some o → h''.get? b = some o := fun b o hb q =>
    (sb.2 b fun z => hb (by simp [z])).trans (hk b o (fun z => hb (by simp [z])) (fun z => hb (by simp [z])) q)
  have I1 : Inv X pins σ (upd H s.heap.objs.size (.tup [.int (i : Nat), x])) { s with heap := h'', toks := tk + 1 } := I.turnedNew (ch := [e, it]) keep hf (Nat.le_refl _) new
  refine ⟨.ref s.heap.objs.size, _, I1, rfl, hy _ hn, ht h'' u ?_ (D.frame _ _ _ st' fun b hb o q => (sb.2 b fun z => hef (z ▸ hb)).trans q), fun b hb => ?_⟩
  · have e1 : ((i + 1 : Nat) : Int) = (i : Int) + 1 := by omega
    rw [e1]; exact he'
  · have hb' : b < s.heap.objs.size := by
      have e' : b = e ∨ b = it := by simpa using hb
      rcases e' with z | z
      · rw [z]; exact hel
      · rw [z]; exact hil
    rw [upd_ne (Nat.ne_of_lt hb')]
    exact (hf b hb).1
theorem enum_stop {X : Cx} {i : Int} {pins : List (Addr × Obj)} {s : Shared} {σ : St} {H : Hp} {E : Value → Shared → Prop} {n : Nat} {e it : Addr} {fp : List Addr} {Pv : Nat → Value → Prop} {St0 : Nat → Heap → Prop} {old : Value}
    (I : Inv X pins σ H s) (hf : ∀ b ∈ [e, it], FpOk X pins H b) (D : Draws X.prog X.w X.A.in1 it fp n Pv St0) (he : IsEnum s.heap e it i old) (st : St0 n s.heap) :
    wpAny (model X.prog X.w) X.A (pyNext (.ref e)) (fun r s1 => r = none ∧ Inv X pins σ H s1) E s := by
  obtain ⟨f0, f1, f2, f3, f4, f5⟩ := hf it (by simp)
  exact wpAny_pyNext_enum_endD D he st fun h' eb => ⟨rfl, I.turned (t' := s.toks) (fun b o hb q => eb b o hb q) f0 f1 f3 f4 f5⟩
theorem turn_enumT {P : Program} {w : World} {K : PySem.W.Frag} {elts : List Expr} {kk : Nat} {tpos : Pos} (a e it : Addr) (hne : e ≠ it) (h1 : a ≠ it) (h2 : e ≠ a) :
    Turn P w K (.Tuple elts kk tpos) (IteT K a) [e, it] e (fun i h => (∃ old, IsEnum h e it (i : Nat) old) ∧ h.IsTupleIter it a i) where
  mem := by simp
  obj := fun i h st b hb => by
    obtain ⟨⟨old, he⟩, ⟨o, ho, hc, hd⟩⟩ := st
    have e' : b = e ∨ b = it := by simpa using hb
    rcases e' with z | z
    · rw [z]; exact ⟨_, he, fun v q => nomatch q⟩
    · rw [z]; exact ⟨o, ho, fun v q => by rw [hd] at q; cases q⟩
  keep := fun i h h' st k => ⟨let ⟨old, he⟩ := st.1; ⟨old, k e (by simp) _ he⟩, st.2.at fun o q => k it (by simp) o q⟩
  item := by
    intro X hP hw hK hc i pins s σ H E I hf st hg
    subst hP hw hK
    obtain ⟨⟨old, he⟩, hit⟩ := st
    obtain ⟨xs, x, hq, hx⟩ := hg
    obtain ⟨its, rv, p, hz⟩ := I.tuple hq
    have hl : its.length = xs.length := rv.length.symm
    refine enum_turn (J := IteT X.K a) (tn := fun i h => (∃ old, IsEnum h e it (i : Nat) old) ∧ h.IsTupleIter it a i) I hf (Draws.tuple (A := X.A.in1) (I.ok.hd hc) it a h1 its.toArray) he ⟨hit, show s.heap.IsTuple a its.toArray from p⟩ (by have := (List.getElem?_eq_some_iff.mp hx).1; simp; omega) hne (by simp [hne, h2])
      (fun u hu => ?_) fun h u q1 q2 => ⟨⟨u, q1⟩, q2.1⟩
    obtain ⟨w', hw, rw'⟩ := rv.get hx
    have : w' = u := by
      have hu' : its.toArray[i]? = some u := hu
      have : its[i]? = some u := by simpa using hu'
      rw [hw] at this; exact Option.some.inj this
    subst this
    exact ⟨x, rw', fun T hT => ⟨T, x, rfl, hT, rfl, fun ys hy => by rw [I.tuple_inj hy hq]; exact hx⟩⟩
  done := by
    intro X hP hw hK hc i pins s σ H E I hf st hg
    subst hP hw hK
    obtain ⟨⟨old, he⟩, hit⟩ := st
    obtain ⟨xs, hq, hx⟩ := hg
    obtain ⟨its, rv, p, hz⟩ := I.tuple hq
    have hl : its.toArray.size = i := by rw [List.size_toArray, ← rv.length, hx]
    subst hl
    exact enum_stop I hf (Draws.tuple (A := X.A.in1) (I.ok.hd hc) it a h1 its.toArray) he ⟨hit, show s.heap.IsTuple a its.toArray from p⟩
  self := fun A i s Q E st h => let ⟨⟨_, he⟩, _⟩ := st; wpAny_pyIter_enum he h
theorem turn_enumS {P : Program} {w : World} {K : PySem.W.Frag} {elts : List Expr} {kk : Nat} {tpos : Pos} (z : Str) (t : Tok) (e it : Addr) (hne : e ≠ it) :
    Turn P w K (.Tuple elts kk tpos) (IteS z) [e, it] e (fun i h => (∃ old, IsEnum h e it (i : Nat) old) ∧ h.IsStrIter it (strIterType z) z t i) where
  mem := by simp
  obj := fun i h st b hb => by
    obtain ⟨⟨old, he⟩, ⟨o, ho, hc, hd⟩⟩ := st
    have e' : b = e ∨ b = it := by simpa using hb
    rcases e' with q | q
    · rw [q]; exact ⟨_, he, fun v q => nomatch q⟩
    · rw [q]; exact ⟨o, ho, fun v q => by rw [hd] at q; cases q⟩
  keep := fun i h h' st k => ⟨let ⟨old, he⟩ := st.1; ⟨old, k e (by simp) _ he⟩, let ⟨o, ho, r⟩ := st.2; ⟨o, k it (by simp) _ ho, r⟩⟩
  item := by
    intro X hP hw hK hc i pins s σ H E I hf st hg
    subst hP hw hK
    obtain ⟨⟨old, he⟩, hit⟩ := st
    refine enum_turn (J := IteS z) (tn := fun i h => (∃ old, IsEnum h e it (i : Nat) old) ∧ h.IsStrIter it (strIterType z) z t i) I hf (Draws.text (A := X.A.in1) (I.ok.hd hc) it z t) he hit hg hne (by simp [hne]) (fun u hu => ?_) fun h u q1 q2 => ⟨⟨u, q1⟩, q2⟩
    obtain ⟨c, tt, h1, rfl⟩ := hu
    exact ⟨.str ⟨#[c]⟩, ⟨_, rfl⟩, fun T hT => ⟨T, c, rfl, hT, rfl, h1⟩⟩
  done := by
    intro X hP hw hK hc i pins s σ H E I hf st hg
    subst hP hw hK
    obtain ⟨⟨old, he⟩, hit⟩ := st
    have hg' : i = z.cps.size := hg
    subst hg'
    exact enum_stop I hf (Draws.text (A := X.A.in1) (I.ok.hd hc) it z t) he hit
  self := fun A i s Q E st h => let ⟨⟨_, he⟩, _⟩ := st; wpAny_pyIter_enum he h
def iEnumA (K : PySem.W.Frag) (ta : TA) : TI := fun σ H R => ta σ H fun vs H1 => (∃ a xs, vs = [.ref a] ∧ SqL K H1 a xs ∧ R (Ite K a) H1) ∨ (∃ a xs, vs = [.ref a] ∧ SqT K H1 a xs ∧ R (IteT K a) H1) ∨ ∃ z, vs = [.str z] ∧ R (IteS z) H1
theorem pi_enumA {X : Cx} {e : Expr} {ta : TA} {p pos tpos : Pos} {elts : List Expr} {kk : Nat} (hg : Gl X "enumerate") (hm : X.mg "enumerate" = none) (ha : PA X [e] ta) (hs : starEach [e] X.env = [(false, PySem.eval e X.env)]) :
    PI X (.Tuple elts kk tpos) (.Call (.Name "enumerate" p) [e] [] pos) (iEnumA X.K ta) := by
  refine ⟨fun pins s σ H R I h => ?_⟩
  refine PyProof.Rows.Call_ (ld_blt I hg hm PyProof.Rows.boot_enumerate (PyProof.Rows.callWith_type1 (thn (ha.run pos pins s σ H _ I h) fun us s1 ⟨vs, H1, I1, r1, q1⟩ => ?_) hs rfl))
  have two : ∀ b ∈ [s1.heap.objs.size + 1, s1.heap.objs.size], FpOk X pins H1 b := fun b hb => by
    have hle : s1.heap.objs.size ≤ b := by
      have e' : b = s1.heap.objs.size + 1 ∨ b = s1.heap.objs.size := by simpa using hb
      rcases e' with z | z <;> rw [z]
      · exact Nat.le_succ _
      · exact Nat.le_refl _
    exact I1.fpOk hle (I1.hok.fresh hle)
  rcases q1 with ⟨a, xs, rfl, hq, q⟩ | ⟨a, xs, rfl, hq, q⟩ | ⟨z, rfl, q⟩
  · obtain ⟨u, rfl, ru⟩ := vals1 r1
    cases ru
    obtain ⟨its, rv, p', hz⟩ := I1.list hq
    refine call_enumerate_list p'.isList fun h' he hit hsz hk => wpAny_pyIter_enum he ?_
    exact ⟨s1.heap.objs.size + 1, [s1.heap.objs.size + 1, s1.heap.objs.size], _, _, H1, rfl, I1.kept (t' := s1.toks) hk, turn_enum a (s1.heap.objs.size + 1) s1.heap.objs.size, ⟨⟨.none, he⟩, hit, Nat.succ_ne_self _⟩, two, q⟩
  · obtain ⟨u, rfl, ru⟩ := vals1 r1
    cases ru
    obtain ⟨its, rv, p', hz⟩ := I1.tuple hq
    obtain ⟨oa, hoa, _⟩ := id p'
    have la : a < s1.heap.objs.size := Heap.lt_size hoa
    refine enumCall1 (begins_tuple a its.toArray) (show s1.heap.IsTuple a its.toArray from p') fun h' he hit hk => wpAny_pyIter_enum he ?_
    exact ⟨s1.heap.objs.size + 1, [s1.heap.objs.size + 1, s1.heap.objs.size], _, _, H1, rfl, I1.kept (t' := s1.toks) hk, turn_enumT a (s1.heap.objs.size + 1) s1.heap.objs.size (Nat.succ_ne_self _) (Nat.ne_of_lt la) (Nat.ne_of_gt (Nat.lt_succ_of_lt la)), ⟨⟨.none, he⟩, ⟨_, hit, rfl, rfl⟩⟩, two, q⟩
  · obtain ⟨u, rfl, ru⟩ := vals1 r1
    obtain ⟨t, rfl⟩ := ru
    refine enumCall1 (begins_text z t) True.intro fun h' he hit hk => wpAny_pyIter_enum he ?_
    exact ⟨s1.heap.objs.size + 1, [s1.heap.objs.size + 1, s1.heap.objs.size], _, _, H1, rfl, I1.kept (t' := s1.toks) hk, turn_enumS z t (s1.heap.objs.size + 1) s1.heap.objs.size (Nat.succ_ne_self _), ⟨⟨.none, he⟩, ⟨_, hit, rfl, rfl⟩⟩, two, q⟩
end PyI
namespace PyI
open PySem L2

abbrev GP := Hp → (Addr → Prop) → (Nat → Addr) → Nat → Prop
/-- a walk over data, while G stands -/
structure Wk (K : PySem.W.Frag) (J : It) (ds : List D) (G : GP) : Prop where
  go : ∀ i H Z ι n, i < ds.length → G H Z ι n → J.go i H
  stop : ∀ H Z ι n, G H Z ι n → J.stop ds.length H
  yld : ∀ i H Z ι n x H' d, ds[i]? = some d → G H Z ι n → J.yld i H x H' → Grow H H' ∧ Rep K H' Z ι n x d
/-- v may be read as x while G stands -/
def Src (K : PySem.W.Frag) (v : V) (x : D) (G : GP) : Prop := ∀ H Z ι n, G H Z ι n → RdV K H Z ι n v x
/-- G stays when what is frozen stays, and the own lists at os -/
def Sta (K : PySem.W.Frag) (σ : St) (ρ : SEnv) (os : List Nat) (G : GP) : Prop := ∀ H Z ι n H' Z' ι' n', Keep K H Z ι n H' Z' ι' n' →
  (∀ i ∈ os, ∀ a d, ρ[i]? = some (.own d) → σ[i]? = some (some (.ref a)) → LR K H' Z' ι' n' a d) → G H Z ι n → G H' Z' ι' n'

section
variable {K : PySem.W.Frag} {M : Nm}
theorem src_list {a : Addr} {x : D} {ds : List D} {G : GP} (s : Src K (.ref a) x G) (hx : lstD x = some ds) {H : Hp} {Z : Addr → Prop} {ι : Nat → Addr} {n : Nat} (g : G H Z ι n) : ∃ xs, SqL K H a xs ∧ Reps K H Z ι n xs ds := by
  have r := s H Z ι n g
  cases x <;> simp only [lstD] at hx <;> cases hx
  · obtain ⟨b, xs, e, h, q⟩ := r.lst
    cases e
    exact ⟨xs, .inl (.inl h), q⟩
  · obtain ⟨b, e, h⟩ := r.scr
    cases e
    exact ⟨_, h, reps_ints _⟩
theorem src_tup {a : Addr} {ds : List D} {G : GP} (s : Src K (.ref a) (.tup ds) G) {H : Hp} {Z : Addr → Prop} {ι : Nat → Addr} {n : Nat} (g : G H Z ι n) : ∃ xs, SqT K H a xs ∧ Reps K H Z ι n xs ds := by
  obtain ⟨b, xs, e, h, q⟩ := (s H Z ι n g).tup
  cases e
  exact ⟨xs, h, q⟩
theorem reps_at {H : Hp} {Z : Addr → Prop} {ι : Nat → Addr} {n : Nat} {xs : List V} {ds : List D} (r : Reps K H Z ι n xs ds) {i : Nat} (hi : i < ds.length) : ∃ x, xs[i]? = some x := by
  obtain ⟨v, h, _⟩ := r.get (List.getElem?_eq_getElem hi)
  exact ⟨v, h⟩
theorem wk_list {a : Addr} {x : D} {ds : List D} {G : GP} (s : Src K (.ref a) x G) (hx : lstD x = some ds) : Wk K (Itl K a) ds G where
  go := fun i H Z ι n hi g => by
    obtain ⟨xs, q, r⟩ := src_list s hx g
    obtain ⟨y, hy⟩ := reps_at r hi
    exact ⟨xs, y, q, hy⟩
  stop := fun H Z ι n g => by
    obtain ⟨xs, q, r⟩ := src_list s hx g
    exact ⟨xs, q, Nat.le_of_eq r.length⟩
  yld := fun i H Z ι n y H' d hd g q => by
    obtain ⟨xs, q1, r⟩ := src_list s hx g
    obtain ⟨e, h⟩ := q
    subst e
    obtain ⟨v, h1, h2⟩ := r.get hd
    have h3 := h xs q1
    rw [h1] at h3
    cases h3
    exact ⟨Grow.refl, h2⟩
theorem wk_tup {a : Addr} {ds : List D} {G : GP} (s : Src K (.ref a) (.tup ds) G) : Wk K (Itt K a) ds G where
  go := fun i H Z ι n hi g => by
    obtain ⟨xs, q, r⟩ := src_tup s g
    obtain ⟨y, hy⟩ := reps_at r hi
    exact ⟨xs, y, q, hy⟩
  stop := fun H Z ι n g => by
    obtain ⟨xs, q, r⟩ := src_tup s g
    exact ⟨xs, q, Nat.le_of_eq r.length⟩
  yld := fun i H Z ι n y H' d hd g q => by
    obtain ⟨xs, q1, r⟩ := src_tup s g
    obtain ⟨e, h⟩ := q
    subst e
    obtain ⟨v, h1, h2⟩ := r.get hd
    have h3 := h xs q1
    rw [h1] at h3
    cases h3
    exact ⟨Grow.refl, h2⟩
theorem chr_txt (c : Nat) : (⟨#[c]⟩ : Str) = txt [c] := rfl
theorem wk_str {t : List Nat} {G : GP} : Wk K (Its (txt t)) (t.map fun c => D.str [c]) G where
  go := fun i H Z ι n hi g => by
    show i < (txt t).cps.size
    simpa [txt] using hi
  stop := fun H Z ι n g => by
    show (txt t).cps.size ≤ _
    simp [txt]
  yld := fun i H Z ι n y H' d hd g q => by
    obtain ⟨e, c, h, hy⟩ := q
    subst e
    subst hy
    have h' : t[i]? = some c := by simpa [txt] using h
    rw [List.getElem?_map, h'] at hd
    cases hd
    exact ⟨Grow.refl, Rep.str [c]⟩
theorem wk_rng {lo : Int} {n : Nat} {G : GP} : Wk K (Itr lo n) ((List.range n).map fun k : Nat => D.int (lo + (k : Int))) G where
  go := fun i H Z ι m hi g => by
    show i < n
    simpa using hi
  stop := fun H Z ι m g => by
    show n ≤ _
    simp
  yld := fun i H Z ι m y H' d hd g q => by
    obtain ⟨e, h⟩ := q
    subst e
    subst h
    rw [List.getElem?_map] at hd
    have hi : i < n := by
      cases c : (List.range n)[i]? with
      | none => rw [c] at hd; cases hd
      | some k => simpa using (List.getElem?_eq_some_iff.mp c).1
    rw [List.getElem?_range hi] at hd
    cases hd
    exact ⟨Grow.refl, Rep.int _⟩
/-- a new pair -/
theorem rep_pair {H : Hp} {Z : Addr → Prop} {ι : Nat → Addr} {n : Nat} {T : Addr} {x y : V} {d e : D} (hT : H T = none) (r1 : Rep K H Z ι n x d) (r2 : Rep K H Z ι n y e) : Rep K (upd H T (.tup [x, y])) Z ι n (.ref T) (.tupw [d, e]) := by
  have k : Keep K H Z ι n (upd H T (.tup [x, y])) Z ι n := (Grow.new hT).keep
  exact .tupw (.inl (.inl upd_same)) (.cons (r1.keep k) (.cons (r2.keep k) .nil))
theorem enum_get {ds : List D} {i : Nat} {d : D} (h : (ds.zipIdx.map (fun p => D.tupw [.int p.2, p.1]))[i]? = some d) : ∃ e, ds[i]? = some e ∧ d = .tupw [.int (i : Nat), e] := by
  rw [List.getElem?_map, List.getElem?_zipIdx] at h
  cases c : ds[i]? with
  | none => rw [c] at h; cases h
  | some e =>
    rw [c] at h
    simp at h
    exact ⟨e, rfl, h.symm⟩
theorem wk_enum {a : Addr} {x : D} {ds : List D} {G : GP} (s : Src K (.ref a) x G) (hx : lstD x = some ds) : Wk K (Ite K a) (ds.zipIdx.map (fun p => .tupw [.int p.2, p.1])) G where
  go := fun i H Z ι n hi g => by
    obtain ⟨xs, q, r⟩ := src_list s hx g
    obtain ⟨y, hy⟩ := reps_at r (i := i) (by simpa using hi)
    exact ⟨xs, y, q, hy⟩
  stop := fun H Z ι n g => by
    obtain ⟨xs, q, r⟩ := src_list s hx g
    exact ⟨xs, q, by simp [r.length]⟩
  yld := fun i H Z ι n y H' d hd g q => by
    obtain ⟨xs, q1, r⟩ := src_list s hx g
    obtain ⟨T, z, e, hT, hH, h⟩ := q
    obtain ⟨e2, he, hd'⟩ := enum_get hd
    obtain ⟨v, h1, h2⟩ := r.get he
    have h3 := h xs q1
    rw [h1] at h3
    cases h3
    subst e hH hd'
    exact ⟨Grow.new hT, rep_pair hT (Rep.int _) h2⟩
theorem wk_enumT {a : Addr} {ds : List D} {G : GP} (s : Src K (.ref a) (.tup ds) G) : Wk K (IteT K a) (ds.zipIdx.map (fun p => .tupw [.int p.2, p.1])) G where
  go := fun i H Z ι n hi g => by
    obtain ⟨xs, q, r⟩ := src_tup s g
    obtain ⟨y, hy⟩ := reps_at r (i := i) (by simpa using hi)
    exact ⟨xs, y, q, hy⟩
  stop := fun H Z ι n g => by
    obtain ⟨xs, q, r⟩ := src_tup s g
    exact ⟨xs, q, by simp [r.length]⟩
  yld := fun i H Z ι n y H' d hd g q => by
    obtain ⟨xs, q1, r⟩ := src_tup s g
    obtain ⟨T, z, e, hT, hH, h⟩ := q
    obtain ⟨e2, he, hd'⟩ := enum_get hd
    obtain ⟨v, h1, h2⟩ := r.get he
    have h3 := h xs q1
    rw [h1] at h3
    cases h3
    subst e hH hd'
    exact ⟨Grow.new hT, rep_pair hT (Rep.int _) h2⟩
theorem wk_enumS {t : List Nat} {G : GP} : Wk K (IteS (txt t)) ((t.map fun c => D.str [c]).zipIdx.map (fun p => .tupw [.int p.2, p.1])) G where
  go := fun i H Z ι n hi g => by
    show i < (txt t).cps.size
    simpa [txt] using hi
  stop := fun H Z ι n g => by
    show _ = (txt t).cps.size
    simp [txt]
  yld := fun i H Z ι n y H' d hd g q => by
    obtain ⟨T, c, e, hT, hH, h⟩ := q
    obtain ⟨e2, he, hd'⟩ := enum_get hd
    have h' : t[i]? = some c := by simpa [txt] using h
    rw [List.getElem?_map, h'] at he
    cases he
    subst e hH hd'
    exact ⟨Grow.new hT, rep_pair hT (Rep.int _) (Rep.str [c])⟩
theorem zip_get {ds es : List D} {i : Nat} {d : D} (h : ((ds.zip es).map (fun p => D.tupw [p.1, p.2]))[i]? = some d) : ∃ x y, ds[i]? = some x ∧ es[i]? = some y ∧ d = .tupw [x, y] := by
  rw [List.getElem?_map] at h
  cases c : (ds.zip es)[i]? with
  | none => rw [c] at h; cases h
  | some p =>
    rw [c] at h
    obtain ⟨h1, h2⟩ := List.getElem?_zip_eq_some.mp c
    cases h
    exact ⟨_, _, h1, h2, rfl⟩
theorem wk_zip {a b : Addr} {x y : D} {ds es : List D} {G1 G2 : GP} (s : Src K (.ref a) x G1) (t : Src K (.ref b) y G2) (hx : lstD x = some ds) (hy : lstD y = some es) : Wk K (Itz K a b) ((ds.zip es).map (fun p => .tupw [p.1, p.2])) (fun H Z ι n => G1 H Z ι n ∧ G2 H Z ι n) where
  go := fun i H Z ι n hi g => by
    obtain ⟨xs, q, r⟩ := src_list s hx g.1
    obtain ⟨ys, q', r'⟩ := src_list t hy g.2
    have hi' : i < ds.length ∧ i < es.length := by simp at hi; omega
    obtain ⟨y, hy⟩ := reps_at r hi'.1
    obtain ⟨y', hy'⟩ := reps_at r' hi'.2
    exact ⟨xs, ys, y, y', q, q', hy, hy'⟩
  stop := fun H Z ι n g => by
    obtain ⟨xs, q, r⟩ := src_list s hx g.1
    obtain ⟨ys, q', r'⟩ := src_list t hy g.2
    exact ⟨xs, ys, q, q', by simp [r.length, r'.length]; omega⟩
  yld := fun i H Z ι n v H' d hd g q => by
    obtain ⟨xs, q1, r⟩ := src_list s hx g.1
    obtain ⟨ys, q1', r'⟩ := src_list t hy g.2
    obtain ⟨T, z, z', e, hT, hH, h, h'⟩ := q
    obtain ⟨e1, e2, he1, he2, hd'⟩ := zip_get hd
    obtain ⟨v1, h1, h2⟩ := r.get he1
    obtain ⟨v2, k1, k2⟩ := r'.get he2
    have h3 := h xs q1
    rw [h1] at h3
    cases h3
    have h3 := h' ys q1'
    rw [k1] at h3
    cases h3
    subst e hH hd'
    exact ⟨Grow.new hT, rep_pair hT h2 k2⟩
theorem wk_zipT {a b : Addr} {ds es : List D} {G1 G2 : GP} (s : Src K (.ref a) (.tup ds) G1) (t : Src K (.ref b) (.tup es) G2) : Wk K (RZ.ItzT K a b) ((ds.zip es).map (fun p => .tupw [p.1, p.2])) (fun H Z ι n => G1 H Z ι n ∧ G2 H Z ι n) where
  go := fun i H Z ι n hi g => by
    obtain ⟨xs, q, r⟩ := src_tup s g.1
    obtain ⟨ys, q', r'⟩ := src_tup t g.2
    have hi' : i < ds.length ∧ i < es.length := by simp at hi; omega
    obtain ⟨y, hy⟩ := reps_at r hi'.1
    obtain ⟨y', hy'⟩ := reps_at r' hi'.2
    exact ⟨xs, ys, y, y', q, q', hy, hy'⟩
  stop := fun H Z ι n g => by
    obtain ⟨xs, q, r⟩ := src_tup s g.1
    obtain ⟨ys, q', r'⟩ := src_tup t g.2
    exact ⟨xs, ys, q, q', by simp [r.length, r'.length]; omega⟩
  yld := fun i H Z ι n v H' d hd g q => by
    obtain ⟨xs, q1, r⟩ := src_tup s g.1
    obtain ⟨ys, q1', r'⟩ := src_tup t g.2
    obtain ⟨T, z, z', e, hT, hH, h, h'⟩ := q
    obtain ⟨e1, e2, he1, he2, hd'⟩ := zip_get hd
    obtain ⟨v1, h1, h2⟩ := r.get he1
    obtain ⟨v2, k1, k2⟩ := r'.get he2
    have h3 := h xs q1
    rw [h1] at h3
    cases h3
    have h3 := h' ys q1'
    rw [k1] at h3
    cases h3
    subst e hH hd'
    exact ⟨Grow.new hT, rep_pair hT h2 k2⟩

theorem wk_zipS {s t : List Nat} {G : GP} : Wk K (ItzS (txt s) (txt t)) (((s.map fun c => D.str [c]).zip (t.map fun c => D.str [c])).map (fun p => .tupw [p.1, p.2])) G where
  go := fun i H Z ι n hi g => by
    show i < min (txt s).cps.size (txt t).cps.size
    simp [txt] at hi ⊢
    exact hi
  stop := fun H Z ι n g => by
    show _ = min (txt s).cps.size (txt t).cps.size
    simp [txt]
  yld := fun i H Z ι n v H' d hd g q => by
    obtain ⟨T, c, c', e, hT, hH, h, h'⟩ := q
    obtain ⟨e1, e2, he1, he2, hd'⟩ := zip_get hd
    have h1 : s[i]? = some c := by simpa [txt] using h
    have h2 : t[i]? = some c' := by simpa [txt] using h'
    rw [List.getElem?_map, h1] at he1
    rw [List.getElem?_map, h2] at he2
    cases he1
    cases he2
    subst e hH hd'
    exact ⟨Grow.new hT, rep_pair hT (Rep.str [c]) (Rep.str [c'])⟩
/-- a locked dict, by keys, by values, by items -/
theorem wk_keys {a : Addr} {ks vs : List D} {G : GP} {o : Obj} {kvs : List (Key × V)} (s : ∀ H Z ι n, G H Z ι n → H a = some (.frz o (.dK kvs)) ∧ Reps K H Z ι n (kvs.map fun p => kV p.1) ks ∧ Reps K H Z ι n (kvs.map (·.2)) vs) : Wk K (Itk a o kvs) ks G where
  go := fun i H Z ι n hi g => by
    obtain ⟨q, r, _⟩ := s H Z ι n g
    exact ⟨q, by have := r.length; simp at this; omega⟩
  stop := fun H Z ι n g => by
    obtain ⟨q, r, _⟩ := s H Z ι n g
    exact ⟨q, by have := r.length; simp at this; omega⟩
  yld := fun i H Z ι n y H' d hd g q => by
    obtain ⟨_, r, _⟩ := s H Z ι n g
    obtain ⟨e, k, v, h, hy⟩ := q
    subst e hy
    obtain ⟨w, h1, h2⟩ := r.get hd
    rw [List.getElem?_map, h] at h1
    cases h1
    exact ⟨Grow.refl, h2⟩
theorem wk_vals {a : Addr} {ks vs : List D} {G : GP} {o : Obj} {kvs : List (Key × V)} (s : ∀ H Z ι n, G H Z ι n → H a = some (.frz o (.dK kvs)) ∧ Reps K H Z ι n (kvs.map fun p => kV p.1) ks ∧ Reps K H Z ι n (kvs.map (·.2)) vs) : Wk K (Itd a o kvs) vs G where
  go := fun i H Z ι n hi g => by
    obtain ⟨q, _, r⟩ := s H Z ι n g
    exact ⟨q, by have := r.length; simp at this; omega⟩
  stop := fun H Z ι n g => by
    obtain ⟨q, _, r⟩ := s H Z ι n g
    exact ⟨q, by have := r.length; simp at this; omega⟩
  yld := fun i H Z ι n y H' d hd g q => by
    obtain ⟨_, _, r⟩ := s H Z ι n g
    obtain ⟨e, k, h⟩ := q
    subst e
    obtain ⟨w, h1, h2⟩ := r.get hd
    rw [List.getElem?_map, h] at h1
    cases h1
    exact ⟨Grow.refl, h2⟩
theorem wk_items {a : Addr} {ks vs : List D} {G : GP} {o : Obj} {kvs : List (Key × V)} (s : ∀ H Z ι n, G H Z ι n → H a = some (.frz o (.dK kvs)) ∧ Reps K H Z ι n (kvs.map fun p => kV p.1) ks ∧ Reps K H Z ι n (kvs.map (·.2)) vs) : Wk K (Iti a o kvs) ((ks.zip vs).map (fun p => .tupw [p.1, p.2])) G where
  go := fun i H Z ι n hi g => by
    obtain ⟨q, r, r'⟩ := s H Z ι n g
    exact ⟨q, by have := r.length; have := r'.length; simp at *; omega⟩
  stop := fun H Z ι n g => by
    obtain ⟨q, r, r'⟩ := s H Z ι n g
    exact ⟨q, by have := r.length; have := r'.length; simp at *; omega⟩
  yld := fun i H Z ι n y H' d hd g q => by
    obtain ⟨_, r, r'⟩ := s H Z ι n g
    obtain ⟨T, k, v, h, e, hT, hH⟩ := q
    obtain ⟨e1, e2, he1, he2, hd'⟩ := zip_get hd
    obtain ⟨w1, h1, h2⟩ := r.get he1
    obtain ⟨w2, k1, k2⟩ := r'.get he2
    rw [List.getElem?_map, h] at h1 k1
    cases h1
    cases k1
    subst e hH hd'
    exact ⟨Grow.new hT, rep_pair hT h2 k2⟩
theorem dictF_at {v : V} {ks vs : List D} {H : Hp} {Z : Addr → Prop} {ι : Nat → Addr} {n : Nat} (r : RdV K H Z ι n v (.dictF ks vs)) : ∃ a o, ∃ kvs : List (Key × V), v = .ref a ∧ H a = some (.frz o (.dK kvs)) ∧ Reps K H Z ι n (kvs.map fun p => kV p.1) ks ∧ Reps K H Z ι n (kvs.map (·.2)) vs := by
  rcases r with r | ⟨_, _, r⟩
  · cases r with
    | dictF h1 h2 h3 => exact ⟨_, _, _, rfl, h1, h2, h3⟩
  · exact r.elim
theorem dictF_walk {v : V} {ks vs : List D} {H : Hp} {Z : Addr → Prop} {ι : Nat → Addr} {n : Nat} (r : RdV K H Z ι n v (.dictF ks vs)) : ∃ a o, ∃ kvs : List (Key × V), v = .ref a ∧ H a = some (.frz o (.dK kvs)) ∧ ∃ G : GP, G H Z ι n ∧
    (∀ σ ρ os, Sta K σ ρ os G) ∧ ∀ H Z ι n, G H Z ι n → H a = some (.frz o (.dK kvs)) ∧ Reps K H Z ι n (kvs.map fun p => kV p.1) ks ∧ Reps K H Z ι n (kvs.map (·.2)) vs := by
  obtain ⟨a, o, kvs, rfl, q, r1, r2⟩ := dictF_at r
  exact ⟨a, o, kvs, rfl, q, fun H Z ι n => H a = some (.frz o (.dK kvs)) ∧ Reps K H Z ι n (kvs.map fun (p : Key × V) => kV p.1) ks ∧ Reps K H Z ι n (kvs.map fun (p : Key × V) => p.2) vs, ⟨q, r1, r2⟩,
    fun σ ρ os H Z ι n H' Z' ι' n' kk _ g => ⟨kk.fz _ _ _ g.1, g.2.1.keep kk, g.2.2.keep kk⟩, fun H Z ι n g => g⟩
theorem Sta.ext {σ : St} {ρ : SEnv} {os : List Nat} {G : GP} {H H' H0 : Hp} {Z Z' : Addr → Prop} {ι ι' : Nat → Addr} {S : Store} {n' : Nat} (st : Sta K σ ρ os G) (r : HR K M H Z ι S) (s : SR K H Z ι S.length H0 ρ σ) (x : Ext H Z ι S.length H' Z' ι' n') (g : G H Z ι S.length) : G H' Z' ι' n' := by
  refine st H Z ι S.length H' Z' ι' n' (r.keep x) (fun i hi a d e1 e2 => ?_) g
  obtain ⟨b, q1, _, _, _, l⟩ := (s.ext r x).own i d e1
  rw [e2] at q1
  cases q1
  exact l
end

section
variable {cx : MC} {sc : Scope} {M : Nm} {cf : CF} {X : Cx}
/-- a value that is walked -/
def tSrc (K : PySem.W.Frag) (M : Nm) (cf : CF) (e : E) : TE := fun σ H Q => ∃ Z ι S H0 ρ x s S', HR K M H Z ι S ∧ SR K H Z ι S.length H0 ρ σ ∧ ev cf e ρ S = some (x, s, S') ∧ srcD e s = true ∧
  ∀ v G H' Z' ι', Ext H Z ι S.length H' Z' ι' S'.length → HR K M H' Z' ι' S' → Src K v x G → Sta K σ ρ e.owns G → G H' Z' ι' S'.length → Q v H'
theorem pe_src {e : E} {p : Expr} (c : XC cx sc M cf X) (ih : ∀ p, mtE cx sc e p = true → Snd cx M cf e X p) (h : mtE cx sc e p = true) : PE X p (tSrc X.K M cf e) := by
  have gen : (∀ s, srcD e s = true → s ≠ .own) → PE X p (tSrc X.K M cf e) := fun hs => by
    refine PE.imp (ih p h).pe fun σ H Q ⟨Z, ι, S, H0, ρ, x, s, S', hR, sR, e1, hd, k⟩ => ?_
    refine ⟨Z, ι, S, H0, ρ, x, s, S', hR, sR, e1, fun v H1 Z1 ι1 x1 r1 w1 => ?_⟩
    obtain ⟨Z2, x2, r2, w2, _⟩ := frz_step x1 r1 (hs s hd) w1
    exact k v (fun H Z ι n => Rep X.K H Z ι n v x) H1 Z2 ι1 x2 r2 (fun H Z ι n g => .inl g) (fun H Z ι n H' Z' ι' n' kk _ g => g.keep kk) w2
  cases e with
  | own i =>
    cases p <;> simp only [mtE, Bool.false_eq_true] at h
    simp only [Bool.and_eq_true] at h
    obtain ⟨q1, q2, _⟩ := okNm_ok h.2
    refine PE.imp (pe_var (nmAt_ok c h.1.1) (vis_ok c h.1.2) q1 q2) fun σ H Q ⟨Z, ι, S, H0, ρ, x, s, S', hR, sR, e1, hd, k⟩ => ?_
    simp only [ev] at e1
    split at e1
    · rename_i d' hd'
      cases e1
      obtain ⟨a, e2, h0, z, f, l⟩ := sR.own i _ hd'
      refine ⟨.ref a, e2, k (.ref a) (fun H Z ι n => LR X.K H Z ι n a x) H Z ι Ext.refl hR (fun H Z ι n g => .inr ⟨a, rfl, g.lq⟩) (fun H Z ι n H' Z' ι' n' kk o g => ?_) l⟩
      exact o i (by simp [E.owns]) a x hd' e2
    · cases e1
  | _ =>
    refine gen fun s hs e => ?_
    rw [e] at hs
    exact Bool.noConfusion hs
/-- what a walk is to serve -/
def tI (K : PySem.W.Frag) (M : Nm) (cf : CF) (it : I) : TI := fun σ H R => ∃ Z ι S H0 ρ ds S', HR K M H Z ι S ∧ SR K H Z ι S.length H0 ρ σ ∧ evI cf it ρ S = some (ds, S') ∧
  ∀ J G H' Z' ι', Ext H Z ι S.length H' Z' ι' S'.length → HR K M H' Z' ι' S' → Wk K J ds G → Sta K σ ρ it.owns G → G H' Z' ι' S'.length → R J H'
theorem PI.or {tg e : Expr} {t t' : TI} (h : PI X tg e t) (h' : PI X tg e t') : PI X tg e (fun σ H R => t σ H R ∨ t' σ H R) :=
  ⟨fun pins s σ H R I hq => hq.elim (h.run pins s σ H R I) (h'.run pins s σ H R I)⟩
theorem i_over {e : E} {tg p : Expr} {b : Bool} (c : XC cx sc M cf X) (ih : ∀ p, mtE cx sc e p = true → Snd cx M cf e X p) (h : mtI cx sc (.over e) b p = true) : PI X tg p (tI X.K M cf (.over e)) := by
  simp only [mtI, Bool.and_eq_true] at h
  have pe := pe_src c ih h.1
  refine PI.imp (PI.or (pi_list pe) (PI.or (pi_tup pe) (pi_str pe))) fun σ H R ⟨Z, ι, S, H0, ρ, ds, S', hR, sR, e1, k⟩ => ?_
  simp only [evI] at e1
  obtain ⟨x, s, S1, e2, e1⟩ := andT_inv e1
  split at e1
  · rename_i hs
    split at e1
    · rename_i ds' hd
      cases e1
      cases x <;> simp only [seqD] at hd <;> cases hd
      · exact .inr (.inr ⟨Z, ι, S, H0, ρ, _, s, _, hR, sR, e2, hs, fun v G H1 Z1 ι1 x1 r1 sr st g => ⟨_, (sr _ _ _ _ g).str, k _ G H1 Z1 ι1 x1 r1 wk_str st g⟩⟩)
      · refine .inr (.inl ⟨Z, ι, S, H0, ρ, _, s, _, hR, sR, e2, hs, fun v G H1 Z1 ι1 x1 r1 sr st g => ?_⟩)
        obtain ⟨a, xs, rfl, q, _⟩ := (sr _ _ _ _ g).tup
        exact ⟨a, rfl, ⟨xs, q⟩, k _ G H1 Z1 ι1 x1 r1 (wk_tup sr) st g⟩
      · refine .inl ⟨Z, ι, S, H0, ρ, _, s, _, hR, sR, e2, hs, fun v G H1 Z1 ι1 x1 r1 sr st g => ?_⟩
        obtain ⟨a, xs, rfl, q, _⟩ := (sr _ _ _ _ g).lst
        exact ⟨a, rfl, ⟨xs, .inl (.inl q)⟩, k _ G H1 Z1 ι1 x1 r1 (wk_list sr rfl) st g⟩
      · refine .inl ⟨Z, ι, S, H0, ρ, _, s, _, hR, sR, e2, hs, fun v G H1 Z1 ι1 x1 r1 sr st g => ?_⟩
        obtain ⟨a, rfl, q⟩ := (sr _ _ _ _ g).scr
        exact ⟨a, rfl, ⟨_, q⟩, k _ G H1 Z1 ι1 x1 r1 (wk_list sr rfl) st g⟩
    · cases e1
  · cases e1
theorem star1 {e : Expr} {env : PySem.Env} (h : plain e = true) : starEach [e] env = [(false, eval e env)] := star_plain h
theorem sta_none {K : PySem.W.Frag} {σ : St} {ρ : SEnv} {os : List Nat} : Sta K σ ρ os (fun _ _ _ _ => True) := fun _ _ _ _ _ _ _ _ _ _ _ => True.intro
theorem i_range1 {a : E} {tg p : Expr} {b : Bool} (c : XC cx sc M cf X) (ih : ∀ p, mtE cx sc a p = true → Snd cx M cf a X p) (h : mtI cx sc (.range1 a) b p = true) : PI X tg p (tI X.K M cf (.range1 a)) := by
  cases p <;> try (simp [mtI] at h; done)
  rename_i f args kws pos
  cases f <;> rcases args with _ | ⟨q, _ | ⟨q2, args⟩⟩ <;> cases kws <;> try (simp [mtI] at h; done)
  rename_i x xp
  simp only [mtI, Bool.and_eq_true, decide_eq_true_eq] at h
  obtain ⟨⟨⟨rfl, hb⟩, hm⟩, hp⟩ := h
  obtain ⟨g1, g2, _, _⟩ := blt_ok c hb
  refine PI.imp (pi_range1 g1 g2 (pa_cons (ih q hm).pe pa_nil (star_plain hp)) (star1 hp)) fun σ H R ⟨Z, ι, S, H0, ρ, ds, S', hR, sR, e1, k⟩ => ?_
  simp only [evI] at e1
  obtain ⟨x, s, S1, e2, e1⟩ := andT_inv e1
  split at e1
  · rename_i j
    split at e1
    · rename_i hj
      cases e1
      simp only [Bool.and_eq_true, decide_eq_true_eq] at hj
      refine ⟨Z, ι, S, H0, ρ, _, s, _, hR, sR, e2, fun v H1 Z1 ι1 x1 r1 w1 => ⟨j, by rw [w1.rd.int], by omega, by omega, k _ (fun _ _ _ _ => True) H1 Z1 ι1 x1 r1 ?_ sta_none True.intro⟩⟩
      have := wk_rng (K := X.K) (lo := 0) (n := j.toNat) (G := fun _ _ _ _ => True)
      simpa using this
    · cases e1
  · cases e1
theorem i_range2 {a b : E} {tg p : Expr} {bb : Bool} (c : XC cx sc M cf X) (iha : ∀ p, mtE cx sc a p = true → Snd cx M cf a X p) (ihb : ∀ p, mtE cx sc b p = true → Snd cx M cf b X p) (h : mtI cx sc (.range2 a b) bb p = true) : PI X tg p (tI X.K M cf (.range2 a b)) := by
  cases p <;> try (simp [mtI] at h; done)
  rename_i f args kws pos
  cases f <;> rcases args with _ | ⟨q, _ | ⟨q2, _ | ⟨q3, args⟩⟩⟩ <;> cases kws <;> try (simp [mtI] at h; done)
  rename_i x xp
  simp only [mtI, Bool.and_eq_true, decide_eq_true_eq] at h
  obtain ⟨⟨⟨⟨⟨rfl, hb⟩, hm⟩, hm2⟩, hp⟩, hp2⟩ := h
  obtain ⟨g1, g2, _, _⟩ := blt_ok c hb
  refine PI.imp (pi_range2 g1 g2 (pa_cons (iha q hm).pe (pa_cons (ihb q2 hm2).pe pa_nil (star_plain hp2)) (star_plain hp)) (by rw [star_plain hp, star1 hp2]) (star1 hp2)) fun σ H R ⟨Z, ι, S, H0, ρ, ds, S', hR, sR, e1, k⟩ => ?_
  simp only [evI] at e1
  obtain ⟨x, s, S1, e2, e1⟩ := andT_inv e1
  obtain ⟨y, t, S2, e3, e1⟩ := andT_inv e1
  split at e1
  · rename_i i j _
    split at e1
    · rename_i hj
      cases e1
      simp only [Bool.and_eq_true, decide_eq_true_eq] at hj
      refine ⟨Z, ι, S, H0, ρ, _, s, _, hR, sR, e2, fun v H1 Z1 ι1 x1 r1 w1 => ⟨Z1, ι1, _, H0, ρ, _, t, _, r1, sR.ext hR x1, e3, fun v2 H2 Z2 ι2 x2 r2 w2 => ⟨i, j, by rw [w1.rd.int, w2.rd.int], by omega, k _ (fun _ _ _ _ => True) H2 Z2 ι2 (x1.trans x2) r2 ?_ sta_none True.intro⟩⟩⟩
      exact wk_rng
    · cases e1
  · cases e1
theorem i_enum {e : E} {elts : List Expr} {kk : Nat} {tpos : Pos} {p : Expr} {b : Bool} (c : XC cx sc M cf X) (ih : ∀ p, mtE cx sc e p = true → Snd cx M cf e X p) (h : mtI cx sc (.enum e) b p = true) : PI X (.Tuple elts kk tpos) p (tI X.K M cf (.enum e)) := by
  cases b <;> cases p <;> try (simp [mtI] at h; done)
  rename_i f args kws pos
  cases f <;> rcases args with _ | ⟨q, _ | ⟨q2, args⟩⟩ <;> cases kws <;> try (simp [mtI] at h; done)
  rename_i x xp
  simp only [mtI, Bool.and_eq_true, decide_eq_true_eq] at h
  obtain ⟨⟨⟨rfl, hb⟩, hm⟩, hp⟩ := h
  obtain ⟨g1, g2, _, _⟩ := blt_ok c hb
  refine PI.imp (pi_enumA g1 g2 (pa_cons (pe_src c ih hm) pa_nil (star_plain hp)) (star1 hp)) fun σ H R ⟨Z, ι, S, H0, ρ, ds, S', hR, sR, e1, k⟩ => ?_
  simp only [evI] at e1
  obtain ⟨x, s, S1, e2, e1⟩ := andT_inv e1
  split at e1
  · rename_i hs
    split at e1
    · rename_i ds' hd
      cases e1
      refine ⟨Z, ι, S, H0, ρ, _, s, _, hR, sR, e2, hs, fun v G H1 Z1 ι1 x1 r1 sr st g => ?_⟩
      cases x <;> simp only [seqD] at hd <;> cases hd
      · exact .inr (.inr ⟨_, by rw [(sr _ _ _ _ g).str], k _ G H1 Z1 ι1 x1 r1 wk_enumS st g⟩)
      · obtain ⟨a, xs, rfl, q, _⟩ := (sr _ _ _ _ g).tup
        exact .inr (.inl ⟨a, xs, rfl, q, k _ G H1 Z1 ι1 x1 r1 (wk_enumT sr) st g⟩)
      · obtain ⟨a, xs, rfl, q, _⟩ := (sr _ _ _ _ g).lst
        exact .inl ⟨a, xs, rfl, .inl (.inl q), k _ G H1 Z1 ι1 x1 r1 (wk_enum sr rfl) st g⟩
      · obtain ⟨a, rfl, q⟩ := (sr _ _ _ _ g).scr
        exact .inl ⟨a, _, rfl, q, k _ G H1 Z1 ι1 x1 r1 (wk_enum sr rfl) st g⟩
    · cases e1
  · cases e1
theorem i_zip {a b : E} {elts : List Expr} {kk : Nat} {tpos : Pos} {p : Expr} {bb : Bool} (c : XC cx sc M cf X) (iha : ∀ p, mtE cx sc a p = true → Snd cx M cf a X p) (ihb : ∀ p, mtE cx sc b p = true → Snd cx M cf b X p) (h : mtI cx sc (.zip a b) bb p = true) : PI X (.Tuple elts kk tpos) p (tI X.K M cf (.zip a b)) := by
  cases bb <;> cases p <;> try (simp [mtI] at h; done)
  rename_i f args kws pos
  cases f <;> rcases args with _ | ⟨q, _ | ⟨q2, _ | ⟨q3, args⟩⟩⟩ <;> cases kws <;> try (simp [mtI] at h; done)
  rename_i x xp
  simp only [mtI, Bool.and_eq_true, decide_eq_true_eq] at h
  obtain ⟨⟨⟨⟨⟨rfl, hb⟩, hm⟩, hm2⟩, hp⟩, hp2⟩ := h
  obtain ⟨g1, g2, _, _⟩ := blt_ok c hb
  refine PI.imp (PI.or (RZ.pi_zipA g1 g2 (pa_cons (pe_src c iha hm) (pa_cons (pe_src c ihb hm2) pa_nil (star_plain hp2)) (star_plain hp)) (star_plain hp) (by rw [star1 hp2]; rfl)) (pi_zipS g1 g2 (pa_cons (pe_src c iha hm) (pa_cons (pe_src c ihb hm2) pa_nil (star_plain hp2)) (star_plain hp)) (star_plain hp) (by rw [star1 hp2]; rfl))) fun σ H R ⟨Z, ι, S, H0, ρ, ds, S', hR, sR, e1, k⟩ => ?_
  simp only [evI] at e1
  obtain ⟨x, s, S1, e2, e1⟩ := andT_inv e1
  obtain ⟨y, t, S2, e3, e1⟩ := andT_inv e1
  split at e1
  · rename_i hs
    split at e1
    · rename_i ds1 es1 hz
      cases e1
      by_cases htx : ∃ z1 z2, x = .str z1 ∧ y = .str z2
      · obtain ⟨z1, z2, rfl, rfl⟩ := htx
        refine .inr ⟨Z, ι, S, H0, ρ, _, s, _, hR, sR, e2, hs.1, fun v G H1 Z1 ι1 x1 r1 sr st g => ?_⟩
        have sR1 := sR.ext hR x1
        refine ⟨Z1, ι1, _, H0, ρ, _, t, _, r1, sR1, e3, hs.2, fun v2 G2 H2 Z2 ι2 x2 r2 sr2 st2 g2 => ?_⟩
        have g' := st.ext r1 sR1 x2 g
        have st' : Sta X.K σ ρ (I.owns (.zip a b)) (fun H Z ι n => G H Z ι n ∧ G2 H Z ι n) := fun H Z ι n H' Z' ι' n' kk o q =>
          ⟨st H Z ι n H' Z' ι' n' kk (fun i hi => o i (by simp [I.owns, hi])) q.1, st2 H Z ι n H' Z' ι' n' kk (fun i hi => o i (by simp [I.owns, hi])) q.2⟩
        simp only [zipD, lstD] at hz
        cases hz
        have q1 := (sr _ _ _ _ g').str
        have q2 := (sr2 _ _ _ _ g2).str
        subst q1 q2
        exact ⟨txt z1, txt z2, rfl, k _ _ H2 Z2 ι2 (x1.trans x2) r2 wk_zipS st' ⟨g', g2⟩⟩
      refine .inl ⟨Z, ι, S, H0, ρ, _, s, _, hR, sR, e2, hs.1, fun v G H1 Z1 ι1 x1 r1 sr st g => ?_⟩
      have sR1 := sR.ext hR x1
      refine ⟨Z1, ι1, _, H0, ρ, _, t, _, r1, sR1, e3, hs.2, fun v2 G2 H2 Z2 ι2 x2 r2 sr2 st2 g2 => ?_⟩
      have g' := st.ext r1 sR1 x2 g
      have st' : Sta X.K σ ρ (I.owns (.zip a b)) (fun H Z ι n => G H Z ι n ∧ G2 H Z ι n) := fun H Z ι n H' Z' ι' n' kk o q =>
        ⟨st H Z ι n H' Z' ι' n' kk (fun i hi => o i (by simp [I.owns, hi])) q.1, st2 H Z ι n H' Z' ι' n' kk (fun i hi => o i (by simp [I.owns, hi])) q.2⟩
      unfold zipD at hz
      split at hz
      · rename_i d1 d2 l1 l2
        cases hz
        have ea : ∃ a xs, v = .ref a ∧ SqL X.K H2 a xs := by
          have q := sr _ _ _ _ g'
          cases x <;> simp only [lstD] at l1 <;> cases l1
          · obtain ⟨a, xs, e, q, _⟩ := q.lst; exact ⟨a, xs, e, .inl (.inl q)⟩
          · obtain ⟨a, e, q⟩ := q.scr; exact ⟨a, _, e, q⟩
        have eb : ∃ a xs, v2 = .ref a ∧ SqL X.K H2 a xs := by
          have q := sr2 _ _ _ _ g2
          cases y <;> simp only [lstD] at l2 <;> cases l2
          · obtain ⟨a, xs, e, q, _⟩ := q.lst; exact ⟨a, xs, e, .inl (.inl q)⟩
          · obtain ⟨a, e, q⟩ := q.scr; exact ⟨a, _, e, q⟩
        obtain ⟨a1, xs, rfl, qa⟩ := ea
        obtain ⟨b1, ys, rfl, qb⟩ := eb
        exact ⟨a1, b1, xs, ys, rfl, .inl ⟨qa, qb, k _ _ H2 Z2 ι2 (x1.trans x2) r2 (wk_zip sr sr2 l1 l2) st' ⟨g', g2⟩⟩⟩
      · split at hz
        · cases hz
          obtain ⟨a1, xs, rfl, qa, _⟩ := (sr _ _ _ _ g').tup
          obtain ⟨b1, ys, rfl, qb, _⟩ := (sr2 _ _ _ _ g2).tup
          exact ⟨a1, b1, xs, ys, rfl, .inr ⟨qa, qb, k _ _ H2 Z2 ι2 (x1.trans x2) r2 (wk_zipT sr sr2) st' ⟨g', g2⟩⟩⟩
        · exact absurd ⟨_, _, rfl, rfl⟩ htx
        · cases hz
    · cases e1
  · cases e1
theorem i_items {e : E} {elts : List Expr} {kk : Nat} {tpos : Pos} {p : Expr} {b : Bool} (c : XC cx sc M cf X) (ih : ∀ p, mtE cx sc e p = true → Snd cx M cf e X p) (h : mtI cx sc (.items e) b p = true) : PI X (.Tuple elts kk tpos) p (tI X.K M cf (.items e)) := by
  cases b <;> cases p <;> try (simp [mtI] at h; done)
  rename_i f args kws pos
  cases f <;> rcases args with _ | ⟨q, args⟩ <;> cases kws <;> try (simp [mtI] at h; done)
  rename_i q m apos
  simp only [mtI, Bool.and_eq_true, decide_eq_true_eq] at h
  obtain ⟨⟨⟨rfl, hm⟩, hb⟩, hl⟩ := h
  refine PI.imp (pi_items (ih q hm).pe (base_plain hb) hl) fun σ H R ⟨Z, ι, S, H0, ρ, ds, S', hR, sR, e1, k⟩ => ?_
  simp only [evI] at e1
  obtain ⟨x, s, S1, e2, e1⟩ := andT_inv e1
  split at e1 <;> cases e1
  refine ⟨Z, ι, S, H0, ρ, _, s, _, hR, sR, e2, fun v H1 Z1 ι1 x1 r1 w1 => ?_⟩
  obtain ⟨a, o, kvs, rfl, q1, G, g, st, gg⟩ := dictF_walk w1.rd
  exact ⟨a, o, kvs, rfl, q1, k _ G H1 Z1 ι1 x1 r1 (wk_items gg) (st _ _ _) g⟩
theorem i_vals {e : E} {tg p : Expr} {b : Bool} (c : XC cx sc M cf X) (ih : ∀ p, mtE cx sc e p = true → Snd cx M cf e X p) (h : mtI cx sc (.vals e) b p = true) : PI X tg p (tI X.K M cf (.vals e)) := by
  cases p <;> try (simp [mtI] at h; done)
  rename_i f args kws pos
  cases f <;> rcases args with _ | ⟨q, args⟩ <;> cases kws <;> try (simp [mtI] at h; done)
  rename_i q m apos
  simp only [mtI, Bool.and_eq_true, decide_eq_true_eq] at h
  obtain ⟨⟨⟨rfl, hm⟩, hb⟩, hl⟩ := h
  refine PI.imp (pi_values (ih q hm).pe (base_plain hb) hl) fun σ H R ⟨Z, ι, S, H0, ρ, ds, S', hR, sR, e1, k⟩ => ?_
  simp only [evI] at e1
  obtain ⟨x, s, S1, e2, e1⟩ := andT_inv e1
  split at e1 <;> cases e1
  refine ⟨Z, ι, S, H0, ρ, _, s, _, hR, sR, e2, fun v H1 Z1 ι1 x1 r1 w1 => ?_⟩
  obtain ⟨a, o, kvs, rfl, q1, G, g, st, gg⟩ := dictF_walk w1.rd
  exact ⟨a, o, kvs, rfl, q1, k _ G H1 Z1 ι1 x1 r1 (wk_vals gg) (st _ _ _) g⟩
theorem i_keys {e : E} {tg p : Expr} {b : Bool} (c : XC cx sc M cf X) (ih : ∀ p, mtE cx sc e p = true → Snd cx M cf e X p) (h : mtI cx sc (.keys e) b p = true) : PI X tg p (tI X.K M cf (.keys e)) := by
  have h' : mtE cx sc e p = true ∧ plain p = true := by cases b <;> cases p <;> simpa [mtI] using h
  refine PI.imp (pi_keys (ih p h'.1).pe) fun σ H R ⟨Z, ι, S, H0, ρ, ds, S', hR, sR, e1, k⟩ => ?_
  simp only [evI] at e1
  obtain ⟨x, s, S1, e2, e1⟩ := andT_inv e1
  split at e1 <;> cases e1
  refine ⟨Z, ι, S, H0, ρ, _, s, _, hR, sR, e2, fun v H1 Z1 ι1 x1 r1 w1 => ?_⟩
  obtain ⟨a, o, kvs, rfl, q1, G, g, st, gg⟩ := dictF_walk w1.rd
  exact ⟨a, o, rfl, .inl ⟨kvs, q1, k _ G H1 Z1 ι1 x1 r1 (wk_keys gg) (st _ _ _) g⟩⟩
end
end PyI
namespace PyI
open PySem L2

section
variable {K : PySem.W.Frag} {M : Nm} {H H' H0 : Hp} {Z Z' : Addr → Prop} {ι ι' : Nat → Addr} {n n' : Nat}
theorem SR.setv {ρ : SEnv} {σ : St} {i : Nat} {v : V} {d : D} (s : SR K H Z ι n H0 ρ σ) (r : Rep K H Z ι n v d) : SR K H Z ι n H0 (ρ.set i (.val d)) (σ.set i (some v)) := by
  have key : ∀ (j : Nat) x, j ≠ i → (ρ.set i (.val d))[j]? = some x → ρ[j]? = some x ∧ (σ.set i (some v))[j]? = σ[j]? := fun j x hj e => by
    rw [List.getElem?_set_ne (Ne.symm hj)] at e
    exact ⟨e, List.getElem?_set_ne (Ne.symm hj)⟩
  refine ⟨by simp [s.len], fun j x e => ?_, fun j x e => ?_, fun j k x y a hjk e1 e2 q1 q2 => ?_⟩
  · by_cases hj : j = i
    · subst hj
      have hl : j < ρ.length := by
        have := (List.getElem?_eq_some_iff.mp e).1
        simpa using this
      rw [List.getElem?_set_self hl] at e
      cases e
      exact ⟨v, List.getElem?_set_self (by rw [← s.len]; exact hl), r⟩
    · obtain ⟨e1, e2⟩ := key j _ hj e
      rw [e2]
      exact s.val j x e1
  · by_cases hj : j = i
    · subst hj
      have hl : j < ρ.length := by
        have := (List.getElem?_eq_some_iff.mp e).1
        simpa using this
      rw [List.getElem?_set_self hl] at e
      cases e
    · obtain ⟨e1, e2⟩ := key j _ hj e
      rw [e2]
      exact s.own j x e1
  · have hx : ∀ (j : Nat) x, (ρ.set i (.val d))[j]? = some (.own x) → j ≠ i := fun j x e hj => by
      subst hj
      have hl : j < ρ.length := by
        have := (List.getElem?_eq_some_iff.mp e).1
        simpa using this
      rw [List.getElem?_set_self hl] at e
      cases e
    obtain ⟨e1, f1⟩ := key j _ (hx j _ e1) e1
    obtain ⟨e2, f2⟩ := key k _ (hx k _ e2) e2
    rw [f1] at q1
    rw [f2] at q2
    exact s.two j k x y a hjk e1 e2 q1 q2
theorem SR.sets {is : List Nat} : ∀ {ρ : SEnv} {σ : St} {vs : List V} {ds : List D}, SR K H Z ι n H0 ρ σ → Reps K H Z ι n vs ds →
    SR K H Z ι n H0 ((is.zip ds).foldl (fun r p => r.set p.1 (.val p.2)) ρ) ((is.zip vs).foldl (fun r p => r.set p.1 (some p.2)) σ) := by
  induction is with
  | nil => intro ρ σ vs ds s r; exact s
  | cons i is ih =>
    intro ρ σ vs ds s r
    cases r with
    | nil => exact s
    | cons r rr => exact ih (s.setv r) rr
theorem wipeE_length (ρ : SEnv) : ∀ vs, (wipeE ρ vs).length = ρ.length
  | [] => rfl
  | v :: vs => by
    unfold wipeE
    rw [List.length_set, wipeE_length ρ vs]
theorem wipeE_get {ρ : SEnv} {i : Nat} {x : Slot} : ∀ {vs : List Nat}, (wipeE ρ vs)[i]? = some x → x = .no ∨ (ρ[i]? = some x ∧ i ∉ vs)
  | [], h => .inr ⟨h, by simp⟩
  | v :: vs, h => by
    unfold wipeE at h
    by_cases hi : v = i
    · subst hi
      have hl : v < (wipeE ρ vs).length := by
        have := (List.getElem?_eq_some_iff.mp h).1
        simpa using this
      rw [List.getElem?_set_self hl] at h
      cases h
      exact .inl rfl
    · rw [List.getElem?_set_ne hi] at h
      rcases wipeE_get h with h | ⟨h, h'⟩
      · exact .inl h
      · exact .inr ⟨h, by simp [h', Ne.symm hi]⟩
theorem SR.wipe {ρ : SEnv} {σ : St} (s : SR K H Z ι n H0 ρ σ) (vs : List Nat) : SR K H Z ι n H0 (wipeE ρ vs) (wipe σ vs) := by
  refine ⟨by rw [wipeE_length, wipe_length, s.len], fun j x e => ?_, fun j x e => ?_, fun j k x y a hjk e1 e2 q1 q2 => ?_⟩
  · rcases wipeE_get e with q | ⟨q, h⟩
    · cases q
    · rw [wipe_out h]; exact s.val j x q
  · rcases wipeE_get e with q | ⟨q, h⟩
    · cases q
    · rw [wipe_out h]; exact s.own j x q
  · rcases wipeE_get e1 with q | ⟨e1, h1⟩
    · cases q
    rcases wipeE_get e2 with q | ⟨e2, h2⟩
    · cases q
    rw [wipe_out h1] at q1
    rw [wipe_out h2] at q2
    exact s.two j k x y a hjk e1 e2 q1 q2
theorem wipe_agree {σ σ' : St} {vs : List Nat} (hl : σ'.length = σ.length) (h : ∀ i, i ∉ vs → σ'[i]? = σ[i]?) : wipe σ' vs = wipe σ vs := by
  have hn : ∀ (τ : St) (us : List Nat) (i : Nat), i ∈ us → i < τ.length → (L2.wipe τ us)[i]? = some none := by
    intro τ us
    induction us with
    | nil => intro i hi; simp at hi
    | cons u us ih =>
      intro i hi hlt
      unfold L2.wipe
      by_cases e : u = i
      · subst e
        exact List.getElem?_set_self (by rw [wipe_length]; exact hlt)
      · rw [List.getElem?_set_ne e]
        exact ih i (by simpa [Ne.symm e] using hi) hlt
  apply List.ext_getElem?
  intro i
  by_cases hi : i ∈ vs
  · by_cases hlt : i < σ.length
    · rw [hn σ vs i hi hlt, hn σ' vs i hi (by omega)]
    · rw [List.getElem?_eq_none (by rw [wipe_length]; omega), List.getElem?_eq_none (by rw [wipe_length]; omega)]
  · rw [wipe_out hi, wipe_out hi]
    exact h i hi
theorem wipe_wipe (σ : St) (vs : List Nat) : wipe (wipe σ vs) vs = wipe σ vs := wipe_agree (wipe_length σ vs) fun i hi => wipe_out hi
end

/-- a target's reading -/
def tTg (K : PySem.W.Frag) (tg : Tg) : TG := fun v σ H Q => ∃ Z ι n H0 ρ d ρ', SR K H Z ι n H0 ρ σ ∧ Rep K H Z ι n v d ∧ bindT tg d ρ = some ρ' ∧
  ∀ σ', SR K H Z ι n H0 ρ' σ' → σ'.length = σ.length → (∀ i, i ∉ tg.ix → σ'[i]? = σ[i]?) → Q σ' H
theorem PG.imp {X : Cx} {e : Expr} {t t' : TG} (h : PG X e t) (i : ∀ v σ H Q, t' v σ H Q → t v σ H Q) : PG X e t' := ⟨fun pins s σ H v u Q I r hq => h.run pins s σ H v u Q I r (i v σ H Q hq)⟩
theorem PG.or {X : Cx} {e : Expr} {t t' : TG} (h : PG X e t) (h' : PG X e t') : PG X e (fun v σ H Q => t v σ H Q ∨ t' v σ H Q) := ⟨fun pins s σ H v u Q I r hq => hq.elim (h.run pins s σ H v u Q I r) (h'.run pins s σ H v u Q I r)⟩
def gNames : List Nat → TGs
  | [] => gNil
  | i :: is => gCons (gName i) (gNames is)
theorem gNames_run {H : Hp} {Q : St → Hp → Prop} : ∀ {is : List Nat} {vs : List V} {σ : St}, vs.length = is.length → Q ((is.zip vs).foldl (fun r p => r.set p.1 (some p.2)) σ) H → gNames is vs σ H Q
  | [], [], σ, _, h => ⟨rfl, h⟩
  | [], _ :: _, _, e, _ => by simp at e
  | _ :: _, [], _, e, _ => by simp at e
  | i :: is, v :: vs, σ, e, h => ⟨v, vs, rfl, gNames_run (is := is) (vs := vs) (σ := σ.set i (some v)) (by simpa using e) h⟩
theorem foldl_set_length {α : Type} {f : α → Nat} {g : α → Option V} : ∀ (l : List α) (σ : St), (l.foldl (fun r p => r.set (f p) (g p)) σ).length = σ.length
  | [], _ => rfl
  | a :: l, σ => by rw [List.foldl_cons, foldl_set_length l, List.length_set]
theorem foldl_set_out {i : Nat} : ∀ (is : List Nat) (vs : List V) (σ : St), i ∉ is → ((is.zip vs).foldl (fun r p => r.set p.1 (some p.2)) σ)[i]? = σ[i]?
  | [], _, _, _ => rfl
  | _ :: _, [], _, _ => rfl
  | j :: is, v :: vs, σ, h => by
    rw [List.zip_cons_cons, List.foldl_cons, foldl_set_out is vs _ (fun q => h (by simp [q])), List.getElem?_set_ne (fun q => h (by simp at q; simp [q]))]
section
variable {cx : MC} {sc : Scope} {M : Nm} {cf : CF} {X : Cx}
theorem loc_ok {fnB : Str → Bool} {x : Str} (c : XC cx sc M cf X) (hf : ∀ x, fnB x = true → X.fn x = true) (h : locB sc fnB x = true) : Loc X.env.scope x ∧ (X.fn x = true ∨ X.env.scope.names.lookup x = some .local) := by
  unfold locB at h
  rw [← c.sc] at h
  split at h
  · exact ⟨.inl (by assumption), .inr (by assumption)⟩
  · exact ⟨.inr (by assumption), .inl (hf x h)⟩
  · cases h
theorem pgs_names {fnB : Str → Bool} (c : XC cx sc M cf X) (hf : ∀ x, fnB x = true → X.fn x = true) : ∀ {is : List Nat} {es : List Expr}, mtNames cx sc fnB is es = true →
    PGs X es (gNames is) ∧ (assignEach es X.env).length = is.length ∧ (assignEach es X.env).all (fun x => !x.1) = true
  | [], [], _ => ⟨pgs_nil, rfl, rfl⟩
  | [], _ :: _, h => by simp [mtNames] at h
  | i :: is, [], h => by simp [mtNames] at h
  | i :: is, e :: es, h => by
    cases e <;> try (simp [mtNames] at h; done)
    simp only [mtNames, Bool.and_eq_true] at h
    obtain ⟨⟨h1, h2⟩, h3⟩ := h
    obtain ⟨l1, l2⟩ := loc_ok c hf h2
    obtain ⟨q1, q2, q3⟩ := pgs_names c hf h3
    exact ⟨pgs_cons (pg_name c.nd (nmAt_ok c h1) l1 l2) q1, congrArg (· + 1) q2, q3⟩
theorem findIdx_none {α : Type} {f : α → Bool} : ∀ {l : List α}, l.all (fun x => !f x) = true → l.findIdx? f = none := by
  intro l h
  rw [List.findIdx?_eq_none_iff]
  intro x hx
  have := List.all_eq_true.mp h x hx
  simpa using this
theorem pg_tg0 {fnB : Str → Bool} {tg : Tg} {p : Expr} (c : XC cx sc M cf X) (hf : ∀ x, fnB x = true → X.fn x = true) (hq : ∀ ts, tg ≠ .tq ts) (h : mtTg cx sc fnB tg p = true) : PG X p (tTg X.K tg) := by
  cases tg with
  | tq ts => exact absurd rfl (hq ts)
  | nm i =>
    cases p <;> try (simp [mtTg] at h; done)
    simp only [mtTg, Bool.and_eq_true] at h
    obtain ⟨l1, l2⟩ := loc_ok c hf h.2
    refine PG.imp (pg_name c.nd (nmAt_ok c h.1) l1 l2) fun v σ H Q ⟨Z, ι, n, H0, ρ, d, ρ', sR, r, e, k⟩ => ?_
    cases e
    exact k _ (sR.setv r) (List.length_set ..) fun j hj => List.getElem?_set_ne (fun q => hj (by simp [Tg.ix, q]))
  | tp is =>
    cases p <;> try (simp [mtTg] at h; done)
    simp only [mtTg] at h
    obtain ⟨q1, q2, q3⟩ := pgs_names c hf h
    refine PG.imp (PG.or (pg_tup c.calm q1 q2 (findIdx_none q3)) (pg_unl c.calm q1 q2 (findIdx_none q3))) fun v σ H Q ⟨Z, ι, n, H0, ρ, d, ρ', sR, r, e, k⟩ => ?_
    have fin : ∀ {xs : List V} {ds : List D}, Reps X.K H Z ι n xs ds → ds.length = is.length → ρ' = (is.zip ds).foldl (fun r p => r.set p.1 (.val p.2)) ρ → xs.length = is.length ∧ gNames is xs σ H Q := fun {xs ds} rr hl he => by
      have hx : xs.length = is.length := rr.length.trans hl
      refine ⟨hx, gNames_run hx ?_⟩
      subst he
      exact k _ (sR.sets rr) (foldl_set_length (f := fun p : Nat × V => p.1) (g := fun p => some p.2) _ _) fun j hj => foldl_set_out _ _ _ hj
    unfold bindT at e
    cases d <;> try (cases e; done)
    · simp only at e
      split at e
      · rename_i hl
        cases e
        cases r with
        | tup q rr =>
          obtain ⟨f1, f2⟩ := fin rr hl rfl
          exact .inl ⟨_, _, rfl, q.sq, f1, f2⟩
      · cases e
    · simp only at e
      split at e
      · rename_i hl
        cases e
        cases r with
        | tupw q rr =>
          obtain ⟨f1, f2⟩ := fin rr hl rfl
          exact .inl ⟨_, _, rfl, q, f1, f2⟩
      · cases e
    · simp only at e
      split at e
      · rename_i hl
        cases e
        cases r with
        | lst z q rr =>
          obtain ⟨f1, f2⟩ := fin rr hl rfl
          exact .inr ⟨_, _, rfl, .inl (.inl q), f1, f2⟩
      · cases e
/-- targets one behind the other, some of them tuples of names -/
def tQs (K : PySem.W.Frag) (ts : List (Nat ⊕ List Nat)) : TGs := fun vs σ H Q => ∃ Z ι n H0 ρ ds ρ', SR K H Z ι n H0 ρ σ ∧ Reps K H Z ι n vs ds ∧ bindQ ts ds ρ = some ρ' ∧
  ∀ σ', SR K H Z ι n H0 ρ' σ' → σ'.length = σ.length → (∀ i, i ∉ ixQ ts → σ'[i]? = σ[i]?) → Q σ' H
theorem PGs.imp {X : Cx} {es : List Expr} {t t' : TGs} (h : PGs X es t) (i : ∀ vs σ H Q, t' vs σ H Q → t vs σ H Q) : PGs X es t' := ⟨fun pins s σ H vs us Q I r hq => h.run pins s σ H vs us Q I r (i vs σ H Q hq)⟩
theorem pgs_q {fnB : Str → Bool} (c : XC cx sc M cf X) (hf : ∀ x, fnB x = true → X.fn x = true) : ∀ {ts : List (Nat ⊕ List Nat)} {es : List Expr}, mtQ cx sc fnB ts es = true →
    PGs X es (tQs X.K ts) ∧ (assignEach es X.env).length = ts.length ∧ (assignEach es X.env).all (fun x => !x.1) = true
  | [], [], _ => ⟨PGs.imp pgs_nil fun vs σ H Q ⟨Z, ι, n, H0, ρ, ds, ρ', sR, r, e, k⟩ => by
      cases ds with
      | nil =>
        cases r
        simp only [bindQ] at e
        cases e
        exact ⟨rfl, k σ sR rfl fun _ _ => rfl⟩
      | cons d ds => simp [bindQ] at e, rfl, rfl⟩
  | [], _ :: _, h => by simp [mtQ] at h
  | .inl i :: ts, [], h => by simp [mtQ] at h
  | .inr i :: ts, [], h => by simp [mtQ] at h
  | .inl i :: ts, e :: es, h => by
    cases e <;> try (simp [mtQ] at h; done)
    simp only [mtQ, Bool.and_eq_true] at h
    obtain ⟨⟨h1, h2⟩, h3⟩ := h
    obtain ⟨l1, l2⟩ := loc_ok c hf h2
    obtain ⟨q1, q2, q3⟩ := pgs_q c hf h3
    refine ⟨PGs.imp (pgs_cons (pg_name c.nd (nmAt_ok c h1) l1 l2) q1) fun vs σ H Q ⟨Z, ι, n, H0, ρ, ds, ρ', sR, r, e, k⟩ => ?_, congrArg (· + 1) q2, q3⟩
    cases ds with
    | nil => simp [bindQ] at e
    | cons d ds =>
      cases r with
      | cons r1 r2 =>
        simp only [bindQ] at e
        refine ⟨_, _, rfl, Z, ι, n, H0, _, ds, ρ', sR.setv r1, r2, e, fun σ' s' hl ho => k σ' s' (by rw [hl, List.length_set]) fun j hj => ?_⟩
        have hj' : j ≠ i ∧ j ∉ ixQ ts := by
          simp [ixQ] at hj ⊢
          exact hj
        rw [ho j hj'.2, List.getElem?_set_ne (Ne.symm hj'.1)]
  | .inr is :: ts, e :: es, h => by
    cases e <;> try (simp [mtQ] at h; done)
    rename_i ns kk tp
    simp only [mtQ, Bool.and_eq_true] at h
    obtain ⟨q1, q2, q3⟩ := pgs_q c hf h.2
    have pg := pg_tg0 c hf (tg := .tp is) (fun ts q => nomatch q) (p := .Tuple ns kk tp) (by simpa only [mtTg] using h.1)
    refine ⟨PGs.imp (pgs_cons pg q1) fun vs σ H Q ⟨Z, ι, n, H0, ρ, ds, ρ', sR, r, e, k⟩ => ?_, congrArg (· + 1) q2, q3⟩
    cases ds with
    | nil => simp [bindQ] at e
    | cons d ds =>
      cases r with
      | cons r1 r2 =>
        obtain ⟨ρ1, b1, b2⟩ : ∃ ρ1, bindT (.tp is) d ρ = some ρ1 ∧ bindQ ts ds ρ1 = some ρ' := by
          cases d <;> try (simp [bindQ] at e; done)
          · simp only [bindQ] at e
            split at e
            · rename_i hl
              exact ⟨_, by simp only [bindT, hl, if_true], e⟩
            · cases e
          · simp only [bindQ] at e
            split at e
            · rename_i hl
              exact ⟨_, by simp only [bindT, hl, if_true], e⟩
            · cases e
        refine ⟨_, _, rfl, Z, ι, n, H0, ρ, d, ρ1, sR, r1, b1, fun σ1 s1 hl1 ho1 => ⟨Z, ι, n, H0, ρ1, ds, ρ', s1, r2, b2, fun σ' s' hl ho => k σ' s' (hl.trans hl1) fun j hj => ?_⟩⟩
        have hj' : j ∉ is ∧ j ∉ ixQ ts := by
          simp only [ixQ, List.flatMap_cons, List.mem_append, not_or] at hj
          exact hj
        rw [ho j hj'.2, ho1 j (by simpa [Tg.ix] using hj'.1)]
theorem pg_tg {fnB : Str → Bool} {tg : Tg} {p : Expr} (c : XC cx sc M cf X) (hf : ∀ x, fnB x = true → X.fn x = true) (h : mtTg cx sc fnB tg p = true) : PG X p (tTg X.K tg) := by
  cases tg with
  | nm i => exact pg_tg0 c hf (fun ts q => nomatch q) h
  | tp is => exact pg_tg0 c hf (fun ts q => nomatch q) h
  | tq ts =>
    cases p <;> try (simp [mtTg] at h; done)
    simp only [mtTg] at h
    obtain ⟨q1, q2, q3⟩ := pgs_q c hf h
    refine PG.imp (pg_tup c.calm q1 q2 (findIdx_none q3)) fun v σ H Q ⟨Z, ι, n, H0, ρ, d, ρ', sR, r, e, k⟩ => ?_
    have fin : ∀ {xs : List V} {ds : List D}, Reps X.K H Z ι n xs ds → bindQ ts ds ρ = some ρ' → xs.length = ts.length ∧ tQs X.K ts xs σ H Q := fun {xs ds} rr he => by
      have hl : ∀ {ts : List (Nat ⊕ List Nat)} {ds : List D} {ρ : SEnv}, bindQ ts ds ρ = some ρ' → ds.length = ts.length := by
        intro ts
        induction ts with
        | nil => intro ds ρ h; cases ds <;> simp [bindQ] at h ⊢
        | cons t ts ih =>
          intro ds ρ h
          cases ds with
          | nil => cases t <;> simp [bindQ] at h
          | cons d ds =>
            cases t with
            | inl i => simp only [bindQ] at h; simpa using ih h
            | inr is =>
              cases d <;> try (simp [bindQ] at h; done)
              · simp only [bindQ] at h
                split at h
                · simpa using ih h
                · cases h
              · simp only [bindQ] at h
                split at h
                · simpa using ih h
                · cases h
      exact ⟨rr.length.trans (hl he), Z, ι, n, H0, ρ, ds, ρ', sR, rr, he, fun σ' s' hl ho => k σ' s' hl fun j hj => ho j hj⟩
    unfold bindT at e
    cases d <;> try (cases e; done)
    · cases r with
      | tup q rr =>
        obtain ⟨f1, f2⟩ := fin rr e
        exact ⟨_, _, rfl, q.sq, f1, f2⟩
    · cases r with
      | tupw q rr =>
        obtain ⟨f1, f2⟩ := fin rr e
        exact ⟨_, _, rfl, q, f1, f2⟩

def tCond (K : PySem.W.Frag) (M : Nm) (cf : CF) (es : Es) : TT := fun σ H Q => ∃ Z ι S H0 ρ b S', HR K M H Z ι S ∧ SR K H Z ι S.length H0 ρ σ ∧ ((evR cf es ρ S = some ([], S') ∧ b = true) ∨ evR cf es ρ S = some ([.bl b], S')) ∧
  ∀ H' Z' ι', Ext H Z ι S.length H' Z' ι' S'.length → HR K M H' Z' ι' S' → Q b H'
theorem pts_cond {es : Es} {ps : List Expr} (ih : ∀ e p, es = .cons e .nil → mtE cx sc e p = true → Snd cx M cf e X p) (h : mtEs cx sc es ps = true) : PTs X ps (tCond X.K M cf es) := by
  cases es with
  | nil =>
    cases ps with
    | cons _ _ => simp [mtEs] at h
    | nil =>
      refine ⟨fun pins s σ H Q I ⟨Z, ι, S, H0, ρ, b, S', hR, sR, e, k⟩ => pts_nil.run pins s σ H Q I ?_⟩
      rcases e with ⟨e, rfl⟩ | e
      · simp only [evR] at e
        cases e
        exact k H Z ι Ext.refl hR
      · simp only [evR] at e
        cases e
  | cons e es =>
    cases ps with
    | nil => simp [mtEs] at h
    | cons p ps =>
      simp only [mtEs, Bool.and_eq_true] at h
      cases es with
      | nil =>
        cases ps with
        | cons _ _ => simp [mtEs] at h
        | nil =>
          refine ⟨fun pins s σ H Q I ⟨Z, ι, S, H0, ρ, b, S', hR, sR, e1, k⟩ => (pts_one (ih e p rfl h.1.1).pt).run pins s σ H Q I ?_⟩
          rcases e1 with ⟨e1, rfl⟩ | e1
          · obtain ⟨x, sx, S1, ds', q1, q2, q3⟩ := evR_cons e1
            cases q3
          · obtain ⟨x, sx, S1, ds', q1, q2, q3⟩ := evR_cons e1
            simp only [evR] at q2
            cases q2
            cases q3
            exact ⟨Z, ι, S, H0, ρ, b, sx, S', hR, sR, q1, k⟩
      | cons e2 es =>
        refine ⟨fun pins s σ H Q I ⟨Z, ι, S, H0, ρ, b, S', hR, sR, e1, k⟩ => ?_⟩
        exfalso
        rcases e1 with ⟨e1, rfl⟩ | e1
        · obtain ⟨x, sx, S1, ds', q1, q2, q3⟩ := evR_cons e1
          cases q3
        · obtain ⟨x, sx, S1, ds', q1, q2, q3⟩ := evR_cons e1
          obtain ⟨x', sx', S1', ds'', q1', q2', q3'⟩ := evR_cons q2
          subst q3'
          cases q3
theorem mtI_plain {it : I} {b : Bool} {p : Expr} (h : mtI cx sc it b p = true) : plain p = true := by
  cases it with
  | over e => simp only [mtI, Bool.and_eq_true] at h; exact h.2
  | keys e => simp only [mtI, Bool.and_eq_true] at h; exact h.2
  | _ => cases p <;> first | rfl | (cases b <;> simp [mtI] at h)
theorem loopC_nil {f : D → Store → Option (Option D × Store)} {S S' : Store} {rs : List D} (h : loopC f [] S = some (rs, S')) : rs = [] ∧ S' = S := by
  simp only [loopC] at h
  cases h
  exact ⟨rfl, rfl⟩
theorem loopC_cons {f : D → Store → Option (Option D × Store)} {S S' : Store} {d : D} {ds rs : List D} (h : loopC f (d :: ds) S = some (rs, S')) : ∃ r S1 rs', f d S = some (r, S1) ∧ loopC f ds S1 = some (rs', S') ∧ rs = (match r with | some x => x :: rs' | none => rs') := by
  simp only [loopC] at h
  split at h
  · rename_i r S1 e
    split at h
    · rename_i rs' S2 e2
      cases h
      exact ⟨r, S1, rs', e, e2, rfl⟩
    · cases h
  · cases h
theorem fz_inv {x : R} {d : D} {s : Stt} {S : Store} (h : fz x = some (d, s, S)) : s = .fr ∧ ∃ st, x = some (d, st, S) ∧ st ≠ .own := by
  unfold fz at h
  split at h <;> cases h
  · exact ⟨rfl, .fr, rfl, fun q => nomatch q⟩
  · exact ⟨rfl, .fresh, rfl, fun q => nomatch q⟩
theorem xc_blk (c : XC cx sc M cf X) (s : Shared) (H : Hp) (scope : Scope) (C : Addr) (cl : List (Str × Addr)) (fp : List Addr) : XC cx (relS scope sc) M cf (X.blk s H scope (compEnvC scope cl C X.env) fp) where
  sc := by
    have := c.sc
    subst this
    rfl
  N := c.N
  nd := c.nd
  calm := c.calm
  units := c.units
  bl := c.bl
  fn := c.fn
  gi := c.gi
  gs := c.gs
  gd := c.gd
  me := c.me
  mkr := c.mkr
  fl := c.fl
/-- the parts of a comprehension -/
def CompP (cx : MC) (sc : Scope) (M : Nm) (cf : CF) (elt : E) (tg : Tg) (it : I) (cond : Es) (vs : List Nat) (X : Cx) (p : Expr) : Prop :=
  ∃ (pelt ptg pit : Expr) (pifs : List Expr) (scope : Scope) (pos : Pos) (own : List (Str × Nat)), p = .ListComp pelt [⟨ptg, pit, pifs, 0⟩] scope pos ∧ own.map (·.2) = vs ∧ PI X ptg pit (tI X.K M cf it) ∧ BlkOk X.N X.env.scope scope own ∧
    (∀ (s : Shared) (H : Hp) (C : Addr) (cl : List (Str × Addr)) (fp : List Addr), PG (X.blk s H scope (compEnvC scope cl C X.env) fp) ptg (tTg X.K tg)) ∧
    (∀ (s : Shared) (H : Hp) (C : Addr) (cl : List (Str × Addr)) (fp : List Addr), PTs (X.blk s H scope (compEnvC scope cl C X.env) fp) pifs (tCond X.K M cf cond)) ∧
    (∀ (s : Shared) (H : Hp) (C : Addr) (cl : List (Str × Addr)) (fp : List Addr), PE (X.blk s H scope (compEnvC scope cl C X.env) fp) pelt (tE X.K M cf elt)) ∧ (∀ x, foldedSetIterable pit X.env x = pure x) ∧
    ∀ σ H Q, tE X.K M cf (.comp elt tg it cond vs) σ H Q → tLc (tI X.K M cf it) (tTg X.K tg) (tCond X.K M cf cond) (tE X.K M cf elt) vs σ H Q
theorem comp_parts {elt : E} {tg : Tg} {it : I} {cond : Es} {vs : List Nat} {p : Expr} (c : XC cx sc M cf X)
    (ihi : ∀ tgp p, mtI cx sc it (isTup tgp) p = true → PI X tgp p (tI X.K M cf it))
    (ihc : ∀ sc' X', XC cx sc' M cf X' → ∀ e p, cond = .cons e .nil → mtE cx sc' e p = true → Snd cx M cf e X' p)
    (ihe : ∀ sc' X', XC cx sc' M cf X' → ∀ p, mtE cx sc' elt p = true → Snd cx M cf elt X' p)
    (h : mtE cx sc (.comp elt tg it cond vs) p = true) : CompP cx sc M cf elt tg it cond vs X p := by
  cases p <;> try (simp [mtE] at h; done)
  rename_i pelt gens scope pos
  rcases gens with _ | ⟨g, _ | ⟨g2, gens⟩⟩ <;> try (simp [mtE] at h; done)
  obtain ⟨ptg, pit, pifs, as⟩ := g
  by_cases has : as = 0
  rotate_left
  · simp [mtE, has] at h
  subst has
  simp only [mtE, Bool.and_eq_true] at h
  obtain ⟨⟨⟨⟨⟨h1, h2⟩, h3⟩, h4⟩, h5⟩, h6⟩ := h
  simp only [scopeOk, Bool.and_eq_true] at h1
  have hown : (vs.filterMap fun v => (cx.N[v]?).map fun x => (x, v)).map (·.2) = vs := by
    have h1' := h1.1
    clear h1 h4
    induction vs with
    | nil => rfl
    | cons v vs ih =>
      rw [List.all_cons, Bool.and_eq_true] at h1'
      obtain ⟨x, hx⟩ := Option.isSome_iff_exists.mp h1'.1
      rw [List.filterMap_cons, hx]
      exact congrArg (v :: ·) (ih h1'.2)
  have ok := blkOk_by h1.2
  rw [← c.sc] at ok
  have hXN := c.N
  rw [← hXN] at ok hown
  refine ⟨pelt, ptg, pit, pifs, scope, pos, _, rfl, hown, ihi ptg pit h2, ok, fun s H C cl fp => pg_tg (xc_blk c s H scope C cl fp) (fun x q => q) h3, fun s H C cl fp => pts_cond (ihc _ _ (xc_blk c s H scope C cl fp)) h5,
    fun s H C cl fp => (ihe _ _ (xc_blk c s H scope C cl fp) pelt h6).pe, fold_plain (mtI_plain h2), ?_⟩
  intro σ H Q hq
  obtain ⟨Z, ι, S, H0, ρ, d, st, S', hR, sR, e, k⟩ := hq
  simp only [ev] at e
  split at e
  · rename_i ds S1 e1
    split at e
    · cases e
    rename_i hsz
    split at e
    · rename_i xs S2 e2
      cases e
      refine ⟨Z, ι, S, H0, ρ, ds, S1, hR, sR, e1, fun J G H1 Z1 ι1 x1 r1 wk sta g1 D hD => ?_⟩
      have sR1 := sR.ext hR x1
      generalize hf : (fun (d : PyI.D) (S : Store) => match bindT tg d (wipeE ρ vs) with
        | some ρ1 => match evR cf cond ρ1 S with
          | some ([], S2) => (match fz (ev cf elt ρ1 S2) with | some (x, _, S3) => some (some x, S3) | none => none)
          | some ([.bl true], S2) => (match fz (ev cf elt ρ1 S2) with | some (x, _, S3) => some (some x, S3) | none => none)
          | some ([.bl false], S2) => some (none, S2)
          | _ => none
        | none => none) = f at e2
      have hDn : ∀ {H' : Hp} {Z' : Addr → Prop} {ι' : Nat → Addr} {n' : Nat}, H' D = none → True := fun _ => True.intro
      let Pv : Nat → Hp → Prop := fun i Hc => ∃ Zc ιc Sc accD rs, Ext H1 Z1 ι1 S1.length Hc Zc ιc Sc.length ∧ HR X.K M Hc Zc ιc Sc ∧ VR X.K Hc Zc ιc Sc.length H0 .own (.ref D) (.lst accD) ∧
        loopC f (ds.drop i) Sc = some (rs, S') ∧ accD ++ rs = xs ∧ accD.length ≤ i
      refine ⟨fun i m Hc => m = ds.length - i ∧ i ≤ ds.length ∧ Pv i Hc, ⟨ds.length, by simp, Nat.zero_le _, Z1, ι1, S1, [], xs, ?_, ?_, ?_, by simpa using e2, rfl, Nat.le_refl _⟩, ?_⟩
      · exact Ext.gr (Grow.new hD)
      · exact r1.gr (Grow.new hD)
      · refine ⟨D, rfl, fun z => r1.zs D z hD, fun l hl q => ?_, [], upd_same, .nil⟩
        have := nv_vr (H := H1) r1 (Grow.new hD) (v := .ref D) (d := .lst []) (show NV X.K H1 Z1 ι1 S1.length (upd H1 D (.lst [])) (.ref D) (.lst []) from ⟨D, rfl, hD, [], upd_same, .nil⟩)
        obtain ⟨a, ea, _, _, f', _⟩ := this
        cases ea
        exact f' l hl q
      · rintro i m Hc ⟨rfl, hi, Zc, ιc, Sc, accD, rs, xc, rc, vc, el, hx, hl⟩
        have gc := sta.ext r1 sR1 xc g1
        have sRc := sR1.ext r1 xc
        by_cases hlt : i < ds.length
        · refine .inr ⟨wk.go i Hc Zc ιc _ hlt gc, Pv (i + 1), fun H' p' => ⟨ds.length - (i + 1), by omega, rfl, hlt, p'⟩, fun x H' y => ?_⟩
          have hdi : ds[i]? = some ds[i] := List.getElem?_eq_getElem hlt
          obtain ⟨gr, rx⟩ := wk.yld i Hc Zc ιc _ x H' _ hdi gc y
          rw [List.drop_eq_getElem_cons hlt] at el
          obtain ⟨r, S3, rs', q1, q2, q3⟩ := loopC_cons el
          have sRy := (sRc.ext rc (Ext.gr gr)).wipe vs
          have rcy := rc.gr gr
          rw [← hf] at q1
          simp only at q1
          split at q1
          · rename_i ρ1 hb
            refine ⟨Zc, ιc, Sc.length, H0, wipeE ρ vs, _, ρ1, sRy, rx, hb, fun σ2 s2 hl2 hag => ⟨?_, ?_⟩⟩
            · rw [wipe_agree hl2 fun j hj => hag j fun q => hj ?_, wipe_wipe]
              exact List.contains_iff_mem.mp (List.all_eq_true.mp h4 j q)
            · have vcy := vc.ext rc (Ext.gr gr)
              have xcy := xc.trans (Ext.gr gr)
              have add : ∀ {Sm : Store} {yd : PyI.D} {Hm : Hp} {Zm : Addr → Prop} {ιm : Nat → Addr}, Ext H1 Z1 ι1 S1.length Hm Zm ιm Sm.length → HR X.K M Hm Zm ιm Sm → VR X.K Hm Zm ιm Sm.length H0 .own (.ref D) (.lst accD) →
                  SR X.K Hm Zm ιm Sm.length H0 ρ1 σ2 → (match fz (ev cf elt ρ1 Sm) with | some (x, _, S3) => some (some x, S3) | none => none) = some (r, S3) →
                  tE X.K M cf elt σ2 Hm fun y H4 => ∃ acc, H4 D = some (.lst acc) ∧ acc.length < sizeLine ∧ Pv (i + 1) (upd H4 D (.lst (acc ++ [y]))) := by
                intro Sm yd Hm Zm ιm xm rm vm sm q
                split at q
                · rename_i x' s' S4 q4
                  cases q
                  obtain ⟨_, st', q5, hst⟩ := fz_inv q4
                  refine ⟨Zm, ιm, Sm, H0, ρ1, x', st', _, rm, sm, q5, fun y H4 Z4 ι4 x4 r4 w4 => ?_⟩
                  obtain ⟨Z5, x5, r5, w5, k5⟩ := frz_step x4 r4 hst w4
                  obtain ⟨a, ea, nz, nf, acc, ha, hr⟩ := vm.ext rm x5
                  cases ea
                  have hal : acc.length = accD.length := hr.length
                  have hD0 : H1 D = none := hD
                  have kk : Keep X.K H4 Z5 ι4 S3.length (upd H4 D (.lst (acc ++ [y]))) Z5 ι4 S3.length := by
                    refine ⟨Nat.le_refl _, fun _ _ => rfl, fun _ z => z, fun b ys q => ?_, fun b o z q => ?_, fun b o u q => ?_⟩
                    · refine Rd.move q fun o e => ?_
                      rw [upd_ne]; exact e
                      intro eb; subst eb
                      rcases q with q | ⟨o', q⟩ <;> rw [ha] at q <;> cases q
                    · rw [upd_ne]; exact q
                      intro eb; subst eb; exact nz z
                    · rw [upd_ne]; exact q
                      intro eb; subst eb; rw [ha] at q; cases q
                  refine ⟨acc, ha, ?_, Z5, ι4, S3, accD ++ [x'], rs', ?_, ?_, ?_, q2, ?_, ?_⟩
                  · have : ¬ szL < ds.length := hsz
                    rw [sizeLine_eq]
                    unfold szL at this
                    omega
                  · have x6 := xm.trans x5
                    refine ⟨x6.le, x6.ag, x6.zz, x6.zn, x6.fn, fun b o e hn => ?_, fun b e q => ?_, fun b o u e => ?_⟩
                    · rw [upd_ne]; exact x6.fr b o e hn
                      intro eb; subst eb; rw [hD0] at e; cases e
                    · by_cases eb : b = D
                      · subst eb; rw [upd_same] at q; cases q
                      · rw [upd_ne eb] at q; exact x6.al b e q
                    · rw [upd_ne]; exact x6.fz b o u e
                      intro eb; subst eb; rw [hD0] at e; cases e
                  · refine ⟨fun l c' q => ?_, r5.inj, r5.nz, fun b z q => ?_⟩
                    · refine (r5.cell l c' q).keep kk fun o e => ?_
                      rw [upd_ne]; exact e
                      intro eb
                      exact nf l (List.getElem?_eq_some_iff.mp q).1 eb
                    · by_cases eb : b = D
                      · subst eb; rw [upd_same] at q; cases q
                      · rw [upd_ne eb] at q; exact r5.zs b z q
                  · exact ⟨D, rfl, nz, nf, acc ++ [y], upd_same, (hr.keep kk).append (.cons (w5.keep kk) .nil)⟩
                  · rw [← hx, q3]; simp
                  · simp; omega
                · cases q
              split at q1
              · rename_i S5 hc
                refine ⟨Zc, ιc, Sc, H0, ρ1, true, S5, rcy, s2, .inl ⟨hc, rfl⟩, fun H6 Z6 ι6 x6 r6 => ?_⟩
                exact add (yd := .non) (xcy.trans x6) r6 (vcy.ext rcy x6) (s2.ext rcy x6) q1
              · rename_i S5 hc
                refine ⟨Zc, ιc, Sc, H0, ρ1, true, S5, rcy, s2, .inr hc, fun H6 Z6 ι6 x6 r6 => ?_⟩
                exact add (yd := .non) (xcy.trans x6) r6 (vcy.ext rcy x6) (s2.ext rcy x6) q1
              · rename_i S5 hc
                cases q1
                refine ⟨Zc, ιc, Sc, H0, ρ1, false, _, rcy, s2, .inr hc, fun H6 Z6 ι6 x6 r6 => ?_⟩
                refine ⟨Z6, ι6, _, accD, rs', xcy.trans x6, r6, vcy.ext rcy x6, q2, ?_, by omega⟩
                rw [← hx, q3]
              · cases q1
          · cases q1
        · have ei : i = ds.length := by omega
          subst ei
          rw [List.drop_length] at el
          obtain ⟨rfl, rfl⟩ := loopC_nil el
          rw [List.append_nil] at hx
          subst hx
          refine .inl ⟨wk.stop Hc Zc ιc _ gc, k _ Hc Zc ιc (x1.trans xc) rc ?_⟩
          obtain ⟨a, ea, nz, nf, l⟩ := vc
          cases ea
          refine ⟨D, rfl, ?_, nz, nf, l⟩
          cases q : H D with
          | none => rfl
          | some o => exact absurd hD (x1.al D (by rw [q]; simp))
    · cases e
  · cases e
theorem s_comp {elt : E} {tg : Tg} {it : I} {cond : Es} {vs : List Nat} {p : Expr} (c : XC cx sc M cf X) (h : CompP cx sc M cf elt tg it cond vs X p) : Snd cx M cf (.comp elt tg it cond vs) X p := by
  obtain ⟨pelt, ptg, pit, pifs, scope, pos, own, rfl, rfl, h1, h2, h3, h4, h5, h6, i⟩ := h
  exact snd_of (PE.imp (pe_lc c.calm c.nd h1 h2 h3 h4 h5 h6) i) (fun _ => rfl) (fun _ _ _ q => nomatch q)
end
end PyI
namespace PyI
open PySem L2

section
variable {X : Cx}
theorem cr_range1 : CallR X (.type "range") (fun vs H Q => ∃ j, vs = [V.int j] ∧ ∀ p, H p = none → Q (.ref p) (upd H p (.rng 0 j))) := by
  intro pins s σ H vs us Q I r h
  obtain ⟨j, rfl, q⟩ := h
  obtain ⟨u1, rfl, ri⟩ := vals1 r
  obtain ⟨t, rfl⟩ := ri
  refine call_range_1 ⟨.ref s.heap.objs.size, upd H s.heap.objs.size (.rng 0 j), I.laid (t' := _) (fun b o e => Heap.get?_push_of_some _ e) (Nat.le_refl _) ?_, rfl, q _ (I.hok.fresh (Nat.le_refl _))⟩
  exact ⟨_, _, _, Heap.get?_push_size _ rfl⟩
theorem items_ints {a : Int} {n : Nat} {acc : Array Value} (h : ItemsOf (fun i v => ∃ t, v = .int (a + i * 1) t) acc n) : ∃ us, acc = List.toArray us ∧ Vals (((List.range n).map fun k : Nat => a + (k : Int)).map V.int) us := by
  refine ⟨acc.toList, by simp, ?_⟩
  have hs : acc.toList.length = n := by simpa using h.1
  have key : ∀ (m k : Nat) (us : List Value), us.length = m → (∀ (j : Nat) v, us[j]? = some v → ∃ t, v = .int (a + ((k + j : Nat) : Int)) t) → Vals (((List.range' k m).map fun k : Nat => a + (k : Int)).map V.int) us := by
    intro m
    induction m with
    | zero => intro k us hl _; cases us with | nil => exact .nil | cons _ _ => simp at hl
    | succ m ih =>
      intro k us hl hj
      cases us with
      | nil => simp at hl
      | cons u us =>
        obtain ⟨t, e2⟩ := hj 0 u rfl
        rw [List.range'_succ]
        refine .cons ⟨t, by simpa using e2⟩ (ih (k + 1) us (by simpa using hl) fun j v hv => ?_)
        obtain ⟨t, e2⟩ := hj (j + 1) v (by simpa using hv)
        exact ⟨t, by rw [e2, show k + 1 + j = k + (j + 1) by omega]⟩
  rw [List.range_eq_range']
  refine key n 0 acc.toList hs fun j v hv => ?_
  obtain ⟨t, e⟩ := h.2 j v (by simpa using hv)
  exact ⟨t, by rw [e]; simp⟩
theorem callListRng (hc : X.calm = true) : CallR X (.type "list") (fun xs H Q => ∃ p lo hi, xs = [.ref p] ∧ H p = some (.rng lo hi) ∧ (-(2 ^ 62) ≤ lo ∧ lo < 2 ^ 62 ∧ -(2 ^ 62) ≤ hi ∧ hi < 2 ^ 62) ∧ (hi - lo).toNat ≤ szL ∧
    ∀ l, H l = none → Q (.ref l) (upd H l (.lst (((List.range (hi - lo).toNat).map fun k : Nat => lo + (k : Int)).map V.int)))) := by
  intro pins s σ H vs us Q I r ⟨p, lo, hi, e, hp, ⟨b1, b2, b3, b4⟩, hz, q⟩
  subst e
  obtain ⟨u1, rfl, ri⟩ := vals1 r
  obtain rfl : u1 = Value.ref p := ri
  obtain ⟨t, u, v, hr⟩ := I.hok _ _ hp
  have hsz : Builtin.Range.rangeSize lo hi 1 = ((hi - lo).toNat : Nat) := by rw [rangeSize_one]; split <;> omega
  refine call_list_range (I.ok.hd hc) hr (small_one b1 b2 b3 b4) hsz (by unfold szL at hz; omega) fun h' tk acc' c' kk hS hacc => ?_
  obtain ⟨ws, rfl, rw'⟩ := items_ints hacc
  have hn := I.hok.fresh (Nat.le_refl s.heap.objs.size)
  refine ⟨.ref s.heap.objs.size, upd H s.heap.objs.size (.lst (((List.range (hi - lo).toNat).map fun k : Nat => lo + (k : Int)).map V.int)), I.laid (t' := tk) kk (Nat.le_refl _) ⟨?_, ws, c', rw', hS⟩, rfl, q _ hn⟩
  rw [List.length_map, List.length_map, List.length_range, sizeLine_eq]
  unfold szL at hz; omega
end
section
variable {cx : MC} {sc : Scope} {M : Nm} {cf : CF} {X : Cx}
theorem toL_inv {it : I} {ρ : SEnv} {S S' : Store} {d : D} {st : Stt} (e : ev cf (.toL it) ρ S = some (d, st, S')) : ∃ ds, evI cf it ρ S = some (ds, S') ∧ ds.length ≤ szL ∧ d = .lst ds ∧ st = .fresh := by
  simp only [ev] at e
  split at e
  · rename_i ds S1 h
    split at e <;> cases e
    rename_i hz
    exact ⟨ds, h, hz, rfl, rfl⟩
  · cases e
theorem s_toL1 {a : E} {p : Expr} {xp yp pos pos' : Pos} {x y : Str} (c : XC cx sc M cf X) (ih : ∀ p, mtE cx sc a p = true → Snd cx M cf a X p) (hx : x = "list" ∧ bltB cx sc x = true) (hy : y = "range" ∧ bltB cx sc y = true) (h : mtE cx sc a p = true) (hp : plain p = true) :
    Snd cx M cf (.toL (.range1 a)) X (.Call (.Name x xp) [.Call (.Name y yp) [p] [] pos'] [] pos) := by
  obtain ⟨rfl, hx⟩ := hx
  obtain ⟨rfl, hy⟩ := hy
  obtain ⟨g1, g2, g3, g4⟩ := blt_ok c hx
  obtain ⟨k1, k2, k3, k4⟩ := blt_ok c hy
  have st : starEach [p] X.env = (false, eval p X.env) :: starEach [] X.env := star_plain hp
  refine snd_of (PE.imp (pe_callTy (callListRng c.calm) g1 g2 PyProof.Rows.boot_list (pa_cons (pe_callTy cr_range1 k1 k2 PyProof.Rows.boot_range (pa_cons (ih p h).pe pa_nil st) k4 k3 st rfl) pa_nil rfl) g4 g3 rfl rfl) fun σ H Q ⟨Z, ι, S, H0, ρ, d, st, S', hR, sR, e, k⟩ => ?_) (fun _ => rfl) (fun _ _ _ q => nomatch q)
  replace e := toL_inv e
  obtain ⟨ds, e, hz, rfl, rfl⟩ := e
  simp only [evI] at e
  obtain ⟨x, sx, S1, e1, e⟩ := andT_inv e
  split at e
  rotate_left
  · cases e
  rename_i j
  split at e <;> cases e
  rename_i hb
  simp only [Bool.and_eq_true, decide_eq_true_eq] at hb
  refine ⟨Z, ι, S, H0, ρ, _, sx, _, hR, sR, e1, fun v1 H1 Z1 ι1 x1 r1 w1 => ?_⟩
  have ev1 := w1.rd.int
  subst ev1
  refine ⟨j, rfl, fun p np => ?_⟩
  have hz' : (j - 0).toNat ≤ szL := by simpa using hz
  refine ⟨p, 0, j, rfl, upd_same, ⟨by omega, by omega, by omega, by omega⟩, hz', fun l nl => ?_⟩
  have g : Grow H1 (upd (upd H1 p (.rng 0 j)) l (.lst (((List.range (j - 0).toNat).map fun k : Nat => (0 : Int) + (k : Int)).map V.int))) := fun a o q => Grow.new nl a o (Grow.new np a o q)
  have nl' : H1 l = none := by
    cases q : H1 l with
    | none => rfl
    | some o => rw [Grow.new np l o q] at nl; cases nl
  refine fin (d := .lst (List.map (fun k : Nat => PyI.D.int (k : Int)) (List.range j.toNat))) x1 r1 k g ⟨l, rfl, nl', _, upd_same, ?_⟩
  have := reps_ints (K := X.K) (H := upd (upd H1 p (.rng 0 j)) l (.lst (((List.range (j - 0).toNat).map fun k : Nat => (0 : Int) + (k : Int)).map V.int))) (Z := Z1) (ι := ι1) (n := S'.length) ((List.range (j - 0).toNat).map fun k : Nat => (0 : Int) + (k : Int))
  simp [List.map_map] at this ⊢
  exact this
theorem s_toL2 {a b : E} {p q : Expr} {xp yp pos pos' : Pos} {x y : Str} (c : XC cx sc M cf X) (ih : ∀ p, mtE cx sc a p = true → Snd cx M cf a X p) (ihb : ∀ p, mtE cx sc b p = true → Snd cx M cf b X p) (hx : x = "list" ∧ bltB cx sc x = true) (hy : y = "range" ∧ bltB cx sc y = true) (h : mtE cx sc a p = true) (hp : plain p = true) (h' : mtE cx sc b q = true) (hq : plain q = true) :
    Snd cx M cf (.toL (.range2 a b)) X (.Call (.Name x xp) [.Call (.Name y yp) [p, q] [] pos'] [] pos) := by
  obtain ⟨rfl, hx⟩ := hx
  obtain ⟨rfl, hy⟩ := hy
  obtain ⟨g1, g2, g3, g4⟩ := blt_ok c hx
  obtain ⟨k1, k2, k3, k4⟩ := blt_ok c hy
  have st2 : starEach [q] X.env = (false, eval q X.env) :: starEach [] X.env := star_plain hq
  have st : starEach [p, q] X.env = (false, eval p X.env) :: starEach [q] X.env := star_plain hp
  refine snd_of (PE.imp (pe_callTy (callListRng c.calm) g1 g2 PyProof.Rows.boot_list (pa_cons (pe_callTy cr_range2 k1 k2 PyProof.Rows.boot_range (pa_cons (ih p h).pe (pa_cons (ihb q h').pe pa_nil st2) st) k4 k3 st (by rw [st2]; rfl)) pa_nil rfl) g4 g3 rfl rfl) fun σ H Q ⟨Z, ι, S, H0, ρ, d, st, S', hR, sR, e, k⟩ => ?_) (fun _ => rfl) (fun _ _ _ q => nomatch q)
  replace e := toL_inv e
  obtain ⟨ds, e, hz, rfl, rfl⟩ := e
  simp only [evI] at e
  replace e := andT_inv e
  obtain ⟨x, sx, S1, e1, e⟩ := e
  replace e := andT_inv e
  obtain ⟨y, sy, S2, e2, e⟩ := e
  split at e
  rotate_left
  · cases e
  rename_i i j
  split at e <;> cases e
  rename_i hb
  simp only [Bool.and_eq_true, decide_eq_true_eq] at hb
  refine ⟨Z, ι, S, H0, ρ, _, sx, S1, hR, sR, e1, fun v1 H1 Z1 ι1 x1 r1 w1 => ?_⟩
  have ev1 := w1.rd.int
  subst ev1
  refine ⟨Z1, ι1, S1, H0, ρ, _, sy, _, r1, sR.ext hR x1, e2, fun v2 H2 Z2 ι2 x2 r2 w2 => ?_⟩
  have ev2 := w2.rd.int
  subst ev2
  refine ⟨i, j, rfl, fun p np => ?_⟩
  have hz' : (j - i).toNat ≤ szL := by simpa using hz
  refine ⟨p, i, j, rfl, upd_same, ⟨by omega, by omega, by omega, by omega⟩, hz', fun l nl => ?_⟩
  have g : Grow H2 (upd (upd H2 p (.rng i j)) l (.lst (((List.range (j - i).toNat).map fun k : Nat => i + (k : Int)).map V.int))) := fun a o q => Grow.new nl a o (Grow.new np a o q)
  have nl' : H2 l = none := by
    cases q : H2 l with
    | none => rfl
    | some o => rw [Grow.new np l o q] at nl; cases nl
  refine fin (d := .lst (List.map (fun k : Nat => PyI.D.int (i + (k : Int))) (List.range (j - i).toNat))) (x1.trans x2) r2 k g ⟨l, rfl, nl', _, upd_same, ?_⟩
  have := reps_ints (K := X.K) (H := upd (upd H2 p (.rng i j)) l (.lst (((List.range (j - i).toNat).map fun k : Nat => i + (k : Int)).map V.int))) (Z := Z2) (ι := ι2) (n := S'.length) ((List.range (j - i).toNat).map fun k : Nat => i + (k : Int))
  simp [List.map_map] at this ⊢
  exact this
theorem mt_toL {it : I} {p : Expr} (h : mtE cx sc (.toL it) p = true) : ∃ x xp y yp ps pos' pos, p = .Call (.Name x xp) [.Call (.Name y yp) ps [] pos'] [] pos ∧ (x = "list" ∧ bltB cx sc x = true) ∧ (y = "range" ∧ bltB cx sc y = true) ∧ mtRg cx sc it ps = true := by
  unfold mtE at h
  split at h <;> try (cases h; done)
  all_goals (try contradiction)
  rename_i q; cases q
  simp only [Bool.and_eq_true, decide_eq_true_eq] at h
  exact ⟨_, _, _, _, _, _, _, rfl, h.1, h.2.1, h.2.2⟩
theorem s_dnew {p : Expr} (h : mtE cx sc .dnew p = true) : Snd cx M cf .dnew X p := by
  cases p <;> try (simp [mtE] at h; done)
  rename_i ks vs pos
  cases ks <;> cases vs <;> try (simp [mtE] at h; done)
  refine snd_of (PE.imp pe_dnewK fun σ H Q ⟨Z, ι, S, H0, ρ, d, st, S', hR, sR, e, k⟩ => ?_) (fun _ => rfl) (fun _ _ _ q => nomatch q)
  simp only [ev] at e
  cases e
  exact fun d hd => fin (d := .dict [] []) Ext.refl hR k (Grow.new hd) ⟨d, rfl, hd, [], upd_same, .nil, .nil⟩
theorem s_gint {i : Int} {p : Expr} (c : XC cx sc M cf X) (h : mtE cx sc (.gint i) p = true) : Snd cx M cf (.gint i) X p := by
  cases p <;> try (simp [mtE] at h; done)
  simp only [mtE, Bool.and_eq_true, decide_eq_true_eq] at h
  obtain ⟨t, ht⟩ := c.gi _ _ h.2
  exact s_con (pe_glob (v := .int i) (gl_ok c h.1.1) ht ⟨t, rfl⟩ (okNm_ok h.1.2).1) (fun _ _ => rfl) (fun _ _ _ _ => .int _) (fun _ => rfl) (fun _ _ _ q => nomatch q)
theorem s_gstr {i : List Nat} {p : Expr} (c : XC cx sc M cf X) (h : mtE cx sc (.gstr i) p = true) : Snd cx M cf (.gstr i) X p := by
  cases p <;> try (simp [mtE] at h; done)
  simp only [mtE, Bool.and_eq_true, decide_eq_true_eq] at h
  obtain ⟨t, ht⟩ := c.gs _ _ h.2
  exact s_con (pe_glob (v := .str (txt i)) (gl_ok c h.1.1) ht ⟨t, rfl⟩ (okNm_ok h.1.2).1) (fun _ _ => rfl) (fun _ _ _ _ => .str _) (fun _ => rfl) (fun _ _ _ q => nomatch q)
end
end PyI
namespace PyI
open PySem L2 PySem.Spec
open PyProof.Rows hiding St

section
variable {prog : Program} {w : World} {A : Around}

theorem max_rawD {l : Addr} {its : List Value} {ns : List Int} {d : Value} {Q : Value → Shared → Prop} {E : Value → Shared → Prop} {s : Shared} (hA : A.handled = none) (hl : s.heap.IsList l its.toArray) (hi : IntsAre its ns)
    (k0 : ns = [] → ∀ (h' : Heap) (tk : Nat), (∀ (b : Addr) (o : Obj), s.heap.get? b = some o → h'.get? b = some o) → Q d { s with heap := h', toks := tk })
    (k : ∀ (h' : Heap) (tk : Nat) (z : Int) (t' : Tok), (∀ (b : Addr) (o : Obj), s.heap.get? b = some o → h'.get? b = some o) → z ∈ ns → (∀ a ∈ ns, a ≤ z) → Q (.int z t') { s with heap := h', toks := tk }) :
    wpAny (model prog w) A (call (.builtin "max") [.ref l] [("default", d)]) Q E s := by
  have hlt : l < s.heap.objs.size := by
    obtain ⟨o, ho, _⟩ := id hl
    exact Heap.lt_size ho
  have hlen := ints_len hi
  have hsz : its.toArray.size = ns.length := by simp [hlen]
  have keep : ∀ {h' : Heap}, (∀ (b : Addr) (o : Obj), b ∉ [s.heap.objs.size] → (s.heap.push { cls := .type "list_iterator", data := .fields #[.ref l, .int 0 0] }).get? b = some o → h'.get? b = some o) → ∀ (b : Addr) (o : Obj), s.heap.get? b = some o → h'.get? b = some o := by
    intro h' hk b o ho
    refine hk b o (fun hm => ?_) (Heap.get?_push_of_some _ ho)
    simp at hm
    subst hm
    exact Nat.lt_irrefl _ (Heap.lt_size ho)
  refine max_dwalk (wpAny_pyIter_list hl ⟨s.heap.objs.size, _, _, its.toArray.size, _, _, _, rfl, Walks.list (prog := prog) (w := w) (A := A.in1) hA s.heap.objs.size l (Nat.ne_of_lt hlt) its.toArray, ⟨⟨_, Heap.get?_push_size _ rfl, rfl, rfl⟩, ?_⟩, ?_, CmpOf.ints_gt (fun i => ns.getD i 0) (ints_at hi), fun h0 h' tk hk => ?_, fun h0 v h' tk hv hk => ?_⟩)
  · obtain ⟨o, ho, hc, hd⟩ := id hl
    exact ⟨o, Heap.get?_push_of_some _ ho, hc, hd⟩
  · intro b hb
    show b < (s.heap.push _).objs.size
    rw [size_push']
    simp at hb
    rcases hb with rfl | rfl
    · exact Nat.lt_succ_self _
    · exact Nat.lt_succ_of_lt hlt
  · rw [hsz] at h0
    exact k0 (List.length_eq_zero_iff.mp h0) h' tk (keep hk)
  · obtain ⟨g1, g2⟩ := argBest_gt (fun i => ns.getD i 0) (its.toArray.size - 1)
    rw [hsz] at g1 g2 h0
    have hlt2 : argBest (fun i j => decide (ns.getD i 0 > ns.getD j 0)) (ns.length - 1) < ns.length := by omega
    obtain ⟨t, rfl⟩ := ints_at hi _ _ hv
    rw [hsz]
    refine k h' tk _ t (keep hk) ?_ fun a ha => ?_
    · rw [getD_at hlt2]
      exact List.getElem_mem _
    · obtain ⟨j, hj, rfl⟩ := List.getElem_of_mem ha
      have := g2 j (by omega)
      rwa [getD_at hj] at this

theorem min_rawD {l : Addr} {its : List Value} {ns : List Int} {d : Value} {Q : Value → Shared → Prop} {E : Value → Shared → Prop} {s : Shared} (hA : A.handled = none) (hl : s.heap.IsList l its.toArray) (hi : IntsAre its ns)
    (k0 : ns = [] → ∀ (h' : Heap) (tk : Nat), (∀ (b : Addr) (o : Obj), s.heap.get? b = some o → h'.get? b = some o) → Q d { s with heap := h', toks := tk })
    (k : ∀ (h' : Heap) (tk : Nat) (z : Int) (t' : Tok), (∀ (b : Addr) (o : Obj), s.heap.get? b = some o → h'.get? b = some o) → z ∈ ns → (∀ a ∈ ns, z ≤ a) → Q (.int z t') { s with heap := h', toks := tk }) :
    wpAny (model prog w) A (call (.builtin "min") [.ref l] [("default", d)]) Q E s := by
  have hlt : l < s.heap.objs.size := by
    obtain ⟨o, ho, _⟩ := id hl
    exact Heap.lt_size ho
  have hlen := ints_len hi
  have hsz : its.toArray.size = ns.length := by simp [hlen]
  have keep : ∀ {h' : Heap}, (∀ (b : Addr) (o : Obj), b ∉ [s.heap.objs.size] → (s.heap.push { cls := .type "list_iterator", data := .fields #[.ref l, .int 0 0] }).get? b = some o → h'.get? b = some o) → ∀ (b : Addr) (o : Obj), s.heap.get? b = some o → h'.get? b = some o := by
    intro h' hk b o ho
    refine hk b o (fun hm => ?_) (Heap.get?_push_of_some _ ho)
    simp at hm
    subst hm
    exact Nat.lt_irrefl _ (Heap.lt_size ho)
  refine min_dwalk (wpAny_pyIter_list hl ⟨s.heap.objs.size, _, _, its.toArray.size, _, _, _, rfl, Walks.list (prog := prog) (w := w) (A := A.in1) hA s.heap.objs.size l (Nat.ne_of_lt hlt) its.toArray, ⟨⟨_, Heap.get?_push_size _ rfl, rfl, rfl⟩, ?_⟩, ?_, CmpOf.ints_lt (fun i => ns.getD i 0) (ints_at hi), fun h0 h' tk hk => ?_, fun h0 v h' tk hv hk => ?_⟩)
  · obtain ⟨o, ho, hc, hd⟩ := id hl
    exact ⟨o, Heap.get?_push_of_some _ ho, hc, hd⟩
  · intro b hb
    show b < (s.heap.push _).objs.size
    rw [size_push']
    simp at hb
    rcases hb with rfl | rfl
    · exact Nat.lt_succ_self _
    · exact Nat.lt_succ_of_lt hlt
  · rw [hsz] at h0
    exact k0 (List.length_eq_zero_iff.mp h0) h' tk (keep hk)
  · obtain ⟨g1, g2⟩ := argBest_lt (fun i => ns.getD i 0) (its.toArray.size - 1)
    rw [hsz] at g1 g2 h0
    have hlt2 : argBest (fun i j => decide (ns.getD i 0 < ns.getD j 0)) (ns.length - 1) < ns.length := by omega
    obtain ⟨t, rfl⟩ := ints_at hi _ _ hv
    rw [hsz]
    refine k h' tk _ t (keep hk) ?_ fun a ha => ?_
    · rw [getD_at hlt2]
      exact List.getElem_mem _
    · obtain ⟨j, hj, rfl⟩ := List.getElem_of_mem ha
      have := g2 j (by omega)
      rwa [getD_at hj] at this

end
section
variable {cx : MC} {sc : Scope} {M : Nm} {cf : CF} {X : Cx}
/-- behind an expression a dict is locked for good -/
theorem pe_lock_v {e : Expr} {t : TE} (h : PE X e t) : PE X e (fun σ H Q => t σ H fun v H1 => (∃ d u, v = .ref d ∧ H1 d = some u ∧ Mut (some u) ∧ ∀ od, Q v (upd H1 d (.frz od u)))) := by
  refine ⟨fun pins s σ H Q I hq => thn (h.run pins s σ H _ I hq) ?_⟩
  rintro w s1 ⟨x, H1, I1, r, d, u, rfl, hd, mu, q⟩
  obtain ⟨od, I2⟩ := I1.lock hd mu
  exact ⟨_, _, I2, r, q od⟩
theorem mut_dK {kvs : List (Key × V)} : Mut (some (HO.dK kvs)) := True.intro
/-- a heap where one dict is locked that nobody else may write -/
theorem lock_keep {K : PySem.W.Frag} {H : Hp} {Z : Addr → Prop} {ι : Nat → Addr} {n : Nat} {a : Addr} {kvs : List (Key × V)} {od : Obj} (h : H a = some (.dK kvs)) (z : ¬ Z a) : Keep K H Z ι n (upd H a (.frz od (.dK kvs))) Z ι n := by
  refine ⟨Nat.le_refl _, fun _ _ => rfl, fun _ z => z, fun b xs q => ?_, fun b o zb q => ?_, fun b o u q => ?_⟩
  · refine Rd.move q fun o e => ?_
    rw [upd_ne]; exact e
    rintro rfl
    rcases q with q | ⟨o', q⟩ <;> rw [h] at q <;> cases q
  · rw [upd_ne]; exact q
    rintro rfl; exact z zb
  · rw [upd_ne]; exact q
    rintro rfl
    rw [h] at q; cases q
theorem lock_ext {H : Hp} {Z : Addr → Prop} {ι : Nat → Addr} {n : Nat} {a : Addr} {u : HO} {H0 : Hp} {Z0 : Addr → Prop} {ι0 : Nat → Addr} {n0 : Nat} (x : Ext H0 Z0 ι0 n0 H Z ι n) (hd : ∀ o, H0 a = some o → ∃ l, l < n0 ∧ ι0 l = a) (hf : ∀ o w, H a ≠ some (.frz o w)) : Ext H0 Z0 ι0 n0 (upd H a u) Z ι n := by
  refine ⟨x.le, x.ag, x.zz, x.zn, x.fn, fun b o e hn => ?_, fun b e q => ?_, fun b o w e => ?_⟩
  · rw [upd_ne]; exact x.fr b o e hn
    rintro rfl
    obtain ⟨l, hl, e2⟩ := hd o e
    exact hn l hl e2
  · by_cases eb : b = a
    · subst eb; rw [upd_same] at q; cases q
    · rw [upd_ne eb] at q; exact x.al b e q
  · rw [upd_ne]; exact x.fz b o w e
    rintro rfl
    exact hf o w (x.fz _ o w e)
theorem s_lk {e : E} {p : Expr} (ih : ∀ p, mtE cx sc e p = true → Snd cx M cf e X p) (h : mtE cx sc (.lk e) p = true) : Snd cx M cf (.lk e) X p := by
  have h1 := ih p (by cases p <;> simpa only [mtE] using h)
  have inv : ∀ {ρ : SEnv} {S S' : Store} {d : D} {st : Stt}, ev cf (.lk e) ρ S = some (d, st, S') → ∃ ks vs, ev cf e ρ S = some (.dict ks vs, .fresh, S') ∧ d = .dictF ks vs ∧ st = .fr := by
    intro ρ S S' d st q
    simp only [ev] at q
    obtain ⟨x, sx, S1, e1, q⟩ := andT_inv q
    split at q <;> cases q
    exact ⟨_, _, e1, rfl, rfl⟩
  have main : PE X p (tE X.K M cf (.lk e)) := PE.imp (pe_lock_v h1.pe) fun σ H Q ⟨Z, ι, S, H0, ρ, d, st, S', hR, sR, q, k⟩ => by
    obtain ⟨ks, vs, e1, rfl, rfl⟩ := inv q
    refine ⟨Z, ι, S, H0, ρ, _, .fresh, S', hR, sR, e1, fun v1 H1 Z1 ι1 x1 r1 w1 => ?_⟩
    obtain ⟨a, rfl, h0, hz, hf, kvs, hd, q1, q2⟩ := w1
    refine ⟨a, _, rfl, hd, mut_dK, fun od => ?_⟩
    have kp : Keep X.K H1 Z1 ι1 S'.length (upd H1 a (.frz od (.dK kvs))) Z1 ι1 S'.length := lock_keep hd hz
    refine k (.ref a) _ Z1 ι1 (lock_ext x1 (fun o q => by rw [h0] at q; cases q) fun o w q => by rw [hd] at q; cases q) ⟨fun l c q => (r1.cell l c q).keep kp fun o q' => ?_, r1.inj, r1.nz, fun b zb q => ?_⟩ (.dictF upd_same (q1.keep kp) (q2.keep kp))
    · rw [upd_ne]; exact q'
      exact hf l (List.getElem?_eq_some_iff.mp q).1
    · by_cases eb : b = a
      · subst eb; rw [upd_same] at q; cases q
      · rw [upd_ne eb] at q; exact r1.zs b zb q
  refine ⟨main, ⟨fun pins s σ H Q I ⟨Z, ι, S, H0, ρ, b, st, S', hR, sR, q, k⟩ => ?_⟩, fun op vs pos hp => ⟨fun w pins s σ H Q I ⟨Z, ι, S, H0, ρ, b, st, S', hR, sR, q, k⟩ => ?_⟩⟩
  all_goals
    obtain ⟨ks, vs, e1, hd, _⟩ := inv q
    cases hd
/-- a dict is taken out of the store, locked -/
theorem s_frr {e : E} {p : Expr} (ih : ∀ p, mtE cx sc e p = true → Snd cx M cf e X p) (h : mtE cx sc (.frr e) p = true) : Snd cx M cf (.frr e) X p := by
  have h1 := ih p (by cases p <;> simpa only [mtE] using h)
  have inv : ∀ {ρ : SEnv} {S S' : Store} {d : D} {st : Stt}, ev cf (.frr e) ρ S = some (d, st, S') → ∃ l s S1 ks vs, ev cf e ρ S = some (.ref l, s, S1) ∧ S1[l]? = some (.dict ks vs) ∧ d = .dictF ks vs ∧ st = .fr ∧ S' = S1.set l .gone := by
    intro ρ S S' d st q
    simp only [ev] at q
    obtain ⟨x, sx, S1, e1, q⟩ := andT_inv q
    split at q
    · split at q
      · rename_i hx
        cases q
        exact ⟨_, sx, S1, _, _, e1, hx, rfl, rfl, rfl⟩
      · cases q
    · cases q
  have main : PE X p (tE X.K M cf (.frr e)) := PE.imp (pe_lock_v h1.pe) fun σ H Q ⟨Z, ι, S, H0, ρ, d, st, S', hR, sR, q, k⟩ => by
    obtain ⟨l, s, S1, ks, vs, e1, hx, rfl, rfl, rfl⟩ := inv q
    have len : (S1.set l .gone).length = S1.length := List.length_set ..
    rw [len] at k
    refine ⟨Z, ι, S, H0, ρ, _, s, S1, hR, sR, e1, fun v1 H1 Z1 ι1 x1 r1 w1 => ?_⟩
    have hl : l < S1.length := (List.getElem?_eq_some_iff.mp hx).1
    have ev1 : v1 = .ref (ι1 l) := by
      have : RdV X.K H1 Z1 ι1 S1.length v1 (.ref l) := w1.rd
      rcases this with r | ⟨_, _, r⟩
      · cases r; rfl
      · exact r.elim
    subst ev1
    obtain ⟨kvs, hd, q1, q2⟩ := r1.cell l _ hx
    refine ⟨ι1 l, _, rfl, hd, mut_dK, fun od => ?_⟩
    have hz := r1.nz l hl
    have kp : Keep X.K H1 Z1 ι1 S1.length (upd H1 (ι1 l) (.frz od (.dK kvs))) Z1 ι1 S1.length := lock_keep hd hz
    refine k (.ref (ι1 l)) _ Z1 ι1 (lock_ext x1 (fun o q => ?_) fun o w q => by rw [hd] at q; cases q) ⟨fun l' c q => ?_, ?_, ?_, fun b zb q => ?_⟩ ?_
    · by_cases h0 : l < S.length
      · exact ⟨l, h0, (x1.ag l h0).symm⟩
      · have := x1.fn l (Nat.le_of_not_lt h0) hl
        rw [q] at this; cases this
    · rw [len]
      by_cases el : l' = l
      · subst el
        rw [List.getElem?_set_self hl] at q
        cases q
        exact ⟨od, kvs, upd_same⟩
      · rw [List.getElem?_set_ne (Ne.symm el)] at q
        refine (r1.cell l' c q).keep kp fun o q' => ?_
        rw [upd_ne]; exact q'
        intro eb
        exact el (r1.inj l' l (List.getElem?_eq_some_iff.mp q).1 hl eb)
    · rw [len]; exact r1.inj
    · rw [len]; exact r1.nz
    · by_cases eb : b = ι1 l
      · subst eb; rw [upd_same] at q; cases q
      · rw [upd_ne eb] at q; exact r1.zs b zb q
    · exact .dictF upd_same (q1.keep kp) (q2.keep kp)
  refine ⟨main, ⟨fun pins s σ H Q I ⟨Z, ι, S, H0, ρ, b, st, S', hR, sR, q, k⟩ => ?_⟩, fun op vs pos hp => ⟨fun w pins s σ H Q I ⟨Z, ι, S, H0, ρ, b, st, S', hR, sR, q, k⟩ => ?_⟩⟩
  all_goals
    obtain ⟨l, s, S1, ks, vs, e1, _, hd, _⟩ := inv q
    cases hd
theorem ref_at {K : PySem.W.Frag} {H : Hp} {Z : Addr → Prop} {ι : Nat → Addr} {n l : Nat} {v : V} (r : RdV K H Z ι n v (.ref l)) : v = .ref (ι l) := by
  rcases r with r | ⟨_, _, r⟩
  · cases r; rfl
  · exact r.elim
/-- a field by its number, by its name -/
theorem fields_get {K : PySem.W.Frag} {H : Hp} {Z : Addr → Prop} {ι : Nat → Addr} {n : Nat} (M : Nm) {x : Nat} {d : D} : ∀ {fs : List (Nat × D)} {gs : List (Str × V)}, gs.map (·.1) = fs.map (fun p => M.fld p.1) → Reps K H Z ι n (gs.map (·.2)) (fs.map (·.2)) → fs.lookup x = some d →
    ∃ v, gs.lookup (M.fld x) = some v ∧ Rep K H Z ι n v d
  | [], gs, _, _, h => by simp at h
  | (y, e) :: fs, [], hk, _, _ => by simp at hk
  | (y, e) :: fs, (z, w) :: gs, hk, r, h => by
    simp only [List.map_cons, List.cons.injEq] at hk
    obtain ⟨rfl, hk⟩ := hk
    cases r with
    | cons r1 r2 =>
      rw [List.lookup_cons] at h ⊢
      by_cases e0 : x = y
      · subst e0
        simp at h
        subst h
        exact ⟨w, by simp, r1⟩
      · have h1 : (x == y) = false := by simp [e0]
        have h2 : (M.fld x == M.fld y) = false := by simp; exact fun q => e0 (M.inj _ _ q)
        rw [h1] at h
        rw [h2]
        exact fields_get M hk r2 h
theorem fields_no {M : Nm} {m : Str} (h : ∀ x, M.fld x ≠ m) : ∀ {fs : List (Nat × D)} {gs : List (Str × V)}, gs.map (·.1) = fs.map (fun p => M.fld p.1) → gs.lookup m = none
  | [], [], _ => rfl
  | [], _ :: _, hk => by simp at hk
  | (y, e) :: fs, [], hk => by simp at hk
  | (y, e) :: fs, (z, w) :: gs, hk => by
    simp only [List.map_cons, List.cons.injEq] at hk
    obtain ⟨rfl, hk⟩ := hk
    rw [List.lookup_cons]
    have h2 : (m == M.fld y) = false := by simp; exact fun q => h y q.symm
    rw [h2]
    exact fields_no h hk
theorem s_fld {c : Nat} {o : E} {x : Nat} {p : Expr} (xc : XC cx sc M cf X) (ih : ∀ p, mtE cx sc o p = true → Snd cx M cf o X p) (h : mtE cx sc (.fld c o x) p = true) : Snd cx M cf (.fld c o x) X p := by
  cases p <;> try (simp [mtE] at h; done)
  rename_i q f pos
  simp only [mtE, Bool.and_eq_true, decide_eq_true_eq] at h
  obtain ⟨⟨⟨hf, hc⟩, ho⟩, hb⟩ := h
  obtain ⟨cl, na, nf⟩ := xc.fl c x f hc hf
  refine snd_of (PE.imp (pe_fld (ih q ho).pe (base_plain hb)) fun σ H Q ⟨Z, ι, S, H0, ρ, d, st, S', hR, sR, e, k⟩ => ?_) (fun _ => rfl) (fun _ _ _ q => nomatch q)
  simp only [ev] at e
  replace e := andT_inv e
  obtain ⟨v, s, S1, e1, e⟩ := e
  split at e <;> try (cases e; done)
  rename_i l
  split at e <;> try (cases e; done)
  rename_i c' fs hx
  split at e <;> try (cases e; done)
  rename_i ec
  subst ec
  split at e <;> cases e
  rename_i hd
  refine ⟨Z, ι, S, H0, ρ, _, s, _, hR, sR, e1, fun v1 H1 Z1 ι1 x1 r1 w1 => ?_⟩
  obtain ⟨dx, gs, hh, hk, rr⟩ := r1.cell l _ hx
  obtain ⟨v, hv, rv⟩ := fields_get M hk rr hd
  exact ⟨_, M.cls c', dx, gs, v, ref_at w1.rd, hh, cl, na, by rw [← nf]; exact hv, k v H1 Z1 ι1 x1 r1 rv⟩
theorem recv_eval {p : Expr} {m : Str} {apos pos : Pos} {es : List Expr} {env : PySem.Env} (hb : okBase p = true) (ha : es.all plain = true) (hl : es.length < 20) (line : (apos.endLine == pos.line) = true) : ∃ pl : Sem Bool, eval (.Call (.Attribute p m apos) es [] pos) env = (do
      let ov ← eval p env
      standAt apos.atName
      let (g, first) ← holding [ov] (getMethod ov m pl)
      callWith pos g first (backTo pos (starEach es env)) (backToKw pos (keywordEach [] env))) := by
  refine ⟨(do return (← importBound p env).getD true), ?_⟩
  have few : methodCallForm (es.length + ([] : List Keyword).length) (backTo pos (starEach es env)) (backToKw pos (keywordEach [] env)) = true := by
    unfold methodCallForm
    rw [all_plain ha]
    have : es.length + ([] : List Keyword).length + 0 < 30 := by simp; omega
    show (true && true && decide (es.length + ([] : List Keyword).length + 0 < 30)) = true
    rw [decide_eq_true this]
    rfl
  rw [arm_eval_Call, base_plain hb]
  unfold methodCall calleeOf methodCallPos
  rw [few]
  simp only [if_true, Bool.not_true, Bool.false_or, line, pure_bind]
theorem s_mcall {c f : Nat} {o : E} {es : Es} {p : Expr} (xc : XC cx sc M cf X) (ih : ∀ p, mtE cx sc o p = true → Snd cx M cf o X p) (ihs : ∀ ps, mtEs cx sc es ps = true → SndS cx M cf es X ps) (h : mtE cx sc (.mcall c f o es) p = true) : Snd cx M cf (.mcall c f o es) X p := by
  cases p <;> try (simp [mtE] at h; done)
  rename_i fn pes kws pos
  cases fn <;> cases kws <;> try (simp [mtE] at h; done)
  rename_i q m apos
  simp only [mtE, Bool.and_eq_true, decide_eq_true_eq] at h
  obtain ⟨⟨⟨⟨⟨⟨hm, hc⟩, ho⟩, hs⟩, hbs⟩, hln⟩, hline⟩ := h
  obtain ⟨k, fa, fd, ps, F, rm, cl, me, hb, nofld⟩ := xc.me f c m hm hc
  have hh := ihs _ hs
  obtain ⟨pl, ht⟩ := recv_eval (m := m) (env := X.env) hbs hh.pl hln hline
  have i : ∀ σ H Q, tE X.K M cf (.mcall c f o es) σ H Q → tMeth (M.cls c) m (SpD X.K M cf f) [] E0 (tE X.K M cf o) (tF X.K M cf es) σ H Q := fun σ H Q ⟨Z, ι, S, H0, ρ, d, st, S', hR, sR, e, k⟩ => by
    simp only [ev] at e
    replace e := andT_inv e
    obtain ⟨v, s, S1, e1, e⟩ := e
    split at e <;> try (cases e; done)
    rename_i l
    split at e <;> try (cases e; done)
    rename_i c' fs hx
    split at e <;> try (cases e; done)
    rename_i ec
    subst ec
    split at e <;> try (cases e; done)
    rename_i ds S2 e2
    refine ⟨Z, ι, S, H0, ρ, _, s, _, hR, sR, e1, fun v1 H1 Z1 ι1 x1 r1 w1 => ?_⟩
    obtain ⟨dx, gs, hh, hk, rr⟩ := r1.cell l _ hx
    have hl : l < S1.length := (List.getElem?_eq_some_iff.mp hx).1
    have ev1 := ref_at w1.rd
    refine ⟨_, dx, gs, ev1, hh, fields_no nofld hk, ?_⟩
    refine ⟨Z1, ι1, S1, H0, ρ, ds, S2, r1, sR.ext hR x1, e2, fun vs H2 Z2 ι2 x2 r2 w2 => ?_⟩
    show SpD X.K M cf f (v1 :: (vs ++ [])) H2 Q E0
    rw [List.append_nil, ev1, ← x2.ag l hl]
    exact ⟨Z2, ι2, S2, .ref l :: ds, d, st, S', r2, .cons (.ref (Nat.lt_of_lt_of_le hl x2.le)) w2, e, fun v H3 Z3 ι3 x3 r3 w3 => k v H3 Z3 ι3 ((x1.trans x2).trans x3) r3 (w3.back (x1.trans x2).al)⟩
  cases pes with
  | nil =>
    refine snd_of (PE.imp (peG_meth0 (ih q ho).pe cl me F xc.gd rm hb pass0 ht) fun σ H Q hq => ?_) (fun _ => rfl) (fun _ _ _ q => nomatch q)
    cases es with
    | cons _ _ => simp [mtEs] at hs
    | nil =>
      obtain ⟨Z, ι, S, H0, ρ, d, st, S', hR, sR, e, kk⟩ := i σ H Q hq
      refine ⟨Z, ι, S, H0, ρ, d, st, S', hR, sR, e, fun v H' Z' ι' x r w => ?_⟩
      obtain ⟨a, dx, fs, q1, q2, q3, q4⟩ := kk v H' Z' ι' x r w
      refine ⟨a, dx, fs, q1, q2, q3, ?_⟩
      obtain ⟨Z, ι, S, H0, ρ, ds, S1, hR, sR, e2, kk⟩ := q4
      simp only [evF] at e2
      cases e2
      exact kk [] _ Z ι Ext.refl hR .nil
  | cons q2 pes =>
    have hpl := hh.pl
    rw [List.all_cons, Bool.and_eq_true] at hpl
    exact snd_of (PE.imp (peG_meth (ih q ho).pe cl me F xc.gd rm hb pass0 hh.f (star_plain hpl.1) (any_plain hpl.2) ht) i) (fun _ => rfl) (fun _ _ _ q => nomatch q)
/-- a new instance in the store -/
theorem new_ins {K : PySem.W.Frag} {H : Hp} {Z : Addr → Prop} {ι : Nat → Addr} {S : Store} {c : Nat} {x dx : Addr} (r : HR K M H Z ι S) (h1 : H x = none) (h2 : H dx = none) (hne : dx ≠ x) :
    ∃ ι2 : Nat → Addr, ι2 S.length = x ∧ Ext H Z ι S.length (upd (upd H dx (.own x)) x (.ins (M.cls c) dx [])) Z ι2 (S ++ [Cell.ins c []]).length ∧ HR K M (upd (upd H dx (.own x)) x (.ins (M.cls c) dx [])) Z ι2 (S ++ [Cell.ins c []]) := by
  have g : Grow H (upd (upd H dx (.own x)) x (.ins (M.cls c) dx [])) := fun a o e => by
    rw [upd_ne, upd_ne]; exact e
    · rintro rfl; rw [h2] at e; cases e
    · rintro rfl; rw [h1] at e; cases e
  have r' := r.gr g
  obtain ⟨ι2, ag, at1⟩ : ∃ ι2 : Nat → Addr, (∀ l, l < S.length → ι2 l = ι l) ∧ ι2 S.length = x := ⟨fun l => if l = S.length then x else ι l, fun l hl => if_neg (by omega), if_pos rfl⟩
  have len : (S ++ [Cell.ins c []]).length = S.length + 1 := by simp
  have nox : ∀ l, l < S.length → ι l ≠ x := fun l hl e => by
    have := r.at hl
    rw [e] at this
    cases q : S[l] <;> rw [q] at this
    · obtain ⟨xs, e, _⟩ := this; rw [h1] at e; cases e
    · obtain ⟨xs, e, _⟩ := this; rw [h1] at e; cases e
    · obtain ⟨dx, xs, e, _⟩ := this; rw [h1] at e; cases e
    · obtain ⟨o, kvs, e⟩ := this; rw [h1] at e; cases e
  have kp : Keep K (upd (upd H dx (.own x)) x (.ins (M.cls c) dx [])) Z ι S.length (upd (upd H dx (.own x)) x (.ins (M.cls c) dx [])) Z ι2 (S.length + 1) := ⟨by omega, ag, fun _ z => z, fun _ _ h => h, fun _ _ _ h => h, fun _ _ _ h => h⟩
  refine ⟨ι2, at1, ?_, ?_⟩
  · rw [len]
    refine ⟨by omega, ag, fun _ z => z, fun _ z => .inl z, fun l q1 q2 => ?_, fun a o e _ => g a o e, fun a h e => ?_, fun a o u e => g a _ e⟩
    · have : l = S.length := by omega
      rw [this, at1]; exact h1
    · cases q : H a with
      | none => exact h q
      | some o => rw [g a o q] at e; cases e
  · refine ⟨fun l c' e => ?_, fun l l' q1 q2 e => ?_, fun l hl => ?_, r'.zs⟩
    · rw [len]
      by_cases hl' : l < S.length
      · rw [List.getElem?_append_left hl'] at e
        rw [ag l hl']
        exact (r'.cell l c' e).keep kp fun _ h => h
      · have e' : l = S.length := by
          have := (List.getElem?_eq_some_iff.mp e).1
          rw [len] at this; omega
        subst e'
        simp at e
        subst e
        rw [at1]
        exact ⟨dx, [], upd_same, rfl, .nil⟩
    · rw [len] at q1 q2
      by_cases a1 : l = S.length
      · by_cases a2 : l' = S.length
        · omega
        · subst a1
          rw [at1, ag l' (by omega)] at e
          exact absurd e.symm (nox l' (by omega))
      · by_cases a2 : l' = S.length
        · subst a2
          rw [at1, ag l (by omega)] at e
          exact absurd e (nox l (by omega))
        · rw [ag l (by omega), ag l' (by omega)] at e
          exact r.inj l l' (by omega) (by omega) e
    · rw [len] at hl
      by_cases a1 : l = S.length
      · subst a1; rw [at1]; exact fun z => r.zs x z h1
      · rw [ag l (by omega)]; exact r.nz l (by omega)
theorem s_mk {c f : Nat} {es : Es} {p : Expr} (xc : XC cx sc M cf X) (ihs : ∀ ps, mtEs cx sc es ps = true → SndS cx M cf es X ps) (h : mtE cx sc (.mk c f es) p = true) : Snd cx M cf (.mk c f es) X p := by
  cases p <;> try (simp [mtE] at h; done)
  rename_i fn pes kws pos
  cases fn <;> cases kws <;> try (simp [mtE] at h; done)
  rename_i x xp
  simp only [mtE, Bool.and_eq_true, decide_eq_true_eq] at h
  obtain ⟨⟨⟨⟨hn, hm⟩, hg⟩, hk⟩, hs⟩ := h
  obtain ⟨q1, q2, q3⟩ := okNm_ok hk
  obtain ⟨k, fa, fd, ps, F, rm, mk, mg, hb⟩ := xc.mkr f c x hm hn
  have hh := ihs _ hs
  have i : ∀ σ H Q, tE X.K M cf (.mk c f es) σ H Q → tMake (M.cls c) (SpD X.K M cf f) [] E0 (tF X.K M cf es) σ H Q := fun σ H Q ⟨Z, ι, S, H0, ρ, d, st, S', hR, sR, e, k⟩ => by
    simp only [ev] at e
    split at e <;> try (cases e; done)
    rename_i ds S1 e1
    split at e <;> cases e
    rename_i s2 e2
    refine ⟨Z, ι, S, H0, ρ, ds, S1, hR, sR, e1, fun vs H1 Z1 ι1 x1 r1 w1 => ?_⟩
    intro xa dxa h1 h2 hne
    show SpD X.K M cf f (.ref xa :: (vs ++ [])) _ _ E0
    rw [List.append_nil]
    obtain ⟨ι2, at2, x2, r2⟩ := new_ins (c := c) r1 h1 h2 hne
    have hlt : S1.length < (S1 ++ [Cell.ins c []]).length := by simp
    have ra : Rep X.K (upd (upd H1 dxa (.own xa)) xa (.ins (M.cls c) dxa [])) Z1 ι2 (S1 ++ [Cell.ins c []]).length (.ref xa) (.ref S1.length) := by
      rw [← at2]
      exact .ref hlt
    refine ⟨Z1, ι2, S1 ++ [.ins c []], .ref S1.length :: ds, .non, s2, S', r2, .cons ra (w1.keep (r1.keep x2)), e2, fun v H3 Z3 ι3 x3 r3 w3 => ?_⟩
    refine ⟨(w3.rd).non, ?_⟩
    have e3 : ι3 S1.length = xa := by rw [x3.ag _ hlt, at2]
    rw [← e3]
    exact k _ H3 Z3 ι3 ((x1.trans x2).trans x3) r3 (.ref (Nat.lt_of_lt_of_le hlt x3.le))
  cases pes with
  | nil =>
    refine snd_of (PE.imp (peG_make0 mk F xc.gd rm (gl_ok xc hg) mg hb pass0 q1) fun σ H Q hq => ?_) (fun _ => rfl) (fun _ _ _ q => nomatch q)
    cases es with
    | cons _ _ => simp [mtEs] at hs
    | nil =>
      obtain ⟨Z, ι, S, H0, ρ, ds, S1, hR, sR, e2, kk⟩ := i σ H Q hq
      simp only [evF] at e2
      cases e2
      exact kk [] H Z ι Ext.refl hR .nil
  | cons q pes =>
    have hpl := hh.pl
    rw [List.all_cons, Bool.and_eq_true] at hpl
    exact snd_of (PE.imp (peG_make mk F xc.gd rm (gl_ok xc hg) mg hb pass0 hh.f q1 (star_plain hpl.1) (any_plain hpl.2)) i) (fun _ => rfl) (fun _ _ _ q => nomatch q)
/-- max(x, default = y), min(x, default = y) of a list of ints -/
def rBid (mx : Bool) : List V → List V → Hp → VK → Prop := fun xs zs H Q => ∃ (a : Addr) (ns : List Int) (z : V), xs = [.ref a] ∧ H a = some (.lst (ns.map V.int)) ∧ zs = [z] ∧ (ns = [] → Q z H) ∧ ∀ m r, ns = m :: r → Q (.int (minD mx m r)) H
theorem call_bid (mx : Bool) (hc : X.calm = true) : CallRK X (.builtin (if mx then "max" else "min")) ["default"] (rBid mx) := by
  intro pins s σ H xs zs us ws Q I r1 r2 ⟨a, ns, z, e1, h1, e2, k0, k1⟩
  subst e1 e2
  rw [Vals.ref1 r1]
  obtain ⟨u, rfl, ru⟩ := vals1 r2
  obtain ⟨its, rv, hl, _⟩ := I.list (SqL.of h1)
  cases mx with
  | true =>
    refine max_rawD (I.ok.hd hc) hl.isList (vals_intsAre rv) (fun h0 h' tk hk => ⟨z, H, I.kept hk, ru, k0 h0⟩) fun h' tk y t' hk hy hz => ?_
    refine ⟨.int y, H, I.kept hk, ⟨t', rfl⟩, ?_⟩
    cases ns with
    | nil => simp at hy
    | cons m r =>
      obtain ⟨q1, q2⟩ := maxI_spec r m
      have : y = maxI m r := Int.le_antisymm (q2 y hy) (hz _ q1)
      subst this
      exact k1 m r rfl
  | false =>
    refine min_rawD (I.ok.hd hc) hl.isList (vals_intsAre rv) (fun h0 h' tk hk => ⟨z, H, I.kept hk, ru, k0 h0⟩) fun h' tk y t' hk hy hz => ?_
    refine ⟨.int y, H, I.kept hk, ⟨t', rfl⟩, ?_⟩
    cases ns with
    | nil => simp at hy
    | cons m r =>
      obtain ⟨q1, q2⟩ := minI_spec r m
      have : y = minI m r := Int.le_antisymm (hz _ q1) (q2 y hy)
      subst this
      exact k1 m r rfl
theorem s_bid {mx : Bool} {a b : E} {p : Expr} (xc : XC cx sc M cf X) (iha : ∀ p, mtE cx sc a p = true → Snd cx M cf a X p) (ihb : ∀ p, mtE cx sc b p = true → Snd cx M cf b X p) (h : mtE cx sc (.bid mx a b) p = true) : Snd cx M cf (.bid mx a b) X p := by
  cases p <;> try (simp [mtE] at h; done)
  rename_i fn pes kws pos
  cases fn <;> rcases pes with _ | ⟨q, _ | ⟨_, _⟩⟩ <;> rcases kws with _ | ⟨⟨_ | kn, ke, kp⟩, _ | ⟨_, _⟩⟩ <;> try (simp [mtE] at h; done)
  rename_i x xp
  simp only [mtE, Bool.and_eq_true, decide_eq_true_eq] at h
  obtain ⟨⟨⟨⟨⟨hb, hx⟩, rfl⟩, ha⟩, hp⟩, hbb⟩ := h
  obtain ⟨g1, g2, g3, g4⟩ := blt_ok xc hb
  have hv : bootBuiltins x = some (.builtin (if mx then "max" else "min")) := by
    subst hx
    cases mx <;> decide +kernel
  refine snd_of (PE.imp (pe_callBK (ks := ["default"]) (call_bid mx xc.calm) g1 g2 hv (pa_cons (iha q ha).pe pa_nil (star_plain hp)) (pk_cons (nm := some "default") (kpos := kp) (ihb ke hbb).pe pk_nil) g4 g3 (by rw [star_plain hp]; rfl) (by rw [star_plain hp]; rfl)) fun σ H Q ⟨Z, ι, S, H0, ρ, d, st, S', hR, sR, e, k⟩ => ?_) (fun _ => rfl) (fun _ _ _ q => nomatch q)
  simp only [ev] at e
  replace e := andT_inv e
  obtain ⟨v, s, S1, e1, e⟩ := e
  replace e := andT_inv e
  obtain ⟨v2, s2, S2, e2, e⟩ := e
  split at e <;> try (cases e; done)
  rename_i ds hrd
  refine ⟨Z, ι, S, H0, ρ, _, s, _, hR, sR, e1, fun w1 H1 Z1 ι1 x1 r1 q1 => ?_⟩
  refine ⟨Z1, ι1, S1, H0, ρ, _, s2, _, r1, sR.ext hR x1, e2, fun w2 H2 Z2 ι2 x2 r2 q2 => ?_⟩
  have rl : RdV X.K H2 Z2 ι2 S2.length w1 (.lst ds) := by
    rw [← hrd]
    exact rd_rd r2 (q1.ext r1 x2).rd
  obtain ⟨a0, xs, rfl, hh, rr⟩ := rl.lst
  split at e
  · rename_i hn
    split at e
    · rename_i hs
      cases e
      refine ⟨a0, [], w2, rfl, by rw [hh, rr.ints hn], rfl, fun _ => k w2 H2 Z2 ι2 (x1.trans x2) r2 (rep_scal q2.rd hs), fun m r q => nomatch q⟩
    · cases e
  · rename_i m r hn
    cases e
    refine ⟨a0, m :: r, w2, rfl, by rw [hh, rr.ints hn], rfl, (fun q => nomatch q), fun m' r' q => ?_⟩
    cases q
    exact k _ H2 Z2 ι2 (x1.trans x2) r2 (Rep.int _)
  · cases e
theorem txt_size (a : List Nat) : (txt a).cps.size = a.length := by
  have := congrArg List.length (txt_list a)
  simpa using this
theorem kvZ_rep {K : PySem.W.Frag} {H : Hp} {Z : Addr → Prop} {ι : Nat → Addr} {n : Nat} (a b : List Nat) : Paired (fun (kv : Key × V) (p : D × D) => keyD p.1 = some kv.1 ∧ Rep K H Z ι n kv.2 p.2) (kvZ (txt a) (txt b)) (zipP a b) := by
  unfold kvZ zipP
  rw [txt_list, txt_list]
  induction a.zip b with
  | nil => exact .nil
  | cons p ps ih => exact .cons ⟨rfl, .str _⟩ ih
theorem s_un {f : Un} {a : E} {p : Expr} (xc : XC cx sc M cf X) (iha : ∀ p, mtE cx sc a p = true → Snd cx M cf a X p) (ihT : ∀ es, a = .tup es → ∀ ps, mtEs cx sc es ps = true → SndS cx M cf es X ps) (h : mtE cx sc (.un f a) p = true) : Snd cx M cf (.un f a) X p := by
  have inv : ∀ {ρ : SEnv} {S S' : Store} {d : D} {st : Stt}, ev cf (.un f a) ρ S = some (d, st, S') → ∃ x sx, ev cf a ρ S = some (x, sx, S') ∧ unD f (rd S' x) = some d ∧ stD d = st := by
    intro ρ S S' d st q
    simp only [ev] at q
    obtain ⟨x, sx, S1, e1, q⟩ := andT_inv q
    obtain ⟨q1, q2, rfl⟩ := opt_inv q
    exact ⟨x, sx, e1, q1, q2⟩
  cases f with
  | dzip =>
    unfold mtE at h
    split at h <;> try (cases h; done)
    all_goals (try contradiction)
    all_goals (try (rename_i q; cases q; done))
    rename_i q; cases q
    simp only [Bool.and_eq_true, decide_eq_true_eq] at h
    obtain ⟨⟨rfl, hb1⟩, ⟨rfl, hb2⟩, h1, hp, hp2⟩ := h
    obtain ⟨g1, g2, _, _⟩ := blt_ok xc hb1
    obtain ⟨j1, j2, _, _⟩ := blt_ok xc hb2
    refine snd_of (PE.imp (pe_dzip xc.calm g1 g2 j1 j2 (ihT _ rfl _ h1).f (star_plain hp) (by rw [star1 hp2]; rfl)) fun σ H Q ⟨Z, ι, S, H0, ρ, d, st, S', hR, sR, q, k⟩ => ?_) (fun _ => rfl) (fun _ _ _ q => nomatch q)
    obtain ⟨x, sx, e1, e2, rfl⟩ := inv q
    simp only [ev] at e1
    split at e1
    · rename_i ds S1 hF
      split at e1
      · cases e1
        refine ⟨Z, ι, S, H0, ρ, ds, S', hR, sR, hF, fun vs H1 Z1 ι1 x1 r1 q1 => ?_⟩
        have e3 : unD .dzip (.tup ds) = some d := e2
        have e4 : ∃ a b, ds = [.str a, .str b] ∧ a.length ≤ 1000 ∧ d = .dict (dzipD a b).1 (dzipD a b).2 := by
          clear e2 k hF q inv
          rcases ds with _ | ⟨x1, _ | ⟨x2, _ | ⟨x3, ds⟩⟩⟩
          · simp [unD] at e3
          · cases x1 <;> simp [unD] at e3
          · cases x1 <;> cases x2 <;> simp [unD] at e3
            exact ⟨_, _, rfl, e3.1, e3.2.symm⟩
          · cases x1 <;> cases x2 <;> simp [unD] at e3
        obtain ⟨a, b, rfl, hal, rfl⟩ := e4
        cases q1 with
        | cons ra q1 =>
          cases q1 with
          | cons rb q1 =>
            cases q1
            cases ra
            cases rb
            obtain ⟨m1, m2⟩ := merge_rep (kvs := kvZ (txt a) (txt b)) (ps := zipP a b) (acc := []) (ks := []) (ds := []) (kvZ_rep a b) .nil .nil
            refine ⟨txt a, txt b, rfl, Nat.le_trans (Nat.min_le_left ..) (by rw [txt_size]; exact hal), fun q hq => ?_⟩
            exact fin x1 r1 k (Grow.new hq) ⟨q, rfl, hq, _, upd_same, m1.keep (Grow.keep (Grow.new hq)), m2.keep (Grow.keep (Grow.new hq))⟩
      · cases e1
    · cases e1
  | vals =>
    unfold mtE at h
    split at h <;> try (cases h; done)
    all_goals (try contradiction)
    all_goals (try (rename_i q; cases q; done))
    rename_i q; cases q
    simp only [Bool.and_eq_true, decide_eq_true_eq] at h
    obtain ⟨⟨rfl, hb1⟩, ⟨⟨rfl, h1⟩, hb⟩, hline⟩ := h
    obtain ⟨g1, g2, _, _⟩ := blt_ok xc hb1
    refine snd_of (PE.imp (pe_lvals xc.calm g1 g2 (iha _ h1).pe (base_plain hb) hline) fun σ H Q ⟨Z, ι, S, H0, ρ, d, st, S', hR, sR, q, k⟩ => ?_) (fun _ => rfl) (fun _ _ _ q => nomatch q)
    obtain ⟨x, sx, e1, e2, rfl⟩ := inv q
    refine ⟨Z, ι, S, H0, ρ, x, sx, S', hR, sR, e1, fun v1 H1 Z1 ι1 x1 r1 w1 => ?_⟩
    unfold unD at e2
    split at e2 <;> try (cases e2; done)
    all_goals (try contradiction)
    rename_i ks vs _ hx
    split at e2 <;> cases e2
    have hv := (rd_rd r1 w1.rd)
    rw [hx] at hv
    obtain ⟨p, kvs, rfl, hd, _, rr⟩ := hv.dict
    exact ⟨p, kvs, rfl, hd, fun q hq => fin x1 r1 k (Grow.new hq) ⟨q, rfl, hq, _, upd_same, rr.keep (Grow.keep (Grow.new hq))⟩⟩
  | sset =>
    unfold mtE at h
    split at h <;> try (cases h; done)
    all_goals (try contradiction)
    all_goals (try (rename_i q; cases q; done))
    rename_i q; cases q
    simp only [Bool.and_eq_true, decide_eq_true_eq] at h
    obtain ⟨⟨rfl, hb1⟩, ⟨rfl, hb2⟩, h1, hpl⟩ := h
    obtain ⟨g1, g2, _, _⟩ := blt_ok xc hb1
    obtain ⟨j1, j2, _, _⟩ := blt_ok xc hb2
    refine snd_of (PE.imp (pe_sset xc.calm xc.units g1 g2 j1 j2 (iha _ h1).pe (star_plain hpl)) fun σ H Q ⟨Z, ι, S, H0, ρ, d, st, S', hR, sR, q, k⟩ => ?_) (fun _ => rfl) (fun _ _ _ q => nomatch q)
    obtain ⟨x, sx, e1, e2, rfl⟩ := inv q
    refine ⟨Z, ι, S, H0, ρ, x, sx, S', hR, sR, e1, fun v1 H1 Z1 ι1 x1 r1 w1 => ?_⟩
    have key : ∀ (ds : List D) (p : Addr) (xs : List V), v1 = .ref p → SqA X.K H1 p xs → Reps X.K H1 Z1 ι1 S'.length xs ds → ssetD ds = some d → ∃ p, v1 = .ref p ∧
        ((∃ zs : List (List Nat), SqA X.K H1 p ((zs.map txt).map V.str) ∧ zs.length ≤ 1000 ∧ ∀ q, H1 q = none → Q (.ref q) (upd H1 q (.lst (((sortS (met zs)).map txt).map V.str)))) ∨
          ∃ ns : List Int, SqA X.K H1 p (ns.map V.int) ∧ ns.length ≤ 1000 ∧ ∀ q, H1 q = none → Q (.ref q) (upd H1 q (.lst ((sortI (met ns)).map V.int)))) := by
      intro ds p xs hv hsq rr hd
      unfold ssetD at hd
      split at hd
      · cases hd
      · rename_i hle
        have hlen := rr.length
        split at hd
        · rename_i ss hn
          cases hd
          rw [rr.strs hn] at hsq hlen
          refine ⟨p, hv, .inl ⟨ss, hsq, by simp at hlen; omega, fun q hq => ?_⟩⟩
          exact fin x1 r1 k (Grow.new hq) ⟨q, rfl, hq, _, upd_same, reps_strs _⟩
        · split at hd
          · rename_i ns hn
            cases hd
            rw [rr.ints hn] at hsq hlen
            refine ⟨p, hv, .inr ⟨ns, hsq, by simp at hlen; omega, fun q hq => ?_⟩⟩
            exact fin x1 r1 k (Grow.new hq) ⟨q, rfl, hq, _, upd_same, reps_ints _⟩
          · cases hd
    have hv := (rd_rd r1 w1.rd)
    unfold unD at e2
    split at e2 <;> try (cases e2; done)
    all_goals (try contradiction)
    · rename_i ds _ hx
      rw [hx] at hv
      obtain ⟨p, xs, e, hh, rr⟩ := hv.lst
      exact key ds p xs e (.inl (SqL.of hh)) rr e2
    · rename_i ds _ hx
      rw [hx] at hv
      obtain ⟨p, xs, e, hh, rr⟩ := hv.tup
      exact key ds p xs e (.inr hh) rr e2
  | lens =>
    unfold mtE at h
    split at h <;> try (cases h; done)
    all_goals (try contradiction)
    all_goals (try (rename_i q; cases q; done))
    rename_i q; cases q
    simp only [Bool.and_eq_true, decide_eq_true_eq] at h
    obtain ⟨⟨rfl, hb1⟩, ⟨rfl, hb2⟩, h1, hpl⟩ := h
    obtain ⟨g1, g2, _, _⟩ := blt_ok xc hb1
    obtain ⟨j1, j2, _, _⟩ := blt_ok xc hb2
    refine snd_of (PE.imp (pe_lens xc.calm g1 g2 j1 j2 (iha _ h1).pe (star_plain hpl)) fun σ H Q ⟨Z, ι, S, H0, ρ, d, st, S', hR, sR, q, k⟩ => ?_) (fun _ => rfl) (fun _ _ _ q => nomatch q)
    obtain ⟨x, sx, e1, e2, rfl⟩ := inv q
    refine ⟨Z, ι, S, H0, ρ, x, sx, S', hR, sR, e1, fun v1 H1 Z1 ι1 x1 r1 w1 => ?_⟩
    unfold unD at e2
    split at e2 <;> try (cases e2; done)
    all_goals (try contradiction)
    rename_i z _ hx
    split at e2 <;> cases e2
    rename_i hz
    have hv := (rd_rd r1 w1.rd)
    rw [hx] at hv
    refine ⟨txt z, hv.str, ?_, ?_⟩
    · have : (txt z).cps.size = z.length := by simp [txt]
      rw [this]
      have hsb : 2000 ≤ scanBound := by decide
      omega
    · rw [met_signs]
      exact fin x1 r1 k Grow.refl (Rep.int _)
  | upper =>
    unfold mtE at h
    split at h <;> try (cases h; done)
    all_goals (try contradiction)
    all_goals (try (rename_i q; cases q; done))
    rename_i q; cases q
    simp only [Bool.and_eq_true, decide_eq_true_eq] at h
    obtain ⟨⟨⟨rfl, h1⟩, hb⟩, hline⟩ := h
    refine snd_of (PE.imp (pe_upper (iha _ h1).pe (base_plain hb) hline) fun σ H Q ⟨Z, ι, S, H0, ρ, d, st, S', hR, sR, q, k⟩ => ?_) (fun _ => rfl) (fun _ _ _ q => nomatch q)
    obtain ⟨x, sx, e1, e2, rfl⟩ := inv q
    refine ⟨Z, ι, S, H0, ρ, x, sx, S', hR, sR, e1, fun v1 H1 Z1 ι1 x1 r1 w1 => ?_⟩
    unfold unD at e2
    split at e2 <;> try (cases e2; done)
    all_goals (try contradiction)
    rename_i z _ hx
    split at e2 <;> cases e2
    rename_i hz
    have hv := (rd_rd r1 w1.rd)
    rw [hx] at hv
    refine ⟨⟨txt z, hv.str⟩, txt z, hv.str, rfl, ?_, ?_⟩
    · have : (txt z).length = z.length := by simp [txt, Str.length]
      rw [this]; omega
    · rw [← txt_of (Txt.upper (txt z))]
      exact fin x1 r1 k Grow.refl (Rep.str _)
end
end PyI
namespace PyI
open PySem L2

section
variable {cx : MC} {M : Nm} {cf : CF}
mutual
theorem sE : ∀ (e : E) {sc : Scope} {X : Cx}, XC cx sc M cf X → ∀ p, mtE cx sc e p = true → Snd cx M cf e X p
  | .var i, _, _, c, p, h => s_var c h
  | .own i, _, _, c, p, h => s_own c h
  | .non, _, _, c, p, h => s_non h
  | .bl b, _, _, c, p, h => s_bl h
  | .int i, _, _, c, p, h => s_int h
  | .str s, _, _, c, p, h => s_str h
  | .tup es, _, _, c, p, h => s_tup (sEs es c) h
  | .lst es, _, _, c, p, h => s_lst (sEs es c) h
  | .bin o a b, _, _, c, p, h => s_bin c (sE a c) (sE b c) h
  | .neg a, _, _, c, p, h => s_neg (sE a c) h
  | .and a b, _, _, c, p, h => s_and (sE a c) (sE b c) h
  | .or a b, _, _, c, p, h => s_or (sE a c) (sE b c) h
  | .not a, _, _, c, p, h => s_not (sE a c) h
  | .ite k a b, _, _, c, p, h => s_ite (sE k c) (sE a c) (sE b c) h
  | .chain o1 o2 a b k, _, _, c, p, h => s_chain c (sE a c) (sE b c) (sE k c) h
  | .chain3 o1 o2 o3 a b k d, _, _, c, p, h => s_chain3 c (sE a c) (sE b c) (sE k c) (sE d c) h
  | .ix a i, _, _, c, p, h => s_ix c (sE a c) (sE i c) h
  | .sl a lo hi, _, _, c, p, h => s_sl c (sE a c) (sO lo c) (sO hi c) h
  | .rev a, _, _, c, p, h => s_rev c (sE a c) h
  | .bi f es, _, _, c, p, h => s_bi c (sEs es c) h
  | .me m o es, _, _, c, p, h => s_me c (sE o c) (sEs es c) h
  | .call f es, _, _, c, p, h => s_call c (sEs es c) h
  | .pcall f es, _, _, c, p, h => s_pcall c (sEs es c) h
  | .comp elt tg it cond vs, _, _, c, p, h => s_comp c (comp_parts c (sI it c) (fun sc' X' c' e p he hm => sHd cond c' e _ he p hm) (fun sc' X' c' => sE elt c') h)
  | .newr e, _, _, c, p, h => s_newr (sE e c) h
  | .toL (.range1 a), _, _, c, p, h => by
    obtain ⟨x, xp, y, yp, ps, pos', pos, rfl, h1, h2, h3⟩ := mt_toL h
    rcases ps with _ | ⟨q, _ | ⟨q2, ps⟩⟩ <;> try (simp [mtRg] at h3; done)
    simp only [mtRg, Bool.and_eq_true] at h3
    exact s_toL1 c (sE a c) h1 h2 h3.1 h3.2
  | .toL (.range2 a b), _, _, c, p, h => by
    obtain ⟨x, xp, y, yp, ps, pos', pos, rfl, h1, h2, h3⟩ := mt_toL h
    rcases ps with _ | ⟨q, _ | ⟨q2, _ | ⟨q3, ps⟩⟩⟩ <;> try (simp [mtRg] at h3; done)
    simp only [mtRg, Bool.and_eq_true] at h3
    exact s_toL2 c (sE a c) (sE b c) h1 h2 h3.1.1.1 h3.1.2 h3.1.1.2 h3.2
  | .lk e, _, _, c, p, h => s_lk (sE e c) h
  | .frr e, _, _, c, p, h => s_frr (sE e c) h
  | .fld k e x, _, _, c, p, h => s_fld c (sE e c) h
  | .mk k f es, _, _, c, p, h => s_mk c (sEs es c) h
  | .mcall k f o es, _, _, c, p, h => s_mcall c (sE o c) (sEs es c) h
  | .bid mx a b, _, _, c, p, h => s_bid c (sE a c) (sE b c) h
  | .toL (.items a), _, _, c, p, h => by
    obtain ⟨x, xp, y, yp, ps, pos', pos, rfl, h1, h2, h3⟩ := mt_toL h
    simp [mtRg] at h3
  | .toL (.vals a), _, _, c, p, h => by
    obtain ⟨x, xp, y, yp, ps, pos', pos, rfl, h1, h2, h3⟩ := mt_toL h
    simp [mtRg] at h3
  | .toL (.keys a), _, _, c, p, h => by
    obtain ⟨x, xp, y, yp, ps, pos', pos, rfl, h1, h2, h3⟩ := mt_toL h
    simp [mtRg] at h3
  | .toL (.over a), _, _, c, p, h => by
    obtain ⟨x, xp, y, yp, ps, pos', pos, rfl, h1, h2, h3⟩ := mt_toL h
    simp [mtRg] at h3
  | .toL (.enum a), _, _, c, p, h => by
    obtain ⟨x, xp, y, yp, ps, pos', pos, rfl, h1, h2, h3⟩ := mt_toL h
    simp [mtRg] at h3
  | .toL (.zip a b), _, _, c, p, h => by
    obtain ⟨x, xp, y, yp, ps, pos', pos, rfl, h1, h2, h3⟩ := mt_toL h
    simp [mtRg] at h3
  | .dnew, _, _, c, p, h => s_dnew h
  | .un f a, _, _, c, p, h => s_un c (sE a c) (sTp a c) h
  | .gint i, _, _, c, p, h => s_gint c h
  | .gstr i, _, _, c, p, h => s_gstr c h
theorem sTp : ∀ (a : E) {sc : Scope} {X : Cx}, XC cx sc M cf X → ∀ es, a = .tup es → ∀ ps, mtEs cx sc es ps = true → SndS cx M cf es X ps
  | .tup es0, _, _, c, es, q, ps, h => by
    cases q
    exact sEs es0 c ps h
  | .var _, _, _, _, _, q, _, _ => nomatch q
  | .own _, _, _, _, _, q, _, _ => nomatch q
  | .non, _, _, _, _, q, _, _ => nomatch q
  | .bl _, _, _, _, _, q, _, _ => nomatch q
  | .int _, _, _, _, _, q, _, _ => nomatch q
  | .str _, _, _, _, _, q, _, _ => nomatch q
  | .lst _, _, _, _, _, q, _, _ => nomatch q
  | .bin _ _ _, _, _, _, _, q, _, _ => nomatch q
  | .neg _, _, _, _, _, q, _, _ => nomatch q
  | .and _ _, _, _, _, _, q, _, _ => nomatch q
  | .or _ _, _, _, _, _, q, _, _ => nomatch q
  | .not _, _, _, _, _, q, _, _ => nomatch q
  | .ite _ _ _, _, _, _, _, q, _, _ => nomatch q
  | .chain _ _ _ _ _, _, _, _, _, q, _, _ => nomatch q
  | .ix _ _, _, _, _, _, q, _, _ => nomatch q
  | .sl _ _ _, _, _, _, _, q, _, _ => nomatch q
  | .rev _, _, _, _, _, q, _, _ => nomatch q
  | .bi _ _, _, _, _, _, q, _, _ => nomatch q
  | .me _ _ _, _, _, _, _, q, _, _ => nomatch q
  | .call _ _, _, _, _, _, q, _, _ => nomatch q
  | .comp _ _ _ _ _, _, _, _, _, q, _, _ => nomatch q
  | .newr _, _, _, _, _, q, _, _ => nomatch q
  | .pcall _ _, _, _, _, _, q, _, _ => nomatch q
  | .chain3 _ _ _ _ _ _ _, _, _, _, _, q, _, _ => nomatch q
  | .toL _, _, _, _, _, q, _, _ => nomatch q
  | .dnew, _, _, _, _, q, _, _ => nomatch q
  | .gint _, _, _, _, _, q, _, _ => nomatch q
  | .gstr _, _, _, _, _, q, _, _ => nomatch q
  | .lk _, _, _, _, _, q, _, _ => nomatch q
  | .frr _, _, _, _, _, q, _, _ => nomatch q
  | .fld _ _ _, _, _, _, _, q, _, _ => nomatch q
  | .mk _ _ _, _, _, _, _, q, _, _ => nomatch q
  | .mcall _ _ _ _, _, _, _, _, q, _, _ => nomatch q
  | .bid _ _ _, _, _, _, _, q, _, _ => nomatch q
  | .un _ _, _, _, _, _, q, _, _ => nomatch q
theorem sEs : ∀ (es : Es) {sc : Scope} {X : Cx}, XC cx sc M cf X → ∀ ps, mtEs cx sc es ps = true → SndS cx M cf es X ps
  | .nil, _, _, c, ps, h => ss_nil h
  | .cons e es, _, _, c, ps, h => ss_cons (sE e c) (sEs es c) h
theorem sHd : ∀ (es : Es) {sc : Scope} {X : Cx}, XC cx sc M cf X → ∀ e es', es = .cons e es' → ∀ p, mtE cx sc e p = true → Snd cx M cf e X p
  | .nil, _, _, c, e, es', q, _, _ => nomatch q
  | .cons e0 es0, _, _, c, e, es', q, p, h => by
    cases q
    exact sE e0 c p h
theorem sO : ∀ (es : Es) {sc : Scope} {X : Cx}, XC cx sc M cf X → ∀ p, mtO cx sc es p = true → PO X p (tO X.K M cf es)
  | .nil, _, _, c, p, h => so_nil h
  | .cons e es, _, _, c, p, h => so_cons (sE e c) h
theorem sI : ∀ (it : I) {sc : Scope} {X : Cx}, XC cx sc M cf X → ∀ tg p, mtI cx sc it (isTup tg) p = true → PI X tg p (tI X.K M cf it)
  | .over e, _, _, c, tg, p, h => i_over c (sE e c) h
  | .range1 a, _, _, c, tg, p, h => i_range1 c (sE a c) h
  | .range2 a b, _, _, c, tg, p, h => i_range2 c (sE a c) (sE b c) h
  | .enum a, _, _, c, tg, p, h => by
    cases tg <;> try (cases p <;> simp [mtI, isTup] at h; done)
    exact i_enum c (sE a c) h
  | .zip a b, _, _, c, tg, p, h => by
    cases tg <;> try (cases p <;> simp [mtI, isTup] at h; done)
    exact i_zip c (sE a c) (sE b c) h
  | .items a, _, _, c, tg, p, h => by
    cases tg <;> try (cases p <;> simp [mtI, isTup] at h; done)
    exact i_items c (sE a c) h
  | .vals a, _, _, c, tg, p, h => i_vals c (sE a c) h
  | .keys a, _, _, c, tg, p, h => i_keys c (sE a c) h
end
theorem s_parts {elt : E} {tg : Tg} {it : I} {cond : Es} {vs : List Nat} {sc : Scope} {X : Cx} {p : Expr} (c : XC cx sc M cf X) (h : mtE cx sc (.comp elt tg it cond vs) p = true) : CompP cx sc M cf elt tg it cond vs X p :=
  comp_parts c (sI it c) (fun sc' X' c' e p he hm => sHd cond c' e _ he p hm) (fun sc' X' c' => sE elt c') h
end
end PyI
namespace PyI
open PySem L2

section
variable {K : PySem.W.Frag} {M : Nm} {H H' H2 H0 : Hp} {Z Z' Z2 Z0 : Addr → Prop} {ι ι' ι2 ι0 : Nat → Addr} {n n' n2 n0 : Nat} {S S' : Store} {ρ ρ' : SEnv} {σ σ' : St}
theorem Keep.refl : Keep K H Z ι n H Z ι n := ⟨Nat.le_refl _, fun _ _ => rfl, fun _ z => z, fun _ _ h => h, fun _ _ _ h => h, fun _ _ _ h => h⟩
theorem Keep.trans (a : Keep K H Z ι n H' Z' ι' n') (b : Keep K H' Z' ι' n' H2 Z2 ι2 n2) : Keep K H Z ι n H2 Z2 ι2 n2 :=
  ⟨Nat.le_trans a.le b.le, fun l h => (b.ag l (Nat.lt_of_lt_of_le h a.le)).trans (a.ag l h), fun x z => b.zz x (a.zz x z), fun x xs h => b.tp x xs (a.tp x xs h), fun x o z h => b.zk x o (a.zz x z) (a.zk x o z h), fun x o u h => b.fz x o u (a.fz x o u h)⟩
/-- slots that stay -/
def Same (tc : List Nat) (ρ : SEnv) (σ : St) (ρ' : SEnv) (σ' : St) : Prop := ∀ i, i ∉ tc → ρ'[i]? = ρ[i]? ∧ σ'[i]? = σ[i]?
theorem Same.refl {tc : List Nat} : Same tc ρ σ ρ σ := fun _ _ => ⟨rfl, rfl⟩
theorem Same.trans {tc : List Nat} {ρ2 : SEnv} {σ2 : St} (a : Same tc ρ σ ρ' σ') (b : Same tc ρ' σ' ρ2 σ2) : Same tc ρ σ ρ2 σ2 := fun i h => ⟨(b i h).1.trans (a i h).1, (b i h).2.trans (a i h).2⟩
theorem Same.mono {tc tc' : List Nat} (a : Same tc ρ σ ρ' σ') (h : ∀ i, i ∈ tc → i ∈ tc') : Same tc' ρ σ ρ' σ' := fun i hi => a i fun q => hi (h i q)
theorem Same.set {tc : List Nat} {i : Nat} {x : Slot} {y : Option V} (h : i ∈ tc) : Same tc ρ σ (ρ.set i x) (σ.set i y) := fun j hj => by
  have : i ≠ j := fun e => hj (e ▸ h)
  exact ⟨List.getElem?_set_ne this, List.getElem?_set_ne this⟩
theorem Same.setL {tc : List Nat} {i : Nat} {x : Slot} (h : i ∈ tc) : Same tc ρ σ (ρ.set i x) σ := fun j hj => by
  have : i ≠ j := fun e => hj (e ▸ h)
  exact ⟨List.getElem?_set_ne this, rfl⟩
/-- a state within a frame -/
structure Fs (K : PySem.W.Frag) (M : Nm) (H0 : Hp) (Z0 : Addr → Prop) (ι0 : Nat → Addr) (n0 : Nat) (H : Hp) (Z : Addr → Prop) (ι : Nat → Addr) (S : Store) (ρ : SEnv) (σ : St) : Prop where
  x : Ext H0 Z0 ι0 n0 H Z ι S.length
  h : HR K M H Z ι S
  s : SR K H Z ι S.length H0 ρ σ
/-- what is wanted behind a statement -/
def EndOk (K : PySem.W.Frag) (M : Nm) (H0 : Hp) (Z0 : Addr → Prop) (ι0 : Nat → Addr) (n0 : Nat) (tc : List Nat) (H : Hp) (Z : Addr → Prop) (ι : Nat → Addr) (n : Nat) (ρ : SEnv) (σ : St) (D : Ends) : Out → Prop
  | .nx ρ' S' => ∀ σ' H' Z' ι', Fs K M H0 Z0 ι0 n0 H' Z' ι' S' ρ' σ' → Keep K H Z ι n H' Z' ι' S'.length → Same tc ρ σ ρ' σ' → D.nx σ' H'
  | .bk ρ' S' => ∀ σ' H' Z' ι', Fs K M H0 Z0 ι0 n0 H' Z' ι' S' ρ' σ' → Keep K H Z ι n H' Z' ι' S'.length → Same tc ρ σ ρ' σ' → D.bk σ' H'
  | .ct ρ' S' => ∀ σ' H' Z' ι', Fs K M H0 Z0 ι0 n0 H' Z' ι' S' ρ' σ' → Keep K H Z ι n H' Z' ι' S'.length → Same tc ρ σ ρ' σ' → D.ct σ' H'
  | .ret d s S' => ∀ v H' Z' ι', Ext H0 Z0 ι0 n0 H' Z' ι' S'.length → HR K M H' Z' ι' S' → VR K H' Z' ι' S'.length H0 s v d → D.rt v H'
theorem EndOk.step {tc tc' : List Nat} {D : Ends} {o : Out} (e : EndOk K M H0 Z0 ι0 n0 tc H Z ι n ρ σ D o) (k : Keep K H Z ι n H' Z' ι' n') (s : Same tc ρ σ ρ' σ') (ht : ∀ i, i ∈ tc' → i ∈ tc) : EndOk K M H0 Z0 ι0 n0 tc' H' Z' ι' n' ρ' σ' D o := by
  cases o with
  | ret d s S => exact e
  | nx ρ2 S2 => exact fun σ2 H2 Z2 ι2 f k2 s2 => e σ2 H2 Z2 ι2 f (k.trans k2) (s.trans (s2.mono ht))
  | bk ρ2 S2 => exact fun σ2 H2 Z2 ι2 f k2 s2 => e σ2 H2 Z2 ι2 f (k.trans k2) (s.trans (s2.mono ht))
  | ct ρ2 S2 => exact fun σ2 H2 Z2 ι2 f k2 s2 => e σ2 H2 Z2 ι2 f (k.trans k2) (s.trans (s2.mono ht))
/-- an expression's step -/
theorem Fs.ext {S1 : Store} {H1 : Hp} {Z1 : Addr → Prop} {ι1 : Nat → Addr} (f : Fs K M H0 Z0 ι0 n0 H Z ι S ρ σ) (x : Ext H Z ι S.length H1 Z1 ι1 S1.length) (h : HR K M H1 Z1 ι1 S1) : Fs K M H0 Z0 ι0 n0 H1 Z1 ι1 S1 ρ σ ∧ Keep K H Z ι S.length H1 Z1 ι1 S1.length :=
  ⟨⟨f.x.trans x, h, f.s.ext f.h x⟩, f.h.keep x⟩
theorem st_e {cf : CF} {e : E} {Q : VK} {d : D} {s : Stt} {S1 : Store} (f : Fs K M H0 Z0 ι0 n0 H Z ι S ρ σ) (he : ev cf e ρ S = some (d, s, S1))
    (k : ∀ v H1 Z1 ι1, Ext H Z ι S.length H1 Z1 ι1 S1.length → Fs K M H0 Z0 ι0 n0 H1 Z1 ι1 S1 ρ σ → Keep K H Z ι S.length H1 Z1 ι1 S1.length → VR K H1 Z1 ι1 S1.length H s v d → Q v H1) : tE K M cf e σ H Q :=
  ⟨Z, ι, S, H0, ρ, d, s, S1, f.h, f.s, he, fun v H1 Z1 ι1 x r w => k v H1 Z1 ι1 x (f.ext x r).1 (f.ext x r).2 w⟩
/-- .. frozen -/
theorem st_f {cf : CF} {e : E} {Q : VK} {d : D} {s : Stt} {S1 : Store} (f : Fs K M H0 Z0 ι0 n0 H Z ι S ρ σ) (he : fz (ev cf e ρ S) = some (d, s, S1))
    (k : ∀ v H1 Z1 ι1, Ext H Z ι S.length H1 Z1 ι1 S1.length → Fs K M H0 Z0 ι0 n0 H1 Z1 ι1 S1 ρ σ → Keep K H Z ι S.length H1 Z1 ι1 S1.length → Rep K H1 Z1 ι1 S1.length v d → Q v H1) : tE K M cf e σ H Q := by
  obtain ⟨_, st, he', hs⟩ := fz_inv he
  refine st_e f he' fun v H1 Z1 ι1 x f1 k1 w => ?_
  obtain ⟨Z2, x2, r2, w2, k2⟩ := frz_step x f1.h hs w
  obtain ⟨f2, k2⟩ := f.ext x2 r2
  exact k v H1 Z2 ι1 x2 f2 k2 w2
theorem get_set {α : Type} {l : List α} {i j : Nat} {x y : α} (h : (l.set i x)[j]? = some y) : (j = i ∧ y = x ∧ i < l.length) ∨ (j ≠ i ∧ l[j]? = some y) := by
  by_cases e : j = i
  · subst e
    have hl : j < l.length := by
      have := (List.getElem?_eq_some_iff.mp h).1
      simpa using this
    rw [List.getElem?_set_self hl] at h
    cases h
    exact .inl ⟨rfl, rfl, hl⟩
  · rw [List.getElem?_set_ne (Ne.symm e)] at h
    exact .inr ⟨e, h⟩
/-- a slot takes a new list of nobody's -/
theorem SR.seto {i : Nat} {a : Addr} {d : D} (s : SR K H Z ι n H0 ρ σ) (h0 : H0 a = none) (nz : ¬ Z a) (nf : ∀ l, l < n → ι l ≠ a) (l : LR K H Z ι n a d) (nw : ∀ (j : Nat) (e : D), ρ[j]? = some (.own e) → σ[j]? ≠ some (some (.ref a))) :
    SR K H Z ι n H0 (ρ.set i (.own d)) (σ.set i (some (.ref a))) := by
  refine ⟨by simp [s.len], fun j x e => ?_, fun j x e => ?_, fun j k x y b hjk e1 e2 q1 q2 => ?_⟩
  · rcases get_set e with ⟨_, q, _⟩ | ⟨hj, q⟩
    · cases q
    · rw [List.getElem?_set_ne (Ne.symm hj)]; exact s.val j x q
  · rcases get_set e with ⟨rfl, q, hl⟩ | ⟨hj, q⟩
    · cases q
      exact ⟨a, List.getElem?_set_self (by rw [← s.len]; exact hl), h0, nz, nf, l⟩
    · rw [List.getElem?_set_ne (Ne.symm hj)]; exact s.own j x q
  · rcases get_set e1 with ⟨rfl, _, hl⟩ | ⟨hj, e3⟩ <;> rcases get_set e2 with ⟨rfl, _, hl'⟩ | ⟨hk, e4⟩
    · exact hjk rfl
    · rw [List.getElem?_set_self (by rw [← s.len]; exact hl)] at q1
      cases q1
      rw [List.getElem?_set_ne (Ne.symm hk)] at q2
      exact nw k y e4 q2
    · 
      rw [List.getElem?_set_self (by rw [← s.len]; exact hl')] at q2
      cases q2
      rw [List.getElem?_set_ne (Ne.symm hj)] at q1
      exact nw j x e3 q1
    · rw [List.getElem?_set_ne (Ne.symm hj)] at q1
      rw [List.getElem?_set_ne (Ne.symm hk)] at q2
      exact s.two j k x y b hjk e3 e4 q1 q2
theorem LR.notup {a : Addr} {d : D} (l : LR K H Z ι n a d) (xs : List V) (q : Rd H a (.tup xs)) : False := by
  cases d with
  | lst ds => obtain ⟨ys, e, _⟩ := l; rcases q with q | ⟨o, q⟩ <;> rw [e] at q <;> cases q
  | dict ks ds => obtain ⟨ys, e, _⟩ := l; rcases q with q | ⟨o, q⟩ <;> rw [e] at q <;> cases q
  | _ => exact l.elim
theorem LR.nofrz {a : Addr} {d : D} (l : LR K H Z ι n a d) (o : Obj) (u : HO) (q : H a = some (.frz o u)) : False := by
  cases d with
  | lst ds => obtain ⟨ys, e, _⟩ := l; rw [e] at q; cases q
  | dict ks ds => obtain ⟨ys, e, _⟩ := l; rw [e] at q; cases q
  | _ => exact l.elim
theorem keep_upd {a : Addr} {u : HO} (nz : ¬ Z a) (nt : ∀ xs, ¬ Rd H a (.tup xs)) (nf : ∀ o u, H a ≠ some (.frz o u)) : Keep K H Z ι n (upd H a u) Z ι n := by
  refine ⟨Nat.le_refl _, fun _ _ => rfl, fun _ z => z, fun b xs h => ?_, fun b o z h => ?_, fun b o w h => ?_⟩
  · refine Rd.move h fun o e => ?_
    rw [upd_ne]; exact e
    intro eb; subst eb; exact nt xs h
  · rw [upd_ne]; exact h
    intro eb; subst eb; exact nz z
  · rw [upd_ne]; exact h
    intro eb; subst eb; exact nf o w h
/-- an own list is written -/
theorem Fs.wr {x : Nat} {a : Addr} {d d' : D} {u : HO} (f : Fs K M H0 Z0 ι0 n0 H Z ι S ρ σ) (hx : ρ[x]? = some (.own d)) (ha : σ[x]? = some (some (.ref a)))
    (hn : Keep K H Z ι S.length (upd H a u) Z ι S.length → LR K (upd H a u) Z ι S.length a d') : Fs K M H0 Z0 ι0 n0 (upd H a u) Z ι S (ρ.set x (.own d')) σ ∧ Keep K H Z ι S.length (upd H a u) Z ι S.length := by
  obtain ⟨b, q, h0, nz, nf, l⟩ := f.s.own x d hx
  rw [ha] at q
  cases q
  have k : Keep K H Z ι S.length (upd H a u) Z ι S.length := keep_upd nz l.notup fun o u q => l.nofrz o u q
  refine ⟨⟨⟨f.x.le, f.x.ag, f.x.zz, f.x.zn, f.x.fn, fun b o e hn' => ?_, fun b e q => ?_, fun b o w e => ?_⟩, ⟨fun l' c q => ?_, f.h.inj, f.h.nz, fun b z q => ?_⟩, ⟨by simp [f.s.len], fun j y e => ?_, fun j y e => ?_, fun j k y1 y2 b hjk e1 e2 q1 q2 => ?_⟩⟩, k⟩
  · rw [upd_ne]; exact f.x.fr b o e hn'
    intro eb; subst eb; rw [h0] at e; cases e
  · by_cases eb : b = a
    · subst eb; rw [upd_same] at q; cases q
    · rw [upd_ne eb] at q; exact f.x.al b e q
  · rw [upd_ne]; exact f.x.fz b o w e
    intro eb; subst eb; rw [h0] at e; cases e
  · refine (f.h.cell l' c q).keep k fun o e => ?_
    rw [upd_ne]; exact e
    intro eb
    exact nf l' (List.getElem?_eq_some_iff.mp q).1 eb
  · by_cases eb : b = a
    · subst eb; rw [upd_same] at q; cases q
    · rw [upd_ne eb] at q; exact f.h.zs b z q
  · rcases get_set e with ⟨_, q, _⟩ | ⟨hj, q⟩
    · cases q
    · obtain ⟨v, e1, r⟩ := f.s.val j y q
      exact ⟨v, e1, r.keep k⟩
  · rcases get_set e with ⟨rfl, q, _⟩ | ⟨hj, q⟩
    · cases q
      exact ⟨a, ha, h0, nz, nf, hn k⟩
    · obtain ⟨b, e1, h1, z1, f1, l1⟩ := f.s.own j y q
      refine ⟨b, e1, h1, z1, f1, l1.keep k fun o e => ?_⟩
      rw [upd_ne]; exact e
      intro eb; subst eb
      exact f.s.two j x y d b hj q hx e1 ha
  · have t : ∀ {j : Nat} {y : D}, (ρ.set x (.own d'))[j]? = some (.own y) → ∃ y', ρ[j]? = some (.own y') := fun {j y} e => by
      rcases get_set e with ⟨rfl, _, _⟩ | ⟨_, q⟩
      · exact ⟨d, hx⟩
      · exact ⟨y, q⟩
    obtain ⟨z1, e1⟩ := t e1
    obtain ⟨z2, e2⟩ := t e2
    exact f.s.two j k z1 z2 b hjk e1 e2 q1 q2
/-- a place of the store is written -/
theorem Fs.wrR {l : Nat} {c' : Cell} {u : HO} (f : Fs K M H0 Z0 ι0 n0 H Z ι S ρ σ) (hl : l < S.length) (hg : ∀ o w, H (ι l) ≠ some (.frz o w)) (hn : Keep K H Z ι S.length (upd H (ι l) u) Z ι S.length → CR K M (upd H (ι l) u) Z ι S.length (ι l) c') :
    Fs K M H0 Z0 ι0 n0 (upd H (ι l) u) Z ι (S.set l c') ρ σ ∧ Keep K H Z ι S.length (upd H (ι l) u) Z ι (S.set l c').length := by
  have k : Keep K H Z ι S.length (upd H (ι l) u) Z ι S.length := keep_upd (f.h.nz l hl) (fun xs q => (f.h.at hl).nottup xs q) hg
  have hlen : (S.set l c').length = S.length := List.length_set ..
  rw [hlen]
  refine ⟨⟨?_, ?_, ?_⟩, k⟩
  · rw [hlen]
    refine ⟨f.x.le, f.x.ag, f.x.zz, f.x.zn, f.x.fn, fun b o e hn' => ?_, fun b e q => ?_, fun b o w e => ?_⟩
    · rw [upd_ne]; exact f.x.fr b o e hn'
      intro eb; subst eb
      by_cases h0 : l < n0
      · exact hn' l h0 (f.x.ag l h0).symm
      · have := f.x.fn l (Nat.le_of_not_lt h0) hl
        rw [e] at this; cases this
    · by_cases eb : b = ι l
      · subst eb; rw [upd_same] at q; cases q
      · rw [upd_ne eb] at q; exact f.x.al b e q
    · rw [upd_ne]; exact f.x.fz b o w e
      intro eb; subst eb; exact hg o w (f.x.fz _ o w e)
  · refine ⟨fun l' c q => ?_, fun l1 l2 h1 h2 => f.h.inj l1 l2 (by rw [hlen] at h1; exact h1) (by rw [hlen] at h2; exact h2), fun l1 h1 => f.h.nz l1 (by rw [hlen] at h1; exact h1), fun b z q => ?_⟩
    · rw [hlen]
      rcases get_set q with ⟨rfl, q, _⟩ | ⟨hj, q⟩
      · subst q; exact hn k
      · refine (f.h.cell l' c q).keep k fun o e => ?_
        rw [upd_ne]; exact e
        intro eb
        exact hj (f.h.inj l' l (List.getElem?_eq_some_iff.mp q).1 hl eb)
    · by_cases eb : b = ι l
      · subst eb; rw [upd_same] at q; cases q
      · rw [upd_ne eb] at q; exact f.h.zs b z q
  · rw [hlen]
    refine ⟨f.s.len, fun j y e => ?_, fun j y e => ?_, f.s.two⟩
    · obtain ⟨v, e1, r⟩ := f.s.val j y e
      exact ⟨v, e1, r.keep k⟩
    · obtain ⟨b, e1, h1, z1, f1, l1⟩ := f.s.own j y e
      refine ⟨b, e1, h1, z1, f1, l1.keep k fun o e => ?_⟩
      rw [upd_ne]; exact e
      intro eb; exact f1 l hl eb.symm
theorem Fs.setv {i : Nat} {v : V} {d : D} (f : Fs K M H0 Z0 ι0 n0 H Z ι S ρ σ) (r : Rep K H Z ι S.length v d) : Fs K M H0 Z0 ι0 n0 H Z ι S (ρ.set i (.val d)) (σ.set i (some v)) := ⟨f.x, f.h, f.s.setv r⟩
/-- an own list is given up -/
theorem Fs.frz {x : Nat} {d : D} (f : Fs K M H0 Z0 ι0 n0 H Z ι S ρ σ) (hx : ρ[x]? = some (.own d)) : ∃ Z2, Fs K M H0 Z0 ι0 n0 H Z2 ι S (ρ.set x (.val d)) σ ∧ Keep K H Z ι S.length H Z2 ι S.length := by
  obtain ⟨a, ha, h0, nz, nf, l⟩ := f.s.own x d hx
  have k : Keep K H Z ι S.length H (fun b => Z b ∨ b = a) ι S.length := ⟨Nat.le_refl _, fun _ _ => rfl, fun _ z => .inl z, fun _ _ h => h, fun _ _ _ h => h, fun _ _ _ h => h⟩
  have rx : Rep K H (fun b => Z b ∨ b = a) ι S.length (.ref a) d := by
    cases d with
    | lst ds => obtain ⟨xs, e, r⟩ := l; exact .lst (.inr rfl) e (r.keep k)
    | dict ks ds => obtain ⟨kvs, e, r1, r2⟩ := l; exact .dict (.inr rfl) e (r1.keep k) (r2.keep k)
    | _ => exact l.elim
  refine ⟨fun b => Z b ∨ b = a, ⟨⟨f.x.le, f.x.ag, fun b z => .inl (f.x.zz b z), fun b z => ?_, f.x.fn, f.x.fr, f.x.al, f.x.fz⟩, f.h.grow (fun _ _ h => h) (fun _ z => .inl z) (fun b z => ?_) (fun i hi z => ?_), ⟨by simp [f.s.len], fun j y e => ?_, fun j y e => ?_, fun j k x y b hjk e1 e2 q1 q2 => ?_⟩⟩, k⟩
  · rcases z with z | rfl
    · exact f.x.zn b z
    · exact .inr h0
  · rcases z with z | rfl
    · exact f.h.zs b z
    · exact l.there
  · rcases z with z | z
    · exact f.h.nz i hi z
    · exact nf i hi z
  · rcases get_set e with ⟨rfl, q, _⟩ | ⟨hj, q⟩
    · cases q
      exact ⟨.ref a, ha, rx⟩
    · obtain ⟨v, e1, r⟩ := f.s.val j y q
      exact ⟨v, e1, r.keep k⟩
  · rcases get_set e with ⟨_, q, _⟩ | ⟨hj, q⟩
    · cases q
    · obtain ⟨b, e1, h1, z1, f1, l1⟩ := f.s.own j y q
      refine ⟨b, e1, h1, fun z => ?_, f1, l1.keep k fun o e => e⟩
      rcases z with z | rfl
      · exact z1 z
      · exact f.s.two j x y d b hj q hx e1 ha
  · rcases get_set e1 with ⟨_, q, _⟩ | ⟨_, e1⟩
    · cases q
    rcases get_set e2 with ⟨_, q, _⟩ | ⟨_, e2⟩
    · cases q
    exact f.s.two j k x y b hjk e1 e2 q1 q2
end
end PyI
namespace PyI
open PySem L2

def isComp : Expr → Bool
  | .ListComp .. => true
  | .SetComp .. => true
  | .DictComp .. => true
  | _ => false
def isCompE : E → Bool
  | .comp .. => true
  | .newr (.comp ..) => true
  | _ => false
/-- a comprehension that is stored within its own frame -/
def swB (sc : Scope) (x : Str) (px : Pos) : Expr → Bool
  | .ListComp _ _ s pos => (sc.names.lookup x == some .local) && (px.line == pos.line) && !(s.names.any fun (n, k) => n == x && (k == .local || k == .cell))
  | _ => false
/-- an assignment's right side that is an expression of its own -/
def mtV (cx : MC) (sc : Scope) (e : E) (x : Str) (px : Pos) (p : Expr) : Bool := mtE cx sc e p && (!isComp p || (isCompE e && swB sc x px p) || (isComp p && (sc.names.lookup x == some .cell)))
/-- o.name(p), o a name in slot i -/
def mtM (cx : MC) (sc : Scope) (i : Nat) (name : Str) : List E → Expr → Bool
  | es, .Call (.Attribute (.Name x px) nm apos) ps [] cpos => nmAt cx i x && visB sc x && okNm x && decide (nm = name) && (apos.endLine == cpos.line) &&
    (match es, ps with | [a], [p] => mtE cx sc a p && plain p | [a, b], [p, q] => mtE cx sc a p && plain p && mtE cx sc b q && plain q | _, _ => false)
  | _, _ => false
def mtM0 (cx : MC) (sc : Scope) (i : Nat) (name : Str) : Expr → Bool
  | .Call (.Attribute (.Name x px) nm apos) [] [] cpos => nmAt cx i x && visB sc x && okNm x && decide (nm = name) && (apos.endLine == cpos.line)
  | _ => false
/-- o.x, o.y, .. one by one -/
def mtAs (cx : MC) (sc : Scope) (c : Nat) (o : E) : List Nat → List Expr → Bool
  | [], [] => true
  | x :: xs, .Attribute p f _ :: es => decide (cx.fl x = some f) && (cx.cn c).isSome && mtE cx sc o p && mtAs cx sc c o xs es
  | _, _ => false
mutual
def mtT (cx : MC) (sc : Scope) : T → Stmt → Bool
  | .set i e, .Assign [.Name x px] p _ => nmAt cx i x && locB sc (fun _ => true) x && mtV cx sc e x px p
  | .setO i e, .Assign [.Name x px] p _ => nmAt cx i x && locB sc (fun _ => true) x && mtV cx sc e x px p
  | .setT is e, .Assign [.Tuple es k tp] p _ => mtTg cx sc (fun _ => true) (.tp is) (.Tuple es k tp) && mtE cx sc e p && !isComp p && !isTup p
  | .ifs c a b, .If pc pa pb _ => mtE cx sc c pc && mtTs cx sc a pa && mtTs cx sc b pb
  | .ret e, .Return (some p) _ => mtE cx sc e p
  | .retO i, .Return (some (.Name x _)) _ => nmAt cx i x && visB sc x && okNm x
  | .retN, .Return none _ => true
  | .for tg it body, .For ptg pit pb [] _ => mtTg cx sc (fun _ => true) tg ptg && mtI cx sc it (isTup ptg) pit && mtTs cx sc body pb
  | .while _ c body, .While pc pb [] _ => mtE cx sc c pc && mtTs cx sc body pb
  | .brk, .Break _ => true
  | .cont, .Continue _ => true
  | .pass, .Pass _ => true
  | .rai, .Raise _ _ _ => true
  | .ex e, .Expr p _ => mtE cx sc e p && !isComp p
  | .app x e, .Expr p _ => mtM cx sc x "append" [e] p
  | .ins x a e, .Expr p _ => mtM cx sc x "insert" [a, e] p
  | .ext x e, .Expr p _ => mtM cx sc x "extend" [e] p
  | .appPop y x e, .Expr (.Call (.Attribute (.Name z pz) nm apos) [p] [] cpos) _ => nmAt cx y z && visB sc z && okNm z && decide (nm = "append") && (apos.endLine == cpos.line) && mtM cx sc x "pop" [e] p && plain p
  | .addPop i x e, .Assign [.Name z pz] (.BinOp (.Name z2 _) .Add p _) _ => nmAt cx i z && decide (z2 = z) && locB sc (fun _ => true) z && visB sc z && okNm z && mtM cx sc x "pop" [e] p
  | .setPop i x e, .Assign [.Name z pz] p _ => nmAt cx i z && locB sc (fun _ => true) z && mtM cx sc x "pop" [e] p
  | .setIx x i e, .Assign [.Subscript (.Name z _) pi _] p _ => nmAt cx x z && visB sc z && okNm z && mtE cx sc i pi && plain pi && mtE cx sc e p
  | .appR o e, .Expr (.Call (.Attribute p nm apos) [q] [] cpos) _ => mtE cx sc o p && mtE cx sc e q && plain q && okBase p && decide (nm = "append") && (apos.endLine == cpos.line)
  | .setF c o x e, .Assign [.Attribute p f _] q _ => decide (cx.fl x = some f) && (cx.cn c).isSome && mtE cx sc o p && mtE cx sc e q
  | .setFT c o xs e, .Assign [.Tuple es _ _] q _ => mtAs cx sc c o xs es && mtE cx sc e q && !isTup q && !isComp q
  | .forR tg e body, .For ptg pit pb [] _ => mtTg cx sc (fun _ => true) tg ptg && mtE cx sc e pit && plain pit && mtTs cx sc body pb
  | .setPop0 i x, .Assign [.Name z pz] p _ => nmAt cx i z && locB sc (fun _ => true) z && mtM0 cx sc x "pop" p
  | .setIxR o i e, .Assign [.Subscript po pi _] p _ => mtE cx sc o po && mtE cx sc i pi && plain pi && mtE cx sc e p
  | _, _ => false
def mtTs (cx : MC) (sc : Scope) : Ts → List Stmt → Bool
  | .nil, [] => true
  | .cons (.frz _) ts, ps => mtTs cx sc ts ps
  | .cons (.lkx _) ts, ps => mtTs cx sc ts ps
  | .cons t ts, p :: ps => mtT cx sc t p && mtTs cx sc ts ps
  | _, _ => false
end

/-- where a def's body stands -/
structure XT (cx : MC) (sc : Scope) (M : Nm) (cf : CF) (X : Cx) : Prop extends XC cx sc M cf X where
  fnT : ∀ x, X.fn x = true
  kind : X.env.scope.kind = .function
  po : PassesOwn (model X.prog X.w) X.A X.env X.xe

/-- a statement's reading -/
def tS (K : PySem.W.Frag) (M : Nm) (cf : CF) (t : T) : TS := fun D σ H => ∃ H0 Z0 ι0 n0 Z ι S ρ o, Fs K M H0 Z0 ι0 n0 H Z ι S ρ σ ∧ exe cf t ρ S = some o ∧ EndOk K M H0 Z0 ι0 n0 t.touch H Z ι S.length ρ σ D o
def tSs (K : PySem.W.Frag) (M : Nm) (cf : CF) (t : Ts) : TS := fun D σ H => ∃ H0 Z0 ι0 n0 Z ι S ρ o, Fs K M H0 Z0 ι0 n0 H Z ι S ρ σ ∧ exes cf t ρ S = some o ∧ EndOk K M H0 Z0 ι0 n0 t.touch H Z ι S.length ρ σ D o
theorem PS.imp {X : Cx} {st : Stmt} {t t' : TS} (h : PS X st t) (i : ∀ D σ H, t' D σ H → t D σ H) : PS X st t' := ⟨fun pins s σ H D I hq => h.run pins s σ H D I (i D σ H hq)⟩
theorem PSs.imp {X : Cx} {st : List Stmt} {t t' : TS} (h : PSs X st t) (i : ∀ D σ H, t' D σ H → t D σ H) : PSs X st t' := ⟨fun pins s σ H D I hq => h.run pins s σ H D I (i D σ H hq)⟩

section
variable {cx : MC} {sc : Scope} {M : Nm} {cf : CF} {X : Cx}
theorem isComp_sw {p : Expr} (h : isComp p = false) (env : PySem.Env) (tg : Option Expr) (l : Nat) : swapsWith p tg l env = pure false := by
  cases p <;> simp [isComp] at h <;> rfl
theorem isTup_ss {tg p : Expr} (h : isTup p = false) (env : PySem.Env) : swappedStores [tg] p env = pure none := by
  cases p <;> simp [isTup] at h <;> cases tg <;> rfl
theorem cell_sw {p : Expr} {x : Str} {px : Pos} {env : PySem.Env} (h : isComp p = true) (hc : env.scope.names.lookup x = some .cell) (l : Nat) : swapsWith p (some (.Name x px)) l env = pure false := by
  have hk : (env.kindOf x == some .local) = false := by
    have : env.kindOf x = some .cell := hc
    rw [this]; rfl
  cases p <;> simp [isComp] at h <;> simp [swapsWith, hk]

/-- what is stored anew is made first -/
theorem newr_imp {e : E} {σ : St} {H : Hp} {Q : VK} (hh : tE X.K M cf (.newr e) σ H Q) : tE X.K M cf e σ H Q := by
  have inv : ∀ {ρ : SEnv} {S S' : Store} {d : D} {st : Stt}, ev cf (.newr e) ρ S = some (d, st, S') → ∃ x S1 c, ev cf e ρ S = some (x, .fresh, S1) ∧ d = .ref S1.length ∧ st = .fr ∧ S' = S1 ++ [c] ∧ ((∃ ds, x = .lst ds ∧ c = .lst ds) ∨ ∃ ks vs, x = .dict ks vs ∧ c = .dict ks vs) := by
    intro ρ S S' d st q
    simp only [ev] at q
    obtain ⟨x, sx, S1, e1, q⟩ := andT_inv q
    split at q
    · cases q; exact ⟨_, S1, _, e1, rfl, rfl, rfl, .inl ⟨_, rfl, rfl⟩⟩
    · cases q; exact ⟨_, S1, _, e1, rfl, rfl, rfl, .inr ⟨_, _, rfl, rfl⟩⟩
    · cases q
  obtain ⟨Z, ι, S, H0, ρ, d, st, S', hR, sR, q, k⟩ := hh
  obtain ⟨x, S1, c, e1, rfl, rfl, rfl, hc⟩ := inv q
  refine ⟨Z, ι, S, H0, ρ, x, .fresh, S1, hR, sR, e1, fun v1 H1 Z1 ι1 x1 r1 w1 => ?_⟩
  obtain ⟨a, rfl, h0, hz, hf, hl⟩ := w1
  obtain ⟨ι2, ag, at1⟩ : ∃ ι2 : Nat → Addr, (∀ l, l < S1.length → ι2 l = ι1 l) ∧ ι2 S1.length = a := ⟨fun l => if l = S1.length then a else ι1 l, fun l hl => if_neg (by omega), if_pos rfl⟩
  have len : (S1 ++ [c]).length = S1.length + 1 := by simp
  have kp : Keep X.K H1 Z1 ι1 S1.length H1 Z1 ι2 (S1.length + 1) := ⟨by omega, ag, fun _ z => z, fun _ _ h => h, fun _ _ _ h => h, fun _ _ _ h => h⟩
  have cr : CR X.K M H1 Z1 ι2 (S1.length + 1) a c := by
    rcases hc with ⟨ds, rfl, rfl⟩ | ⟨ks, vs, rfl, rfl⟩
    · obtain ⟨xs, e2, r2⟩ := hl
      exact ⟨xs, e2, r2.keep kp⟩
    · obtain ⟨kvs, e2, r2, r3⟩ := hl
      exact ⟨kvs, e2, r2.keep kp, r3.keep kp⟩
  refine k (.ref a) H1 Z1 ι2 ?_ ?_ ?_
  · rw [len]
    refine ⟨by have := x1.le; omega, fun l hl => (ag l (by have := x1.le; omega)).trans (x1.ag l hl), x1.zz, x1.zn, fun l h1 h2 => ?_, x1.fr, x1.al, x1.fz⟩
    by_cases e : l = S1.length
    · subst e; rw [at1]; exact h0
    · rw [ag l (by omega)]; exact x1.fn l h1 (by omega)
  · refine ⟨fun l c' e => ?_, fun l l' h1 h2 e => ?_, fun l hl => ?_, r1.zs⟩
    · rw [len]
      by_cases hl' : l < S1.length
      · rw [List.getElem?_append_left hl'] at e
        rw [ag l hl']
        exact (r1.cell l c' e).keep kp fun _ h => h
      · have e' : l = S1.length := by
          have := (List.getElem?_eq_some_iff.mp e).1
          rw [len] at this; omega
        subst e'
        simp at e
        subst e
        rw [at1]; exact cr
    · rw [len] at h1 h2
      by_cases a1 : l = S1.length
      · by_cases a2 : l' = S1.length
        · omega
        · subst a1
          rw [at1, ag l' (by omega)] at e
          exact absurd e.symm (hf l' (by omega))
      · by_cases a2 : l' = S1.length
        · subst a2
          rw [at1, ag l (by omega)] at e
          exact absurd e (hf l (by omega))
        · rw [ag l (by omega), ag l' (by omega)] at e
          exact r1.inj l l' (by omega) (by omega) e
    · rw [len] at hl
      by_cases a1 : l = S1.length
      · subst a1; rw [at1]; exact hz
      · rw [ag l (by omega)]; exact r1.nz l (by omega)
  · have := Rep.ref (K := X.K) (H := H1) (Z := Z1) (ι := ι2) (n := (S1 ++ [c]).length) (l := S1.length) (by rw [len]; omega)
    rw [at1] at this
    exact this
/-- an assignment to a name: the value at hand -/
theorem ps_val {i : Nat} {e : E} {x : Str} {px : Pos} {p : Expr} {pos : Pos} (c : XT cx sc M cf X) (hn : nmAt cx i x = true) (hl : locB sc (fun _ => true) x = true) (h : mtV cx sc e x px p = true) :
    PS X (.Assign [.Name x px] p pos) (tAsg (tE X.K M cf e) (gName i)) := by
  obtain ⟨l1, l2⟩ := loc_ok c.toXC (fun x _ => c.fnT x) hl
  simp only [mtV, Bool.and_eq_true, Bool.or_eq_true, Bool.not_eq_true'] at h
  obtain ⟨h1, (h2 | h2) | h2⟩ := h
  · exact ps_set c.nd (nmAt_ok c.toXC hn) l1 (sE e c.toXC p h1).pe (isComp_sw h2 _ _ _) l2
  · obtain ⟨hce, h2⟩ := h2
    have go : ∀ (elt : E) (tg : Tg) (it : I) (cond : Es) (vs : List Nat), mtE cx sc (.comp elt tg it cond vs) p = true → PS X (.Assign [.Name x px] p pos) (tAsg (tE X.K M cf (.comp elt tg it cond vs)) (gName i)) := fun elt tg it cond vs h1 => by
      obtain ⟨pelt, ptg, pit, pifs, scope, cpos, own, rfl, hw, q1, q2, q3, q4, q5, q6, i1⟩ := s_parts c.toXC h1
      simp only [swB, Bool.and_eq_true, Bool.not_eq_true', beq_iff_eq] at h2
      obtain ⟨⟨h3, h4⟩, h5⟩ := h2
      have hyl : X.env.scope.names.lookup x = some .local := by rw [c.sc]; exact h3
      subst hw
      exact PS.imp (ps_setLc (spos := pos) c.calm c.nd (nmAt_ok c.toXC hn) hyl (sw_true c.kind hyl (by simpa using h4) h5) q1 q2 q3 q4 q5 q6) fun D σ H hq => i1 σ H _ hq
    cases e <;> try (simp [isCompE] at hce; done)
    · exact go _ _ _ _ _ h1
    · rename_i e
      cases e <;> try (simp [isCompE] at hce; done)
      exact PS.imp (go _ _ _ _ _ (by cases p <;> simpa only [mtE] using h1)) fun D σ H hq => newr_imp hq
  · simp only [beq_iff_eq] at h2
    have hc : X.env.scope.names.lookup x = some .cell := by rw [c.sc]; exact h2.2
    exact ps_set c.nd (nmAt_ok c.toXC hn) l1 (sE e c.toXC p h1).pe (cell_sw h2.1 hc _) l2

theorem t_set {i : Nat} {e : E} {st : Stmt} (c : XT cx sc M cf X) (h : mtT cx sc (.set i e) st = true) : PS X st (tS X.K M cf (.set i e)) := by
  unfold mtT at h
  split at h <;> try (cases h; done)
  all_goals (try contradiction)
  rename_i q; cases q
  simp only [Bool.and_eq_true] at h
  refine PS.imp (ps_val c h.1.1 h.1.2 h.2) fun D σ H ⟨H0, Z0, ι0, n0, Z, ι, S, ρ, o, f, he, k⟩ => ?_
  simp only [exe] at he
  obtain ⟨d, s, S1, e1, he⟩ := andT_inv he
  cases he
  exact st_f f e1 fun v H1 Z1 ι1 x1 f1 k1 r => k _ _ _ _ (f1.setv r) k1 (Same.set (by simp [T.touch]))

theorem t_setO {i : Nat} {e : E} {st : Stmt} (c : XT cx sc M cf X) (h : mtT cx sc (.setO i e) st = true) : PS X st (tS X.K M cf (.setO i e)) := by
  unfold mtT at h
  split at h <;> try (cases h; done)
  all_goals (try contradiction)
  rename_i q; cases q
  simp only [Bool.and_eq_true] at h
  refine PS.imp (ps_val c h.1.1 h.1.2 h.2) fun D σ H ⟨H0, Z0, ι0, n0, Z, ι, S, ρ, o, f, he, k⟩ => ?_
  simp only [exe] at he
  obtain ⟨d, s, S1, e1, he⟩ := andT_inv he
  split at he <;> cases he
  refine st_e f e1 fun v H1 Z1 ι1 x1 f1 k1 r => ?_
  obtain ⟨a, rfl, ha, nz, nf, l⟩ := r
  have h0 : H0 a = none := by
    cases q : H0 a with
    | none => rfl
    | some o => exact absurd ha (f.x.al a (by rw [q]; simp))
  refine k _ _ _ _ ⟨f1.x, f1.h, f1.s.seto h0 nz nf l fun j e hj q => ?_⟩ k1 (Same.set (by simp [T.touch]))
  by_cases hj2 : True
  · have hj0 : ρ[j]? = some (.own e) := hj
    obtain ⟨b, q1, _, _, _, lb⟩ := f.s.own j e hj0
    rw [q1] at q
    cases q
    exact lb.there ha
  · exact absurd True.intro hj2
theorem foldlS_out {i : Nat} : ∀ (is : List Nat) (ds : List D) (ρ : SEnv), i ∉ is → ((is.zip ds).foldl (fun r p => r.set p.1 (.val p.2)) ρ)[i]? = ρ[i]?
  | [], _, _, _ => rfl
  | _ :: _, [], _, _ => rfl
  | j :: is, v :: vs, ρ, h => by
    rw [List.zip_cons_cons, List.foldl_cons, foldlS_out is vs _ (fun q => h (by simp [q])), List.getElem?_set_ne (fun q => h (by simp at q; simp [q]))]
theorem bindQ_out {i : Nat} : ∀ (ts : List (Nat ⊕ List Nat)) (ds : List D) (ρ : SEnv) {ρ' : SEnv}, bindQ ts ds ρ = some ρ' → i ∉ ixQ ts → ρ'[i]? = ρ[i]?
  | [], [], ρ, ρ', h, _ => by simp only [bindQ] at h; cases h; rfl
  | [], d :: ds, ρ, ρ', h, _ => by simp [bindQ] at h
  | .inl j :: ts, [], ρ, ρ', h, _ => by simp [bindQ] at h
  | .inr js :: ts, [], ρ, ρ', h, _ => by simp [bindQ] at h
  | .inl j :: ts, d :: ds, ρ, ρ', h, hi => by
    simp only [ixQ, List.flatMap_cons, List.mem_append, not_or] at hi
    simp only [bindQ] at h
    rw [bindQ_out ts ds _ h hi.2, List.getElem?_set_ne]
    intro q; exact hi.1 (by simp [q])
  | .inr js :: ts, d :: ds, ρ, ρ', h, hi => by
    simp only [ixQ, List.flatMap_cons, List.mem_append, not_or] at hi
    cases d <;> try (simp [bindQ] at h; done)
    · simp only [bindQ] at h
      split at h
      · rw [bindQ_out ts ds _ h hi.2, foldlS_out _ _ _ hi.1]
      · cases h
    · simp only [bindQ] at h
      split at h
      · rw [bindQ_out ts ds _ h hi.2, foldlS_out _ _ _ hi.1]
      · cases h
theorem bindT_out {tg : Tg} {d : PyI.D} {ρ ρ' : SEnv} (h : bindT tg d ρ = some ρ') {i : Nat} (hi : i ∉ tg.ix) : ρ'[i]? = ρ[i]? := by
  unfold bindT at h
  split at h
  · cases h
    rw [List.getElem?_set_ne]
    intro e; subst e; exact hi (by simp [Tg.ix])
  · split at h <;> try (cases h; done)
    · split at h <;> cases h
      exact foldlS_out _ _ _ hi
    · split at h <;> cases h
      exact foldlS_out _ _ _ hi
    · split at h <;> cases h
      exact foldlS_out _ _ _ hi
  · split at h <;> try (cases h; done)
    · exact bindQ_out _ _ _ h hi
    · exact bindQ_out _ _ _ h hi
theorem t_setT {is : List Nat} {e : E} {st : Stmt} (c : XT cx sc M cf X) (h : mtT cx sc (.setT is e) st = true) : PS X st (tS X.K M cf (.setT is e)) := by
  unfold mtT at h
  split at h <;> try (cases h; done)
  all_goals (try contradiction)
  rename_i q; cases q
  simp only [Bool.and_eq_true, Bool.not_eq_true'] at h
  refine PS.imp (ps_asg (sE e c.toXC _ h.1.1.2).pe (pg_tg c.toXC (fun x _ => c.fnT x) h.1.1.1) (by rw [swapsWithSole]; exact isComp_sw h.1.2 _ _ _) (isTup_ss h.2 _)) fun D σ H ⟨H0, Z0, ι0, n0, Z, ι, S, ρ, o, f, he, k⟩ => ?_
  simp only [exe] at he
  obtain ⟨d, s, S1, e1, he⟩ := andT_inv he
  split at he <;> cases he
  rename_i ρ1 hb
  refine st_f f e1 fun v H1 Z1 ι1 x1 f1 k1 r => ⟨Z1, ι1, S1.length, H0, ρ, d, ρ1, f1.s, r, hb, fun σ2 s2 hl ho => ?_⟩
  exact k _ _ _ _ ⟨f1.x, f1.h, s2⟩ k1 fun i hi => ⟨bindT_out hb (by simpa [Tg.ix, T.touch] using hi), ho i (by simpa [Tg.ix, T.touch] using hi)⟩
theorem EndOk.mono {K : PySem.W.Frag} {H0 H : Hp} {Z0 Z : Addr → Prop} {ι0 ι : Nat → Addr} {n0 n : Nat} {tc tc' : List Nat} {ρ : SEnv} {σ : St} {D : Ends} {o : Out} (e : EndOk K M H0 Z0 ι0 n0 tc H Z ι n ρ σ D o) (ht : ∀ i, i ∈ tc' → i ∈ tc) : EndOk K M H0 Z0 ι0 n0 tc' H Z ι n ρ σ D o := e.step Keep.refl Same.refl ht
theorem t_ifs {e : E} {a b : Ts} {st : Stmt} (c : XT cx sc M cf X) (iha : ∀ ps, mtTs cx sc a ps = true → PSs X ps (tSs X.K M cf a)) (ihb : ∀ ps, mtTs cx sc b ps = true → PSs X ps (tSs X.K M cf b)) (h : mtT cx sc (.ifs e a b) st = true) : PS X st (tS X.K M cf (.ifs e a b)) := by
  unfold mtT at h
  split at h <;> try (cases h; done)
  all_goals (try contradiction)
  rename_i q; cases q
  simp only [Bool.and_eq_true] at h
  refine PS.imp (ps_if (sE e c.toXC _ h.1.1).pt (iha _ h.1.2) (ihb _ h.2)) fun D σ H ⟨H0, Z0, ι0, n0, Z, ι, S, ρ, o, f, he, k⟩ => ?_
  simp only [exe] at he
  obtain ⟨d, s, S1, e1, he⟩ := andT_inv he
  split at he
  · refine ⟨Z, ι, S, H0, ρ, true, s, S1, f.h, f.s, e1, fun H1 Z1 ι1 x1 r1 => ?_⟩
    refine iteT ?_
    obtain ⟨f1, k1⟩ := f.ext x1 r1
    exact ⟨H0, Z0, ι0, n0, Z1, ι1, S1, ρ, o, f1, he, k.step k1 Same.refl (by simp [T.touch]; intro i hi; exact .inl hi)⟩
  · refine ⟨Z, ι, S, H0, ρ, false, s, S1, f.h, f.s, e1, fun H1 Z1 ι1 x1 r1 => ?_⟩
    refine iteF ?_
    obtain ⟨f1, k1⟩ := f.ext x1 r1
    exact ⟨H0, Z0, ι0, n0, Z1, ι1, S1, ρ, o, f1, he, k.step k1 Same.refl (by simp [T.touch]; intro i hi; exact .inr hi)⟩
  · cases he
theorem t_ret {e : E} {st : Stmt} (c : XT cx sc M cf X) (h : mtT cx sc (.ret e) st = true) : PS X st (tS X.K M cf (.ret e)) := by
  unfold mtT at h
  split at h <;> try (cases h; done)
  all_goals (try contradiction)
  rename_i q; cases q
  refine PS.imp (ps_ret (sE e c.toXC _ h).pe) fun D σ H ⟨H0, Z0, ι0, n0, Z, ι, S, ρ, o, f, he, k⟩ => ?_
  simp only [exe] at he
  obtain ⟨d, s, S1, e1, he⟩ := andT_inv he
  split at he <;> cases he
  exact st_e f e1 fun v H1 Z1 ι1 x1 f1 k1 r => k v H1 Z1 ι1 f1.x f1.h (r.back f.x.al)
theorem t_retO {i : Nat} {st : Stmt} (c : XT cx sc M cf X) (h : mtT cx sc (.retO i) st = true) : PS X st (tS X.K M cf (.retO i)) := by
  unfold mtT at h
  split at h <;> try (cases h; done)
  all_goals (try contradiction)
  rename_i q; cases q
  simp only [Bool.and_eq_true] at h
  obtain ⟨q1, q2, _⟩ := okNm_ok h.2
  refine PS.imp (ps_ret (pe_var (nmAt_ok c.toXC h.1.1) (vis_ok c.toXC h.1.2) q1 q2)) fun D σ H ⟨H0, Z0, ι0, n0, Z, ι, S, ρ, o, f, he, k⟩ => ?_
  simp only [exe] at he
  split at he <;> cases he
  rename_i d hd
  obtain ⟨a, e1, r⟩ := f.s.own i _ hd
  exact ⟨.ref a, e1, k _ _ _ _ f.x f.h ⟨a, rfl, r⟩⟩
theorem t_retN {st : Stmt} (h : mtT cx sc .retN st = true) : PS X st (tS X.K M cf .retN) := by
  unfold mtT at h
  split at h <;> try (cases h; done)
  all_goals (try contradiction)
  refine PS.imp ps_retN fun D σ H ⟨H0, Z0, ι0, n0, Z, ι, S, ρ, o, f, he, k⟩ => ?_
  simp only [exe] at he
  cases he
  exact k _ _ _ _ f.x f.h Rep.non
theorem t_brk {st : Stmt} (h : mtT cx sc .brk st = true) : PS X st (tS X.K M cf .brk) := by
  unfold mtT at h
  split at h <;> try (cases h; done)
  all_goals (try contradiction)
  refine PS.imp ps_break fun D σ H ⟨H0, Z0, ι0, n0, Z, ι, S, ρ, o, f, he, k⟩ => ?_
  simp only [exe] at he
  cases he
  exact k _ _ _ _ f Keep.refl Same.refl
theorem t_cont {st : Stmt} (h : mtT cx sc .cont st = true) : PS X st (tS X.K M cf .cont) := by
  unfold mtT at h
  split at h <;> try (cases h; done)
  all_goals (try contradiction)
  refine PS.imp ps_continue fun D σ H ⟨H0, Z0, ι0, n0, Z, ι, S, ρ, o, f, he, k⟩ => ?_
  simp only [exe] at he
  cases he
  exact k _ _ _ _ f Keep.refl Same.refl
theorem t_pass {st : Stmt} (h : mtT cx sc .pass st = true) : PS X st (tS X.K M cf .pass) := by
  unfold mtT at h
  split at h <;> try (cases h; done)
  all_goals (try contradiction)
  refine PS.imp ps_pass fun D σ H ⟨H0, Z0, ι0, n0, Z, ι, S, ρ, o, f, he, k⟩ => ?_
  simp only [exe] at he
  cases he
  exact k _ _ _ _ f Keep.refl Same.refl
theorem t_rai {st : Stmt} : PS X st (tS X.K M cf .rai) := by
  refine ⟨fun pins s σ H D I h => ?_⟩
  obtain ⟨H0, Z0, ι0, n0, Z, ι, S, ρ, o, f, he, k⟩ := h
  simp only [exe] at he
  cases he
theorem t_ex {e : E} {st : Stmt} (c : XT cx sc M cf X) (h : mtT cx sc (.ex e) st = true) : PS X st (tS X.K M cf (.ex e)) := by
  unfold mtT at h
  split at h <;> try (cases h; done)
  all_goals (try contradiction)
  rename_i q; cases q
  simp only [Bool.and_eq_true, Bool.not_eq_true'] at h
  refine PS.imp (ps_expr (sE e c.toXC _ h.1).pe (isComp_sw h.2 _ _ _)) fun D σ H ⟨H0, Z0, ι0, n0, Z, ι, S, ρ, o, f, he, k⟩ => ?_
  simp only [exe] at he
  obtain ⟨d, s, S1, e1, he⟩ := andT_inv he
  cases he
  exact st_e f e1 fun v H1 Z1 ι1 x1 f1 k1 r => k _ _ _ _ f1 k1 Same.refl

theorem t_for {tg : Tg} {it : I} {body : Ts} {st : Stmt} (c : XT cx sc M cf X) (ih : ∀ ps, mtTs cx sc body ps = true → PSs X ps (tSs X.K M cf body)) (h : mtT cx sc (.for tg it body) st = true) : PS X st (tS X.K M cf (.for tg it body)) := by
  unfold mtT at h
  split at h <;> try (cases h; done)
  all_goals (try contradiction)
  rename_i q; cases q
  simp only [Bool.and_eq_true] at h
  refine PS.imp (ps_for c.po c.calm (sI it c.toXC _ _ h.1.2) (pg_tg c.toXC (fun x _ => c.fnT x) h.1.1) (ih _ h.2) (fold_plain (mtI_plain h.1.2))) fun D σ H ⟨H0, Z0, ι0, n0, Z, ι, S, ρ, o, f, he, k⟩ => ?_
  simp only [exe] at he
  split at he
  rotate_left
  · cases he
  rename_i hos
  split at he
  rotate_left
  · cases he
  rename_i ds S1 e1
  refine ⟨Z, ι, S, H0, ρ, ds, S1, f.h, f.s, e1, fun J G H1 Z1 ι1 x1 r1 wk sta g1 => ?_⟩
  obtain ⟨f1, k1⟩ := f.ext x1 r1
  generalize hf : (fun (d : PyI.D) (ρ : SEnv) (S : Store) => match bindT tg d ρ with | some ρ1 => exes cf body ρ1 S | none => none) = fb at he
  have htc : (T.for tg it body).touch = tg.ix ++ body.touch := by simp [T.touch]
  rw [htc] at k
  let Pv : Nat → St → Hp → Prop := fun i σ' H' => ∃ Z' ι' S' ρ', Fs X.K M H0 Z0 ι0 n0 H' Z' ι' S' ρ' σ' ∧ Keep X.K H1 Z1 ι1 S1.length H' Z' ι' S'.length ∧ Same (tg.ix ++ body.touch) ρ σ ρ' σ' ∧ loopF fb (ds.drop i) ρ' S' = some o
  refine ⟨fun i m σ' H' => m = ds.length - i ∧ i ≤ ds.length ∧ Pv i σ' H', ⟨ds.length, by simp, Nat.zero_le _, Z1, ι1, S1, ρ, f1, Keep.refl, Same.refl, by simpa using he⟩, ?_⟩
  rintro i m σ' H' ⟨rfl, hi, Z', ι', S', ρ', f', k', s', el⟩
  have g' : G H' Z' ι' S'.length := sta H1 Z1 ι1 S1.length H' Z' ι' S'.length k' (fun j hj a d e1 e2 => by
    have hn : j ∉ tg.ix ++ body.touch := by
      have := List.all_eq_true.mp hos j hj
      simpa using this
    obtain ⟨q1, q2⟩ := s' j hn
    rw [e1] at q1
    rw [e2] at q2
    obtain ⟨b, w1, _, _, _, l⟩ := f'.s.own j d q1
    rw [q2] at w1
    cases w1
    exact l) g1
  by_cases hlt : i < ds.length
  · refine .inr ⟨wk.go i H' Z' ι' _ hlt g', Pv (i + 1), fun σ2 H2 p => ⟨ds.length - (i + 1), by omega, rfl, hlt, p⟩, fun x H2 y => ?_⟩
    obtain ⟨gr, rx⟩ := wk.yld i H' Z' ι' _ x H2 _ (List.getElem?_eq_getElem hlt) g' y
    obtain ⟨f2, k2⟩ := f'.ext (Ext.gr gr) (f'.h.gr gr)
    rw [List.drop_eq_getElem_cons hlt] at el
    simp only [loopF] at el
    rw [← hf] at el
    simp only at el
    rw [hf] at el
    cases hb : bindT tg ds[i] ρ' with
    | none => rw [hb] at el; cases el
    | some ρ1 =>
      rw [hb] at el
      simp only at el
      refine ⟨Z', ι', S'.length, H0, ρ', ds[i], ρ1, f2.s, rx, hb, fun σ3 s3 hl3 ho3 => ?_⟩
      have sm : Same (tg.ix ++ body.touch) ρ' σ' ρ1 σ3 := fun j hj => by
        have hj' : j ∉ tg.ix := fun q => hj (by simp [q])
        exact ⟨bindT_out hb hj', ho3 j hj'⟩
      cases hx : exes cf body ρ1 S' with
      | none => rw [hx] at el; cases el
      | some o1 =>
        rw [hx] at el
        refine ⟨H0, Z0, ι0, n0, Z', ι', S', ρ1, o1, ⟨f2.x, f2.h, s3⟩, hx, ?_⟩
        cases o1 with
        | nx ρ4 S4 => exact fun σ4 H4 Z4 ι4 f4 k4 s4 => ⟨Z4, ι4, S4, ρ4, f4, k'.trans (k2.trans k4), s'.trans (sm.trans (s4.mono (by simp; intro j hj; exact .inr hj))), el⟩
        | ct ρ4 S4 => exact fun σ4 H4 Z4 ι4 f4 k4 s4 => ⟨Z4, ι4, S4, ρ4, f4, k'.trans (k2.trans k4), s'.trans (sm.trans (s4.mono (by simp; intro j hj; exact .inr hj))), el⟩
        | bk ρ4 S4 =>
          cases el
          exact fun σ4 H4 Z4 ι4 f4 k4 s4 => k σ4 H4 Z4 ι4 f4 (k1.trans (k'.trans (k2.trans k4))) (s'.trans (sm.trans (s4.mono (by simp; intro j hj; exact .inr hj))))
        | ret d s S4 =>
          cases el
          exact k
  · have ei : i = ds.length := by omega
    subst ei
    rw [List.drop_length] at el
    cases el
    exact .inl ⟨wk.stop H' Z' ι' _ g', k σ' H' Z' ι' f' (k1.trans k') s'⟩
theorem Fs.cellL {K : PySem.W.Frag} {H0 H : Hp} {Z0 Z : Addr → Prop} {ι0 ι : Nat → Addr} {n0 l : Nat} {S : Store} {ρ : SEnv} {σ : St} {es : List PyI.D} (f : Fs K M H0 Z0 ι0 n0 H Z ι S ρ σ) (h : S[l]? = some (.lst es)) : ∃ xs, H (ι l) = some (.lst xs) ∧ Reps K H Z ι S.length xs es := f.h.cell l _ h
theorem t_forR {tg : Tg} {e : E} {body : Ts} {st : Stmt} (c : XT cx sc M cf X) (ih : ∀ ps, mtTs cx sc body ps = true → PSs X ps (tSs X.K M cf body)) (h : mtT cx sc (.forR tg e body) st = true) : PS X st (tS X.K M cf (.forR tg e body)) := by
  unfold mtT at h
  split at h <;> try (cases h; done)
  all_goals (try contradiction)
  rename_i q; cases q
  simp only [Bool.and_eq_true] at h
  obtain ⟨⟨⟨h1, h2⟩, h3⟩, h4⟩ := h
  refine PS.imp (ps_for c.po c.calm (pi_list (sE e c.toXC _ h2).pe) (pg_tg c.toXC (fun x _ => c.fnT x) h1) (ih _ h4) (fold_plain h3)) fun D σ H ⟨H0, Z0, ι0, n0, Z, ι, S, ρ, o, f, he, k⟩ => ?_
  simp only [exe] at he
  obtain ⟨x, sx, S1, e1, he⟩ := andT_inv he
  split at he
  rotate_left
  · cases he
  rename_i l
  split at he
  rotate_left
  · cases he
  rename_i ds hl
  refine st_e f e1 fun v H1 Z1 ι1 x1 f1 k1 r => ?_
  obtain rfl : v = .ref (ι1 l) := ref_at r.rd
  obtain ⟨xs1, hc1, rc1⟩ := f1.cellL hl
  refine ⟨ι1 l, rfl, ⟨xs1, SqL.of hc1⟩, ?_⟩
  have hlt : l < S1.length := (List.getElem?_eq_some_iff.mp hl).1
  generalize hf : (fun (k : PyI.D) (ρ : SEnv) (S : Store) => match k, S[l]? with
        | .int i, some (.lst es) => if es.length = ds.length then match es[i.toNat]? with
          | some d => (match bindT tg d ρ with | some ρ1 => exes cf body ρ1 S | none => none)
          | none => none else none
        | _, _ => none) = fb at he
  have htc : (T.forR tg e body).touch = tg.ix ++ body.touch := by simp [T.touch]
  rw [htc] at k
  let rs : List PyI.D := (List.range ds.length).map fun k : Nat => PyI.D.int (k : Int)
  have hrl : rs.length = ds.length := by simp [rs]
  let Chk : Option Out → Option Out := fun r => match r with
        | some (.nx ρ' S') => match S'[l]? with
          | some (.lst es) => if es.length = ds.length then some (.nx ρ' S') else none
          | _ => none
        | r => r
  have he : Chk (loopF fb rs ρ S1) = some o := he
  let Pv : Nat → St → Hp → Prop := fun i σ' H' => ∃ Z' ι' S' ρ', Fs X.K M H0 Z0 ι0 n0 H' Z' ι' S' ρ' σ' ∧ Keep X.K H1 Z1 ι1 S1.length H' Z' ι' S'.length ∧ Same (tg.ix ++ body.touch) ρ σ ρ' σ' ∧ Chk (loopF fb (rs.drop i) ρ' S') = some o
  refine ⟨fun i m σ' H' => m = ds.length - i ∧ i ≤ ds.length ∧ Pv i σ' H', ⟨ds.length, by simp, Nat.zero_le _, Z1, ι1, S1, ρ, f1, Keep.refl, Same.refl, by simpa using he⟩, ?_⟩
  rintro i m σ' H' ⟨rfl, hi, Z', ι', S', ρ', f', k', s', el⟩
  by_cases hlt2 : i < ds.length
  · rw [List.drop_eq_getElem_cons (by rw [hrl]; exact hlt2)] at el
    have eg : rs[i]'(by rw [hrl]; exact hlt2) = PyI.D.int (i : Int) := by simp [rs]
    rw [eg] at el
    simp only [loopF] at el
    rw [← hf] at el
    simp only at el
    rw [hf] at el
    cases hS : S'[l]? with
    | none => rw [hS] at el; simp [Chk] at el
    | some cc =>
      rw [hS] at el
      cases cc with
      | dict _ _ => simp [Chk] at el
      | ins _ _ => simp [Chk] at el
      | gone => simp [Chk] at el
      | lst es =>
        simp only at el
        by_cases hel : es.length = ds.length
        rotate_left
        · simp [hel, Chk] at el
        simp only [hel, if_true, Int.toNat_natCast] at el
        have hie : i < es.length := by omega
        rw [List.getElem?_eq_getElem hie] at el
        simp only at el
        obtain ⟨xs', hc', rc'⟩ := f'.cellL hS
        have hag : ι' l = ι1 l := k'.ag l hlt
        rw [hag] at hc'
        obtain ⟨x0, hx0, rx0⟩ := rc'.get (List.getElem?_eq_getElem hie)
        refine .inr ⟨⟨xs', x0, SqL.of hc', hx0⟩, Pv (i + 1), fun σ2 H2 p => ⟨ds.length - (i + 1), by omega, rfl, hlt2, p⟩, fun y H2 hy => ?_⟩
        obtain ⟨rfl, hy⟩ := hy
        have := hy xs' (SqL.of hc')
        rw [hx0] at this
        cases this
        cases hb : bindT tg es[i] ρ' with
        | none => rw [hb] at el; simp [Chk] at el
        | some ρ1 =>
          rw [hb] at el
          simp only at el
          refine ⟨Z', ι', S'.length, H0, ρ', es[i], ρ1, f'.s, rx0, hb, fun σ3 s3 hl3 ho3 => ?_⟩
          have sm : Same (tg.ix ++ body.touch) ρ' σ' ρ1 σ3 := fun j hj => by
            have hj' : j ∉ tg.ix := fun q => hj (by simp [q])
            exact ⟨bindT_out hb hj', ho3 j hj'⟩
          cases hx : exes cf body ρ1 S' with
          | none => rw [hx] at el; simp [Chk] at el
          | some o1 =>
            rw [hx] at el
            refine ⟨H0, Z0, ι0, n0, Z', ι', S', ρ1, o1, ⟨f'.x, f'.h, s3⟩, hx, ?_⟩
            cases o1 with
            | nx ρ4 S4 => exact fun σ4 H4 Z4 ι4 f4 k4 s4 => ⟨Z4, ι4, S4, ρ4, f4, k'.trans k4, s'.trans (sm.trans (s4.mono (by simp; intro j hj; exact .inr hj))), el⟩
            | ct ρ4 S4 => exact fun σ4 H4 Z4 ι4 f4 k4 s4 => ⟨Z4, ι4, S4, ρ4, f4, k'.trans k4, s'.trans (sm.trans (s4.mono (by simp; intro j hj; exact .inr hj))), el⟩
            | bk ρ4 S4 =>
              have eo : o = .nx ρ4 S4 := by
                simp only [Chk] at el
                split at el
                · split at el <;> cases el; rfl
                · cases el
              subst eo
              exact fun σ4 H4 Z4 ι4 f4 k4 s4 => k σ4 H4 Z4 ι4 f4 (k1.trans (k'.trans k4)) (s'.trans (sm.trans (s4.mono (by simp; intro j hj; exact .inr hj))))
            | ret d s S4 =>
              cases el
              exact k
  · have ei : i = ds.length := by omega
    subst ei
    rw [show rs.drop ds.length = [] by rw [← hrl, List.drop_length]] at el
    simp only [loopF, Chk] at el
    split at el
    rotate_left
    · cases el
    rename_i es hS
    split at el <;> cases el
    rename_i hel
    obtain ⟨xs', hc', rc'⟩ := f'.cellL hS
    have hag : ι' l = ι1 l := k'.ag l hlt
    rw [hag] at hc'
    exact .inl ⟨⟨xs', SqL.of hc', by rw [rc'.length]; omega⟩, k σ' H' Z' ι' f' (k1.trans k') s'⟩
theorem t_while {n : Nat} {e : E} {body : Ts} {st : Stmt} (c : XT cx sc M cf X) (ih : ∀ ps, mtTs cx sc body ps = true → PSs X ps (tSs X.K M cf body)) (h : mtT cx sc (.while n e body) st = true) : PS X st (tS X.K M cf (.while n e body)) := by
  unfold mtT at h
  split at h <;> try (cases h; done)
  all_goals (try contradiction)
  rename_i q; cases q
  simp only [Bool.and_eq_true] at h
  refine PS.imp (ps_while c.po (sE e c.toXC _ h.1).pt (ih _ h.2)) fun D σ H ⟨H0, Z0, ι0, n0, Z, ι, S, ρ, o, f, he, k⟩ => ?_
  simp only [exe] at he
  have htc : (T.while n e body).touch = body.touch := by simp [T.touch]
  rw [htc] at k
  refine ⟨fun m σ' H' => ∃ Z' ι' S' ρ', Fs X.K M H0 Z0 ι0 n0 H' Z' ι' S' ρ' σ' ∧ Keep X.K H Z ι S.length H' Z' ι' S'.length ∧ Same body.touch ρ σ ρ' σ' ∧ loopW (fun ρ S => ev cf e ρ S) (fun ρ S => exes cf body ρ S) m ρ' S' = some o, ⟨n, Z, ι, S, ρ, f, Keep.refl, Same.refl, he⟩, ?_⟩
  rintro m σ' H' ⟨Z', ι', S', ρ', f', k', s', el⟩
  cases m with
  | zero => cases el
  | succ m =>
    simp only [loopW] at el
    split at el
    · rename_i st1 S1 e1
      refine ⟨Z', ι', S', H0, ρ', true, st1, S1, f'.h, f'.s, e1, fun H2 Z2 ι2 x2 r2 => ?_⟩
      refine iteT ?_
      obtain ⟨f2, k2⟩ := f'.ext x2 r2
      refine ⟨fun σ4 H4 => ∃ Z' ι' S' ρ', Fs X.K M H0 Z0 ι0 n0 H4 Z' ι' S' ρ' σ4 ∧ Keep X.K H Z ι S.length H4 Z' ι' S'.length ∧ Same body.touch ρ σ ρ' σ4 ∧ loopW (fun ρ S => ev cf e ρ S) (fun ρ S => exes cf body ρ S) m ρ' S' = some o, fun σ4 H4 q => ⟨m, Nat.lt_succ_self _, q⟩, ?_⟩
      cases hx : exes cf body ρ' S1 with
      | none => rw [hx] at el; cases el
      | some o1 =>
        rw [hx] at el
        refine ⟨H0, Z0, ι0, n0, Z2, ι2, S1, ρ', o1, f2, hx, ?_⟩
        cases o1 with
        | nx ρ4 S4 => exact fun σ4 H4 Z4 ι4 f4 k4 s4 => ⟨Z4, ι4, S4, ρ4, f4, k'.trans (k2.trans k4), s'.trans s4, el⟩
        | ct ρ4 S4 => exact fun σ4 H4 Z4 ι4 f4 k4 s4 => ⟨Z4, ι4, S4, ρ4, f4, k'.trans (k2.trans k4), s'.trans s4, el⟩
        | bk ρ4 S4 =>
          cases el
          exact fun σ4 H4 Z4 ι4 f4 k4 s4 => k σ4 H4 Z4 ι4 f4 (k'.trans (k2.trans k4)) (s'.trans s4)
        | ret d s S4 =>
          cases el
          exact k
    · rename_i st1 S1 e1
      cases el
      refine ⟨Z', ι', S', H0, ρ', false, st1, S1, f'.h, f'.s, e1, fun H2 Z2 ι2 x2 r2 => ?_⟩
      refine iteF ?_
      obtain ⟨f2, k2⟩ := f'.ext x2 r2
      exact k σ' H2 Z2 ι2 f2 (k'.trans k2) s'
    · cases el
end
end PyI
namespace PyI
open PySem L2

section
variable {cx : MC} {sc : Scope} {M : Nm} {cf : CF} {X : Cx}
/-- the own list at a slot -/
theorem Fs.ol {K : PySem.W.Frag} {H0 H : Hp} {Z0 Z : Addr → Prop} {ι0 ι : Nat → Addr} {n0 : Nat} {S : Store} {ρ : SEnv} {σ : St} {x : Nat} {ds : List PyI.D} (f : Fs K M H0 Z0 ι0 n0 H Z ι S ρ σ) (hx : ρ[x]? = some (.own (.lst ds))) :
    ∃ a xs, σ[x]? = some (some (.ref a)) ∧ H a = some (.lst xs) ∧ Reps K H Z ι S.length xs ds := by
  obtain ⟨a, e, _, _, _, xs, h, r⟩ := f.s.own x _ hx
  exact ⟨a, xs, e, h, r⟩
/-- .. is written -/
theorem Fs.wl {K : PySem.W.Frag} {H0 H : Hp} {Z0 Z : Addr → Prop} {ι0 ι : Nat → Addr} {n0 : Nat} {S : Store} {ρ : SEnv} {σ : St} {x : Nat} {d : PyI.D} {ds' : List PyI.D} {a : Addr} {xs' : List V} (f : Fs K M H0 Z0 ι0 n0 H Z ι S ρ σ) (hx : ρ[x]? = some (.own d)) (ha : σ[x]? = some (some (.ref a))) (r : Reps K H Z ι S.length xs' ds') :
    Fs K M H0 Z0 ι0 n0 (upd H a (.lst xs')) Z ι S (ρ.set x (.own (.lst ds'))) σ ∧ Keep K H Z ι S.length (upd H a (.lst xs')) Z ι S.length :=
  f.wr hx ha fun k => ⟨xs', upd_same, r.keep k⟩
theorem mtM_one {i : Nat} {nm : Str} {e : E} {p : Expr} (c : XT cx sc M cf X) (h : mtM cx sc i nm [e] p = true) : ∃ x px q apos cpos, p = .Call (.Attribute (.Name x px) nm apos) [q] [] cpos ∧ X.N[i]? = some x ∧ Vis X.env.scope x ∧ (x == ("__debug__" : Str)) = false ∧ (x == ("__classdict__" : Str)) = false ∧ (apos.endLine == cpos.line) = true ∧ mtE cx sc e q = true ∧ plain q = true := by
  cases p <;> try (simp [mtM] at h; done)
  rename_i fn args kws cpos
  cases fn <;> try (simp [mtM] at h; done)
  rename_i base nm' apos
  cases base <;> try (simp [mtM] at h; done)
  rcases kws with _ | ⟨k1, kws⟩ <;> rcases args with _ | ⟨p1, _ | ⟨p2, ps⟩⟩ <;> try (simp [mtM] at h; done)
  simp only [mtM, Bool.and_eq_true, decide_eq_true_eq] at h
  obtain ⟨⟨⟨⟨⟨h1, h2⟩, h3⟩, h4⟩, h5⟩, h6⟩ := h
  subst h4
  obtain ⟨q1, q2, _⟩ := okNm_ok h3
  exact ⟨_, _, _, _, _, rfl, nmAt_ok c.toXC h1, vis_ok c.toXC h2, q1, q2, h5, h6.1, h6.2⟩
theorem mtM_two {i : Nat} {nm : Str} {e g : E} {p : Expr} (c : XT cx sc M cf X) (h : mtM cx sc i nm [e, g] p = true) : ∃ x px q r apos cpos, p = .Call (.Attribute (.Name x px) nm apos) [q, r] [] cpos ∧ X.N[i]? = some x ∧ Vis X.env.scope x ∧ (x == ("__debug__" : Str)) = false ∧ (x == ("__classdict__" : Str)) = false ∧ (apos.endLine == cpos.line) = true ∧ mtE cx sc e q = true ∧ plain q = true ∧ mtE cx sc g r = true ∧ plain r = true := by
  cases p <;> try (simp [mtM] at h; done)
  rename_i fn args kws cpos
  cases fn <;> try (simp [mtM] at h; done)
  rename_i base nm' apos
  cases base <;> try (simp [mtM] at h; done)
  rcases kws with _ | ⟨k1, kws⟩ <;> rcases args with _ | ⟨p1, _ | ⟨p2, _ | ⟨p3, ps⟩⟩⟩ <;> try (simp [mtM] at h; done)
  simp only [mtM, Bool.and_eq_true, decide_eq_true_eq] at h
  obtain ⟨⟨⟨⟨⟨h1, h2⟩, h3⟩, h4⟩, h5⟩, h6⟩ := h
  subst h4
  obtain ⟨q1, q2, _⟩ := okNm_ok h3
  exact ⟨_, _, _, _, _, _, rfl, nmAt_ok c.toXC h1, vis_ok c.toXC h2, q1, q2, h5, h6.1.1.1, h6.1.1.2, h6.1.2, h6.2⟩
/-- a method of a built-in list, one argument -/
theorem pe_m1 {o q : Expr} {nm : Str} {id : String} {apos cpos : Pos} {to t : TE} {r : V → List V → Hp → VK → Prop} (hn : ∃ x px, o = .Name x px) (slot : PySem.Slot "list" nm id) (hty : typeOf (.builtin id) = pure (.type "method_descriptor")) (hm : MtR X id r) (ho : PE X o to) (hq : PE X q t) (pq : plain q = true) (hl : (apos.endLine == cpos.line) = true) :
    PE X (.Call (.Attribute o nm apos) [q] [] cpos) (tBM X.K "list" r to (tCons t tNil)) := by
  obtain ⟨x, px, rfl⟩ := hn
  have hs : starEach [q] X.env = (false, eval q X.env) :: starEach [] X.env := star_plain pq
  refine pe_bm PySem.F.plainAttrs_list slot hty hm ho (pa_cons hq pa_nil hs) rfl ?_ hl hs rfl
  rw [hs]; rfl
theorem pe_m1g {o q : Expr} {nm : Str} {id : String} {apos cpos : Pos} {to t : TE} {r : V → List V → Hp → VK → Prop} (hb : okBase o = true) (slot : PySem.Slot "list" nm id) (hty : typeOf (.builtin id) = pure (.type "method_descriptor")) (hm : MtR X id r) (ho : PE X o to) (hq : PE X q t) (pq : plain q = true) (hl : (apos.endLine == cpos.line) = true) :
    PE X (.Call (.Attribute o nm apos) [q] [] cpos) (tBM X.K "list" r to (tCons t tNil)) := by
  have hs : starEach [q] X.env = (false, eval q X.env) :: starEach [] X.env := star_plain pq
  refine pe_bm PySem.F.plainAttrs_list slot hty hm ho (pa_cons hq pa_nil hs) (base_plain hb) ?_ hl hs rfl
  rw [hs]; rfl
theorem pe_m2 {o q q2 : Expr} {nm : Str} {id : String} {apos cpos : Pos} {to t t2 : TE} {r : V → List V → Hp → VK → Prop} (hn : ∃ x px, o = .Name x px) (slot : PySem.Slot "list" nm id) (hty : typeOf (.builtin id) = pure (.type "method_descriptor")) (hm : MtR X id r) (ho : PE X o to) (hq : PE X q t) (pq : plain q = true) (hq2 : PE X q2 t2) (pq2 : plain q2 = true) (hl : (apos.endLine == cpos.line) = true) :
    PE X (.Call (.Attribute o nm apos) [q, q2] [] cpos) (tBM X.K "list" r to (tCons t (tCons t2 tNil))) := by
  obtain ⟨x, px, rfl⟩ := hn
  have hs2 : starEach [q2] X.env = (false, eval q2 X.env) :: starEach [] X.env := star_plain pq2
  have hs : starEach [q, q2] X.env = (false, eval q X.env) :: starEach [q2] X.env := star_plain pq
  refine pe_bm PySem.F.plainAttrs_list slot hty hm ho (pa_cons hq (pa_cons hq2 pa_nil hs2) hs) rfl ?_ hl hs ?_
  · rw [hs, hs2]; rfl
  · rw [hs2]; rfl
theorem szl {n : Nat} (h : n < szL) : n < sizeLine := by rw [sizeLine_eq]; unfold szL at h; omega
theorem szle {n : Nat} (h : n ≤ szL) : n ≤ sizeLine := by rw [sizeLine_eq]; unfold szL at h; omega

theorem t_app {x : Nat} {e : E} {st : Stmt} (c : XT cx sc M cf X) (h : mtT cx sc (.app x e) st = true) : PS X st (tS X.K M cf (.app x e)) := by
  unfold mtT at h
  split at h <;> try (cases h; done)
  all_goals (try contradiction)
  rename_i q; cases q
  obtain ⟨y, py, q, apos, cpos, rfl, w1, w2, w3, w4, w5, w6, w7⟩ := mtM_one c h
  refine PS.imp (ps_expr (pe_m1 ⟨_, _, rfl⟩ PySem.F.slot_list_append PySem.F.type_list_append mt_append (pe_var w1 w2 w3 w4) (sE e c.toXC _ w6).pe w7 w5)) fun D σ H ⟨H0, Z0, ι0, n0, Z, ι, S, ρ, o, f, he, k⟩ => ?_
  simp only [exe] at he
  replace he := andT_inv he
  obtain ⟨d, s, S1, e1, he⟩ := he
  split at he
  rotate_left
  · cases he
  rename_i ds hx
  split at he <;> cases he
  rename_i hz
  obtain ⟨a, xs, ha, hh, _⟩ := f.ol hx
  refine ⟨.ref a, ha, .inl ⟨rfl, _, .inl (.inl hh)⟩, st_f f e1 fun v H1 Z1 ι1 x1 f1 k1 r => ?_⟩
  obtain ⟨a', xs1, ha', hh1, r1⟩ := f1.ol hx
  rw [ha] at ha'
  cases ha'
  obtain ⟨f2, k2⟩ := f1.wl hx ha (r1.append (.cons r .nil))
  exact ⟨a, xs1, v, rfl, rfl, hh1, by rw [r1.length]; exact szl hz, k _ _ _ _ f2 (k1.trans k2) (Same.setL (by simp [T.touch]))⟩
theorem t_ext {x : Nat} {e : E} {st : Stmt} (c : XT cx sc M cf X) (h : mtT cx sc (.ext x e) st = true) : PS X st (tS X.K M cf (.ext x e)) := by
  unfold mtT at h
  split at h <;> try (cases h; done)
  all_goals (try contradiction)
  rename_i q; cases q
  obtain ⟨y, py, q, apos, cpos, rfl, w1, w2, w3, w4, w5, w6, w7⟩ := mtM_one c h
  refine PS.imp (ps_expr (pe_m1 ⟨_, _, rfl⟩ PySem.F.slot_list_extend PySem.F.type_list_extend mt_extend (pe_var w1 w2 w3 w4) (sE e c.toXC _ w6).pe w7 w5)) fun D σ H ⟨H0, Z0, ι0, n0, Z, ι, S, ρ, o, f, he, k⟩ => ?_
  simp only [exe] at he
  replace he := andT_inv he
  obtain ⟨d, s, S1, e1, he⟩ := he
  split at he
  rotate_left
  · cases he
  rename_i es ds hx
  split at he <;> cases he
  rename_i hz
  obtain ⟨a, xs, ha, hh, _⟩ := f.ol hx
  refine ⟨.ref a, ha, .inl ⟨rfl, _, .inl (.inl hh)⟩, st_f f e1 fun v H1 Z1 ι1 x1 f1 k1 r => ?_⟩
  obtain ⟨a', xs1, ha', hh1, r1⟩ := f1.ol hx
  rw [ha] at ha'
  cases ha'
  cases r with
  | lst z hb rr =>
    obtain ⟨f2, k2⟩ := f1.wl hx ha (r1.append rr)
    exact ⟨a, _, xs1, _, rfl, rfl, hh1, hb, by rw [r1.length, rr.length]; exact szle hz, k _ _ _ _ f2 (k1.trans k2) (Same.setL (by simp [T.touch]))⟩
theorem t_ins {x : Nat} {b e : E} {st : Stmt} (c : XT cx sc M cf X) (h : mtT cx sc (.ins x b e) st = true) : PS X st (tS X.K M cf (.ins x b e)) := by
  unfold mtT at h
  split at h <;> try (cases h; done)
  all_goals (try contradiction)
  rename_i q; cases q
  obtain ⟨y, py, q, q', apos, cpos, rfl, w1, w2, w3, w4, w5, w6, w7, w8, w9⟩ := mtM_two c h
  refine PS.imp (ps_expr (pe_m2 ⟨_, _, rfl⟩ PySem.F.slot_list_insert PySem.F.type_list_insert mt_insert (pe_var w1 w2 w3 w4) (sE b c.toXC _ w6).pe w7 (sE e c.toXC _ w8).pe w9 w5)) fun D σ H ⟨H0, Z0, ι0, n0, Z, ι, S, ρ, o, f, he, k⟩ => ?_
  simp only [exe] at he
  replace he := andT_inv he
  obtain ⟨d, s, S1, e1, he⟩ := he
  replace he := andT_inv he
  obtain ⟨d2, s2, S2, e2, he⟩ := he
  split at he
  rotate_left
  · cases he
  rename_i kk ds hx
  split at he <;> cases he
  rename_i hz
  simp only [Bool.and_eq_true, decide_eq_true_eq] at hz
  obtain ⟨⟨z1, z2⟩, z3⟩ := hz
  obtain ⟨a, xs, ha, hh, _⟩ := f.ol hx
  refine ⟨.ref a, ha, .inl ⟨rfl, _, .inl (.inl hh)⟩, st_e f e1 fun v0 H0' Z0' ι0' x0 f0 k0 r0 => st_f f0 e2 fun v H1 Z1 ι1 x1 f1 k1 r => ?_⟩
  obtain ⟨a', xs1, ha', hh1, r1⟩ := f1.ol hx
  rw [ha] at ha'
  cases ha'
  have ev0 := r0.rd.int
  subst ev0
  obtain ⟨f2, k2⟩ := f1.wl hx ha ((r1.take kk.toNat).append (.cons r (r1.drop kk.toNat)))
  refine ⟨a, xs1, kk, v, rfl, rfl, hh1, by rw [r1.length]; exact szl z3, z1, by omega, ?_⟩
  have := k _ _ _ _ f2 (k0.trans (k1.trans k2)) (Same.setL (by simp [T.touch]))
  simpa using this
/-- x.pop(e) -/
theorem pop_step {K : PySem.W.Frag} {H0 H : Hp} {Z0 Z : Addr → Prop} {ι0 ι : Nat → Addr} {n0 : Nat} {S S1 : Store} {ρ : SEnv} {σ : St} {x : Nat} {e : E} {s : Stt} {kk : Int} {ds : List PyI.D} {p : PyI.D} {Q : VK} (f : Fs K M H0 Z0 ι0 n0 H Z ι S ρ σ) (e1 : ev cf e ρ S = some (.int kk, s, S1)) (hx : ρ[x]? = some (.own (.lst ds))) (h0 : 0 ≤ kk) (h1 : kk < 16777216) (hp : ds[kk.toNat]? = some p)
    (k : ∀ v H1 Z1 ι1, Fs K M H0 Z0 ι0 n0 H1 Z1 ι1 S1 (ρ.set x (.own (.lst (ds.eraseIdx kk.toNat)))) σ → Keep K H Z ι S.length H1 Z1 ι1 S1.length → Rep K H1 Z1 ι1 S1.length v p → Q v H1) : tBM K "list" rPopAt (tVar x) (tCons (tE K M cf e) tNil) σ H Q := by
  obtain ⟨a, xs, ha, hh, _⟩ := f.ol hx
  refine ⟨.ref a, ha, .inl ⟨rfl, _, .inl (.inl hh)⟩, st_e f e1 fun v0 H1 Z1 ι1 x1 f1 k1 r0 => ?_⟩
  obtain ⟨a', xs1, ha', hh1, r1⟩ := f1.ol hx
  rw [ha] at ha'
  cases ha'
  have ev0 := r0.rd.int
  subst ev0
  obtain ⟨v, hv, rv⟩ := r1.get hp
  obtain ⟨f2, k2⟩ := f1.wl hx ha (r1.erase kk.toNat)
  have hl : kk.toNat < xs1.length := (List.getElem?_eq_some_iff.mp hv).1
  exact ⟨a, xs1, kk, kk.toNat, v, rfl, rfl, hh1, by omega, by omega, seqIndex_of h0 (by omega), hv, k v _ _ _ f2 (k1.trans k2) (rv.keep k2)⟩
theorem pe_pop {x : Nat} {e : E} {p : Expr} (c : XT cx sc M cf X) (h : mtM cx sc x "pop" [e] p = true) : PE X p (tBM X.K "list" rPopAt (tVar x) (tCons (tE X.K M cf e) tNil)) := by
  obtain ⟨y, py, q, apos, cpos, rfl, w1, w2, w3, w4, w5, w6, w7⟩ := mtM_one c h
  exact pe_m1 ⟨_, _, rfl⟩ PySem.F.slot_list_pop PySem.F.type_list_pop mt_popAt (pe_var w1 w2 w3 w4) (sE e c.toXC _ w6).pe w7 w5
theorem pop_plain {x : Nat} {nm : Str} {es : List E} {p : Expr} (h : mtM cx sc x nm es p = true) : isComp p = false ∧ plain p = true := by
  cases p <;> first | (simp [mtM] at h; done) | exact ⟨rfl, rfl⟩
theorem t_setPop {i x : Nat} {e : E} {st : Stmt} (c : XT cx sc M cf X) (h : mtT cx sc (.setPop i x e) st = true) : PS X st (tS X.K M cf (.setPop i x e)) := by
  unfold mtT at h
  split at h <;> try (cases h; done)
  all_goals (try contradiction)
  rename_i q; cases q
  simp only [Bool.and_eq_true] at h
  obtain ⟨l1, l2⟩ := loc_ok c.toXC (fun x _ => c.fnT x) h.1.2
  refine PS.imp (ps_set c.nd (nmAt_ok c.toXC h.1.1) l1 (pe_pop c h.2) (isComp_sw (pop_plain h.2).1 _ _ _) l2) fun D σ H ⟨H0, Z0, ι0, n0, Z, ι, S, ρ, o, f, he, k⟩ => ?_
  simp only [exe] at he
  replace he := andT_inv he
  obtain ⟨d, s, S1, e1, he⟩ := he
  split at he
  rotate_left
  · cases he
  rename_i kk ds hx
  split at he
  rotate_left
  · cases he
  rename_i hz
  simp only [Bool.and_eq_true, decide_eq_true_eq] at hz
  split at he <;> cases he
  rename_i p hp
  refine pop_step f e1 hx hz.1.1 hz.1.2 hp fun v H1 Z1 ι1 f1 k1 r => ?_
  exact k _ _ _ _ (f1.setv r) k1 ((Same.setL (by simp [T.touch])).trans (Same.set (by simp [T.touch])))
theorem mtM0_ok {i : Nat} {nm : Str} {p : Expr} (c : XT cx sc M cf X) (h : mtM0 cx sc i nm p = true) : ∃ x px apos cpos, p = .Call (.Attribute (.Name x px) nm apos) [] [] cpos ∧ X.N[i]? = some x ∧ Vis X.env.scope x ∧ (x == ("__debug__" : Str)) = false ∧ (x == ("__classdict__" : Str)) = false ∧ (apos.endLine == cpos.line) = true := by
  cases p <;> try (simp [mtM0] at h; done)
  rename_i fn args kws cpos
  cases fn <;> try (simp [mtM0] at h; done)
  rename_i base nm' apos
  cases base <;> try (simp [mtM0] at h; done)
  rcases kws with _ | ⟨k1, kws⟩ <;> rcases args with _ | ⟨p1, ps⟩ <;> try (simp [mtM0] at h; done)
  simp only [mtM0, Bool.and_eq_true, decide_eq_true_eq] at h
  obtain ⟨⟨⟨⟨h1, h2⟩, h3⟩, h4⟩, h5⟩ := h
  subst h4
  obtain ⟨q1, q2, _⟩ := okNm_ok h3
  exact ⟨_, _, _, _, rfl, nmAt_ok c.toXC h1, vis_ok c.toXC h2, q1, q2, h5⟩
theorem Reps.dropLast {K : PySem.W.Frag} {H : Hp} {Z : Addr → Prop} {ι : Nat → Addr} {n : Nat} {xs : List V} {ds : List PyI.D} (r : Reps K H Z ι n xs ds) : Reps K H Z ι n xs.dropLast ds.dropLast := by
  rw [List.dropLast_eq_take, List.dropLast_eq_take, r.length]
  exact r.take _
theorem t_setPop0 {i x : Nat} {st : Stmt} (c : XT cx sc M cf X) (h : mtT cx sc (.setPop0 i x) st = true) : PS X st (tS X.K M cf (.setPop0 i x)) := by
  unfold mtT at h
  split at h <;> try (cases h; done)
  all_goals (try contradiction)
  rename_i q; cases q
  simp only [Bool.and_eq_true] at h
  obtain ⟨l1, l2⟩ := loc_ok c.toXC (fun x _ => c.fnT x) h.1.2
  obtain ⟨y, py, apos, cpos, rfl, w1, w2, w3, w4, w5⟩ := mtM0_ok c h.2
  refine PS.imp (ps_set c.nd (nmAt_ok c.toXC h.1.1) l1 (pe_bm0 PySem.F.plainAttrs_list PySem.F.slot_list_pop PySem.F.type_list_pop mt_pop (pe_var w1 w2 w3 w4) rfl w5) (isComp_sw rfl _ _ _) l2) fun D σ H ⟨H0, Z0, ι0, n0, Z, ι, S, ρ, o, f, he, k⟩ => ?_
  simp only [exe] at he
  split at he
  rotate_left
  · cases he
  rename_i ds hx
  split at he
  · cases he
  rename_i hxi
  split at he <;> cases he
  rename_i p hp
  obtain ⟨a, xs, ha, hh, r1⟩ := f.ol hx
  have hg : ds[ds.length - 1]? = some p := by rw [← List.getLast?_eq_getElem?]; exact hp
  obtain ⟨v, hv, rv⟩ := r1.get hg
  obtain ⟨f2, k2⟩ := f.wl hx ha r1.dropLast
  refine ⟨.ref a, ha, .inl ⟨rfl, _, .inl (.inl hh)⟩, a, xs, v, rfl, rfl, hh, by rw [r1.length]; exact hv, ?_⟩
  exact k _ _ _ _ (f2.setv (rv.keep k2)) k2 ((Same.setL (by simp [T.touch])).trans (Same.set (by simp [T.touch])))
theorem t_appPop {y x : Nat} {e : E} {st : Stmt} (c : XT cx sc M cf X) (h : mtT cx sc (.appPop y x e) st = true) : PS X st (tS X.K M cf (.appPop y x e)) := by
  unfold mtT at h
  split at h <;> try (cases h; done)
  all_goals (try contradiction)
  rename_i q; cases q
  simp only [Bool.and_eq_true, decide_eq_true_eq] at h
  obtain ⟨⟨⟨⟨⟨⟨h1, h2⟩, h3⟩, h4⟩, h5⟩, h6⟩, h7⟩ := h
  subst h4
  obtain ⟨q1, q2, _⟩ := okNm_ok h3
  refine PS.imp (ps_expr (pe_m1 ⟨_, _, rfl⟩ PySem.F.slot_list_append PySem.F.type_list_append mt_append (pe_var (nmAt_ok c.toXC h1) (vis_ok c.toXC h2) q1 q2) (pe_pop c h6) h7 h5)) fun D σ H ⟨H0, Z0, ι0, n0, Z, ι, S, ρ, o, f, he, k⟩ => ?_
  simp only [exe] at he
  replace he := andT_inv he
  obtain ⟨d, s, S1, e1, he⟩ := he
  split at he
  rotate_left
  · cases he
  rename_i kk ds es hx hy
  split at he
  rotate_left
  · cases he
  rename_i hz
  simp only [Bool.and_eq_true, decide_eq_true_eq, Bool.not_eq_true', beq_eq_false_iff_ne] at hz
  obtain ⟨⟨⟨z1, z2⟩, z3⟩, z4⟩ := hz
  split at he <;> cases he
  rename_i p hp
  obtain ⟨b, ys, hb, hh, _⟩ := f.ol hy
  refine ⟨.ref b, hb, .inl ⟨rfl, _, .inl (.inl hh)⟩, pop_step f e1 hx z1 z2 hp fun v H1 Z1 ι1 f1 k1 r => ?_⟩
  have hy1 : (ρ.set x (.own (.lst (ds.eraseIdx kk.toNat))))[y]? = some (.own (.lst es)) := by rw [List.getElem?_set_ne z4]; exact hy
  obtain ⟨b', ys1, hb', hh1, r1⟩ := f1.ol hy1
  rw [hb] at hb'
  cases hb'
  obtain ⟨f2, k2⟩ := f1.wl hy1 hb (r1.append (.cons r .nil))
  exact ⟨b, ys1, v, rfl, rfl, hh1, by rw [r1.length]; exact szl z3, k _ _ _ _ f2 (k1.trans k2) ((Same.setL (by simp [T.touch])).trans (Same.setL (by simp [T.touch])))⟩
theorem t_addPop {i x : Nat} {e : E} {st : Stmt} (c : XT cx sc M cf X) (h : mtT cx sc (.addPop i x e) st = true) : PS X st (tS X.K M cf (.addPop i x e)) := by
  unfold mtT at h
  split at h <;> try (cases h; done)
  all_goals (try contradiction)
  rename_i q; cases q
  simp only [Bool.and_eq_true, decide_eq_true_eq] at h
  obtain ⟨⟨⟨⟨⟨h1, h2⟩, h3⟩, h4⟩, h5⟩, h6⟩ := h
  subst h2
  obtain ⟨q1, q2, _⟩ := okNm_ok h5
  obtain ⟨l1, l2⟩ := loc_ok c.toXC (fun x _ => c.fnT x) h3
  refine PS.imp (ps_set c.nd (nmAt_ok c.toXC h1) l1 (pe_op (opAdd (X := X)) (pe_var (nmAt_ok c.toXC h1) (vis_ok c.toXC h4) q1 q2) (pe_pop c h6)) rfl l2) fun D σ H ⟨H0, Z0, ι0, n0, Z, ι, S, ρ, o, f, he, k⟩ => ?_
  simp only [exe] at he
  split at he
  rotate_left
  · cases he
  rename_i s hi
  replace he := andT_inv he
  obtain ⟨d, st', S1, e1, he⟩ := he
  split at he
  rotate_left
  · cases he
  rename_i kk ds hx
  split at he
  rotate_left
  · cases he
  rename_i hz
  simp only [Bool.and_eq_true, decide_eq_true_eq] at hz
  split at he
  rotate_left
  · cases he
  rename_i t hp
  split at he <;> cases he
  rename_i hl
  obtain ⟨v0, hv0, r0⟩ := f.s.val i _ hi
  cases r0
  refine ⟨_, hv0, pop_step f e1 hx hz.1.1 hz.1.2 hp fun v H1 Z1 ι1 f1 k1 r => ?_⟩
  refine ⟨Z1, ι1, S1.length, .str s, .str t, .str (s ++ t), .inl (.str s), .inl r, by simp only [binD]; rw [if_pos hl], fun w H2 g nv => ?_⟩
  obtain ⟨f2, k2⟩ := f1.ext (Ext.gr g) (f1.h.gr g)
  exact k _ _ _ _ (f2.setv nv) (k1.trans k2) ((Same.setL (by simp [T.touch])).trans (Same.set (by simp [T.touch])))

theorem PSet.or {t t' : TSet} (h : PSet X t) (h' : PSet X t') : PSet X (fun o i v H Q => t o i v H Q ∨ t' o i v H Q) :=
  fun pins s σ H o i v ov iv u Q I r1 r2 r3 q => q.elim (h pins s σ H o i v ov iv u Q I r1 r2 r3) (h' pins s σ H o i v ov iv u Q I r1 r2 r3)
theorem sub_sw {p o i : Expr} {sp : Pos} (env : PySem.Env) (l : Nat) : swapsWithSole [.Subscript o i sp] p l env = pure false := by
  rw [swapsWithSole]
  cases p <;> rfl
theorem sub_ss {p o i : Expr} {sp : Pos} (env : PySem.Env) : swappedStores [.Subscript o i sp] p env = pure none := by
  cases p <;> rfl
theorem sub_as {o i : Expr} {sp : Pos} (h : plain i = true) (env : PySem.Env) : ∀ v, assign (.Subscript o i sp) env v = (do
      let ov ← holding [v] (eval o env)
      let iv ← holding [v, ov] (eval i env)
      standAt sp
      holding [v, ov, iv] (setItem ov iv v)
      release [v, ov, iv] []) := fun v => by
  cases i <;> simp [plain] at h <;> rfl
theorem keyD_kV {K : PySem.W.Frag} {H : Hp} {Z : Addr → Prop} {ι : Nat → Addr} {n : Nat} {v : V} {a : PyI.D} {j : Key} (h : keyD a = some j) (r : RdV K H Z ι n v a) : v = kV j := kv_key r h
theorem t_setIx {x : Nat} {i e : E} {st : Stmt} (c : XT cx sc M cf X) (h : mtT cx sc (.setIx x i e) st = true) : PS X st (tS X.K M cf (.setIx x i e)) := by
  unfold mtT at h
  split at h <;> try (cases h; done)
  all_goals (try contradiction)
  rename_i q; cases q
  simp only [Bool.and_eq_true, decide_eq_true_eq] at h
  obtain ⟨⟨⟨⟨⟨h1, h2⟩, h3⟩, h4⟩, h5⟩, h6⟩ := h
  obtain ⟨q1, q2, _⟩ := okNm_ok h3
  have hu : X.A.units + 1 < cLine := by have := c.units; omega
  refine PS.imp (ps_asg (sE e c.toXC _ h6).pe (pg_sub (pe_var (nmAt_ok c.toXC h1) (vis_ok c.toXC h2) q1 q2) (sE i c.toXC _ h4).pe (PSet.or set_list (set_dict hu)) (sub_as h5 _)) (sub_sw _ _) (sub_ss _)) fun D σ H ⟨H0, Z0, ι0, n0, Z, ι, S, ρ, o, f, he, k⟩ => ?_
  simp only [exe] at he
  replace he := andT_inv he
  obtain ⟨z, s, S1, e1, he⟩ := he
  replace he := andT_inv he
  obtain ⟨kd, s2, S2, e2, he⟩ := he
  refine st_f f e1 fun v H1 Z1 ι1 x1 f1 k1 r => ?_
  split at he
  · rename_i ds kk hx
    split at he <;> cases he
    rename_i j hj
    obtain ⟨a, xs, ha, hh, _⟩ := f1.ol hx
    refine ⟨.ref a, ha, st_e f1 e2 fun v2 H2 Z2 ι2 x2 f2 k2 r2 => ?_⟩
    obtain ⟨a', xs1, ha', hh1, r1⟩ := f2.ol hx
    rw [ha] at ha'
    cases ha'
    have ev2 := r2.rd.int
    subst ev2
    obtain ⟨f3, k3⟩ := f2.wl hx ha (r1.set (r.keep k2) j)
    exact .inl ⟨a, xs1, kk, j, rfl, rfl, hh1, by rw [r1.length]; exact hj, k _ _ _ _ f3 (k1.trans (k2.trans k3)) (Same.setL (by simp [T.touch]))⟩
  · rename_i kd _ _ ks vs hx
    split at he
    rotate_left
    · cases he
    rename_i key hk
    split at he <;> cases he
    rename_i hz
    obtain ⟨a, ha, _, _, _, l⟩ := f1.s.own x _ hx
    refine ⟨.ref a, ha, st_e f1 e2 fun v2 H2 Z2 ι2 x2 f2 k2 r2 => ?_⟩
    obtain ⟨a', ha', _, _, _, kvs, hh1, rk, rv⟩ := f2.s.own x _ hx
    rw [ha] at ha'
    cases ha'
    have ev2 := kv_key r2.rd hk
    subst ev2
    have hl : kvs.length = ks.length := by have := rk.length; simpa using this
    obtain ⟨p1, p2⟩ := putK_rep hk (keyD_rep hk) (r.keep k2) rk rv
    obtain ⟨f3, k3⟩ := f2.wr (u := .dK (putK kvs key v)) (d' := .dict (putD kd z ks vs).1 (putD kd z ks vs).2) hx ha fun kk => ⟨_, upd_same, p1.keep kk, p2.keep kk⟩
    exact .inr ⟨a, _, rfl, DPut.k hh1 (by rw [hl]; exact szl hz), k _ _ _ _ f3 (k1.trans (k2.trans k3)) (Same.setL (by simp [T.touch]))⟩
  · cases he
theorem t_appR {g e : E} {st : Stmt} (c : XT cx sc M cf X) (h : mtT cx sc (.appR g e) st = true) : PS X st (tS X.K M cf (.appR g e)) := by
  unfold mtT at h
  split at h <;> try (cases h; done)
  all_goals (try contradiction)
  rename_i q; cases q
  simp only [Bool.and_eq_true, decide_eq_true_eq] at h
  obtain ⟨⟨⟨⟨⟨h1, h2⟩, h3⟩, h4⟩, h5⟩, h6⟩ := h
  subst h5
  refine PS.imp (ps_expr (pe_m1g h4 PySem.F.slot_list_append PySem.F.type_list_append mt_append (sE g c.toXC _ h1).pe (sE e c.toXC _ h2).pe h3 h6)) fun D σ H ⟨H0, Z0, ι0, n0, Z, ι, S, ρ, o, f, he, k⟩ => ?_
  simp only [exe] at he
  replace he := andT_inv he
  obtain ⟨gd, s2, S1, e1, he⟩ := he
  replace he := andT_inv he
  obtain ⟨z, s3, S2, e2, he⟩ := he
  refine st_e f e1 fun v1 H1 Z1 ι1 x1 f1 k1 r1 => ?_
  split at he
  rotate_left
  · cases he
  rename_i l
  have hv : ∃ hl : l < S1.length, v1 = .ref (ι1 l) := by
    rcases r1.rd with q | ⟨a, _, q⟩
    · cases q with
      | ref hl => exact ⟨hl, rfl⟩
    · exact q.elim
  obtain ⟨hl1, rfl⟩ := hv
  split at he
  rotate_left
  · cases he
  rename_i ds1 ds hx1 hx
  split at he <;> cases he
  rename_i hz
  have h0 : tyV X.K "list" (.ref (ι1 l)) H1 := by
    obtain ⟨xs, hh, _⟩ := f1.h.cell l _ hx1
    exact .inl ⟨rfl, _, SqL.of hh⟩
  refine ⟨h0, st_f f1 e2 fun v H2 Z2 ι2 x2 f2 k2 r => ?_⟩
  have hl2 : l < S2.length := Nat.lt_of_lt_of_le hl1 k2.le
  rw [← k2.ag l hl1]
  have cr := f2.h.cell l _ hx
  obtain ⟨xs, hh, rr⟩ := cr
  obtain ⟨f3, k3⟩ := f2.wrR (u := .lst (xs ++ [v])) (c' := .lst (ds ++ [z])) hl2 (fun o w q => by rw [hh] at q; cases q) fun kk => ⟨_, upd_same, (rr.append (.cons r .nil)).keep kk⟩
  exact ⟨_, xs, v, rfl, rfl, hh, by rw [rr.length]; exact szl hz, k _ _ _ _ f3 (k1.trans (k2.trans k3)) Same.refl⟩
theorem t_setIxR {g i e : E} {st : Stmt} (c : XT cx sc M cf X) (h : mtT cx sc (.setIxR g i e) st = true) : PS X st (tS X.K M cf (.setIxR g i e)) := by
  unfold mtT at h
  split at h <;> try (cases h; done)
  all_goals (try contradiction)
  rename_i q; cases q
  simp only [Bool.and_eq_true, decide_eq_true_eq] at h
  obtain ⟨⟨⟨h1, h2⟩, h3⟩, h4⟩ := h
  have hu : X.A.units + 1 < cLine := by have := c.units; omega
  refine PS.imp (ps_asg (sE e c.toXC _ h4).pe (pg_sub (sE g c.toXC _ h1).pe (sE i c.toXC _ h2).pe (PSet.or set_list (set_dict hu)) (sub_as h3 _)) (sub_sw _ _) (sub_ss _)) fun D σ H ⟨H0, Z0, ι0, n0, Z, ι, S, ρ, o, f, he, k⟩ => ?_
  simp only [exe] at he
  replace he := andT_inv he
  obtain ⟨z, s, S1, e1, he⟩ := he
  replace he := andT_inv he
  obtain ⟨gd, s2, S2, e2, he⟩ := he
  replace he := andT_inv he
  obtain ⟨kd, s3, S3, e3, he⟩ := he
  refine st_f f e1 fun v H1 Z1 ι1 x1 f1 k1 r => st_e f1 e2 fun v2 H2 Z2 ι2 x2 f2 k2 r2 => st_e f2 e3 fun v3 H3 Z3 ι3 x3 f3 k3 r3 => ?_
  split at he
  rotate_left
  · cases he
  rename_i l
  have hv2 : ∃ hl : l < S2.length, v2 = .ref (ι2 l) := by
    rcases r2.rd with q | ⟨a, _, q⟩
    · cases q with
      | ref hl => exact ⟨hl, rfl⟩
    · exact q.elim
  obtain ⟨hl2, rfl⟩ := hv2
  have hl3 : l < S3.length := Nat.lt_of_lt_of_le hl2 k3.le
  rw [← k3.ag l hl2]
  have cr := f3.h.at hl3
  have gl : S3[l]? = some S3[l] := List.getElem?_eq_getElem hl3
  split at he
  · rename_i ds kk hx
    split at he <;> cases he
    rename_i j hj
    rw [gl] at hx
    have hx := Option.some.inj hx
    rw [hx] at cr
    obtain ⟨xs, hh, r1⟩ := cr
    have ev2 := r3.rd.int
    subst ev2
    obtain ⟨f4, k4⟩ := f3.wrR (u := .lst (xs.set j v)) (c' := .lst (ds.set j z)) hl3 (fun o w q => by rw [hh] at q; cases q) fun kk => ⟨_, upd_same, (r1.set ((r.keep k2).keep k3) j).keep kk⟩
    exact .inl ⟨_, xs, kk, j, rfl, rfl, hh, by rw [r1.length]; exact hj, k _ _ _ _ f4 (k1.trans (k2.trans (k3.trans k4))) Same.refl⟩
  · rename_i kd _ _ ks vs hx
    split at he
    rotate_left
    · cases he
    rename_i key hk
    split at he <;> cases he
    rename_i hz
    rw [gl] at hx
    have hx := Option.some.inj hx
    rw [hx] at cr
    obtain ⟨kvs, hh, rk, rv⟩ := cr
    have ev2 := kv_key r3.rd hk
    subst ev2
    have hl : kvs.length = ks.length := by have := rk.length; simpa using this
    obtain ⟨p1, p2⟩ := putK_rep hk (keyD_rep hk) ((r.keep k2).keep k3) rk rv
    obtain ⟨f4, k4⟩ := f3.wrR (u := .dK (putK kvs key v)) (c' := .dict (putD kd z ks vs).1 (putD kd z ks vs).2) hl3 (fun o w q => by rw [hh] at q; cases q) fun kk => ⟨_, upd_same, p1.keep kk, p2.keep kk⟩
    exact .inr ⟨_, _, rfl, DPut.k hh (by rw [hl]; exact szl hz), k _ _ _ _ f4 (k1.trans (k2.trans (k3.trans k4))) Same.refl⟩
  · cases he

theorem putF_rep {K : PySem.W.Frag} {M : Nm} {H : Hp} {Z : Addr → Prop} {ι : Nat → Addr} {n x : Nat} {d : PyI.D} {v : V} (r : Rep K H Z ι n v d) : ∀ {fs : List (Nat × PyI.D)} {gs : List (Str × V)}, gs.map (·.1) = fs.map (fun p => M.fld p.1) → Reps K H Z ι n (gs.map (·.2)) (fs.map (·.2)) →
    (putF (M.fld x) v gs).map (·.1) = (putFD x d fs).map (fun p => M.fld p.1) ∧ Reps K H Z ι n ((putF (M.fld x) v gs).map (·.2)) ((putFD x d fs).map (·.2))
  | [], [], _, _ => ⟨rfl, .cons r .nil⟩
  | [], _ :: _, hk, _ => by simp at hk
  | (y, e) :: fs, [], hk, _ => by simp at hk
  | (y, e) :: fs, (z, w) :: gs, hk, rr => by
    simp only [List.map_cons, List.cons.injEq] at hk
    obtain ⟨rfl, hk⟩ := hk
    cases rr with
    | cons r1 r2 =>
      by_cases e0 : y = x
      · subst e0
        simp only [putF, putFD, if_true, List.map_cons]
        exact ⟨congrArg _ hk, .cons r r2⟩
      · have : ¬ M.fld y = M.fld x := fun q => e0 (M.inj _ _ q)
        simp only [putF, putFD, if_neg e0, if_neg this, List.map_cons]
        obtain ⟨q1, q2⟩ := putF_rep r hk r2
        exact ⟨congrArg _ q1, .cons r1 q2⟩
theorem attr_sw {p q : Expr} {f : Str} {ap : Pos} (env : PySem.Env) (l : Nat) : swapsWith q (some (.Attribute p f ap)) l env = pure false := by
  cases q <;> rfl
/-- a field of an instance of the store is set -/
theorem Fs.fld {K : PySem.W.Frag} {M : Nm} {H0 H : Hp} {Z0 Z : Addr → Prop} {ι0 ι : Nat → Addr} {n0 : Nat} {S : Store} {ρ : SEnv} {σ : St} {l c x : Nat} {fs : List (Nat × PyI.D)} {d : PyI.D} {v : V} (f : Fs K M H0 Z0 ι0 n0 H Z ι S ρ σ) (hx : S[l]? = some (.ins c fs)) (r : Rep K H Z ι S.length v d) :
    ∃ dx gs, H (ι l) = some (.ins (M.cls c) dx gs) ∧ gs.length = fs.length ∧ Fs K M H0 Z0 ι0 n0 (upd H (ι l) (.ins (M.cls c) dx (putF (M.fld x) v gs))) Z ι (S.set l (.ins c (putFD x d fs))) ρ σ ∧
      Keep K H Z ι S.length (upd H (ι l) (.ins (M.cls c) dx (putF (M.fld x) v gs))) Z ι (S.set l (.ins c (putFD x d fs))).length := by
  have hl : l < S.length := (List.getElem?_eq_some_iff.mp hx).1
  obtain ⟨dx, gs, hh, hk, rr⟩ := f.h.cell l _ hx
  obtain ⟨q1, q2⟩ := putF_rep (x := x) r hk rr
  obtain ⟨f2, k2⟩ := f.wrR (u := .ins (M.cls c) dx (putF (M.fld x) v gs)) (c' := .ins c (putFD x d fs)) hl (fun o w q => by rw [hh] at q; cases q) fun kk => ⟨dx, _, upd_same, q1, q2.keep kk⟩
  exact ⟨dx, gs, hh, by simpa using congrArg List.length hk, f2, k2⟩
theorem t_setF {cc x : Nat} {o e : E} {st : Stmt} (c : XT cx sc M cf X) (h : mtT cx sc (.setF cc o x e) st = true) : PS X st (tS X.K M cf (.setF cc o x e)) := by
  unfold mtT at h
  split at h <;> try (cases h; done)
  all_goals (try contradiction)
  rename_i q; cases q
  simp only [Bool.and_eq_true, decide_eq_true_eq] at h
  obtain ⟨⟨⟨h1, h2⟩, h3⟩, h4⟩ := h
  obtain ⟨cl, na, nf⟩ := c.fl cc x _ h2 h1
  refine PS.imp (ps_fld (sE o c.toXC _ h3).pe (sE e c.toXC _ h4).pe (attr_sw _ _)) fun D σ H ⟨H0, Z0, ι0, n0, Z, ι, S, ρ, oo, f, he, k⟩ => ?_
  simp only [exe] at he
  replace he := andT_inv he
  obtain ⟨z, s, S1, e1, he⟩ := he
  replace he := andT_inv he
  obtain ⟨gd, s2, S2, e2, he⟩ := he
  split at he <;> try (cases he; done)
  rename_i l
  split at he <;> try (cases he; done)
  rename_i c' fs hx
  split at he <;> cases he
  rename_i hz
  obtain ⟨rfl, hz⟩ := hz
  refine st_f f e1 fun v H1 Z1 ι1 x1 f1 k1 r => st_e f1 e2 fun v2 H2 Z2 ι2 x2 f2 k2 r2 => ?_
  obtain ⟨dx, gs, hh, hlen, f3, k3⟩ := f2.fld (x := x) hx (r.keep k2)
  rw [nf] at f3 k3
  exact ⟨ι2 l, M.cls c', dx, gs, ref_at r2.rd, hh, cl, na, by omega, k _ _ _ _ f3 (k1.trans (k2.trans k3)) Same.refl⟩
/-- o.x as a target -/
def gFldT (K : PySem.W.Frag) (to : TE) (x : Str) : TG := fun v σ H Q => to σ H fun ov H1 => ∃ a C dx fs, ov = .ref a ∧ H1 a = some (.ins C dx fs) ∧ Cls K C ∧ NoAttr K C x ∧ fs.length < 1000 ∧ Q σ (upd H1 a (.ins C dx (putF x v fs)))
theorem pg_fldT {p : Expr} {x : Str} {pos : Pos} {to : TE} (ho : PE X p to) : PG X (.Attribute p x pos) (gFldT X.K to x) := by
  refine ⟨fun pins s σ H v u Q I r h => ?_⟩
  rw [PySem.assign_Attribute]
  refine wpAny_bind (wpAny_holding (thn (ho.run pins s σ H _ I h) fun ov s1 ⟨y, H1, I1, r1, a, C, dx, fs, ey, ha, cl, na, hl, q⟩ => ?_))
  subst ey
  obtain rfl : ov = Value.ref a := r1
  refine wpAny_bind (wpAny_standAt (wpAny_bind (wpAny_holding (setattr_ok I1 ha cl na hl r fun s2 I2 => ?_))))
  exact wpAny_release ⟨σ, _, I2, q⟩
def tAs (K : PySem.W.Frag) (M : Nm) (cf : CF) (cc : Nat) (o : E) (xs : List Nat) : TGs := fun vs σ H Q => ∃ H0 Z0 ι0 n0 Z ι S ρ ds S', Fs K M H0 Z0 ι0 n0 H Z ι S ρ σ ∧ Reps K H Z ι S.length vs ds ∧ ds.length = xs.length ∧ setFs cc (fun S => ev cf o ρ S) (xs.zip ds) ρ S = some (.nx ρ S') ∧
  ∀ H' Z' ι', Fs K M H0 Z0 ι0 n0 H' Z' ι' S' ρ σ → Keep K H Z ι S.length H' Z' ι' S'.length → Q σ H'
theorem setFs_nx {cc : Nat} {o : Store → R} {ρ : SEnv} : ∀ {l : List (Nat × PyI.D)} {S : Store} {oo : Out}, setFs cc o l ρ S = some oo → ∃ S', oo = .nx ρ S'
  | [], S, oo, h => by simp only [setFs] at h; cases h; exact ⟨_, rfl⟩
  | (x, z) :: r, S, oo, h => by
    simp only [setFs] at h
    obtain ⟨v, s, S2, e1, h⟩ := andT_inv h
    split at h <;> try (cases h; done)
    split at h <;> try (cases h; done)
    split at h <;> try (cases h; done)
    exact setFs_nx h
theorem pgs_as {cc : Nat} {o : E} (c : XT cx sc M cf X) : ∀ {xs : List Nat} {es : List Expr}, mtAs cx sc cc o xs es = true →
    PGs X es (tAs X.K M cf cc o xs) ∧ (assignEach es X.env).length = xs.length ∧ (assignEach es X.env).all (fun x => !x.1) = true
  | [], [], _ => ⟨PGs.imp pgs_nil fun vs σ H Q ⟨H0, Z0, ι0, n0, Z, ι, S, ρ, ds, S', f, r, hl, e, k⟩ => by
      cases ds with
      | nil =>
        cases r
        simp only [List.zip_nil_left, setFs] at e
        cases e
        exact ⟨rfl, k H Z ι f Keep.refl⟩
      | cons d ds => simp at hl, rfl, rfl⟩
  | [], _ :: _, h => by simp [mtAs] at h
  | x :: xs, [], h => by simp [mtAs] at h
  | x :: xs, e :: es, h => by
    cases e <;> try (simp [mtAs] at h; done)
    rename_i p f pos
    simp only [mtAs, Bool.and_eq_true, decide_eq_true_eq] at h
    obtain ⟨⟨⟨h1, h2⟩, h3⟩, h4⟩ := h
    obtain ⟨cl, na, nf⟩ := c.fl cc x _ h2 h1
    obtain ⟨q1, q2, q3⟩ := pgs_as c h4
    refine ⟨PGs.imp (pgs_cons (pg_fldT (sE o c.toXC _ h3).pe) q1) fun vs σ H Q ⟨H0, Z0, ι0, n0, Z, ι, S, ρ, ds, S', f, r, hl, e, k⟩ => ?_, congrArg (· + 1) q2, q3⟩
    cases ds with
    | nil => simp at hl
    | cons d ds =>
      cases r with
      | cons ra rb =>
        simp only [List.zip_cons_cons, setFs] at e
        replace e := andT_inv e
        obtain ⟨gd, s, S2, e1, e⟩ := e
        split at e <;> try (cases e; done)
        rename_i l
        split at e <;> try (cases e; done)
        rename_i c' fs hx
        split at e <;> try (cases e; done)
        rename_i hz
        obtain ⟨rfl, hz⟩ := hz
        refine ⟨_, _, rfl, st_e f e1 fun v2 H2 Z2 ι2 x2 f2 k2 r2 => ?_⟩
        obtain ⟨dx, gs, hh, hlen, f3, k3⟩ := f2.fld (x := x) hx (ra.keep k2)
        rw [nf] at f3 k3
        refine ⟨ι2 l, M.cls c', dx, gs, ref_at r2.rd, hh, cl, na, by omega, H0, Z0, ι0, n0, _, _, _, ρ, ds, S', f3, (rb.keep k2).keep k3, by simpa using hl, e, fun H' Z' ι' f4 k4 => k H' Z' ι' f4 (k2.trans (k3.trans k4))⟩
theorem t_setFT {cc : Nat} {xs : List Nat} {o e : E} {st : Stmt} (c : XT cx sc M cf X) (h : mtT cx sc (.setFT cc o xs e) st = true) : PS X st (tS X.K M cf (.setFT cc o xs e)) := by
  unfold mtT at h
  split at h <;> try (cases h; done)
  all_goals (try contradiction)
  rename_i q; cases q
  simp only [Bool.and_eq_true, Bool.not_eq_true'] at h
  obtain ⟨⟨⟨h1, h2⟩, h3⟩, h4⟩ := h
  obtain ⟨q1, q2, q3⟩ := pgs_as c h1
  refine PS.imp (ps_asg (sE e c.toXC _ h2).pe (pg_tup c.calm q1 q2 (findIdx_none q3)) (by rw [swapsWithSole]; exact isComp_sw h4 _ _ _) (isTup_ss h3 _)) fun D σ H ⟨H0, Z0, ι0, n0, Z, ι, S, ρ, oo, f, he, k⟩ => ?_
  simp only [exe] at he
  replace he := andT_inv he
  obtain ⟨z, s, S1, e1, he⟩ := he
  split at he <;> try (cases he; done)
  rename_i ds
  split at he <;> try (cases he; done)
  rename_i hl
  obtain ⟨S', rfl⟩ := setFs_nx he
  refine st_f f e1 fun v H1 Z1 ι1 x1 f1 k1 r => ?_
  cases r with
  | tup q rr =>
    exact ⟨_, _, rfl, q.sq, rr.length.trans hl, H0, Z0, ι0, n0, Z1, ι1, S1, ρ, ds, S', f1, rr, hl, he, fun H' Z' ι' f2 k2 => k _ _ _ _ f2 (k1.trans k2) Same.refl⟩
/-- an own dict is locked for good -/
theorem Fs.lkx {K : PySem.W.Frag} {M : Nm} {H0 H : Hp} {Z0 Z : Addr → Prop} {ι0 ι : Nat → Addr} {n0 : Nat} {S : Store} {ρ : SEnv} {σ : St} {x : Nat} {ks vs : List PyI.D} (f : Fs K M H0 Z0 ι0 n0 H Z ι S ρ σ) (hx : ρ[x]? = some (.own (.dict ks vs))) :
    ∃ (a : Addr) (kvs : List (Key × V)), H a = some (.dK kvs) ∧ ∀ od, Fs K M H0 Z0 ι0 n0 (upd H a (.frz od (.dK kvs))) Z ι S (ρ.set x (.val (.dictF ks vs))) σ ∧ Keep K H Z ι S.length (upd H a (.frz od (.dK kvs))) Z ι S.length := by
  obtain ⟨a, ha, h0, nz, nf, kvs, hd, r1, r2⟩ := f.s.own x _ hx
  refine ⟨a, kvs, hd, fun od => ?_⟩
  have k : Keep K H Z ι S.length (upd H a (.frz od (.dK kvs))) Z ι S.length := lock_keep hd nz
  refine ⟨⟨lock_ext f.x (fun o q => by rw [h0] at q; cases q) (fun o w q => by rw [hd] at q; cases q), ⟨fun l c q => (f.h.cell l c q).keep k fun o q' => ?_, f.h.inj, f.h.nz, fun b zb q => ?_⟩, ⟨by simp [f.s.len], fun j y e => ?_, fun j y e => ?_, fun i j y z b hij e1 e2 q1 q2 => ?_⟩⟩, k⟩
  · rw [upd_ne]; exact q'
    exact nf l (List.getElem?_eq_some_iff.mp q).1
  · by_cases eb : b = a
    · subst eb; rw [upd_same] at q; cases q
    · rw [upd_ne eb] at q; exact f.h.zs b zb q
  · rcases get_set e with ⟨rfl, q, _⟩ | ⟨hj, q⟩
    · cases q
      exact ⟨.ref a, ha, .dictF upd_same (r1.keep k) (r2.keep k)⟩
    · obtain ⟨v, e1, r⟩ := f.s.val j y q
      exact ⟨v, e1, r.keep k⟩
  · rcases get_set e with ⟨_, q, _⟩ | ⟨hj, q⟩
    · cases q
    · obtain ⟨b, e1, h1, z1, f1, l1⟩ := f.s.own j y q
      refine ⟨b, e1, h1, z1, f1, l1.keep k fun o e => ?_⟩
      rw [upd_ne]; exact e
      rintro rfl
      exact f.s.two j x y _ _ hj q hx e1 ha
  · rcases get_set e1 with ⟨_, q, _⟩ | ⟨_, e1⟩
    · cases q
    rcases get_set e2 with ⟨_, q, _⟩ | ⟨_, e2⟩
    · cases q
    exact f.s.two i j y z b hij e1 e2 q1 q2
theorem ss_tlkx {x : Nat} {ts : Ts} {ps : List Stmt} (h2 : PSs X ps (tSs X.K M cf ts)) : PSs X ps (tSs X.K M cf (.cons (.lkx x) ts)) := by
  refine ⟨fun pins s σ H D I ⟨H0, Z0, ι0, n0, Z, ι, S, ρ, o, f, he, k⟩ => ?_⟩
  simp only [exes, exe] at he
  have htc : (Ts.cons (.lkx x) ts).touch = [x] ++ ts.touch := by simp [Ts.touch, T.touch]
  rw [htc] at k
  split at he
  · rename_i ks vs hx
    obtain ⟨a, kvs, hd, kk⟩ := f.lkx hx
    obtain ⟨od, I2⟩ := I.lock hd mut_dK
    obtain ⟨f2, k2⟩ := kk od
    exact h2.run pins s σ _ D I2 ⟨H0, Z0, ι0, n0, Z, ι, S, _, o, f2, he, k.step k2 (Same.setL (by simp)) (by simp; intro j hj; exact .inr hj)⟩
  · cases he
theorem ss_tnil (h : mtTs cx sc .nil ps = true) : PSs X ps (tSs X.K M cf .nil) := by
  cases ps <;> try (simp [mtTs] at h; done)
  refine PSs.imp pss_nil fun D σ H ⟨H0, Z0, ι0, n0, Z, ι, S, ρ, o, f, he, k⟩ => ?_
  simp only [exes] at he
  cases he
  exact k _ _ _ _ f Keep.refl Same.refl
theorem ss_tcons {t : T} {ts : Ts} {p : Stmt} {ps : List Stmt} (h1 : PS X p (tS X.K M cf t)) (h2 : PSs X ps (tSs X.K M cf ts)) : PSs X (p :: ps) (tSs X.K M cf (.cons t ts)) := by
  refine PSs.imp (pss_cons h1 h2) fun D σ H ⟨H0, Z0, ι0, n0, Z, ι, S, ρ, o, f, he, k⟩ => ?_
  simp only [exes] at he
  have htc : (Ts.cons t ts).touch = t.touch ++ ts.touch := by simp [Ts.touch]
  rw [htc] at k
  cases hx : exe cf t ρ S with
  | none => rw [hx] at he; cases he
  | some o1 =>
    rw [hx] at he
    refine ⟨H0, Z0, ι0, n0, Z, ι, S, ρ, o1, f, hx, ?_⟩
    cases o1 with
    | nx ρ1 S1 =>
      intro σ1 H1 Z1 ι1 f1 k1 s1
      exact ⟨H0, Z0, ι0, n0, Z1, ι1, S1, ρ1, o, f1, he, k.step k1 (s1.mono (by simp; intro j hj; exact .inl hj)) (by simp; intro j hj; exact .inr hj)⟩
    | bk ρ1 S1 => cases he; exact fun σ1 H1 Z1 ι1 f1 k1 s1 => k σ1 H1 Z1 ι1 f1 k1 (s1.mono (by simp; intro j hj; exact .inl hj))
    | ct ρ1 S1 => cases he; exact fun σ1 H1 Z1 ι1 f1 k1 s1 => k σ1 H1 Z1 ι1 f1 k1 (s1.mono (by simp; intro j hj; exact .inl hj))
    | ret d s S1 => cases he; exact k
theorem ss_tfrz {x : Nat} {ts : Ts} {ps : List Stmt} (h2 : PSs X ps (tSs X.K M cf ts)) : PSs X ps (tSs X.K M cf (.cons (.frz x) ts)) := by
  refine PSs.imp h2 fun D σ H ⟨H0, Z0, ι0, n0, Z, ι, S, ρ, o, f, he, k⟩ => ?_
  simp only [exes, exe] at he
  have htc : (Ts.cons (.frz x) ts).touch = [x] ++ ts.touch := by simp [Ts.touch, T.touch]
  rw [htc] at k
  split at he
  · rename_i d hx
    obtain ⟨Z2, f2, k2⟩ := f.frz hx
    exact ⟨H0, Z0, ι0, n0, Z2, ι, S, _, o, f2, he, k.step k2 (Same.setL (by simp)) (by simp; intro j hj; exact .inr hj)⟩
  · cases he
mutual
theorem sT (c : XT cx sc M cf X) : ∀ (t : T) (p : Stmt), mtT cx sc t p = true → PS X p (tS X.K M cf t)
  | .set i e, p, h => t_set c h
  | .setO i e, p, h => t_setO c h
  | .setT is e, p, h => t_setT c h
  | .ifs e a b, p, h => t_ifs c (sTs c a) (sTs c b) h
  | .ret e, p, h => t_ret c h
  | .retO i, p, h => t_retO c h
  | .retN, p, h => t_retN h
  | .for tg it body, p, h => t_for c (sTs c body) h
  | .while n e body, p, h => t_while c (sTs c body) h
  | .brk, p, h => t_brk h
  | .cont, p, h => t_cont h
  | .pass, p, h => t_pass h
  | .rai, p, h => t_rai
  | .ex e, p, h => t_ex c h
  | .app x e, p, h => t_app c h
  | .appPop y x e, p, h => t_appPop c h
  | .forR tg e body, p, h => t_forR c (sTs c body) h
  | .setPop0 i x, p, h => t_setPop0 c h
  | .addPop i x e, p, h => t_addPop c h
  | .setPop i x e, p, h => t_setPop c h
  | .ins x a e, p, h => t_ins c h
  | .ext x e, p, h => t_ext c h
  | .setIx x i e, p, h => t_setIx c h
  | .setIxR o i e, p, h => t_setIxR c h
  | .appR o e, p, h => t_appR c h
  | .frz x, p, h => by cases p <;> simp [mtT] at h
  | .lkx x, p, h => by cases p <;> simp [mtT] at h
  | .setF k o x e, p, h => t_setF c h
  | .setFT k o xs e, p, h => t_setFT c h
theorem sTs (c : XT cx sc M cf X) : ∀ (ts : Ts) (ps : List Stmt), mtTs cx sc ts ps = true → PSs X ps (tSs X.K M cf ts)
  | .nil, ps, h => ss_tnil h
  | .cons t ts, ps, h => by
    by_cases hf : ∃ x, t = .frz x
    · obtain ⟨x, rfl⟩ := hf
      exact ss_tfrz (sTs c ts ps (by simpa [mtTs] using h))
    by_cases hg : ∃ x, t = .lkx x
    · obtain ⟨x, rfl⟩ := hg
      exact ss_tlkx (sTs c ts ps (by simpa [mtTs] using h))
    cases ps with
    | nil => cases t <;> first | (simp [mtTs] at h; done) | exact absurd ⟨_, rfl⟩ hf | exact absurd ⟨_, rfl⟩ hg
    | cons p ps =>
      have h' : mtT cx sc t p = true ∧ mtTs cx sc ts ps = true := by
        cases t <;> first | (simpa [mtTs] using h) | exact absurd ⟨_, rfl⟩ hf | exact absurd ⟨_, rfl⟩ hg
      exact ss_tcons (sT c t p h'.1) (sTs c ts ps h'.2)
end
end
end PyI
namespace PyI
open PySem L2

/-- a def of the program, a method of a class (its number, its name) -/
structure FE where
  id : Nat
  x : Str
  st : Stmt
  N : List Str
  ps : List Str
  fd : FD
  cl : Option (Nat × Str) := none
structure Kn where
  bl : List Str
  gi : List (Str × Int) := []
  gs : List (Str × List Nat) := []
  cs : List (Nat × Str) := []
  fl : List Str := []
def FE.qual (e : FE) : Str := match e.cl with
  | none => e.x
  | some c => c.2 ++ ("." : Str) ++ e.x
def FE.at_ (e : FE) : Str × Option Str := match e.cl with
  | none => (e.x, none)
  | some c => (c.2, some e.x)
def cxFor (tab : List FE) (bl : Kn) (e : FE) : MC := ⟨e.N, fun f => (tab.find? fun e => e.id == f).bind fun e => if e.cl.isNone then some e.x else none, bl.bl, bl.gi, bl.gs, fun c => bl.cs.lookup c, fun f => (tab.find? fun e => e.id == f).bind fun e => e.cl.map fun c => (c.1, e.x), fun x => bl.fl[x]?⟩
def scB (N P : List Str) (sc : Scope) : Bool := decide (sc.kind = .function) && (!sc.isCoroutine && (!sc.isGenerator && (decide N.Nodup && (decide (N.take P.length = P) && (P.all (fun x => (sc.names.lookup x == some .local) || (sc.names.lookup x == some .cell)) && sc.names.all (fun y => !(y.2 == .free)))))))
theorem scB_ok {N P : List Str} {sc : Scope} (h : scB N P sc = true) : FnScope N P sc := by
  simp only [scB, Bool.and_eq_true, decide_eq_true_eq, Bool.not_eq_true'] at h
  obtain ⟨h1, h2, h3, h4, h5, h6, h7⟩ := h
  refine ⟨h1, h2, h3, h4, h5, fun x hx => ?_, fun y hy e => ?_⟩
  · have := List.all_eq_true.mp h6 x hx
    simpa using this
  · have := List.all_eq_true.mp h7 y hy
    rw [e] at this
    cases this
def feB (tab : List FE) (bl : Kn) (e : FE) : Bool := decide (e.fd.np = e.ps.length) && (decide (e.fd.ns = e.N.length) && (decide (e.ps.length ≤ e.N.length) && (scB e.N e.ps (defScope e.st) && mtTs (cxFor tab bl e) (defScope e.st) e.fd.body (defBody e.st))))
def atF (tab : List FE) (f : Nat) : Option FE := tab.find? fun e => e.id == f
def tabF (tab : List FE) : Nat → Option FD := fun f => (atF tab f).map (·.fd)
/-- what stands behind the top -/
structure Pg (K : PySem.W.Frag) (M : Nm) (mg : Str → Option Value) (tab : List FE) (bl : Kn) : Prop where
  fn : ∀ (f : Nat) e, atF tab f = some e → ∃ fa fdt, FunD K e.x e.qual (defArgs e.st) (defBody e.st) (defScope e.st) [] [] fa fdt ∧ Binds K fdt e.ps [] ∧ (e.cl = none → mg e.x = some (.ref fa)) ∧
    ∀ c, e.cl = some c → Cls K (M.cls c.1) ∧ Meth K (M.cls c.1) e.x fa ∧ (∀ x, M.fld x ≠ e.x) ∧ (e.x = ("__init__" : Str) → Mk K (M.cls c.1) fa ∧ ∀ nm, bl.cs.lookup c.1 = some nm → mg nm = some (.ref (M.cls c.1)))
  fr : ∀ x ∈ bl.bl, mg x = none
  gi : ∀ x i, bl.gi.lookup x = some i → ∃ t, mg x = some (.int i t)
  gs : ∀ x i, bl.gs.lookup x = some i → ∃ t, mg x = some (.str (txt i) t)
  fl : ∀ c x s, (bl.cs.lookup c).isSome = true → bl.fl[x]? = some s → Cls K (M.cls c) ∧ NoAttr K (M.cls c) s ∧ M.fld x = s
  ok : ∀ (f : Nat) e, atF tab f = some e → feB tab bl e = true

section
variable {P : Program} {w : World} {K : PySem.W.Frag} {mg : Str → Option Value} {base : Heap} {tab : List FE} {bl : Kn} {M : Nm}
theorem xt_of (pg : Pg K M mg tab bl) {n : Nat} (ih : ∀ (f : Nat) e, atF tab f = some e → ∀ fa fdt, FunD K e.x e.qual (defArgs e.st) (defBody e.st) (defScope e.st) [] [] fa fdt → FnG P w K mg base CX0 (2 * n) fa fdt e.ps (SpD K M (callN (tabF tab) n) f))
    {e : FE} (hs : FnScope e.N e.ps (defScope e.st)) {X : Cx} (h1 : X.env.scope = defScope e.st) (h2 : X.N = e.N) (h3 : X.calm = true) (h4 : Room (2 * n + 1) X.A) (hgd : X.A.guards = some []) (h5 : X.prog = P) (h6 : X.w = w) (h7 : X.K = K) (h8 : X.mg = mg) (h9 : X.base = base) (h10 : ∀ x, X.fn x = true) (h11 : X.xe = fun _ _ => False) :
    XT (cxFor tab bl e) (defScope e.st) M (callN (tabF tab) n) X where
  sc := h1
  N := h2
  nd := by rw [h2]; exact hs.nd
  calm := h3
  units := by have := h4.un; omega
  bl := by rw [h8]; exact pg.fr
  fn := fun f x hx => by
    subst h5 h6 h7 h8 h9
    simp only [cxFor, Option.bind_eq_some_iff] at hx
    obtain ⟨e', he, hx⟩ := hx
    split at hx <;> cases hx
    rename_i hc
    obtain ⟨fa, fdt, F, hb, hm, _⟩ := pg.fn f e' he
    exact ⟨2 * n, fa, fdt, e'.ps, ih f e' he fa fdt F, h4.mono (by omega), hm (by simpa using hc), F.kp, hb⟩
  gi := by rw [h8]; exact pg.gi
  gs := by rw [h8]; exact pg.gs
  gd := hgd
  me := fun f c m hm _ => by
    subst h5 h6 h7 h8 h9
    simp only [cxFor, Option.bind_eq_some_iff, Option.map_eq_some_iff] at hm
    obtain ⟨e', he, ⟨c1, c2⟩, hc, hq⟩ := hm
    cases hq
    obtain ⟨fa, fdt, F, hb, _, hk⟩ := pg.fn f e' he
    obtain ⟨q1, q2, q3, _⟩ := hk _ hc
    exact ⟨2 * n, fa, fdt, e'.ps, ih f e' he fa fdt F, h4.mono (by omega), q1, q2, hb, q3⟩
  mkr := fun f c nm hm hn => by
    subst h5 h6 h7 h8 h9
    simp only [cxFor, Option.bind_eq_some_iff, Option.map_eq_some_iff] at hm
    obtain ⟨e', he, ⟨c1, c2⟩, hc, hq⟩ := hm
    simp only [Prod.mk.injEq] at hq
    obtain ⟨rfl, hx⟩ := hq
    obtain ⟨fa, fdt, F, hb, _, hk⟩ := pg.fn f e' he
    obtain ⟨_, _, _, q4⟩ := hk _ hc
    obtain ⟨q5, q6⟩ := q4 hx
    exact ⟨2 * n, fa, fdt, e'.ps, ih f e' he fa fdt F, h4, q5, q6 nm hn, hb⟩
  fl := fun c x s hc hx => by
    subst h7
    exact pg.fl c x s hc hx
  fnT := h10
  kind := by rw [h1]; exact hs.kind
  po := by rw [h11]; exact PassesOwn.never
theorem sr_start {H : Hp} {Z : Addr → Prop} {ι : Nat → Addr} {n : Nat} {N : List Str} {vs : List V} {ds : List PyI.D} {np ns : Nat} (r : Reps K H Z ι n vs ds) (h1 : ds.length = np) (h2 : ns = N.length) (h3 : np ≤ N.length) :
    SR K H Z ι n H (ds.map PyI.Slot.val ++ List.replicate (ns - np) PyI.Slot.no) (L2.start N vs) := by
  have hl := r.length
  have key : ∀ (i : Nat) s, (ds.map PyI.Slot.val ++ List.replicate (ns - np) PyI.Slot.no)[i]? = some s → (∃ d, ds[i]? = some d ∧ s = .val d) ∨ s = .no := fun i s e => by
    by_cases hi : i < ds.length
    · rw [List.getElem?_append_left (by simpa using hi)] at e
      simp only [List.getElem?_map, Option.map_eq_some_iff] at e
      obtain ⟨d, e1, e2⟩ := e
      exact .inl ⟨d, e1, e2.symm⟩
    · rw [List.getElem?_append_right (by simpa using hi)] at e
      have := List.mem_of_getElem? e
      exact .inr (List.eq_of_mem_replicate this)
  refine ⟨?_, fun i d e => ?_, fun i d e => ?_, fun i j d d' a hij e1 e2 q1 q2 => ?_⟩
  · unfold L2.start; simp; omega
  · rcases key i _ e with ⟨d', e1, e2⟩ | q
    · cases e2
      obtain ⟨v, e3, r1⟩ := r.get e1
      refine ⟨v, ?_, r1⟩
      unfold L2.start
      have hi : i < vs.length := (List.getElem?_eq_some_iff.mp e3).1
      rw [List.getElem?_append_left (by simpa using hi)]
      simp [e3]
    · cases q
  · rcases key i _ e with ⟨d', e1, e2⟩ | q
    · cases e2
    · cases q
  · rcases key i _ e1 with ⟨d', e1, e2⟩ | q
    · cases e2
    · cases q
theorem callN_at {n f : Nat} {e : FE} {ds : List PyI.D} {S : Store} (he : atF tab f = some e) : callN (tabF tab) (n + 1) f ds S = runF (callN (tabF tab) n) e.fd ds S := by
  simp only [callN, tabF, he, Option.map_some]
theorem fn_ok (pg : Pg K M mg tab bl) : ∀ (n f : Nat) e, atF tab f = some e → ∀ fa fdt, FunD K e.x e.qual (defArgs e.st) (defBody e.st) (defScope e.st) [] [] fa fdt → FnG P w K mg base CX0 (2 * n) fa fdt e.ps (SpD K M (callN (tabF tab) n) f)
  | 0, f, e, he, fa, fdt, F => ⟨fun vs H Q E ⟨Z, ι, S, ds, d, st, S', hR, r, h, k⟩ => by simp [callN] at h, fun A outer s H args us vs Q E _ hr e0 hb hv ⟨Z, ι, S, ds, d, st, S', hR, r, h, k⟩ => by simp [callN] at h⟩
  | n + 1, f, e, he, fa, fdt, F => by
    have hok := pg.ok f e he
    simp only [feB, Bool.and_eq_true, decide_eq_true_eq] at hok
    obtain ⟨o1, o2, o3, o4, o5⟩ := hok
    have hs := scB_ok o4
    have h2 : 2 * (n + 1) = (2 * n + 1) + 1 := by omega
    rw [h2]
    refine FunD.okG F hs (fun vs H Q E ⟨Z, ι, S, ds, d, st, S', hR, r, h, k⟩ => ?_) (fun cdv A outer s H vs Q E hg hr ⟨Z, ι, S, ds, d, st, S', hR, r, h, k⟩ => ?_)
    · rw [callN_at he] at h
      unfold runF at h
      split at h
      · rename_i hl
        rw [r.length, hl, o1]
      · cases h
    · refine ⟨tSs K M (callN (tabF tab) n) e.fd.body, PSs.nox ?_, ?_⟩
      · exact sTs (xt_of pg (fn_ok pg n) hs rfl rfl rfl hr hg rfl rfl rfl rfl rfl (fun _ => rfl) rfl) e.fd.body (defBody e.st) o5
      · rw [callN_at he] at h
        unfold runF at h
        split at h
        rotate_left
        · cases h
        rename_i hl
        have f0 : Fs K M H Z ι S.length H Z ι S (ds.map PyI.Slot.val ++ List.replicate (e.fd.ns - e.fd.np) PyI.Slot.no) (L2.start e.N vs) := ⟨Ext.refl, hR, sr_start r hl o2 (by omega)⟩
        split at h
        · rename_i d1 s1 S1 hx
          cases h
          exact ⟨H, Z, ι, S.length, Z, ι, S, _, _, f0, hx, fun v H' Z' ι' x r1 vr => k v H' Z' ι' x r1 vr⟩
        · rename_i ρ1 S1 hx
          cases h
          exact ⟨H, Z, ι, S.length, Z, ι, S, _, _, f0, hx, fun σ' H' Z' ι' f1 _ _ => k .non H' Z' ι' f1.x f1.h Rep.non⟩
        · cases h
/-- the law's own call -/
theorem law_sp {n f : Nat} {H : Hp} {a : Addr} {ns : List Int} {E : XK} (hO : Only H) (hS : SqL K H a (ns.map V.int)) (h : ∃ st S', callN (tabF tab) n f [.scr ns] [] = some (.bl true, st, S')) : SpD K M (callN (tabF tab) n) f [.ref a] H (fun v _ => v = .bl true) E := by
  obtain ⟨st, S', e⟩ := h
  refine ⟨fun _ => False, fun _ => 0, [], [.scr ns], .bl true, st, S', ⟨fun l c q => by simp at q, fun l l' q => by simp at q, fun l q => by simp at q, fun _ q => q.elim⟩, .cons (.scr ?_) .nil, e, fun v H' Z' ι' x r vr => vr.isbl⟩
  rcases hS with (q | ⟨o, q⟩) | q
  · rcases hO a with z | ⟨o, xs, z⟩ <;> rw [z] at q <;> cases q
  · exact .inl ⟨o, q⟩
  · exact .inr q

def FE.d (e : FE) : He.DefD := ⟨e.at_, e.x, e.qual, defArgs e.st, defBody e.st, defScope e.st, [], []⟩
def faFE (e : FE) : List He.Fa := match e.cl with
  | none => [He.Fa.glo e.x]
  | some c => He.Fa.meth c.2 e.x :: (if e.x = ("__init__" : Str) then [He.Fa.mkr c.2, He.Fa.glo c.2] else [])
def faCls (bl : Kn) (c : Nat × Str) : List He.Fa := He.Fa.cls c.2 :: bl.fl.map (fun s => He.Fa.noat c.2 s)
def facts (tab : List FE) (bl : Kn) : List He.Fa := tab.flatMap faFE ++ (bl.bl.map He.Fa.free ++ (bl.gi.map (fun p => He.Fa.int p.1 p.2) ++ (bl.gs.map (fun p => He.Fa.str p.1 (txt p.2)) ++ bl.cs.flatMap (faCls bl))))
theorem lookup_mem {α β : Type} [BEq β] [LawfulBEq β] {x : β} {i : α} : ∀ {l : List (β × α)}, l.lookup x = some i → (x, i) ∈ l
  | [], h => by simp at h
  | (y, j) :: l, h => by
    rw [List.lookup_cons] at h
    split at h
    · rename_i e
      have : x = y := by simpa using e
      subst this
      cases h
      simp
    · exact List.mem_cons_of_mem _ (lookup_mem h)
theorem atF_mem {f : Nat} {e : FE} (h : atF tab f = some e) : ∃ i : Nat, tab[i]? = some e := by
  obtain ⟨i, hi⟩ := List.mem_iff_getElem?.mp (List.mem_of_find?_eq_some h)
  exact ⟨i, hi⟩
theorem fact_mem {x : He.Fa} (c : He.SaysD (facts tab bl) (tab.map FE.d) K) (h : x ∈ facts tab bl) : x.ok K = true := by
  obtain ⟨i, hi⟩ := List.mem_iff_getElem?.mp h
  exact c.fact i hi
/-- fields by their numbers -/
def fldOf (fl : List Str) (x : Nat) : Str := match fl[x]? with
  | some s => s
  | none => ⟨#[1114112 + x]⟩
def flOk (fl : List Str) : Bool := decide fl.Nodup && fl.all (fun s => s.cps.toList.all fun c => decide (c < 1114112) ) && fl.all (fun s => decide (s.cps.size ≠ 0))
theorem fldOf_inj {fl : List Str} (h : flOk fl = true) (x y : Nat) (e : fldOf fl x = fldOf fl y) : x = y := by
  simp only [flOk, Bool.and_eq_true, decide_eq_true_eq] at h
  obtain ⟨⟨hn, ha⟩, hz⟩ := h
  have odd : ∀ (i j : Nat) (s : Str), fl[i]? = some s → s ≠ ⟨#[1114112 + j]⟩ := by
    intro i j s hs q
    have := List.all_eq_true.mp ha s (List.mem_of_getElem? hs)
    rw [q] at this
    simp at this
    omega
  unfold fldOf at e
  cases hx : fl[x]? with
  | some s =>
    cases hy : fl[y]? with
    | some t =>
      rw [hx, hy] at e
      simp only at e
      subst e
      obtain ⟨lx, ex⟩ := List.getElem?_eq_some_iff.mp hx
      obtain ⟨ly, ey⟩ := List.getElem?_eq_some_iff.mp hy
      exact (List.getElem_inj hn).mp (ex.trans ey.symm)
    | none =>
      rw [hx, hy] at e
      exact absurd e (odd x y s hx)
  | none =>
    cases hy : fl[y]? with
    | some t =>
      rw [hx, hy] at e
      exact absurd e.symm (odd y x t hy)
    | none =>
      rw [hx, hy] at e
      simp at e
      omega
def nmOf (K : PySem.W.Frag) (bl : Kn) (h : flOk bl.fl = true) : Nm := ⟨fldOf bl.fl, fun c => He.ga K ((bl.cs.lookup c).getD ""), fldOf_inj h⟩
/-- the table's classes are those that are known; no method's name is a field's -/
def tbOk (tab : List FE) (bl : Kn) : Bool := flOk bl.fl && tab.all fun e => match e.cl with
  | none => true
  | some c => decide (bl.cs.lookup c.1 = some c.2) && !bl.fl.contains e.x && e.x.cps.toList.all fun c => decide (c < 1114112)
theorem pg_of {h : Heap} (X : K.In h) (G : h.Ns mainGlobals mg) (c : He.SaysD (facts tab bl) (tab.map FE.d) K)
    (hb : ∀ (f : Nat) e, atF tab f = some e → ∀ (kV doc pm : Value) (an : Option Addr) (cdv ct : Value) (us : List Value), us.length = e.ps.length → bindArgs (PySem.W.fnOf e.x e.qual (defArgs e.st) (defBody e.st) (defScope e.st) .none kV doc pm an cdv ct) ⟨us, []⟩ = pure (e.ps.zip us))
    (hok : ∀ (f : Nat) e, atF tab f = some e → feB tab bl e = true) (tb : tbOk tab bl = true) (fo : flOk bl.fl = true) : Pg K (nmOf K bl fo) mg tab bl where
  fn := fun f e he => by
    obtain ⟨i, hi⟩ := atF_mem he
    obtain ⟨fdt, F⟩ := c.def_ i (d := e.d) (by rw [List.getElem?_map, hi]; rfl)
    have mem : ∀ x ∈ faFE e, x ∈ facts tab bl := fun x hx => List.mem_append_left _ (List.mem_flatMap.mpr ⟨e, List.mem_of_getElem? hi, hx⟩)
    refine ⟨_, fdt, F, FunD.bindsN F (hb f e he), fun hc => ?_, fun k hc => ?_⟩
    · have := He.glo_ok X G (fact_mem c (mem (He.Fa.glo e.x) (by simp [faFE, hc])))
      rw [this]
      have e1 : e.d.at_ = (e.x, none) := by simp [FE.d, FE.at_, hc]
      rw [e1]
      rfl
    · have tb' : (decide (bl.cs.lookup k.1 = some k.2) && !bl.fl.contains e.x && e.x.cps.toList.all fun c => decide (c < 1114112)) = true := by
        have := (Bool.and_eq_true_iff.mp tb).2
        have := List.all_eq_true.mp this e (List.mem_of_getElem? hi)
        simpa only [hc] using this
      simp only [Bool.and_eq_true, decide_eq_true_eq, Bool.not_eq_true'] at tb'
      obtain ⟨⟨t1, t2⟩, t3⟩ := tb'
      have e0 : (nmOf K bl fo).cls k.1 = He.ga K k.2 := by simp [nmOf, t1]
      have e1 : He.fAd K e.d.at_ = He.ma K (He.ga K k.2) e.x := by simp [FE.d, FE.at_, hc, He.fAd]
      rw [e0, e1]
      refine ⟨He.cls_ok (fact_mem c (x := He.Fa.cls k.2) ?_), He.meth_ok (fact_mem c (mem (He.Fa.meth k.2 e.x) (by simp [faFE, hc]))), fun x q => ?_, fun hx => ⟨?_, fun nm hn => ?_⟩⟩
      · refine List.mem_append_right _ (List.mem_append_right _ (List.mem_append_right _ (List.mem_append_right _ (List.mem_flatMap.mpr ⟨(k.1, k.2), lookup_mem t1, by simp [faCls]⟩))))
      · have q' : fldOf bl.fl x = e.x := q
        unfold fldOf at q'
        cases hx : bl.fl[x]? with
        | some s =>
          rw [hx] at q'
          simp only at q'
          subst q'
          have : bl.fl.contains e.x = true := by simpa using List.mem_of_getElem? hx
          rw [t2] at this; cases this
        | none =>
          rw [hx] at q'
          simp only at q'
          rw [← q'] at t3
          simp at t3
          omega
      · have := He.mkr_ok (fact_mem c (mem (He.Fa.mkr k.2) (by simp [faFE, hc, hx])))
        rw [hx]; exact this
      · have h1 := He.glo_ok X G (fact_mem c (mem (He.Fa.glo k.2) (by simp [faFE, hc, hx])))
        rw [t1] at hn
        cases hn
        exact h1
  fr := fun x hx => He.free_ok X G (fact_mem c (List.mem_append_right _ (List.mem_append_left _ (List.mem_map.mpr ⟨x, hx, rfl⟩))))
  gi := fun x i hx => He.int_ok X G (fact_mem c (List.mem_append_right _ (List.mem_append_right _ (List.mem_append_left _ (List.mem_map.mpr ⟨(x, i), lookup_mem hx, rfl⟩)))))
  gs := fun x i hx => He.str_ok X G (fact_mem c (List.mem_append_right _ (List.mem_append_right _ (List.mem_append_right _ (List.mem_append_left _ (List.mem_map.mpr ⟨(x, i), lookup_mem hx, rfl⟩))))))
  fl := fun k x s hk hx => by
    obtain ⟨nm, hn⟩ := Option.isSome_iff_exists.mp hk
    have e0 : (nmOf K bl fo).cls k = He.ga K nm := by simp [nmOf, hn]
    have mem : ∀ y ∈ faCls bl (k, nm), y ∈ facts tab bl := fun y hy => List.mem_append_right _ (List.mem_append_right _ (List.mem_append_right _ (List.mem_append_right _ (List.mem_flatMap.mpr ⟨(k, nm), lookup_mem hn, hy⟩))))
    rw [e0]
    exact ⟨He.cls_ok (fact_mem c (mem (He.Fa.cls nm) (by simp [faCls]))), He.noat_ok (fact_mem c (mem (He.Fa.noat nm s) (by simp [faCls]; exact List.mem_of_getElem? hx))), by show fldOf bl.fl x = s; simp [fldOf, hx]⟩
  ok := hok
/-- the law's place: what the head's end asks -/
theorem law_at {l : PySem.W.OpenLaw} {h : Heap} {fa : Addr} {e : FE} {f n : Nat} (KX : K.In h) (G : h.Ns mainGlobals mg) (c : He.SaysD (facts tab bl) (tab.map FE.d) K) (hmg : mg ("law" : Str) = some (.ref fa))
    (hb : ∀ (f : Nat) e, atF tab f = some e → ∀ (kV doc pm : Value) (an : Option Addr) (cdv ct : Value) (us : List Value), us.length = e.ps.length → bindArgs (PySem.W.fnOf e.x e.qual (defArgs e.st) (defBody e.st) (defScope e.st) .none kV doc pm an cdv ct) ⟨us, []⟩ = pure (e.ps.zip us))
    (hok : ∀ (f : Nat) e, atF tab f = some e → feB tab bl e = true) (tb : tbOk tab bl = true) (he : atF tab f = some e) (hx : e.x = "law") (hp : e.ps = [("script" : Str)]) (hcl : e.cl = none)
    (plain : ∀ ns : List Int, ns.length ≤ 63 → (∀ z ∈ ns, Builtin.Int.intBits z ≤ 1048576) → ∃ st S', callN (tabF tab) n f [.scr ns] [] = some (.bl true, st, S')) :
    ∃ (K : PySem.W.Frag) (fd : FuncData) (sp : Sp), K.In h ∧ (∀ (s : Shared) (u : Value), BindsTo s fd ⟨[u], []⟩ [(("script" : Str), u)]) ∧
      (∀ (H : Hp) (a : Addr) (ns : List Int), ns.length ≤ 63 → (∀ z ∈ ns, Builtin.Int.intBits z ≤ 1048576) → Only H → SqL K H a (ns.map V.int) → sp [.ref a] H (fun v _ => v = .bl true) fun _ _ _ => False) ∧
      ∀ base : Heap, K.In base → base.Ns mainGlobals mg → FnG l.prog w K mg base CX0 (2 * n) fa fd [("script" : Str)] sp := by
  have fo : flOk bl.fl = true := (Bool.and_eq_true_iff.mp tb).1
  have pg := pg_of KX G c hb hok tb fo
  obtain ⟨i, hi⟩ := atF_mem he
  obtain ⟨fdt, F⟩ := c.def_ i (d := e.d) (by rw [List.getElem?_map, hi]; rfl)
  have hm := He.glo_ok KX G (fact_mem c (x := He.Fa.glo e.x) (List.mem_append_left _ (List.mem_flatMap.mpr ⟨e, List.mem_of_getElem? hi, by simp [faFE, hcl]⟩)))
  have e1 : He.fAd K e.d.at_ = He.ga K e.x := by simp [FE.d, FE.at_, hcl, He.fAd]
  rw [← hx] at hmg
  rw [hmg] at hm
  rw [e1] at F
  cases hm
  refine ⟨K, fdt, SpD K (nmOf K bl fo) (callN (tabF tab) n) f, KX, fun s u => ?_, fun H a ns hl hz hO hS => law_sp hO hS (plain ns hl hz), fun base _ _ => ?_⟩
  · have := FunD.bindsA F (hb f e he) s [u] (by rw [hp]; rfl)
    rw [hp] at this
    exact this
  · have := fn_ok (P := l.prog) (w := w) (base := base) pg n f e he _ fdt F
    rw [hp] at this
    exact this
end
open PySem.Spec in
open PyProof.Rows hiding St in
/-- the law's call, nothing on the stack -/
theorem lawG {P : Program} {w : World} {K : PySem.W.Frag} {mg mb : Str → Option Value} {C0 : CXT} {k : Nat} {fa a : Addr} {fd : FuncData} {x : Str} {sp : Sp} {s0 : Shared} {us : List Value} {ns : List Int}
    (kin : K.In s0.heap) (gl : s0.heap.Ns mainGlobals mg) (gb : s0.heap.Ns builtinsNs mb) (bo : ∀ x : Str, x ≠ "__name__" → mb x = bootBuiltins x) (nolim : s0.heap.NoLimit) (nog : s0.gens = #[])
    (ga : s0.heap.get? a = some { cls := .type "list", data := .seq us.toArray }) (ia : IntsAre us ns) (le : ns.length ≤ sizeLine) (rm : Room k callerA)
    (F : ∀ base : Heap, K.In base → base.Ns mainGlobals mg → FnG P w K mg base C0 k fa fd [x] sp) (bd : ∀ (s : Shared) (u : Value), BindsTo s fd ⟨[u], []⟩ [(x, u)])
    (want : ∀ H : Hp, Only H → SqL K H a (ns.map V.int) → sp [.ref a] H (fun v _ => v = .bl true) fun _ _ _ => False)
    (noX : ∀ H e s', C0 [] H s0 (fun _ _ _ => False) e s' → False) :
    codeAny (model P w) callerA (.call (.ref fa) ⟨[.ref a], []⟩) (fun r s' => r = .ok (.ret (.bool true)) ∧ OldK s0.heap s'.heap ∧ s'.os = s0.os ∧ AllBare s'.gens) s0 := by
  have rv := vals_ints ia
  have lu := ia.length
  have go : ∀ H : Hp, Only H → SqL K H a (ns.map V.int) → HOk P w H s0.heap → (∀ b, H b ≠ none → b = a) → (H a ≠ none → K.lookup a = none) →
      codeAny (model P w) callerA (.call (.ref fa) ⟨[.ref a], []⟩) (fun r s' => r = .ok (.ret (.bool true)) ∧ OldK s0.heap s'.heap ∧ s'.os = s0.os ∧ AllBare s'.gens) s0 := by
    intro H hO hS hok only noK
    have there : ∀ {b : Addr} {o : Obj}, s0.heap.get? b = some o → H b = none → (hidT s0.heap H).get? b = some o := fun e n => hidT_get e n
    have dictFree : ∀ {b : Addr} {o : Obj} {es : Array DictEntry} {ep : Nat}, s0.heap.get? b = some o → o.data = .dict es ep → H b = none := by
      intro b o es ep e d
      cases q : H b with
      | none => rfl
      | some u =>
        have eb : b = a := only b (by rw [q]; simp)
        subst eb
        rw [ga] at e
        cases e
        cases (show Data.seq us.toArray _ = Data.dict es ep from d)
    have ns_ : ∀ {b : Addr} {m : Str → Option Value}, s0.heap.Ns b m → (hidT s0.heap H).Ns b m := fun ⟨o, es, ep, e, d, r⟩ => ⟨o, es, ep, there e (dictFree e d), d, r⟩
    have kin' : K.In (hidT s0.heap H) := by
      intro b o e
      refine there (kin b o e) ?_
      cases q : H b with
      | none => rfl
      | some u =>
        have eb : b = a := only b (by rw [q]; simp)
        subst eb
        rw [noK (by rw [q]; simp)] at e
        cases e
    have md : Mod K mg (hidT s0.heap H) := ⟨kin', ns_ gl, ⟨mb, ns_ gb, bo⟩, let ⟨mc, q1, q2⟩ := nolim; ⟨mc, ns_ q1, q2⟩⟩
    have en : Env0 P w K mg (hidT s0.heap H) callerA [] s0 H := ⟨rfl, md, fun b o e => of_hidT e, Nat.le_of_eq (hidT_size _ _), trivial, fun b hb => absurd (show b ∈ ([] : List Addr) from hb) (by simp), hok, .of_eq nog⟩
    refine codeAny_mono ((F _ kin' (ns_ gl)).run callerA [] s0 H ⟨[.ref a], []⟩ [.ref a] [.ref a] _ _ rfl rm en (bd s0 (.ref a)) (.cons rfl .nil) (want H hO hS)) fun r s' h => ?_
    cases r with
    | error e => exact (noX H e s' h).elim
    | ok fl =>
      cases fl with
      | ret u =>
        obtain ⟨v, H', os, bare, un, hok', ru, rfl⟩ := h
        obtain rfl : u = Value.bool true := ru
        refine ⟨rfl, OldK.of_keep fun b o e => ?_, os, bare⟩
        cases q : H b with
        | none => exact un.keep b o e q (by intro z; exact absurd (show b ∈ ([] : List Addr) from z) (by simp)) (by simp)
        | some u =>
          rcases hO b with z | ⟨ob, xs, z⟩
          · rw [q] at z; cases z
          · obtain ⟨e1, _⟩ := hok b _ z
            obtain ⟨e2, _⟩ := hok' b _ (un.frzs b ob _ z)
            rw [e] at e1
            cases e1
            exact e2
      | _ => exact False.elim h
  cases hk : K.lookup a with
  | some o =>
    have e := kin a o hk
    rw [ga] at e
    cases e
    have sq : SqL K (fun _ => none) a (ns.map V.int) := .inr ⟨_, us.toArray, _, hk, rfl, rfl, rfl, by rw [List.size_toArray, lu]; exact le, by simpa using rv⟩
    exact go (fun _ => none) (fun _ => .inl rfl) sq (fun b u z => nomatch (show (none : Option HO) = some u from z)) (fun b z => absurd rfl z) fun z => absurd rfl z
  | none =>
    let Hs : Hp := fun b => if b = a then some (.frz { cls := .type "list", data := .seq us.toArray } (.lst (ns.map V.int))) else none
    have at_ : Hs a = some (.frz { cls := .type "list", data := .seq us.toArray } (.lst (ns.map V.int))) := if_pos rfl
    have off : ∀ {b : Addr}, b ≠ a → Hs b = none := fun hb => if_neg hb
    refine go Hs (fun b => ?_) (.inl (.inr ⟨_, at_⟩)) (fun b u z => ?_) (fun b z => ?_) fun _ => hk
    · by_cases hb : b = a
      · subst hb; exact .inr ⟨_, _, at_⟩
      · exact .inl (off hb)
    · by_cases hb : b = a
      · subst hb
        rw [at_] at z
        cases z
        exact ⟨ga, by rw [List.length_map]; exact le, us, _, rv, ga⟩
      · rw [off hb] at z
        cases z
    · by_cases hb : b = a
      · exact hb
      · exact absurd (off hb) z
/-- the head's end, the script's numbers bounded -/
theorem walk_ofEB {l : PySem.W.OpenLaw} {n k : Nat} {q : Program} {loose : List Str} {XP : (Str → Option Value) → Heap → Prop} {YP : World → Heap → Prop} {d : DefRec} {C0 : CXT} {x : Str}
    (most : l.most = some n) (line : n ≤ sizeLine) (noDfl : d.params.defaults = []) (room : Room k callerA)
    (at_ : ∀ (w : World) (mg : Str → Option Value) (fa : Addr) (h : Heap), YP w h → h.Ns mainGlobals mg → mg d.name = some (.ref fa) →
      ∃ (K : PySem.W.Frag) (fd : FuncData) (sp : Sp), K.In h ∧ (∀ (s : Shared) (u : Value), BindsTo s fd ⟨[u], []⟩ [(x, u)]) ∧
        (∀ (H : Hp) (a : Addr) (ns : List Int), ns.length ≤ n → (∀ z ∈ ns, Builtin.Int.intBits z ≤ 1048576) → Only H → SqL K H a (ns.map V.int) → sp [.ref a] H (fun v _ => v = .bl true) fun _ _ _ => False) ∧
        ∀ base : Heap, K.In base → base.Ns mainGlobals mg → FnG l.prog w K mg base C0 k fa fd [x] sp)
    (out : ∀ (H : Hp) (s : Shared) (e : Value) (s' : Shared), C0 [] H s (fun _ _ _ => False) e s' → False) :
    PySem.W.WalkO q loose XP YP l.row.toRowW d [] (fun f vs => PySem.call f vs) := by
  refine Att.attach_callB most noDfl fun w s0 s1 mg mb fa o pm cd doc a vs ns G Y ho hd hcd hmg hobj hints hlen hbits hg => ?_
  obtain ⟨K, fd, sp, kIn, bnd, prm, okF⟩ := at_ w mg fa _ Y G.T.g hmg
  exact lawG kIn G.T.g G.T.b G.T.builtins G.T.nolimit hg hobj hints (Nat.le_trans hlen line) room okF bnd (fun H only sq => prm H a ns hlen hbits only sq) fun H e s' => out H s1 e s'
end PyI
namespace PyI
open PySem L2

/-- an expression's run and what is wanted of it -/
def EW (cf : CF) (e : E) (ρ : SEnv) (S : Store) (Q : D → Stt → Store → Prop) : Prop := ∃ d s S', ev cf e ρ S = some (d, s, S') ∧ Q d s S'
def FW (cf : CF) (es : Es) (ρ : SEnv) (S : Store) (Q : List D → Store → Prop) : Prop := ∃ d S', evF cf es ρ S = some (d, S') ∧ Q d S'
def RW (cf : CF) (es : Es) (ρ : SEnv) (S : Store) (Q : List D → Store → Prop) : Prop := ∃ d S', evR cf es ρ S = some (d, S') ∧ Q d S'
def IW (cf : CF) (it : I) (ρ : SEnv) (S : Store) (Q : List D → Store → Prop) : Prop := ∃ d S', evI cf it ρ S = some (d, S') ∧ Q d S'
def XW (cf : CF) (t : T) (ρ : SEnv) (S : Store) (Q : Out → Prop) : Prop := ∃ o, exe cf t ρ S = some o ∧ Q o
def XsW (cf : CF) (t : Ts) (ρ : SEnv) (S : Store) (Q : Out → Prop) : Prop := ∃ o, exes cf t ρ S = some o ∧ Q o
def CW (cf : CF) (f : Nat) (ds : List D) (S : Store) (Q : D → Stt → Store → Prop) : Prop := ∃ d s S', cf f ds S = some (d, s, S') ∧ Q d s S'
/-- a value that there is -/
def OW (x : Option D) (Q : D → Prop) : Prop := ∃ d, x = some d ∧ Q d
@[simp] theorem OW_some (d : D) (Q : D → Prop) : OW (some d) Q ↔ Q d := ⟨fun ⟨_, e, q⟩ => by cases e; exact q, fun q => ⟨d, rfl, q⟩⟩

def slotV (ρ : SEnv) (i : Nat) : Option D := match ρ[i]? with | some (.val d) => some d | _ => none
def slotO (ρ : SEnv) (i : Nat) : Option D := match ρ[i]? with | some (.own d) => some d | _ => none
section
variable {cf : CF} {ρ : SEnv} {S : Store} {Q : D → Stt → Store → Prop}
theorem someW {d0 : D} {s0 : Stt} {S0 : Store} : (∃ d s S', (some (d0, s0, S0) : R) = some (d, s, S') ∧ Q d s S') ↔ Q d0 s0 S0 := ⟨fun ⟨_, _, _, e, q⟩ => by cases e; exact q, fun q => ⟨_, _, _, rfl, q⟩⟩
theorem noneW : (∃ d s S', (none : R) = some (d, s, S') ∧ Q d s S') ↔ False := ⟨fun ⟨_, _, _, e, _⟩ => (nomatch e), False.elim⟩
theorem EW_var {i : Nat} : EW cf (.var i) ρ S Q ↔ OW (slotV ρ i) fun d => Q d .fr S := by
  unfold EW slotV
  simp only [ev]
  split
  · rename_i d hd; simp only [someW, hd, OW_some]
  · simp only [noneW]; exact ⟨False.elim, fun ⟨_, e, _⟩ => nomatch e⟩
theorem EW_own {i : Nat} : EW cf (.own i) ρ S Q ↔ OW (slotO ρ i) fun d => Q d .own S := by
  unfold EW slotO
  simp only [ev]
  split
  · rename_i d hd; simp only [someW, hd, OW_some]
  · simp only [noneW]; exact ⟨False.elim, fun ⟨_, e, _⟩ => nomatch e⟩
theorem EW_non : EW cf .non ρ S Q ↔ Q .non .fr S := by unfold EW; simp only [ev, someW]
theorem EW_bl {b : Bool} : EW cf (.bl b) ρ S Q ↔ Q (.bl b) .fr S := by unfold EW; simp only [ev, someW]
theorem EW_int {b : Int} : EW cf (.int b) ρ S Q ↔ Q (.int b) .fr S := by unfold EW; simp only [ev, someW]
theorem EW_str {b : List Nat} : EW cf (.str b) ρ S Q ↔ Q (.str b) .fr S := by unfold EW; simp only [ev, someW]
theorem andT_iff {x : R} {f : D → Stt → Store → R} : (∃ d s S', andT x f = some (d, s, S') ∧ Q d s S') ↔ ∃ d s S', x = some (d, s, S') ∧ ∃ d' s' S'', f d s S' = some (d', s', S'') ∧ Q d' s' S'' := by
  cases x with
  | none => simp
  | some p =>
    obtain ⟨d, s, S'⟩ := p
    exact ⟨fun h => ⟨d, s, S', rfl, h⟩, fun ⟨_, _, _, e, h⟩ => by cases e; exact h⟩
theorem opt_iff {x : Option D} : (∃ d s S', opt x S = some (d, s, S') ∧ Q d s S') ↔ OW x fun d => Q d (stD d) S := by
  cases x with
  | none => simp [OW]
  | some d => simp only [opt_some, ok, someW, OW_some]
theorem EW_bin {o : Op2} {a b : E} : EW cf (.bin o a b) ρ S Q ↔ EW cf a ρ S fun x _ S1 => EW cf b ρ S1 fun y _ S2 => OW (binD o (rd S2 x) (rd S2 y)) fun d => Q d (stD d) S2 := by
  unfold EW; simp only [ev, andT_iff, opt_iff]
theorem EW_rev {a : E} : EW cf (.rev a) ρ S Q ↔ EW cf a ρ S fun x _ S1 => OW (backD (rd S1 x)) fun d => Q d (stD d) S1 := by
  unfold EW; simp only [ev, andT_iff, opt_iff]
theorem EW_neg {a : E} : EW cf (.neg a) ρ S Q ↔ EW cf a ρ S fun x _ S1 => match x with | .int i => Q (.int (-i)) .fr S1 | _ => False := by
  unfold EW; simp only [ev, andT_iff]
  constructor
  · rintro ⟨d, s, S', e, d', s', S'', e2, q⟩
    refine ⟨d, s, S', e, ?_⟩
    split at e2 <;> cases e2
    exact q
  · rintro ⟨d, s, S', e, q⟩
    refine ⟨d, s, S', e, ?_⟩
    split at q
    · exact ⟨_, _, _, rfl, q⟩
    · exact q.elim
theorem EW_not {a : E} : EW cf (.not a) ρ S Q ↔ EW cf a ρ S fun x _ S1 => match x with | .bl i => Q (.bl (!i)) .fr S1 | _ => False := by
  unfold EW; simp only [ev, andT_iff]
  constructor
  · rintro ⟨d, s, S', e, d', s', S'', e2, q⟩
    refine ⟨d, s, S', e, ?_⟩
    split at e2 <;> cases e2
    exact q
  · rintro ⟨d, s, S', e, q⟩
    refine ⟨d, s, S', e, ?_⟩
    split at q
    · exact ⟨_, _, _, rfl, q⟩
    · exact q.elim
/-- by a truth -/
def BW (x : D) (p q : Prop) : Prop := match x with | .bl true => p | .bl false => q | _ => False
@[simp] theorem BW_t {p q : Prop} : BW (.bl true) p q ↔ p := Iff.rfl
@[simp] theorem BW_f {p q : Prop} : BW (.bl false) p q ↔ q := Iff.rfl
theorem BW_bl {b : Bool} {p q : Prop} : BW (.bl b) p q ↔ (if b = true then p else q) := by cases b <;> simp
theorem BW_dec {c : Prop} [Decidable c] {p q : Prop} : BW (.bl (decide c)) p q ↔ (c → p) ∧ (¬ c → q) := by
  by_cases h : c <;> simp [h]
theorem EW_and {a b : E} : EW cf (.and a b) ρ S Q ↔ EW cf a ρ S fun x _ S1 => BW x (EW cf b ρ S1 Q) (Q (.bl false) .fr S1) := by
  unfold EW; simp only [ev, andT_iff]
  constructor
  · rintro ⟨d, s, S', e, d', s', S'', e2, q⟩
    refine ⟨d, s, S', e, ?_⟩
    split at e2
    · exact ⟨_, _, _, e2, q⟩
    · cases e2; exact q
    · cases e2
  · rintro ⟨d, s, S', e, q⟩
    refine ⟨d, s, S', e, ?_⟩
    unfold BW at q
    split at q
    · exact q
    · exact ⟨_, _, _, rfl, q⟩
    · exact q.elim
theorem EW_or {a b : E} : EW cf (.or a b) ρ S Q ↔ EW cf a ρ S fun x _ S1 => BW x (Q (.bl true) .fr S1) (EW cf b ρ S1 Q) := by
  unfold EW; simp only [ev, andT_iff]
  constructor
  · rintro ⟨d, s, S', e, d', s', S'', e2, q⟩
    refine ⟨d, s, S', e, ?_⟩
    split at e2
    · cases e2; exact q
    · exact ⟨_, _, _, e2, q⟩
    · cases e2
  · rintro ⟨d, s, S', e, q⟩
    refine ⟨d, s, S', e, ?_⟩
    unfold BW at q
    split at q
    · exact ⟨_, _, _, rfl, q⟩
    · exact q
    · exact q.elim
theorem EW_ite {c a b : E} : EW cf (.ite c a b) ρ S Q ↔ EW cf c ρ S fun x _ S1 => BW x (EW cf a ρ S1 Q) (EW cf b ρ S1 Q) := by
  unfold EW; simp only [ev, andT_iff]
  constructor
  · rintro ⟨d, s, S', e, d', s', S'', e2, q⟩
    refine ⟨d, s, S', e, ?_⟩
    split at e2
    · exact ⟨_, _, _, e2, q⟩
    · exact ⟨_, _, _, e2, q⟩
    · cases e2
  · rintro ⟨d, s, S', e, q⟩
    refine ⟨d, s, S', e, ?_⟩
    unfold BW at q
    split at q
    · exact q
    · exact q
    · exact q.elim
theorem EW_chain {o1 o2 : Op2} {a b c : E} : EW cf (.chain o1 o2 a b c) ρ S Q ↔ EW cf a ρ S fun x _ S1 => EW cf b ρ S1 fun y _ S2 => OW (binD o1 (rd S2 x) (rd S2 y)) fun t => BW t (EW cf c ρ S2 fun z _ S3 => OW (binD o2 (rd S3 y) (rd S3 z)) fun d => Q d (stD d) S3) (Q (.bl false) .fr S2) := by
  unfold EW; simp only [ev, andT_iff]
  constructor
  · rintro ⟨d, s, S', e, d2, s2, S2, e2, d3, s3, S3, e3, q⟩
    refine ⟨d, s, S', e, d2, s2, S2, e2, ?_⟩
    split at e3
    · rename_i h
      rw [h]
      simp only [OW_some, BW_t]
      have := andT_iff.mp ⟨_, _, _, e3, q⟩
      obtain ⟨d4, s4, S4, e4, h4⟩ := this
      exact ⟨d4, s4, S4, e4, opt_iff.mp h4⟩
    · rename_i h
      rw [h]
      cases e3
      simp only [OW_some, BW_f]
      exact q
    · cases e3
  · rintro ⟨d, s, S', e, d2, s2, S2, e2, t, ht, q⟩
    refine ⟨d, s, S', e, d2, s2, S2, e2, ?_⟩
    rw [ht]
    unfold BW at q
    split at q
    · obtain ⟨d4, s4, S4, e4, h4⟩ := q
      exact andT_iff.mpr ⟨d4, s4, S4, e4, opt_iff.mpr h4⟩
    · exact ⟨_, _, _, rfl, q⟩
    · exact q.elim
theorem EW_chain3 {o1 o2 o3 : Op2} {a b c d : E} {Q : D → Stt → Store → Prop} : EW cf (.chain3 o1 o2 o3 a b c d) ρ S Q ↔ EW cf a ρ S fun x _ S1 => EW cf b ρ S1 fun y _ S2 => OW (binD o1 (rd S2 x) (rd S2 y)) fun t => BW t (EW cf c ρ S2 fun z _ S3 => OW (binD o2 (rd S3 y) (rd S3 z)) fun t2 => BW t2 (EW cf d ρ S3 fun w _ S4 => OW (binD o3 (rd S4 z) (rd S4 w)) fun r => Q r (stD r) S4) (Q (.bl false) .fr S3)) (Q (.bl false) .fr S2) := by
  unfold EW; simp only [ev, andT_iff]
  constructor
  · rintro ⟨d, s, S', e, d2, s2, S2, e2, d3, s3, S3, e3, q⟩
    refine ⟨d, s, S', e, d2, s2, S2, e2, ?_⟩
    split at e3
    · rename_i h
      rw [h]
      simp only [OW_some, BW_t]
      have := andT_iff.mp ⟨_, _, _, e3, q⟩
      obtain ⟨d4, s4, S4, e4, h4⟩ := this
      refine ⟨d4, s4, S4, e4, ?_⟩
      obtain ⟨d5, s5, S5, e5, h5⟩ := h4
      split at e5
      · rename_i h2
        rw [h2]
        simp only [OW_some, BW_t]
        have := andT_iff.mp ⟨_, _, _, e5, h5⟩
        obtain ⟨d6, s6, S6, e6, h6⟩ := this
        exact ⟨d6, s6, S6, e6, opt_iff.mp h6⟩
      · rename_i h2
        rw [h2]
        cases e5
        simp only [OW_some, BW_f]
        exact h5
      · cases e5
    · rename_i h
      rw [h]
      cases e3
      simp only [OW_some, BW_f]
      exact q
    · cases e3
  · rintro ⟨d, s, S', e, d2, s2, S2, e2, t, ht, q⟩
    refine ⟨d, s, S', e, d2, s2, S2, e2, ?_⟩
    rw [ht]
    unfold BW at q
    split at q
    · obtain ⟨d4, s4, S4, e4, t2, ht2, q2⟩ := q
      refine andT_iff.mpr ⟨d4, s4, S4, e4, ?_⟩
      rw [ht2]
      split at q2
      · obtain ⟨d6, s6, S6, e6, h6⟩ := q2
        exact andT_iff.mpr ⟨d6, s6, S6, e6, opt_iff.mpr h6⟩
      · exact ⟨_, _, _, rfl, q2⟩
      · exact q2.elim
    · exact ⟨_, _, _, rfl, q⟩
    · exact q.elim
theorem EW_ix {a i : E} : EW cf (.ix a i) ρ S Q ↔ EW cf a ρ S fun x _ S1 => EW cf i ρ S1 fun y _ S2 => OW (ixD (rd S2 x) y) fun d => Q d .fr S2 := by
  unfold EW; simp only [ev, andT_iff]
  constructor
  · rintro ⟨d, s, S', e, d2, s2, S2, e2, d3, s3, S3, e3, q⟩
    refine ⟨d, s, S', e, d2, s2, S2, e2, ?_⟩
    split at e3 <;> cases e3
    rename_i h
    exact ⟨_, h, q⟩
  · rintro ⟨d, s, S', e, d2, s2, S2, e2, t, ht, q⟩
    refine ⟨d, s, S', e, d2, s2, S2, e2, ?_⟩
    rw [ht]
    exact ⟨_, _, _, rfl, q⟩
theorem EW_tup {es : Es} : EW cf (.tup es) ρ S Q ↔ FW cf es ρ S fun ds S1 => ds.length ≤ szL ∧ Q (.tup ds) .fr S1 := by
  unfold EW FW; simp only [ev]
  constructor
  · rintro ⟨d, s, S', e, q⟩
    split at e
    · rename_i ds S1 h
      split at e <;> cases e
      rename_i hl
      exact ⟨_, _, h, hl, q⟩
    · cases e
  · rintro ⟨ds, S1, h, hl, q⟩
    exact ⟨_, _, _, by rw [h]; simp only [hl, if_true], q⟩
theorem EW_lst {es : Es} : EW cf (.lst es) ρ S Q ↔ FW cf es ρ S fun ds S1 => ds.length ≤ szL ∧ Q (.lst ds) .fresh S1 := by
  unfold EW FW; simp only [ev]
  constructor
  · rintro ⟨d, s, S', e, q⟩
    split at e
    · rename_i ds S1 h
      split at e <;> cases e
      rename_i hl
      exact ⟨_, _, h, hl, q⟩
    · cases e
  · rintro ⟨ds, S1, h, hl, q⟩
    exact ⟨_, _, _, by rw [h]; simp only [hl, if_true], q⟩
theorem EW_bi {f : Bi} {es : Es} : EW cf (.bi f es) ρ S Q ↔ RW cf es ρ S fun ds S1 => OW (biD f (ds.map (rd S1))) fun d => Q d (stD d) S1 := by
  unfold EW RW; simp only [ev]
  constructor
  · rintro ⟨d, s, S', e, q⟩
    split at e
    · rename_i ds S1 h
      exact ⟨_, _, h, opt_iff.mp ⟨_, _, _, e, q⟩⟩
    · cases e
  · rintro ⟨ds, S1, h, q⟩
    rw [h]
    exact opt_iff.mpr q
theorem EW_me {m : Me} {o : E} {es : Es} : EW cf (.me m o es) ρ S Q ↔ EW cf o ρ S fun x _ S1 => meK m (rd S1 x) = true ∧ RW cf es ρ S1 fun ds S2 => OW (meD m (rd S2 x) (ds.map (rd S2))) fun d => Q d .fr S2 := by
  unfold EW RW; simp only [ev, andT_iff]
  constructor
  · rintro ⟨d, s, S', e, d2, s2, S2, e2, q⟩
    refine ⟨d, s, S', e, ?_⟩
    split at e2
    · cases e2
    · rename_i hk
      refine ⟨by simpa using hk, ?_⟩
      split at e2
      · rename_i ds S1 h
        refine ⟨_, _, h, ?_⟩
        split at e2 <;> cases e2
        rename_i h2
        exact ⟨_, h2, q⟩
      · cases e2
  · rintro ⟨d, s, S', e, hk, ds, S1, h, t, ht, q⟩
    refine ⟨d, s, S', e, ?_⟩
    rw [hk, h]
    simp only [ht]
    exact ⟨_, _, _, rfl, q⟩
theorem EW_call {f : Nat} {es : Es} : EW cf (.call f es) ρ S Q ↔ FW cf es ρ S fun ds S1 => CW cf f ds S1 Q := by
  unfold EW FW CW; simp only [ev]
  constructor
  · rintro ⟨d, s, S', e, q⟩
    split at e
    · rename_i ds S1 h
      exact ⟨_, _, h, _, _, _, e, q⟩
    · cases e
  · rintro ⟨ds, S1, h, d, s, S', e, q⟩
    exact ⟨d, s, S', by rw [h]; exact e, q⟩
theorem EW_pcall {f : Nat} {es : Es} : EW cf (.pcall f es) ρ S Q ↔ RW cf es ρ S fun ds S1 => ∃ ds', unrs S1 64 ds = some ds' ∧ CW cf f ds' [] fun d _ _ => scalD d = true ∧ Q d .fr S1 := by
  unfold EW RW CW; simp only [ev]
  constructor
  · rintro ⟨d, s, S', e, q⟩
    split at e
    rotate_left
    · cases e
    rename_i ds S1 h
    split at e
    rotate_left
    · cases e
    rename_i ds' h2
    split at e
    rotate_left
    · cases e
    rename_i d1 s1 S2 h3
    split at e <;> cases e
    rename_i h4
    exact ⟨ds, _, h, ds', h2, d, s1, S2, h3, h4, q⟩
  · rintro ⟨ds, S1, h, ds', h2, d, s, S', h3, h4, q⟩
    refine ⟨d, .fr, S1, ?_, q⟩
    rw [h]
    simp only [h2, h3, h4, if_true]
theorem EW_newr {e : E} : EW cf (.newr e) ρ S Q ↔ EW cf e ρ S fun x s S1 => match s, x with | .fresh, .lst ds => Q (.ref S1.length) .fr (S1 ++ [.lst ds]) | .fresh, .dict ks vs => Q (.ref S1.length) .fr (S1 ++ [.dict ks vs]) | _, _ => False := by
  unfold EW; simp only [ev, andT_iff]
  constructor
  · rintro ⟨d, s, S', e, d2, s2, S2, e2, q⟩
    refine ⟨d, s, S', e, ?_⟩
    split at e2 <;> cases e2
    · exact q
    · exact q
  · rintro ⟨d, s, S', e, q⟩
    refine ⟨d, s, S', e, ?_⟩
    split at q
    · exact ⟨_, _, _, rfl, q⟩
    · exact ⟨_, _, _, rfl, q⟩
    · exact q.elim
theorem EW_sl {a : E} {lo hi : Es} : EW cf (.sl a lo hi) ρ S Q ↔ EW cf a ρ S fun x _ S1 => FW cf lo ρ S1 fun l S2 => FW cf hi ρ S2 fun h S3 => ∃ lo hi, partD l = some lo ∧ partD h = some hi ∧ OW (slD (rd S3 x) lo hi) fun d => Q d (stD d) S3 := by
  unfold EW FW; simp only [ev, andT_iff]
  constructor
  · rintro ⟨d, s, S', e, d2, s2, S2, e2, q⟩
    refine ⟨d, s, S', e, ?_⟩
    split at e2
    · rename_i l S3 h1
      refine ⟨_, _, h1, ?_⟩
      split at e2
      · rename_i h S4 h2
        refine ⟨_, _, h2, ?_⟩
        split at e2
        · rename_i lo' hi' h3 h4
          exact ⟨_, _, h3, h4, opt_iff.mp ⟨_, _, _, e2, q⟩⟩
        · cases e2
      · cases e2
    · cases e2
  · rintro ⟨d, s, S', e, l, S3, h1, h, S4, h2, lo', hi', h3, h4, q⟩
    refine ⟨d, s, S', e, ?_⟩
    rw [h1]; simp only [h2, h3, h4]
    exact opt_iff.mpr q
theorem EW_gint {b : Int} : EW cf (.gint b) ρ S Q ↔ Q (.int b) .fr S := by unfold EW; simp only [ev, someW]
theorem EW_gstr {b : List Nat} : EW cf (.gstr b) ρ S Q ↔ Q (.str b) .fr S := by unfold EW; simp only [ev, someW]
theorem EW_dnew : EW cf .dnew ρ S Q ↔ Q (.dict [] []) .fresh S := by unfold EW; simp only [ev, someW]
theorem EW_toL {it : I} : EW cf (.toL it) ρ S Q ↔ IW cf it ρ S fun ds S1 => ds.length ≤ szL ∧ Q (.lst ds) .fresh S1 := by
  unfold EW IW; simp only [ev]
  constructor
  · rintro ⟨d, s, S', e, q⟩
    split at e
    · rename_i ds S1 h
      split at e <;> cases e
      rename_i hl
      exact ⟨_, _, h, hl, q⟩
    · cases e
  · rintro ⟨ds, S1, h, hl, q⟩
    exact ⟨_, _, _, by rw [h]; simp only [hl, if_true], q⟩
theorem MKw {m : Me} {d : D} {p : Prop} (h : meK m d = true) (q : p) : meK m d = true ∧ p := ⟨h, q⟩
theorem FW_nil {Q : List D → Store → Prop} : FW cf .nil ρ S Q ↔ Q [] S := by unfold FW; simp only [evF]; exact ⟨fun ⟨_, _, e, q⟩ => by cases e; exact q, fun q => ⟨_, _, rfl, q⟩⟩
theorem FW_cons {e : E} {es : Es} {Q : List D → Store → Prop} : FW cf (.cons e es) ρ S Q ↔ EW cf e ρ S fun d s S1 => s ≠ .own ∧ FW cf es ρ S1 fun ds S2 => Q (d :: ds) S2 := by
  unfold EW FW; simp only [evF]
  constructor
  · rintro ⟨d, S', e, q⟩
    split at e
    · cases e
    · rename_i d1 s1 S1 h hs
      split at e
      · rename_i ds S2 h2
        cases e
        exact ⟨_, _, _, hs, fun q => h q, _, _, h2, q⟩
      · cases e
    · cases e
  · rintro ⟨d, s, S', h, hs, ds, S2, h2, q⟩
    refine ⟨d :: ds, S2, ?_, q⟩
    rw [h]
    cases s with
    | own => exact absurd rfl hs
    | fr => simp only [h2]
    | fresh => simp only [h2]
theorem RW_nil {Q : List D → Store → Prop} : RW cf .nil ρ S Q ↔ Q [] S := by unfold RW; simp only [evR]; exact ⟨fun ⟨_, _, e, q⟩ => by cases e; exact q, fun q => ⟨_, _, rfl, q⟩⟩
theorem RW_cons {e : E} {es : Es} {Q : List D → Store → Prop} : RW cf (.cons e es) ρ S Q ↔ EW cf e ρ S fun d _ S1 => RW cf es ρ S1 fun ds S2 => Q (d :: ds) S2 := by
  unfold EW RW; simp only [evR]
  constructor
  · rintro ⟨d, S', e, q⟩
    split at e
    · rename_i d1 s1 S1 h
      split at e
      · rename_i ds S2 h2
        cases e
        exact ⟨_, _, _, h, _, _, h2, q⟩
      · cases e
    · cases e
  · rintro ⟨d, s, S', h, ds, S2, h2, q⟩
    exact ⟨d :: ds, S2, by rw [h]; simp only [h2], q⟩
end
end PyI
namespace PyI
open PySem L2

section
variable {cf : CF} {ρ : SEnv} {S : Store}
section
variable {Q : List D → Store → Prop}
theorem andT_out {β : Type} {x : R} {f : D → Stt → Store → Option β} {r : β} (h : andT x f = some r) : ∃ d s S, x = some (d, s, S) ∧ f d s S = some r := by
  cases x with
  | none => cases h
  | some p => obtain ⟨d, s, S⟩ := p; exact ⟨d, s, S, rfl, h⟩
theorem IW_over {e : E} : IW cf (.over e) ρ S Q ↔ EW cf e ρ S fun x s S1 => srcD e s = true ∧ ∃ ds, seqD x = some ds ∧ Q ds S1 := by
  unfold IW EW; simp only [evI]
  constructor
  · rintro ⟨d, S', e, q⟩
    replace e := andT_out e
    obtain ⟨x, s, S1, h, e⟩ := e
    refine ⟨_, _, _, h, ?_⟩
    split at e
    · rename_i hs
      split at e <;> cases e
      rename_i ds hd
      exact ⟨hs, _, hd, q⟩
    · cases e
  · rintro ⟨x, s, S1, h, hs, ds, hd, q⟩
    refine ⟨ds, S1, ?_, q⟩
    rw [h]
    simp only [andT_some, hs, if_true, hd]
theorem IW_enum {e : E} : IW cf (.enum e) ρ S Q ↔ EW cf e ρ S fun x s S1 => srcD e s = true ∧ ∃ ds, seqD x = some ds ∧ Q (ds.zipIdx.map (fun p => .tupw [.int p.2, p.1])) S1 := by
  unfold IW EW; simp only [evI]
  constructor
  · rintro ⟨d, S', e, q⟩
    replace e := andT_out e
    obtain ⟨x, s, S1, h, e⟩ := e
    refine ⟨_, _, _, h, ?_⟩
    split at e
    · rename_i hs
      split at e <;> cases e
      rename_i ds hd
      exact ⟨hs, _, hd, q⟩
    · cases e
  · rintro ⟨x, s, S1, h, hs, ds, hd, q⟩
    refine ⟨_, S1, ?_, q⟩
    rw [h]
    simp only [andT_some, hs, if_true, hd]
theorem IW_range1 {e : E} : IW cf (.range1 e) ρ S Q ↔ EW cf e ρ S fun x _ S1 => ∃ j : Int, x = .int j ∧ (-4611686018427387904 ≤ j ∧ j < 4611686018427387904) ∧ Q ((List.range j.toNat).map (fun k : Nat => D.int (k : Int))) S1 := by
  unfold IW EW; simp only [evI]
  constructor
  · rintro ⟨d, S', e, q⟩
    replace e := andT_out e
    obtain ⟨x, s, S1, h, e⟩ := e
    refine ⟨_, _, _, h, ?_⟩
    split at e
    · rename_i j
      split at e <;> cases e
      rename_i hb
      simp only [Bool.and_eq_true, decide_eq_true_eq] at hb
      exact ⟨j, rfl, hb, q⟩
    · cases e
  · rintro ⟨x, s, S1, h, j, rfl, hb, q⟩
    refine ⟨_, S1, ?_, q⟩
    rw [h]
    simp only [andT_some, hb, decide_true, Bool.and_self, if_true]
theorem IW_range2 {a b : E} : IW cf (.range2 a b) ρ S Q ↔ EW cf a ρ S fun x _ S1 => EW cf b ρ S1 fun y _ S2 => ∃ i j : Int, x = .int i ∧ y = .int j ∧ (-4611686018427387904 ≤ i ∧ i < 4611686018427387904 ∧ -4611686018427387904 ≤ j ∧ j < 4611686018427387904) ∧ Q ((List.range (j - i).toNat).map (fun k : Nat => D.int (i + (k : Int)))) S2 := by
  unfold IW EW; simp only [evI]
  constructor
  · rintro ⟨d, S', e, q⟩
    replace e := andT_out e
    obtain ⟨x, s, S1, h, e⟩ := e
    refine ⟨_, _, _, h, ?_⟩
    replace e := andT_out e
    obtain ⟨y, s2, S2, h2, e⟩ := e
    refine ⟨_, _, _, h2, ?_⟩
    split at e
    · rename_i i j
      split at e <;> cases e
      rename_i hb
      simp only [Bool.and_eq_true, decide_eq_true_eq] at hb
      exact ⟨i, j, rfl, rfl, ⟨hb.1.1.1, hb.1.1.2, hb.1.2, hb.2⟩, q⟩
    · cases e
  · rintro ⟨x, s, S1, h, y, s2, S2, h2, i, j, rfl, rfl, hb, q⟩
    refine ⟨_, S2, ?_, q⟩
    rw [h]
    simp only [andT_some, h2, hb, decide_true, Bool.and_self, if_true]
theorem IW_zip {a b : E} : IW cf (.zip a b) ρ S Q ↔ EW cf a ρ S fun x s S1 => EW cf b ρ S1 fun y t S2 => (srcD a s = true ∧ srcD b t = true) ∧ ∃ p, zipD x y = some p ∧ Q ((p.1.zip p.2).map (fun p => .tupw [p.1, p.2])) S2 := by
  unfold IW EW; simp only [evI]
  constructor
  · rintro ⟨d, S', e, q⟩
    replace e := andT_out e
    obtain ⟨x, s, S1, h, e⟩ := e
    refine ⟨_, _, _, h, ?_⟩
    replace e := andT_out e
    obtain ⟨y, s2, S2, h2, e⟩ := e
    refine ⟨_, _, _, h2, ?_⟩
    split at e
    · rename_i hs
      split at e <;> cases e
      rename_i ds es hz
      exact ⟨hs, _, hz, q⟩
    · cases e
  · rintro ⟨x, s, S1, h, y, s2, S2, h2, hs, p, hz, q⟩
    refine ⟨_, S2, ?_, q⟩
    rw [h]
    simp only [andT_some, h2, hs, and_self, if_true, hz]
end
/-- one turn: what is made, if anything -/
def TW (cf : CF) (elt : E) (tg : Tg) (cond : Es) (vs : List Nat) (ρ : SEnv) (d : D) (S : Store) (P : Option D → Store → Prop) : Prop :=
  ∃ ρ1, bindT tg d (wipeE ρ vs) = some ρ1 ∧ match cond with
    | .nil => EW cf elt ρ1 S fun x s S3 => s ≠ .own ∧ P (some x) S3
    | .cons c .nil => EW cf c ρ1 S fun t _ S2 => BW t (EW cf elt ρ1 S2 fun x s S3 => s ≠ .own ∧ P (some x) S3) (P none S2)
    | _ => False
def turnF (cf : CF) (elt : E) (tg : Tg) (cond : Es) (vs : List Nat) (ρ : SEnv) (d : D) (S : Store) : Option (Option D × Store) := match bindT tg d (wipeE ρ vs) with
        | some ρ1 => match evR cf cond ρ1 S with
          | some ([], S2) => (match fz (ev cf elt ρ1 S2) with | some (x, _, S3) => some (some x, S3) | none => none)
          | some ([.bl true], S2) => (match fz (ev cf elt ρ1 S2) with | some (x, _, S3) => some (some x, S3) | none => none)
          | some ([.bl false], S2) => some (none, S2)
          | _ => none
        | none => none
theorem fzW {x : R} {P : D → Store → Prop} (h : ∃ d s S', x = some (d, s, S') ∧ s ≠ .own ∧ P d S') : ∃ d S', fz x = some (d, .fr, S') ∧ P d S' := by
  obtain ⟨d, s, S', rfl, hs, p⟩ := h
  cases s with
  | own => exact absurd rfl hs
  | fr => exact ⟨_, _, rfl, p⟩
  | fresh => exact ⟨_, _, rfl, p⟩
theorem TW_turn {elt : E} {tg : Tg} {cond : Es} {vs : List Nat} {d : D} {P : Option D → Store → Prop} (h : TW cf elt tg cond vs ρ d S P) : ∃ r S', turnF cf elt tg cond vs ρ d S = some (r, S') ∧ P r S' := by
  obtain ⟨ρ1, hb, h⟩ := h
  unfold turnF
  rw [hb]
  simp only
  split at h
  · simp only [evR]
    obtain ⟨x, S', e, p⟩ := fzW h
    rw [e]
    exact ⟨_, _, rfl, p⟩
  · rename_i c
    obtain ⟨t, s, S2, e, h⟩ := h
    simp only [evR, e]
    unfold BW at h
    split at h
    · obtain ⟨x, S', e, p⟩ := fzW h
      simp only [e]
      exact ⟨_, _, rfl, p⟩
    · exact ⟨_, _, rfl, h⟩
    · exact h.elim
  · exact h.elim
theorem EW_comp {elt : E} {tg : Tg} {it : I} {cond : Es} {vs : List Nat} {Q : D → Stt → Store → Prop} : EW cf (.comp elt tg it cond vs) ρ S Q ↔ IW cf it ρ S fun ds S1 => ds.length ≤ szL ∧ ∃ xs S2, loopC (turnF cf elt tg cond vs ρ) ds S1 = some (xs, S2) ∧ Q (.lst xs) .fresh S2 := by
  unfold EW IW; simp only [ev]
  constructor
  · rintro ⟨d, s, S', e, q⟩
    split at e
    · rename_i ds S1 h
      refine ⟨_, _, h, ?_⟩
      split at e
      · cases e
      · rename_i hz
        refine ⟨Nat.le_of_not_lt hz, ?_⟩
        split at e
        · rename_i xs S2 h2
          cases e
          exact ⟨_, _, h2, q⟩
        · cases e
    · cases e
  · rintro ⟨ds, S1, h, hz, xs, S2, h2, q⟩
    refine ⟨.lst xs, .fresh, S2, ?_, q⟩
    rw [h]
    simp only
    rw [if_neg (Nat.not_lt_of_le hz)]
    split
    · rename_i xs' S2' h3
      cases h2.symm.trans h3
      rfl
    · rename_i h3
      cases h2.symm.trans h3
/-- turn by turn -/
theorem CW_inv {f : D → Store → Option (Option D × Store)} (Inv : Nat → List D → Store → Prop) : ∀ (ds : List D) (k : Nat) (acc : List D) (S : Store), Inv k acc S →
    (∀ (i : Nat) (hi : i < ds.length) acc S, Inv (k + i) acc S → ∃ r S', f ds[i] S = some (r, S') ∧ Inv (k + i + 1) (match r with | some x => acc ++ [x] | none => acc) S') →
    ∃ xs S2, loopC f ds S = some (xs, S2) ∧ Inv (k + ds.length) (acc ++ xs) S2
  | [], k, acc, S, h0, hs => ⟨[], S, rfl, by simpa using h0⟩
  | d :: ds, k, acc, S, h0, hs => by
    obtain ⟨r, S', e, h1⟩ := hs 0 (by simp) acc S (by simpa using h0)
    obtain ⟨xs, S2, e2, h2⟩ := CW_inv Inv ds (k + 1) _ S' (by simpa using h1) fun i hi acc S hI => by
      have := hs (i + 1) (by simpa using hi) acc S (by rw [show k + (i + 1) = k + 1 + i by omega]; exact hI)
      rw [show k + (i + 1) + 1 = k + 1 + i + 1 by omega] at this
      simpa using this
    have e' : f d S = some (r, S') := e
    clear e
    have e3 : k + (d :: ds).length = k + 1 + ds.length := by simp; omega
    rw [e3]
    cases r with
    | none => exact ⟨xs, S2, by simp only [loopC, e', e2], h2⟩
    | some x => exact ⟨x :: xs, S2, by simp only [loopC, e', e2], by simpa using h2⟩
/-- a comprehension whose turns change nothing -/
theorem CW_pure {f : D → Store → Option (Option D × Store)} {S : Store} (g : D → Option D) : ∀ (ds : List D), (∀ d ∈ ds, f d S = some (g d, S)) → loopC f ds S = some (ds.filterMap g, S)
  | [], _ => rfl
  | d :: ds, h => by
    simp only [loopC, h d (by simp), CW_pure g ds fun e he => h e (by simp [he])]
    cases hg : g d <;> simp [List.filterMap_cons, hg]
theorem EW_nm {e : E} {Q : D → Stt → Store → Prop} {ρ' : SEnv} (h : ρ = ρ') (q : EW cf e ρ' S Q) : EW cf e ρ S Q := h ▸ q
theorem TW_nil {elt : E} {tg : Tg} {vs : List Nat} {d : D} {P : Option D → Store → Prop} {ρ1 : SEnv} (hb : bindT tg d (wipeE ρ vs) = some ρ1) (h : EW cf elt ρ1 S fun x s S3 => s ≠ .own ∧ P (some x) S3) : TW cf elt tg .nil vs ρ d S P := ⟨ρ1, hb, h⟩
theorem TW_if {elt c : E} {tg : Tg} {vs : List Nat} {d : D} {P : Option D → Store → Prop} {ρ1 : SEnv} (hb : bindT tg d (wipeE ρ vs) = some ρ1) (h : EW cf c ρ1 S fun t _ S2 => BW t (EW cf elt ρ1 S2 fun x s S3 => s ≠ .own ∧ P (some x) S3) (P none S2)) : TW cf elt tg (.cons c .nil) vs ρ d S P := ⟨ρ1, hb, h⟩
/-- what a turn adds -/
def addO (acc : List D) : Option D → List D
  | some x => acc ++ [x]
  | none => acc
@[simp] theorem addO_some (acc : List D) (x : D) : addO acc (some x) = acc ++ [x] := rfl
@[simp] theorem addO_none (acc : List D) : addO acc none = acc := rfl
/-- a comprehension turn by turn -/
theorem EW_compI {elt : E} {tg : Tg} {it : I} {cond : Es} {vs : List Nat} {Q : D → Stt → Store → Prop} (ds : List D) (S1 : Store) (hi : ∀ P : List D → Store → Prop, P ds S1 → IW cf it ρ S P) (hz : ds.length ≤ szL) (Inv : Nat → List D → Store → Prop) (h0 : Inv 0 [] S1)
    (hs : ∀ (i : Nat) (hi : i < ds.length) acc S, Inv i acc S → TW cf elt tg cond vs ρ ds[i] S fun r S' => Inv (i + 1) (addO acc r) S')
    (hd : ∀ xs S2, Inv ds.length xs S2 → Q (.lst xs) .fresh S2) : EW cf (.comp elt tg it cond vs) ρ S Q := by
  refine EW_comp.2 (hi _ ⟨hz, ?_⟩)
  obtain ⟨xs, S2, e, h⟩ := CW_inv Inv ds 0 [] S1 h0 fun i hi acc S hI => by
    have := hs i hi acc S (by simpa using hI)
    obtain ⟨r, S', e, h⟩ := TW_turn this
    refine ⟨r, S', e, ?_⟩
    cases r <;> simpa using h
  exact ⟨xs, S2, e, hd xs S2 (by simpa using h)⟩
/-- .. that changes nothing -/
theorem EW_compP {elt : E} {tg : Tg} {it : I} {cond : Es} {vs : List Nat} {Q : D → Stt → Store → Prop} (ds : List D) (S1 : Store) (hi : ∀ P : List D → Store → Prop, P ds S1 → IW cf it ρ S P) (hz : ds.length ≤ szL) (g : D → Option D)
    (hs : ∀ d ∈ ds, TW cf elt tg cond vs ρ d S1 fun r S' => r = g d ∧ S1 = S') (hd : Q (.lst (ds.filterMap g)) .fresh S1) : EW cf (.comp elt tg it cond vs) ρ S Q := by
  refine EW_comp.2 (hi _ ⟨hz, ds.filterMap g, S1, CW_pure g ds fun d hd => ?_, hd⟩)
  obtain ⟨r, S', e, rfl, rfl⟩ := TW_turn (hs d hd)
  exact e
theorem CW_map {α : Type} {f : D → Store → Option (Option D × Store)} {S : Store} (enc : α → D) (g : α → Option D) : ∀ (xs : List α), (∀ x ∈ xs, f (enc x) S = some (g x, S)) → loopC f (xs.map enc) S = some (xs.filterMap g, S)
  | [], _ => rfl
  | d :: ds, h => by
    simp only [List.map_cons, loopC, h d (by simp), CW_map enc g ds fun e he => h e (by simp [he])]
    cases hg : g d <;> simp [List.filterMap_cons, hg]
/-- a comprehension over encoded things, that changes nothing -/
theorem EW_compM {α : Type} {elt : E} {tg : Tg} {it : I} {cond : Es} {vs : List Nat} {Q : D → Stt → Store → Prop} (enc : α → D) (xs : List α) (S1 : Store) (hi : ∀ P : List D → Store → Prop, P (xs.map enc) S1 → IW cf it ρ S P) (hz : xs.length ≤ szL) (g : α → Option D)
    (hs : ∀ x ∈ xs, TW cf elt tg cond vs ρ (enc x) S1 fun r S' => r = g x ∧ S1 = S') (hd : Q (.lst (xs.filterMap g)) .fresh S1) : EW cf (.comp elt tg it cond vs) ρ S Q := by
  refine EW_comp.2 (hi _ ⟨by simpa using hz, xs.filterMap g, S1, CW_map enc g xs fun d hd => ?_, hd⟩)
  obtain ⟨r, S', e, rfl, rfl⟩ := TW_turn (hs d hd)
  exact e
theorem fm_if {α β : Type} (p : α → Bool) (f : α → β) (xs : List α) : xs.filterMap (fun x => if p x = true then some (f x) else none) = (xs.filter p).map f := by
  induction xs with
  | nil => rfl
  | cons x xs ih =>
    simp only [List.filterMap_cons, List.filter_cons]
    by_cases h : p x = true <;> simp [h, ih]
theorem fm_all {α β : Type} (f : α → β) (xs : List α) : xs.filterMap (fun x => some (f x)) = xs.map f := by
  induction xs with
  | nil => rfl
  | cons x xs ih => simp [List.filterMap_cons, ih]
section
variable {Q : Out → Prop}
/-- what follows -/
def NX (o : Out) (k : SEnv → Store → Prop) (Q : Out → Prop) : Prop := match o with | .nx ρ S => k ρ S | o => Q o
@[simp] theorem NX_nx {k : SEnv → Store → Prop} : NX (.nx ρ S) k Q ↔ k ρ S := Iff.rfl
@[simp] theorem NX_bk {k : SEnv → Store → Prop} : NX (.bk ρ S) k Q ↔ Q (.bk ρ S) := Iff.rfl
@[simp] theorem NX_ct {k : SEnv → Store → Prop} : NX (.ct ρ S) k Q ↔ Q (.ct ρ S) := Iff.rfl
@[simp] theorem NX_ret {d : D} {s : Stt} {k : SEnv → Store → Prop} : NX (.ret d s S) k Q ↔ Q (.ret d s S) := Iff.rfl
theorem XsW_nil : XsW cf .nil ρ S Q ↔ Q (.nx ρ S) := by
  unfold XsW; simp only [exes]; exact ⟨fun ⟨_, e, q⟩ => by cases e; exact q, fun q => ⟨_, rfl, q⟩⟩
theorem XsW_cons {t : T} {ts : Ts} : XsW cf (.cons t ts) ρ S Q ↔ XW cf t ρ S fun o => NX o (fun ρ1 S1 => XsW cf ts ρ1 S1 Q) Q := by
  unfold XsW XW; simp only [exes]
  constructor
  · rintro ⟨o, e, q⟩
    cases h : exe cf t ρ S with
    | none => rw [h] at e; cases e
    | some o1 =>
      rw [h] at e
      refine ⟨_, rfl, ?_⟩
      cases o1 with
      | nx ρ1 S1 => exact ⟨_, e, q⟩
      | _ => cases e; exact q
  · rintro ⟨o1, h, q⟩
    rw [h]
    cases o1 with
    | nx ρ1 S1 => exact q
    | _ => exact ⟨_, rfl, q⟩
theorem andT_iffO {x : R} {f : D → Stt → Store → Option Out} : (∃ o, andT x f = some o ∧ Q o) ↔ ∃ d s S', x = some (d, s, S') ∧ ∃ o, f d s S' = some o ∧ Q o := by
  cases x with
  | none => exact ⟨fun ⟨_, e, _⟩ => (by cases e), fun ⟨_, _, _, e, _⟩ => (by cases e)⟩
  | some p =>
    obtain ⟨d, s, S'⟩ := p
    exact ⟨fun h => ⟨d, s, S', rfl, h⟩, fun ⟨_, _, _, e, h⟩ => by cases e; exact h⟩
theorem fz_iff {x : R} {P : D → Stt → Store → Prop} : (∃ d s S', fz x = some (d, s, S') ∧ P d s S') ↔ ∃ d s S', x = some (d, s, S') ∧ s ≠ .own ∧ P d .fr S' := by
  constructor
  · rintro ⟨d, s, S', e, p⟩
    unfold fz at e
    split at e <;> cases e
    · exact ⟨_, _, _, rfl, (by intro q; cases q), p⟩
    · exact ⟨_, _, _, rfl, (by intro q; cases q), p⟩
  · rintro ⟨d, s, S', rfl, hs, p⟩
    cases s with
    | own => exact absurd rfl hs
    | fr => exact ⟨_, _, _, rfl, p⟩
    | fresh => exact ⟨_, _, _, rfl, p⟩
theorem someO {o : Out} : (∃ o', (some o : Option Out) = some o' ∧ Q o') ↔ Q o := ⟨fun ⟨_, e, q⟩ => by cases e; exact q, fun q => ⟨_, rfl, q⟩⟩
theorem XW_set {i : Nat} {e : E} : XW cf (.set i e) ρ S Q ↔ EW cf e ρ S fun d s S1 => s ≠ .own ∧ Q (.nx (ρ.set i (.val d)) S1) := by
  unfold XW EW; simp only [exe, andT_iffO, someO, fz_iff]
theorem XW_setO {i : Nat} {e : E} : XW cf (.setO i e) ρ S Q ↔ EW cf e ρ S fun d s S1 => s = .fresh ∧ Q (.nx (ρ.set i (.own d)) S1) := by
  unfold XW EW; simp only [exe, andT_iffO]
  constructor
  · rintro ⟨d, s, S', e, o, h, q⟩
    refine ⟨d, s, S', e, ?_⟩
    split at h <;> cases h
    exact ⟨rfl, q⟩
  · rintro ⟨d, s, S', e, rfl, q⟩
    exact ⟨d, _, S', e, _, rfl, q⟩
theorem XW_setT {is : List Nat} {e : E} : XW cf (.setT is e) ρ S Q ↔ EW cf e ρ S fun d s S1 => s ≠ .own ∧ ∃ ρ1, bindT (.tp is) d ρ = some ρ1 ∧ Q (.nx ρ1 S1) := by
  unfold XW EW; simp only [exe, andT_iffO, fz_iff]
  constructor
  · rintro ⟨d, s, S', e, hs, o, h, q⟩
    refine ⟨d, s, S', e, hs, ?_⟩
    split at h <;> cases h
    rename_i hb
    exact ⟨_, hb, q⟩
  · rintro ⟨d, s, S', e, hs, ρ1, hb, q⟩
    refine ⟨d, s, S', e, hs, _, ?_, q⟩
    rw [hb]
theorem XW_ifs {c : E} {a b : Ts} : XW cf (.ifs c a b) ρ S Q ↔ EW cf c ρ S fun x _ S1 => BW x (XsW cf a ρ S1 Q) (XsW cf b ρ S1 Q) := by
  unfold XW EW; simp only [exe, andT_iffO]
  constructor
  · rintro ⟨d, s, S', e, o, h, q⟩
    refine ⟨d, s, S', e, ?_⟩
    split at h
    · exact ⟨_, h, q⟩
    · exact ⟨_, h, q⟩
    · cases h
  · rintro ⟨d, s, S', e, q⟩
    refine ⟨d, s, S', e, ?_⟩
    unfold BW at q
    split at q
    · exact q
    · exact q
    · exact q.elim
theorem XW_ret {e : E} : XW cf (.ret e) ρ S Q ↔ EW cf e ρ S fun d s S1 => s ≠ .own ∧ Q (.ret d s S1) := by
  unfold XW EW; simp only [exe, andT_iffO]
  constructor
  · rintro ⟨d, s, S', e, o, h, q⟩
    refine ⟨d, s, S', e, ?_⟩
    cases s with
    | own => cases h
    | fr => cases h; exact ⟨fun q => (nomatch q), q⟩
    | fresh => cases h; exact ⟨fun q => (nomatch q), q⟩
  · rintro ⟨d, s, S', e, hs, q⟩
    refine ⟨d, s, S', e, _, ?_, q⟩
    cases s with
    | own => exact absurd rfl hs
    | fr => rfl
    | fresh => rfl
theorem XW_retO {i : Nat} : XW cf (.retO i) ρ S Q ↔ OW (slotO ρ i) fun d => Q (.ret d .fresh S) := by
  unfold XW slotO; simp only [exe]
  split
  · rename_i hh; simp only [someO, hh, OW_some]
  · rename_i hh
    refine ⟨fun ⟨_, e, _⟩ => (by cases e), fun ⟨d, e, _⟩ => ?_⟩
    exfalso
    first
    | (cases e; done)
    | (split at e
       · rename_i d' hd
         exact absurd hd (hh d')
       · cases e)
theorem XW_retN : XW cf .retN ρ S Q ↔ Q (.ret .non .fr S) := by unfold XW; simp only [exe, someO]
theorem XW_brk : XW cf .brk ρ S Q ↔ Q (.bk ρ S) := by unfold XW; simp only [exe, someO]
theorem XW_cont : XW cf .cont ρ S Q ↔ Q (.ct ρ S) := by unfold XW; simp only [exe, someO]
theorem XW_pass : XW cf .pass ρ S Q ↔ Q (.nx ρ S) := by unfold XW; simp only [exe, someO]
theorem XW_ex {e : E} : XW cf (.ex e) ρ S Q ↔ EW cf e ρ S fun _ _ S1 => Q (.nx ρ S1) := by unfold XW EW; simp only [exe, andT_iffO, someO]
theorem XW_frz {x : Nat} : XW cf (.frz x) ρ S Q ↔ OW (slotO ρ x) fun d => Q (.nx (ρ.set x (.val d)) S) := by
  unfold XW slotO; simp only [exe]
  split
  · rename_i hh; simp only [someO, hh, OW_some]
  · rename_i hh
    refine ⟨fun ⟨_, e, _⟩ => (by cases e), fun ⟨d, e, _⟩ => ?_⟩
    exfalso
    first
    | (cases e; done)
    | (split at e
       · rename_i d' hd
         exact absurd hd (hh d')
       · cases e)
/-- an own list -/
def OL (ρ : SEnv) (x : Nat) (P : List D → Prop) : Prop := match slotO ρ x with | some (.lst ds) => P ds | _ => False
theorem slotO_get {x : Nat} {d : D} (h : slotO ρ x = some d) : ρ[x]? = some (.own d) := by
  unfold slotO at h
  split at h <;> cases h
  assumption
theorem OL_get {x : Nat} {P : List D → Prop} : OL ρ x P ↔ ∃ ds, ρ[x]? = some (.own (.lst ds)) ∧ P ds := by
  unfold OL
  constructor
  · intro h
    split at h
    · rename_i ds hs
      exact ⟨ds, slotO_get hs, h⟩
    · exact h.elim
  · rintro ⟨ds, h, p⟩
    have : slotO ρ x = some (.lst ds) := by unfold slotO; rw [h]
    rw [this]
    exact p
theorem XW_app {x : Nat} {e : E} : XW cf (.app x e) ρ S Q ↔ EW cf e ρ S fun d s S1 => s ≠ .own ∧ OL ρ x fun ds => ds.length < szL ∧ Q (.nx (ρ.set x (.own (.lst (ds ++ [d])))) S1) := by
  unfold XW EW; simp only [exe, andT_iffO, fz_iff, OL_get]
  constructor
  · rintro ⟨d, s, S', e, hs, o, h, q⟩
    refine ⟨d, s, S', e, hs, ?_⟩
    split at h
    · rename_i ds hx
      split at h <;> cases h
      rename_i hl
      exact ⟨ds, hx, hl, q⟩
    · cases h
  · rintro ⟨d, s, S', e, hs, ds, hx, hl, q⟩
    refine ⟨d, s, S', e, hs, _, ?_, q⟩
    rw [hx]
    simp only [hl, if_true]
theorem XW_ext {x : Nat} {e : E} : XW cf (.ext x e) ρ S Q ↔ EW cf e ρ S fun d s S1 => s ≠ .own ∧ OL ρ x fun ds => ∃ es, d = .lst es ∧ ds.length + es.length ≤ szL ∧ Q (.nx (ρ.set x (.own (.lst (ds ++ es)))) S1) := by
  unfold XW EW; simp only [exe, andT_iffO, fz_iff, OL_get]
  constructor
  · rintro ⟨d, s, S', e, hs, o, h, q⟩
    refine ⟨d, s, S', e, hs, ?_⟩
    split at h
    · rename_i es ds hx
      split at h <;> cases h
      rename_i hl
      exact ⟨ds, hx, es, rfl, hl, q⟩
    · cases h
  · rintro ⟨d, s, S', e, hs, ds, hx, es, rfl, hl, q⟩
    refine ⟨_, s, S', e, hs, _, ?_, q⟩
    rw [hx]
    simp only [hl, if_true]
theorem XW_ins {x : Nat} {a e : E} : XW cf (.ins x a e) ρ S Q ↔ EW cf a ρ S fun d _ S1 => EW cf e ρ S1 fun z s S2 => s ≠ .own ∧ OL ρ x fun ds => ∃ k : Int, d = .int k ∧ 0 ≤ k ∧ k < 16777216 ∧ ds.length < szL ∧ Q (.nx (ρ.set x (.own (.lst (ds.take k.toNat ++ z :: ds.drop k.toNat)))) S2) := by
  unfold XW EW; simp only [exe, andT_iffO, fz_iff, OL_get]
  constructor
  · rintro ⟨d, s, S', e, d2, s2, S2, e2, hs, o, h, q⟩
    refine ⟨d, s, S', e, d2, s2, S2, e2, hs, ?_⟩
    split at h
    · rename_i k ds hx
      split at h <;> cases h
      rename_i hl
      simp only [Bool.and_eq_true, decide_eq_true_eq] at hl
      exact ⟨ds, hx, k, rfl, hl.1.1, hl.1.2, hl.2, q⟩
    · cases h
  · rintro ⟨d, s, S', e, d2, s2, S2, e2, hs, ds, hx, k, rfl, h1, h2, h3, q⟩
    refine ⟨_, s, S', e, d2, s2, S2, e2, hs, _, ?_, q⟩
    rw [hx]
    simp only [h1, h2, h3, decide_true, Bool.and_self, if_true]
theorem XW_setPop {i x : Nat} {e : E} : XW cf (.setPop i x e) ρ S Q ↔ EW cf e ρ S fun d _ S1 => OL ρ x fun ds => ∃ (k : Int) (p : D), d = .int k ∧ (0 ≤ k ∧ k < 16777216) ∧ x ≠ i ∧ ds[k.toNat]? = some p ∧ Q (.nx ((ρ.set x (.own (.lst (ds.eraseIdx k.toNat)))).set i (.val p)) S1) := by
  unfold XW EW; simp only [exe, andT_iffO, OL_get]
  constructor
  · rintro ⟨d, s, S', e, o, h, q⟩
    refine ⟨d, s, S', e, ?_⟩
    split at h
    · rename_i k ds hx
      split at h
      · rename_i hl
        simp only [Bool.and_eq_true, decide_eq_true_eq, Bool.not_eq_true', beq_eq_false_iff_ne] at hl
        split at h <;> cases h
        rename_i p hp
        exact ⟨ds, hx, k, p, rfl, ⟨hl.1.1, hl.1.2⟩, hl.2, hp, q⟩
      · cases h
    · cases h
  · rintro ⟨d, s, S', e, ds, hx, k, p, rfl, h1, h2, h3, q⟩
    refine ⟨_, s, S', e, _, ?_, q⟩
    rw [hx]
    have h4 : (x == i) = false := beq_eq_false_iff_ne.mpr h2
    simp only [h1, h4, h3, decide_true, Bool.and_self, Bool.not_false, if_true]
theorem XW_appPop {y x : Nat} {e : E} : XW cf (.appPop y x e) ρ S Q ↔ EW cf e ρ S fun d _ S1 => OL ρ x fun ds => OL ρ y fun es => ∃ (k : Int) (p : D), d = .int k ∧ (0 ≤ k ∧ k < 16777216) ∧ es.length < szL ∧ x ≠ y ∧ ds[k.toNat]? = some p ∧ Q (.nx ((ρ.set x (.own (.lst (ds.eraseIdx k.toNat)))).set y (.own (.lst (es ++ [p])))) S1) := by
  unfold XW EW; simp only [exe, andT_iffO, OL_get]
  constructor
  · rintro ⟨d, s, S', e, o, h, q⟩
    refine ⟨d, s, S', e, ?_⟩
    split at h
    · rename_i k ds es hx hy
      split at h
      · rename_i hl
        simp only [Bool.and_eq_true, decide_eq_true_eq, Bool.not_eq_true', beq_eq_false_iff_ne] at hl
        split at h <;> cases h
        rename_i p hp
        exact ⟨ds, hx, es, hy, k, p, rfl, ⟨hl.1.1.1, hl.1.1.2⟩, hl.1.2, hl.2, hp, q⟩
      · cases h
    · cases h
  · rintro ⟨d, s, S', e, ds, hx, es, hy, k, p, rfl, h1, h0, h2, h3, q⟩
    refine ⟨_, s, S', e, _, ?_, q⟩
    rw [hx, hy]
    have h4 : (x == y) = false := beq_eq_false_iff_ne.mpr h2
    simp only [h1, h0, h4, h3, decide_true, Bool.and_self, Bool.not_false, if_true]
theorem slotV_get {x : Nat} {d : D} : slotV ρ x = some d ↔ ρ[x]? = some (.val d) := by
  unfold slotV
  constructor
  · intro h
    split at h <;> cases h
    assumption
  · intro h; rw [h]
theorem XW_addPop {i x : Nat} {e : E} : XW cf (.addPop i x e) ρ S Q ↔ ∃ s, slotV ρ i = some (.str s) ∧ EW cf e ρ S fun d _ S1 => OL ρ x fun ds => ∃ (k : Int) (t : List Nat), d = .int k ∧ (0 ≤ k ∧ k < 16777216) ∧ x ≠ i ∧ ds[k.toNat]? = some (.str t) ∧ s.length + t.length ≤ szL ∧ Q (.nx ((ρ.set x (.own (.lst (ds.eraseIdx k.toNat)))).set i (.val (.str (s ++ t)))) S1) := by
  unfold XW EW; simp only [exe, OL_get, slotV_get]
  constructor
  · rintro ⟨o, h, q⟩
    split at h
    · rename_i s hi
      refine ⟨s, hi, ?_⟩
      obtain ⟨d, s2, S', e, o, h, q⟩ := andT_iffO.mp ⟨o, h, q⟩
      refine ⟨d, s2, S', e, ?_⟩
      split at h
      · rename_i k ds hx
        split at h
        · rename_i hl
          simp only [Bool.and_eq_true, decide_eq_true_eq, Bool.not_eq_true', beq_eq_false_iff_ne] at hl
          split at h
          · rename_i t hp
            split at h <;> cases h
            rename_i hz
            exact ⟨ds, hx, k, t, rfl, ⟨hl.1.1, hl.1.2⟩, hl.2, hp, hz, q⟩
          · cases h
        · cases h
      · cases h
    · cases h
  · rintro ⟨s, hi, d, s2, S', e, ds, hx, k, t, rfl, h1, h2, h3, hz, q⟩
    rw [hi]
    simp only
    refine andT_iffO.mpr ⟨_, s2, S', e, _, ?_, q⟩
    rw [hx]
    have h4 : (x == i) = false := beq_eq_false_iff_ne.mpr h2
    simp only [h1, h4, h3, hz, decide_true, Bool.and_self, Bool.not_false, if_true]
theorem XW_setIxL {x : Nat} {i e : E} {ds : List D} (hx : ρ[x]? = some (.own (.lst ds))) : XW cf (.setIx x i e) ρ S Q ↔ EW cf e ρ S fun z s S1 => s ≠ .own ∧ EW cf i ρ S1 fun k _ S2 => ∃ (n : Int) (j : Nat), k = .int n ∧ ixN ds.length n = some j ∧ Q (.nx (ρ.set x (.own (.lst (ds.set j z)))) S2) := by
  unfold XW EW; simp only [exe, andT_iffO, fz_iff, hx]
  constructor
  · rintro ⟨d, s, S', e, hs, d2, s2, S2, e2, o, h, q⟩
    refine ⟨d, s, S', e, hs, d2, s2, S2, e2, ?_⟩
    cases d2 with
    | int k =>
      simp only at h
      split at h <;> cases h
      rename_i j hj
      exact ⟨k, j, rfl, hj, q⟩
    | _ => simp at h
  · rintro ⟨d, s, S', e, hs, d2, s2, S2, e2, k, j, rfl, hj, q⟩
    refine ⟨d, s, S', e, hs, _, s2, S2, e2, _, ?_, q⟩
    simp only [hj]
theorem XW_setIxD {x : Nat} {i e : E} {ks vs : List D} (hx : ρ[x]? = some (.own (.dict ks vs))) : XW cf (.setIx x i e) ρ S Q ↔ EW cf e ρ S fun z s S1 => s ≠ .own ∧ EW cf i ρ S1 fun k _ S2 => (keyD k).isSome = true ∧ ks.length < szL ∧ Q (.nx (ρ.set x (.own (.dict (putD k z ks vs).1 (putD k z ks vs).2))) S2) := by
  unfold XW EW; simp only [exe, andT_iffO, fz_iff, hx]
  constructor
  · rintro ⟨d, s, S', e, hs, d2, s2, S2, e2, o, h, q⟩
    refine ⟨d, s, S', e, hs, d2, s2, S2, e2, ?_⟩
    split at h
    · rename_i kk hk
      split at h <;> cases h
      rename_i hz
      exact ⟨by rw [hk]; rfl, hz, q⟩
    · cases h
  · rintro ⟨d, s, S', e, hs, d2, s2, S2, e2, hk, hz, q⟩
    obtain ⟨kk, hk⟩ := Option.isSome_iff_exists.mp hk
    refine ⟨d, s, S', e, hs, _, s2, S2, e2, _, ?_, q⟩
    simp only [hk, hz, if_true]
/-- a list of the store -/
theorem XW_setIxR {o i e : E} : XW cf (.setIxR o i e) ρ S Q ↔ EW cf e ρ S fun z s S1 => s ≠ .own ∧ EW cf o ρ S1 fun x _ S2 => EW cf i ρ S2 fun k _ S3 => ∃ l, x = .ref l ∧ match S3[l]? with
    | some (.lst ds) => ∃ (n : Int) (j : Nat), k = .int n ∧ ixN ds.length n = some j ∧ Q (.nx ρ (S3.set l (.lst (ds.set j z))))
    | some (.dict ks vs) => (keyD k).isSome = true ∧ ks.length < szL ∧ Q (.nx ρ (S3.set l (.dict (putD k z ks vs).1 (putD k z ks vs).2)))
    | _ => False := by
  unfold XW EW; simp only [exe, andT_iffO, fz_iff]
  constructor
  · rintro ⟨d, s, S', e, hs, d1, s1, S1, e1, d2, s2, S2, e2, o, h, q⟩
    refine ⟨d, s, S', e, hs, d1, s1, S1, e1, d2, s2, S2, e2, ?_⟩
    cases d1 with
    | ref l =>
      refine ⟨l, rfl, ?_⟩
      simp only at h
      split at h
      · rename_i ds k hx
        simp only [hx]
        split at h <;> cases h
        rename_i j hj
        exact ⟨k, j, rfl, hj, q⟩
      · rename_i kd _ _ ks vs hx
        simp only [hx]
        split at h
        · rename_i kk hk
          split at h <;> cases h
          rename_i hz
          exact ⟨by rw [hk]; rfl, hz, q⟩
        · cases h
      · cases h
    | _ => simp at h
  · rintro ⟨d, s, S', e, hs, d1, s1, S1, e1, d2, s2, S2, e2, l, rfl, q⟩
    refine ⟨d, s, S', e, hs, _, s1, S1, e1, d2, s2, S2, e2, ?_⟩
    simp only
    split at q
    · rename_i ds hx
      obtain ⟨n, j, rfl, hj, q⟩ := q
      rw [hx]
      simp only [hj]
      exact ⟨_, rfl, q⟩
    · rename_i ks vs hx
      obtain ⟨hk, hz, q⟩ := q
      obtain ⟨kk, hk⟩ := Option.isSome_iff_exists.mp hk
      rw [hx]
      simp only [hk, hz, if_true]
      exact ⟨_, rfl, q⟩
    · exact q.elim
/-- a list of the store grows -/
theorem XW_appR {o e : E} : XW cf (.appR o e) ρ S Q ↔ EW cf o ρ S fun x _ S1 => EW cf e ρ S1 fun z s S2 => s ≠ .own ∧ ∃ l ds1 ds, x = .ref l ∧ S1[l]? = some (.lst ds1) ∧ S2[l]? = some (.lst ds) ∧ ds.length < szL ∧ Q (.nx ρ (S2.set l (.lst (ds ++ [z])))) := by
  unfold XW EW; simp only [exe, andT_iffO, fz_iff]
  constructor
  · rintro ⟨d, s, S', e, d1, s1, S1, e1, hs, o, h, q⟩
    refine ⟨d, s, S', e, d1, s1, S1, e1, hs, ?_⟩
    cases d with
    | ref l =>
      simp only at h
      split at h
      · rename_i ds1 ds hx1 hx
        split at h <;> cases h
        rename_i hz
        exact ⟨l, ds1, ds, rfl, hx1, hx, hz, q⟩
      · cases h
    | _ => simp at h
  · rintro ⟨d, s, S', e, d1, s1, S1, e1, hs, l, ds1, ds, rfl, h1, h2, hz, q⟩
    refine ⟨_, s, S', e, d1, s1, S1, e1, hs, _, ?_, q⟩
    simp only [h1, h2, hz, if_true]
def LW (f : D → SEnv → Store → Option Out) (ds : List D) (ρ : SEnv) (S : Store) (Q : Out → Prop) : Prop := ∃ o, loopF f ds ρ S = some o ∧ Q o
/-- behind a turn -/
def LN (I : SEnv → Store → Prop) (Q : Out → Prop) (o : Out) : Prop := match o with | .nx ρ S => I ρ S | .ct ρ S => I ρ S | .bk ρ S => Q (.nx ρ S) | .ret d s S => Q (.ret d s S)
@[simp] theorem LN_nx {I : SEnv → Store → Prop} : LN I Q (.nx ρ S) ↔ I ρ S := Iff.rfl
@[simp] theorem LN_ct {I : SEnv → Store → Prop} : LN I Q (.ct ρ S) ↔ I ρ S := Iff.rfl
@[simp] theorem LN_bk {I : SEnv → Store → Prop} : LN I Q (.bk ρ S) ↔ Q (.nx ρ S) := Iff.rfl
@[simp] theorem LN_ret {I : SEnv → Store → Prop} {d : D} {s : Stt} : LN I Q (.ret d s S) ↔ Q (.ret d s S) := Iff.rfl
theorem LW_inv {f : D → SEnv → Store → Option Out} {Q : Out → Prop} (Inv : Nat → SEnv → Store → Prop) : ∀ (ds : List D) (k : Nat) (ρ : SEnv) (S : Store), Inv k ρ S →
    (∀ (i : Nat) (hi : i < ds.length) ρ S, Inv (k + i) ρ S → ∃ o, f ds[i] ρ S = some o ∧ LN (Inv (k + i + 1)) Q o) →
    (∀ ρ S, Inv (k + ds.length) ρ S → Q (.nx ρ S)) → LW f ds ρ S Q
  | [], k, ρ, S, h0, hs, hd => ⟨_, rfl, hd ρ S (by simpa using h0)⟩
  | d :: ds, k, ρ, S, h0, hs, hd => by
    obtain ⟨o, e, h1⟩ := hs 0 (by simp) ρ S (by simpa using h0)
    have e' : f d ρ S = some o := by simpa using e
    have go : ∀ ρ' S', Inv (k + 1) ρ' S' → LW f ds ρ' S' Q := fun ρ' S' hI => LW_inv Inv ds (k + 1) ρ' S' hI (fun i hi ρ S hI => by
      have := hs (i + 1) (by simpa using hi) ρ S (by rw [show k + (i + 1) = k + 1 + i by omega]; exact hI)
      rw [show k + (i + 1) + 1 = k + 1 + i + 1 by omega] at this
      simpa using this) fun ρ S hI => hd ρ S (by rw [show k + (d :: ds).length = k + 1 + ds.length by simp; omega]; exact hI)
    unfold LW
    simp only [loopF, e']
    cases o with
    | nx ρ' S' => exact go ρ' S' (by simpa using h1)
    | ct ρ' S' => exact go ρ' S' (by simpa using h1)
    | bk ρ' S' => exact ⟨_, rfl, h1⟩
    | ret d s S' => exact ⟨_, rfl, h1⟩
def bodyF (cf : CF) (tg : Tg) (body : Ts) (d : D) (ρ : SEnv) (S : Store) : Option Out := match bindT tg d ρ with | some ρ1 => exes cf body ρ1 S | none => none
theorem XW_for {tg : Tg} {it : I} {body : Ts} : XW cf (.for tg it body) ρ S Q ↔ it.owns.all (fun i => !((tg.ix ++ body.touch).contains i)) = true ∧ IW cf it ρ S fun ds S1 => LW (bodyF cf tg body) ds ρ S1 Q := by
  unfold XW IW LW; simp only [exe]
  constructor
  · rintro ⟨o, h, q⟩
    split at h
    · rename_i ho
      refine ⟨ho, ?_⟩
      split at h
      · rename_i ds S1 hi
        exact ⟨_, _, hi, o, h, q⟩
      · cases h
    · cases h
  · rintro ⟨ho, ds, S1, hi, o, h, q⟩
    refine ⟨o, ?_, q⟩
    rw [if_pos ho, hi]
    exact h
theorem bodyW {tg : Tg} {body : Ts} {d : D} {P : Out → Prop} (h : ∃ ρ1, bindT tg d ρ = some ρ1 ∧ XsW cf body ρ1 S P) : ∃ o, bodyF cf tg body d ρ S = some o ∧ P o := by
  obtain ⟨ρ1, hb, o, h, q⟩ := h
  exact ⟨o, by unfold bodyF; rw [hb]; exact h, q⟩
theorem XW_while {n : Nat} {c : E} {body : Ts} (Inv : Nat → SEnv → Store → Prop) (h0 : Inv n ρ S)
    (hs : ∀ m ρ S, Inv (m + 1) ρ S → EW cf c ρ S fun t _ S1 => BW t (XsW cf body ρ S1 fun o => LN (Inv m) Q o) (Q (.nx ρ S1))) (hz : ∀ ρ S, ¬ Inv 0 ρ S) : XW cf (.while n c body) ρ S Q := by
  unfold XW; simp only [exe]
  induction n generalizing ρ S with
  | zero => exact absurd h0 (hz _ _)
  | succ m ih =>
    obtain ⟨t, s, S1, e, h⟩ := hs m ρ S h0
    simp only [loopW, e]
    unfold BW at h
    split at h
    · obtain ⟨o, e2, h⟩ := h
      simp only [e2]
      cases o with
      | nx ρ' S' => exact ih (by simpa using h)
      | ct ρ' S' => exact ih (by simpa using h)
      | bk ρ' S' => exact ⟨_, rfl, h⟩
      | ret d s S' => exact ⟨_, rfl, h⟩
    · exact ⟨_, rfl, h⟩
    · exact h.elim
end
/-- what a body hands back -/
def RT (Q : D → Stt → Store → Prop) (o : Out) : Prop := match o with | .ret d s S => Q d s S | .nx _ S => Q .non .fr S | _ => False
@[simp] theorem RT_ret {Q : D → Stt → Store → Prop} {d : D} {s : Stt} : RT Q (.ret d s S) ↔ Q d s S := Iff.rfl
@[simp] theorem RT_nx {Q : D → Stt → Store → Prop} : RT Q (.nx ρ S) ↔ Q .non .fr S := Iff.rfl
theorem CW_fd {tab : Nat → Option FD} {n f : Nat} {fd : FD} {ds : List D} {Q : D → Stt → Store → Prop} (hf : tab f = some fd) (hl : ds.length = fd.np)
    (h : XsW (callN tab n) fd.body (ds.map Slot.val ++ List.replicate (fd.ns - fd.np) Slot.no) S (RT Q)) : CW (callN tab (n + 1)) f ds S Q := by
  unfold CW
  simp only [callN, hf, runF, hl, if_true]
  obtain ⟨o, e, q⟩ := h
  rw [e]
  cases o with
  | ret d s S' => exact ⟨_, _, _, rfl, q⟩
  | nx ρ' S' => exact ⟨_, _, _, rfl, q⟩
  | bk ρ' S' => exact q.elim
  | ct ρ' S' => exact q.elim
theorem CW_def {tab : Nat → Option FD} {n f np ns : Nat} {body : Ts} {ds : List D} {ρ : SEnv} {Q : D → Stt → Store → Prop} (hf : tab f = some ⟨np, ns, body⟩) (hl : ds.length = np) (hr : ds.map Slot.val ++ List.replicate (ns - np) Slot.no = ρ)
    (h : XsW (callN tab n) body ρ S (RT Q)) : CW (callN tab (n + 1)) f ds S Q := CW_fd hf hl (by rw [hr]; exact h)
/-- what holds between two statements -/
theorem XsW_cut {t : T} {ts : Ts} {Q : Out → Prop} (J : SEnv → Store → Prop) (h1 : XW cf t ρ S fun o => NX o J Q) (h2 : ∀ ρ' S', J ρ' S' → XsW cf ts ρ' S' Q) : XsW cf (.cons t ts) ρ S Q := by
  refine XsW_cons.2 ?_
  obtain ⟨o, e, q⟩ := h1
  refine ⟨o, e, ?_⟩
  cases o with
  | nx ρ' S' => exact h2 ρ' S' q
  | _ => exact q
/-- a for over data -/
theorem XW_forI {tg : Tg} {it : I} {body : Ts} {Q : Out → Prop} (ho : it.owns.all (fun i => !((tg.ix ++ body.touch).contains i)) = true) (ds : List D) (S1 : Store) (hi : ∀ P : List D → Store → Prop, P ds S1 → IW cf it ρ S P) (Inv : Nat → SEnv → Store → Prop) (h0 : Inv 0 ρ S1)
    (hs : ∀ (i : Nat) (hi : i < ds.length) ρ S, Inv i ρ S → ∃ ρ1, bindT tg ds[i] ρ = some ρ1 ∧ XsW cf body ρ1 S fun o => LN (Inv (i + 1)) Q o)
    (hd : ∀ ρ S, Inv ds.length ρ S → Q (.nx ρ S)) : XW cf (.for tg it body) ρ S Q :=
  XW_for.2 ⟨ho, hi _ (LW_inv Inv ds 0 ρ S1 h0 (fun i hi ρ S hI => bodyW (by simpa using hs i hi ρ S (by simpa using hI))) fun ρ S hI => hd ρ S (by simpa using hI))⟩
theorem XsW_nm {t : Ts} {Q : Out → Prop} {ρ' : SEnv} (h : ρ = ρ') (q : XsW cf t ρ' S Q) : XsW cf t ρ S Q := h ▸ q
theorem Y_set {ts : Ts} {i : Nat} {e : E} {Q : Out → Prop} {ρ' : SEnv} (hr : ρ = ρ') (h : EW cf e ρ' S fun d s S1 => s ≠ .own ∧ XsW cf ts (ρ'.set i (.val d)) S1 Q) : XsW cf (.cons (.set i e) ts) ρ S Q := hr ▸ XsW_cons.2 (XW_set.2 h)
theorem Y_setO {ts : Ts} {i : Nat} {e : E} {Q : Out → Prop} {ρ' : SEnv} (hr : ρ = ρ') (h : EW cf e ρ' S fun d s S1 => s = .fresh ∧ XsW cf ts (ρ'.set i (.own d)) S1 Q) : XsW cf (.cons (.setO i e) ts) ρ S Q := hr ▸ XsW_cons.2 (XW_setO.2 h)
theorem Y_setT {ts : Ts} {is : List Nat} {e : E} {Q : Out → Prop} {ρ' : SEnv} (hr : ρ = ρ') (h : EW cf e ρ' S fun d s S1 => s ≠ .own ∧ ∃ ρ1, bindT (.tp is) d ρ' = some ρ1 ∧ XsW cf ts ρ1 S1 Q) : XsW cf (.cons (.setT is e) ts) ρ S Q := hr ▸ XsW_cons.2 (XW_setT.2 h)
theorem Y_ret {ts : Ts} {e : E} {Q : Out → Prop} {ρ' : SEnv} (hr : ρ = ρ') (h : EW cf e ρ' S fun d s S1 => s ≠ .own ∧ Q (.ret d s S1)) : XsW cf (.cons (.ret e) ts) ρ S Q := hr ▸ XsW_cons.2 (XW_ret.2 h)
theorem Y_retO {ts : Ts} {i : Nat} {Q : Out → Prop} {ρ' : SEnv} (hr : ρ = ρ') (h : OW (slotO ρ' i) fun d => Q (.ret d .fresh S)) : XsW cf (.cons (.retO i) ts) ρ S Q := hr ▸ XsW_cons.2 (XW_retO.2 h)
theorem Y_retN {ts : Ts}  {Q : Out → Prop} {ρ' : SEnv} (hr : ρ = ρ') (h : Q (.ret .non .fr S)) : XsW cf (.cons (.retN) ts) ρ S Q := hr ▸ XsW_cons.2 (XW_retN.2 h)
theorem Y_brk {ts : Ts}  {Q : Out → Prop} {ρ' : SEnv} (hr : ρ = ρ') (h : Q (.bk ρ' S)) : XsW cf (.cons (.brk) ts) ρ S Q := hr ▸ XsW_cons.2 (XW_brk.2 h)
theorem Y_cont {ts : Ts}  {Q : Out → Prop} {ρ' : SEnv} (hr : ρ = ρ') (h : Q (.ct ρ' S)) : XsW cf (.cons (.cont) ts) ρ S Q := hr ▸ XsW_cons.2 (XW_cont.2 h)
theorem Y_pass {ts : Ts}  {Q : Out → Prop} {ρ' : SEnv} (hr : ρ = ρ') (h : XsW cf ts ρ' S Q) : XsW cf (.cons (.pass) ts) ρ S Q := hr ▸ XsW_cons.2 (XW_pass.2 h)
theorem Y_ex {ts : Ts} {e : E} {Q : Out → Prop} {ρ' : SEnv} (hr : ρ = ρ') (h : EW cf e ρ' S fun _ _ S1 => XsW cf ts ρ' S1 Q) : XsW cf (.cons (.ex e) ts) ρ S Q := hr ▸ XsW_cons.2 (XW_ex.2 h)
theorem Y_app {ts : Ts} {x : Nat} {e : E} {Q : Out → Prop} {ρ' : SEnv} (hr : ρ = ρ') (h : EW cf e ρ' S fun d s S1 => s ≠ .own ∧ OL ρ' x fun ds => ds.length < szL ∧ XsW cf ts (ρ'.set x (.own (.lst (ds ++ [d])))) S1 Q) : XsW cf (.cons (.app x e) ts) ρ S Q := hr ▸ XsW_cons.2 (XW_app.2 h)
theorem Y_ext {ts : Ts} {x : Nat} {e : E} {Q : Out → Prop} {ρ' : SEnv} (hr : ρ = ρ') (h : EW cf e ρ' S fun d s S1 => s ≠ .own ∧ OL ρ' x fun ds => ∃ es, d = .lst es ∧ ds.length + es.length ≤ szL ∧ XsW cf ts (ρ'.set x (.own (.lst (ds ++ es)))) S1 Q) : XsW cf (.cons (.ext x e) ts) ρ S Q := hr ▸ XsW_cons.2 (XW_ext.2 h)
theorem Y_ins {ts : Ts} {x : Nat} {a e : E} {Q : Out → Prop} {ρ' : SEnv} (hr : ρ = ρ') (h : EW cf a ρ' S fun d _ S1 => EW cf e ρ' S1 fun z s S2 => s ≠ .own ∧ OL ρ' x fun ds => ∃ k : Int, d = .int k ∧ 0 ≤ k ∧ k < 16777216 ∧ ds.length < szL ∧ XsW cf ts (ρ'.set x (.own (.lst (ds.take k.toNat ++ z :: ds.drop k.toNat)))) S2 Q) : XsW cf (.cons (.ins x a e) ts) ρ S Q := hr ▸ XsW_cons.2 (XW_ins.2 h)
theorem Y_appPop {ts : Ts} {y x : Nat} {e : E} {Q : Out → Prop} {ρ' : SEnv} (hr : ρ = ρ') (h : EW cf e ρ' S fun d _ S1 => OL ρ' x fun ds => OL ρ' y fun es => ∃ (k : Int) (p : D), d = .int k ∧ (0 ≤ k ∧ k < 16777216) ∧ es.length < szL ∧ x ≠ y ∧ ds[k.toNat]? = some p ∧ XsW cf ts ((ρ'.set x (.own (.lst (ds.eraseIdx k.toNat)))).set y (.own (.lst (es ++ [p])))) S1 Q) : XsW cf (.cons (.appPop y x e) ts) ρ S Q := hr ▸ XsW_cons.2 (XW_appPop.2 h)
theorem Y_setPop {ts : Ts} {i x : Nat} {e : E} {Q : Out → Prop} {ρ' : SEnv} (hr : ρ = ρ') (h : EW cf e ρ' S fun d _ S1 => OL ρ' x fun ds => ∃ (k : Int) (p : D), d = .int k ∧ (0 ≤ k ∧ k < 16777216) ∧ x ≠ i ∧ ds[k.toNat]? = some p ∧ XsW cf ts ((ρ'.set x (.own (.lst (ds.eraseIdx k.toNat)))).set i (.val p)) S1 Q) : XsW cf (.cons (.setPop i x e) ts) ρ S Q := hr ▸ XsW_cons.2 (XW_setPop.2 h)
theorem Y_addPop {ts : Ts} {i x : Nat} {e : E} {Q : Out → Prop} {ρ' : SEnv} (hr : ρ = ρ') (h : ∃ s, slotV ρ' i = some (.str s) ∧ EW cf e ρ' S fun d _ S1 => OL ρ' x fun ds => ∃ (k : Int) (t : List Nat), d = .int k ∧ (0 ≤ k ∧ k < 16777216) ∧ x ≠ i ∧ ds[k.toNat]? = some (.str t) ∧ s.length + t.length ≤ szL ∧ XsW cf ts ((ρ'.set x (.own (.lst (ds.eraseIdx k.toNat)))).set i (.val (.str (s ++ t)))) S1 Q) : XsW cf (.cons (.addPop i x e) ts) ρ S Q := hr ▸ XsW_cons.2 (XW_addPop.2 h)
theorem Y_setIxR {ts : Ts} {o i e : E} {Q : Out → Prop} {ρ' : SEnv} (hr : ρ = ρ') (h : EW cf e ρ' S fun z s S1 => s ≠ .own ∧ EW cf o ρ' S1 fun x _ S2 => EW cf i ρ' S2 fun k _ S3 => ∃ l, x = .ref l ∧ match S3[l]? with | some (.lst ds) => ∃ (n : Int) (j : Nat), k = .int n ∧ ixN ds.length n = some j ∧ XsW cf ts ρ' (S3.set l (.lst (ds.set j z))) Q | some (.dict ks vs) => (keyD k).isSome = true ∧ ks.length < szL ∧ XsW cf ts ρ' (S3.set l (.dict (putD k z ks vs).1 (putD k z ks vs).2)) Q | _ => False) : XsW cf (.cons (.setIxR o i e) ts) ρ S Q := hr ▸ XsW_cons.2 (XW_setIxR.2 h)
theorem Y_appR {ts : Ts} {o e : E} {Q : Out → Prop} {ρ' : SEnv} (hr : ρ = ρ') (h : EW cf o ρ' S fun x _ S1 => EW cf e ρ' S1 fun z s S2 => s ≠ .own ∧ ∃ l ds1 ds, x = .ref l ∧ S1[l]? = some (.lst ds1) ∧ S2[l]? = some (.lst ds) ∧ ds.length < szL ∧ XsW cf ts ρ' (S2.set l (.lst (ds ++ [z]))) Q) : XsW cf (.cons (.appR o e) ts) ρ S Q := hr ▸ XsW_cons.2 (XW_appR.2 h)
theorem Y_frz {ts : Ts} {x : Nat} {Q : Out → Prop} {ρ' : SEnv} (hr : ρ = ρ') (h : OW (slotO ρ' x) fun d => XsW cf ts (ρ'.set x (.val d)) S Q) : XsW cf (.cons (.frz x) ts) ρ S Q := hr ▸ XsW_cons.2 (XW_frz.2 h)
end
end PyI
namespace PyI
open PySem L2
section
variable {cf : CF} {ρ : SEnv} {S : Store} {Q : D → Stt → Store → Prop}
theorem EW_lk {e : E} (h : EW cf e ρ S fun x s S1 => ∃ ks vs, x = .dict ks vs ∧ s = .fresh ∧ Q (.dictF ks vs) .fr S1) : EW cf (.lk e) ρ S Q := by
  obtain ⟨d, s, S1, e1, ks, vs, rfl, rfl, q⟩ := h
  exact ⟨_, _, _, by simp only [ev, e1, andT_some], q⟩
theorem EW_frr {e : E} (h : EW cf e ρ S fun x _ S1 => ∃ l ks vs, x = .ref l ∧ S1[l]? = some (.dict ks vs) ∧ Q (.dictF ks vs) .fr (S1.set l .gone)) : EW cf (.frr e) ρ S Q := by
  obtain ⟨d, s, S1, e1, l, ks, vs, rfl, hx, q⟩ := h
  exact ⟨_, _, _, by simp only [ev, e1, andT_some, hx], q⟩
theorem EW_fld {c x : Nat} {o : E} (h : EW cf o ρ S fun v _ S1 => ∃ l fs, v = .ref l ∧ S1[l]? = some (.ins c fs) ∧ OW (fs.lookup x) fun d => Q d .fr S1) : EW cf (.fld c o x) ρ S Q := by
  obtain ⟨d, s, S1, e1, l, fs, rfl, hx, z, hz, q⟩ := h
  exact ⟨_, _, _, by simp only [ev, e1, andT_some, hx, if_true, hz], q⟩
theorem EW_mk {c f : Nat} {es : Es} (h : FW cf es ρ S fun ds S1 => CW cf f (.ref S1.length :: ds) (S1 ++ [.ins c []]) fun d _ S2 => d = .non ∧ Q (.ref S1.length) .fr S2) : EW cf (.mk c f es) ρ S Q := by
  obtain ⟨ds, S1, e1, d, s, S2, e2, rfl, q⟩ := h
  exact ⟨_, _, _, by simp only [ev, e1, e2], q⟩
theorem EW_mcall {c f : Nat} {o : E} {es : Es} (h : EW cf o ρ S fun v _ S1 => ∃ l fs, v = .ref l ∧ S1[l]? = some (.ins c fs) ∧ FW cf es ρ S1 fun ds S2 => CW cf f (.ref l :: ds) S2 Q) : EW cf (.mcall c f o es) ρ S Q := by
  obtain ⟨d, s, S1, e1, l, fs, rfl, hx, ds, S2, e2, d2, s2, S3, e3, q⟩ := h
  exact ⟨_, _, _, by simp only [ev, e1, andT_some, hx, if_true, e2, e3], q⟩
theorem EW_bid {mx : Bool} {a b : E} (h : EW cf a ρ S fun x _ S1 => EW cf b ρ S1 fun y _ S2 => ∃ ns : List Int, rd S2 x = .lst (ns.map .int) ∧ (ns = [] → scalD y = true ∧ Q y .fr S2) ∧ ∀ m r, ns = m :: r → Q (.int (minD mx m r)) .fr S2) : EW cf (.bid mx a b) ρ S Q := by
  obtain ⟨x, s, S1, e1, y, s2, S2, e2, ns, hr, h0, h1⟩ := h
  have hi : intsD (ns.map D.int) = some ns := by
    clear hr h0 h1
    induction ns with
    | nil => rfl
    | cons n ns ih => simp [intsD, ih]
  cases ns with
  | nil =>
    obtain ⟨hs, q⟩ := h0 rfl
    refine ⟨y, .fr, S2, ?_, q⟩
    simp only [ev, e1, andT_some, e2, hr, hi, hs, if_true]
  | cons m r =>
    refine ⟨_, .fr, S2, ?_, h1 m r rfl⟩
    simp only [ev, e1, andT_some, e2, hr, hi]
theorem IW_items {a : E} {Q : List D → Store → Prop} (h : EW cf a ρ S fun x _ S1 => ∃ ks vs, x = .dictF ks vs ∧ Q ((ks.zip vs).map (fun p => .tupw [p.1, p.2])) S1) : IW cf (.items a) ρ S Q := by
  obtain ⟨x, s, S1, e1, ks, vs, rfl, q⟩ := h
  exact ⟨_, _, by simp only [evI, e1, andT_some], q⟩
theorem IW_vals {a : E} {Q : List D → Store → Prop} (h : EW cf a ρ S fun x _ S1 => ∃ ks vs, x = .dictF ks vs ∧ Q vs S1) : IW cf (.vals a) ρ S Q := by
  obtain ⟨x, s, S1, e1, ks, vs, rfl, q⟩ := h
  exact ⟨_, _, by simp only [evI, e1, andT_some], q⟩
theorem IW_keys {a : E} {Q : List D → Store → Prop} (h : EW cf a ρ S fun x _ S1 => ∃ ks vs, x = .dictF ks vs ∧ Q ks S1) : IW cf (.keys a) ρ S Q := by
  obtain ⟨x, s, S1, e1, ks, vs, rfl, q⟩ := h
  exact ⟨_, _, by simp only [evI, e1, andT_some], q⟩
theorem Y_lkx {ts : Ts} {x : Nat} {ks vs : List D} {Q : Out → Prop} {ρ' : SEnv} (hr : ρ = ρ') (hx : slotO ρ' x = some (.dict ks vs)) (h : XsW cf ts (ρ'.set x (.val (.dictF ks vs))) S Q) : XsW cf (.cons (.lkx x) ts) ρ S Q := by
  subst hr
  refine XsW_cons.2 ⟨.nx (ρ.set x (.val (.dictF ks vs))) S, ?_, h⟩
  have := slotO_get hx
  simp only [exe, this]
theorem Y_setF {ts : Ts} {c x : Nat} {o e : E} {Q : Out → Prop} {ρ' : SEnv} (hr : ρ = ρ') (h : EW cf e ρ' S fun z s S1 => s ≠ .own ∧ EW cf o ρ' S1 fun v _ S2 => ∃ l fs, v = .ref l ∧ S2[l]? = some (.ins c fs) ∧ fs.length < 1000 ∧ XsW cf ts ρ' (S2.set l (.ins c (putFD x z fs))) Q) : XsW cf (.cons (.setF c o x e) ts) ρ S Q := by
  subst hr
  obtain ⟨z, s, S1, e1, hs, v, s2, S2, e2, l, fs, rfl, hx, hl, q⟩ := h
  refine XsW_cons.2 ⟨.nx ρ (S2.set l (.ins c (putFD x z fs))), ?_, q⟩
  have : fz (ev cf e ρ S) = some (z, .fr, S1) := by
    rw [e1]
    cases s <;> first | rfl | exact absurd rfl hs
  simp only [exe, this, andT_some, e2, hx, true_and, hl, if_true]
theorem setFs_at {c l : Nat} {o : Store → R} {ρ : SEnv} (ho : ∀ S, o S = some (.ref l, .fr, S)) : ∀ {ps : List (Nat × D)} {S : Store} {fs : List (Nat × D)}, S[l]? = some (.ins c fs) → fs.length + ps.length < 1000 →
    setFs c o ps ρ S = some (.nx ρ (S.set l (.ins c (ps.foldl (fun fs p => putFD p.1 p.2 fs) fs))))
  | [], S, fs, hS, _ => by
    have hl := (List.getElem?_eq_some_iff.mp hS)
    simp only [setFs, List.foldl_nil]
    congr 2
    apply List.ext_getElem?
    intro i
    by_cases e : l = i
    · subst e; rw [List.getElem?_set_self hl.1, hS]
    · rw [List.getElem?_set_ne e]
  | (x, z) :: ps, S, fs, hS, hlen => by
    have hl : l < S.length := (List.getElem?_eq_some_iff.mp hS).1
    have h1 : fs.length < 1000 := by simp at hlen; omega
    have hp : (putFD x z fs).length ≤ fs.length + 1 := by
      clear hS hlen h1
      induction fs with
      | nil => simp [putFD]
      | cons p r ih =>
        obtain ⟨y, e⟩ := p
        simp only [putFD]
        split
        · simp
        · simp; omega
    simp only [setFs, ho, andT_some, hS, true_and, h1, if_true, List.foldl_cons]
    rw [setFs_at ho (fs := putFD x z fs) (by rw [List.getElem?_set_self hl]) (by simp at hlen; omega), List.set_set]
theorem Y_setFT {ts : Ts} {c i l : Nat} {xs : List Nat} {e : E} {Q : Out → Prop} {ρ' : SEnv} (hr : ρ = ρ') (ho : slotV ρ' i = some (.ref l)) (h : EW cf e ρ' S fun z s S1 => s ≠ .own ∧ ∃ ds fs, z = .tup ds ∧ ds.length = xs.length ∧ S1[l]? = some (.ins c fs) ∧ fs.length + xs.length < 1000 ∧
    XsW cf ts ρ' (S1.set l (.ins c ((xs.zip ds).foldl (fun fs p => putFD p.1 p.2 fs) fs))) Q) : XsW cf (.cons (.setFT c (.var i) xs e) ts) ρ S Q := by
  subst hr
  obtain ⟨z, s, S1, e1, hs, ds, fs, rfl, hlen, hx, hl, q⟩ := h
  refine XsW_cons.2 ⟨.nx ρ _, ?_, q⟩
  have e2 : fz (ev cf e ρ S) = some (.tup ds, .fr, S1) := by
    rw [e1]
    cases s <;> first | rfl | exact absurd rfl hs
  have e3 : ∀ S, ev cf (.var i) ρ S = some (.ref l, .fr, S) := fun S => by
    have := slotV_get.mp ho
    simp only [ev, this]
  simp only [exe, e2, andT_some, hlen, if_true]
  exact setFs_at e3 hx (by rw [List.length_zip, hlen, Nat.min_self]; exact hl)
theorem EW_un {f : Un} {a : E} (h : EW cf a ρ S fun x _ S1 => OW (unD f (rd S1 x)) fun d => Q d (stD d) S1) : EW cf (.un f a) ρ S Q := by
  obtain ⟨x, s, S1, e1, d, e2, q⟩ := h
  exact ⟨d, stD d, S1, by simp only [ev, e1, andT_some, e2, opt_some, ok], q⟩
theorem Y_setPop0 {ts : Ts} {i x : Nat} {Q : Out → Prop} {ρ' : SEnv} (hr : ρ = ρ') (h : OL ρ' x fun ds => x ≠ i ∧ ∃ p, ds.getLast? = some p ∧ XsW cf ts ((ρ'.set x (.own (.lst ds.dropLast))).set i (.val p)) S Q) : XsW cf (.cons (.setPop0 i x) ts) ρ S Q := by
  subst hr
  obtain ⟨ds, h1, h2, p, h3, o, h4, h5⟩ := OL_get.1 h
  refine ⟨o, ?_, h5⟩
  have : (x == i) = false := by simp [h2]
  simp only [exes, exe, h1, this, h3, Bool.false_eq_true, if_false, thenT_nx]
  exact h4
/-- a walk of a list in the store, that the body leaves as long as it is -/
theorem XW_forR {tg : Tg} {e : E} {body : Ts} {Q : Out → Prop} (l : Nat) (ds : List D) (S1 : Store) (he : ev cf e ρ S = some (.ref l, .fr, S1)) (hl : S1[l]? = some (.lst ds)) (Inv : Nat → SEnv → Store → Prop) (h0 : Inv 0 ρ S1)
    (hs : ∀ (i : Nat) (hi : i < ds.length) ρ S, Inv i ρ S → ∃ es d, S[l]? = some (.lst es) ∧ es.length = ds.length ∧ es[i]? = some d ∧ ∃ ρ1, bindT tg d ρ = some ρ1 ∧ XsW cf body ρ1 S fun o => match o with
      | .nx ρ S => Inv (i + 1) ρ S | .ct ρ S => Inv (i + 1) ρ S | .ret d s S => Q (.ret d s S) | .bk ρ S => (∃ es, S[l]? = some (.lst es) ∧ es.length = ds.length) ∧ Q (.nx ρ S))
    (hd : ∀ ρ S, Inv ds.length ρ S → (∃ es, S[l]? = some (.lst es) ∧ es.length = ds.length) ∧ Q (.nx ρ S)) : XW cf (.forR tg e body) ρ S Q := by
  let fb : D → SEnv → Store → Option Out := fun k ρ S => match k, S[l]? with
        | .int i, some (.lst es) => if es.length = ds.length then match es[i.toNat]? with
          | some d => (match bindT tg d ρ with | some ρ1 => exes cf body ρ1 S | none => none)
          | none => none else none
        | _, _ => none
  let rs : List D := (List.range ds.length).map fun k : Nat => D.int (k : Int)
  have hrl : rs.length = ds.length := by simp [rs]
  let Q' : Out → Prop := fun o => match o with | .nx ρ S => (∃ es, S[l]? = some (.lst es) ∧ es.length = ds.length) ∧ Q (.nx ρ S) | o => Q o
  have key : LW fb rs ρ S1 Q' := by
    refine LW_inv (fun k ρ S => Inv k ρ S) rs 0 ρ S1 h0 (fun i hi ρ S hI => ?_) fun ρ S hI => by
      rw [Nat.zero_add, hrl] at hI
      exact hd ρ S hI
    rw [hrl] at hi
    rw [Nat.zero_add] at hI ⊢
    obtain ⟨es, d, h1, h2, h3, ρ1, h4, o, h5, h6⟩ := hs i hi ρ S hI
    refine ⟨o, ?_, ?_⟩
    · have eg : rs[i] = D.int (i : Int) := by simp [rs]
      rw [eg]
      simp only [fb, h1, h2, if_true, Int.toNat_natCast, h3, h4, h5]
    · cases o <;> exact h6
  obtain ⟨o, h1, h2⟩ := key
  refine ⟨o, ?_, ?_⟩
  · simp only [exe, he, andT_some, hl]
    show (match loopF fb rs ρ S1 with
        | some (.nx ρ' S') => match S'[l]? with
          | some (.lst es) => if es.length = ds.length then some (Out.nx ρ' S') else none
          | _ => none
        | r => r) = some o
    rw [h1]
    cases o with
    | nx ρ' S' =>
      obtain ⟨⟨es, e1, e2⟩, _⟩ := h2
      simp only [e1, e2, if_true]
    | _ => rfl
  · cases o with
    | nx ρ' S' => exact h2.2
    | bk ρ' S' => exact h2
    | ct ρ' S' => exact h2
    | ret d s S' => exact h2
end
end PyI
namespace PyI
open PySem L2

theorem stD_ne (d : D) : stD d ≠ .own := by cases d <;> intro h <;> cases h
theorem fr_ne : Stt.fr ≠ .own := by intro h; cases h
theorem fresh_ne : Stt.fresh ≠ .own := by intro h; cases h
theorem NOw {s : Stt} {p : Prop} (h : s ≠ .own) (q : p) : s ≠ .own ∧ p := ⟨h, q⟩
theorem NFr {p : Prop} (q : p) : Stt.fresh = .fresh ∧ p := ⟨rfl, q⟩
theorem NFrL {ds : List D} {p : Prop} (q : p) : stD (.lst ds) = .fresh ∧ p := ⟨rfl, q⟩
theorem NFrD {ks ds : List D} {p : Prop} (q : p) : stD (.dict ks ds) = .fresh ∧ p := ⟨rfl, q⟩
theorem LEw {ds : List D} {p : Prop} (h : ds.length ≤ szL) (q : p) : ds.length ≤ szL ∧ p := ⟨h, q⟩
theorem OW_of {x : Option D} {d : D} {Q : D → Prop} (h : x = some d) (q : Q d) : OW x Q := ⟨d, h, q⟩
section
variable {S : Store} {Q : D → Prop} {i j : Int} {a b : List Nat}
theorem O_slot {ρ : SEnv} {n : Nat} {d : D} (h : slotV ρ n = some d) (q : Q d) : OW (slotV ρ n) Q := ⟨d, h, q⟩
theorem O_slotO {ρ : SEnv} {n : Nat} {d : D} (h : slotO ρ n = some d) (q : Q d) : OW (slotO ρ n) Q := ⟨d, h, q⟩
theorem O_add (q : Q (.int (i + j))) : OW (binD .add (rd S (.int i)) (rd S (.int j))) Q := ⟨_, rfl, q⟩
theorem O_sub (q : Q (.int (i - j))) : OW (binD .sub (rd S (.int i)) (rd S (.int j))) Q := ⟨_, rfl, q⟩
theorem O_mulR (h : -18446744073709551616 < j ∧ j < 18446744073709551616) (q : Q (.int (i * j))) : OW (binD .mul (rd S (.int i)) (rd S (.int j))) Q := by
  refine ⟨_, ?_, q⟩
  simp [rd, binD, small, h]
theorem O_mulL (h : -18446744073709551616 < i ∧ i < 18446744073709551616) (q : Q (.int (i * j))) : OW (binD .mul (rd S (.int i)) (rd S (.int j))) Q := by
  refine ⟨_, ?_, q⟩
  simp [rd, binD, small, h]
theorem O_fdiv (h : 0 < j ∧ j < 4611686018427387904) (q : Q (.int (i / j))) : OW (binD .fdiv (rd S (.int i)) (rd S (.int j))) Q := by
  refine ⟨_, ?_, q⟩
  simp [rd, binD, h]
theorem O_mod (h : 0 < j) (q : Q (.int (i % j))) : OW (binD .mod (rd S (.int i)) (rd S (.int j))) Q := by
  refine ⟨_, ?_, q⟩
  simp [rd, binD, h]
theorem O_lt (q : Q (.bl (decide (i < j)))) : OW (binD .lt (rd S (.int i)) (rd S (.int j))) Q := ⟨_, rfl, q⟩
theorem O_le (q : Q (.bl (decide (i ≤ j)))) : OW (binD .le (rd S (.int i)) (rd S (.int j))) Q := ⟨_, rfl, q⟩
theorem O_gt (q : Q (.bl (decide (j < i)))) : OW (binD .gt (rd S (.int i)) (rd S (.int j))) Q := ⟨_, rfl, q⟩
theorem O_ge (q : Q (.bl (decide (j ≤ i)))) : OW (binD .ge (rd S (.int i)) (rd S (.int j))) Q := ⟨_, rfl, q⟩
theorem O_eqI (q : Q (.bl (decide (i = j)))) : OW (binD .eq (rd S (.int i)) (rd S (.int j))) Q := by
  refine ⟨_, ?_, q⟩
  show (eqD (.int i) (.int j)).map _ = _
  have : (i == j) = decide (i = j) := by by_cases h : i = j <;> simp [h]
  simp [eqD, kind, deq, this]
theorem O_neI (q : Q (.bl (decide (i ≠ j)))) : OW (binD .ne (rd S (.int i)) (rd S (.int j))) Q := by
  refine ⟨_, ?_, q⟩
  show (eqD (.int i) (.int j)).map (fun b => D.bl (!b)) = _
  have : (!(i == j)) = decide (i ≠ j) := by by_cases h : i = j <;> simp [h]
  simp [eqD, kind, deq, this]
theorem beqL {α : Type} [BEq α] [LawfulBEq α] [DecidableEq α] (a b : List α) : (a == b) = decide (a = b) := by by_cases h : a = b <;> simp [h]
theorem O_eqS (q : Q (.bl (decide (a = b)))) : OW (binD .eq (rd S (.str a)) (rd S (.str b))) Q := by
  refine ⟨_, ?_, q⟩
  show (eqD (.str a) (.str b)).map _ = _
  simp [eqD, kind, deq, beqL]
theorem O_neS (q : Q (.bl (decide (a ≠ b)))) : OW (binD .ne (rd S (.str a)) (rd S (.str b))) Q := by
  refine ⟨_, ?_, q⟩
  show (eqD (.str a) (.str b)).map (fun b => D.bl (!b)) = _
  simp [eqD, kind, deq, beqL]
theorem O_ltS (q : Q (.bl (decide (a < b)))) : OW (binD .lt (rd S (.str a)) (rd S (.str b))) Q := ⟨_, rfl, q⟩
theorem O_addS (h : a.length + b.length ≤ szL) (q : Q (.str (a ++ b))) : OW (binD .add (rd S (.str a)) (rd S (.str b))) Q := by
  refine ⟨_, ?_, q⟩
  show (if a.length + b.length ≤ szL then _ else _) = _
  rw [if_pos h]
theorem O_addL {a b : List D} (h : a.length + b.length ≤ szL) (q : Q (.lst (a ++ b))) : OW (binD .add (rd S (.lst a)) (rd S (.lst b))) Q := by
  refine ⟨_, ?_, q⟩
  show (if a.length + b.length ≤ szL then _ else _) = _
  rw [if_pos h]
theorem O_isnN (q : Q (.bl true)) : OW (binD .isn (rd S .non) (rd S .non)) Q := ⟨_, rfl, q⟩
theorem O_isnnN (q : Q (.bl false)) : OW (binD .isnn (rd S .non) (rd S .non)) Q := ⟨_, rfl, q⟩
theorem O_eqD {x y : D} (h : shp 60 x = true) (h' : shp 60 y = true) (hx : rd S x = x) (hy : rd S y = y) (q : Q (.bl (deq x y))) : OW (binD .eq (rd S x) (rd S y)) Q := by
  refine ⟨_, ?_, q⟩
  rw [hx, hy]
  simp [binD, eqD, h, h']
theorem O_neD {x y : D} (h : shp 60 x = true) (h' : shp 60 y = true) (hx : rd S x = x) (hy : rd S y = y) (q : Q (.bl (!deq x y))) : OW (binD .ne (rd S x) (rd S y)) Q := by
  refine ⟨_, ?_, q⟩
  rw [hx, hy]
  simp [binD, eqD, h, h']
theorem O_inS {c : Nat} (q : Q (.bl (decide (c ∈ b)))) : OW (binD .isin (rd S (.str [c])) (rd S (.str b))) Q := ⟨_, rfl, q⟩
theorem O_ninS {c : Nat} (q : Q (.bl (!decide (c ∈ b)))) : OW (binD .notin (rd S (.str [c])) (rd S (.str b))) Q := ⟨_, rfl, q⟩
theorem atI_get {α : Type} {xs : List α} {n : Int} {x : α} (h0 : 0 ≤ n) (h : xs[n.toNat]? = some x) : atI xs n = some x := by
  have hl : n.toNat < xs.length := (List.getElem?_eq_some_iff.mp h).1
  unfold atI ixN
  rw [if_pos h0, if_pos (by omega)]
  exact h
theorem O_ixT {ds : List D} {n : Int} {d : D} (h0 : 0 ≤ n) (h : ds[n.toNat]? = some d) (q : Q d) : OW (ixD (rd S (.tup ds)) (.int n)) Q := ⟨d, atI_get h0 h, q⟩
theorem O_ixL {ds : List D} {n : Int} {d : D} (h0 : 0 ≤ n) (h : ds[n.toNat]? = some d) (q : Q d) : OW (ixD (rd S (.lst ds)) (.int n)) Q := ⟨d, atI_get h0 h, q⟩
theorem O_ixS {s : List Nat} {n : Int} {c : Nat} (hz : s.length ≤ szL) (h0 : 0 ≤ n) (h : s[n.toNat]? = some c) (q : Q (.str [c])) : OW (ixD (rd S (.str s)) (.int n)) Q := by
  refine ⟨_, ?_, q⟩
  show (if s.length ≤ szL then _ else _) = _
  rw [if_pos hz, atI_get h0 h]
  rfl
theorem O_ixC {ns : List Int} {n : Int} {c : Int} (h0 : 0 ≤ n) (h : ns[n.toNat]? = some c) (q : Q (.int c)) : OW (ixD (rd S (.scr ns)) (.int n)) Q := by
  refine ⟨_, ?_, q⟩
  show (atI ns n).map _ = _
  rw [atI_get h0 h]
  rfl
theorem O_ixR {l : Nat} {ds : List D} {n : Int} {d : D} (hS : S[l]? = some (.lst ds)) (h0 : 0 ≤ n) (h : ds[n.toNat]? = some d) (q : Q d) : OW (ixD (rd S (.ref l)) (.int n)) Q := by
  refine ⟨d, ?_, q⟩
  simp only [rd, hS]
  exact atI_get h0 h
/-- built-ins -/
theorem O_lenL {ds : List D} (q : Q (.int ds.length)) : OW (biD .len ([.lst ds].map (rd S))) Q := ⟨_, rfl, q⟩
theorem O_lenT {ds : List D} (q : Q (.int ds.length)) : OW (biD .len ([.tup ds].map (rd S))) Q := ⟨_, rfl, q⟩
theorem O_lenC {ns : List Int} (q : Q (.int ns.length)) : OW (biD .len ([.scr ns].map (rd S))) Q := ⟨_, rfl, q⟩
theorem O_lenS {s : List Nat} (h : s.length ≤ szL) (q : Q (.int s.length)) : OW (biD .len ([.str s].map (rd S))) Q := by
  refine ⟨_, ?_, q⟩
  show (if s.length ≤ szL then _ else _) = _
  rw [if_pos h]
theorem O_min2 (q : Q (.int (if j < i then j else i))) : OW (biD .min ([.int i, .int j].map (rd S))) Q := ⟨_, rfl, q⟩
theorem O_max2 (q : Q (.int (if j > i then j else i))) : OW (biD .max ([.int i, .int j].map (rd S))) Q := ⟨_, rfl, q⟩
theorem O_tupL {ds : List D} (q : Q (.tup ds)) : OW (biD .tuple ([.lst ds].map (rd S))) Q := ⟨_, rfl, q⟩
theorem O_lstS {s : List Nat} (h : s.length ≤ 10000) (q : Q (.lst (s.map fun c => .str [c]))) : OW (biD .list ([.str s].map (rd S))) Q := by
  refine ⟨_, ?_, q⟩
  show (if s.length ≤ 10000 then _ else _) = _
  rw [if_pos h]
theorem O_lstT {ds : List D} (q : Q (.lst ds)) : OW (biD .list ([.tup ds].map (rd S))) Q := ⟨_, rfl, q⟩
theorem intsD_map : ∀ ns : List Int, intsD (ns.map .int) = some ns
  | [] => rfl
  | n :: ns => by simp [intsD, intsD_map ns]
theorem strsD_map : ∀ ns : List (List Nat), strsD (ns.map .str) = some ns
  | [] => rfl
  | n :: ns => by simp [strsD, strsD_map ns]
theorem boolsD_map : ∀ ns : List Bool, boolsD (ns.map .bl) = some ns
  | [] => rfl
  | n :: ns => by simp [boolsD, boolsD_map ns]
theorem O_sortI {ns : List Int} (q : Q (.lst ((sortI ns).map .int))) : OW (biD .sorted ([.lst (ns.map .int)].map (rd S))) Q := by
  refine ⟨_, ?_, q⟩
  simp [rd, biD, biD1, intsD_map]
theorem O_sortS {ss : List (List Nat)} (h : ss.length < 64) (q : Q (.lst ((sortS ss).map .str))) : OW (biD .sorted ([.lst (ss.map .str)].map (rd S))) Q := by
  refine ⟨_, ?_, q⟩
  show biD1 .sorted (.lst (ss.map .str)) = _
  cases ss with
  | nil => simp [biD1, intsD, sortI, sortS]
  | cons s ss =>
    have e : intsD (D.str s :: ss.map .str) = none := rfl
    have e2 := strsD_map (s :: ss)
    simp only [List.map_cons] at e2
    simp only [biD1, List.map_cons, e, e2, h, if_true]
theorem O_sortD {ss : List (List Nat)} {vs : List D} (h : ss.length < 64) (q : Q (.lst ((sortS ss).map .str))) : OW (biD .sorted ([.dict (ss.map .str) vs].map (rd S))) Q := by
  refine ⟨_, ?_, q⟩
  show biD1 .sorted (.dict (ss.map .str) vs) = _
  simp only [biD1, strsD_map, h, if_true]
theorem O_sortT {d : D} {ds : List D} (h : srtOk (d :: ds) = true) (q : Q (.lst ((d :: ds).mergeSort leP))) : OW (biD .sorted ([.lst (d :: ds)].map (rd S))) Q := by
  refine ⟨_, ?_, q⟩
  have ht : neT d = true := by
    simp only [srtOk, Bool.and_eq_true, List.all_cons] at h
    exact h.1.2.1
  have e1 : intsD (d :: ds) = none := by cases d <;> simp [neT] at ht <;> rfl
  have e2 : strsD (d :: ds) = none := by cases d <;> simp [neT] at ht <;> rfl
  show biD1 .sorted (.lst (d :: ds)) = _
  simp only [biD1, e1, e2, h, if_true]
theorem O_all {bs : List Bool} (q : Q (.bl (bs.all id))) : OW (biD .all ([.lst (bs.map .bl)].map (rd S))) Q := by
  refine ⟨_, ?_, q⟩
  simp [rd, biD, biD1, boolsD_map]
theorem O_any {bs : List Bool} (q : Q (.bl (bs.any id))) : OW (biD .any ([.lst (bs.map .bl)].map (rd S))) Q := by
  refine ⟨_, ?_, q⟩
  simp [rd, biD, biD1, boolsD_map]
theorem O_sum {ns : List Int} (q : Q (.int ns.sum)) : OW (biD .sum ([.lst (ns.map .int)].map (rd S))) Q := by
  refine ⟨_, ?_, q⟩
  simp [rd, biD, biD1, intsD_map]
theorem O_join {ss : List (List Nat)} {sep : List Nat} (h : (joinN sep ss).length + sep.length ≤ szL) (q : Q (.str (joinN sep ss))) : OW (meD .join (rd S (.str sep)) ([.lst (ss.map .str)].map (rd S))) Q := by
  refine ⟨_, ?_, q⟩
  simp [rd, meD, strsD_map, h]
theorem O_lens {s : List Nat} (h : s.length ≤ 1000) (q : Q (.int (met s).length)) : OW (unD .lens (rd S (.str s))) Q := by
  refine ⟨_, ?_, q⟩
  show (if s.length ≤ 1000 then _ else _) = _
  rw [if_pos h]
theorem O_upper {s : List Nat} (h : s.length ≤ 100000) (q : Q (.str (Txt.upper (txt s)).cps.toList)) : OW (unD .upper (rd S (.str s))) Q := by
  refine ⟨_, ?_, q⟩
  show (if s.length ≤ 100000 then _ else _) = _
  rw [if_pos h]
theorem idx1_get {c : Nat} : ∀ {s : List Nat}, c ∈ s → idx1 c s = some (s.idxOf c)
  | x :: xs, h => by
    by_cases e : x = c
    · subst e; simp [idx1]
    · have : c ∈ xs := by
        rcases List.mem_cons.mp h with h | h
        · exact absurd h.symm e
        · exact h
      have e2 : (x == c) = false := by simp [e]
      simp [idx1, e, idx1_get this, List.idxOf_cons, e2]
theorem O_index {c : Nat} {s : List Nat} (h : c ∈ s) (q : Q (.int (s.idxOf c : Nat))) : OW (meD .sindex (rd S (.str s)) ([.str [c]].map (rd S))) Q := by
  refine ⟨_, ?_, q⟩
  show (idx1 c s).map _ = _
  rw [idx1_get h]
  rfl
end
section
variable {cf : CF} {ρ : SEnv} {S : Store}
theorem gEW {e : E} {Q : D → Stt → Store → Prop} (h : EW cf e ρ S Q) : EW cf e ρ S Q := h
theorem gXs {ts : Ts} {Q : Out → Prop} (h : XsW cf ts ρ S Q) : XsW cf ts ρ S Q := h
theorem gX {t : T} {Q : Out → Prop} (h : XW cf t ρ S Q) : XW cf t ρ S Q := h
theorem gIW {t : I} {Q : List D → Store → Prop} (h : IW cf t ρ S Q) : IW cf t ρ S Q := h
theorem gOb {o : Op2} {x y : D} {Q : D → Prop} (h : OW (binD o x y) Q) : OW (binD o x y) Q := h
theorem gOi {f : Bi} {x : List D} {Q : D → Prop} (h : OW (biD f x) Q) : OW (biD f x) Q := h
end
end PyI
namespace PyI
abbrev i_l_bag : Nat := 71
abbrev i_l_lot : Nat := 72
abbrev i_l_columns_2 : Nat := 73
abbrev i_l_need : Nat := 118
abbrev i_serves_need : Nat := 123
abbrev i_is_ahead : Nat := 128
abbrev i_followers : Nat := 129
abbrev i_try_place : Nat := 130
abbrev i_matched : Nat := 131
abbrev i_list_of : Nat := 132
abbrev i_chains : Nat := 133
abbrev i_come_to : Nat := 134
abbrev i_fewest : Nat := 135
abbrev i_l_needs : Nat := 136
abbrev i_l_renamed : Nat := 144
abbrev i_l_many : Nat := 145
abbrev i_k36 : Nat := 146
def fd_l_bag : FD := ⟨1, 1, (.cons (.ret (.lst (.cons (.bi .list (.cons (.sl (.var 0) .nil (.cons (.int 63) .nil)) .nil)) (.cons (.int 0) (.cons (.int 0) .nil))))) .nil)⟩
def fd_l_lot : FD := ⟨2, 8, (.cons (.ifs (.bin .eq (.ix (.var 0) (.int 2)) (.int 0)) (.cons (.set 3 (.ix (.var 0) (.int 1))) (.cons (.setIxR (.var 0) (.int 1) (.bin .add (.var 3) (.int 1))) (.cons (.set 4 (.int 0)) (.cons (.ifs (.bin .lt (.var 3) (.bi .len (.cons (.ix (.var 0) (.int 0)) .nil))) (.cons (.set 4 (.ix (.ix (.var 0) (.int 0)) (.var 3))) .nil) (.cons (.ifs (.bin .gt (.bi .len (.cons (.ix (.var 0) (.int 0)) .nil)) (.int 0)) (.cons (.set 4 (.bin .add (.bin .mod (.ix (.ix (.var 0) (.int 0)) (.bin .mod (.bin .mul (.var 3) (.int 5)) (.bi .len (.cons (.ix (.var 0) (.int 0)) .nil)))) (.int 1000003)) (.bin .mul (.int 97) (.var 3)))) .nil) .nil) .nil)) (.cons (.set 5 (.bin .mod (.bin .mul (.bin .add (.bin .add (.bin .mod (.var 4) (.int 2147483629)) (.bin .mul (.int 83) (.var 3))) (.int 5)) (.int 48271)) (.int 998244353))) (.cons (.set 6 (.bin .mod (.bin .add (.bin .add (.bin .mul (.var 5) (.var 5)) (.bin .mul (.int 69621) (.var 3))) (.int 17)) (.int 2147483647))) (.cons (.set 7 (.bin .mod (.bin .add (.bin .add (.bin .mul (.var 6) (.var 6)) (.bin .mul (.int 3) (.var 5))) (.int 1)) (.int 1000000007))) (.cons (.setIxR (.var 0) (.int 2) (.bin .add (.bin .fdiv (.bin .add (.bin .mul (.var 6) (.int 1000000007)) (.var 7)) (.int 4)) (.int 1))) (.cons (.ifs (.bin .ge (.var 4) (.bin .pow (.int 10) (.int 18))) (.cons (.setIxR (.var 0) (.int 2) (.bin .fdiv (.var 4) (.bin .pow (.int 10) (.int 18)))) .nil) .nil) .nil))))))))) .nil) (.cons (.set 2 (.bin .mod (.ix (.var 0) (.int 2)) (.var 1))) (.cons (.setIxR (.var 0) (.int 2) (.bin .fdiv (.ix (.var 0) (.int 2)) (.var 1))) (.cons (.ret (.var 2)) .nil))))⟩
def fd_l_columns_2 : FD := ⟨2, 5, (.cons (.setO 2 (.bi .list (.cons (.str [97, 98, 99, 100, 101, 102, 103, 104, 105, 106, 107, 108, 109, 110, 111, 112, 113, 114, 115, 116, 117, 118, 119, 120, 121, 122]) .nil))) (.cons (.setO 3 (.lst .nil)) (.cons (.for (.nm 4) (.range1 (.bin .add (.int 1) (.call i_l_lot (.cons (.var 0) (.cons (.var 1) .nil))))) (.cons (.appPop 3 2 (.call i_l_lot (.cons (.var 0) (.cons (.bi .len (.cons (.own 2) .nil)) .nil)))) .nil)) (.cons (.ret (.me .join (.str []) (.cons (.bi .sorted (.cons (.own 3) .nil)) .nil))) .nil))))⟩
def fd_l_need : FD := ⟨2, 6, (.cons (.set 2 (.comp (.var 5) (.nm 5) (.over (.var 1)) (.cons (.bin .eq (.call i_l_lot (.cons (.var 0) (.cons (.int 2) .nil))) (.int 0)) .nil) [5])) (.cons (.set 3 (.comp (.var 5) (.nm 5) (.over (.var 1)) (.cons (.bin .notin (.var 5) (.var 2)) .nil) [5])) (.cons (.set 4 (.str [])) (.cons (.ifs (.and (.bin .ne (.var 3) (.lst .nil)) (.or (.bin .eq (.var 2) (.lst .nil)) (.bin .gt (.call i_l_lot (.cons (.var 0) (.cons (.int 3) .nil))) (.int 0)))) (.cons (.set 4 (.ix (.var 3) (.call i_l_lot (.cons (.var 0) (.cons (.bi .len (.cons (.var 3) .nil)) .nil))))) .nil) .nil) (.cons (.ret (.tup (.cons (.me .join (.str []) (.cons (.var 2) .nil)) (.cons (.var 4) .nil)))) .nil)))))⟩
def fd_serves_need : FD := ⟨2, 3, (.cons (.set 2 (.bi .len (.cons (.ix (.var 1) (.int 0)) .nil))) (.cons (.ret (.and (.bin .eq (.bi .sorted (.cons (.sl (.var 0) .nil (.cons (.var 2) .nil)) .nil)) (.bi .list (.cons (.ix (.var 1) (.int 0)) .nil))) (.bin .eq (.sl (.var 0) (.cons (.var 2) .nil) (.cons (.bin .add (.var 2) (.bi .len (.cons (.ix (.var 1) (.int 1)) .nil))) .nil)) (.ix (.var 1) (.int 1))))) .nil))⟩
def fd_is_ahead : FD := ⟨2, 3, (.cons (.ifs (.bin .eq (.ix (.var 0) (.int 0)) (.ix (.var 1) (.int 0))) (.cons (.ret (.or (.bin .eq (.ix (.var 0) (.int 1)) (.str [])) (.bin .eq (.ix (.var 0) (.int 1)) (.ix (.var 1) (.int 1))))) .nil) .nil) (.cons (.ret (.bi .all (.cons (.comp (.bin .isin (.var 2) (.ix (.var 1) (.int 0))) (.nm 2) (.over (.bin .add (.ix (.var 0) (.int 0)) (.ix (.var 0) (.int 1)))) .nil [2]) .nil))) .nil))⟩
def fd_followers : FD := ⟨1, 7, (.cons (.setO 1 (.lst .nil)) (.cons (.for (.tp [2, 3]) (.enum (.var 0)) (.cons (.set 4 (.comp (.var 5) (.tp [5, 6]) (.enum (.var 0)) (.cons (.and (.bin .ne (.var 2) (.var 5)) (.call i_is_ahead (.cons (.var 3) (.cons (.var 6) .nil)))) .nil) [5, 6])) (.cons (.app 1 (.comp (.var 5) (.nm 5) (.over (.var 4)) (.cons (.or (.bin .lt (.var 2) (.var 5)) (.bin .ne (.ix (.var 0) (.var 5)) (.var 3))) .nil) [5])) .nil))) (.cons (.retO 1) .nil)))⟩
def fd_try_place : FD := ⟨4, 5, (.cons (.for (.nm 4) (.over (.ix (.var 0) (.var 2))) (.cons (.ifs (.bin .notin (.var 4) (.var 3)) (.cons (.setIxR (.var 3) (.var 4) (.bl true)) (.cons (.ifs (.or (.bin .notin (.var 4) (.var 1)) (.call i_try_place (.cons (.var 0) (.cons (.var 1) (.cons (.ix (.var 1) (.var 4)) (.cons (.var 3) .nil)))))) (.cons (.setIxR (.var 1) (.var 4) (.var 2)) (.cons (.ret (.bl true)) .nil)) .nil) .nil)) .nil) .nil)) (.cons (.ret (.bl false)) .nil))⟩
def fd_matched : FD := ⟨1, 3, (.cons (.set 1 (.newr .dnew)) (.cons (.for (.nm 2) (.range1 (.bi .len (.cons (.var 0) .nil))) (.cons (.ex (.call i_try_place (.cons (.var 0) (.cons (.var 1) (.cons (.var 2) (.cons (.newr .dnew) .nil)))))) .nil)) (.cons (.ret (.var 1)) .nil)))⟩
def fd_list_of : FD := ⟨1, 5, (.cons (.set 1 (.str [])) (.cons (.for (.tp [2, 3]) (.over (.var 0)) (.cons (.for (.nm 4) (.over (.bin .add (.var 2) (.var 3))) (.cons (.ifs (.bin .notin (.var 4) (.var 1)) (.cons (.set 1 (.bin .add (.var 1) (.var 4))) .nil) .nil) .nil)) .nil)) (.cons (.ret (.var 1)) .nil)))⟩
def fd_chains : FD := ⟨2, 8, (.cons (.set 2 (.bi .dict (.cons (.comp (.tup (.cons (.var 4) (.cons (.var 7) .nil))) (.tp [7, 4]) (.items (.var 1)) .nil [7, 4]) .nil))) (.cons (.setO 3 (.lst .nil)) (.cons (.for (.nm 4) (.range1 (.bi .len (.cons (.var 0) .nil))) (.cons (.ifs (.bin .notin (.var 4) (.var 1)) (.cons (.setO 5 (.lst .nil)) (.cons (.set 6 (.var 4)) (.cons (.while 1000000 (.bin .isnn (.var 6) .non) (.cons (.app 5 (.ix (.var 0) (.var 6))) (.cons (.set 6 (.me .dget (.var 2) (.cons (.var 6) .nil))) .nil))) (.cons (.frz 5) (.cons (.app 3 (.var 5)) .nil))))) .nil) .nil)) (.cons (.retO 3) .nil))))⟩
def fd_come_to : FD := ⟨2, 8, (.cons (.set 2 (.un .vals (.var 1))) (.cons (.setO 3 (.comp (.var 6) (.nm 6) (.range1 (.bi .len (.cons (.var 0) .nil))) (.cons (.bin .notin (.var 6) (.var 2)) .nil) [6])) (.cons (.setO 4 .dnew) (.cons (.setO 5 .dnew) (.cons (.while 1000000 (.bin .ne (.own 3) (.lst .nil)) (.cons (.setPop0 6 3) (.cons (.setIx 4 (.var 6) (.bl true)) (.cons (.for (.nm 7) (.over (.ix (.var 0) (.var 6))) (.cons (.ifs (.and (.bin .notin (.var 7) (.own 5)) (.bin .isin (.var 7) (.var 1))) (.cons (.setIx 5 (.var 7) (.bl true)) (.cons (.app 3 (.ix (.var 1) (.var 7))) .nil)) .nil) .nil)) .nil)))) (.cons (.frz 4) (.cons (.frz 5) (.cons (.ret (.tup (.cons (.var 4) (.cons (.var 5) .nil)))) .nil))))))))⟩
def fd_l_needs : FD := ⟨3, 9, (.cons (.setO 3 (.lst (.cons (.call i_l_need (.cons (.var 0) (.cons (.var 1) .nil))) .nil))) (.cons (.for (.nm 4) (.range1 (.call i_l_lot (.cons (.var 0) (.cons (.var 2) .nil)))) (.cons (.set 5 (.call i_l_lot (.cons (.var 0) (.cons (.int 4) .nil)))) (.cons (.set 6 (.me .join (.str []) (.cons (.bi .sorted (.cons (.bin .add (.ix (.ix (.own 3) (.neg (.int 1))) (.int 0)) (.ix (.ix (.own 3) (.neg (.int 1))) (.int 1))) .nil)) .nil))) (.cons (.set 7 (.comp (.var 8) (.nm 8) (.over (.var 1)) (.cons (.bin .notin (.var 8) (.var 6)) .nil) [8])) (.cons (.ifs (.and (.bin .eq (.var 5) (.int 0)) (.bin .ne (.var 7) (.lst .nil))) (.cons (.app 3 (.tup (.cons (.var 6) (.cons (.ix (.var 7) (.call i_l_lot (.cons (.var 0) (.cons (.bi .len (.cons (.var 7) .nil)) .nil)))) .nil)))) .nil) (.cons (.ifs (.bin .eq (.var 5) (.int 1)) (.cons (.app 3 (.ix (.lst (.cons (.ix (.own 3) (.neg (.int 1))) (.cons (.tup (.cons (.var 6) (.cons (.str []) .nil))) .nil))) (.call i_l_lot (.cons (.var 0) (.cons (.int 2) .nil))))) .nil) (.cons (.app 3 (.call i_l_need (.cons (.var 0) (.cons (.var 1) .nil)))) .nil)) .nil)) .nil))))) (.cons (.retO 3) .nil)))⟩
def fd_fewest : FD := ⟨2, 9, (.cons (.set 2 (.call i_followers (.cons (.var 1) .nil))) (.cons (.set 3 (.frr (.call i_matched (.cons (.var 2) .nil)))) (.cons (.setT [5, 6] (.call i_come_to (.cons (.var 2) (.cons (.var 3) .nil)))) (.cons (.set 4 (.comp (.call i_list_of (.cons (.var 7) .nil)) (.nm 7) (.over (.call i_chains (.cons (.var 1) (.cons (.var 3) .nil)))) .nil [7])) (.cons (.ret (.tup (.cons (.var 4) (.cons (.bi .tuple (.cons (.comp (.var 8) (.nm 8) (.range1 (.bi .len (.cons (.var 1) .nil))) (.cons (.and (.bin .isin (.var 8) (.var 5)) (.bin .notin (.var 8) (.var 6))) .nil) [8]) .nil)) .nil)))) .nil)))))⟩
def fd_l_renamed : FD := ⟨2, 8, (.cons (.set 2 (.un .dzip (.tup (.cons (.var 0) (.cons (.rev (.var 0)) .nil))))) (.cons (.setO 3 (.lst .nil)) (.cons (.for (.tp [4, 5]) (.over (.var 1)) (.cons (.set 6 (.bi .sorted (.cons (.comp (.ix (.var 2) (.var 7)) (.nm 7) (.over (.var 4)) .nil [7]) .nil))) (.cons (.app 3 (.tup (.cons (.me .join (.str []) (.cons (.var 6) .nil)) (.cons (.me .join (.str []) (.cons (.comp (.ix (.var 2) (.var 7)) (.nm 7) (.over (.var 5)) .nil [7]) .nil)) .nil)))) .nil))) (.cons (.retO 3) .nil))))⟩
def fd_l_many : FD := ⟨2, 2, (.cons (.ret (.bi .len (.cons (.ix (.call i_fewest (.cons (.var 0) (.cons (.var 1) .nil))) (.int 0)) .nil))) .nil)⟩
def fd_k36 : FD := ⟨1, 10, (.cons (.set 1 (.newr (.call i_l_bag (.cons (.var 0) .nil)))) (.cons (.for (.nm 2) (.range1 (.int 3)) (.cons (.set 3 (.call i_l_columns_2 (.cons (.var 1) (.cons (.ix (.lst (.cons (.int 4) (.cons (.int 8) .nil))) (.call i_l_lot (.cons (.var 1) (.cons (.int 2) .nil)))) .nil)))) (.cons (.set 4 (.call i_l_needs (.cons (.var 1) (.cons (.var 3) (.cons (.int 10) .nil))))) (.cons (.set 5 (.call i_l_many (.cons (.var 3) (.cons (.var 4) .nil)))) (.cons (.set 6 (.call i_l_lot (.cons (.var 1) (.cons (.bi .len (.cons (.var 4) .nil)) .nil)))) (.cons (.ifs (.or (.not (.chain .le .le (.int 1) (.var 5) (.bi .len (.cons (.var 4) .nil)))) (.bin .ne (.call i_l_many (.cons (.var 3) (.cons (.rev (.var 4)) .nil))) (.var 5))) (.cons (.ret (.bl false)) .nil) .nil) (.cons (.ifs (.bin .ne (.call i_l_many (.cons (.var 3) (.cons (.bin .add (.sl (.var 4) (.cons (.var 6) .nil) .nil) (.sl (.var 4) .nil (.cons (.var 6) .nil))) .nil))) (.var 5)) (.cons (.ret (.bl false)) .nil) .nil) (.cons (.ifs (.bin .ne (.call i_l_many (.cons (.var 3) (.cons (.call i_l_renamed (.cons (.var 3) (.cons (.var 4) .nil))) .nil))) (.var 5)) (.cons (.ret (.bl false)) .nil) .nil) (.cons (.set 7 (.sl (.var 4) .nil (.cons (.int 6) .nil))) (.cons (.ifs (.bin .ne (.call i_l_many (.cons (.var 3) (.cons (.bin .add (.var 7) (.var 7)) .nil))) (.call i_l_many (.cons (.var 3) (.cons (.var 7) .nil)))) (.cons (.ret (.bl false)) .nil) .nil) (.cons (.set 7 (.bin .add (.sl (.var 4) .nil (.cons (.var 6) .nil)) (.sl (.var 4) (.cons (.bin .add (.var 6) (.int 1)) .nil) .nil))) (.cons (.ifs (.and (.bin .ne (.var 7) (.lst .nil)) (.not (.chain .le .le (.bin .sub (.var 5) (.int 1)) (.call i_l_many (.cons (.var 3) (.cons (.var 7) .nil))) (.var 5)))) (.cons (.ret (.bl false)) .nil) .nil) (.cons (.set 7 (.bin .add (.var 4) (.lst (.cons (.call i_l_need (.cons (.var 1) (.cons (.var 3) .nil))) .nil)))) (.cons (.ifs (.not (.chain .le .le (.var 5) (.call i_l_many (.cons (.var 3) (.cons (.var 7) .nil))) (.bin .add (.var 5) (.int 1)))) (.cons (.ret (.bl false)) .nil) .nil) (.cons (.for (.nm 8) (.over (.ix (.call i_fewest (.cons (.var 3) (.cons (.var 4) .nil))) (.int 0))) (.cons (.set 7 (.comp (.var 9) (.nm 9) (.over (.var 4)) (.cons (.call i_serves_need (.cons (.var 8) (.cons (.var 9) .nil))) .nil) [9])) (.cons (.ifs (.and (.bin .ne (.var 7) (.lst .nil)) (.bin .ne (.call i_l_many (.cons (.var 3) (.cons (.var 7) .nil))) (.int 1))) (.cons (.ret (.bl false)) .nil) .nil) .nil))) .nil))))))))))))))) (.cons (.ret (.bl true)) .nil)))⟩
end PyI
local macro_rules | `(tactic| walk_at "py") => `(tactic| repeat (first
  | (with_reducible refine PyI.gEW ?_; first | (with_reducible refine PyI.EW_var.2 ?_) | (with_reducible refine PyI.EW_own.2 ?_) | (with_reducible refine PyI.EW_int.2 ?_) | (with_reducible refine PyI.EW_str.2 ?_) | (with_reducible refine PyI.EW_bl.2 ?_) | (with_reducible refine PyI.EW_non.2 ?_) | (with_reducible refine PyI.EW_me.2 ?_) | (with_reducible refine PyI.EW_gint.2 ?_) | (with_reducible refine PyI.EW_gstr.2 ?_) | (with_reducible refine PyI.EW_dnew.2 ?_) | (with_reducible refine PyI.EW_toL.2 ?_) | (with_reducible refine PyI.EW_bin.2 ?_) | (with_reducible refine PyI.EW_ix.2 ?_) | (with_reducible refine PyI.EW_bi.2 ?_) | (with_reducible refine PyI.EW_call.2 ?_) | (with_reducible refine PyI.EW_pcall.2 ?_) | (with_reducible refine PyI.EW_tup.2 ?_) | (with_reducible refine PyI.EW_lst.2 ?_) | (with_reducible refine PyI.EW_and.2 ?_) | (with_reducible refine PyI.EW_or.2 ?_) | (with_reducible refine PyI.EW_not.2 ?_) | (with_reducible refine PyI.EW_neg.2 ?_) | (with_reducible refine PyI.EW_ite.2 ?_) | (with_reducible refine PyI.EW_chain.2 ?_) | (with_reducible refine PyI.EW_chain3.2 ?_) | (with_reducible refine PyI.EW_sl.2 ?_) | (with_reducible refine PyI.EW_rev.2 ?_) | (with_reducible refine PyI.EW_newr.2 ?_))
  | (with_reducible refine PyI.gOb ?_; first | (with_reducible refine PyI.O_add ?_) | (with_reducible refine PyI.O_sub ?_) | (with_reducible refine PyI.O_mulR (by omega) ?_) | (with_reducible refine PyI.O_mulL (by omega) ?_) | (with_reducible refine PyI.O_fdiv (by omega) ?_) | (with_reducible refine PyI.O_mod (by omega) ?_) | (with_reducible refine PyI.O_lt ?_) | (with_reducible refine PyI.O_le ?_) | (with_reducible refine PyI.O_gt ?_) | (with_reducible refine PyI.O_ge ?_) | (with_reducible refine PyI.O_eqI ?_) | (with_reducible refine PyI.O_neI ?_) | (with_reducible refine PyI.O_eqS ?_) | (with_reducible refine PyI.O_neS ?_) | (with_reducible refine PyI.O_ltS ?_))
  | (with_reducible refine PyI.gXs ?_; first | (with_reducible refine PyI.XsW_nm (by first | (simp only [List.set_cons_succ, List.set_cons_zero]; rfl) | rfl) (PyI.XsW_cons.2 ?_)) | (with_reducible refine PyI.XsW_nil.2 ?_))
  | (with_reducible refine PyI.gX ?_; first | (with_reducible refine PyI.XW_set.2 ?_) | (with_reducible refine PyI.XW_setO.2 ?_) | (with_reducible refine PyI.XW_setT.2 ?_) | (with_reducible refine PyI.XW_ifs.2 ?_) | (with_reducible refine PyI.XW_ret.2 ?_) | (with_reducible refine PyI.XW_retO.2 ?_) | (with_reducible refine PyI.XW_retN.2 ?_) | (with_reducible refine PyI.XW_brk.2 ?_) | (with_reducible refine PyI.XW_cont.2 ?_) | (with_reducible refine PyI.XW_pass.2 ?_) | (with_reducible refine PyI.XW_ex.2 ?_) | (with_reducible refine PyI.XW_app.2 ?_) | (with_reducible refine PyI.XW_ext.2 ?_) | (with_reducible refine PyI.XW_ins.2 ?_) | (with_reducible refine PyI.XW_appPop.2 ?_) | (with_reducible refine PyI.XW_setPop.2 ?_) | (with_reducible refine PyI.XW_setIxR.2 ?_) | (with_reducible refine PyI.XW_frz.2 ?_))
  | (with_reducible refine PyI.gOi ?_; first | (with_reducible refine PyI.O_lenL ?_) | (with_reducible refine PyI.O_lenT ?_) | (with_reducible refine PyI.O_lenC ?_) | (with_reducible refine PyI.O_min2 ?_) | (with_reducible refine PyI.O_max2 ?_) | (with_reducible refine PyI.O_tupL ?_) | (with_reducible refine PyI.O_lstT ?_))
  | (with_reducible refine PyI.gIW ?_; first | (with_reducible refine PyI.IW_over.2 ?_) | (with_reducible refine PyI.IW_range1.2 ?_) | (with_reducible refine PyI.IW_range2.2 ?_) | (with_reducible refine PyI.IW_enum.2 ?_) | (with_reducible refine PyI.IW_zip.2 ?_))
  | (with_reducible refine PyI.NX_nx.2 ?_) | (with_reducible refine PyI.NX_ret.2 ?_) | (with_reducible refine PyI.NX_bk.2 ?_) | (with_reducible refine PyI.NX_ct.2 ?_) | (with_reducible refine PyI.LN_nx.2 ?_) | (with_reducible refine PyI.LN_ret.2 ?_) | (with_reducible refine PyI.LN_bk.2 ?_) | (with_reducible refine PyI.LN_ct.2 ?_) | (with_reducible refine PyI.RT_ret.2 ?_) | (with_reducible refine PyI.RT_nx.2 ?_) | (with_reducible refine PyI.MKw rfl ?_) | (with_reducible refine PyI.FW_cons.2 ?_) | (with_reducible refine PyI.FW_nil.2 ?_) | (with_reducible refine PyI.RW_cons.2 ?_) | (with_reducible refine PyI.RW_nil.2 ?_) | (refine PyI.O_slot rfl ?_) | (refine PyI.O_slotO rfl ?_) | (with_reducible refine PyI.LEw (by (simp only [List.length_cons, List.length_nil]; decide)) ?_) | (with_reducible refine PyI.NOw (PyI.stD_ne _) ?_) | (with_reducible refine PyI.NOw PyI.fr_ne ?_) | (with_reducible refine PyI.NOw PyI.fresh_ne ?_) | (with_reducible refine PyI.NFr ?_) | (with_reducible refine PyI.NFrL ?_) | (with_reducible refine PyI.NFrD ?_)
  ))
local macro_rules | `(tactic| walk_at "pz") => `(tactic| repeat (first
  | (with_reducible refine PyI.gEW ?_; first | (with_reducible refine PyI.EW_var.2 ?_) | (with_reducible refine PyI.EW_own.2 ?_) | (with_reducible refine PyI.EW_int.2 ?_) | (with_reducible refine PyI.EW_str.2 ?_) | (with_reducible refine PyI.EW_bl.2 ?_) | (with_reducible refine PyI.EW_non.2 ?_) | (with_reducible refine PyI.EW_me.2 ?_) | (with_reducible refine PyI.EW_gint.2 ?_) | (with_reducible refine PyI.EW_gstr.2 ?_) | (with_reducible refine PyI.EW_dnew.2 ?_) | (with_reducible refine PyI.EW_toL.2 ?_) | (with_reducible refine PyI.EW_bin.2 ?_) | (with_reducible refine PyI.EW_ix.2 ?_) | (with_reducible refine PyI.EW_bi.2 ?_) | (with_reducible refine PyI.EW_call.2 ?_) | (with_reducible refine PyI.EW_pcall.2 ?_) | (with_reducible refine PyI.EW_tup.2 ?_) | (with_reducible refine PyI.EW_lst.2 ?_) | (with_reducible refine PyI.EW_and.2 ?_) | (with_reducible refine PyI.EW_or.2 ?_) | (with_reducible refine PyI.EW_not.2 ?_) | (with_reducible refine PyI.EW_neg.2 ?_) | (with_reducible refine PyI.EW_ite.2 ?_) | (with_reducible refine PyI.EW_chain.2 ?_) | (with_reducible refine PyI.EW_chain3.2 ?_) | (with_reducible refine PyI.EW_sl.2 ?_) | (with_reducible refine PyI.EW_rev.2 ?_) | (with_reducible refine PyI.EW_newr.2 ?_) | (with_reducible refine PyI.EW_lk ?_) | (with_reducible refine PyI.EW_frr ?_) | (with_reducible refine PyI.EW_fld ?_) | (with_reducible refine PyI.EW_mk ?_) | (with_reducible refine PyI.EW_mcall ?_) | (with_reducible refine PyI.EW_bid ?_) | (with_reducible refine PyI.EW_un ?_))
  | (with_reducible refine PyI.gOb ?_; first | (with_reducible refine PyI.O_add ?_) | (with_reducible refine PyI.O_sub ?_) | (with_reducible refine PyI.O_mulR (by omega) ?_) | (with_reducible refine PyI.O_mulL (by omega) ?_) | (with_reducible refine PyI.O_fdiv (by omega) ?_) | (with_reducible refine PyI.O_mod (by omega) ?_) | (with_reducible refine PyI.O_lt ?_) | (with_reducible refine PyI.O_le ?_) | (with_reducible refine PyI.O_gt ?_) | (with_reducible refine PyI.O_ge ?_) | (with_reducible refine PyI.O_eqI ?_) | (with_reducible refine PyI.O_neI ?_) | (with_reducible refine PyI.O_eqS ?_) | (with_reducible refine PyI.O_neS ?_) | (with_reducible refine PyI.O_ltS ?_))
  | (with_reducible refine PyI.gXs ?_; first | (with_reducible refine PyI.Y_set (by first | (simp only [List.set_cons_succ, List.set_cons_zero]; rfl) | rfl) ?_) | (with_reducible refine PyI.Y_setO (by first | (simp only [List.set_cons_succ, List.set_cons_zero]; rfl) | rfl) ?_) | (with_reducible refine PyI.Y_setT (by first | (simp only [List.set_cons_succ, List.set_cons_zero]; rfl) | rfl) ?_) | (with_reducible refine PyI.Y_ret (by first | (simp only [List.set_cons_succ, List.set_cons_zero]; rfl) | rfl) ?_) | (with_reducible refine PyI.Y_retO (by first | (simp only [List.set_cons_succ, List.set_cons_zero]; rfl) | rfl) ?_) | (with_reducible refine PyI.Y_retN (by first | (simp only [List.set_cons_succ, List.set_cons_zero]; rfl) | rfl) ?_) | (with_reducible refine PyI.Y_brk (by first | (simp only [List.set_cons_succ, List.set_cons_zero]; rfl) | rfl) ?_) | (with_reducible refine PyI.Y_cont (by first | (simp only [List.set_cons_succ, List.set_cons_zero]; rfl) | rfl) ?_) | (with_reducible refine PyI.Y_pass (by first | (simp only [List.set_cons_succ, List.set_cons_zero]; rfl) | rfl) ?_) | (with_reducible refine PyI.Y_ex (by first | (simp only [List.set_cons_succ, List.set_cons_zero]; rfl) | rfl) ?_) | (with_reducible refine PyI.Y_app (by first | (simp only [List.set_cons_succ, List.set_cons_zero]; rfl) | rfl) ?_) | (with_reducible refine PyI.Y_ext (by first | (simp only [List.set_cons_succ, List.set_cons_zero]; rfl) | rfl) ?_) | (with_reducible refine PyI.Y_ins (by first | (simp only [List.set_cons_succ, List.set_cons_zero]; rfl) | rfl) ?_) | (with_reducible refine PyI.Y_appPop (by first | (simp only [List.set_cons_succ, List.set_cons_zero]; rfl) | rfl) ?_) | (with_reducible refine PyI.Y_setPop (by first | (simp only [List.set_cons_succ, List.set_cons_zero]; rfl) | rfl) ?_) | (with_reducible refine PyI.Y_addPop (by first | (simp only [List.set_cons_succ, List.set_cons_zero]; rfl) | rfl) ?_) | (with_reducible refine PyI.Y_setIxR (by first | (simp only [List.set_cons_succ, List.set_cons_zero]; rfl) | rfl) ?_) | (with_reducible refine PyI.Y_appR (by first | (simp only [List.set_cons_succ, List.set_cons_zero]; rfl) | rfl) ?_) | (with_reducible refine PyI.Y_frz (by first | (simp only [List.set_cons_succ, List.set_cons_zero]; rfl) | rfl) ?_) | (with_reducible refine PyI.Y_setF (by first | (simp only [List.set_cons_succ, List.set_cons_zero]; rfl) | rfl) ?_) | (with_reducible refine PyI.Y_lkx (by first | (simp only [List.set_cons_succ, List.set_cons_zero]; rfl) | rfl) rfl ?_) | (with_reducible refine PyI.XsW_nil.2 ?_))
  | (with_reducible refine PyI.gOi ?_; first | (with_reducible refine PyI.O_lenL ?_) | (with_reducible refine PyI.O_lenT ?_) | (with_reducible refine PyI.O_lenC ?_) | (with_reducible refine PyI.O_min2 ?_) | (with_reducible refine PyI.O_max2 ?_) | (with_reducible refine PyI.O_tupL ?_) | (with_reducible refine PyI.O_lstT ?_))
  | (with_reducible refine PyI.gIW ?_; first | (with_reducible refine PyI.IW_items ?_) | (with_reducible refine PyI.IW_vals ?_) | (with_reducible refine PyI.IW_keys ?_) | (with_reducible refine PyI.IW_over.2 ?_) | (with_reducible refine PyI.IW_range1.2 ?_) | (with_reducible refine PyI.IW_range2.2 ?_) | (with_reducible refine PyI.IW_enum.2 ?_) | (with_reducible refine PyI.IW_zip.2 ?_))
  | (with_reducible refine PyI.NX_nx.2 ?_) | (with_reducible refine PyI.NX_ret.2 ?_) | (with_reducible refine PyI.NX_bk.2 ?_) | (with_reducible refine PyI.NX_ct.2 ?_) | (with_reducible refine PyI.LN_nx.2 ?_) | (with_reducible refine PyI.LN_ret.2 ?_) | (with_reducible refine PyI.LN_bk.2 ?_) | (with_reducible refine PyI.LN_ct.2 ?_) | (with_reducible refine PyI.RT_ret.2 ?_) | (with_reducible refine PyI.RT_nx.2 ?_) | (with_reducible refine PyI.MKw rfl ?_) | (with_reducible refine PyI.FW_cons.2 ?_) | (with_reducible refine PyI.FW_nil.2 ?_) | (with_reducible refine PyI.RW_cons.2 ?_) | (with_reducible refine PyI.RW_nil.2 ?_) | (refine PyI.O_slot rfl ?_) | (refine PyI.O_slotO rfl ?_) | (with_reducible refine PyI.LEw (by (simp only [List.length_cons, List.length_nil]; decide)) ?_) | (with_reducible refine PyI.NOw (PyI.stD_ne _) ?_) | (with_reducible refine PyI.NOw PyI.fr_ne ?_) | (with_reducible refine PyI.NOw PyI.fresh_ne ?_) | (with_reducible refine PyI.NFr ?_) | (with_reducible refine PyI.NFrL ?_) | (with_reducible refine PyI.NFrD ?_)
  ))
local macro_rules | `(tactic| walk_at "if") => `(tactic| refine PyI.XsW_nm (by first | (simp only [List.set_cons_succ, List.set_cons_zero]; rfl) | rfl) (PyI.XsW_cons.2 (PyI.XW_ifs.2 ?_)))
local macro_rules | `(tactic| walk_at "st") => `(tactic| refine PyI.XsW_nm (by first | (simp only [List.set_cons_succ, List.set_cons_zero]; rfl) | rfl) (PyI.XsW_cons.2 ?_))
local macro_rules | `(tactic| walk_at "nm") => `(tactic| refine PyI.XsW_nm (by first | (simp only [List.set_cons_succ, List.set_cons_zero]; rfl) | rfl) ?_)
local macro_rules | `(tactic| walk_at "start") => `(tactic| (simp only [List.map_cons, List.map_nil, List.cons_append, List.nil_append, List.replicate, Nat.reduceSub]; rfl))
local macro_rules | `(tactic| walk_at "bind") => `(tactic| (simp only [PyI.bindT, PyI.wipeE, List.length_cons, List.length_nil, List.zip_cons_cons, List.zip_nil_right, List.zip_nil_left, List.foldl_cons, List.foldl_nil, List.set_cons_zero, List.set_cons_succ, if_true]; rfl))

namespace PyI
open PySem L2

/-- a place of the store that holds a number -/
def RelS (S : Store) (l : Nat) : Prop := ∃ v : Int, S[l]? = some (.lst [.int v])
/-- that place alone has changed -/
structure Stp (S : Store) (l : Nat) (S' : Store) : Prop where
  len : S'.length = S.length
  at_ : RelS S' l
  oth : ∀ j, j ≠ l → S'[j]? = S[j]?
theorem Stp.refl {S : Store} {l : Nat} (h : RelS S l) : Stp S l S := ⟨rfl, h, fun _ _ => rfl⟩
theorem Stp.trans {S S' S'' : Store} {l : Nat} (a : Stp S l S') (b : Stp S' l S'') : Stp S l S'' := ⟨b.len.trans a.len, b.at_, fun j h => (b.oth j h).trans (a.oth j h)⟩
section
variable {tab : Nat → Option FD} {n : Nat} {S : Store} {l : Nat} {Q : D → Stt → Store → Prop}
theorem rng_get {m : Int} {i : Nat} (hi : i < ((List.range m.toNat).map (fun k : Nat => D.int (k : Int))).length) : ((List.range m.toNat).map (fun k : Nat => D.int (k : Int)))[i] = .int i := by simp
end
end PyI
namespace PyI
open PySem L2

def chars (cs : List Nat) : List D := cs.map fun c => .str [c]
def insN (x : Nat) : List Nat → List Nat
  | [] => [x]
  | y :: ys => if y < x then y :: insN x ys else x :: y :: ys
def sortN : List Nat → List Nat
  | [] => []
  | x :: xs => insN x (sortN xs)
theorem insS_one (x : Nat) : ∀ ys : List Nat, insS [x] (ys.map fun c => [c]) = (insN x ys).map fun c => [c]
  | [] => rfl
  | y :: ys => by
    have e : ([y] < [x]) = (y < x) := by simp [List.cons_lt_cons_iff]
    simp only [List.map_cons, insS, insN, e]
    split
    · rw [insS_one x ys]; rfl
    · rfl
theorem sortS_one : ∀ ys : List Nat, sortS (ys.map fun c => [c]) = (sortN ys).map fun c => [c]
  | [] => rfl
  | y :: ys => by
    simp only [List.map_cons, sortS, sortN]
    rw [sortS_one ys, insS_one]
theorem insN_perm (x : Nat) : ∀ ys, (insN x ys).Perm (x :: ys)
  | [] => .refl _
  | y :: ys => by
    unfold insN
    split
    · exact ((insN_perm x ys).cons y).trans (.swap x y ys)
    · exact .refl _
theorem sortN_perm : ∀ xs, (sortN xs).Perm xs
  | [] => .refl _
  | x :: xs => (insN_perm x _).trans ((sortN_perm xs).cons x)
theorem insN_lt (x : Nat) : ∀ ys : List Nat, ys.Pairwise (· < ·) → x ∉ ys → (insN x ys).Pairwise (· < ·)
  | [], _, _ => List.pairwise_singleton _ _
  | y :: ys, h, hx => by
    unfold insN
    have h1 := List.pairwise_cons.mp h
    split
    · rename_i hlt
      refine List.pairwise_cons.mpr ⟨fun z hz => ?_, insN_lt x ys h1.2 fun q => hx (by simp [q])⟩
      rcases List.mem_cons.mp ((insN_perm x ys).mem_iff.mp hz) with rfl | hz
      · exact hlt
      · exact h1.1 z hz
    · rename_i hnl
      have hxy : x < y := by
        have : x ≠ y := fun e => hx (by simp [e])
        omega
      refine List.pairwise_cons.mpr ⟨fun z hz => ?_, h⟩
      rcases List.mem_cons.mp hz with rfl | hz
      · exact hxy
      · exact Nat.lt_trans hxy (h1.1 z hz)
theorem sortN_lt : ∀ xs : List Nat, xs.Nodup → (sortN xs).Pairwise (· < ·)
  | [], _ => .nil
  | x :: xs, h => by
    have h1 := List.nodup_cons.mp h
    exact insN_lt x _ (sortN_lt xs h1.2) fun q => h1.1 ((sortN_perm xs).mem_iff.mp q)
theorem join_one : ∀ ys : List Nat, joinN [] (ys.map fun c => [c]) = ys
  | [] => rfl
  | [y] => rfl
  | y :: z :: ys => by
    have := join_one (z :: ys)
    simp only [List.map_cons, joinN] at this ⊢
    rw [this]; rfl
theorem chars_map (cs : List Nat) : chars cs = (cs.map fun c => [c]).map .str := by simp [chars]
/-- a table's columns -/
structure Cols (cs : List Nat) : Prop where
  lt : cs.Pairwise (· < ·)
  az : ∀ c ∈ cs, 97 ≤ c ∧ c ≤ 122
def alpha : List Nat := [97, 98, 99, 100, 101, 102, 103, 104, 105, 106, 107, 108, 109, 110, 111, 112, 113, 114, 115, 116, 117, 118, 119, 120, 121, 122]
section
variable {tab : Nat → Option FD} {n : Nat} {S : Store} {l : Nat} {Q : D → Stt → Store → Prop}
theorem O_sortC {cs : List Nat} (h : cs.length < 64) {Q : D → Prop} (q : Q (.lst (chars (sortN cs)))) : OW (biD .sorted ([.lst (chars cs)].map (rd S))) Q := by
  rw [chars_map]
  refine O_sortS (by simpa using h) ?_
  rw [sortS_one, ← chars_map]
  exact q
theorem O_joinC {cs : List Nat} (h : cs.length ≤ szL) {Q : D → Prop} (q : Q (.str cs)) : OW (meD .join (rd S (.str [])) ([.lst (chars cs)].map (rd S))) Q := by
  rw [chars_map]
  refine O_join ?_ ?_
  · rw [join_one]; simpa using h
  · rw [join_one]; exact q
theorem map_erase {α β : Type} (f : α → β) : ∀ (xs : List α) (i : Nat), (xs.map f).eraseIdx i = (xs.eraseIdx i).map f
  | [], _ => rfl
  | x :: xs, 0 => rfl
  | x :: xs, i + 1 => by simp [map_erase f xs i]
theorem chars_pop {cs : List Nat} {k : Nat} (h : k < cs.length) : (chars cs)[k]? = some (.str [cs[k]]) ∧ (chars cs).eraseIdx k = chars (cs.eraseIdx k) := by
  refine ⟨?_, map_erase _ _ _⟩
  unfold chars
  rw [List.getElem?_map, List.getElem?_eq_getElem h]
  rfl
theorem erase_perm {α : Type} : ∀ {xs : List α} {k : Nat} (h : k < xs.length), (xs[k] :: xs.eraseIdx k).Perm xs
  | x :: xs, 0, _ => .refl _
  | x :: xs, k + 1, h => by
    have hk : k < xs.length := by simpa using h
    simp only [List.getElem_cons_succ, List.eraseIdx_cons_succ]
    exact (List.Perm.swap _ _ _).trans ((erase_perm hk).cons x)
/-- left and found, the letters -/
def Split (all left found : List Nat) : Prop := (left ++ found).Perm all
theorem Split.pop {all left found : List Nat} (h : Split all left found) {k : Nat} (hk : k < left.length) : Split all (left.eraseIdx k) (found ++ [left[k]]) := by
  refine List.Perm.trans ?_ h
  rw [← List.append_assoc]
  refine (List.perm_append_singleton _ _).trans ?_
  rw [← List.cons_append]
  exact (erase_perm hk).append_right _
theorem len_erase {α : Type} {xs : List α} {k : Nat} (h : k < xs.length) : (xs.eraseIdx k).length + 1 = xs.length := by
  rw [List.length_eraseIdx_of_lt h]; omega
end
end PyI
namespace PyI
open PySem L2

def numsD (r : List Int) : List D := r.map .int
def encRow (r : List Int) : D := .tup (numsD r)
def encRows (rows : List (List Int)) : D := .tup (rows.map encRow)
def encT (cs : List Nat) (rows : List (List Int)) : D := .tup [.str cs, encRows rows]
/-- numbers of a table -/
def Num (x : Int) : Prop := 0 ≤ x ∧ x ≤ 999
structure Tabl (cs : List Nat) (rows : List (List Int)) : Prop where
  cols : Cols cs
  row : ∀ r ∈ rows, r.length = cs.length ∧ ∀ x ∈ r, Num x
section
variable {cf : CF} {tab : Nat → Option FD} {n : Nat} {S : Store} {l : Nat} {Q : D → Stt → Store → Prop}
end
end PyI
namespace PyI
open PySem L2

mutual
/-- no truths, no dicts, no places -/
def cln : D → Bool
  | .non => true
  | .int _ => true
  | .str s => cpOk s
  | .tup ds => clns ds
  | .lst ds => clns ds
  | _ => false
def clns : List D → Bool
  | [] => true
  | d :: ds => cln d && clns ds
end
mutual
theorem deq_iff : ∀ (a b : D), cln a = true → cln b = true → (deq a b = true ↔ a = b)
  | .non, b, _, hb => by cases b <;> simp [cln] at hb <;> simp [deq]
  | .int i, b, _, hb => by cases b <;> simp [cln] at hb <;> simp [deq]
  | .str i, b, _, hb => by cases b <;> simp [cln] at hb <;> simp [deq]
  | .tup xs, b, ha, hb => by
    cases b <;> simp [cln] at hb <;> try (simp [deq]; done)
    rename_i ys
    simp only [deq, D.tup.injEq]
    exact deqs_iff xs ys (by simpa [cln] using ha) hb
  | .lst xs, b, ha, hb => by
    cases b <;> simp [cln] at hb <;> try (simp [deq]; done)
    rename_i ys
    simp only [deq, D.lst.injEq]
    exact deqs_iff xs ys (by simpa [cln] using ha) hb
  | .bl _, _, h, _ => by simp [cln] at h
  | .dict _ _, _, h, _ => by simp [cln] at h
  | .ref _, _, h, _ => by simp [cln] at h
  | .scr _, _, h, _ => by simp [cln] at h
  | .dictF _ _, _, h, _ => by simp [cln] at h
theorem deqs_iff : ∀ (a b : List D), clns a = true → clns b = true → (deqs a b = true ↔ a = b)
  | [], [], _, _ => by simp [deqs]
  | [], y :: ys, _, _ => by simp [deqs]
  | x :: xs, [], _, _ => by simp [deqs]
  | x :: xs, y :: ys, ha, hb => by
    simp only [clns, Bool.and_eq_true] at ha hb
    simp only [deqs, Bool.and_eq_true, List.cons.injEq, deq_iff x y ha.1 hb.1, deqs_iff xs ys ha.2 hb.2]
end
noncomputable instance decD (a b : D) : Decidable (a = b) := Classical.propDecidable _
theorem deq_dec {a b : D} (ha : cln a = true) (hb : cln b = true) : deq a b = decide (a = b) := by
  by_cases h : a = b
  · rw [decide_eq_true h, (deq_iff a b ha hb).mpr h]
  · rw [decide_eq_false h]
    cases q : deq a b with
    | false => rfl
    | true => exact absurd ((deq_iff a b ha hb).mp q) h
theorem clns_map {α : Type} {f : α → D} {l : List α} (h : ∀ x ∈ l, cln (f x) = true) : clns (l.map f) = true := by
  induction l with
  | nil => rfl
  | cons x l ih => simp only [List.map_cons, clns, h x (by simp), ih fun y hy => h y (by simp [hy]), Bool.and_self]
theorem shps_map {α : Type} {f : α → D} {l : List α} {n : Nat} (h : ∀ x ∈ l, shp n (f x) = true) : shps n (l.map f) = true := by
  induction l with
  | nil => simp [shps]
  | cons x l ih => simp only [List.map_cons, shps, h x (by simp), ih fun y hy => h y (by simp [hy]), Bool.and_self]
mutual
theorem shp_cln : ∀ (n : Nat) (d : D), shp n d = true → shp (n + 1) d = true
  | n, .non, _ => by cases n <;> simp [shp]
  | n, .bl _, _ => by cases n <;> simp [shp]
  | n, .int _, _ => by cases n <;> simp [shp]
  | n, .str _, h => by cases n <;> simpa [shp] using h
  | n + 1, .tup ds, h => by simp only [shp] at h ⊢; exact shps_cln n ds h
  | n + 1, .lst ds, h => by simp only [shp] at h ⊢; exact shps_cln n ds h
  | 0, .tup _, h => by simp [shp] at h
  | 0, .lst _, h => by simp [shp] at h
  | n, .dict _ _, h => by cases n <;> simp [shp] at h
  | n, .ref _, h => by cases n <;> simp [shp] at h
  | n, .scr _, h => by cases n <;> simp [shp] at h
  | n, .dictF _ _, h => by cases n <;> simp [shp] at h
theorem shps_cln : ∀ (n : Nat) (ds : List D), shps n ds = true → shps (n + 1) ds = true
  | n, [], _ => by simp [shps]
  | n, d :: ds, h => by
    simp only [shps, Bool.and_eq_true] at h ⊢
    exact ⟨shp_cln n d h.1, shps_cln n ds h.2⟩
end
/-- what two plain data compare to -/
theorem O_eq {S : Store} {a b : D} {Q : D → Prop} (sa : shp 60 a = true) (sb : shp 60 b = true) (ca : cln a = true) (cb : cln b = true) (q : Q (.bl (decide (a = b)))) : OW (binD .eq (rd S a) (rd S b)) Q := by
  refine O_eqD sa sb ?_ ?_ (by rw [deq_dec ca cb]; exact q)
  · cases a <;> first | rfl | simp [cln] at ca
  · cases b <;> first | rfl | simp [cln] at cb
theorem O_ne {S : Store} {a b : D} {Q : D → Prop} (sa : shp 60 a = true) (sb : shp 60 b = true) (ca : cln a = true) (cb : cln b = true) (q : Q (.bl (decide (a ≠ b)))) : OW (binD .ne (rd S a) (rd S b)) Q := by
  refine O_neD sa sb ?_ ?_ (by rw [deq_dec ca cb]; simpa using q)
  · cases a <;> first | rfl | simp [cln] at ca
  · cases b <;> first | rfl | simp [cln] at cb
/-- letters -/
theorem cp_az {cs : List Nat} (h : ∀ c ∈ cs, 97 ≤ c ∧ c ≤ 122) : cpOk cs = true := by
  unfold cpOk
  rw [List.all_eq_true]
  intro c hc
  have := h c hc
  simp only [decide_eq_true_eq]
  omega
end PyI
namespace PyI
open PySem L2

/-- a question: pairs, a reach -/
abbrev Eqs := List (Nat × Int)
abbrev Rch := Option (Nat × Int × Int)
def encP (p : Nat × Int) : D := .tup [.str [p.1], .int p.2]
def encE (e : Eqs) : D := .tup (e.map encP)
def encR : Rch → D
  | none => .non
  | some (c, lo, hi) => .tup [.str [c], .int lo, .int hi]
def encQ (e : Eqs) (r : Rch) : D := .tup [encE e, encR r]
structure Qok (cs : List Nat) (e : Eqs) (r : Rch) : Prop where
  lt : (e.map (·.1)).Pairwise (· < ·)
  mem : ∀ p ∈ e, p.1 ∈ cs ∧ Num p.2
  len : e.length ≤ cs.length
  rch : ∀ c lo hi, r = some (c, lo, hi) → c ∈ cs ∧ c ∉ e.map (·.1) ∧ Num lo ∧ Num hi ∧ lo ≤ hi
section
variable {cf : CF} {tab : Nat → Option FD} {n : Nat} {S : Store} {l : Nat} {Q : D → Stt → Store → Prop}
end
end PyI
namespace PyI
open PySem L2

section
variable {cf : CF} {tab : Nat → Option FD} {n : Nat} {S : Store} {l : Nat} {Q : D → Stt → Store → Prop}
theorem BW_not {c : Prop} [Decidable c] {p q : Prop} : BW (.bl (!decide c)) p q ↔ (¬ c → p) ∧ (c → q) := by
  by_cases h : c <;> simp [h]
theorem chars_get {cs : List Nat} {k : Int} (h0 : 0 ≤ k) (h1 : k < (chars cs).length) {Q : D → Prop} (q : ∀ c ∈ cs, Q (.str [c])) : OW (ixD (rd S (.lst (chars cs))) (.int k)) Q := by
  have hl : (chars cs).length = cs.length := by simp [chars]
  have hk : k.toNat < cs.length := by omega
  exact O_ixL h0 (chars_pop hk).1 (q _ (List.getElem_mem hk))
theorem cln_chars {cs : List Nat} (h : ∀ c ∈ cs, 97 ≤ c ∧ c ≤ 122) : cln (.lst (chars cs)) = true ∧ shp 60 (.lst (chars cs)) = true := by
  have hc : ∀ c ∈ cs, cpOk [c] = true := fun c hc => cp_az fun x hx => by
    have : x = c := by simpa using hx
    subst this; exact h x hc
  refine ⟨?_, ?_⟩
  · simp only [cln]; exact clns_map fun c q => by simpa [cln] using hc c q
  · simp only [shp]; exact shps_map fun c q => by simpa [shp] using hc c q
end
end PyI
namespace PyI
open PySem L2

/-- what a row has in a column -/
def valAt (cs : List Nat) (row : List Int) (c : Nat) : Int := row.getD (cs.idxOf c) 0
def inR (cs : List Nat) (row : List Int) : Rch → Bool
  | none => true
  | some (c, lo, hi) => decide (lo ≤ valAt cs row c) && decide (valAt cs row c ≤ hi)
def fitsT (cs : List Nat) (e : Eqs) (r : Rch) (row : List Int) : Bool := e.all (fun p => decide (valAt cs row p.1 = p.2)) && inR cs row r
def ansT (cs : List Nat) (rows : List (List Int)) (e : Eqs) (r : Rch) : List Int := (rows.zipIdx.filter fun p => fitsT cs e r p.1).map fun p => (p.2 : Int)
section
variable {cf : CF} {tab : Nat → Option FD} {n : Nat} {S : Store} {l : Nat} {Q : D → Stt → Store → Prop}
end
end PyI
namespace PyI
open PySem L2

/-- a list of columns -/
structure Lst1 (cs one : List Nat) : Prop where
  nd : one.Nodup
  mem : ∀ c ∈ one, c ∈ cs
  pos : 1 ≤ one.length
  len : one.length ≤ cs.length
section
variable {cf : CF} {tab : Nat → Option FD} {n : Nat} {S : Store} {l : Nat} {Q : D → Stt → Store → Prop}
mutual
/-- how deep -/
def dep : D → Nat
  | .tup ds => deps ds + 1
  | .lst ds => deps ds + 1
  | _ => 0
def deps : List D → Nat
  | [] => 0
  | d :: ds => max (dep d) (deps ds)
end
mutual
theorem shp_dep : ∀ (d : D), cln d = true → ∀ k, dep d ≤ k → shp k d = true
  | .non, _, k, _ => by cases k <;> simp [shp]
  | .int _, _, k, _ => by cases k <;> simp [shp]
  | .str s, h, k, _ => by cases k <;> simpa [shp, cln] using h
  | .tup ds, h, k, hk => by
    simp only [dep] at hk
    obtain ⟨j, rfl⟩ : ∃ j, k = j + 1 := ⟨k - 1, by omega⟩
    simp only [shp]
    exact shps_dep ds (by simpa [cln] using h) j (by omega)
  | .lst ds, h, k, hk => by
    simp only [dep] at hk
    obtain ⟨j, rfl⟩ : ∃ j, k = j + 1 := ⟨k - 1, by omega⟩
    simp only [shp]
    exact shps_dep ds (by simpa [cln] using h) j (by omega)
  | .bl _, h, _, _ => by simp [cln] at h
  | .dict _ _, h, _, _ => by simp [cln] at h
  | .ref _, h, _, _ => by simp [cln] at h
  | .scr _, h, _, _ => by simp [cln] at h
theorem shps_dep : ∀ (ds : List D), clns ds = true → ∀ k, deps ds ≤ k → shps k ds = true
  | [], _, k, _ => by simp [shps]
  | d :: ds, h, k, hk => by
    simp only [clns, Bool.and_eq_true] at h
    simp only [deps] at hk
    simp only [shps, Bool.and_eq_true]
    exact ⟨shp_dep d h.1 k (by omega), shps_dep ds h.2 k (by omega)⟩
end
/-- short lists all the way down -/
def sml : Nat → D → Prop
  | 0, .tup _ => False
  | 0, .lst _ => False
  | k + 1, .tup ds => ds.length ≤ szL ∧ ∀ d ∈ ds, sml k d
  | k + 1, .lst ds => ds.length ≤ szL ∧ ∀ d ∈ ds, sml k d
  | _, _ => True
end
end PyI
namespace PyI
open PySem L2

def preN (P : Nat → Bool) : List Nat → Nat
  | [] => 0
  | c :: cs => if P c = true then preN P cs + 1 else 0
def inE (e : Eqs) (c : Nat) : Bool := decide (c ∈ e.map (·.1))
def rl : Rch → List Nat
  | none => []
  | some (c, _, _) => [c]
/-- the letters used -/
def usedL (e : Eqs) (r : Rch) : List Nat → List Nat
  | [] => []
  | c :: cs => if inE e c = true then c :: usedL e r cs else if rl r = [c] then [c] else []
section
variable {cf : CF} {tab : Nat → Option FD} {n : Nat} {S : Store} {l : Nat} {Q : D → Stt → Store → Prop}
theorem deqS {a b : List Nat} : deq (.str a) (.str b) = decide (a = b) := by simp [deq, beqL]
theorem any_deq {c : Nat} {cs : List Nat} : ((chars cs).any fun z => deq z (.str [c])) = decide (c ∈ cs) := by
  induction cs with
  | nil => rfl
  | cons x xs ih =>
    simp only [chars, List.map_cons, List.any_cons] at ih ⊢
    rw [ih, deqS]
    by_cases h : x = c
    · subst h; simp
    · have : c ≠ x := fun e => h e.symm
      simp [h, this]
theorem scal_chars {cs : List Nat} : (chars cs).all scalD = true := by
  rw [List.all_eq_true]
  intro d hd
  obtain ⟨c, _, rfl⟩ := List.mem_map.mp hd
  rfl
theorem O_ninC {c : Nat} {cs : List Nat} {Q : D → Prop} (q : Q (.bl (!decide (c ∈ cs)))) : OW (binD .notin (rd S (.str [c])) (rd S (.lst (chars cs)))) Q := by
  refine ⟨_, ?_, q⟩
  show (inD (.str [c]) (.lst (chars cs))).map (fun b => D.bl (!b)) = _
  simp only [inD, scal_chars, scalD, any_deq, Bool.and_self, if_true, Option.map_some]
theorem slS {s : List Nat} {lo hi : Option Int} (h : s.length ≤ szL) {Q : D → Prop} (q : Q (.str (cutD s lo hi))) : OW (slD (rd S (.str s)) lo hi) Q := by
  refine ⟨_, ?_, q⟩
  show (if s.length ≤ szL then _ else _) = _
  rw [if_pos h]
theorem sIx_nat {n : Nat} {d k : Nat} : HT.sIx n d (some (k : Int)) = min k n := by
  unfold HT.sIx
  simp
  omega
theorem cut_take {α : Type} {s : List α} {k : Nat} : cutD s none (some (k : Int)) = s.take k := by
  unfold cutD
  rw [sIx_nat]
  have e0 : HT.sIx s.length 0 none = 0 := rfl
  rw [e0]
  simp only [List.drop_zero, Nat.sub_zero]
  by_cases h : k ≤ s.length
  · rw [Nat.min_eq_left h]
  · rw [Nat.min_eq_right (by omega), List.take_of_length_le (by omega), List.take_of_length_le (by omega)]
end
end PyI
namespace PyI
open PySem L2

/-- what equals ask of a letter -/
def eqG (e : Eqs) (c : Nat) : Option Int := (e.find? fun p => decide (p.1 = c)).map (·.2)
def lowA (e : Eqs) (r : Rch) (c : Nat) : Int := match eqG e c with
  | some x => x
  | none => match r with | some (_, lo, _) => lo | none => 0
def highA (e : Eqs) (r : Rch) (c : Nat) : Int := match eqG e c with
  | some x => x
  | none => match r with | some (_, _, hi) => hi | none => 0
/-- the sign of a row against what is asked -/
def sgn1 (v lo hi : Int) : Int := (if hi < v then 1 else 0) - (if v < lo then 1 else 0)
def sgnF (e : Eqs) (r : Rch) (cs : List Nat) (row : List Int) (s : Int) (c : Nat) : Int := if s = 0 then sgn1 (valAt cs row c) (lowA e r c) (highA e r c) else s
def sgnT (e : Eqs) (r : Rch) (cs : List Nat) (us : List Nat) (row : List Int) : Int := us.foldl (sgnF e r cs row) 0
def keyT (cs us : List Nat) (row : List Int) : List Int := us.map (valAt cs row)
def startT (cs us : List Nat) (e : Eqs) (r : Rch) (rows : List (List Int)) : Nat := (rows.filter fun row => lexI false (keyT cs us row) (us.map (lowA e r))).length
def endT (cs us : List Nat) (e : Eqs) (r : Rch) (rows : List (List Int)) : Nat := (rows.filter fun row => lexI true (keyT cs us row) (us.map (highA e r))).length
section
variable {cf : CF} {tab : Nat → Option FD} {n : Nat} {S : Store} {l : Nat} {Q : D → Stt → Store → Prop}
end
end PyI
namespace PyI
open PySem L2

theorem Cols.nd {cs : List Nat} (h : Cols cs) : True := True.intro
section
variable {cf : CF} {tab : Nat → Option FD} {n : Nat} {S : Store} {l : Nat} {Q : D → Stt → Store → Prop}
end
end PyI
namespace PyI
open PySem L2
/-- the numbers of the rows that fit, by a look at each -/
def dueT (cs : List Nat) (rows : List (List Int)) (e : Eqs) (r : Rch) : List Int := ((List.range rows.length).filter fun i : Nat => fitsT cs e r (rows.getD i [])).map fun i : Nat => (i : Int)
section
variable {cf : CF} {tab : Nat → Option FD} {n : Nat} {S : Store} {l : Nat} {Q : D → Stt → Store → Prop}
end
end PyI
namespace PyI
open PySem L2

/-- a comprehension over what is known by now, turn by turn -/
theorem comp_loop {cf : CF} {ρ : SEnv} {elt : E} {tg : Tg} {cond : Es} {vs : List Nat} {P : List D → Store → Prop} (ds : List D) (S1 : Store) (hz : ds.length ≤ szL) (Inv : Nat → List D → Store → Prop) (h0 : Inv 0 [] S1)
    (hs : ∀ (i : Nat) (hi : i < ds.length) acc S, Inv i acc S → TW cf elt tg cond vs ρ ds[i] S fun r S' => Inv (i + 1) (addO acc r) S')
    (hd : ∀ xs S2, Inv ds.length xs S2 → P xs S2) : ds.length ≤ szL ∧ ∃ xs S2, loopC (turnF cf elt tg cond vs ρ) ds S1 = some (xs, S2) ∧ P xs S2 := by
  refine ⟨hz, ?_⟩
  obtain ⟨xs, S2, e, h⟩ := CW_inv Inv ds 0 [] S1 h0 fun i hi acc S hI => by
    have := hs i hi acc S (by simpa using hI)
    obtain ⟨r, S', e, h⟩ := TW_turn this
    refine ⟨r, S', e, ?_⟩
    cases r <;> simpa using h
  exact ⟨xs, S2, e, hd xs S2 (by simpa using h)⟩
def pairB (s : List Nat) : D := .tup [.str s, .bl true]
/-- a choice -/
structure Chc (cs : List Nat) (ch : List (List Nat)) : Prop where
  one : ∀ s ∈ ch, Lst1 cs s
  len : ch.length < 64
def encC (ch : List (List Nat)) : D := .tup (ch.map .str)
def priceB (cs : List Nat) (rows : List (List Int)) (e : Eqs) (r : Rch) (one : List Nat) : Int := 1 + (endT cs (usedL e r one) e r rows : Int) - startT cs (usedL e r one) e r rows
def priceO (cs : List Nat) (rows : List (List Int)) (e : Eqs) (r : Rch) (ch : List (List Nat)) : Int := minI rows.length (ch.map (priceB cs rows e r))
section
variable {cf : CF} {tab : Nat → Option FD} {n : Nat} {S : Store} {l : Nat} {Q : D → Stt → Store → Prop}
def encO : Option (List Nat) → D
  | none => .non
  | some s => .str s
end
end PyI
namespace PyI
open PySem L2
/-- a bag at a place of the store -/
def RelB (S : Store) (l : Nat) : Prop := ∃ (cells : List Int) (a b : Int), S[l]? = some (.lst [.lst (cells.map .int), .int a, .int b]) ∧ 0 ≤ a ∧ 0 ≤ b
/-- that place alone has changed -/
structure StpB (S : Store) (l : Nat) (S' : Store) : Prop where
  len : S'.length = S.length
  at_ : RelB S' l
  oth : ∀ j, j ≠ l → S'[j]? = S[j]?
theorem StpB.refl {S : Store} {l : Nat} (h : RelB S l) : StpB S l S := ⟨rfl, h, fun _ _ => rfl⟩
theorem StpB.trans {S S' S'' : Store} {l : Nat} (a : StpB S l S') (b : StpB S' l S'') : StpB S l S'' := ⟨b.len.trans a.len, b.at_, fun j h => (b.oth j h).trans (a.oth j h)⟩
section
variable {tab : Nat → Option FD} {n : Nat} {S : Store} {l : Nat} {Q : D → Stt → Store → Prop}
theorem O_p18 {Q : D → Prop} (q : Q (.int 1000000000000000000)) : OW (binD .pow (rd S (.int 10)) (rd S (.int 18))) Q := ⟨_, by rfl, q⟩
theorem set_at {l : Nat} {d : Cell} (h : l < S.length) : (S.set l d)[l]? = some d := by simp [h]
theorem l_bag_ok (h1 : tab i_l_bag = some fd_l_bag) {ns : List Int} (hQ : ∀ cells : List Int, Q (.lst [.lst (cells.map .int), .int 0, .int 0]) .fresh S) : CW (callN tab (n + 1)) i_l_bag [.scr ns] S Q := by
  refine CW_def h1 rfl (by walk_at "start") ?_
  walk_at "pz"
  refine ⟨_, _, rfl, rfl, ?_⟩
  refine ⟨_, rfl, ?_⟩
  walk_at "pz"
  refine ⟨_, rfl, ?_⟩
  walk_at "pz"
  have e : cutD (ns.map D.int) none (some 63) = (cutD ns none (some 63)).map D.int := by
    unfold cutD
    rw [List.length_map, List.map_take, List.map_drop]
  rw [e]
  exact hQ _
theorem l_lot_ok (h1 : tab i_l_lot = some fd_l_lot) {m : Int} (hS : RelB S l) (hm : 0 < m) (hm2 : m < 1073741824)
    (hQ : ∀ (k : Int) S', StpB S l S' → 0 ≤ k → k < m → Q (.int k) .fr S') : CW (callN tab (n + 1)) i_l_lot [.ref l, .int m] S Q := by
  obtain ⟨cells, a, b, hv, a0, b0⟩ := hS
  have hl : l < S.length := (List.getElem?_eq_some_iff.mp hv).1
  refine CW_def h1 rfl (by walk_at "start") ?_
  refine XsW_cut (fun ρ' S' => StpB S l S' ∧ ∃ x2 x3 x4 x5 x6 x7 : Slot, ρ' = [.val (.ref l), .val (.int m), x2, x3, x4, x5, x6, x7]) ?_ ?_
  · refine XW_ifs.2 ?_
    walk_at "pz"
    refine O_ixR hv (by decide) rfl ?_
    walk_at "pz"
    refine BW_dec.2 ⟨fun hb => ?_, fun _ => ?_⟩
    · walk_at "pz"
      refine O_ixR hv (by decide) rfl ?_
      walk_at "pz"
      refine ⟨l, rfl, ?_⟩
      rw [hv]
      refine ⟨1, 1, rfl, rfl, ?_⟩
      walk_at "pz"
      have hv1 : (S.set l (.lst ([.lst (cells.map .int), .int a, .int b].set 1 (.int (a + 1)))))[l]? = some (.lst [.lst (cells.map .int), .int (a + 1), .int b]) := set_at hl
      generalize hS1 : S.set l (.lst ([.lst (cells.map .int), .int a, .int b].set 1 (.int (a + 1)))) = S1 at hv1
      have ho1 : ∀ j, j ≠ l → S1[j]? = S[j]? := fun j hj => by rw [← hS1, List.getElem?_set_ne (Ne.symm hj)]
      have hl1 : S1.length = S.length := by rw [← hS1]; simp
      clear hS1
      refine XsW_cut (fun ρ' S' => S1 = S' ∧ ∃ (cell : Int) (x2 x5 x6 x7 : Slot), ρ' = [.val (.ref l), .val (.int m), x2, .val (.int a), .val (.int cell), x5, x6, x7]) ?_ ?_
      · refine XW_ifs.2 ?_
        walk_at "pz"
        refine O_ixR hv1 (by decide) rfl ?_
        walk_at "pz"
        refine BW_dec.2 ⟨fun hc => ?_, fun hc => ?_⟩
        · walk_at "pz"
          refine O_ixR hv1 (by decide) rfl ?_
          walk_at "pz"
          rw [List.length_map] at hc
          refine O_ixL (d := .int (cells[a.toNat]'(by omega))) a0 (by rw [List.getElem?_map, List.getElem?_eq_getElem]; rfl) ?_
          walk_at "pz"
          exact ⟨rfl, _, _, _, _, _, rfl⟩
        · walk_at "if"
          walk_at "pz"
          refine O_ixR hv1 (by decide) rfl ?_
          walk_at "pz"
          refine BW_dec.2 ⟨fun hc2 => ?_, fun hc2 => ?_⟩
          · walk_at "pz"
            refine O_ixR hv1 (by decide) rfl ?_
            walk_at "pz"
            refine O_ixR (n := 0) hv1 (by decide) rfl ?_
            walk_at "pz"
            rw [List.length_map] at hc2 ⊢
            have q0 := Int.emod_nonneg (a * 5) (show (cells.length : Int) ≠ 0 by omega)
            have q1 := Int.emod_lt_of_pos (a * 5) (show (0 : Int) < cells.length by omega)
            refine O_ixL (d := .int (cells[(a * 5 % (cells.length : Int)).toNat]'(by omega))) q0 (by rw [List.getElem?_map, List.getElem?_eq_getElem]; rfl) ?_
            walk_at "pz"
            exact ⟨rfl, _, _, _, _, _, rfl⟩
          · walk_at "pz"
            exact ⟨rfl, _, _, _, _, _, rfl⟩
      rintro _ _ ⟨rfl, cell, x2, x5, x6, x7, rfl⟩
      walk_at "pz"
      generalize hi5 : (cell % 2147483629 + 83 * a + 5) * 48271 % 998244353 = i5
      have c5 : 0 ≤ i5 ∧ i5 < 998244353 := by rw [← hi5]; exact ⟨Int.emod_nonneg _ (by decide), Int.emod_lt_of_pos _ (by decide)⟩
      walk_at "pz"
      generalize hi6 : (i5 * i5 + 69621 * a + 17) % 2147483647 = i6
      have c6 : 0 ≤ i6 ∧ i6 < 2147483647 := by rw [← hi6]; exact ⟨Int.emod_nonneg _ (by decide), Int.emod_lt_of_pos _ (by decide)⟩
      walk_at "pz"
      generalize hi7 : (i6 * i6 + 3 * i5 + 1) % 1000000007 = i7
      have c7 : 0 ≤ i7 ∧ i7 < 1000000007 := by rw [← hi7]; exact ⟨Int.emod_nonneg _ (by decide), Int.emod_lt_of_pos _ (by decide)⟩
      walk_at "pz"
      refine ⟨l, rfl, ?_⟩
      rw [hv1]
      refine ⟨2, 2, rfl, rfl, ?_⟩
      walk_at "pz"
      generalize hw : (i6 * 1000000007 + i7) / 4 + 1 = w
      have w0 : 0 ≤ w := by omega
      have hv2 : (S1.set l (.lst ([.lst (cells.map .int), .int (a + 1), .int b].set 2 (.int w))))[l]? = some (.lst [.lst (cells.map .int), .int (a + 1), .int w]) := set_at (by omega)
      generalize hS2 : S1.set l (.lst ([.lst (cells.map .int), .int (a + 1), .int b].set 2 (.int w))) = S2 at hv2
      have ho2 : ∀ j, j ≠ l → S2[j]? = S[j]? := fun j hj => by rw [← hS2, List.getElem?_set_ne (Ne.symm hj)]; exact ho1 j hj
      have hl2 : S2.length = S.length := by rw [← hS2]; simpa using hl1
      clear hS2
      walk_at "if"
      walk_at "pz"
      refine O_p18 ?_
      walk_at "pz"
      refine BW_dec.2 ⟨fun hc => ?_, fun hc => ?_⟩
      · walk_at "pz"
        refine O_p18 ?_
        walk_at "pz"
        refine ⟨l, rfl, ?_⟩
        rw [hv2]
        refine ⟨2, 2, rfl, rfl, ?_⟩
        walk_at "pz"
        refine ⟨⟨by simpa using hl2, ⟨cells, a + 1, cell / 1000000000000000000, set_at (by omega), by omega, by omega⟩, fun j hj => by rw [List.getElem?_set_ne (Ne.symm hj)]; exact ho2 j hj⟩, _, _, _, _, _, _, rfl⟩
      · walk_at "pz"
        exact ⟨⟨hl2, ⟨cells, a + 1, w, hv2, by omega, w0⟩, ho2⟩, _, _, _, _, _, _, rfl⟩
    · walk_at "pz"
      exact ⟨.refl ⟨cells, a, b, hv, a0, b0⟩, _, _, _, _, _, _, rfl⟩
  rintro _ S1 ⟨st, x2, x3, x4, x5, x6, x7, rfl⟩
  obtain ⟨hl1, ⟨cells', a', b', hv', a0', b0'⟩, ho1⟩ := st
  walk_at "pz"
  refine O_ixR hv' (by decide) rfl ?_
  walk_at "pz"
  refine O_ixR hv' (by decide) rfl ?_
  walk_at "pz"
  refine ⟨l, rfl, ?_⟩
  rw [hv']
  refine ⟨2, 2, rfl, rfl, ?_⟩
  walk_at "pz"
  refine hQ _ _ ⟨by simpa using hl1, ⟨cells', a', b' / m, set_at (by omega), a0', Int.ediv_nonneg b0' (by omega)⟩, fun j hj => by rw [List.getElem?_set_ne (Ne.symm hj)]; exact ho1 j hj⟩ (Int.emod_nonneg _ (by omega)) (Int.emod_lt_of_pos _ hm)
end
end PyI
namespace PyI
open PySem L2
theorem sortN_alike {a b : List Nat} (ha : a.Nodup) (hb : b.Nodup) (h : ∀ x, x ∈ a ↔ x ∈ b) : sortN a = sortN b := by
  have hp : a.Perm b := (List.perm_ext_iff_of_nodup ha hb).mpr h
  exact List.Perm.eq_of_pairwise (le := (· ≤ ·)) (fun x y _ _ h1 h2 => Nat.le_antisymm h1 h2) ((sortN_lt a ha).imp Nat.le_of_lt) ((sortN_lt b hb).imp Nat.le_of_lt) ((sortN_perm a).trans (hp.trans (sortN_perm b).symm))
theorem sortN_self {a : List Nat} (h : a.Pairwise (· < ·)) : sortN a = a :=
  List.Perm.eq_of_pairwise (le := (· ≤ ·)) (fun x y _ _ h1 h2 => Nat.le_antisymm h1 h2) ((sortN_lt a (h.imp fun h => by omega)).imp Nat.le_of_lt) (h.imp Nat.le_of_lt) (sortN_perm a)
theorem cut_two {α : Type} {s : List α} {i j : Nat} : cutD s (some (i : Int)) (some (j : Int)) = (s.drop i).take (j - i) := by
  unfold cutD
  rw [sIx_nat, sIx_nat]
  by_cases h : i ≤ s.length
  · rw [Nat.min_eq_left h]
    by_cases h2 : j ≤ s.length
    · rw [Nat.min_eq_left h2]
    · rw [Nat.min_eq_right (by omega), List.take_of_length_le (by simp), List.take_of_length_le (by rw [List.length_drop]; omega)]
  · rw [Nat.min_eq_right (by omega : s.length ≤ i), List.drop_of_length_le (Nat.le_refl _), List.drop_of_length_le (by omega)]
    simp
theorem cut_end {α : Type} {s : List α} {k : Nat} : cutD s (some (k : Int)) none = s.drop k := by
  unfold cutD
  rw [sIx_nat]
  have e0 : HT.sIx s.length s.length none = s.length := rfl
  rw [e0]
  by_cases h : k ≤ s.length
  · rw [Nat.min_eq_left h, List.take_of_length_le (by simp)]
  · rw [Nat.min_eq_right (by omega), List.drop_of_length_le (by omega), List.drop_of_length_le (by omega)]; simp
section
variable {cf : CF} {tab : Nat → Option FD} {n : Nat} {S : Store} {l : Nat} {Q : D → Stt → Store → Prop}
theorem O_sortText {s : List Nat} (h : s.length ≤ 10000) {Q : D → Prop} (q : Q (.lst (chars (sortN s)))) : OW (biD .sorted ([.str s].map (rd S))) Q := by
  refine ⟨_, ?_, q⟩
  show (if s.length ≤ 10000 then some (D.lst ((sortS (s.map fun c => [c])).map .str)) else none) = _
  rw [if_pos h, sortS_one, ← chars_map]
theorem back_text' {s : List Nat} (h : s.length ≤ szL) {Q : D → Prop} (q : Q (.str s.reverse)) : OW (backD (rd S (.str s))) Q := by
  refine ⟨_, ?_, q⟩
  show (if s.length ≤ szL then some (D.str s.reverse) else none) = _
  rw [if_pos h]
theorem dec_chars (a b : List Nat) : decide (D.lst (chars a) = .lst (chars b)) = decide (a = b) := by
  rw [Bool.eq_iff_iff, decide_eq_true_iff, decide_eq_true_iff]
  simp only [D.lst.injEq, chars]
  exact List.map_inj_right (f := fun c => D.str [c]) (fun x y h => by cases h; rfl)
theorem eq_letters {a b : List Nat} (ha : ∀ c ∈ a, 97 ≤ c ∧ c ≤ 122) (hb : ∀ c ∈ b, 97 ≤ c ∧ c ≤ 122) {Q : D → Prop} (q : Q (.bl (decide (a = b)))) : OW (binD .eq (rd S (.lst (chars a))) (rd S (.lst (chars b)))) Q := by
  refine O_eq (cln_chars ha).2 (cln_chars hb).2 (cln_chars ha).1 (cln_chars hb).1 ?_
  rw [dec_chars]; exact q
theorem ne_letters {a b : List Nat} (ha : ∀ c ∈ a, 97 ≤ c ∧ c ≤ 122) (hb : ∀ c ∈ b, 97 ≤ c ∧ c ≤ 122) {Q : D → Prop} (q : Q (.bl (!decide (a = b)))) : OW (binD .ne (rd S (.lst (chars a))) (rd S (.lst (chars b)))) Q := by
  refine O_ne (cln_chars ha).2 (cln_chars hb).2 (cln_chars ha).1 (cln_chars hb).1 ?_
  have : decide (D.lst (chars a) ≠ .lst (chars b)) = !decide (a = b) := by
    rw [← dec_chars]; simp
  rw [this]; exact q
theorem l_columns_2_ok (h1 : tab i_l_lot = some fd_l_lot) (h2 : tab i_l_columns_2 = some fd_l_columns_2) {m : Int} (hS : RelB S l) (hm : 1 ≤ m) (hm2 : m ≤ 26)
    (hQ : ∀ (cs : List Nat) S', StpB S l S' → Cols cs → 1 ≤ cs.length → (cs.length : Int) ≤ m → Q (.str cs) .fr S') : CW (callN tab (n + 2)) i_l_columns_2 [.ref l, .int m] S Q := by
  refine CW_def h2 rfl (by walk_at "start") ?_
  walk_at "pz"
  refine O_lstS (by decide) ?_
  walk_at "pz"
  refine XsW_cut (fun ρ' S' => StpB S l S' ∧ ∃ (left found : List Nat) (x : Slot), Split alpha left found ∧ 1 ≤ found.length ∧ (found.length : Int) ≤ m ∧ ρ' = [.val (.ref l), .val (.int m), .own (.lst (chars left)), .own (.lst (chars found)), x]) ?_ ?_
  · refine XW_for.2 ⟨rfl, ?_⟩
    walk_at "pz"
    refine l_lot_ok h1 hS (by omega) (by omega) fun w S1 st1 w0 w1 => ?_
    walk_at "pz"
    refine ⟨_, rfl, by omega, ?_⟩
    refine LW_inv (fun i ρ' S' => StpB S l S' ∧ ∃ (left found : List Nat) (x : Slot), Split alpha left found ∧ found.length = i ∧ left.length + i = 26 ∧ ρ' = [.val (.ref l), .val (.int m), .own (.lst (chars left)), .own (.lst (chars found)), x]) _ 0 _ _
      ⟨st1, alpha, [], _, by unfold Split; simp, rfl, rfl, rfl⟩ ?_ ?_
    · rintro i hi _ S2 ⟨st, left, found, x, sp, hf, hl, rfl⟩
      have hi' : i < (1 + w).toNat := by simpa using hi
      refine bodyW ⟨_, rfl, ?_⟩
      rw [rng_get hi]
      walk_at "pz"
      have e : (chars left).length = left.length := by simp [chars]
      refine l_lot_ok h1 st.at_ (by rw [e]; omega) (by rw [e]; omega) fun k S3 st3 k0 k1 => ?_
      rw [e] at k1
      have hk : k.toNat < left.length := by omega
      obtain ⟨p1, p2⟩ := chars_pop hk
      refine OL_get.2 ⟨_, rfl, OL_get.2 ⟨_, rfl, k, _, rfl, ⟨k0, by omega⟩, by simp [chars, szL]; omega, by decide, p1, ?_⟩⟩
      walk_at "pz"
      refine ⟨st.trans st3, left.eraseIdx k.toNat, found ++ [left[k.toNat]], .val (.int (i : Int)), sp.pop hk, by simp [hf], by have := len_erase hk; omega, ?_⟩
      rw [p2]
      simp [chars]
    · rintro _ S2 ⟨st, left, found, x, sp, hf, hl, rfl⟩
      have : (found.length : Int) = 1 + w := by rw [hf]; simp; omega
      exact ⟨st, left, found, x, sp, by omega, by omega, rfl⟩
  rintro _ S1 ⟨st, left, found, x, sp, hf, hf2, rfl⟩
  walk_at "pz"
  refine O_sortC (by omega) ?_
  walk_at "pz"
  have hp := sortN_perm found
  refine O_joinC (by rw [hp.length_eq]; unfold szL; omega) ?_
  walk_at "pz"
  have hnd : found.Nodup := by
    have : (left ++ found).Nodup := sp.nodup_iff.mpr (by decide)
    exact (List.nodup_append.mp this).2.1
  refine hQ _ _ st ⟨sortN_lt _ hnd, fun c hc => ?_⟩ (by rw [hp.length_eq]; exact hf) (by rw [hp.length_eq]; exact hf2)
  have h3 : c ∈ alpha := sp.mem_iff.mp (List.mem_append_right _ (hp.mem_iff.mp hc))
  have : ∀ x ∈ alpha, 97 ≤ x ∧ x ≤ 122 := by decide
  exact this c h3
/-- a need -/
structure NeedOk (cs sm rc : List Nat) : Prop where
  sub : sm.Sublist cs
  rch : rc = [] ∨ ∃ c, rc = [c] ∧ c ∈ cs ∧ c ∉ sm
end
end PyI
namespace PyI
open PySem L2
/-- a text of columns, none twice -/
structure Ltr (cs o : List Nat) : Prop where
  nd : o.Nodup
  sub : ∀ c ∈ o, c ∈ cs
theorem Ltr.len {cs o : List Nat} (h : Ltr cs o) : o.length ≤ cs.length := by
  have : ∀ {a b : List Nat}, a.Nodup → (∀ c ∈ a, c ∈ b) → a.length ≤ b.length := by
    intro a
    induction a with
    | nil => intro b _ _; simp
    | cons x a ih =>
      intro b hn hs
      have hn' := List.nodup_cons.mp hn
      have hx : x ∈ b := hs x (by simp)
      have := ih (b := b.erase x) hn'.2 fun c hc => (List.mem_erase_of_ne (fun q : c = x => hn'.1 (by rw [← q]; exact hc))).mpr (hs c (by simp [hc]))
      rw [List.length_erase_of_mem hx] at this
      have : 0 < b.length := List.length_pos_of_mem hx
      simp only [List.length_cons]; omega
  exact this h.nd h.sub
theorem Ltr.sublist {cs o o' : List Nat} (h : Ltr cs o) (s : o'.Sublist o) : Ltr cs o' := ⟨s.nodup h.nd, fun c hc => h.sub c (s.subset hc)⟩
section
variable {cf : CF} {tab : Nat → Option FD} {n : Nat} {S : Store} {l : Nat} {Q : D → Stt → Store → Prop}
theorem sl_text {s : List Nat} {lo hi : Option Int} (h : s.length ≤ szL) {Q : D → Prop} (q : Q (.str (cutD s lo hi))) : OW (slD (rd S (.str s)) lo hi) Q := slS h q
theorem part_cut {o : List Nat} {k m : Nat} : cutD o (some (k : Int)) (some ((k : Int) + (m : Int))) = (o.drop k).take m := by
  have e : (k : Int) + (m : Int) = ((k + m : Nat) : Int) := by omega
  rw [e, cut_two, show k + m - k = m by omega]
theorem serves_need_ok (h1 : tab i_serves_need = some fd_serves_need) {cs o sm rc : List Nat} (hc : Cols cs) (hl : cs.length ≤ 26) (ho : Ltr cs o) (hN : NeedOk cs sm rc)
    (hQ : Q (.bl (decide (sortN (o.take sm.length) = sm) && decide ((o.drop sm.length).take rc.length = rc))) .fr S) : CW (callN tab (n + 1)) i_serves_need [.str o, .tup [.str sm, .str rc]] S Q := by
  have hol := ho.len
  have hsl := hN.sub.length_le
  have hoz : o.length ≤ szL := by unfold szL; omega
  have hrl : rc.length ≤ 1 := by
    rcases hN.rch with h | ⟨c, h, _⟩ <;> simp [h]
  refine CW_def h1 rfl (by walk_at "start") ?_
  walk_at "pz"
  refine O_ixT (by decide) rfl ?_
  walk_at "pz"
  refine O_lenS (by unfold szL; omega) ?_
  walk_at "pz"
  refine ⟨_, _, rfl, rfl, ?_⟩
  refine sl_text hoz ?_
  rw [cut_take]
  walk_at "pz"
  refine O_sortText (by rw [List.length_take]; omega) ?_
  walk_at "pz"
  refine O_ixT (by decide) rfl ?_
  walk_at "pz"
  refine O_lstS (by omega) ?_
  walk_at "pz"
  refine eq_letters (a := sortN (o.take sm.length)) (b := sm) (fun c h => hc.az c (ho.sub c (List.mem_of_mem_take ((sortN_perm _).mem_iff.mp h)))) (fun c h => hc.az c (hN.sub.subset h)) (BW_bl.2 ?_)
  by_cases h : sortN (o.take sm.length) = sm
  · simp only [h, decide_true, if_true, Bool.true_and] at hQ ⊢
    walk_at "pz"
    refine O_ixT (by decide) rfl ?_
    walk_at "pz"
    refine O_lenS (by unfold szL; omega) ?_
    walk_at "pz"
    refine ⟨_, _, rfl, rfl, ?_⟩
    refine sl_text hoz ?_
    rw [part_cut]
    walk_at "pz"
    refine O_ixT (by decide) rfl ?_
    walk_at "pz"
    exact hQ
  · simp only [h, decide_false, Bool.false_eq_true, if_false, Bool.false_and] at hQ ⊢
    walk_at "pz"
    exact hQ
end
end PyI
namespace PyI
def upF (m : Nat → Option Nat) (j i : Nat) : Nat → Option Nat := fun k => if k = j then some i else m k
theorem ne_in {k j : Nat} {s : List Nat} (hk : k ∈ s) (hj : j ∉ s) : k ≠ j := fun e => hj (by rw [← e]; exact hk)
theorem ne_out {k j : Nat} {s : List Nat} (hk : k ∉ s) (hj : j ∈ s) : k ≠ j := fun e => hk (by rw [e]; exact hj)
theorem upF_self {m : Nat → Option Nat} {j i : Nat} : upF m j i j = some i := by simp [upF]
theorem upF_ne {m : Nat → Option Nat} {j i k : Nat} (h : k ≠ j) : upF m j i k = m k := by simp [upF, h]
/-- one way on: others give way -/
inductive Aug (B : Nat → List Nat) (m : Nat → Option Nat) : List Nat → Nat → (Nat → Option Nat) → Prop
  | base {s : List Nat} {i j : Nat} : j ∈ B i → j ∉ s → m j = none → Aug B m s i (upF m j i)
  | step {s s' : List Nat} {i j x : Nat} {m1 : Nat → Option Nat} : j ∈ B i → j ∉ s → (∀ k ∈ s, k ∈ s') → j ∈ s' → m j = some x → Aug B m s' x m1 → Aug B m s i (upF m1 j i)
structure AugP (B : Nat → List Nat) (m : Nat → Option Nat) (s : List Nat) (i : Nat) (m' : Nat → Option Nat) : Prop where
  old : ∀ k ∈ s, m' k = m k
  val : (∀ j x, m j = some x → j ∈ B x) → ∀ j x, m' j = some x → j ∈ B x
  img : ∀ x, (∃ j, j ∉ s ∧ m' j = some x) ↔ (x = i ∨ ∃ j, j ∉ s ∧ m j = some x)
  inj : ∀ j1 j2 x, j1 ∉ s → j2 ∉ s → m' j1 = some x → m' j2 = some x → j1 = j2
theorem Aug.props {B : Nat → List Nat} {m : Nat → Option Nat} (hm : ∀ j1 j2 x, m j1 = some x → m j2 = some x → j1 = j2) {s : List Nat} {i : Nat} {m' : Nat → Option Nat} (h : Aug B m s i m') : (∀ j, m j = some i → j ∈ s) → AugP B m s i m' := by
  induction h with
  | @base s i j h1 h2 h3 =>
    intro hi
    refine ⟨fun k hk => upF_ne (ne_in hk h2), fun hv k x hk => ?_, fun x => ?_, fun j1 j2 x n1 n2 e1 e2 => ?_⟩
    · by_cases e : k = j
      · subst e; rw [upF_self] at hk; cases hk; exact h1
      · rw [upF_ne e] at hk; exact hv k x hk
    · constructor
      · rintro ⟨k, hk, e⟩
        by_cases ek : k = j
        · subst ek; rw [upF_self] at e; cases e; exact .inl rfl
        · rw [upF_ne ek] at e; exact .inr ⟨k, hk, e⟩
      · rintro (rfl | ⟨k, hk, e⟩)
        · exact ⟨j, h2, upF_self⟩
        · exact ⟨k, hk, by rw [upF_ne (fun ek => by subst ek; rw [h3] at e; cases e)]; exact e⟩
    · by_cases e3 : j1 = j
      · by_cases e4 : j2 = j
        · rw [e3, e4]
        · rw [e3, upF_self] at e1
          rw [upF_ne e4] at e2
          cases e1
          exact absurd (hi j2 e2) n2
      · rw [upF_ne e3] at e1
        by_cases e4 : j2 = j
        · rw [e4, upF_self] at e2
          cases e2
          exact absurd (hi j1 e1) n1
        · rw [upF_ne e4] at e2
          exact hm j1 j2 x e1 e2
  | @step s s' i j x m1 h1 h2 h3 h4 h5 h6 ih =>
    intro hi
    obtain ⟨q1, q2, q3, q4⟩ := ih fun k hk => by rw [hm k j x hk h5]; exact h4
    refine ⟨fun k hk => ?_, fun hv k y hk => ?_, fun y => ?_, fun j1 j2 y n1 n2 e1 e2 => ?_⟩
    · rw [upF_ne (ne_in hk h2)]
      exact q1 k (h3 k hk)
    · by_cases e : k = j
      · subst e; rw [upF_self] at hk; cases hk; exact h1
      · rw [upF_ne e] at hk; exact q2 hv k y hk
    · constructor
      · rintro ⟨k, hk, e⟩
        by_cases ek : k = j
        · subst ek; rw [upF_self] at e; cases e; exact .inl rfl
        · rw [upF_ne ek] at e
          by_cases hks : k ∈ s'
          · rw [q1 k hks] at e; exact .inr ⟨k, hk, e⟩
          · rcases (q3 y).mp ⟨k, hks, e⟩ with rfl | ⟨k2, hk2, e2⟩
            · exact .inr ⟨j, h2, h5⟩
            · exact .inr ⟨k2, fun q => hk2 (h3 k2 q), e2⟩
      · rintro (rfl | ⟨k, hk, e⟩)
        · exact ⟨j, h2, upF_self⟩
        · by_cases ek : k = j
          · subst ek
            rw [h5] at e
            cases e
            obtain ⟨k2, hk2, e2⟩ := (q3 x).mpr (.inl rfl)
            exact ⟨k2, fun q => hk2 (h3 k2 q), by rw [upF_ne (ne_out hk2 h4)]; exact e2⟩
          · by_cases hks : k ∈ s'
            · exact ⟨k, hk, by rw [upF_ne ek, q1 k hks]; exact e⟩
            · obtain ⟨k2, hk2, e2⟩ := (q3 y).mpr (.inr ⟨k, hks, e⟩)
              exact ⟨k2, fun q => hk2 (h3 k2 q), by rw [upF_ne (ne_out hk2 h4)]; exact e2⟩
    · have one : ∀ k, k ∉ s → k ≠ j → m1 k = some i → False := fun k hk hkj e => by
        by_cases hks : k ∈ s'
        · rw [q1 k hks] at e; exact hk (hi k e)
        · rcases (q3 i).mp ⟨k, hks, e⟩ with rfl | ⟨k2, hk2, e2⟩
          · exact h2 (hi j h5)
          · exact hk2 (h3 k2 (hi k2 e2))
      by_cases e3 : j1 = j
      · by_cases e4 : j2 = j
        · rw [e3, e4]
        · rw [e3, upF_self] at e1
          rw [upF_ne e4] at e2
          cases e1
          exact (one j2 n2 e4 e2).elim
      · rw [upF_ne e3] at e1
        by_cases e4 : j2 = j
        · rw [e4, upF_self] at e2
          cases e2
          exact (one j1 n1 e3 e1).elim
        · rw [upF_ne e4] at e2
          have mix : ∀ k1 k2, k1 ≠ j → k1 ∈ s' → k2 ∉ s' → m1 k1 = some y → m1 k2 = some y → False := fun k1 k2 hn hk1 hk2 e1 e2 => by
            rw [q1 k1 hk1] at e1
            rcases (q3 y).mp ⟨k2, hk2, e2⟩ with rfl | ⟨k3, hk3, e3⟩
            · exact hn (hm k1 j y e1 h5)
            · exact hk3 (by rw [hm k3 k1 y e3 e1]; exact hk1)
          by_cases s1 : j1 ∈ s'
          · by_cases s2 : j2 ∈ s'
            · rw [q1 j1 s1] at e1; rw [q1 j2 s2] at e2; exact hm j1 j2 y e1 e2
            · exact (mix j1 j2 e3 s1 s2 e1 e2).elim
          · by_cases s2 : j2 ∈ s'
            · exact (mix j2 j1 e4 s2 s1 e2 e1).elim
            · exact q4 j1 j2 y s1 s2 e1 e2
/-- closed: what is paired goes on only to such -/
def Clsd (B : Nat → List Nat) (m : Nat → Option Nat) (R : Nat → Prop) : Prop := ∀ j, R j → ∃ x, m j = some x ∧ ∀ k ∈ B x, R k
theorem aug_not {B : Nat → List Nat} {m : Nat → Option Nat} {R : Nat → Prop} (hR : Clsd B m R) {s : List Nat} {i : Nat} {m' : Nat → Option Nat} (h : Aug B m s i m') : ¬ ∀ k ∈ B i, R k := by
  induction h with
  | base h1 h2 h3 =>
    intro hB
    obtain ⟨x, e, _⟩ := hR _ (hB _ h1)
    rw [h3] at e; cases e
  | @step s s' i j x m1 h1 h2 h3 h4 h5 h6 ih =>
    intro hB
    obtain ⟨y, e, hy⟩ := hR _ (hB _ h1)
    rw [h5] at e
    cases e
    exact ih hy
theorem aug_keep {B : Nat → List Nat} {m : Nat → Option Nat} {R : Nat → Prop} (hR : Clsd B m R) {s : List Nat} {i : Nat} {m' : Nat → Option Nat} (h : Aug B m s i m') : ∀ k, R k → m' k = m k := by
  induction h with
  | base h1 h2 h3 =>
    intro k hk
    refine upF_ne fun e => ?_
    subst e
    obtain ⟨x, e, _⟩ := hR _ hk
    rw [h3] at e; cases e
  | @step s s' i j x m1 h1 h2 h3 h4 h5 h6 ih =>
    intro k hk
    rw [upF_ne fun e => ?_]
    · exact ih k hk
    · subst e
      obtain ⟨y, e, hy⟩ := hR _ hk
      rw [h5] at e
      cases e
      exact aug_not hR h6 hy
/-- a pairing after some tries -/
structure Pai (B : Nat → List Nat) (m : Nat → Option Nat) (R : Nat → Prop) (t : Nat) : Prop where
  inj : ∀ j1 j2 x, m j1 = some x → m j2 = some x → j1 = j2
  val : ∀ j x, m j = some x → j ∈ B x
  low : ∀ j x, m j = some x → x < t
  cls : Clsd B m R
  tri : ∀ i, i < t → (∃ j, m j = some i) ∨ ∀ j ∈ B i, R j
theorem Pai.win {B : Nat → List Nat} {m m' : Nat → Option Nat} {R : Nat → Prop} {t : Nat} (h : Pai B m R t) (ha : Aug B m [] t m') : Pai B m' R (t + 1) := by
  obtain ⟨p1, p2, p3, p4⟩ := ha.props h.inj fun j e => absurd (h.low j t e) (Nat.lt_irrefl t)
  refine ⟨fun j1 j2 x => p4 j1 j2 x (by simp) (by simp), p2 h.val, fun j x e => ?_, fun j hj => ?_, fun i hi => ?_⟩
  · rcases (p3 x).mp ⟨j, by simp, e⟩ with rfl | ⟨k, _, e2⟩
    · omega
    · have := h.low k x e2; omega
  · obtain ⟨x, e, hx⟩ := h.cls j hj
    exact ⟨x, by rw [aug_keep h.cls ha j hj]; exact e, hx⟩
  · by_cases e : i = t
    · subst e
      obtain ⟨j, _, e2⟩ := (p3 i).mpr (.inl rfl)
      exact .inl ⟨j, e2⟩
    · rcases h.tri i (by omega) with ⟨j, e2⟩ | q
      · obtain ⟨j', _, e3⟩ := (p3 i).mpr (.inr ⟨j, by simp, e2⟩)
        exact .inl ⟨j', e3⟩
      · exact .inr q
theorem Pai.fail {B : Nat → List Nat} {m : Nat → Option Nat} {R : Nat → Prop} {t : Nat} (h : Pai B m R t) {s : List Nat} (h1 : ∀ j ∈ B t, j ∈ s) (h2 : ∀ j ∈ s, ∃ x, m j = some x ∧ ∀ k ∈ B x, k ∈ s) : Pai B m (fun j => R j ∨ j ∈ s) (t + 1) := by
  refine ⟨h.inj, h.val, fun j x e => by have := h.low j x e; omega, fun j hj => ?_, fun i hi => ?_⟩
  · rcases hj with hj | hj
    · obtain ⟨x, e, hx⟩ := h.cls j hj
      exact ⟨x, e, fun k hk => .inl (hx k hk)⟩
    · obtain ⟨x, e, hx⟩ := h2 j hj
      exact ⟨x, e, fun k hk => .inr (hx k hk)⟩
  · by_cases e : i = t
    · subst e
      exact .inr fun j hj => .inr (h1 j hj)
    · rcases h.tri i (by omega) with q | q
      · exact .inl q
      · exact .inr fun j hj => .inl (q j hj)
/-- what is come to from those that nobody is behind -/
structure Com (B : Nat → List Nat) (m : Nat → Option Nat) (R : Nat → Prop) (N : Nat) (Zl Zr : List Nat) : Prop where
  z1 : ∀ i, i < N → (∀ j, m j ≠ some i) → i ∈ Zl
  z2 : ∀ i ∈ Zl, ∀ j ∈ B i, j ∈ Zr ∨ m j = none
  z3 : ∀ j ∈ Zr, ∃ x, m j = some x ∧ x ∈ Zl
  z4 : ∀ i ∈ Zl, i < N ∧ ∀ j ∈ B i, R j
  z5 : ∀ j ∈ Zr, ∃ i ∈ Zl, j ∈ B i
theorem subLen {α : Type} [DecidableEq α] : ∀ {a b : List α}, a.Nodup → (∀ s ∈ a, s ∈ b) → a.length ≤ b.length
  | [], _, _, _ => Nat.zero_le _
  | x :: a, b, hn, hs => by
    have hn' := List.nodup_cons.mp hn
    have hx : x ∈ b := hs x (by simp)
    have h1 := subLen (b := b.erase x) hn'.2 fun c hc => (List.mem_erase_of_ne (fun q : c = x => hn'.1 (by rw [← q]; exact hc))).mpr (hs c (by simp [hc]))
    rw [List.length_erase_of_mem hx] at h1
    have := List.length_pos_of_mem hx
    simp only [List.length_cons]
    omega
theorem fil_two {α : Type} (p : α → Bool) : ∀ l : List α, (l.filter p).length + (l.filter fun x => !p x).length = l.length
  | [] => rfl
  | x :: l => by
    have := fil_two p l
    cases h : p x <;> simp only [List.filter_cons, h, Bool.not_true, Bool.not_false, if_true, List.length_cons, Bool.false_eq_true, if_false] <;> omega
theorem fil_or {α : Type} (p q : α → Bool) (hd : ∀ x, ¬ (p x = true ∧ q x = true)) : ∀ l : List α, (l.filter p).length + (l.filter q).length = (l.filter fun x => p x || q x).length
  | [] => rfl
  | x :: l => by
    have := fil_or p q hd l
    have h3 := hd x
    cases h : p x <;> cases h2 : q x <;> simp_all only [List.filter_cons, Bool.or_true, Bool.or_false, if_true, List.length_cons, Bool.false_eq_true, if_false, Bool.or_self, not_true_eq_false, and_self] <;> omega
theorem kon_count {B : Nat → List Nat} {m : Nat → Option Nat} {R : Nat → Prop} {N : Nat} {Zl Zr : List Nat} (hB : ∀ i j, j ∈ B i → j < N) (hT : ∀ i j k, j ∈ B i → k ∈ B j → k ∈ B i) (h : Pai B m R N) (c : Com B m R N Zl Zr) :
    ((List.range N).filter fun i => decide (i ∈ Zl) && !decide (i ∈ Zr)).length = ((List.range N).filter fun i => (m i).isNone).length := by
  have hdis : ∀ x, ¬ ((decide (x < N) && !decide (x ∈ Zl)) = true ∧ decide (x ∈ Zr) = true) := fun x ⟨h1, h2⟩ => by
    simp only [Bool.and_eq_true, Bool.not_eq_true', decide_eq_true_eq, decide_eq_false_iff_not] at h1 h2
    obtain ⟨l, hl, hxl⟩ := c.z5 x h2
    by_cases hm : ∃ j, m j = some x
    · obtain ⟨j, e⟩ := hm
      have hj := hT l x j hxl (h.val j x e)
      rcases c.z2 l hl j hj with hz | hz
      · obtain ⟨y, e2, hy⟩ := c.z3 j hz
        rw [e] at e2
        cases e2
        exact h1.2 hy
      · rw [e] at hz; cases hz
    · exact h1.2 (c.z1 x h1.1 fun j e => hm ⟨j, e⟩)
  -- those out of lefts, and the rights
  have e1 := fil_two (fun i => decide (i ∈ Zl) && !decide (i ∈ Zr)) (List.range N)
  have e2 := fil_or (fun x => decide (x < N) && !decide (x ∈ Zl)) (fun x => decide (x ∈ Zr)) hdis (List.range N)
  have e3 : (List.range N).filter (fun x => !(decide (x ∈ Zl) && !decide (x ∈ Zr))) = (List.range N).filter fun x => (decide (x < N) && !decide (x ∈ Zl)) || decide (x ∈ Zr) := by
    refine List.filter_congr fun x hx => ?_
    have : x < N := List.mem_range.mp hx
    rw [decide_eq_true this]
    cases decide (x ∈ Zl) <;> cases decide (x ∈ Zr) <;> rfl
  have e4 := fil_two (fun i => (m i).isNone) (List.range N)
  have e5 := fil_or (fun i => decide (i ∈ Zr)) (fun i => !(m i).isNone && !decide (i ∈ Zr)) (fun x ⟨h1, h2⟩ => by simp at h1 h2; exact h2.2 h1) (List.range N)
  have e6 : (List.range N).filter (fun i => !(m i).isNone) = (List.range N).filter fun i => decide (i ∈ Zr) || (!(m i).isNone && !decide (i ∈ Zr)) := by
    refine List.filter_congr fun x hx => ?_
    by_cases hz : x ∈ Zr
    · obtain ⟨y, e, _⟩ := c.z3 x hz
      simp [hz, e]
    · simp [hz]
  have e7 : ((List.range N).filter fun i => !(m i).isNone && !decide (i ∈ Zr)).length = ((List.range N).filter fun x => decide (x < N) && !decide (x ∈ Zl)).length := by
    have nd : ((List.range N).filter fun i => !(m i).isNone && !decide (i ∈ Zr)).Nodup := List.filter_sublist.nodup List.nodup_range
    have nd2 : ((List.range N).filter fun x => decide (x < N) && !decide (x ∈ Zl)).Nodup := List.filter_sublist.nodup List.nodup_range
    have hmem : ∀ j, j ∈ (List.range N).filter (fun i => !(m i).isNone && !decide (i ∈ Zr)) → ∃ x, m j = some x ∧ j ∉ Zr := fun j hj => by
      have := (List.mem_filter.mp hj).2
      simp only [Bool.and_eq_true, Bool.not_eq_true', decide_eq_false_iff_not] at this
      cases hmj : m j with
      | none => rw [hmj] at this; simp at this
      | some x => exact ⟨x, rfl, this.2⟩
    refine Nat.le_antisymm ?_ ?_
    · rw [← List.length_map (f := fun j => (m j).getD 0)]
      refine subLen ?_ fun x hx => ?_
      · refine List.pairwise_map.mpr (List.Pairwise.imp_of_mem (fun {a b} ha hb hne e => ?_) nd)
        obtain ⟨x, ex, _⟩ := hmem a ha
        obtain ⟨y, ey, _⟩ := hmem b hb
        rw [ex, ey] at e
        simp only [Option.getD_some] at e
        subst e
        exact hne (h.inj a b x ex ey)
      · obtain ⟨j, hj, rfl⟩ := List.mem_map.mp hx
        obtain ⟨x, ex, hz⟩ := hmem j hj
        rw [ex]
        have hxN := h.low j x ex
        refine List.mem_filter.mpr ⟨List.mem_range.mpr hxN, ?_⟩
        simp only [Option.getD_some, Bool.and_eq_true, decide_eq_true_eq, Bool.not_eq_true', decide_eq_false_iff_not]
        refine ⟨hxN, fun hl => ?_⟩
        rcases c.z2 x hl j (h.val j x ex) with q | q
        · exact hz q
        · rw [ex] at q; cases q
    · rw [← List.length_map (as := (List.range N).filter fun i => !(m i).isNone && !decide (i ∈ Zr)) (f := fun j => (m j).getD 0)]
      refine subLen nd2 fun x hx => ?_
      have hx2 := (List.mem_filter.mp hx).2
      simp only [Bool.and_eq_true, decide_eq_true_eq, Bool.not_eq_true', decide_eq_false_iff_not] at hx2
      by_cases hm : ∃ j, m j = some x
      · obtain ⟨j, e⟩ := hm
        refine List.mem_map.mpr ⟨j, List.mem_filter.mpr ⟨List.mem_range.mpr (hB x j (h.val j x e)), ?_⟩, by rw [e]; rfl⟩
        have : j ∉ Zr := fun hz => by
          obtain ⟨y, ey, hy⟩ := c.z3 j hz
          rw [e] at ey
          cases ey
          exact hx2.2 hy
        simp [e, this]
      · exact absurd (c.z1 x hx2.1 fun j e => hm ⟨j, e⟩) hx2.2
  rw [e3] at e1
  rw [e6] at e4
  rw [List.length_range] at e1 e4
  omega
theorem kon_apart {B : Nat → List Nat} {m : Nat → Option Nat} {R : Nat → Prop} {N : Nat} {Zl Zr : List Nat} (h : Pai B m R N) (c : Com B m R N Zl Zr) {a b : Nat} (ha : a ∈ Zl) (hb : b ∉ Zr) : b ∉ B a := fun hab => by
  rcases c.z2 a ha b hab with q | q
  · exact hb q
  · obtain ⟨x, e, _⟩ := h.cls b ((c.z4 a ha).2 b hab)
    rw [q] at e; cases e
/-- each is in the chain of one that has none ahead -/
theorem in_chain {B : Nat → List Nat} {m : Nat → Option Nat} {R : Nat → Prop} {N : Nat} (hB : ∀ i j, j ∈ B i → j < N) (hT : ∀ i j k, j ∈ B i → k ∈ B j → k ∈ B i) (hI : ∀ i, i ∉ B i) (h : Pai B m R N) {ch : Nat → List Nat} (h0 : ∀ r, r < N → m r = none → r ∈ ch r) (h1 : ∀ r, r < N → m r = none → ∀ y ∈ ch r, ∀ x, m x = some y → x ∈ ch r) :
    ∀ x, x < N → ∃ r, r < N ∧ m r = none ∧ x ∈ ch r := by
  have key : ∀ n x, x < N → ((List.range N).filter fun y => decide (x ∈ B y)).length ≤ n → ∃ r, r < N ∧ m r = none ∧ x ∈ ch r := by
    intro n
    induction n with
    | zero =>
      intro x hx hn
      cases hm : m x with
      | none => exact ⟨x, hx, hm, h0 x hx hm⟩
      | some y =>
        have hy := h.val x y hm
        have hin : y ∈ (List.range N).filter fun y => decide (x ∈ B y) := List.mem_filter.mpr ⟨List.mem_range.mpr (h.low x y hm), decide_eq_true hy⟩
        have := List.length_pos_of_mem hin
        omega
    | succ n ih =>
      intro x hx hn
      cases hm : m x with
      | none => exact ⟨x, hx, hm, h0 x hx hm⟩
      | some y =>
        have hy := h.val x y hm
        have hyN := h.low x y hm
        have hlt : ((List.range N).filter fun z => decide (y ∈ B z)).length + 1 ≤ ((List.range N).filter fun z => decide (x ∈ B z)).length := by
          have hnd : (y :: (List.range N).filter fun z => decide (y ∈ B z)).Nodup := by
            refine List.nodup_cons.mpr ⟨fun q => ?_, List.filter_sublist.nodup List.nodup_range⟩
            exact hI y (of_decide_eq_true (List.mem_filter.mp q).2)
          have := subLen hnd (b := (List.range N).filter fun z => decide (x ∈ B z)) fun z hz => by
            rcases List.mem_cons.mp hz with rfl | hz
            · exact List.mem_filter.mpr ⟨List.mem_range.mpr hyN, decide_eq_true hy⟩
            · have hz' := List.mem_filter.mp hz
              exact List.mem_filter.mpr ⟨hz'.1, decide_eq_true (hT z y x (of_decide_eq_true hz'.2) hy)⟩
          simpa using this
        obtain ⟨r, hr, hmr, hyr⟩ := ih y hyN (by omega)
        exact ⟨r, hr, hmr, h1 r hr hmr y hyr x hm⟩
  exact fun x hx => key _ x hx (Nat.le_refl _)
end PyI
namespace PyI
open PySem L2
abbrev Need := List Nat × List Nat
structure Nd (cs : List Nat) (p : Need) : Prop where
  ok : NeedOk cs p.1 p.2
  ne : p.1 ≠ [] ∨ p.2 ≠ []
theorem Nd.rin {cs : List Nat} {p : Need} (h : Nd cs p) : p.2 = [] ∨ ∃ c, p.2 = [c] ∧ c ∈ cs ∧ c ∉ p.1 := h.ok.rch
theorem Nd.lt {cs : List Nat} (hc : cs.Pairwise (· < ·)) {p : Need} (h : Nd cs p) : p.1.Pairwise (· < ·) := hc.sublist h.ok.sub
def aheadB (a b : Need) : Bool := if a.1 = b.1 then decide (a.2 = []) || decide (a.2 = b.2) else (a.1 ++ a.2).all fun c => decide (c ∈ b.1)
theorem lt_same {a b : List Nat} (ha : a.Pairwise (· < ·)) (hb : b.Pairwise (· < ·)) (h : ∀ x, x ∈ a ↔ x ∈ b) : a = b := by
  have := sortN_alike (ha.imp fun q => Nat.ne_of_lt q) (hb.imp fun q => Nat.ne_of_lt q) h
  rwa [sortN_self ha, sortN_self hb] at this
/-- in sets -/
theorem ahead_iff {cs : List Nat} {a b : Need} (ha : Nd cs a) (hb : Nd cs b) : aheadB a b = true ↔ (a.1 = b.1 ∧ (a.2 = [] ∨ a.2 = b.2)) ∨ (a.1 ≠ b.1 ∧ ∀ c, c ∈ a.1 ∨ c ∈ a.2 → c ∈ b.1) := by
  unfold aheadB
  by_cases h : a.1 = b.1
  · rw [if_pos h]
    simp [h]
  · rw [if_neg h, List.all_eq_true]
    simp [h]
theorem ahead_trans {cs : List Nat} (hc : cs.Pairwise (· < ·)) {a b c : Need} (ha : Nd cs a) (hb : Nd cs b) (hd : Nd cs c) (h1 : aheadB a b = true) (h2 : aheadB b c = true) : aheadB a c = true := by
  rw [ahead_iff ha hb] at h1
  rw [ahead_iff hb hd] at h2
  rw [ahead_iff ha hd]
  rcases h1 with ⟨e1, r1⟩ | ⟨n1, s1⟩
  · rcases h2 with ⟨e2, r2⟩ | ⟨n2, s2⟩
    · refine .inl ⟨e1.trans e2, ?_⟩
      rcases r1 with r1 | r1
      · exact .inl r1
      · rw [r1]; exact r2
    · refine .inr ⟨by rw [e1]; exact n2, fun x hx => s2 x ?_⟩
      rcases hx with hx | hx
      · exact .inl (by rw [← e1]; exact hx)
      · rcases r1 with r1 | r1
        · rw [r1] at hx; cases hx
        · exact .inr (by rw [← r1]; exact hx)
  · rcases h2 with ⟨e2, r2⟩ | ⟨n2, s2⟩
    · exact .inr ⟨by rw [← e2]; exact n1, fun x hx => by rw [← e2]; exact s1 x hx⟩
    · refine .inr ⟨fun e => n1 (lt_same (ha.lt hc) (hb.lt hc) fun x => ⟨fun hx => s1 x (.inl hx), fun hx => by rw [e]; exact s2 x (.inl hx)⟩), fun x hx => s2 x (.inl (s1 x hx))⟩
theorem ahead_anti {cs : List Nat} (hc : cs.Pairwise (· < ·)) {a b : Need} (ha : Nd cs a) (hb : Nd cs b) (h1 : aheadB a b = true) (h2 : aheadB b a = true) : a = b := by
  rw [ahead_iff ha hb] at h1
  rw [ahead_iff hb ha] at h2
  rcases h1 with ⟨e1, r1⟩ | ⟨n1, s1⟩
  · rcases h2 with ⟨e2, r2⟩ | ⟨n2, s2⟩
    · refine Prod.ext e1 ?_
      rcases r1 with r1 | r1
      · rcases r2 with r2 | r2
        · rw [r1, r2]
        · exact r2.symm
      · exact r1
    · exact absurd e1.symm n2
  · rcases h2 with ⟨e2, r2⟩ | ⟨n2, s2⟩
    · exact absurd e2.symm n1
    · exact absurd (lt_same (ha.lt hc) (hb.lt hc) fun x => ⟨fun hx => s1 x (.inl hx), fun hx => s2 x (.inl hx)⟩) n1
theorem ahead_refl (a : Need) : aheadB a a = true := by simp [aheadB]
/-- which needs a list of a need may go on to -/
def folN (ns : List Need) (i : Nat) : List Nat := ((List.range ns.length).filter fun j => !decide (i = j) && aheadB (ns.getD i ([], [])) (ns.getD j ([], []))).filter fun j => decide (i < j) || decide (ns.getD j ([], []) ≠ ns.getD i ([], []))
def folB (ns : List Need) (i : Nat) : List Nat := if i < ns.length then folN ns i else []
theorem folB_mem {ns : List Need} {i j : Nat} : j ∈ folB ns i ↔ i < ns.length ∧ j < ns.length ∧ i ≠ j ∧ aheadB (ns.getD i ([], [])) (ns.getD j ([], [])) = true ∧ (i < j ∨ ns.getD j ([], []) ≠ ns.getD i ([], [])) := by
  unfold folB folN
  by_cases h : i < ns.length
  · rw [if_pos h]
    simp only [List.mem_filter, List.mem_range, Bool.and_eq_true, Bool.not_eq_true', decide_eq_false_iff_not, Bool.or_eq_true, decide_eq_true_eq]
    exact ⟨fun ⟨⟨h1, h2, h3⟩, h4⟩ => ⟨h, h1, h2, h3, h4⟩, fun ⟨_, h1, h2, h3, h4⟩ => ⟨⟨h1, h2, h3⟩, h4⟩⟩
  · rw [if_neg h]
    simp [h]
theorem nd_at {cs : List Nat} {ns : List Need} (h : ∀ p ∈ ns, Nd cs p) {i : Nat} (hi : i < ns.length) : Nd cs (ns.getD i ([], [])) := by
  rw [List.getD_eq_getElem?_getD, List.getElem?_eq_getElem hi]
  exact h _ (List.getElem_mem hi)
theorem folB_lt {ns : List Need} (i j : Nat) (h : j ∈ folB ns i) : j < ns.length := (folB_mem.mp h).2.1
theorem folB_irr {ns : List Need} (i : Nat) : i ∉ folB ns i := fun h => (folB_mem.mp h).2.2.1 rfl
theorem folB_trans {cs : List Nat} (hc : cs.Pairwise (· < ·)) {ns : List Need} (hn : ∀ p ∈ ns, Nd cs p) (i j k : Nat) (h1 : j ∈ folB ns i) (h2 : k ∈ folB ns j) : k ∈ folB ns i := by
  obtain ⟨a1, a2, a3, a4, a5⟩ := folB_mem.mp h1
  obtain ⟨b1, b2, b3, b4, b5⟩ := folB_mem.mp h2
  have hik := ahead_trans hc (nd_at hn a1) (nd_at hn a2) (nd_at hn b2) a4 b4
  refine folB_mem.mpr ⟨a1, b2, fun e => ?_, hik, ?_⟩
  · subst e
    have e2 := ahead_anti hc (nd_at hn a1) (nd_at hn a2) a4 b4
    rcases a5 with a5 | a5
    · rcases b5 with b5 | b5
      · omega
      · exact b5 e2
    · exact a5 e2.symm
  · by_cases e : ns.getD k ([], []) = ns.getD i ([], [])
    · refine .inl ?_
      rw [e] at b4
      have e2 := ahead_anti hc (nd_at hn a1) (nd_at hn a2) a4 b4
      rcases a5 with a5 | a5
      · rcases b5 with b5 | b5
        · omega
        · exact absurd (e.trans e2) b5
      · exact absurd e2.symm a5
    · exact .inr e
/-- a list that serves a need -/
structure Srv (one : List Nat) (p : Need) : Prop where
  fst : (one.take p.1.length).Perm p.1
  snd : (one.drop p.1.length).take p.2.length = p.2
theorem Srv.len {one : List Nat} {p : Need} (h : Srv one p) : p.1.length + p.2.length ≤ one.length := by
  have h1 := h.fst.length_eq
  have h2 := congrArg List.length h.snd
  rw [List.length_take] at h1
  rw [List.length_take, List.length_drop] at h2
  omega
theorem Srv.more {one t : List Nat} {p : Need} (h : Srv one p) : Srv (one ++ t) p := by
  have hl := h.len
  refine ⟨by rw [List.take_append_of_le_length (by omega)]; exact h.fst, ?_⟩
  rw [List.drop_append_of_le_length (by omega), List.take_append_of_le_length (by rw [List.length_drop]; omega)]
  exact h.snd
theorem metF_app {f : List Nat} {x : Nat} : ∃ t, metF f x = f ++ t := by
  unfold metF
  split
  · exact ⟨[], by simp⟩
  · exact ⟨[x], rfl⟩
theorem fold_app : ∀ (l f : List Nat), ∃ t, l.foldl metF f = f ++ t
  | [], f => ⟨[], by simp⟩
  | x :: l, f => by
    obtain ⟨t1, h1⟩ := metF_app (f := f) (x := x)
    obtain ⟨t2, h2⟩ := fold_app l (metF f x)
    exact ⟨t1 ++ t2, by rw [List.foldl_cons, h2, h1, List.append_assoc]⟩
theorem fold_in : ∀ {l f : List Nat}, (∀ c ∈ l, c ∈ f) → l.foldl metF f = f
  | [], _, _ => rfl
  | x :: l, f, h => by
    rw [List.foldl_cons, show metF f x = f from if_pos (h x (by simp))]
    exact fold_in fun c hc => h c (by simp [hc])
def addN (f : List Nat) (p : Need) : List Nat := (p.1 ++ p.2).foldl metF f
/-- a list by now: of unlike letters, just those of the last need -/
structure Lby (f : List Nat) (p : Need) : Prop where
  nd : f.Nodup
  mem : ∀ c, c ∈ f ↔ c ∈ p.1 ∨ c ∈ p.2
  srv : Srv f p
theorem perm_of {a b : List Nat} (ha : a.Nodup) (hb : b.Nodup) (h : ∀ x, x ∈ a ↔ x ∈ b) : a.Perm b := (List.perm_ext_iff_of_nodup ha hb).mpr h
theorem add_new {cs : List Nat} (hc : cs.Pairwise (· < ·)) {f : List Nat} {q : Need} (hq : Nd cs q) (hf : f.Nodup) (hs : ∀ c ∈ f, c ∈ q.1) : Lby (addN f q) q := by
  have hq1 : q.1.Nodup := (hq.lt hc).imp fun h => Nat.ne_of_lt h
  have e0 : addN f q = q.2.foldl metF (q.1.foldl metF f) := by unfold addN; rw [List.foldl_append]
  have g1 : (q.1.foldl metF f).Nodup := nd_foldF hf
  have g2 : ∀ c, c ∈ q.1.foldl metF f ↔ c ∈ q.1 := fun c => by
    rw [mem_foldF]
    exact ⟨fun h => h.elim (hs c) id, .inr⟩
  have gp := perm_of g1 hq1 g2
  have gl := gp.length_eq
  generalize q.1.foldl metF f = g at e0 g1 g2 gp gl
  have e1 : addN f q = g ++ q.2 := by
    rw [e0]
    rcases hq.rin with h | ⟨c, h, _, h2⟩
    · rw [h]; simp
    · rw [h]
      show metF g c = g ++ [c]
      exact if_neg fun hh => h2 ((g2 c).mp hh)
  rw [e1]
  refine ⟨?_, fun c => by rw [List.mem_append, g2], ⟨?_, ?_⟩⟩
  · rw [List.nodup_append]
    refine ⟨g1, ?_, fun a ha b hb e => ?_⟩
    · rcases hq.rin with h | ⟨c, h, _⟩ <;> simp [h]
    · subst e
      rcases hq.rin with h | ⟨c, h, _, h2⟩
      · rw [h] at hb; cases hb
      · rw [h] at hb
        rw [List.mem_singleton.mp hb] at ha
        exact h2 ((g2 c).mp ha)
  · rw [List.take_append_of_le_length (by omega), List.take_of_length_le (by omega)]
    exact gp
  · rw [← gl, List.drop_left, List.take_of_length_le (Nat.le_refl _)]
theorem add_ahead {cs : List Nat} (hc : cs.Pairwise (· < ·)) {f : List Nat} {p q : Need} (hp : Nd cs p) (hq : Nd cs q) (h : Lby f p) (ha : aheadB p q = true) : Lby (addN f q) q := by
  rw [ahead_iff hp hq] at ha
  rcases ha with ⟨e, r⟩ | ⟨_, s⟩
  · have hin : ∀ c ∈ q.1, c ∈ f := fun c hcq => (h.mem c).mpr (.inl (by rw [e]; exact hcq))
    have e0 : addN f q = q.2.foldl metF f := by unfold addN; rw [List.foldl_append, fold_in hin]
    by_cases hr : p.2 = q.2
    · have : addN f q = f := by
        rw [e0]
        exact fold_in fun c hcq => (h.mem c).mpr (.inr (by rw [hr]; exact hcq))
      rw [this]
      have hpq : p = q := Prod.ext e hr
      rw [← hpq]
      exact h
    · have hp2 : p.2 = [] := r.elim id fun q => absurd q hr
      have hfm : ∀ c ∈ f, c ∈ q.1 := fun c hcf => by
        rcases (h.mem c).mp hcf with q | q
        · rw [← e]; exact q
        · rw [hp2] at q; cases q
      exact add_new hc hq h.nd hfm
  · exact add_new hc hq h.nd fun c hcf => s c ((h.mem c).mp hcf)
/-- a chain's list -/
def lstN (ch : List Need) : List Nat := ch.foldl addN []
theorem lst_snoc (ch : List Need) (q : Need) : lstN (ch ++ [q]) = addN (lstN ch) q := by unfold lstN; rw [List.foldl_append]; rfl
/-- needs in a row, each ahead of the next one -/
def Row (ch : List Need) : Prop := ∀ (i : Nat) (h : i + 1 < ch.length), aheadB ch[i] ch[i + 1] = true
theorem row_list {cs : List Nat} (hc : cs.Pairwise (· < ·)) : ∀ (n : Nat) (ch : List Need), ch.length = n + 1 → (∀ p ∈ ch, Nd cs p) → Row ch → (∃ h : n < ch.length, Lby (lstN ch) ch[n]) ∧ ∀ p ∈ ch, Srv (lstN ch) p := by
  intro n
  induction n with
  | zero =>
    intro ch hl hn hr
    match ch, hl with
    | [q], _ =>
      have := add_new hc (hn q (by simp)) (f := []) .nil (by simp)
      refine ⟨⟨by simp, this⟩, fun p hp => ?_⟩
      rw [List.mem_singleton.mp hp]
      exact this.srv
  | succ n ih =>
    intro ch hl hn hr
    have e : ch = ch.take (n + 1) ++ [ch[n + 1]] := by
      have := List.take_append_drop (n + 1) ch
      have h2 : ch.drop (n + 1) = [ch[n + 1]] := by
        rw [List.drop_eq_getElem_cons (by omega), List.drop_eq_nil_of_le (by omega)]
      rw [h2] at this
      exact this.symm
    have ih := ih (ch.take (n + 1)) (by rw [List.length_take]; omega) (fun p hp => hn p (List.mem_of_mem_take hp)) fun i hi => by
      rw [List.length_take] at hi
      rw [List.getElem_take, List.getElem_take]
      exact hr i (by omega)
    obtain ⟨⟨h1, h2⟩, h3⟩ := ih
    rw [List.getElem_take] at h2
    have hlast : Lby (lstN ch) ch[n + 1] := by
      have hs := add_ahead hc (hn _ (List.getElem_mem (by omega))) (hn _ (List.getElem_mem (by omega : n + 1 < ch.length))) h2 (hr n (by omega))
      rw [← lst_snoc, ← e] at hs
      exact hs
    refine ⟨⟨by omega, hlast⟩, fun p hp => ?_⟩
    rw [e] at hp
    rcases List.mem_append.mp hp with hp | hp
    · have hs := h3 p hp
      have hl2 : lstN ch = addN (lstN (ch.take (n + 1))) ch[n + 1] := by
        conv => lhs; rw [e]
        exact lst_snoc _ _
      rw [hl2]
      obtain ⟨t, ht⟩ := fold_app (ch[n + 1].1 ++ ch[n + 1].2) (lstN (ch.take (n + 1)))
      unfold addN
      rw [ht]
      exact hs.more
    · rw [List.mem_singleton.mp hp]
      exact hlast.srv
/-- whether one list serves both, by the sets of first letters -/
def withinB (a b : List Nat) : Bool := a.all fun c => decide (c ∈ b)
def agreeB (p q : Need) : Bool := [p.1, p.1 ++ p.2].all fun a => [q.1, q.1 ++ q.2].all fun b => withinB a b || withinB b a
theorem within_iff {a b : List Nat} : withinB a b = true ↔ ∀ c ∈ a, c ∈ b := by
  unfold withinB
  rw [List.all_eq_true]
  simp
theorem agree_ahead {cs : List Nat} (hc : cs.Pairwise (· < ·)) {p q : Need} (hp : Nd cs p) (hq : Nd cs q) (h : agreeB p q = true) : aheadB p q = true ∨ aheadB q p = true := by
  simp only [agreeB, List.all_cons, List.all_nil, Bool.and_true, Bool.and_eq_true, Bool.or_eq_true, within_iff] at h
  obtain ⟨⟨h1, h2⟩, h3, h4⟩ := h
  rw [ahead_iff hp hq, ahead_iff hq hp]
  have half : ∀ {p q : Need}, Nd cs p → Nd cs q → (∀ c ∈ p.1, c ∈ q.1) → p.1 ≠ q.1 → ((∀ c ∈ p.1 ++ p.2, c ∈ q.1) ∨ ∀ c ∈ q.1, c ∈ p.1 ++ p.2) → ∀ c, c ∈ p.1 ∨ c ∈ p.2 → c ∈ q.1 := fun {p q} hp hq hs hne ho c hcc => by
    rcases ho with ho | ho
    · exact ho c (List.mem_append.mpr hcc)
    · rcases hcc with hcc | hcc
      · exact hs c hcc
      · rcases hp.rin with e | ⟨d, e, _, hd⟩
        · rw [e] at hcc; cases hcc
        · rw [e] at hcc
          have := List.mem_singleton.mp hcc
          subst this
          by_cases hcq : c ∈ q.1
          · exact hcq
          · refine absurd (lt_same (hp.lt hc) (hq.lt hc) fun x => ⟨hs x, fun hx => ?_⟩) hne
            rcases List.mem_append.mp (ho x hx) with hx2 | hx2
            · exact hx2
            · rw [e] at hx2
              rw [List.mem_singleton.mp hx2] at hx
              exact absurd hx hcq
  by_cases he : p.1 = q.1
  · have hr : (p.2 = [] ∨ p.2 = q.2) ∨ (q.2 = [] ∨ q.2 = p.2) := by
      rcases hp.rin with e | ⟨c, e, _, hcp⟩
      · exact .inl (.inl e)
      · rcases hq.rin with e2 | ⟨d, e2, _, hdq⟩
        · exact .inr (.inl e2)
        · refine .inl (.inr ?_)
          rw [e, e2]
          rcases h4 with h4 | h4
          · have := h4 c (by rw [e]; simp)
            rw [e2] at this
            rcases List.mem_append.mp this with hh | hh
            · exact absurd (by rw [he]; exact hh) hcp
            · rw [List.mem_singleton.mp hh]
          · have := h4 d (by rw [e2]; simp)
            rw [e] at this
            rcases List.mem_append.mp this with hh | hh
            · exact absurd (by rw [← he]; exact hh) hdq
            · rw [List.mem_singleton.mp hh]
    rcases hr with hr | hr
    · exact .inl (.inl ⟨he, hr⟩)
    · exact .inr (.inl ⟨he.symm, hr⟩)
  · rcases h1 with h1 | h1
    · exact .inl (.inr ⟨he, half hp hq h1 he h3⟩)
    · exact .inr (.inr ⟨fun e => he e.symm, half hq hp h1 (fun e => he e.symm) h2.symm⟩)
theorem apart_not {cs : List Nat} (hc : cs.Pairwise (· < ·)) {ns : List Need} (hn : ∀ p ∈ ns, Nd cs p) {a b : Nat} (ha : a < ns.length) (hb : b < ns.length) (hne : a ≠ b) (h1 : b ∉ folB ns a) (h2 : a ∉ folB ns b) : agreeB (ns.getD a ([], [])) (ns.getD b ([], [])) = false := by
  cases h : agreeB (ns.getD a ([], [])) (ns.getD b ([], [])) with
  | false => rfl
  | true =>
    exfalso
    have key : ∀ {a b : Nat}, a < ns.length → b < ns.length → a ≠ b → b ∉ folB ns a → a ∉ folB ns b → aheadB (ns.getD a ([], [])) (ns.getD b ([], [])) = true → False := fun {a b} ha hb hne h1 h2 hh => by
      by_cases e : ns.getD b ([], []) = ns.getD a ([], [])
      · by_cases hlt : a < b
        · exact h1 (folB_mem.mpr ⟨ha, hb, hne, hh, .inl hlt⟩)
        · refine h2 (folB_mem.mpr ⟨hb, ha, fun q => hne q.symm, ?_, .inl (by omega)⟩)
          rw [e]
          exact ahead_refl _
      · exact h1 (folB_mem.mpr ⟨ha, hb, hne, hh, .inr e⟩)
    rcases agree_ahead hc (nd_at hn ha) (nd_at hn hb) h with hh | hh
    · exact key ha hb hne h1 h2 hh
    · exact key hb ha (fun q => hne q.symm) h2 h1 hh
end PyI
namespace PyI
open PySem L2
abbrev Mp := List (Nat × Nat)
def kM (M : Mp) : List D := M.map fun p => .int (p.1 : Int)
def vM (M : Mp) : List D := M.map fun p => .int (p.2 : Int)
def gt (M : Mp) (j : Nat) : Option Nat := (M.find? fun p => p.1 == j).map (·.2)
def stM (M : Mp) (j i : Nat) : Mp := if (gt M j).isSome then M.map (fun p => if p.1 = j then (p.1, i) else p) else M ++ [(j, i)]
theorem find_kM {M : Mp} {j : Nat} : findK (.int (j : Int)) (kM M) (vM M) = (gt M j).map fun i => D.int (i : Int) := by
  induction M with
  | nil => rfl
  | cons p M ih =>
    simp only [kM, vM, List.map_cons, findK, keq, gt, List.find?_cons] at ih ⊢
    by_cases h : p.1 = j
    · simp [h]
    · have h2 : ¬ ((p.1 : Int) = (j : Int)) := by omega
      have h3 : (p.1 == j) = false := by simp [h]
      simp only [h2, h3, decide_false, Bool.false_eq_true, if_false]
      exact ih
theorem any_kM {M : Mp} {j : Nat} : ((kM M).any fun z => keq z (.int (j : Int))) = (gt M j).isSome := by
  induction M with
  | nil => rfl
  | cons p M ih =>
    simp only [kM, List.map_cons, List.any_cons, keq, gt, List.find?_cons] at ih ⊢
    by_cases h : p.1 = j
    · simp [h]
    · have h2 : ¬ ((p.1 : Int) = (j : Int)) := by omega
      have h3 : (p.1 == j) = false := by simp [h]
      simp only [h2, h3, decide_false, Bool.false_or]
      exact ih
theorem rep_kM {M : Mp} {j i : Nat} : repK (.int (j : Int)) (.int (i : Int)) (kM M) (vM M) = vM (M.map fun p => if p.1 = j then (p.1, i) else p) := by
  induction M with
  | nil => rfl
  | cons p M ih =>
    simp only [kM, vM, List.map_cons, repK, keq] at ih ⊢
    rw [ih]
    by_cases h : p.1 = j
    · simp [h]
    · have h2 : ¬ ((p.1 : Int) = (j : Int)) := by omega
      simp [h, h2]
theorem put_kM {M : Mp} {j i : Nat} : putD (.int (j : Int)) (.int (i : Int)) (kM M) (vM M) = (kM (stM M j i), vM (stM M j i)) := by
  unfold putD stM
  rw [any_kM]
  by_cases h : (gt M j).isSome = true
  · rw [if_pos h, if_pos h, rep_kM]
    congr 1
    unfold kM
    rw [List.map_map]
    refine List.map_congr_left fun p _ => ?_
    simp only [Function.comp]
    split <;> rfl
  · rw [if_neg h, if_neg h]
    unfold kM vM
    simp
theorem gt_stM {M : Mp} {j i : Nat} : gt (stM M j i) = upF (gt M) j i := by
  funext k
  unfold stM
  by_cases h : (gt M j).isSome = true
  · rw [if_pos h]
    have key : ∀ M : Mp, gt (M.map fun p => if p.1 = j then (p.1, i) else p) k = if k = j then (gt M j).map fun _ => i else gt M k := by
      intro M
      induction M with
      | nil => simp [gt]
      | cons p M ih =>
        simp only [gt, List.map_cons, List.find?_cons] at ih ⊢
        by_cases hp : p.1 = j
        · by_cases hk : k = j
          · simp [hp, hk]
          · have h3 : (p.1 == k) = false := by simp [hp]; omega
            have h4 : (j == k) = false := by simp; omega
            simp only [hp, if_true, h4, hk, if_false] at ih ⊢
            exact ih
        · by_cases hpk : p.1 = k
          · have : k ≠ j := fun e => hp (hpk.trans e)
            simp [hpk, this]
          · have h3 : (p.1 == k) = false := by simp [hpk]
            have h4 : (p.1 == j) = false := by simp [hp]
            simp only [hp, if_false, h3, h4]
            exact ih
    rw [key]
    unfold upF
    by_cases hk : k = j
    · rw [if_pos hk, if_pos hk]
      cases hg : gt M j with
      | none => rw [hg] at h; simp at h
      | some x => rfl
    · rw [if_neg hk, if_neg hk]
  · rw [if_neg h]
    have hn : gt M j = none := by cases hg : gt M j with | none => rfl | some x => rw [hg] at h; simp at h
    have key : ∀ M : Mp, gt M j = none → gt (M ++ [(j, i)]) k = if k = j then some i else gt M k := by
      intro M
      induction M with
      | nil =>
        intro _
        by_cases hk : k = j
        · simp [gt, hk]
        · have h4 : (j == k) = false := by simp; omega
          simp [gt, hk, h4]
      | cons p M ih =>
        intro h
        simp only [gt, List.cons_append, List.find?_cons] at ih h ⊢
        by_cases hp : p.1 = j
        · simp [hp] at h
        · have h4 : (p.1 == j) = false := by simp [hp]
          rw [h4] at h
          have ih := ih h
          by_cases hpk : p.1 = k
          · have : k ≠ j := fun e => hp (hpk.trans e)
            simp [hpk, this]
          · have h3 : (p.1 == k) = false := by simp [hpk]
            simp only [h3]
            exact ih
    rw [key M hn]
    rfl
/-- keys once each, below a bound -/
def WfM (N : Nat) (M : Mp) : Prop := (M.map (·.1)).Nodup ∧ ∀ p ∈ M, p.1 < N
theorem gt_some {M : Mp} {j : Nat} : (gt M j).isSome = true ↔ j ∈ M.map (·.1) := by
  unfold gt
  rw [Option.isSome_map, List.find?_isSome]
  simp
theorem wf_stM {N : Nat} {M : Mp} {j i : Nat} (h : WfM N M) (hj : j < N) : WfM N (stM M j i) := by
  unfold stM
  by_cases hs : (gt M j).isSome = true
  · rw [if_pos hs]
    have e : (M.map fun p => if p.1 = j then (p.1, i) else p).map (·.1) = M.map (·.1) := by
      rw [List.map_map]
      refine List.map_congr_left fun p _ => ?_
      simp only [Function.comp]
      split <;> rfl
    refine ⟨by rw [e]; exact h.1, fun p hp => ?_⟩
    obtain ⟨q, hq, rfl⟩ := List.mem_map.mp hp
    have := h.2 q hq
    split <;> exact this
  · rw [if_neg hs]
    refine ⟨?_, fun p hp => ?_⟩
    · rw [List.map_append, List.nodup_append]
      refine ⟨h.1, by simp, fun a ha b hb e => ?_⟩
      have : b = j := by simpa using hb
      subst this
      subst e
      exact hs (gt_some.mpr ha)
    · rcases List.mem_append.mp hp with hp | hp
      · exact h.2 p hp
      · rw [List.mem_singleton.mp hp]; exact hj
theorem wf_len {N : Nat} {M : Mp} (h : WfM N M) : M.length ≤ N := by
  have := subLen h.1 (b := List.range N) fun k hk => by
    obtain ⟨p, hp, rfl⟩ := List.mem_map.mp hk
    exact List.mem_range.mpr (h.2 p hp)
  simpa using this
def kS (s : List Nat) : List D := s.map fun j : Nat => .int (j : Int)
def vS (s : List Nat) : List D := s.map fun _ => .bl true
theorem any_kS {s : List Nat} {j : Nat} : ((kS s).any fun z => keq z (.int (j : Int))) = decide (j ∈ s) := by
  induction s with
  | nil => rfl
  | cons x s ih =>
    simp only [kS, List.map_cons, List.any_cons, keq] at ih ⊢
    rw [ih]
    by_cases h : x = j
    · simp [h]
    · have h2 : ¬ ((x : Int) = (j : Int)) := by omega
      have h3 : ¬ j = x := fun e => h e.symm
      simp [h2, h3]
theorem put_kS {s : List Nat} {j : Nat} (h : j ∉ s) : putD (.int (j : Int)) (.bl true) (kS s) (vS s) = (kS (s ++ [j]), vS (s ++ [j])) := by
  unfold putD
  rw [any_kS, if_neg (by simpa using h)]
  simp [kS, vS]
def encN (p : Need) : D := .tup [.str p.1, .str p.2]
def encNs (ns : List Need) : D := .lst (ns.map encN)
def encBh (ns : List Need) : D := .lst ((List.range ns.length).map fun i : Nat => .lst (kS (folN ns i)))
theorem encN_inj {p q : Need} : encN p = encN q ↔ p = q := by
  simp only [encN, D.tup.injEq, List.cons.injEq, D.str.injEq, and_true]
  exact ⟨fun h => Prod.ext h.1 h.2, fun h => by rw [h]; exact ⟨rfl, rfl⟩⟩
section
variable {cf : CF} {tab : Nat → Option FD} {n : Nat} {S : Store} {l la ls : Nat} {Q : D → Stt → Store → Prop} {cs : List Nat} {ns : List Need}
theorem nd_cp {p : Need} (hc : Cols cs) (hp : Nd cs p) : (∀ c ∈ p.1, 97 ≤ c ∧ c ≤ 122) ∧ (∀ c ∈ p.2, 97 ≤ c ∧ c ≤ 122) ∧ p.1.length ≤ cs.length ∧ p.2.length ≤ 1 := by
  refine ⟨fun c h => hc.az c (hp.ok.sub.subset h), fun c h => ?_, hp.ok.sub.length_le, ?_⟩
  · rcases hp.rin with e | ⟨d, e, h1, _⟩
    · rw [e] at h; cases h
    · rw [e] at h; rw [List.mem_singleton.mp h]; exact hc.az d h1
  · rcases hp.rin with e | ⟨d, e, _⟩ <;> simp [e]
theorem is_ahead_ok (h1 : tab i_is_ahead = some fd_is_ahead) (hc : Cols cs) (hl : cs.length ≤ 26) {p q : Need} (hp : Nd cs p) (hq : Nd cs q) (hQ : Q (.bl (aheadB p q)) .fr S) : CW (callN tab (n + 1)) i_is_ahead [encN p, encN q] S Q := by
  obtain ⟨a1, a2, a3, a4⟩ := nd_cp hc hp
  refine CW_def h1 rfl (by walk_at "start") ?_
  walk_at "if"
  walk_at "pz"
  refine O_ixT (by decide) (d := .str p.1) rfl ?_
  walk_at "pz"
  refine O_ixT (by decide) (d := .str q.1) rfl ?_
  walk_at "pz"
  refine BW_dec.2 ⟨fun h => ?_, fun h => ?_⟩
  · have e : aheadB p q = (decide (p.2 = []) || decide (p.2 = q.2)) := by unfold aheadB; rw [if_pos h]
    rw [e] at hQ
    walk_at "pz"
    refine O_ixT (by decide) (d := .str p.2) rfl ?_
    walk_at "pz"
    refine BW_dec.2 ⟨fun h2 => ?_, fun h2 => ?_⟩
    · rw [decide_eq_true h2, Bool.true_or] at hQ
      exact ⟨fr_ne, hQ⟩
    rw [decide_eq_false h2, Bool.false_or] at hQ
    walk_at "pz"
    refine O_ixT (by decide) (d := .str p.2) rfl ?_
    walk_at "pz"
    refine O_ixT (by decide) (d := .str q.2) rfl ?_
    walk_at "pz"
    exact hQ
  · have e : aheadB p q = (p.1 ++ p.2).all fun c => decide (c ∈ q.1) := by unfold aheadB; rw [if_neg h]
    rw [e] at hQ
    walk_at "pz"
    refine EW_compM (fun c : Nat => D.str [c]) (p.1 ++ p.2) S (fun P hP => by
      walk_at "pz"
      refine O_ixT (by decide) (d := .str p.1) rfl ?_
      walk_at "pz"
      refine O_ixT (by decide) (d := .str p.2) rfl ?_
      refine O_addS (by unfold szL; omega) ?_
      exact ⟨rfl, _, rfl, hP⟩) (by rw [List.length_append]; unfold szL; omega) (fun c => some (.bl (decide (c ∈ q.1)))) (fun c hcc => ?_) ?_
    · refine TW_nil (by walk_at "bind") ?_
      walk_at "pz"
      refine O_ixT (by decide) (d := .str q.1) rfl ?_
      refine O_inS ?_
      exact ⟨stD_ne _, rfl, rfl⟩
    rw [fm_all]
    walk_at "pz"
    rw [show (p.1 ++ p.2).map (fun c => D.bl (decide (c ∈ q.1))) = ((p.1 ++ p.2).map fun c => decide (c ∈ q.1)).map .bl by rw [List.map_map]; rfl]
    refine O_all ?_
    rw [List.all_map]
    exact ⟨stD_ne _, hQ⟩
theorem ns_get {i : Nat} (hi : i < ns.length) {Q : D → Prop} (q : Q (encN (ns.getD i ([], [])))) : OW (ixD (rd S (encNs ns)) (.int (i : Int))) Q := by
  refine O_ixL (by omega) (d := encN (ns.getD i ([], []))) ?_ q
  rw [List.getElem?_map, Int.toNat_natCast, List.getElem?_eq_getElem hi, List.getD_eq_getElem?_getD, List.getElem?_eq_getElem hi]
  rfl
theorem O_neN2 {p q : Need} (hc : Cols cs) (hp : Nd cs p) (hq : Nd cs q) {Q : D → Prop} (k : Q (.bl (decide (p ≠ q)))) : OW (binD .ne (rd S (encN p)) (rd S (encN q))) Q := by
  have mk : ∀ {p : Need}, Nd cs p → shp 60 (encN p) = true ∧ cln (encN p) = true := fun {p} hp => by
    obtain ⟨a1, a2, _⟩ := nd_cp hc hp
    have c1 : cpOk p.1 = true := cp_az a1
    have c2 : cpOk p.2 = true := cp_az a2
    exact ⟨by simp [encN, shp, shps, c1, c2], by simp [encN, cln, clns, c1, c2]⟩
  refine O_ne (mk hp).1 (mk hq).1 (mk hp).2 (mk hq).2 ?_
  rw [show decide (encN p ≠ encN q) = decide (p ≠ q) by
    rw [Bool.eq_iff_iff, decide_eq_true_iff, decide_eq_true_iff, ne_eq, ne_eq, encN_inj]]
  exact k
theorem followers_ok (h0 : tab i_is_ahead = some fd_is_ahead) (h1 : tab i_followers = some fd_followers) (hc : Cols cs) (hl : cs.length ≤ 26) (hn : ∀ p ∈ ns, Nd cs p) (hnl : ns.length ≤ 1000) (hQ : Q (encBh ns) .fresh S) : CW (callN tab (n + 2)) i_followers [encNs ns] S Q := by
  refine CW_def h1 rfl (by walk_at "start") ?_
  walk_at "pz"
  have hz : ∀ (P : List D → Store → Prop) {env : SEnv}, slotV env 0 = some (encNs ns) → P ((List.range ns.length).map fun j : Nat => D.tupw [.int (j : Int), encN (ns.getD j ([], []))]) S → IW (callN tab (n + 1)) (.enum (.var 0)) env S P := fun P env he hP => by
    walk_at "pz"
    refine ⟨_, he, rfl, _, rfl, ?_⟩
    have e : ((ns.map encN).zipIdx.map fun p => D.tupw [.int (p.2 : Int), p.1]) = (List.range ns.length).map fun j : Nat => D.tupw [.int (j : Int), encN (ns.getD j ([], []))] := by
      refine List.ext_getElem (by simp) fun i h1 h2 => ?_
      have hi : i < ns.length := by simpa using h2
      simp [List.getD_eq_getElem?_getD, List.getElem?_eq_getElem hi]
    rw [e]
    exact hP
  refine XsW_cut (fun ρ' S' => S = S' ∧ ∃ x2 x3 x4 x5 x6 : Slot, ρ' = [.val (encNs ns), .own (encBh ns), x2, x3, x4, x5, x6]) ?_ ?_
  · refine XW_forI rfl ((List.range ns.length).map fun j : Nat => D.tupw [.int (j : Int), encN (ns.getD j ([], []))]) S (fun P hP => hz P rfl hP) (fun i ρ' S' => S = S' ∧ ∃ x2 x3 x4 x5 x6 : Slot, ρ' = [.val (encNs ns), .own (.lst ((List.range i).map fun i : Nat => .lst (kS (folN ns i)))), x2, x3, x4, x5, x6]) ⟨rfl, _, _, _, _, _, rfl⟩ ?_ ?_
    · rintro i hi _ _ ⟨rfl, x2, x3, x4, x5, x6, rfl⟩
      have hi' : i < ns.length := by simpa using hi
      have hpi := nd_at hn hi'
      refine ⟨_, by rw [List.getElem_map, List.getElem_range]; walk_at "bind", ?_⟩
      walk_at "pz"
      refine EW_compM (fun j : Nat => D.tupw [.int (j : Int), encN (ns.getD j ([], []))]) (List.range ns.length) S (fun P hP => hz P rfl hP) (by rw [List.length_range]; unfold szL; omega) (fun j : Nat => if (!decide (i = j) && aheadB (ns.getD i ([], [])) (ns.getD j ([], []))) = true then some (.int (j : Int)) else none) (fun j hj => ?_) ?_
      · have hj' : j < ns.length := List.mem_range.mp hj
        refine TW_if (by walk_at "bind") ?_
        walk_at "pz"
        refine BW_dec.2 ⟨fun h => ?_, fun h => ?_⟩
        · have h' : i ≠ j := fun e => h (by rw [e])
          walk_at "pz"
          refine is_ahead_ok (n := n) h0 hc hl hpi (nd_at hn hj') ?_
          cases hb : aheadB (ns.getD i ([], [])) (ns.getD j ([], [])) with
          | false =>
            refine BW_f.2 ?_
            exact ⟨by simp [h', hb], rfl⟩
          | true =>
            refine BW_t.2 ?_
            walk_at "pz"
            exact ⟨by simp [h', hb], rfl⟩
        · have h' : i = j := by omega
          refine BW_f.2 ?_
          exact ⟨by simp [h'], rfl⟩
      rw [fm_if (fun j : Nat => !decide (i = j) && aheadB (ns.getD i ([], [])) (ns.getD j ([], []))) (fun j : Nat => D.int (j : Int))]
      have hfl := List.length_filter_le (fun j : Nat => !decide (i = j) && aheadB (ns.getD i ([], [])) (ns.getD j ([], []))) (List.range ns.length)
      rw [List.length_range] at hfl
      have hfm : ∀ j ∈ (List.range ns.length).filter (fun j : Nat => !decide (i = j) && aheadB (ns.getD i ([], [])) (ns.getD j ([], []))), j < ns.length := fun j hj => List.mem_range.mp (List.mem_filter.mp hj).1
      have efn : folN ns i = ((List.range ns.length).filter fun j : Nat => !decide (i = j) && aheadB (ns.getD i ([], [])) (ns.getD j ([], []))).filter fun j : Nat => decide (i < j) || decide (ns.getD j ([], []) ≠ ns.getD i ([], [])) := rfl
      generalize (List.range ns.length).filter (fun j : Nat => !decide (i = j) && aheadB (ns.getD i ([], [])) (ns.getD j ([], []))) = some' at hfl hfm efn
      walk_at "pz"
      refine EW_compM (fun j : Nat => D.int (j : Int)) some' S (fun P hP => by walk_at "pz"; exact ⟨rfl, _, rfl, hP⟩) (by unfold szL; omega) (fun j : Nat => if (decide (i < j) || decide (ns.getD j ([], []) ≠ ns.getD i ([], []))) = true then some (.int (j : Int)) else none) (fun j hj => ?_) ?_
      · refine TW_if (by walk_at "bind") ?_
        walk_at "pz"
        refine BW_dec.2 ⟨fun h => ?_, fun h => ?_⟩
        · have h' : i < j := by omega
          refine BW_t.2 ?_
          walk_at "pz"
          exact ⟨by simp [h'], rfl⟩
        · have h' : ¬ i < j := by omega
          walk_at "pz"
          refine ns_get (hfm j hj) ?_
          walk_at "pz"
          refine O_neN2 hc (nd_at hn (hfm j hj)) hpi ?_
          refine BW_dec.2 ⟨fun h2 => ?_, fun h2 => ?_⟩
          · walk_at "pz"
            exact ⟨by rw [decide_eq_true h2, Bool.or_true]; rfl, rfl⟩
          · exact ⟨by rw [decide_eq_false h', decide_eq_false h2]; rfl, rfl⟩
      rw [fm_if (fun j : Nat => decide (i < j) || decide (ns.getD j ([], []) ≠ ns.getD i ([], []))) (fun j : Nat => D.int (j : Int)), ← efn]
      walk_at "pz"
      refine OL_get.2 ⟨_, rfl, by simp [szL]; omega, ?_⟩
      walk_at "pz"
      refine ⟨rfl, .val (.int (i : Int)), .val (encN (ns.getD i ([], []))), .val (.lst (some'.map fun j : Nat => D.int (j : Int))), x5, x6, ?_⟩
      rw [List.range_succ, List.map_append]
      rfl
    · rintro _ _ ⟨rfl, x2, x3, x4, x5, x6, rfl⟩
      rw [List.length_map, List.length_range]
      exact ⟨rfl, _, _, _, _, _, rfl⟩
  rintro _ _ ⟨rfl, x2, x3, x4, x5, x6, rfl⟩
  walk_at "pz"
  exact hQ
end
end PyI
namespace PyI
open PySem L2
section
variable {cf : CF} {tab : Nat → Option FD} {n : Nat} {S : Store} {l la ls : Nat} {Q : D → Stt → Store → Prop} {cs : List Nat} {ns : List Need}
theorem bh_get {i : Nat} (hi : i < ns.length) {Q : D → Prop} (q : Q (.lst (kS (folB ns i)))) : OW (ixD (rd S (encBh ns)) (.int (i : Int))) Q := by
  refine O_ixL (by omega) (d := .lst (kS (folB ns i))) ?_ q
  rw [List.getElem?_map, Int.toNat_natCast, List.getElem?_range hi]
  unfold folB
  rw [if_pos hi]
  rfl
theorem rd_dict {l : Nat} {ks vs : List D} (h : S[l]? = some (.dict ks vs)) : rd S (.ref l) = .dict ks vs := by simp only [rd, h]
theorem O_ninRS {l j : Nat} {s : List Nat} (h : S[l]? = some (.dict (kS s) (vS s))) {Q : D → Prop} (q : Q (.bl (!decide (j ∈ s)))) : OW (binD .notin (rd S (.int (j : Int))) (rd S (.ref l))) Q := by
  refine ⟨_, ?_, q⟩
  rw [rd_dict h]
  show (inD (.int (j : Int)) (.dict (kS s) (vS s))).map (fun b => D.bl (!b)) = _
  simp only [inD, keyD, any_kS, Option.map_some]
theorem O_ninRM {l j : Nat} {M : Mp} (h : S[l]? = some (.dict (kM M) (vM M))) {Q : D → Prop} (q : Q (.bl (!(gt M j).isSome))) : OW (binD .notin (rd S (.int (j : Int))) (rd S (.ref l))) Q := by
  refine ⟨_, ?_, q⟩
  rw [rd_dict h]
  show (inD (.int (j : Int)) (.dict (kM M) (vM M))).map (fun b => D.bl (!b)) = _
  simp only [inD, keyD, any_kM, Option.map_some]
theorem O_ixRM {l j x : Nat} {M : Mp} (h : S[l]? = some (.dict (kM M) (vM M))) (hg : gt M j = some x) {Q : D → Prop} (q : Q (.int (x : Int))) : OW (ixD (rd S (.ref l)) (.int (j : Int))) Q := by
  refine ⟨_, ?_, q⟩
  rw [rd_dict h]
  show findK (.int (j : Int)) (kM M) (vM M) = _
  rw [find_kM, hg]
  rfl
/-- the places of the two dicts, all else as it was -/
structure Twd (la ls : Nat) (M : Mp) (s : List Nat) (S0 S : Store) : Prop where
  a : S[la]? = some (.dict (kM M) (vM M))
  s : S[ls]? = some (.dict (kS s) (vS s))
  len : S.length = S0.length
  oth : ∀ j, j ≠ la → j ≠ ls → S[j]? = S0[j]?
theorem Twd.setS {M : Mp} {s s2 : List Nat} {S0 : Store} (h : Twd la ls M s S0 S) (hne : la ≠ ls) : Twd la ls M s2 S0 (S.set ls (.dict (kS s2) (vS s2))) := by
  have hl := (List.getElem?_eq_some_iff.mp h.s).1
  exact ⟨by rw [List.getElem?_set_ne (Ne.symm hne)]; exact h.a, List.getElem?_set_self hl, by rw [List.length_set]; exact h.len, fun j h1 h2 => by rw [List.getElem?_set_ne (Ne.symm h2)]; exact h.oth j h1 h2⟩
theorem Twd.setA {M M2 : Mp} {s : List Nat} {S0 : Store} (h : Twd la ls M s S0 S) (hne : la ≠ ls) : Twd la ls M2 s S0 (S.set la (.dict (kM M2) (vM M2))) := by
  have hl := (List.getElem?_eq_some_iff.mp h.a).1
  exact ⟨List.getElem?_set_self hl, by rw [List.getElem?_set_ne hne]; exact h.s, by rw [List.length_set]; exact h.len, fun j h1 h2 => by rw [List.getElem?_set_ne (Ne.symm h1)]; exact h.oth j h1 h2⟩
/-- what was looked at and gone on from -/
def Seen (B : Nat → List Nat) (m : Nat → Option Nat) (s s2 : List Nat) : Prop := (∀ k ∈ s, k ∈ s2) ∧ ∀ j ∈ s2, j ∈ s ∨ ∃ x, m j = some x ∧ ∀ k ∈ B x, k ∈ s2
theorem keys_M (M : Mp) : (kM M).length = M.length := by simp [kM]
theorem keys_S (s : List Nat) : (kS s).length = s.length := by simp [kS]
theorem try_place_ok (h1 : tab i_try_place = some fd_try_place) (hnl : ns.length ≤ 1000) (hne : la ≠ ls) : ∀ (k : Nat) (i : Nat) (M : Mp) (s : List Nat) (S : Store) {Q : D → Stt → Store → Prop}, i < ns.length → Twd la ls M s S S → WfM ns.length M → (∀ j x, gt M j = some x → x < ns.length) → s.Nodup → (∀ j ∈ s, j < ns.length) → ns.length ≤ s.length + k →
    (∀ M' s' S', Twd la ls M' s' S S' → Aug (folB ns) (gt M) s i (gt M') → WfM ns.length M' → Q (.bl true) .fr S') →
    (∀ s' S', Twd la ls M s' S S' → Seen (folB ns) (gt M) s s' → (∀ j ∈ folB ns i, j ∈ s') → s'.Nodup → (∀ j ∈ s', j < ns.length) → Q (.bl false) .fr S') →
    CW (callN tab (n + k + 1)) i_try_place [encBh ns, .ref la, .int (i : Int), .ref ls] S Q := by
  intro k
  induction k with
  | zero =>
    intro i M s S Q hi h2 hw hx hsn hsl hk hQ1 hQ2
    refine CW_def h1 rfl (by walk_at "start") ?_
    have hall : ∀ j, j < ns.length → j ∈ s := fun j hj => by
      by_cases hin : j ∈ s
      · exact hin
      · have := subLen (a := j :: s) (List.nodup_cons.mpr ⟨hin, hsn⟩) (b := List.range ns.length) fun x hx => by
          rcases List.mem_cons.mp hx with rfl | hx
          · exact List.mem_range.mpr hj
          · exact List.mem_range.mpr (hsl x hx)
        simp at this
        omega
    refine XsW_cut (fun ρ' S' => S = S') ?_ ?_
    · refine XW_forI rfl (kS (folB ns i)) S (fun P hP => by
        walk_at "pz"
        refine bh_get hi ?_
        exact ⟨rfl, _, rfl, hP⟩) (fun t ρ' S' => S = S' ∧ ∃ x4 : Slot, ρ' = [.val (encBh ns), .val (.ref la), .val (.int (i : Int)), .val (.ref ls), x4]) ⟨rfl, _, rfl⟩ ?_ (fun _ _ h => h.1)
      rintro t ht _ _ ⟨rfl, x4, rfl⟩
      have ht' : t < (folB ns i).length := by simpa [kS] using ht
      have he : (kS (folB ns i))[t] = .int ((folB ns i)[t] : Int) := by simp [kS]
      have hj := List.getElem_mem ht'
      rw [he]
      generalize (folB ns i)[t] = j at hj
      refine ⟨_, by walk_at "bind", ?_⟩
      walk_at "if"
      walk_at "pz"
      refine O_ninRS h2.s (BW_not.2 ⟨fun h => absurd (hall j (folB_lt i j hj)) h, fun _ => ?_⟩)
      walk_at "pz"
      exact ⟨rfl, _, rfl⟩
    rintro _ _ rfl
    walk_at "pz"
    exact hQ2 s S h2 ⟨fun _ h => h, fun _ h => .inl h⟩ (fun j hj => hall j (folB_lt i j hj)) hsn hsl
  | succ k ih =>
    intro i M s S Q hi h2 hw hx hsn hsl hk hQ1 hQ2
    refine CW_def h1 rfl (by walk_at "start") ?_
    have hMl := wf_len hw
    refine XsW_cut (fun ρ' S' => ∃ s', Twd la ls M s' S S' ∧ Seen (folB ns) (gt M) s s' ∧ (∀ j ∈ folB ns i, j ∈ s') ∧ s'.Nodup ∧ ∀ j ∈ s', j < ns.length) ?_ ?_
    · refine XW_forI rfl (kS (folB ns i)) S (fun P hP => by
        walk_at "pz"
        refine bh_get hi ?_
        exact ⟨rfl, _, rfl, hP⟩) (fun t ρ' S' => ∃ s', Twd la ls M s' S S' ∧ Seen (folB ns) (gt M) s s' ∧ (∀ j ∈ (folB ns i).take t, j ∈ s') ∧ s'.Nodup ∧ (∀ j ∈ s', j < ns.length) ∧ ∃ x4 : Slot, ρ' = [.val (encBh ns), .val (.ref la), .val (.int (i : Int)), .val (.ref ls), x4]) ⟨s, h2, ⟨fun _ h => h, fun _ h => .inl h⟩, by simp, hsn, hsl, _, rfl⟩ ?_ ?_
      · rintro t ht _ S1 ⟨s1, t1, sn1, hin1, nd1, lt1, x4, rfl⟩
        have ht' : t < (folB ns i).length := by simpa [kS] using ht
        have he : (kS (folB ns i))[t] = .int ((folB ns i)[t] : Int) := by simp [kS]
        have hj := List.getElem_mem ht'
        have htake : (folB ns i).take (t + 1) = (folB ns i).take t ++ [(folB ns i)[t]] := by rw [List.take_add_one, List.getElem?_eq_getElem ht']; rfl
        rw [he, htake]
        generalize (folB ns i)[t] = j at hj
        have hjN := folB_lt i j hj
        refine ⟨_, by walk_at "bind", ?_⟩
        walk_at "if"
        walk_at "pz"
        refine O_ninRS t1.s (BW_not.2 ⟨fun hnew => ?_, fun hold => ?_⟩)
        rotate_left
        · walk_at "pz"
          refine ⟨s1, t1, sn1, fun x hx => ?_, nd1, lt1, _, rfl⟩
          rcases List.mem_append.mp hx with hx | hx
          · exact hin1 x hx
          · rw [List.mem_singleton.mp hx]; exact hold
        have hs1l : s1.length < ns.length := by
          have := subLen (a := j :: s1) (List.nodup_cons.mpr ⟨hnew, nd1⟩) (b := List.range ns.length) fun x hx => by
            rcases List.mem_cons.mp hx with rfl | hx
            · exact List.mem_range.mpr hjN
            · exact List.mem_range.mpr (lt1 x hx)
          simp at this
          omega
        walk_at "pz"
        refine ⟨ls, rfl, ?_⟩
        rw [t1.s]
        refine ⟨rfl, by rw [keys_S]; unfold szL; omega, ?_⟩
        rw [put_kS hnew]
        have t2 := t1.setS (s2 := s1 ++ [j]) hne
        have hnd2 : (s1 ++ [j]).Nodup := by
          rw [List.nodup_append]
          exact ⟨nd1, by simp, fun a ha b hb e => by rw [List.mem_singleton.mp hb] at e; subst e; exact hnew ha⟩
        have hlt2 : ∀ x ∈ s1 ++ [j], x < ns.length := fun x hx => by
          rcases List.mem_append.mp hx with hx | hx
          · exact lt1 x hx
          · rw [List.mem_singleton.mp hx]; exact hjN
        have hjs : j ∉ s := fun h => hnew (sn1.1 j h)
        have hss2 : ∀ x ∈ s, x ∈ s1 ++ [j] := fun x h => List.mem_append_left _ (sn1.1 x h)
        have hsl2 := subLen hsn sn1.1
        generalize S1.set ls (.dict (kS (s1 ++ [j])) (vS (s1 ++ [j]))) = S2 at t2
        walk_at "if"
        walk_at "pz"
        refine O_ninRM t2.a ?_
        cases hg : gt M j with
        | none =>
          refine BW_t.2 (BW_t.2 ?_)
          walk_at "pz"
          refine ⟨la, rfl, ?_⟩
          rw [t2.a]
          refine ⟨rfl, by rw [keys_M]; unfold szL; omega, ?_⟩
          rw [put_kM]
          walk_at "pz"
          exact hQ1 _ _ _ (t2.setA hne) (by rw [gt_stM]; exact .base hj hjs hg) (wf_stM hw hjN)
        | some x =>
          refine BW_f.2 ?_
          walk_at "pz"
          refine O_ixRM t2.a hg ?_
          walk_at "pz"
          have elv : n + (k + 1) = n + k + 1 := by omega
          rw [elv]
          have tt : Twd la ls M (s1 ++ [j]) S2 S2 := ⟨t2.a, t2.s, rfl, fun _ _ _ => rfl⟩
          have up : ∀ {M' : Mp} {s' : List Nat} {S' : Store}, Twd la ls M' s' S2 S' → Twd la ls M' s' S S' := fun h => ⟨h.a, h.s, h.len.trans t2.len, fun j a b => (h.oth j a b).trans (t2.oth j a b)⟩
          refine ih x M (s1 ++ [j]) S2 (hx j x hg) tt hw hx hnd2 hlt2 (by simp; omega) (fun M' s' S' t3 ha hw' => ?_) fun s' S' t3 sn3 hB nd3 lt3 => ?_
          · refine BW_t.2 ?_
            walk_at "pz"
            refine ⟨la, rfl, ?_⟩
            rw [t3.a]
            have := wf_len hw'
            refine ⟨rfl, by rw [keys_M]; unfold szL; omega, ?_⟩
            rw [put_kM]
            walk_at "pz"
            exact hQ1 _ _ _ ((up t3).setA hne) (by rw [gt_stM]; exact .step hj hjs hss2 (List.mem_append_right _ (List.mem_singleton.mpr rfl)) hg ha) (wf_stM hw' hjN)
          · refine BW_f.2 ?_
            walk_at "pz"
            refine ⟨s', up t3, ⟨fun y hy => sn3.1 y (hss2 y hy), fun y hy => ?_⟩, fun y hy => ?_, nd3, lt3, _, rfl⟩
            · rcases sn3.2 y hy with q | q
              · rcases List.mem_append.mp q with q | q
                · rcases sn1.2 y q with q | ⟨z, e, hz⟩
                  · exact .inl q
                  · exact .inr ⟨z, e, fun c hc => sn3.1 c (List.mem_append_left _ (hz c hc))⟩
                · rw [List.mem_singleton.mp q]
                  exact .inr ⟨x, hg, hB⟩
              · exact .inr q
            · rcases List.mem_append.mp hy with hy | hy
              · exact sn3.1 y (List.mem_append_left _ (hin1 y hy))
              · rw [List.mem_singleton.mp hy]
                exact sn3.1 j (List.mem_append_right _ (List.mem_singleton.mpr rfl))
      · rintro _ S1 ⟨s1, t1, sn1, hin1, nd1, lt1, x4, rfl⟩
        rw [keys_S, List.take_of_length_le (Nat.le_refl _)] at hin1
        exact ⟨s1, t1, sn1, hin1, nd1, lt1⟩
    rintro ρ' S1 ⟨s1, t1, sn1, hin1, nd1, lt1⟩
    walk_at "pz"
    exact hQ2 s1 S1 t1 sn1 hin1 nd1 lt1
theorem matched_ok (h0 : tab i_try_place = some fd_try_place) (h1 : tab i_matched = some fd_matched) (hnl : ns.length ≤ 1000)
    (hQ : ∀ (M : Mp) (R : Nat → Prop) (lf : Nat) S', S.length ≤ lf → S'[lf]? = some (.dict (kM M) (vM M)) → (∀ j, j < S.length → S'[j]? = S[j]?) → S.length ≤ S'.length → WfM ns.length M → Pai (folB ns) (gt M) R ns.length → Q (.ref lf) .fr S') : CW (callN tab (n + ns.length + 2)) i_matched [encBh ns] S Q := by
  refine CW_def h1 rfl (by walk_at "start") ?_
  walk_at "pz"
  refine XsW_cut (fun ρ' S' => (∀ j, j < S.length → S'[j]? = S[j]?) ∧ S.length < S'.length ∧ ∃ (M : Mp) (R : Nat → Prop) (x2 : Slot), S'[S.length]? = some (.dict (kM M) (vM M)) ∧ WfM ns.length M ∧ Pai (folB ns) (gt M) R ns.length ∧ ρ' = [.val (encBh ns), .val (.ref S.length), x2]) ?_ ?_
  · refine XW_forI rfl _ _ (fun P hP => by
      walk_at "pz"
      refine O_lenL (ds := (List.range ns.length).map fun i : Nat => .lst (kS (folN ns i))) ?_
      refine ⟨_, rfl, by rw [List.length_map, List.length_range]; omega, ?_⟩
      rw [List.length_map, List.length_range, Int.toNat_natCast]
      exact hP) (fun t ρ' S' => (∀ j, j < S.length → S'[j]? = S[j]?) ∧ S.length < S'.length ∧ ∃ (M : Mp) (R : Nat → Prop) (x2 : Slot), S'[S.length]? = some (.dict (kM M) (vM M)) ∧ WfM ns.length M ∧ Pai (folB ns) (gt M) R t ∧ ρ' = [.val (encBh ns), .val (.ref S.length), x2]) ⟨fun j hj => List.getElem?_append_left hj, by simp, [], fun _ => False, _, by simp [kM, vM], ⟨.nil, by simp⟩, ⟨by simp [gt], by simp [gt], by simp [gt], fun j h => h.elim, fun i hi => absurd hi (Nat.not_lt_zero _)⟩, rfl⟩ ?_ ?_
    · rintro t ht _ S1 ⟨old1, len1, M, R, x2, hM, hw, hp, rfl⟩
      have ht' : t < ns.length := by simpa using ht
      refine ⟨_, by rw [List.getElem_map, List.getElem_range]; walk_at "bind", ?_⟩
      walk_at "pz"
      have hne : S.length ≠ S1.length := by omega
      have t2 : Twd S.length S1.length M [] (S1 ++ [.dict [] []]) (S1 ++ [.dict [] []]) := ⟨by rw [List.getElem?_append_left len1]; exact hM, by simp [kS, vS], rfl, fun _ _ _ => rfl⟩
      have back : ∀ {M' : Mp} {s' : List Nat} {S' : Store}, Twd S.length S1.length M' s' (S1 ++ [.dict [] []]) S' → (∀ j, j < S.length → S'[j]? = S[j]?) ∧ S.length < S'.length := fun {M' s' S'} h => ⟨fun j hj => by
        rw [h.oth j (by omega) (by omega), List.getElem?_append_left (by omega)]
        exact old1 j hj, by rw [h.len]; simp; omega⟩
      refine try_place_ok (n := n) (k := ns.length) h0 hnl hne t M [] _ ht' t2 hw (fun j x e => by have := hp.low j x e; omega) .nil (by simp) (by simp) (fun M' s' S' t3 ha hw' => ?_) fun s' S' t3 sn3 hB nd3 lt3 => ?_
      · walk_at "pz"
        exact ⟨(back t3).1, (back t3).2, M', R, _, t3.a, hw', hp.win ha, rfl⟩
      · walk_at "pz"
        exact ⟨(back t3).1, (back t3).2, M, _, _, t3.a, hw, hp.fail hB (fun j hj => (sn3.2 j hj).elim (fun q => by cases q) id), rfl⟩
    · rintro _ S1 ⟨old1, len1, M, R, x2, hM, hw, hp, rfl⟩
      rw [List.length_map, List.length_range] at hp
      exact ⟨old1, len1, M, R, x2, hM, hw, hp, rfl⟩
  rintro _ S1 ⟨old1, len1, M, R, x2, hM, hw, hp, rfl⟩
  walk_at "pz"
  exact hQ M R S.length S1 (Nat.le_refl _) hM old1 (by omega) hw hp
end
end PyI
namespace PyI
open PySem L2
theorem mem_gt {N : Nat} {M : Mp} (hw : WfM N M) {x y : Nat} : (x, y) ∈ M ↔ gt M x = some y := by
  have hn := hw.1
  clear hw
  unfold gt
  induction M with
  | nil => simp
  | cons p M ih =>
    rw [List.map_cons] at hn
    have hn' := List.nodup_cons.mp hn
    have ih := ih hn'.2
    simp only [List.mem_cons, List.find?_cons] at ih ⊢
    by_cases h : p.1 = x
    · have h2 : (p.1 == x) = true := by simp [h]
      rw [h2]
      simp only [Option.map_some, Option.some.injEq]
      constructor
      · rintro (e | e)
        · rw [← e]
        · exact absurd (List.mem_map.mpr ⟨(x, y), e, rfl⟩) (by rw [← h]; exact hn'.1)
      · intro e
        exact .inl (Prod.ext h.symm e.symm)
    · have h2 : (p.1 == x) = false := by simp [h]
      rw [h2]
      refine Iff.trans ?_ ih
      exact ⟨fun q => q.elim (fun e => absurd (by rw [← e]) h) id, .inr⟩
theorem put_kS2 {s : List Nat} {j : Nat} : putD (.int (j : Int)) (.bl true) (kS s) (vS s) = (kS (metF s j), vS (metF s j)) := by
  by_cases h : j ∈ s
  · have e : metF s j = s := if_pos h
    rw [e]
    unfold putD
    rw [any_kS, if_pos (by simpa using h)]
    congr 1
    clear h e
    induction s with
    | nil => rfl
    | cons x s ih =>
      simp only [kS, vS, List.map_cons, repK] at ih ⊢
      rw [ih]
      split <;> rfl
  · have e : metF s j = s ++ [j] := if_neg h
    rw [e]
    exact put_kS h
/-- what is come to by now -/
structure Com2 (B : Nat → List Nat) (m : Nat → Option Nat) (R : Nat → Prop) (N : Nat) (W Zl Zr : List Nat) : Prop where
  g1 : ∀ i, i < N → (∀ j, m j ≠ some i) → i ∈ Zl ∨ i ∈ W
  g2 : ∀ i ∈ Zl, ∀ j ∈ B i, j ∈ Zr ∨ m j = none
  g3 : ∀ j ∈ Zr, ∃ x, m j = some x ∧ (x ∈ Zl ∨ x ∈ W)
  g4 : ∀ i, i ∈ Zl ∨ i ∈ W → i < N ∧ ∀ j ∈ B i, R j
  g5 : ∀ j ∈ Zr, ∃ i ∈ Zl, j ∈ B i
  nr : Zr.Nodup
  lr : ∀ j ∈ Zr, j < N
section
variable {cf : CF} {tab : Nat → Option FD} {n : Nat} {S : Store} {l la ls : Nat} {Q : D → Stt → Store → Prop} {cs : List Nat} {ns : List Need} {M : Mp}
theorem O_neK {W : List Nat} {Q : D → Prop} (q : Q (.bl (decide (W ≠ [])))) : OW (binD .ne (rd S (.lst (kS W))) (rd S (.lst []))) Q := by
  refine O_ne (by simp only [shp]; exact shps_map fun _ _ => rfl) (by decide) (by simp only [cln]; exact clns_map fun _ _ => rfl) rfl ?_
  rw [show decide (D.lst (kS W) ≠ .lst []) = decide (W ≠ []) by simp [kS]]
  exact q
theorem O_ninV {i : Nat} {Q : D → Prop} (q : Q (.bl (!decide (i ∈ M.map (·.2))))) : OW (binD .notin (rd S (.int (i : Int))) (rd S (.lst (vM M)))) Q := by
  refine ⟨_, ?_, q⟩
  show (inD (.int (i : Int)) (.lst (vM M))).map (fun b => D.bl (!b)) = _
  have h1 : (vM M).all scalD = true := by rw [List.all_eq_true]; intro d hd; obtain ⟨p, _, rfl⟩ := List.mem_map.mp hd; rfl
  have h2 : ((vM M).any fun z => deq z (.int (i : Int))) = decide (i ∈ M.map (·.2)) := by
    clear h1 q
    induction M with
    | nil => rfl
    | cons p M ih =>
      simp only [vM, List.map_cons, List.any_cons, deq] at ih ⊢
      rw [ih]
      by_cases h : p.2 = i
      · simp [h]
      · have h2 : ¬ ((p.2 : Int) = (i : Int)) := by omega
        have h3 : (i == p.2) = false := by simp only [beq_eq_false_iff_ne]; exact fun e => h e.symm
        have h4 : ((p.2 : Int) == (i : Int)) = false := by simp only [beq_eq_false_iff_ne]; exact h2
        rw [h4]
        simp [h3]
  simp only [inD, scalD, h1, h2, Bool.and_self, if_true, Option.map_some]
theorem O_inFM {j : Nat} {Q : D → Prop} (q : Q (.bl (gt M j).isSome)) : OW (binD .isin (rd S (.int (j : Int))) (rd S (.dictF (kM M) (vM M)))) Q := by
  refine ⟨_, ?_, q⟩
  show (inD (.int (j : Int)) (.dict (kM M) (vM M))).map D.bl = _
  simp only [inD, keyD, any_kM, Option.map_some]
theorem O_ninFM {j : Nat} {Q : D → Prop} (q : Q (.bl (!(gt M j).isSome))) : OW (binD .notin (rd S (.int (j : Int))) (rd S (.dictF (kM M) (vM M)))) Q := by
  refine ⟨_, ?_, q⟩
  show (inD (.int (j : Int)) (.dict (kM M) (vM M))).map (fun b => D.bl (!b)) = _
  simp only [inD, keyD, any_kM, Option.map_some]
theorem O_ixFM {j x : Nat} (hg : gt M j = some x) {Q : D → Prop} (q : Q (.int (x : Int))) : OW (ixD (rd S (.dictF (kM M) (vM M))) (.int (j : Int))) Q := by
  refine ⟨_, ?_, q⟩
  show findK (.int (j : Int)) (kM M) (vM M) = _
  rw [find_kM, hg]
  rfl
theorem O_inS2 {j : Nat} {s : List Nat} {Q : D → Prop} (q : Q (.bl (decide (j ∈ s)))) : OW (binD .isin (rd S (.int (j : Int))) (rd S (.dict (kS s) (vS s)))) Q := by
  refine ⟨_, ?_, q⟩
  show (inD (.int (j : Int)) (.dict (kS s) (vS s))).map D.bl = _
  simp only [inD, keyD, any_kS, Option.map_some]
theorem O_ninS2 {j : Nat} {s : List Nat} {Q : D → Prop} (q : Q (.bl (!decide (j ∈ s)))) : OW (binD .notin (rd S (.int (j : Int))) (rd S (.dict (kS s) (vS s)))) Q := by
  refine ⟨_, ?_, q⟩
  show (inD (.int (j : Int)) (.dict (kS s) (vS s))).map (fun b => D.bl (!b)) = _
  simp only [inD, keyD, any_kS, Option.map_some]
theorem O_valsF (hl : M.length ≤ 10000) {Q : D → Prop} (q : Q (.lst (vM M))) : OW (unD .vals (rd S (.dictF (kM M) (vM M)))) Q := by
  refine ⟨_, ?_, q⟩
  show (if (vM M).length ≤ 10000 then some (D.lst (vM M)) else none) = _
  rw [if_pos (by simp [vM]; exact hl)]
theorem come_to_ok (h1 : tab i_come_to = some fd_come_to) (hnl : ns.length ≤ 1000) (hw : WfM ns.length M) {R : Nat → Prop} (hp : Pai (folB ns) (gt M) R ns.length)
    (hQ : ∀ Zl Zr, Com (folB ns) (gt M) R ns.length Zl Zr → Q (.tup [.dict (kS Zl) (vS Zl), .dict (kS Zr) (vS Zr)]) .fr S) : CW (callN tab (n + 1)) i_come_to [encBh ns, .dictF (kM M) (vM M)] S Q := by
  have hMl := wf_len hw
  have himg : ∀ i, i ∈ M.map (·.2) ↔ ∃ j, gt M j = some i := fun i => by
    rw [List.mem_map]
    exact ⟨fun ⟨p, hpm, e⟩ => ⟨p.1, by rw [← e]; exact (mem_gt hw).mp hpm⟩, fun ⟨j, e⟩ => ⟨(j, i), (mem_gt hw).mpr e, rfl⟩⟩
  refine CW_def h1 rfl (by walk_at "start") ?_
  walk_at "pz"
  refine O_valsF (by omega) ?_
  walk_at "pz"
  refine EW_compM (fun i : Nat => D.int (i : Int)) (List.range ns.length) S (fun P hP => by
    walk_at "pz"
    refine O_lenL (ds := (List.range ns.length).map fun i : Nat => .lst (kS (folN ns i))) ?_
    refine ⟨_, rfl, by rw [List.length_map, List.length_range]; omega, ?_⟩
    rw [List.length_map, List.length_range, Int.toNat_natCast]
    exact hP) (by rw [List.length_range]; unfold szL; omega) (fun i : Nat => if (!decide (i ∈ M.map (·.2))) = true then some (.int (i : Int)) else none) (fun i hi => ?_) ?_
  · refine TW_if (by walk_at "bind") ?_
    walk_at "pz"
    refine O_ninV (BW_not.2 ⟨fun h => ?_, fun h => ?_⟩)
    · walk_at "pz"
      exact ⟨by simp only [h, decide_false, Bool.not_false, if_true], rfl⟩
    · exact ⟨by simp only [h, decide_true, Bool.not_true, Bool.false_eq_true, if_false], rfl⟩
  rw [fm_if (fun i : Nat => !decide (i ∈ M.map (·.2))) (fun i : Nat => D.int (i : Int))]
  have hwm : ∀ i, i ∈ (List.range ns.length).filter (fun i : Nat => !decide (i ∈ M.map (·.2))) ↔ i < ns.length ∧ ∀ j, gt M j ≠ some i := fun i => by
    rw [List.mem_filter, List.mem_range, Bool.not_eq_true', decide_eq_false_iff_not, himg]
    simp
  have hwl := List.length_filter_le (fun i : Nat => !decide (i ∈ M.map (·.2))) (List.range ns.length)
  rw [List.length_range] at hwl
  generalize (List.range ns.length).filter (fun i : Nat => !decide (i ∈ M.map (·.2))) = W0 at hwm hwl
  walk_at "pz"
  refine XsW_cut (fun ρ' S' => S = S' ∧ ∃ (Zl Zr : List Nat) (x3 x6 x7 : Slot), Com (folB ns) (gt M) R ns.length Zl Zr ∧ ρ' = [.val (encBh ns), .val (.dictF (kM M) (vM M)), .val (.lst (vM M)), x3, .own (.dict (kS Zl) (vS Zl)), .own (.dict (kS Zr) (vS Zr)), x6, x7]) ?_ ?_
  · refine XW_while (fun f ρ' S' => S = S' ∧ ∃ (W Zl Zr : List Nat) (c : Nat) (x6 x7 : Slot), 1000000 ≤ f + c ∧ c + W.length + 2 * (ns.length - Zr.length) ≤ 3 * ns.length ∧ Com2 (folB ns) (gt M) R ns.length W Zl Zr ∧ Zl.length ≤ c ∧ ρ' = [.val (encBh ns), .val (.dictF (kM M) (vM M)), .val (.lst (vM M)), .own (.lst (kS W)), .own (.dict (kS Zl) (vS Zl)), .own (.dict (kS Zr) (vS Zr)), x6, x7])
      ⟨rfl, W0, [], [], 0, _, _, by omega, by simp; omega, ⟨fun i hi h => .inr ((hwm i).mpr ⟨hi, h⟩), by simp, by simp, fun i h => by
        rcases h with h | h
        · cases h
        · obtain ⟨h1, h2⟩ := (hwm i).mp h
          refine ⟨h1, fun j hj => ?_⟩
          rcases hp.tri i h1 with ⟨k, e⟩ | q
          · exact absurd e (h2 k)
          · exact q j hj, by simp, .nil, by simp⟩, by simp, rfl⟩ ?_ ?_
    · rintro f _ _ ⟨rfl, W, Zl, Zr, c, x6, x7, hf, hmu, hc2, hzl, rfl⟩
      walk_at "pz"
      refine O_neK ?_
      refine BW_dec.2 ⟨fun hne => ?_, fun hne => ?_⟩
      rotate_left
      · have hne := Decidable.not_not.mp hne
        subst hne
        exact ⟨rfl, Zl, Zr, _, _, _, ⟨fun i hi h => (hc2.g1 i hi h).elim id (fun q => by cases q), hc2.g2, fun j hj => by
          obtain ⟨x, e, h⟩ := hc2.g3 j hj
          exact ⟨x, e, h.elim id (fun q => by cases q)⟩, fun i hi => hc2.g4 i (.inl hi), hc2.g5⟩, rfl⟩
      obtain ⟨W', i, rfl⟩ : ∃ W' i, W = W' ++ [i] := by
        rcases List.eq_nil_or_concat W with h | ⟨a, b, h⟩
        · exact absurd h hne
        · exact ⟨a, b, by rw [h]; simp⟩
      obtain ⟨hiN, hiR⟩ := hc2.g4 i (.inr (by simp))
      refine Y_setPop0 rfl ?_
      have eW : kS (W' ++ [i]) = kS W' ++ [.int (i : Int)] := by simp [kS]
      refine OL_get.2 ⟨_, rfl, by decide, .int (i : Int), by rw [eW]; simp, ?_⟩
      rw [eW, List.dropLast_concat]
      walk_at "st"
      refine (XW_setIxD rfl).2 ?_
      walk_at "pz"
      refine ⟨rfl, by rw [keys_S]; unfold szL; omega, ?_⟩
      rw [put_kS2]
      walk_at "nm"
      simp only [List.length_append, List.length_cons, List.length_nil] at hmu
      have hzl2 : (metF Zl i).length ≤ c + 1 := by rw [len_metF]; split <;> omega
      have hin2 : ∀ x, x ∈ metF Zl i ↔ x ∈ Zl ∨ x = i := fun x => mem_metF
      refine XsW_cut (fun ρ' S' => S = S' ∧ ∃ (W Zr2 : List Nat) (x6 x7 : Slot), (c + 1) + W.length + 2 * (ns.length - Zr2.length) ≤ 3 * ns.length ∧ Com2 (folB ns) (gt M) R ns.length W (metF Zl i) Zr2 ∧ ρ' = [.val (encBh ns), .val (.dictF (kM M) (vM M)), .val (.lst (vM M)), .own (.lst (kS W)), .own (.dict (kS (metF Zl i)) (vS (metF Zl i))), .own (.dict (kS Zr2) (vS Zr2)), x6, x7]) ?_ ?_
      · refine XW_forI rfl (kS (folB ns i)) S (fun P hP => by
          walk_at "pz"
          refine bh_get hiN ?_
          exact ⟨rfl, _, rfl, hP⟩) (fun t ρ' S' => S = S' ∧ ∃ (W2 Zr2 : List Nat) (x7 : Slot), W2.length + Zr.length = W'.length + Zr2.length ∧ (∀ x ∈ W', x ∈ W2) ∧ (∀ x ∈ W2, x ∈ W' ∨ (x < ns.length ∧ ∀ j ∈ folB ns x, R j)) ∧ (∀ j ∈ Zr, j ∈ Zr2) ∧ (∀ j ∈ (folB ns i).take t, j ∈ Zr2 ∨ gt M j = none) ∧ (∀ j ∈ Zr2, j ∈ Zr ∨ (j ∈ folB ns i ∧ ∃ x, gt M j = some x ∧ x ∈ W2)) ∧ Zr2.Nodup ∧ (∀ j ∈ Zr2, j < ns.length) ∧ ρ' = [.val (encBh ns), .val (.dictF (kM M) (vM M)), .val (.lst (vM M)), .own (.lst (kS W2)), .own (.dict (kS (metF Zl i)) (vS (metF Zl i))), .own (.dict (kS Zr2) (vS Zr2)), .val (.int (i : Int)), x7])
          ⟨rfl, W', Zr, _, rfl, fun _ h => h, fun _ h => .inl h, fun _ h => h, by simp, fun _ h => .inl h, hc2.nr, hc2.lr, rfl⟩ ?_ ?_
        · rintro t ht _ _ ⟨rfl, W2, Zr2, x7, u1, u2, u3, u4, u5, u6, u7, u8, rfl⟩
          have ht' : t < (folB ns i).length := by simpa [kS] using ht
          have he : (kS (folB ns i))[t] = .int ((folB ns i)[t] : Int) := by simp [kS]
          have hj := List.getElem_mem ht'
          have htake : (folB ns i).take (t + 1) = (folB ns i).take t ++ [(folB ns i)[t]] := by rw [List.take_add_one, List.getElem?_eq_getElem ht']; rfl
          rw [he, htake]
          generalize (folB ns i)[t] = j at hj
          have hjN := folB_lt i j hj
          have hz2 : Zr2.length ≤ ns.length := by
            have := subLen u7 (b := List.range ns.length) fun x hx => List.mem_range.mpr (u8 x hx)
            simpa using this
          refine ⟨_, by walk_at "bind", ?_⟩
          walk_at "if"
          walk_at "pz"
          refine O_ninS2 (BW_not.2 ⟨fun hnew => ?_, fun hold => ?_⟩)
          rotate_left
          · refine BW_f.2 ?_
            walk_at "pz"
            refine ⟨rfl, W2, Zr2, _, u1, u2, u3, u4, fun x hx => ?_, u6, u7, u8, rfl⟩
            rcases List.mem_append.mp hx with hx | hx
            · exact u5 x hx
            · rw [List.mem_singleton.mp hx]; exact .inl hold
          walk_at "pz"
          refine O_inFM ?_
          cases hg : gt M j with
          | none =>
            refine BW_f.2 ?_
            walk_at "pz"
            refine ⟨rfl, W2, Zr2, _, u1, u2, u3, u4, fun x hx => ?_, u6, u7, u8, rfl⟩
            rcases List.mem_append.mp hx with hx | hx
            · exact u5 x hx
            · rw [List.mem_singleton.mp hx]; exact .inr hg
          | some x =>
            refine BW_t.2 ?_
            walk_at "st"
            refine (XW_setIxD rfl).2 ?_
            walk_at "pz"
            refine ⟨rfl, by rw [keys_S]; unfold szL; omega, ?_⟩
            rw [put_kS hnew]
            walk_at "pz"
            refine O_ixFM hg ?_
            walk_at "pz"
            have hW2 : W2.length ≤ 10000 := by omega
            refine OL_get.2 ⟨_, rfl, by rw [keys_S]; unfold szL; omega, ?_⟩
            have eW2 : kS W2 ++ [.int (x : Int)] = kS (W2 ++ [x]) := by simp [kS]
            rw [eW2]
            walk_at "pz"
            refine ⟨rfl, W2 ++ [x], Zr2 ++ [j], _, by simp; omega, fun y hy => List.mem_append_left _ (u2 y hy), fun y hy => ?_, fun y hy => List.mem_append_left _ (u4 y hy), fun y hy => ?_, fun y hy => ?_, ?_, fun y hy => ?_, rfl⟩
            · rcases List.mem_append.mp hy with hy | hy
              · exact u3 y hy
              · rw [List.mem_singleton.mp hy]
                obtain ⟨z, e, hz⟩ := hp.cls j (hiR j hj)
                rw [hg] at e
                cases e
                exact .inr ⟨hp.low j x hg, hz⟩
            · rcases List.mem_append.mp hy with hy | hy
              · exact (u5 y hy).imp (fun q => List.mem_append_left _ q) id
              · rw [List.mem_singleton.mp hy]; exact .inl (List.mem_append_right _ (List.mem_singleton.mpr rfl))
            · rcases List.mem_append.mp hy with hy | hy
              · rcases u6 y hy with q | ⟨q, z, e, hz⟩
                · exact .inl q
                · exact .inr ⟨q, z, e, List.mem_append_left _ hz⟩
              · rw [List.mem_singleton.mp hy]
                exact .inr ⟨hj, x, hg, List.mem_append_right _ (List.mem_singleton.mpr rfl)⟩
            · rw [List.nodup_append]
              exact ⟨u7, by simp, fun a ha b hb e => by rw [List.mem_singleton.mp hb] at e; subst e; exact hnew ha⟩
            · rcases List.mem_append.mp hy with hy | hy
              · exact u8 y hy
              · rw [List.mem_singleton.mp hy]; exact hjN
        · rintro _ _ ⟨rfl, W2, Zr2, x7, u1, u2, u3, u4, u5, u6, u7, u8, rfl⟩
          rw [keys_S, List.take_of_length_le (Nat.le_refl _)] at u5
          have hz2 : Zr2.length ≤ ns.length := by
            have := subLen u7 (b := List.range ns.length) fun x hx => List.mem_range.mpr (u8 x hx)
            simpa using this
          have hz1 : Zr.length ≤ Zr2.length := subLen hc2.nr u4
          refine ⟨rfl, W2, Zr2, _, _, by omega, ⟨fun x hx h => ?_, fun x hx j hj => ?_, fun j hj => ?_, fun x hx => ?_, fun j hj => ?_, u7, u8⟩, rfl⟩
          · rcases hc2.g1 x hx h with q | q
            · exact .inl ((hin2 x).mpr (.inl q))
            · rcases List.mem_append.mp q with q | q
              · exact .inr (u2 x q)
              · exact .inl ((hin2 x).mpr (.inr (List.mem_singleton.mp q)))
          · rcases (hin2 x).mp hx with q | rfl
            · exact (hc2.g2 x q j hj).imp (fun z => u4 j z) id
            · exact u5 j hj
          · rcases u6 j hj with q | ⟨_, z, e, hz⟩
            · obtain ⟨z, e, hz⟩ := hc2.g3 j q
              refine ⟨z, e, ?_⟩
              rcases hz with hz | hz
              · exact .inl ((hin2 z).mpr (.inl hz))
              · rcases List.mem_append.mp hz with hz | hz
                · exact .inr (u2 z hz)
                · exact .inl ((hin2 z).mpr (.inr (List.mem_singleton.mp hz)))
            · exact ⟨z, e, .inr hz⟩
          · rcases hx with hx | hx
            · rcases (hin2 x).mp hx with q | rfl
              · exact hc2.g4 x (.inl q)
              · exact ⟨hiN, hiR⟩
            · rcases u3 x hx with q | q
              · exact hc2.g4 x (.inr (List.mem_append_left _ q))
              · exact q
          · rcases u6 j hj with q | ⟨q, _⟩
            · obtain ⟨z, hz, hzj⟩ := hc2.g5 j q
              exact ⟨z, (hin2 z).mpr (.inl hz), hzj⟩
            · exact ⟨i, (hin2 i).mpr (.inr rfl), q⟩
      rintro _ _ ⟨rfl, W2, Zr2, x6, x7, hmu2, hc3, rfl⟩
      walk_at "pz"
      exact ⟨rfl, W2, metF Zl i, Zr2, c + 1, _, _, by omega, hmu2, hc3, hzl2, rfl⟩
    · rintro _ _ ⟨rfl, W, Zl, Zr, c, x6, x7, hf, hmu, hc2, hzl, rfl⟩
      omega
  rintro _ _ ⟨rfl, Zl, Zr, x3, x6, x7, hcom, rfl⟩
  walk_at "pz"
  exact hQ Zl Zr hcom
end
end PyI
namespace PyI
open PySem L2
/-- the ones behind, by the ones ahead -/
def onM (M : Mp) : Mp := M.foldl (fun acc p => stM acc p.2 p.1) []
theorem on_none {y : Nat} : ∀ (M acc : Mp), (∀ q ∈ M, q.2 ≠ y) → gt (M.foldl (fun acc p => stM acc p.2 p.1) acc) y = gt acc y
  | [], _, _ => rfl
  | p :: M, acc, h => by
    rw [List.foldl_cons, on_none M _ fun q hq => h q (by simp [hq]), gt_stM, upF_ne]
    exact fun e => h p (by simp) e.symm
theorem on_some {x y : Nat} : ∀ (M acc : Mp), (x, y) ∈ M → (∀ q ∈ M, q.2 = y → q.1 = x) → gt (M.foldl (fun acc p => stM acc p.2 p.1) acc) y = some x
  | p :: M, acc, hm, h => by
    rw [List.foldl_cons]
    by_cases hin : (x, y) ∈ M
    · exact on_some M _ hin fun q hq => h q (by simp [hq])
    · have e : (x, y) = p := by
        rcases List.mem_cons.mp hm with q | q
        · exact q
        · exact absurd q hin
      rw [on_none M _ fun q hq e2 => hin ?_, gt_stM, ← e]
      · exact upF_self
      · have e3 := h q (by simp [hq]) e2
        have : q = (x, y) := Prod.ext e3 e2
        rw [← this]; exact hq
theorem on_iff {N : Nat} {M : Mp} (hw : WfM N M) (hinj : ∀ j1 j2 x, gt M j1 = some x → gt M j2 = some x → j1 = j2) {x y : Nat} : gt (onM M) y = some x ↔ gt M x = some y := by
  constructor
  · intro h
    by_cases hex : ∃ q ∈ M, q.2 = y
    · obtain ⟨q, hq, e⟩ := hex
      have h1 : gt M q.1 = some y := (mem_gt hw).mp (by rw [← e]; exact hq)
      have h2 : gt (onM M) y = some q.1 := on_some M [] (by rw [← e]; exact hq) fun q' hq' e' => hinj q'.1 q.1 y ((mem_gt hw).mp (by rw [← e']; exact hq')) h1
      rw [h] at h2
      cases h2
      exact h1
    · have := on_none M [] (y := y) fun q hq e => hex ⟨q, hq, e⟩
      rw [show gt (onM M) y = gt [] y from this] at h
      cases h
  · intro h
    exact on_some M [] ((mem_gt hw).mpr h) fun q hq e => hinj q.1 x y ((mem_gt hw).mp (by rw [← e]; exact hq)) h
theorem wf_on {N : Nat} {M : Mp} (h : ∀ p ∈ M, p.2 < N) : ∀ acc : Mp, WfM N acc → WfM N (M.foldl (fun acc p => stM acc p.2 p.1) acc) := by
  induction M with
  | nil => exact fun _ h => h
  | cons p M ih => exact fun acc ha => ih (fun q hq => h q (by simp [hq])) _ (wf_stM ha (h p (by simp)))
/-- a chain from one that has none ahead to one that has none behind -/
structure Path (M : Mp) (N r : Nat) (ch : List Nat) : Prop where
  hd : ch[0]? = some r
  lt : ∀ y ∈ ch, y < N
  nx : ∀ (i : Nat) (h : i + 1 < ch.length), gt M ch[i + 1] = some ch[i]
  cl : ∀ y ∈ ch, ∀ x, gt M x = some y → x ∈ ch
theorem path_nd {B : Nat → List Nat} (hT : ∀ i j k, j ∈ B i → k ∈ B j → k ∈ B i) (hI : ∀ i, i ∉ B i) {ch : List Nat} (h : ∀ (i : Nat) (h : i + 1 < ch.length), ch[i + 1] ∈ B ch[i]) : ch.Nodup := by
  have key : ∀ (d i : Nat) (hd : i + d + 1 < ch.length), ch[i + d + 1] ∈ B ch[i] := by
    intro d
    induction d with
    | zero => intro i hd; exact h i hd
    | succ d ih =>
      intro i hd
      exact hT _ _ _ (ih i (by omega)) (h (i + d + 1) hd)
  refine List.pairwise_iff_getElem.mpr fun i j hi hj hij e => ?_
  have := key (j - i - 1) i (by omega)
  have e2 : i + (j - i - 1) + 1 = j := by omega
  simp only [e2] at this
  rw [← e] at this
  exact hI _ this
/-- as few lists as any, and needs that show it -/
structure Few (cs : List Nat) (ns : List Need) (L : List (List Nat)) (T : List Nat) : Prop where
  len : L.length = T.length
  one : ∀ o ∈ L, Ltr cs o ∧ o ≠ []
  srv : ∀ p ∈ ns, ∃ o ∈ L, Srv o p
  ris : T.Pairwise (· < ·)
  lt : ∀ t ∈ T, t < ns.length
  apt : ∀ a ∈ T, ∀ b ∈ T, a ≠ b → agreeB (ns.getD a ([], [])) (ns.getD b ([], [])) = false
def optN : Option Nat → D
  | some x => .int (x : Int)
  | none => .non
def encCh (ns : List Need) (ch : List Nat) : D := .lst (ch.map fun i => encN (ns.getD i ([], [])))
theorem lst_ltr {cs : List Nat} {ps : List Need} (h : ∀ p ∈ ps, Nd cs p) : Ltr cs (lstN ps) := by
  have key : ∀ (ps : List Need) (f : List Nat), (∀ p ∈ ps, Nd cs p) → Ltr cs f → Ltr cs (ps.foldl addN f) := by
    intro ps
    induction ps with
    | nil => exact fun f _ h => h
    | cons p ps ih =>
      intro f hp hf
      refine ih _ (fun q hq => hp q (by simp [hq])) ⟨nd_foldF hf.nd, fun c hc => ?_⟩
      have hpp := hp p (by simp)
      rcases mem_foldF.mp hc with q | q
      · exact hf.sub c q
      · rcases List.mem_append.mp q with q | q
        · exact hpp.ok.sub.subset q
        · rcases hpp.rin with e | ⟨d, e, h1, _⟩
          · rw [e] at q; cases q
          · rw [e] at q; rw [List.mem_singleton.mp q]; exact h1
  exact key ps [] h ⟨.nil, by simp⟩
/-- what the pairing and what is come to tell -/
theorem few_of {cs : List Nat} (hc : cs.Pairwise (· < ·)) {ns : List Need} (hn : ∀ p ∈ ns, Nd cs p) {M : Mp} {R : Nat → Prop} (hp : Pai (folB ns) (gt M) R ns.length) {Zl Zr : List Nat} (hcom : Com (folB ns) (gt M) R ns.length Zl Zr) {chs : List (List Nat)}
    (hl : chs.length = ((List.range ns.length).filter fun r => (gt M r).isNone).length) (hpath : ∀ (k : Nat) (h : k < ((List.range ns.length).filter fun r => (gt M r).isNone).length), Path M ns.length ((List.range ns.length).filter fun r => (gt M r).isNone)[k] (chs[k]'(by omega))) :
    Few cs ns (chs.map fun ch => lstN (ch.map fun i => ns.getD i ([], []))) ((List.range ns.length).filter fun i => decide (i ∈ Zl) && !decide (i ∈ Zr)) := by
  have hT := folB_trans hc hn
  have hI := folB_irr (ns := ns)
  have hB := folB_lt (ns := ns)
  have hmemT : ∀ t, t ∈ ((List.range ns.length).filter fun i => decide (i ∈ Zl) && !decide (i ∈ Zr)) ↔ t < ns.length ∧ t ∈ Zl ∧ t ∉ Zr := fun t => by
    rw [List.mem_filter, List.mem_range]; simp
  have good : ∀ ch, ch ∈ chs → ∃ r, Path M ns.length r ch := fun ch hch => by
    obtain ⟨k, hk, rfl⟩ := List.mem_iff_getElem.mp hch
    exact ⟨_, hpath k (by omega)⟩
  have facts : ∀ ch r, Path M ns.length r ch → (∀ p ∈ ch.map (fun i => ns.getD i ([], [])), Nd cs p) ∧ Row (ch.map fun i => ns.getD i ([], [])) ∧ 0 < ch.length := fun ch r h => by
    refine ⟨fun p hp => ?_, fun i hi => ?_, ?_⟩
    · obtain ⟨i, hi, rfl⟩ := List.mem_map.mp hp
      exact nd_at hn (h.lt i hi)
    · rw [List.length_map] at hi
      rw [List.getElem_map, List.getElem_map]
      exact (folB_mem.mp (hp.val _ _ (h.nx i hi))).2.2.2.1
    · have := h.hd
      cases ch with
      | nil => cases this
      | cons _ _ => simp
  have serve : ∀ ch r, Path M ns.length r ch → ∀ i ∈ ch, Srv (lstN (ch.map fun i => ns.getD i ([], []))) (ns.getD i ([], [])) := fun ch r h i hi => by
    obtain ⟨f1, f2, f3⟩ := facts ch r h
    obtain ⟨_, h2⟩ := row_list hc (ch.length - 1) (ch.map fun i => ns.getD i ([], [])) (by rw [List.length_map]; omega) f1 f2
    exact h2 _ (List.mem_map.mpr ⟨i, hi, rfl⟩)
  refine ⟨?_, fun o ho => ?_, fun p hpn => ?_, List.Pairwise.filter _ List.pairwise_lt_range, fun t ht => ((hmemT t).mp ht).1, fun a ha b hb hne => ?_⟩
  · rw [List.length_map, hl]
    exact (kon_count hB hT hp hcom).symm
  · obtain ⟨ch, hch, rfl⟩ := List.mem_map.mp ho
    obtain ⟨r, hr⟩ := good ch hch
    obtain ⟨f1, f2, f3⟩ := facts ch r hr
    refine ⟨lst_ltr f1, fun e => ?_⟩
    have hs := serve ch r hr ch[0] (List.getElem_mem f3)
    have hnd := nd_at hn (hr.lt ch[0] (List.getElem_mem f3))
    have hlen := hs.len
    rw [e] at hlen
    simp only [List.length_nil] at hlen
    rcases hnd.ne with q | q
    · exact q (List.eq_nil_of_length_eq_zero (by omega))
    · exact q (List.eq_nil_of_length_eq_zero (by omega))
  · obtain ⟨x, hx, rfl⟩ := List.mem_iff_getElem.mp hpn
    have hroot : ∀ r, r < ns.length → gt M r = none → r ∈ (List.range ns.length).filter fun r => (gt M r).isNone := fun r hr h => List.mem_filter.mpr ⟨List.mem_range.mpr hr, by rw [h]; rfl⟩
    obtain ⟨r, hr, hmr, hxr⟩ := in_chain (ch := fun r => chs.getD (((List.range ns.length).filter fun r => (gt M r).isNone).idxOf r) []) hB hT hI hp
      (fun r hr hm => by
        have hi := List.idxOf_lt_length_of_mem (hroot r hr hm)
        have hpa := hpath _ hi
        rw [List.getElem_idxOf] at hpa
        have e : chs.getD (((List.range ns.length).filter fun r => (gt M r).isNone).idxOf r) [] = chs[((List.range ns.length).filter fun r => (gt M r).isNone).idxOf r]'(by omega) := by
          rw [List.getD_eq_getElem?_getD, List.getElem?_eq_getElem (by omega)]; rfl
        simp only [e]
        exact List.mem_of_getElem? hpa.hd)
      (fun r hr hm y hy x hx => by
        have hi := List.idxOf_lt_length_of_mem (hroot r hr hm)
        have hpa := hpath _ hi
        rw [List.getElem_idxOf] at hpa
        have e : chs.getD (((List.range ns.length).filter fun r => (gt M r).isNone).idxOf r) [] = chs[((List.range ns.length).filter fun r => (gt M r).isNone).idxOf r]'(by omega) := by
          rw [List.getD_eq_getElem?_getD, List.getElem?_eq_getElem (by omega)]; rfl
        simp only [e] at hy ⊢
        exact hpa.cl y hy x hx) x hx
    have hi := List.idxOf_lt_length_of_mem (hroot r hr hmr)
    have hpa := hpath _ hi
    have e : chs.getD (((List.range ns.length).filter fun r => (gt M r).isNone).idxOf r) [] = chs[((List.range ns.length).filter fun r => (gt M r).isNone).idxOf r]'(by omega) := by
      rw [List.getD_eq_getElem?_getD, List.getElem?_eq_getElem (by omega)]; rfl
    simp only [e] at hxr
    refine ⟨_, List.mem_map.mpr ⟨_, List.getElem_mem (l := chs) (n := ((List.range ns.length).filter fun r => (gt M r).isNone).idxOf r) (by omega), rfl⟩, ?_⟩
    have := serve _ _ hpa x hxr
    rw [List.getD_eq_getElem?_getD, List.getElem?_eq_getElem hx] at this
    exact this
  · obtain ⟨a1, a2, a3⟩ := (hmemT a).mp ha
    obtain ⟨b1, b2, b3⟩ := (hmemT b).mp hb
    exact apart_not hc hn a1 b1 hne (kon_apart hp hcom a2 b3) (kon_apart hp hcom b2 a3)
section
variable {cf : CF} {tab : Nat → Option FD} {n : Nat} {S : Store} {l la ls : Nat} {Q : D → Stt → Store → Prop} {cs : List Nat} {ns : List Need} {M : Mp}
theorem list_of_ok (h1 : tab i_list_of = some fd_list_of) (hc : Cols cs) (hl : cs.length ≤ 26) {ps : List Need} (hps : ∀ p ∈ ps, Nd cs p) (hpl : ps.length ≤ 10000) (hQ : Q (.str (lstN ps)) .fr S) : CW (callN tab (n + 1)) i_list_of [.lst (ps.map encN)] S Q := by
  refine CW_def h1 rfl (by walk_at "start") ?_
  walk_at "pz"
  refine XsW_cut (fun ρ' S' => S = S' ∧ ∃ x2 x3 x4 : Slot, ρ' = [.val (.lst (ps.map encN)), .val (.str (lstN ps)), x2, x3, x4]) ?_ ?_
  · refine XW_forI rfl (ps.map encN) S (fun P hP => by walk_at "pz"; exact ⟨rfl, _, rfl, hP⟩) (fun t ρ' S' => S = S' ∧ ∃ x2 x3 x4 : Slot, ρ' = [.val (.lst (ps.map encN)), .val (.str (lstN (ps.take t))), x2, x3, x4]) ⟨rfl, _, _, _, rfl⟩ ?_ ?_
    · rintro t ht _ _ ⟨rfl, x2, x3, x4, rfl⟩
      have ht' : t < ps.length := by simpa using ht
      have he : (ps.map encN)[t] = .tup [.str ps[t].1, .str ps[t].2] := by simp [encN]
      have htake : ps.take (t + 1) = ps.take t ++ [ps[t]] := by rw [List.take_add_one, List.getElem?_eq_getElem ht']; rfl
      have hpt := hps _ (List.getElem_mem ht')
      have hf := lst_ltr fun p hp => hps p (List.mem_of_mem_take (i := t) hp)
      rw [he, htake, lst_snoc]
      generalize ps[t] = p at hpt
      generalize lstN (ps.take t) = f at hf
      obtain ⟨a1, a2, a3, a4⟩ := nd_cp hc hpt
      have hin : ∀ c ∈ p.1 ++ p.2, c ∈ cs := fun c h => by
        rcases List.mem_append.mp h with h | h
        · exact hpt.ok.sub.subset h
        · rcases hpt.rin with e | ⟨d, e, h1, _⟩
          · rw [e] at h; cases h
          · rw [e] at h; rw [List.mem_singleton.mp h]; exact h1
      refine ⟨_, by show bindT _ (D.tup [_, _]) _ = _; walk_at "bind", ?_⟩
      refine XsW_cut (fun ρ' S' => S = S' ∧ ∃ x2 x3 x4 : Slot, ρ' = [.val (.lst (ps.map encN)), .val (.str (addN f p)), x2, x3, x4]) ?_ (fun ρ' S' h => by walk_at "pz"; exact h)
      refine XW_forI rfl ((p.1 ++ p.2).map fun c => .str [c]) S (fun P hP => by
        walk_at "pz"
        refine O_addS (by unfold szL; omega) ?_
        exact ⟨rfl, _, rfl, hP⟩) (fun u ρ' S' => S = S' ∧ ∃ x4 : Slot, ρ' = [.val (.lst (ps.map encN)), .val (.str (((p.1 ++ p.2).take u).foldl metF f)), .val (.str p.1), .val (.str p.2), x4]) ⟨rfl, _, rfl⟩ ?_ ?_
      · rintro u hu _ _ ⟨rfl, x4, rfl⟩
        have hu' : u < (p.1 ++ p.2).length := by simpa using hu
        have he : ((p.1 ++ p.2).map fun c => D.str [c])[u] = .str [(p.1 ++ p.2)[u]] := by rw [List.getElem_map]
        have htake : (p.1 ++ p.2).take (u + 1) = (p.1 ++ p.2).take u ++ [(p.1 ++ p.2)[u]] := by rw [List.take_add_one, List.getElem?_eq_getElem hu']; rfl
        rw [he, htake, List.foldl_append]
        have hg : Ltr cs (((p.1 ++ p.2).take u).foldl metF f) := ⟨nd_foldF hf.nd, fun c hcc => by
          rcases mem_foldF.mp hcc with q | q
          · exact hf.sub c q
          · exact hin c (List.mem_of_mem_take q)⟩
        have hgl := hg.len
        generalize ((p.1 ++ p.2).take u).foldl metF f = g at hg hgl
        generalize (p.1 ++ p.2)[u] = c
        refine ⟨_, by walk_at "bind", ?_⟩
        walk_at "if"
        walk_at "pz"
        refine O_ninS (BW_not.2 ⟨fun h => ?_, fun h => ?_⟩)
        · walk_at "pz"
          refine O_addS (by simp [szL]; omega) ?_
          walk_at "pz"
          refine ⟨rfl, .val (.str [c]), ?_⟩
          rw [show [c].foldl metF g = g ++ [c] from if_neg h]
          rfl
        · walk_at "pz"
          refine ⟨rfl, .val (.str [c]), ?_⟩
          rw [show [c].foldl metF g = g from if_pos h]
          try rfl
      · rintro _ _ ⟨rfl, x4, rfl⟩
        rw [List.length_map, List.take_of_length_le (Nat.le_refl _)]
        exact ⟨rfl, _, _, _, rfl⟩
    · rintro _ _ ⟨rfl, x2, x3, x4, rfl⟩
      rw [List.length_map, List.take_of_length_le (Nat.le_refl _)]
      exact ⟨rfl, _, _, _, rfl⟩
  rintro _ _ ⟨rfl, x2, x3, x4, rfl⟩
  walk_at "pz"
  exact hQ
theorem O_dictOn (M : Mp) {Q : D → Prop} (q : Q (.dict (kM (onM M)) (vM (onM M)))) : OW (biD .dict ([.lst (M.map fun p => D.tup [.int (p.2 : Int), .int (p.1 : Int)])].map (rd S))) Q := by
  refine ⟨_, ?_, q⟩
  show biD1 .dict (.lst (M.map fun p => D.tup [.int (p.2 : Int), .int (p.1 : Int)])) = _
  have h1 : pairsD (M.map fun p => D.tup [.int (p.2 : Int), .int (p.1 : Int)]) = some (M.map fun p => (D.int (p.2 : Int), D.int (p.1 : Int))) := by
    clear q
    induction M with
    | nil => rfl
    | cons p M ih =>
      simp only [List.map_cons, pairsD, keyD] at ih ⊢
      rw [ih]; rfl
  have h2 : ∀ acc : Mp, (M.map fun p => (D.int (p.2 : Int), D.int (p.1 : Int))).foldl (fun acc p => putD p.1 p.2 acc.1 acc.2) (kM acc, vM acc) = (kM (M.foldl (fun acc p => stM acc p.2 p.1) acc), vM (M.foldl (fun acc p => stM acc p.2 p.1) acc)) := by
    clear q h1
    induction M with
    | nil => exact fun _ => rfl
    | cons p M ih =>
      intro acc
      rw [List.map_cons, List.foldl_cons, List.foldl_cons]
      simp only
      rw [put_kM]
      exact ih _
  simp only [biD1, h1]
  have h3 := h2 []
  simp only [kM, vM, List.map_nil] at h3
  rw [h3]
  rfl
theorem O_getOn {y : Nat} {Q : D → Prop} (q : Q (optN (gt M y))) : OW (meD .dget (rd S (.dict (kM M) (vM M))) ([.int (y : Int)].map (rd S))) Q := by
  refine ⟨_, ?_, q⟩
  show (match keyD (.int (y : Int)) with | some _ => some ((findK (.int (y : Int)) (kM M) (vM M)).getD .non) | none => none) = _
  simp only [keyD, find_kM]
  cases gt M y <;> rfl
theorem nx_snoc {ch : List Nat} {y : Nat} (hnx : ∀ (i : Nat) (hi : i + 1 < (ch ++ [y]).length), gt M (ch ++ [y])[i + 1] = some (ch ++ [y])[i]) : ∀ {o : Option Nat}, (∀ x, o = some x → gt M x = some y) → ∀ (i : Nat) (hi : i + 1 < ((ch ++ [y]) ++ o.toList).length), gt M ((ch ++ [y]) ++ o.toList)[i + 1] = some ((ch ++ [y]) ++ o.toList)[i]
  | none, _, i, hi => by
    simp only [Option.toList_none, List.append_nil] at hi ⊢
    exact hnx i hi
  | some x, ho, i, hi => by
    by_cases hi2 : i + 1 < (ch ++ [y]).length
    · have e1 : ((ch ++ [y]) ++ (some x).toList)[i + 1] = (ch ++ [y])[i + 1] := List.getElem_append_left hi2
      have e2 : ((ch ++ [y]) ++ (some x).toList)[i] = (ch ++ [y])[i]'(by omega) := List.getElem_append_left (by omega)
      rw [e1, e2]
      exact hnx i hi2
    · have hie : i = ch.length := by simp at hi hi2; omega
      subst hie
      have e1 : ((ch ++ [y]) ++ (some x).toList)[ch.length + 1]'(by simp) = x := by simp
      have e2 : ((ch ++ [y]) ++ (some x).toList)[ch.length]'(by simp) = y := by simp
      rw [e1, e2]
      exact ho x rfl
theorem chains_ok (h1 : tab i_chains = some fd_chains) (hc : cs.Pairwise (· < ·)) (hn : ∀ p ∈ ns, Nd cs p) (hnl : ns.length ≤ 1000) (hw : WfM ns.length M) {R : Nat → Prop} (hp : Pai (folB ns) (gt M) R ns.length)
    (hQ : ∀ (chs : List (List Nat)) (hl : chs.length = ((List.range ns.length).filter fun r => (gt M r).isNone).length), (∀ (k : Nat) (h : k < ((List.range ns.length).filter fun r => (gt M r).isNone).length), Path M ns.length ((List.range ns.length).filter fun r => (gt M r).isNone)[k] (chs[k]'(by omega))) → Q (.lst (chs.map (encCh ns))) .fresh S) : CW (callN tab (n + 1)) i_chains [encNs ns, .dictF (kM M) (vM M)] S Q := by
  have hMl := wf_len hw
  have hT := folB_trans hc hn
  have hI := folB_irr (ns := ns)
  have hon : ∀ {x y : Nat}, gt (onM M) y = some x ↔ gt M x = some y := fun {x y} => on_iff hw hp.inj
  refine CW_def h1 rfl (by walk_at "start") ?_
  walk_at "pz"
  refine EW_compM (fun p : Nat × Nat => D.tupw [.int (p.1 : Int), .int (p.2 : Int)]) M S (fun P hP => by
    walk_at "pz"
    refine ⟨_, _, rfl, ?_⟩
    have e : ((kM M).zip (vM M)).map (fun p => D.tupw [p.1, p.2]) = M.map fun p : Nat × Nat => D.tupw [.int (p.1 : Int), .int (p.2 : Int)] := by
      unfold kM vM
      rw [List.zip_map', List.map_map]
      rfl
    rw [e]
    exact hP) (by unfold szL; omega) (fun p => some (.tup [.int (p.2 : Int), .int (p.1 : Int)])) (fun p hpm => ?_) ?_
  · refine TW_nil (by walk_at "bind") ?_
    walk_at "pz"
    exact ⟨rfl, rfl⟩
  rw [fm_all]
  walk_at "pz"
  refine O_dictOn M ?_
  have hwo : WfM ns.length (onM M) := wf_on (fun p hpm => hp.low p.1 p.2 ((mem_gt hw).mp hpm)) [] ⟨.nil, by simp⟩
  generalize hO : onM M = O at hon hwo
  walk_at "pz"
  refine XsW_cut (fun ρ' S' => S = S' ∧ ∃ (chs : List (List Nat)) (x4 x5 x6 x7 : Slot), (∃ hl : chs.length = ((List.range ns.length).filter fun r => (gt M r).isNone).length, ∀ (k : Nat) (h : k < ((List.range ns.length).filter fun r => (gt M r).isNone).length), Path M ns.length ((List.range ns.length).filter fun r => (gt M r).isNone)[k] (chs[k]'(by omega))) ∧ ρ' = [.val (encNs ns), .val (.dictF (kM M) (vM M)), .val (.dict (kM O) (vM O)), .own (.lst (chs.map (encCh ns))), x4, x5, x6, x7]) ?_ ?_
  · refine XW_forI rfl ((List.range ns.length).map fun k : Nat => D.int (k : Int)) S (fun P hP => by
      walk_at "pz"
      refine O_lenL (ds := ns.map encN) ?_
      refine ⟨_, rfl, by rw [List.length_map]; omega, ?_⟩
      rw [List.length_map, Int.toNat_natCast]
      exact hP) (fun t ρ' S' => S = S' ∧ ∃ (chs : List (List Nat)) (x4 x5 x6 x7 : Slot), (∃ hl : chs.length = ((List.range t).filter fun r => (gt M r).isNone).length, ∀ (k : Nat) (h : k < ((List.range t).filter fun r => (gt M r).isNone).length), Path M ns.length ((List.range t).filter fun r => (gt M r).isNone)[k] (chs[k]'(by omega))) ∧ ρ' = [.val (encNs ns), .val (.dictF (kM M) (vM M)), .val (.dict (kM O) (vM O)), .own (.lst (chs.map (encCh ns))), x4, x5, x6, x7]) ⟨rfl, [], _, _, _, _, ⟨rfl, fun k h => absurd h (Nat.not_lt_zero _)⟩, rfl⟩ ?_ ?_
    · rintro t ht _ _ ⟨rfl, chs, x4, x5, x6, x7, ⟨hl, hpa⟩, rfl⟩
      have ht' : t < ns.length := by simpa using ht
      have hfl := List.length_filter_le (fun r => (gt M r).isNone) (List.range t)
      rw [List.length_range] at hfl
      refine ⟨_, by rw [List.getElem_map, List.getElem_range]; walk_at "bind", ?_⟩
      walk_at "if"
      walk_at "pz"
      refine O_ninFM ?_
      cases hg : gt M t with
      | some y =>
        refine BW_f.2 ?_
        walk_at "pz"
        have e : (List.range (t + 1)).filter (fun r => (gt M r).isNone) = (List.range t).filter fun r => (gt M r).isNone := by
          rw [List.range_succ, List.filter_append]
          simp [hg]
        refine ⟨rfl, chs, .val (.int (t : Int)), x5, x6, x7, ?_, rfl⟩
        simp only [e]
        exact ⟨hl, hpa⟩
      | none =>
        refine BW_t.2 ?_
        walk_at "pz"
        refine XsW_cut (fun ρ' S' => S = S' ∧ ∃ (ch : List Nat) (x6 x7 : Slot), Path M ns.length t ch ∧ ρ' = [.val (encNs ns), .val (.dictF (kM M) (vM M)), .val (.dict (kM O) (vM O)), .own (.lst (chs.map (encCh ns))), .val (.int (t : Int)), .own (encCh ns ch), x6, x7]) ?_ ?_
        · refine XW_while (fun f ρ' S' => S = S' ∧ ∃ (ch : List Nat) (h : Option Nat) (x7 : Slot), 1000000 ≤ f + ch.length ∧ (ch ++ h.toList)[0]? = some t ∧ (∀ y ∈ ch ++ h.toList, y < ns.length) ∧ (∀ (i : Nat) (hi : i + 1 < (ch ++ h.toList).length), gt M (ch ++ h.toList)[i + 1] = some (ch ++ h.toList)[i]) ∧ (h = none → ∀ y, ch.getLast? = some y → ∀ x, gt M x ≠ some y) ∧ ρ' = [.val (encNs ns), .val (.dictF (kM M) (vM M)), .val (.dict (kM O) (vM O)), .own (.lst (chs.map (encCh ns))), .val (.int (t : Int)), .own (encCh ns ch), .val (optN h), x7])
            ⟨rfl, [], some t, _, by simp, rfl, by simp; exact ht', fun i hi => by simp at hi, (fun h => by cases h), rfl⟩ ?_ ?_
          · rintro f _ _ ⟨rfl, ch, h, x7, hf, hd, hlt, hnx, hen, rfl⟩
            have hnd : (ch ++ h.toList).Nodup := path_nd hT hI fun i hi => hp.val _ _ (hnx i hi)
            have hchl : (ch ++ h.toList).length ≤ ns.length := by
              have := subLen hnd (b := List.range ns.length) fun x hx => List.mem_range.mpr (hlt x hx)
              simpa using this
            have hchl2 : ch.length ≤ ns.length := by rw [List.length_append] at hchl; omega
            walk_at "pz"
            cases h with
            | none =>
              refine O_isnnN ?_
              refine BW_f.2 ?_
              simp only [Option.toList_none, List.append_nil] at hd hlt hnx hnd
              refine ⟨rfl, ch, _, _, ⟨hd, hlt, hnx, fun y hy x hx => ?_⟩, rfl⟩
              obtain ⟨i, hi, rfl⟩ := List.mem_iff_getElem.mp hy
              by_cases hlast : i + 1 < ch.length
              · have := hp.inj x ch[i + 1] _ hx (hnx i hlast)
                rw [this]
                exact List.getElem_mem hlast
              · refine absurd hx (hen rfl ch[i] ?_ x)
                rw [List.getLast?_eq_getElem?, List.getElem?_eq_getElem (by omega)]
                have : ch.length - 1 = i := by omega
                simp only [this]
            | some y =>
              have hy : y < ns.length := hlt y (by simp)
              refine OW_of (d := .bl true) rfl (BW_t.2 ?_)
              walk_at "pz"
              refine ns_get hy ?_
              walk_at "pz"
              refine OL_get.2 ⟨ch.map fun i => encN (ns.getD i ([], [])), rfl, by rw [List.length_map]; unfold szL; omega, ?_⟩
              walk_at "pz"
              refine O_getOn ?_
              walk_at "pz"
              refine ⟨rfl, ch ++ [y], gt O y, x7, by simp at hf ⊢; omega, ?_, ?_, ?_, ?_, ?_⟩
              · simp only [Option.toList_some] at hd
                rw [List.getElem?_append_left (by simp)]
                exact hd
              · intro z hz
                rcases List.mem_append.mp hz with hz | hz
                · exact hlt z (by simpa using hz)
                · cases ho : gt O y with
                  | none => rw [ho] at hz; simp at hz
                  | some x =>
                    rw [ho] at hz
                    have : z = x := by simpa using hz
                    subst this
                    have := folB_lt y z (hp.val z y (hon.mp ho))
                    exact this
              · intro i hi
                exact nx_snoc (by simpa using hnx) (fun x ho => hon.mp ho) i hi
              · intro ho z hz x hx
                rw [List.getLast?_concat] at hz
                cases hz
                have := hon.mpr hx
                rw [ho] at this
                cases this
              · show _ = _
                simp [encCh]
          · rintro _ _ ⟨rfl, ch, h, x7, hf, hd, hlt, hnx, hen, rfl⟩
            have hnd : (ch ++ h.toList).Nodup := path_nd hT hI fun i hi => hp.val _ _ (hnx i hi)
            have hchl : (ch ++ h.toList).length ≤ ns.length := by
              have := subLen hnd (b := List.range ns.length) fun x hx => List.mem_range.mpr (hlt x hx)
              simpa using this
            rw [List.length_append] at hchl
            omega
        rintro _ _ ⟨rfl, ch, x6, x7, hpath, rfl⟩
        walk_at "pz"
        refine OL_get.2 ⟨_, rfl, by rw [List.length_map, hl]; unfold szL; omega, ?_⟩
        walk_at "pz"
        have e : (List.range (t + 1)).filter (fun r => (gt M r).isNone) = (List.range t).filter (fun r => (gt M r).isNone) ++ [t] := by
          rw [List.range_succ, List.filter_append]
          simp [hg]
        refine ⟨rfl, chs ++ [ch], .val (.int (t : Int)), .val (encCh ns ch), x6, x7, ?_, by simp⟩
        simp only [e]
        refine ⟨by simp [hl], fun k hk => ?_⟩
        by_cases hk2 : k < ((List.range t).filter fun r => (gt M r).isNone).length
        · rw [List.getElem_append_left hk2, List.getElem_append_left (by omega)]
          exact hpa k hk2
        · have : k = ((List.range t).filter fun r => (gt M r).isNone).length := by
            rw [List.length_append, List.length_singleton] at hk
            omega
          subst this
          rw [List.getElem_append_right (Nat.le_refl _), List.getElem_append_right (by omega)]
          simp [hl]
          exact hpath
    · rintro _ _ ⟨rfl, chs, x4, x5, x6, x7, hh, rfl⟩
      simp only [List.length_map, List.length_range] at hh ⊢
      exact ⟨rfl, chs, _, _, _, _, hh, rfl⟩
  rintro _ _ ⟨rfl, chs, x4, x5, x6, x7, ⟨hl, hpa⟩, rfl⟩
  walk_at "pz"
  exact hQ chs hl hpa
end
end PyI
namespace PyI
open PySem L2
theorem path_len {cs : List Nat} (hc : cs.Pairwise (· < ·)) {ns : List Need} (hn : ∀ p ∈ ns, Nd cs p) {M : Mp} {R : Nat → Prop} (hp : Pai (folB ns) (gt M) R ns.length) {r : Nat} {ch : List Nat} (h : Path M ns.length r ch) : ch.length ≤ ns.length := by
  have hnd : ch.Nodup := path_nd (folB_trans hc hn) (folB_irr (ns := ns)) fun i hi => hp.val _ _ (h.nx i hi)
  have := subLen hnd (b := List.range ns.length) fun x hx => List.mem_range.mpr (h.lt x hx)
  simpa using this
theorem EW_compX {cf : CF} {ρ : SEnv} {S : Store} {α : Type} {elt : E} {tg : Tg} {it : I} {cond : Es} {vs : List Nat} {Q : D → Stt → Store → Prop} (enc : α → D) (h : IW cf it ρ S fun ds S1 => ∃ xs : List α, ds = xs.map enc ∧ xs.length ≤ szL ∧ ∃ g : α → Option D, (∀ x ∈ xs, TW cf elt tg cond vs ρ (enc x) S1 fun r S' => r = g x ∧ S1 = S') ∧ Q (.lst (xs.filterMap g)) .fresh S1) : EW cf (.comp elt tg it cond vs) ρ S Q := by
  obtain ⟨ds, S1, e1, xs, rfl, hz, g, hs, hd⟩ := h
  refine EW_comp.2 ⟨_, S1, e1, ?_⟩
  refine ⟨by simpa using hz, xs.filterMap g, S1, CW_map enc g xs fun d hd => ?_, hd⟩
  obtain ⟨r, S', e, rfl, rfl⟩ := TW_turn (hs d hd)
  exact e
section
variable {cf : CF} {tab : Nat → Option FD} {n : Nat} {S : Store} {Q : D → Stt → Store → Prop} {cs : List Nat} {ns : List Need}
/-- lists and needs -/
def encTs (T : List Nat) : D := .tup (T.map fun t : Nat => .int (t : Int))
theorem fewest_ok (t1 : tab i_is_ahead = some fd_is_ahead) (t2 : tab i_followers = some fd_followers) (t3 : tab i_try_place = some fd_try_place) (t4 : tab i_matched = some fd_matched) (t5 : tab i_come_to = some fd_come_to) (t6 : tab i_list_of = some fd_list_of) (t7 : tab i_chains = some fd_chains) (h1 : tab i_fewest = some fd_fewest) (hc : Cols cs) (hl : cs.length ≤ 26) (hn : ∀ p ∈ ns, Nd cs p) (hnl : ns.length ≤ 1000)
    (hQ : ∀ (L : List (List Nat)) (T : List Nat) S', Few cs ns L T → (∀ j, j < S.length → S'[j]? = S[j]?) → S.length ≤ S'.length → Q (.tup [.lst (L.map .str), encTs T]) .fr S') : CW (callN tab (n + ns.length + 3)) i_fewest [.str cs, encNs ns] S Q := by
  refine CW_def h1 rfl (by walk_at "start") ?_
  walk_at "pz"
  refine followers_ok (n := n + ns.length) t1 t2 hc hl hn hnl ?_
  walk_at "pz"
  refine matched_ok (n := n) t3 t4 hnl fun M R lf S1 hlf hM hold hlen hw hp => ?_
  refine ⟨lf, _, _, rfl, hM, by decide, ?_⟩
  have hlf1 := (List.getElem?_eq_some_iff.mp hM).1
  have hS2 : ∀ j, j < S.length → (S1.set lf .gone)[j]? = S[j]? := fun j hj => by
    rw [List.getElem?_set_ne (by omega)]
    exact hold j hj
  walk_at "pz"
  refine come_to_ok (n := n + ns.length + 1) t5 hnl hw hp fun Zl Zr hcom => ?_
  walk_at "pz"
  refine ⟨_, by walk_at "bind", ?_⟩
  walk_at "pz"
  refine EW_compX (encCh ns) ?_
  walk_at "pz"
  refine chains_ok (n := n + ns.length + 1) t7 hc.lt hn hnl hw hp fun chs hcl hpa => ?_
  have hfl := List.length_filter_le (fun r => (gt M r).isNone) (List.range ns.length)
  rw [List.length_range] at hfl
  have hfew := few_of hc.lt hn hp hcom hcl hpa
  refine ⟨rfl, _, rfl, chs, rfl, by unfold szL; omega, fun ch => some (.str (lstN (ch.map fun i => ns.getD i ([], [])))), fun ch hch => ?_, ?_⟩
  · have hpt : ∃ r, Path M ns.length r ch := by
      obtain ⟨k, hk, rfl⟩ := List.mem_iff_getElem.mp hch
      exact ⟨_, hpa k (by omega)⟩
    obtain ⟨r, hpt⟩ := hpt
    refine TW_nil (by walk_at "bind") ?_
    walk_at "pz"
    have e : encCh ns ch = .lst ((ch.map fun i => ns.getD i ([], [])).map encN) := by
      unfold encCh
      rw [List.map_map]
      rfl
    rw [e]
    refine list_of_ok (n := n + ns.length + 1) t6 hc hl (fun p hpm => ?_) (by rw [List.length_map]; have := path_len hc.lt hn hp hpt; omega) ?_
    · obtain ⟨i, hi, rfl⟩ := List.mem_map.mp hpm
      exact nd_at hn (hpt.lt i hi)
    · exact ⟨by decide, rfl, rfl⟩
  · rw [fm_all]
    walk_at "pz"
    refine EW_compM (fun i : Nat => D.int (i : Int)) (List.range ns.length) _ (fun P hP => by
      walk_at "pz"
      refine O_lenL (ds := ns.map encN) ?_
      refine ⟨_, rfl, by rw [List.length_map]; omega, ?_⟩
      rw [List.length_map, Int.toNat_natCast]
      exact hP) (by rw [List.length_range]; unfold szL; omega) (fun i : Nat => if (decide (i ∈ Zl) && !decide (i ∈ Zr)) = true then some (.int (i : Int)) else none) (fun i hi => ?_) ?_
    · refine TW_if (by walk_at "bind") ?_
      walk_at "pz"
      refine O_inS2 ?_
      by_cases h1 : i ∈ Zl
      · rw [decide_eq_true h1]
        refine BW_t.2 ?_
        walk_at "pz"
        refine O_ninS2 ?_
        by_cases h2 : i ∈ Zr
        · rw [decide_eq_true h2]
          refine BW_f.2 ?_
          exact ⟨by simp, rfl⟩
        · rw [decide_eq_false h2]
          refine BW_t.2 ?_
          walk_at "pz"
          exact ⟨by simp, rfl⟩
      · rw [decide_eq_false h1]
        refine BW_f.2 ?_
        refine BW_f.2 ?_
        exact ⟨by simp, rfl⟩
    rw [fm_if (fun i : Nat => decide (i ∈ Zl) && !decide (i ∈ Zr)) (fun i : Nat => D.int (i : Int))]
    walk_at "pz"
    have e : (chs.map fun ch => D.str (lstN (ch.map fun i => ns.getD i ([], [])))) = ((chs.map fun ch => lstN (ch.map fun i => ns.getD i ([], []))).map D.str) := by rw [List.map_map]; rfl
    rw [e]
    exact hQ _ _ _ hfew hS2 (by simp; omega)
theorem fewest_at {m : Nat} (hm : ns.length + 3 ≤ m) (t1 : tab i_is_ahead = some fd_is_ahead) (t2 : tab i_followers = some fd_followers) (t3 : tab i_try_place = some fd_try_place) (t4 : tab i_matched = some fd_matched) (t5 : tab i_come_to = some fd_come_to) (t6 : tab i_list_of = some fd_list_of) (t7 : tab i_chains = some fd_chains) (h1 : tab i_fewest = some fd_fewest) (hc : Cols cs) (hl : cs.length ≤ 26) (hn : ∀ p ∈ ns, Nd cs p) (hnl : ns.length ≤ 1000)
    (hQ : ∀ (L : List (List Nat)) (T : List Nat) S', Few cs ns L T → (∀ j, j < S.length → S'[j]? = S[j]?) → S.length ≤ S'.length → Q (.tup [.lst (L.map .str), encTs T]) .fr S') : CW (callN tab m) i_fewest [.str cs, encNs ns] S Q := by
  obtain ⟨k, rfl⟩ : ∃ k, m = k + ns.length + 3 := ⟨m - ns.length - 3, by omega⟩
  exact fewest_ok t1 t2 t3 t4 t5 t6 t7 h1 hc hl hn hnl hQ
end
end PyI
namespace PyI
open PySem L2
section
variable {cf : CF} {tab : Nat → Option FD} {n : Nat} {S : Store} {l : Nat} {Q : D → Stt → Store → Prop}
theorem l_need_ok2 (h1 : tab i_l_lot = some fd_l_lot) (h2 : tab i_l_need = some fd_l_need) {cs : List Nat} (hc : Cols cs) (hc1 : 1 ≤ cs.length) (hl : cs.length ≤ 26) (hS : RelB S l)
    (hQ : ∀ (sm rc : List Nat) S', StpB S l S' → NeedOk cs sm rc → (sm ≠ [] ∨ rc ≠ []) → Q (.tup [.str sm, .str rc]) .fr S') : CW (callN tab (n + 2)) i_l_need [.ref l, .str cs] S Q := by
  refine CW_def h2 rfl (by walk_at "start") ?_
  walk_at "pz"
  refine EW_comp.2 ?_
  walk_at "pz"
  refine ⟨rfl, _, rfl, ?_⟩
  refine comp_loop (cs.map fun c => D.str [c]) S (by simp; unfold szL; omega) (fun i acc S' => StpB S l S' ∧ ∃ sm : List Nat, acc = chars sm ∧ sm.Sublist (cs.take i)) ⟨.refl hS, [], rfl, by simp⟩ ?_ ?_
  · rintro i hi acc S2 ⟨st, sm, rfl, hsm⟩
    have hil : i < cs.length := by simpa using hi
    have e0 : (cs.map fun c => D.str [c])[i] = .str [cs[i]] := by simp
    rw [e0]
    refine TW_if (by walk_at "bind") ?_
    walk_at "pz"
    refine l_lot_ok h1 st.at_ (by omega) (by omega) fun k S3 st3 k0 k1 => ?_
    walk_at "pz"
    have ht : cs.take (i + 1) = cs.take i ++ [cs[i]] := by rw [List.take_succ, List.getElem?_eq_getElem hil]; rfl
    refine BW_dec.2 ⟨fun h => ?_, fun h => ?_⟩
    · walk_at "pz"
      refine ⟨st.trans st3, sm ++ [cs[i]], by simp [chars], ?_⟩
      rw [ht]
      exact hsm.append (List.Sublist.refl _)
    · refine ⟨st.trans st3, sm, rfl, ?_⟩
      rw [ht]
      exact hsm.trans (List.sublist_append_left _ _)
  rintro xs S2 ⟨st, sm, rfl, hsm⟩
  rw [List.length_map, List.take_of_length_le (Nat.le_refl _)] at hsm
  walk_at "pz"
  have hsl := hsm.length_le
  have hsz : ∀ c ∈ sm, 97 ≤ c ∧ c ≤ 122 := fun c h => hc.az c (hsm.subset h)
  refine EW_compM (fun c => .str [c]) cs S2 (fun P hP => by walk_at "pz"; exact ⟨rfl, _, rfl, hP⟩) (by unfold szL; omega) (fun c => if (!decide (c ∈ sm)) = true then some (.str [c]) else none) (fun x hx => ?_) ?_
  · refine TW_if (by walk_at "bind") ?_
    walk_at "pz"
    refine O_ninC (BW_bl.2 ?_)
    split
    · walk_at "pz"
      exact ⟨rfl, rfl⟩
    · exact ⟨rfl, rfl⟩
  rw [fm_if (fun c : Nat => !decide (c ∈ sm)) (fun c => D.str [c])]
  have hot : ∀ c ∈ cs.filter (fun c => !decide (c ∈ sm)), c ∈ cs ∧ c ∉ sm := fun c h => by
    have := List.mem_filter.mp h
    exact ⟨this.1, by simpa using this.2⟩
  have hon : cs.filter (fun c => !decide (c ∈ sm)) = [] → sm ≠ [] := fun h e => by
    subst e
    rw [List.filter_eq_nil_iff] at h
    have := h cs[0] (List.getElem_mem (by omega))
    simp at this
  have hol : (cs.filter (fun c => !decide (c ∈ sm))).length ≤ cs.length := List.length_filter_le _ _
  generalize cs.filter (fun c => !decide (c ∈ sm)) = ot at hot hol hon
  walk_at "pz"
  refine XsW_cut (fun ρ' S' => StpB S l S' ∧ ∃ (rc : List Nat) (x5 : Slot), (NeedOk cs sm rc ∧ (sm ≠ [] ∨ rc ≠ [])) ∧ ρ' = [.val (.ref l), .val (.str cs), .val (.lst (chars sm)), .val (.lst (chars ot)), .val (.str rc), x5]) ?_ ?_
  · refine XW_ifs.2 ?_
    walk_at "pz"
    have fin0 : NeedOk cs sm [] := ⟨hsm, .inl rfl⟩
    have e7 : (chars ot).length = ot.length := by simp [chars]
    refine ne_letters (b := []) (fun c h => hc.az c (hot c h).1) (by simp) (BW_bl.2 ?_)
    by_cases hn : ot = []
    · simp only [hn, decide_true, Bool.not_true, Bool.false_eq_true, if_false]
      refine BW_f.2 ?_
      walk_at "pz"
      subst hn
      exact ⟨st, [], _, ⟨fin0, .inl (hon rfl)⟩, rfl⟩
    · simp only [hn, decide_false, Bool.not_false, if_true]
      walk_at "pz"
      refine eq_letters (b := []) hsz (by simp) (BW_bl.2 ?_)
      by_cases hn2 : sm = []
      · subst hn2
        simp only [decide_true, if_true]
        refine BW_t.2 ?_
        have hpos : 0 < ot.length := List.length_pos_iff.mpr hn
        walk_at "pz"
        refine l_lot_ok h1 st.at_ (by simp [chars]; omega) (by simp [chars]; omega) fun k S4 st4 k0 k1 => ?_
        walk_at "pz"
        refine chars_get k0 k1 fun c hcm => ?_
        walk_at "pz"
        exact ⟨st.trans st4, [c], _, ⟨⟨hsm, .inr ⟨c, rfl, hot c hcm⟩⟩, .inr (by simp)⟩, rfl⟩
      · simp only [hn2, decide_false, Bool.false_eq_true, if_false]
        walk_at "pz"
        refine l_lot_ok h1 st.at_ (by omega) (by omega) fun w S3 st3 w0 w1 => ?_
        walk_at "pz"
        refine BW_dec.2 ⟨fun h => ?_, fun h => ?_⟩
        · have hpos : 0 < ot.length := List.length_pos_iff.mpr hn
          walk_at "pz"
          refine l_lot_ok h1 st3.at_ (by simp [chars]; omega) (by simp [chars]; omega) fun k S4 st4 k0 k1 => ?_
          walk_at "pz"
          refine chars_get k0 k1 fun c hcm => ?_
          walk_at "pz"
          exact ⟨(st.trans st3).trans st4, [c], _, ⟨⟨hsm, .inr ⟨c, rfl, hot c hcm⟩⟩, .inr (by simp)⟩, rfl⟩
        · walk_at "pz"
          exact ⟨st.trans st3, [], _, ⟨fin0, .inl hn2⟩, rfl⟩
  rintro _ S3 ⟨st3, rc, x5, ⟨hN, hne⟩, rfl⟩
  walk_at "pz"
  refine O_joinC (by unfold szL; omega) ?_
  walk_at "pz"
  exact hQ sm rc S3 st3 hN hne
end
end PyI
namespace PyI
open PySem L2
section
variable {cf : CF} {tab : Nat → Option FD} {n : Nat} {S : Store} {l : Nat} {Q : D → Stt → Store → Prop} {cs : List Nat} {ns : List Need}
theorem sub_lt {a b : List Nat} (ha : a.Pairwise (· < ·)) (hb : b.Pairwise (· < ·)) (h : ∀ c ∈ a, c ∈ b) : a.Sublist b := by
  have e : a = b.filter fun c => decide (c ∈ a) := lt_same ha (hb.sublist List.filter_sublist) fun x => by
    rw [List.mem_filter]
    simp only [decide_eq_true_eq]
    exact ⟨fun q => ⟨h x q, q⟩, fun q => q.2⟩
  rw [e]
  exact List.filter_sublist
theorem nd_all {p : Need} (h : Nd cs p) : ∀ c ∈ p.1 ++ p.2, c ∈ cs := fun c hcc => by
  rcases List.mem_append.mp hcc with q | q
  · exact h.ok.sub.subset q
  · rcases h.rin with e | ⟨d, e, h1, _⟩
    · rw [e] at q; cases q
    · rw [e] at q; rw [List.mem_singleton.mp q]; exact h1
theorem nd_nd (hc : cs.Pairwise (· < ·)) {p : Need} (h : Nd cs p) : (p.1 ++ p.2).Nodup := by
  have h0 : p.1.Nodup := (h.lt hc).imp fun q => Nat.ne_of_lt q
  rcases h.rin with e | ⟨d, e, h1, h2⟩
  · rw [e, List.append_nil]; exact h0
  · rw [e, List.nodup_append]
    exact ⟨h0, by simp, fun a ha b hb e2 => h2 (by rw [List.mem_singleton.mp hb] at e2; rw [← e2]; exact ha)⟩
theorem nd_last (hc : cs.Pairwise (· < ·)) {p : Need} (h : Nd cs p) : (sortN (p.1 ++ p.2)).Sublist cs ∧ sortN (p.1 ++ p.2) ≠ [] := by
  have hp := sortN_perm (p.1 ++ p.2)
  refine ⟨sub_lt (sortN_lt _ (nd_nd hc h)) hc fun c q => nd_all h c (hp.mem_iff.mp q), fun e => ?_⟩
  have := hp.length_eq
  rw [e, List.length_nil, List.length_append] at this
  rcases h.ne with q | q
  · exact q (List.eq_nil_of_length_eq_zero (by omega))
  · exact q (List.eq_nil_of_length_eq_zero (by omega))
theorem O_ixEnd {ds : List D} {d : D} (h : ds.getLast? = some d) {Q : D → Prop} (q : Q d) : OW (ixD (rd S (.lst ds)) (.int (-1))) Q := by
  refine ⟨d, ?_, q⟩
  have hl : 0 < ds.length := List.length_pos_iff.mpr fun e => by rw [e] at h; cases h
  show atI ds (-1) = some d
  unfold atI ixN
  rw [if_neg (by omega), if_pos (by omega)]
  rw [List.getLast?_eq_getElem?] at h
  simp only [Option.bind_some]
  rw [← h]
  congr 1
  omega
theorem snocN {ps : List Need} {a b : List Nat} : ps.map encN ++ [D.tup [.str a, .str b]] = (ps ++ [(a, b)]).map encN := by rw [List.map_append]; rfl
theorem l_needs_ok (h1 : tab i_l_lot = some fd_l_lot) (h2 : tab i_l_need = some fd_l_need) (h3 : tab i_l_needs = some fd_l_needs) (hc : Cols cs) (hc1 : 1 ≤ cs.length) (hl : cs.length ≤ 26) (hS : RelB S l) {m : Int} (hm : 1 ≤ m) (hm2 : m ≤ 1000)
    (hQ : ∀ (ps : List Need) S', StpB S l S' → (∀ p ∈ ps, Nd cs p) → ps ≠ [] → (ps.length : Int) ≤ m → Q (encNs ps) .fresh S') : CW (callN tab (n + 3)) i_l_needs [.ref l, .str cs, .int m] S Q := by
  refine CW_def h3 rfl (by walk_at "start") ?_
  walk_at "pz"
  refine l_need_ok2 h1 h2 hc hc1 hl hS fun sm rc S1 st1 hN hne => ?_
  walk_at "pz"
  refine XsW_cut (fun ρ' S' => StpB S l S' ∧ ∃ (ps : List Need) (x4 x5 x6 x7 x8 : Slot), (∀ p ∈ ps, Nd cs p) ∧ ps ≠ [] ∧ (ps.length : Int) ≤ m ∧ ρ' = [.val (.ref l), .val (.str cs), .val (.int m), .own (.lst (ps.map encN)), x4, x5, x6, x7, x8]) ?_ ?_
  · refine XW_for.2 ⟨rfl, ?_⟩
    walk_at "pz"
    refine l_lot_ok h1 st1.at_ (by omega) (by omega) fun w S2 st2 w0 w1 => ?_
    walk_at "pz"
    refine ⟨_, rfl, by omega, ?_⟩
    refine LW_inv (fun i ρ' S' => StpB S l S' ∧ ∃ (ps : List Need) (x4 x5 x6 x7 x8 : Slot), (∀ p ∈ ps, Nd cs p) ∧ ps.length = i + 1 ∧ ρ' = [.val (.ref l), .val (.str cs), .val (.int m), .own (.lst (ps.map encN)), x4, x5, x6, x7, x8]) _ 0 _ _
      ⟨st1.trans st2, [(sm, rc)], _, _, _, _, _, fun p hp => by rw [List.mem_singleton.mp hp]; exact ⟨hN, hne⟩, rfl, rfl⟩ ?_ ?_
    · rintro i hi _ S3 ⟨st, ps, x4, x5, x6, x7, x8, hps, hpl, rfl⟩
      refine bodyW ⟨_, rfl, ?_⟩
      rw [rng_get hi]
      walk_at "pz"
      refine l_lot_ok h1 st.at_ (by omega) (by omega) fun way S4 st4 y0 y1 => ?_
      walk_at "pz"
      have hi' : i < w.toNat := by simpa using hi
      have hne : ps ≠ [] := fun e => by rw [e] at hpl; cases hpl
      obtain ⟨p, hp⟩ : ∃ p, ps.getLast? = some p := by
        cases h : ps.getLast? with
        | none => exact absurd (List.getLast?_eq_none_iff.mp h) hne
        | some p => exact ⟨p, rfl⟩
      have hpn := hps p (List.mem_of_getLast? hp)
      have hlast : (ps.map encN).getLast? = some (.tup [.str p.1, .str p.2]) := by rw [List.getLast?_map, hp]; rfl
      have hp1 := hpn.ok.sub.length_le
      have hp2 : p.2.length ≤ 1 := by
        rcases hpn.rin with e | ⟨c, e, _⟩ <;> simp [e]
      refine O_ixEnd hlast ?_
      walk_at "pz"
      refine O_ixT (by decide) rfl ?_
      walk_at "pz"
      refine O_ixEnd hlast ?_
      walk_at "pz"
      refine O_ixT (by decide) rfl ?_
      walk_at "pz"
      refine O_addS (by unfold szL; omega) ?_
      walk_at "pz"
      refine O_sortText (by rw [List.length_append]; omega) ?_
      walk_at "pz"
      obtain ⟨hls, hln⟩ := nd_last hc.lt hpn
      have hll := hls.length_le
      generalize sortN (p.1 ++ p.2) = la at hls hln hll
      refine O_joinC (by unfold szL; omega) ?_
      walk_at "pz"
      refine EW_compM (fun c => .str [c]) cs S4 (fun P hP => by walk_at "pz"; exact ⟨rfl, _, rfl, hP⟩) (by unfold szL; omega) (fun c => if (!decide (c ∈ la)) = true then some (.str [c]) else none) (fun x hx => ?_) ?_
      · refine TW_if (by walk_at "bind") ?_
        walk_at "pz"
        refine O_ninS (BW_bl.2 ?_)
        split
        · walk_at "pz"
          exact ⟨rfl, rfl⟩
        · exact ⟨rfl, rfl⟩
      rw [fm_if (fun c : Nat => !decide (c ∈ la)) (fun c => D.str [c])]
      have hot : ∀ c ∈ cs.filter (fun c => !decide (c ∈ la)), c ∈ cs ∧ c ∉ la := fun c h => by
        have := List.mem_filter.mp h
        exact ⟨this.1, by simpa using this.2⟩
      have hol : (cs.filter (fun c => !decide (c ∈ la))).length ≤ cs.length := List.length_filter_le _ _
      generalize cs.filter (fun c => !decide (c ∈ la)) = ot at hot hol
      have hnew : ∀ {q : Need}, Nd cs q → ∀ p ∈ ps ++ [q], Nd cs p := fun {q} hq p hp => by
        rcases List.mem_append.mp hp with h | h
        · exact hps p h
        · rw [List.mem_singleton.mp h]; exact hq
      have hoz : (chars ot).length = ot.length := by simp [chars]
      walk_at "pz"
      walk_at "if"
      walk_at "pz"
      refine BW_dec.2 ⟨fun hw0 => ?_, fun hw0 => ?_⟩
      · walk_at "pz"
        refine ne_letters (b := []) (fun c h => hc.az c (hot c h).1) (by simp) (BW_bl.2 ?_)
        by_cases ho : ot = []
        · simp only [ho, decide_true, Bool.not_true, Bool.false_eq_true, if_false]
          walk_at "pz"
          walk_at "if"
          walk_at "pz"
          rw [decide_eq_false (show ¬ way = 1 by omega)]
          refine BW_f.2 ?_
          walk_at "pz"
          refine l_need_ok2 h1 h2 hc hc1 hl st4.at_ fun sm2 rc2 S5 st5 hN2 hne2 => ?_
          walk_at "pz"
          refine OL_get.2 ⟨_, rfl, by rw [List.length_map]; unfold szL; omega, ?_⟩
          walk_at "pz"
          rw [snocN]
          exact ⟨(st.trans st4).trans st5, ps ++ [(sm2, rc2)], _, _, _, _, _, hnew (q := (sm2, rc2)) ⟨hN2, hne2⟩, by simp [hpl], rfl⟩
        · simp only [ho, decide_false, Bool.not_false, if_true]
          have hpos : 0 < ot.length := List.length_pos_iff.mpr ho
          walk_at "pz"
          refine l_lot_ok h1 st4.at_ (show 0 < ((chars ot).length : Int) by rw [hoz]; omega) (show ((chars ot).length : Int) < 1073741824 by rw [hoz]; omega) fun k S5 st5 k0 k1 => ?_
          walk_at "pz"
          refine chars_get k0 k1 fun c hcm => ?_
          walk_at "pz"
          refine OL_get.2 ⟨_, rfl, by rw [List.length_map]; unfold szL; omega, ?_⟩
          walk_at "pz"
          rw [snocN]
          exact ⟨(st.trans st4).trans st5, ps ++ [(la, [c])], _, _, _, _, _, hnew (q := (la, [c])) ⟨⟨hls, .inr ⟨c, rfl, hot c hcm⟩⟩, .inr (by simp)⟩, by simp [hpl], rfl⟩
      · walk_at "pz"
        walk_at "if"
        walk_at "pz"
        refine BW_dec.2 ⟨fun hw1 => ?_, fun hw1 => ?_⟩
        · walk_at "pz"
          refine O_ixEnd hlast ?_
          walk_at "pz"
          refine l_lot_ok h1 st4.at_ (by omega) (by omega) fun k S5 st5 k0 k1 => ?_
          walk_at "pz"
          have hk : k = 0 ∨ k = 1 := by omega
          rcases hk with rfl | rfl
          · refine O_ixL (by decide) rfl ?_
            walk_at "pz"
            refine OL_get.2 ⟨_, rfl, by rw [List.length_map]; unfold szL; omega, ?_⟩
            walk_at "pz"
            rw [snocN]
            exact ⟨(st.trans st4).trans st5, ps ++ [p], _, _, _, _, _, hnew hpn, by simp [hpl], rfl⟩
          · refine O_ixL (by decide) rfl ?_
            walk_at "pz"
            refine OL_get.2 ⟨_, rfl, by rw [List.length_map]; unfold szL; omega, ?_⟩
            walk_at "pz"
            rw [snocN]
            exact ⟨(st.trans st4).trans st5, ps ++ [(la, [])], _, _, _, _, _, hnew (q := (la, [])) ⟨⟨hls, .inl rfl⟩, .inl hln⟩, by simp [hpl], rfl⟩
        · walk_at "pz"
          refine l_need_ok2 h1 h2 hc hc1 hl st4.at_ fun sm2 rc2 S5 st5 hN2 hne2 => ?_
          walk_at "pz"
          refine OL_get.2 ⟨_, rfl, by rw [List.length_map]; unfold szL; omega, ?_⟩
          walk_at "pz"
          rw [snocN]
          exact ⟨(st.trans st4).trans st5, ps ++ [(sm2, rc2)], _, _, _, _, _, hnew (q := (sm2, rc2)) ⟨hN2, hne2⟩, by simp [hpl], rfl⟩
    · rintro _ S3 ⟨st, ps, x4, x5, x6, x7, x8, hps, hpl, rfl⟩
      exact ⟨st, ps, _, _, _, _, _, hps, fun e => (by rw [e] at hpl; cases hpl), by rw [hpl]; simp; omega, rfl⟩
  rintro _ S3 ⟨st, ps, x4, x5, x6, x7, x8, hps, hne, hpl, rfl⟩
  walk_at "pz"
  exact hQ ps S3 st hps hne hpl
end
end PyI
namespace PyI
open PySem L2

abbrev Ky := List Int × Nat
def ordK (p q : Ky) : Prop := p.1 < q.1 ∨ (p.1 = q.1 ∧ p.2 ≤ q.2)
instance (p q : Ky) : Decidable (ordK p q) := by unfold ordK; infer_instance
def leK (p q : Ky) : Bool := decide (ordK p q)
def encK (p : Ky) : D := .tup [encRow p.1, .int p.2]
def keysT (cs : List Nat) (rows : List (List Int)) (one : List Nat) : List Ky := rows.zipIdx.map fun p => (keyT cs one p.1, p.2)
def sortedT (cs : List Nat) (rows : List (List Int)) (one : List Nat) : List Int := ((keysT cs rows one).mergeSort leK).map fun p => (p.2 : Int)
section
variable {cf : CF} {tab : Nat → Option FD} {n : Nat} {S : Store} {l : Nat} {Q : D → Stt → Store → Prop}
end
end PyI
namespace PyI
open PySem L2
section
variable {cf : CF} {tab : Nat → Option FD} {n : Nat} {S : Store} {l : Nat} {Q : D → Stt → Store → Prop}
end
end PyI
namespace PyI
open PySem L2

def rowOf (rows : List (List Int)) (p : Ky) : List Int := rows.getD p.2 []
/-- the sorted numbers from start to end -/
def partT (cs : List Nat) (rows : List (List Int)) (e : Eqs) (r : Rch) (one : List Nat) : List Ky := (((keysT cs rows one).mergeSort leK).take (endT cs (usedL e r one) e r rows)).drop (startT cs (usedL e r one) e r rows)
end PyI
namespace PyI
open PySem L2
section
variable {cf : CF} {tab : Nat → Option FD} {n : Nat} {S : Store} {l : Nat} {Q : D → Stt → Store → Prop}
end
end PyI
namespace PyI
open PySem L2
/-- the question's letters, all used -/
def srvB (e : Eqs) (r : Rch) (one : List Nat) : Bool := decide ((usedL e r one).length = e.length + (rl r).length)
/-- the stretch's numbers -/
def partN (cs : List Nat) (rows : List (List Int)) (e : Eqs) (r : Rch) (one : List Nat) : List Int := (partT cs rows e r one).map fun p => (p.2 : Int)
end PyI
namespace PyI
open PySem L2
def needQ (e : Eqs) (r : Rch) : Need := (e.map (·.1), rl r)
/-- a list that serves both is lists of letters, one in the other -/
theorem srv_steps {o : List Nat} {p : Need} (h : Srv o p) : ∀ a ∈ [p.1, p.1 ++ p.2], ∃ k, ∀ c, c ∈ a ↔ c ∈ o.take k := by
  intro a ha
  simp only [List.mem_cons, List.not_mem_nil, or_false] at ha
  rcases ha with rfl | rfl
  · exact ⟨_, fun c => h.fst.mem_iff.symm⟩
  · refine ⟨p.1.length + p.2.length, fun c => ?_⟩
    rw [List.take_add, h.snd, List.mem_append, List.mem_append, h.fst.mem_iff]
theorem srv_agree {o : List Nat} {p q : Need} (hp : Srv o p) (hq : Srv o q) : agreeB p q = true := by
  unfold agreeB
  rw [List.all_eq_true]
  intro a ha
  rw [List.all_eq_true]
  intro b hb
  obtain ⟨j, hj⟩ := srv_steps hp a ha
  obtain ⟨k, hk⟩ := srv_steps hq b hb
  rw [Bool.or_eq_true, within_iff, within_iff]
  by_cases h : j ≤ k
  · refine .inl fun c hcc => (hk c).mpr ?_
    have := (hj c).mp hcc
    exact (List.take_sublist_take_left h).subset this
  · refine .inr fun c hcc => (hj c).mpr ?_
    have := (hk c).mp hcc
    exact (List.take_sublist_take_left (by omega)).subset this
end PyI
namespace PyI
open PySem L2
theorem few_le {cs : List Nat} {ns : List Need} {L : List (List Nat)} {T : List Nat} (hF : Few cs ns L T) {cc : List (List Nat)} (hp : ∀ p ∈ ns, ∃ o ∈ cc, Srv o p) : L.length ≤ cc.length := by
  have key : ∀ ts : List Nat, ts.Nodup → (∀ t ∈ ts, t ∈ T) → ∃ os : List (List Nat), os.length = ts.length ∧ os.Nodup ∧ ∀ o ∈ os, o ∈ cc ∧ ∃ t ∈ ts, Srv o (ns.getD t ([], [])) := by
    intro ts
    induction ts with
    | nil => exact fun _ _ => ⟨[], rfl, .nil, by simp⟩
    | cons t ts ih =>
      intro hn ht
      have hn' := List.nodup_cons.mp hn
      obtain ⟨os, h1, h2, h3⟩ := ih hn'.2 fun u hu => ht u (by simp [hu])
      have htl := hF.lt t (ht t (by simp))
      obtain ⟨o, ho, hs⟩ := hp (ns.getD t ([], [])) (by rw [List.getD_eq_getElem?_getD, List.getElem?_eq_getElem htl]; exact List.getElem_mem htl)
      refine ⟨o :: os, by simp [h1], List.nodup_cons.mpr ⟨fun hin => ?_, h2⟩, fun o' ho' => ?_⟩
      · obtain ⟨_, u, hu, hsu⟩ := h3 o hin
        have := srv_agree hs hsu
        rw [hF.apt t (ht t (by simp)) u (ht u (by simp [hu])) (fun e => hn'.1 (by rw [e]; exact hu))] at this
        cases this
      · rcases List.mem_cons.mp ho' with rfl | h
        · exact ⟨ho, t, by simp, hs⟩
        · obtain ⟨a, u, hu, b⟩ := h3 o' h
          exact ⟨a, u, by simp [hu], b⟩
  obtain ⟨os, h1, h2, h3⟩ := key T (hF.ris.imp fun q => Nat.ne_of_lt q) fun t ht => ht
  rw [hF.len, ← h1]
  exact subLen h2 fun o ho => (h3 o ho).1
theorem few_pos {cs : List Nat} {ns : List Need} {L : List (List Nat)} {T : List Nat} (hF : Few cs ns L T) (h : ns ≠ []) : 1 ≤ L.length := by
  obtain ⟨p, hp⟩ := List.exists_mem_of_ne_nil _ h
  obtain ⟨o, ho, _⟩ := hF.srv p hp
  exact List.length_pos_of_mem ho
theorem few_max {cs : List Nat} {ns : List Need} {L : List (List Nat)} {T : List Nat} (hF : Few cs ns L T) : L.length ≤ ns.length := by
  have := subLen (hF.ris.imp fun q => Nat.ne_of_lt q) (b := List.range ns.length) fun x hx => List.mem_range.mpr (hF.lt x hx)
  rw [hF.len]
  simpa using this
/-- the same needs, put otherwise -/
theorem few_same {cs : List Nat} {ns ns' : List Need} {L L' : List (List Nat)} {T T' : List Nat} (hF : Few cs ns L T) (hF' : Few cs ns' L' T') (h : ∀ p, p ∈ ns' ↔ p ∈ ns) : L'.length = L.length :=
  Nat.le_antisymm (few_le hF' fun p hp => hF.srv p ((h p).mp hp)) (few_le hF fun p hp => hF'.srv p ((h p).mpr hp))
/-- one need more -/
theorem few_more {cs : List Nat} {ns ns' : List Need} {L L' : List (List Nat)} {T T' : List Nat} {q : Need} (hF : Few cs ns L T) (hF' : Few cs ns' L' T') (h : ∀ p ∈ ns, p ∈ ns') (h' : ∀ p ∈ ns', p ∈ ns ∨ p = q) (hq : q ∈ ns') : L.length ≤ L'.length ∧ L'.length ≤ L.length + 1 := by
  refine ⟨few_le hF fun p hp => hF'.srv p (h p hp), ?_⟩
  obtain ⟨o, ho, hs⟩ := hF'.srv q hq
  have := few_le hF' (cc := L ++ [o]) fun p hp => by
    rcases h' p hp with hp | rfl
    · obtain ⟨o', ho', hs'⟩ := hF.srv p hp
      exact ⟨o', by simp [ho'], hs'⟩
    · exact ⟨o, by simp, hs⟩
  simpa using this
def sgm (cs : List Nat) (c : Nat) : Nat := cs.reverse.getD (cs.idxOf c) 0
def renN (cs : List Nat) (p : Need) : Need := (sortN (p.1.map (sgm cs)), p.2.map (sgm cs))
theorem sgm_at {cs : List Nat} (hn : cs.Nodup) {i : Nat} (h : i < cs.length) : sgm cs cs[i] = cs[cs.length - 1 - i] := by
  have h1 : cs.idxOf cs[i] = i := hn.idxOf_getElem i h
  unfold sgm
  rw [h1, List.getD_eq_getElem?_getD, List.getElem?_eq_getElem (by simpa using h), Option.getD_some, List.getElem_reverse]
theorem sgm_mem {cs : List Nat} (hn : cs.Nodup) {c : Nat} (h : c ∈ cs) : sgm cs c ∈ cs := by
  obtain ⟨i, hi, rfl⟩ := List.mem_iff_getElem.mp h
  rw [sgm_at hn hi]
  exact List.getElem_mem _
theorem sgm_sgm {cs : List Nat} (hn : cs.Nodup) {c : Nat} (h : c ∈ cs) : sgm cs (sgm cs c) = c := by
  obtain ⟨i, hi, rfl⟩ := List.mem_iff_getElem.mp h
  rw [sgm_at hn hi, sgm_at hn (by omega)]
  have : cs.length - 1 - (cs.length - 1 - i) = i := by omega
  simp only [this]
theorem sgm_map {cs : List Nat} (hn : cs.Nodup) : cs.map (sgm cs) = cs.reverse := by
  refine List.ext_getElem (by simp) fun i h1 h2 => ?_
  have hi : i < cs.length := by simpa using h1
  rw [List.getElem_map, sgm_at hn hi, List.getElem_reverse]
theorem map_nd {cs a : List Nat} (hn : cs.Nodup) (ha : a.Nodup) (hs : ∀ c ∈ a, c ∈ cs) : (a.map (sgm cs)).Nodup := by
  rw [List.nodup_iff_pairwise_ne, List.pairwise_map]
  refine (List.pairwise_iff_forall_sublist.mpr fun {x y} h e => ?_)
  have h1 := h.subset
  have hx := hs x (h1 (by simp))
  have hy := hs y (h1 (by simp))
  have : x = y := by rw [← sgm_sgm hn hx, ← sgm_sgm hn hy, e]
  subst this
  have := List.nodup_iff_pairwise_ne.mp (ha.sublist h)
  simp at this
theorem ren_nd {cs : List Nat} (hc : cs.Pairwise (· < ·)) {p : Need} (hp : Nd cs p) : Nd cs (renN cs p) := by
  have hn : cs.Nodup := hc.imp fun q => Nat.ne_of_lt q
  have h1 : p.1.Nodup := (hp.lt hc).imp fun q => Nat.ne_of_lt q
  have hs : ∀ c ∈ p.1, c ∈ cs := fun c h => hp.ok.sub.subset h
  have hpm := sortN_perm (p.1.map (sgm cs))
  refine ⟨⟨sub_lt (sortN_lt _ (map_nd hn h1 hs)) hc fun c h => ?_, ?_⟩, ?_⟩
  · obtain ⟨d, hd, rfl⟩ := List.mem_map.mp (hpm.mem_iff.mp h)
    exact sgm_mem hn (hs d hd)
  · rcases hp.rin with e | ⟨d, e, hd, hd2⟩
    · exact .inl (by show p.2.map _ = []; rw [e]; rfl)
    · refine .inr ⟨sgm cs d, by show p.2.map _ = _; rw [e]; rfl, sgm_mem hn hd, fun h => ?_⟩
      obtain ⟨x, hx, e2⟩ := List.mem_map.mp (hpm.mem_iff.mp h)
      have : x = d := by rw [← sgm_sgm hn (hs x hx), ← sgm_sgm hn hd, e2]
      exact hd2 (this ▸ hx)
  · rcases hp.ne with q | q
    · refine .inl fun e => q (List.eq_nil_of_length_eq_zero ?_)
      have h2 := hpm.length_eq
      rw [List.length_map] at h2
      have h3 : (sortN (p.1.map (sgm cs))).length = 0 := by rw [show sortN (p.1.map (sgm cs)) = [] from e]; rfl
      omega
    · exact .inr fun e => q (List.map_eq_nil_iff.mp e)
theorem ren_srv {cs o : List Nat} {p : Need} (h : Srv o p) : Srv (o.map (sgm cs)) (renN cs p) := by
  have hpm := sortN_perm (p.1.map (sgm cs))
  have hl : (renN cs p).1.length = p.1.length := by rw [show (renN cs p).1 = sortN (p.1.map (sgm cs)) from rfl, hpm.length_eq, List.length_map]
  refine ⟨?_, ?_⟩
  · rw [hl, ← List.map_take]
    exact (h.fst.map _).trans hpm.symm
  · rw [hl, show (renN cs p).2 = p.2.map (sgm cs) from rfl, List.length_map, ← List.map_drop, ← List.map_take, h.snd]
theorem ren_ren {cs : List Nat} (hc : cs.Pairwise (· < ·)) {p : Need} (hp : Nd cs p) : renN cs (renN cs p) = p := by
  have hn : cs.Nodup := hc.imp fun q => Nat.ne_of_lt q
  have back : ∀ a : List Nat, (∀ c ∈ a, c ∈ cs) → (a.map (sgm cs)).map (sgm cs) = a := fun a ha => by
    rw [List.map_map]
    conv => rhs; rw [← List.map_id a]
    exact List.map_congr_left fun c h => sgm_sgm hn (ha c h)
  have h1 : ((sortN (p.1.map (sgm cs))).map (sgm cs)).Perm p.1 := by
    have := (sortN_perm (p.1.map (sgm cs))).map (sgm cs)
    rwa [back p.1 fun c h => hp.ok.sub.subset h] at this
  refine Prod.ext ?_ (back p.2 fun c h => nd_all hp c (by simp [h]))
  show sortN ((sortN (p.1.map (sgm cs))).map (sgm cs)) = p.1
  have hnd : p.1.Nodup := (hp.lt hc).imp fun q => Nat.ne_of_lt q
  rw [sortN_alike (h1.nodup_iff.mpr hnd) hnd fun x => h1.mem_iff, sortN_self (hp.lt hc)]
theorem few_ren {cs : List Nat} (hc : cs.Pairwise (· < ·)) {ns : List Need} (hps : ∀ p ∈ ns, Nd cs p) {L L' : List (List Nat)} {T T' : List Nat} (hF : Few cs ns L T) (hF' : Few cs (ns.map (renN cs)) L' T') : L'.length = L.length := by
  have h1 := few_le hF' (cc := L.map (List.map (sgm cs))) fun p hp => by
    obtain ⟨q, hq, rfl⟩ := List.mem_map.mp hp
    obtain ⟨o, ho, hs⟩ := hF.srv q hq
    exact ⟨_, List.mem_map.mpr ⟨o, ho, rfl⟩, ren_srv hs⟩
  have h2 := few_le hF (cc := L'.map (List.map (sgm cs))) fun p hp => by
    obtain ⟨o, ho, hs⟩ := hF'.srv (renN cs p) (List.mem_map.mpr ⟨p, hp, rfl⟩)
    refine ⟨_, List.mem_map.mpr ⟨o, ho, rfl⟩, ?_⟩
    have := ren_srv (cs := cs) hs
    rwa [ren_ren hc (hps p hp)] at this
  rw [List.length_map] at h1 h2
  omega
end PyI
namespace PyI
open PySem L2
section
variable {cf : CF} {tab : Nat → Option FD} {n : Nat} {S : Store} {l : Nat} {Q : D → Stt → Store → Prop} {cs : List Nat} {ns : List Need}
theorem relB_keep {S' : Store} (hR : RelB S l) (h : ∀ j, j < S.length → S'[j]? = S[j]?) : RelB S' l := by
  obtain ⟨c, a, b, h1, h2⟩ := hR
  exact ⟨c, a, b, by rw [h l (List.getElem?_eq_some_iff.mp h1).1]; exact h1, h2⟩
theorem l_many_ok {m : Nat} (hm : ns.length + 4 ≤ m) (t1 : tab i_is_ahead = some fd_is_ahead) (t2 : tab i_followers = some fd_followers) (t3 : tab i_try_place = some fd_try_place) (t4 : tab i_matched = some fd_matched) (t5 : tab i_come_to = some fd_come_to) (t6 : tab i_list_of = some fd_list_of) (t7 : tab i_chains = some fd_chains) (t8 : tab i_fewest = some fd_fewest) (h1 : tab i_l_many = some fd_l_many) (hc : Cols cs) (hl : cs.length ≤ 26) (hn : ∀ p ∈ ns, Nd cs p) (hnl : ns.length ≤ 1000)
    (hQ : ∀ (L : List (List Nat)) (T : List Nat) S', Few cs ns L T → (∀ j, j < S.length → S'[j]? = S[j]?) → S.length ≤ S'.length → Q (.int (L.length : Int)) .fr S') : CW (callN tab m) i_l_many [.str cs, encNs ns] S Q := by
  obtain ⟨k, rfl⟩ : ∃ k, m = k + 1 := ⟨m - 1, by omega⟩
  refine CW_def h1 rfl (by walk_at "start") ?_
  walk_at "pz"
  refine fewest_at (by omega) t1 t2 t3 t4 t5 t6 t7 t8 hc hl hn hnl fun L T S' hF hold hlen => ?_
  walk_at "pz"
  refine O_ixT (by decide) (d := .lst (L.map .str)) rfl ?_
  walk_at "pz"
  rw [List.length_map]
  exact hQ L T S' hF hold hlen
theorem fold_zip {f : Nat → Nat} : ∀ (a done : List Nat), (done ++ a).Nodup → ((a.zip (a.map f)).map fun p => (D.str [p.1], D.str [p.2])).foldl (fun acc p => putD p.1 p.2 acc.1 acc.2) (done.map fun c => D.str [c], done.map fun c => D.str [f c]) = ((done ++ a).map fun c => D.str [c], (done ++ a).map fun c => D.str [f c])
  | [], done, _ => by simp
  | c :: a, done, h => by
    have hc : ((done.map fun c => D.str [c]).any fun z => keq z (.str [c])) = false := List.any_eq_false.mpr fun z hz => by
      obtain ⟨d, hd, rfl⟩ := List.mem_map.mp hz
      have : d ≠ c := fun e => (List.nodup_append.mp h).2.2 d hd c (by simp) e
      simp [keq, this]
    have := fold_zip (f := f) a (done ++ [c]) (by simpa using h)
    have hput : putD (.str [c]) (.str [f c]) (done.map fun c => D.str [c]) (done.map fun c => D.str [f c]) = ((done ++ [c]).map fun c => D.str [c], (done ++ [c]).map fun c => D.str [f c]) := by
      unfold putD
      rw [hc]
      simp
    rw [List.map_cons, List.zip_cons_cons, List.map_cons, List.foldl_cons]
    simp only
    rw [hput, this, List.append_assoc]
    rfl
theorem dzip_ok {f : Nat → Nat} {a : List Nat} (h : a.Nodup) : dzipD a (a.map f) = (a.map fun c => D.str [c], a.map fun c => D.str [f c]) := fold_zip a [] (by simpa using h)
theorem find_named {f : Nat → Nat} {c : Nat} : ∀ {a : List Nat}, c ∈ a → findK (.str [c]) (a.map fun c => D.str [c]) (a.map fun c => D.str [f c]) = some (.str [f c])
  | d :: a, h => by
    simp only [List.map_cons, findK]
    by_cases e : d = c
    · subst e; simp [keq]
    · have : keq (.str [d]) (.str [c]) = false := by simp [keq, e]
      rw [this]
      simp only [Bool.false_eq_true, if_false]
      exact find_named ((List.mem_cons.mp h).resolve_left fun q => e q.symm)
theorem O_ixNamed {f : Nat → Nat} {c : Nat} {a : List Nat} (h : c ∈ a) {Q : D → Prop} (q : Q (.str [f c])) : OW (ixD (rd S (.dict (a.map fun c => D.str [c]) (a.map fun c => D.str [f c]))) (.str [c])) Q := by
  refine ⟨_, ?_, q⟩
  show (match keyD (.str [c]) with | some _ => findK (.str [c]) _ _ | none => none) = _
  simp only [keyD]
  exact find_named h
theorem l_renamed_ok (h1 : tab i_l_renamed = some fd_l_renamed) (hc : Cols cs) (hl : cs.length ≤ 26) (hps : ∀ p ∈ ns, Nd cs p) (hnl : ns.length ≤ 1000) (hQ : Q (encNs (ns.map (renN cs))) .fresh S) : CW (callN tab (n + 1)) i_l_renamed [.str cs, encNs ns] S Q := by
  have hnd : cs.Nodup := hc.lt.imp fun q => Nat.ne_of_lt q
  refine CW_def h1 rfl (by walk_at "start") ?_
  walk_at "pz"
  refine back_text' (s := cs) (by unfold szL; omega) ?_
  walk_at "pz"
  refine OW_of (d := .dict (cs.map fun c => D.str [c]) (cs.map fun c => D.str [sgm cs c])) ?_ ?_
  · show (if cs.length ≤ 1000 then some (D.dict (dzipD cs cs.reverse).1 (dzipD cs cs.reverse).2) else none) = _
    rw [if_pos (by omega), ← sgm_map hnd, dzip_ok hnd]
  walk_at "pz"
  refine XsW_cut (fun ρ' S' => S = S' ∧ ∃ x4 x5 x6 x7 : Slot, ρ' = [.val (.str cs), .val (encNs ns), .val (.dict (cs.map fun c => D.str [c]) (cs.map fun c => D.str [sgm cs c])), .own (.lst ((ns.map (renN cs)).map encN)), x4, x5, x6, x7]) ?_ ?_
  · refine XW_forI rfl (ns.map encN) S (fun P hP => by walk_at "pz"; exact ⟨rfl, _, rfl, hP⟩) (fun t ρ' S' => S = S' ∧ ∃ x4 x5 x6 x7 : Slot, ρ' = [.val (.str cs), .val (encNs ns), .val (.dict (cs.map fun c => D.str [c]) (cs.map fun c => D.str [sgm cs c])), .own (.lst (((ns.take t).map (renN cs)).map encN)), x4, x5, x6, x7]) ⟨rfl, _, _, _, _, rfl⟩ ?_ ?_
    · rintro t ht _ _ ⟨rfl, x4, x5, x6, x7, rfl⟩
      have ht' : t < ns.length := by simpa using ht
      have he : (ns.map encN)[t] = .tup [.str ns[t].1, .str ns[t].2] := by simp [encN]
      have htake : ns.take (t + 1) = ns.take t ++ [ns[t]] := by rw [List.take_add_one, List.getElem?_eq_getElem ht']; rfl
      rw [he, htake]
      have hpn := hps _ (List.getElem_mem ht')
      have htl : (ns.take t).length ≤ 1000 := by rw [List.length_take]; omega
      generalize ns.take t = ts at htl
      generalize ns[t] = p at hpn
      have hp1 := hpn.ok.sub.length_le
      have hp2 : p.2.length ≤ 1 := by
        rcases hpn.rin with e | ⟨c, e, _⟩ <;> simp [e]
      have h1s : ∀ c ∈ p.1, c ∈ cs := fun c h => hpn.ok.sub.subset h
      have h2s : ∀ c ∈ p.2, c ∈ cs := fun c h => nd_all hpn c (by simp [h])
      refine ⟨_, by walk_at "bind", ?_⟩
      walk_at "pz"
      refine EW_compM (fun c => .str [c]) p.1 S (fun P hP => by walk_at "pz"; exact ⟨rfl, _, rfl, hP⟩) (by unfold szL; omega) (fun c => some (.str [sgm cs c])) (fun c hcm => ?_) ?_
      · refine TW_nil (by walk_at "bind") ?_
        walk_at "pz"
        refine O_ixNamed (h1s c hcm) ?_
        walk_at "pz"
        exact ⟨rfl, rfl⟩
      rw [fm_all]
      rw [show (p.1.map fun c => D.str [sgm cs c]) = chars (p.1.map (sgm cs)) by simp [chars]]
      walk_at "pz"
      refine O_sortC (by rw [List.length_map]; omega) ?_
      walk_at "pz"
      refine O_joinC (by rw [(sortN_perm _).length_eq, List.length_map]; unfold szL; omega) ?_
      walk_at "pz"
      refine EW_compM (fun c => .str [c]) p.2 S (fun P hP => by walk_at "pz"; exact ⟨rfl, _, rfl, hP⟩) (by unfold szL; omega) (fun c => some (.str [sgm cs c])) (fun c hcm => ?_) ?_
      · refine TW_nil (by walk_at "bind") ?_
        walk_at "pz"
        refine O_ixNamed (h2s c hcm) ?_
        walk_at "pz"
        exact ⟨rfl, rfl⟩
      rw [fm_all]
      rw [show (p.2.map fun c => D.str [sgm cs c]) = chars (p.2.map (sgm cs)) by simp [chars]]
      walk_at "pz"
      refine O_joinC (by rw [List.length_map]; unfold szL; omega) ?_
      walk_at "pz"
      refine OL_get.2 ⟨_, rfl, by rw [List.length_map, List.length_map]; unfold szL; omega, ?_⟩
      walk_at "pz"
      rw [List.map_append, List.map_append]
      exact ⟨rfl, _, _, _, _, rfl⟩
    · rintro _ _ ⟨rfl, x4, x5, x6, x7, rfl⟩
      rw [List.length_map, List.take_of_length_le (Nat.le_refl _)]
      exact ⟨rfl, _, _, _, _, rfl⟩
  rintro _ _ ⟨rfl, x4, x5, x6, x7, rfl⟩
  walk_at "pz"
  exact hQ
end
end PyI
namespace PyI
open PySem L2
section
variable {cf : CF} {tab : Nat → Option FD} {n : Nat} {S : Store} {l : Nat} {Q : D → Stt → Store → Prop}
theorem pick48' {w : Int} (w0 : 0 ≤ w) (w1 : w < 2) {Q : D → Prop} (k : ∀ m : Int, 4 ≤ m → m ≤ 8 → Q (.int m)) : OW (ixD (rd S (.lst [.int 4, .int 8])) (.int w)) Q := by
  have hw : w = 0 ∨ w = 1 := by omega
  rcases hw with rfl | rfl
  · exact O_ixL (by decide) rfl (k 4 (by decide) (by decide))
  · exact O_ixL (by decide) rfl (k 8 (by decide) (by decide))
theorem add_Ns {ps qs : List Need} (h : ps.length + qs.length ≤ szL) {Q : D → Prop} (q : Q (encNs (ps ++ qs))) : OW (binD .add (rd S (.lst (ps.map encN))) (rd S (.lst (qs.map encN)))) Q := by
  refine ⟨_, ?_, q⟩
  show (if (ps.map encN).length + (qs.map encN).length ≤ szL then some (D.lst (ps.map encN ++ qs.map encN)) else none) = _
  rw [if_pos (by rw [List.length_map, List.length_map]; exact h), ← List.map_append]
  rfl
theorem drop_Ns {ps : List Need} {k : Nat} {Q : D → Prop} (q : Q (.lst ((ps.drop k).map encN))) : OW (slD (rd S (encNs ps)) (some (k : Int)) none) Q := by
  refine ⟨_, show some (D.lst (cutD (ps.map encN) (some (k : Int)) none)) = some (.lst ((ps.drop k).map encN)) by rw [cut_end, List.map_drop], q⟩
theorem take_Ns {ps : List Need} {k : Nat} {Q : D → Prop} (q : Q (.lst ((ps.take k).map encN))) : OW (slD (rd S (encNs ps)) none (some (k : Int))) Q := by
  refine ⟨_, show some (D.lst (cutD (ps.map encN) none (some (k : Int)))) = some (.lst ((ps.take k).map encN)) by rw [cut_take, List.map_take], q⟩
theorem O_neNs36 {ps qs : List Need} (hc : Cols cs) (hp : ∀ p ∈ ps, Nd cs p) (hq : ∀ p ∈ qs, Nd cs p) {Q : D → Prop} (k : Q (.bl (decide (encNs ps ≠ encNs qs)))) : OW (binD .ne (rd S (encNs ps)) (rd S (encNs qs))) Q := by
  have mk : ∀ {ps : List Need}, (∀ p ∈ ps, Nd cs p) → shp 60 (encNs ps) = true ∧ cln (encNs ps) = true := fun {ps} h => by
    have h1 : ∀ p ∈ ps, cpOk p.1 = true ∧ cpOk p.2 = true := fun p hp => by
      obtain ⟨a1, a2, _⟩ := nd_cp hc (h p hp)
      exact ⟨cp_az a1, cp_az a2⟩
    refine ⟨?_, ?_⟩
    · show shps 59 (ps.map encN) = true
      exact shps_map fun p hp => by simpa [encN, shp, shps] using h1 p hp
    · show clns (ps.map encN) = true
      exact clns_map fun p hp => by simpa [encN, cln, clns] using h1 p hp
  exact O_ne (mk hp).1 (mk hq).1 (mk hp).2 (mk hq).2 k
theorem ne_NsNil {cs : List Nat} {ps : List Need} (hc : Cols cs) (hp : ∀ p ∈ ps, Nd cs p) {Q : D → Prop} (k : Q (.bl (decide (ps ≠ [])))) : OW (binD .ne (rd S (.lst (ps.map encN))) (rd S (.lst []))) Q := by
  refine O_neNs36 (ps := ps) (qs := []) hc hp (by simp) ?_
  have : decide (encNs ps ≠ encNs []) = decide (ps ≠ []) := by
    rw [Bool.eq_iff_iff, decide_eq_true_iff, decide_eq_true_iff]
    simp [encNs]
  rw [this]; exact k
theorem k36_ok (t1 : tab i_is_ahead = some fd_is_ahead) (t2 : tab i_followers = some fd_followers) (t3 : tab i_try_place = some fd_try_place) (t4 : tab i_matched = some fd_matched) (t5 : tab i_come_to = some fd_come_to) (t6 : tab i_list_of = some fd_list_of) (t7 : tab i_chains = some fd_chains) (t8 : tab i_fewest = some fd_fewest)
    (q2 : tab i_serves_need = some fd_serves_need) (u1 : tab i_l_renamed = some fd_l_renamed)
    (v1 : tab i_l_lot = some fd_l_lot) (v2 : tab i_l_bag = some fd_l_bag) (v3 : tab i_l_columns_2 = some fd_l_columns_2) (v4 : tab i_l_need = some fd_l_need) (v5 : tab i_l_needs = some fd_l_needs) (v6 : tab i_k36 = some fd_k36) (v7 : tab i_l_many = some fd_l_many)
    {ns : List Int} (hns : ns.length ≤ 63) (hQ : ∀ S', Q (.bl true) .fr S') : CW (callN tab (n + 17)) i_k36 [.scr ns] S Q := by
  refine CW_def v6 rfl (by walk_at "start") ?_
  walk_at "pz"
  refine l_bag_ok v2 fun cells => ?_
  walk_at "pz"
  have hR : RelB (S ++ [.lst [.lst (cells.map .int), .int 0, .int 0]]) S.length := ⟨cells, 0, 0, by simp, by omega, by omega⟩
  generalize hl : S.length = l at hR
  generalize S ++ [.lst [.lst (cells.map .int), .int 0, .int 0]] = S0 at hR
  refine XsW_cut (fun ρ' S' => True) ?_ ?_
  · refine XW_forI rfl _ S0 (fun P hP => by walk_at "pz"; exact ⟨3, rfl, by omega, hP⟩) (fun i ρ S' => RelB S' l ∧ ∃ x2 x3 x4 x5 x6 x7 x8 x9 : Slot, ρ = [.val (.scr ns), .val (.ref l), x2, x3, x4, x5, x6, x7, x8, x9]) ⟨hR, _, _, _, _, _, _, _, _, rfl⟩ ?_ (fun _ _ _ => True.intro)
    rintro i hi _ S1 ⟨hR1, x2, x3, x4, x5, x6, x7, x8, x9, rfl⟩
    refine ⟨_, by rw [rng_get hi]; rfl, ?_⟩
    walk_at "pz"
    refine l_lot_ok v1 hR1 (by omega) (by omega) fun w S2 st2 w0 w1 => ?_
    walk_at "pz"
    refine pick48' w0 w1 fun m m0 m1 => ?_
    walk_at "pz"
    refine l_columns_2_ok (n := n + 14) v1 v3 st2.at_ (by omega) (by omega) fun cs S3 st3 hc hc1 hc2 => ?_
    walk_at "pz"
    have hcl : cs.length ≤ 26 := by omega
    refine l_needs_ok (n := n + 13) v1 v4 v5 hc hc1 hcl st3.at_ (by decide) (by decide) fun ps S4 st4 hps hpe hpl => ?_
    walk_at "pz"
    refine l_many_ok (by omega) t1 t2 t3 t4 t5 t6 t7 t8 v7 hc hcl hps (by omega) fun L T S5 hF h5 e5 => ?_
    have hR5 := relB_keep st4.at_ h5
    have hpos := few_pos hF hpe
    have hmax := few_max hF
    walk_at "pz"
    refine O_lenL (ds := ps.map encN) ?_
    walk_at "pz"
    have hpp := List.length_pos_iff.mpr hpe
    refine l_lot_ok v1 hR5 (by rw [List.length_map]; omega) (by rw [List.length_map]; omega) fun k S6 st6 k0 k1 => ?_
    rw [List.length_map] at k1
    obtain ⟨a, rfl⟩ : ∃ a : Nat, k = (a : Int) := ⟨k.toNat, by omega⟩
    have hR6 := st6.at_
    have sub : ∀ {qs : List Need}, (∀ p ∈ qs, p ∈ ps) → ∀ p ∈ qs, Nd cs p := fun {qs} h p hp => hps p (h p hp)
    walk_at "pz"
    walk_at "if"
    walk_at "pz"
    refine BW_dec.2 ⟨fun _ => ?_, fun h => absurd (by omega) h⟩
    walk_at "pz"
    refine O_lenL (ds := ps.map encN) ?_
    walk_at "pz"
    rw [decide_eq_true (show (L.length : Int) ≤ ((ps.map encN).length : Int) by rw [List.length_map]; omega)]
    refine BW_f.2 ?_
    walk_at "pz"
    refine OW_of (d := encNs ps.reverse) (by show some (D.lst (ps.map encN).reverse) = _; rw [← List.map_reverse]; rfl) ?_
    walk_at "pz"
    refine l_many_ok (by rw [List.length_reverse]; omega) t1 t2 t3 t4 t5 t6 t7 t8 v7 hc hcl (sub fun p h => List.mem_reverse.mp h) (by rw [List.length_reverse]; omega) fun L2 T2 S7 hF2 h7 e7 => ?_
    have hR7 := relB_keep hR6 h7
    rw [few_same hF hF2 fun p => List.mem_reverse]
    walk_at "pz"
    refine BW_dec.2 ⟨fun h => absurd rfl h, fun _ => ?_⟩
    walk_at "pz"
    walk_at "if"
    walk_at "pz"
    refine ⟨_, _, rfl, rfl, drop_Ns (k := a) ?_⟩
    walk_at "pz"
    refine ⟨_, _, rfl, rfl, take_Ns (k := a) ?_⟩
    walk_at "pz"
    refine add_Ns (ps := ps.drop a) (qs := ps.take a) (by rw [List.length_drop, List.length_take]; unfold szL; omega) ?_
    walk_at "pz"
    have hm3 : ∀ p, p ∈ ps.drop a ++ ps.take a ↔ p ∈ ps := fun p => by
      conv => rhs; rw [← List.take_append_drop a ps]
      rw [List.mem_append, List.mem_append]
      exact Or.comm
    have hl3 : (ps.drop a ++ ps.take a).length = ps.length := by rw [List.length_append, List.length_drop, List.length_take]; omega
    refine l_many_ok (by rw [hl3]; omega) t1 t2 t3 t4 t5 t6 t7 t8 v7 hc hcl (sub fun p h => (hm3 p).mp h) (by rw [hl3]; omega) fun L3 T3 S8 hF3 h8 e8 => ?_
    have hR8 := relB_keep hR7 h8
    rw [few_same hF hF3 hm3]
    walk_at "pz"
    refine BW_dec.2 ⟨fun h => absurd rfl h, fun _ => ?_⟩
    walk_at "pz"
    walk_at "if"
    walk_at "pz"
    refine l_renamed_ok (n := n + 15) u1 hc hcl hps (by omega) ?_
    walk_at "pz"
    refine l_many_ok (by rw [List.length_map]; omega) t1 t2 t3 t4 t5 t6 t7 t8 v7 hc hcl (fun p h => by obtain ⟨q, hq, rfl⟩ := List.mem_map.mp h; exact ren_nd hc.lt (hps q hq)) (by rw [List.length_map]; omega) fun L4 T4 S9 hF4 h9 e9 => ?_
    have hR9 := relB_keep hR8 h9
    rw [few_ren hc.lt hps hF hF4]
    walk_at "pz"
    refine BW_dec.2 ⟨fun h => absurd rfl h, fun _ => ?_⟩
    walk_at "pz"
    refine ⟨_, _, rfl, rfl, take_Ns (k := 6) ?_⟩
    walk_at "pz"
    walk_at "if"
    walk_at "pz"
    have hl5 : (ps.take 6).length ≤ 6 := by rw [List.length_take]; omega
    have hm5 : ∀ p ∈ ps.take 6, p ∈ ps := fun p h => List.mem_of_mem_take h
    refine add_Ns (ps := ps.take 6) (qs := ps.take 6) (by unfold szL; omega) ?_
    walk_at "pz"
    refine l_many_ok (by rw [List.length_append]; omega) t1 t2 t3 t4 t5 t6 t7 t8 v7 hc hcl (sub fun p h => hm5 p ((List.mem_append.mp h).elim id id)) (by rw [List.length_append]; omega) fun L5 T5 S10 hF5 h10 e10 => ?_
    have hR10 := relB_keep hR9 h10
    walk_at "pz"
    refine l_many_ok (ns := ps.take 6) (by omega) t1 t2 t3 t4 t5 t6 t7 t8 v7 hc hcl (sub hm5) (by omega) fun L6 T6 S11 hF6 h11 e11 => ?_
    have hR11 := relB_keep hR10 h11
    rw [few_same hF6 hF5 fun p => by rw [List.mem_append]; exact or_self_iff]
    walk_at "pz"
    refine BW_dec.2 ⟨fun h => absurd rfl h, fun _ => ?_⟩
    walk_at "pz"
    refine ⟨_, _, rfl, rfl, take_Ns (k := a) ?_⟩
    walk_at "pz"
    refine ⟨_, _, rfl, rfl, ?_⟩
    rw [show (a : Int) + 1 = ((a + 1 : Nat) : Int) by omega]
    refine drop_Ns (k := a + 1) ?_
    walk_at "pz"
    refine add_Ns (ps := ps.take a) (qs := ps.drop (a + 1)) (by rw [List.length_drop, List.length_take]; unfold szL; omega) ?_
    have ha : a < ps.length := by omega
    have hm7 : ∀ p ∈ ps.take a ++ ps.drop (a + 1), p ∈ ps := fun p h => by
      rcases List.mem_append.mp h with h | h
      · exact List.mem_of_mem_take h
      · exact List.mem_of_mem_drop h
    have hm7' : ∀ p ∈ ps, p ∈ ps.take a ++ ps.drop (a + 1) ∨ p = ps[a] := fun p h => by
      have e : ps = ps.take a ++ (ps[a] :: ps.drop (a + 1)) := by
        conv => lhs; rw [← List.take_append_drop a ps, List.drop_eq_getElem_cons ha]
      rw [e] at h
      rcases List.mem_append.mp h with h | h
      · exact .inl (by simp [h])
      · rcases List.mem_cons.mp h with h | h
        · exact .inr h
        · exact .inl (by simp [h])
    have hl7 : (ps.take a ++ ps.drop (a + 1)).length ≤ 10 := by rw [List.length_append, List.length_drop, List.length_take]; omega
    generalize ps.take a ++ ps.drop (a + 1) = qs at hm7 hm7' hl7
    refine ⟨by show Stt.fresh ≠ Stt.own; decide, ?_⟩
    walk_at "nm"
    refine XsW_cut (fun ρ' S' => RelB S' l ∧ ρ' = [.val (.scr ns), .val (.ref l), .val (.int (i : Int)), .val (.str cs), .val (encNs ps), .val (.int (L.length : Int)), .val (.int (a : Int)), .val (encNs qs), x8, x9]) ?_ ?_
    · refine XW_ifs.2 ?_
      walk_at "pz"
      refine ne_NsNil (ps := qs) hc (sub hm7) ?_
      refine BW_dec.2 ⟨fun hne => ?_, fun hne => ?_⟩
      · walk_at "pz"
        refine l_many_ok (ns := qs) (by omega) t1 t2 t3 t4 t5 t6 t7 t8 v7 hc hcl (sub hm7) (by omega) fun L7 T7 S12 hF7 h12 e12 => ?_
        have hR12 := relB_keep hR11 h12
        obtain ⟨b1, b2⟩ := few_more hF7 hF hm7 hm7' (List.getElem_mem ha)
        walk_at "pz"
        refine BW_dec.2 ⟨fun _ => ?_, fun h => absurd (by omega) h⟩
        walk_at "pz"
        rw [decide_eq_true (show (L7.length : Int) ≤ (L.length : Int) by omega)]
        refine BW_f.2 ?_
        walk_at "pz"
        exact ⟨hR12, rfl⟩
      · refine BW_f.2 ?_
        walk_at "pz"
        exact ⟨hR11, rfl⟩
    rintro _ S12 ⟨hR12, rfl⟩
    walk_at "pz"
    refine l_need_ok2 (n := n + 14) v1 v4 hc hc1 hcl hR12 fun sm rc S13 st13 hN hne => ?_
    have hR13 := st13.at_
    walk_at "pz"
    refine add_Ns (ps := ps) (qs := [(sm, rc)]) (by show ps.length + 1 ≤ szL; unfold szL; omega) ?_
    have hq : Nd cs (sm, rc) := ⟨hN, hne⟩
    have hm8 : ∀ p ∈ ps ++ [(sm, rc)], p ∈ ps ∨ p = (sm, rc) := fun p h => (List.mem_append.mp h).imp id fun h => List.mem_singleton.mp h
    have hn8 : ∀ p ∈ ps ++ [(sm, rc)], Nd cs p := fun p h => by
      rcases hm8 p h with h | rfl
      · exact hps p h
      · exact hq
    have hl8 : (ps ++ [(sm, rc)]).length ≤ 11 := by rw [List.length_append, List.length_singleton]; omega
    have hin8 : ∀ p ∈ ps, p ∈ ps ++ [(sm, rc)] := fun p h => by simp [h]
    have hmq : (sm, rc) ∈ ps ++ [(sm, rc)] := by simp
    generalize ps ++ [(sm, rc)] = qs8 at hm8 hn8 hl8 hin8 hmq
    walk_at "pz"
    walk_at "if"
    walk_at "pz"
    refine l_many_ok (ns := qs8) (by omega) t1 t2 t3 t4 t5 t6 t7 t8 v7 hc hcl hn8 (by omega) fun L8 T8 S14 hF8 h14 e14 => ?_
    have hR14 := relB_keep hR13 h14
    obtain ⟨b1, b2⟩ := few_more hF hF8 hin8 hm8 hmq
    walk_at "pz"
    refine BW_dec.2 ⟨fun _ => ?_, fun h => absurd (by omega) h⟩
    walk_at "pz"
    rw [decide_eq_true (show (L8.length : Int) ≤ (L.length : Int) + 1 by omega)]
    refine BW_f.2 ?_
    walk_at "pz"
    refine XsW_cut (fun ρ' S' => RelB S' l ∧ ∃ x7 x8 x9 : Slot, ρ' = [.val (.scr ns), .val (.ref l), .val (.int (i : Int)), .val (.str cs), .val (encNs ps), .val (.int (L.length : Int)), .val (.int (a : Int)), x7, x8, x9]) ?_ (fun ρ' S' h => by obtain ⟨hh, x7, x8, x9, rfl⟩ := h; walk_at "pz"; exact ⟨hh, _, _, _, _, _, _, _, _, rfl⟩)
    refine XW_for.2 ⟨rfl, ?_⟩
    walk_at "pz"
    refine fewest_at (by omega) t1 t2 t3 t4 t5 t6 t7 t8 hc hcl hps (by omega) fun L9 T9 S15 hF9 h15 e15 => ?_
    have hR15 := relB_keep hR14 h15
    walk_at "pz"
    refine O_ixT (by decide) (d := .lst (L9.map .str)) rfl ?_
    refine ⟨rfl, _, rfl, ?_⟩
    have hL9 := few_max hF9
    refine LW_inv (fun t ρ' S' => RelB S' l ∧ ∃ x7 x8 x9 : Slot, ρ' = [.val (.scr ns), .val (.ref l), .val (.int (i : Int)), .val (.str cs), .val (encNs ps), .val (.int (L.length : Int)), .val (.int (a : Int)), x7, x8, x9]) _ 0 _ _ ⟨hR15, _, _, _, rfl⟩ ?_ (fun _ _ h => h)
    rintro t ht _ S16 ⟨hR16, x7, x8, x9, rfl⟩
    have ht' : t < L9.length := by simpa using ht
    refine bodyW ⟨_, rfl, ?_⟩
    have hone := (hF9.one _ (List.getElem_mem ht')).1
    rw [List.getElem_map]
    generalize L9[t] = o at hone
    walk_at "pz"
    refine EW_compM encN ps S16 (fun P hP => by walk_at "pz"; exact ⟨rfl, _, rfl, hP⟩) (by unfold szL; omega) (fun p => if (decide (sortN (o.take p.1.length) = p.1) && decide ((o.drop p.1.length).take p.2.length = p.2)) = true then some (encN p) else none) (fun p hpm => ?_) ?_
    · refine TW_if (by walk_at "bind") ?_
      walk_at "pz"
      refine serves_need_ok (n := n + 15) q2 hc hcl hone (hps p hpm).ok ?_
      refine BW_bl.2 ?_
      split
      · walk_at "pz"
        exact ⟨rfl, rfl⟩
      · exact ⟨rfl, rfl⟩
    rw [fm_if (fun p : Need => decide (sortN (o.take p.1.length) = p.1) && decide ((o.drop p.1.length).take p.2.length = p.2)) encN]
    have hqm : ∀ p ∈ ps.filter (fun p : Need => decide (sortN (o.take p.1.length) = p.1) && decide ((o.drop p.1.length).take p.2.length = p.2)), p ∈ ps ∧ Srv o p := fun p h => by
      obtain ⟨h1, h2⟩ := List.mem_filter.mp h
      rw [Bool.and_eq_true, decide_eq_true_eq, decide_eq_true_eq] at h2
      refine ⟨h1, ?_, h2.2⟩
      have := sortN_perm (o.take p.1.length)
      rw [h2.1] at this
      exact this.symm
    have hql := List.length_filter_le (fun p : Need => decide (sortN (o.take p.1.length) = p.1) && decide ((o.drop p.1.length).take p.2.length = p.2)) ps
    generalize ps.filter (fun p : Need => decide (sortN (o.take p.1.length) = p.1) && decide ((o.drop p.1.length).take p.2.length = p.2)) = qs9 at hqm hql
    walk_at "pz"
    walk_at "if"
    walk_at "pz"
    refine ne_NsNil (ps := qs9) hc (sub fun p h => (hqm p h).1) ?_
    refine BW_dec.2 ⟨fun hne => ?_, fun hne => ?_⟩
    · walk_at "pz"
      refine l_many_ok (ns := qs9) (by omega) t1 t2 t3 t4 t5 t6 t7 t8 v7 hc hcl (sub fun p h => (hqm p h).1) (by omega) fun L10 T10 S17 hF10 h17 e17 => ?_
      have hR17 := relB_keep hR16 h17
      have c1 := few_pos hF10 hne
      have c2 := few_le hF10 (cc := [o]) fun p h => ⟨o, by simp, (hqm p h).2⟩
      rw [List.length_singleton] at c2
      walk_at "pz"
      refine BW_dec.2 ⟨fun h => absurd (by omega) h, fun _ => ?_⟩
      walk_at "pz"
      exact ⟨hR17, _, _, _, rfl⟩
    · refine BW_f.2 ?_
      walk_at "pz"
      exact ⟨hR16, _, _, _, rfl⟩
  · rintro ρ' S' -
    walk_at "pz"
    exact hQ S'
end
end PyI
namespace K36
open PySem L2 PyI
def top (i : Nat) : Stmt := PySem.Challenge.pw_stretchkeep_k36_whole_fewest_of_other_ne.main.body.getD i (.Pass ⟨0, 0, 0, 0⟩)
def topC (i k : Nat) : Stmt := match top i with | .ClassDef _ _ _ b _ _ _ _ _ _ _ => b.getD k (.Pass ⟨0, 0, 0, 0⟩) | s => s
abbrev e_serves_need : FE := ⟨i_serves_need, "serves_need", top 1, ["one", "need", "size"], ["one", "need"], fd_serves_need, none⟩
abbrev e_is_ahead : FE := ⟨i_is_ahead, "is_ahead", top 2, ["one", "other", "letter"], ["one", "other"], fd_is_ahead, none⟩
abbrev e_followers : FE := ⟨i_followers, "followers", top 3, ["needs", "found", "i", "one", "some", "j", "other"], ["needs"], fd_followers, none⟩
abbrev e_try_place : FE := ⟨i_try_place, "try_place", top 4, ["behind", "ahead_of", "i", "seen", "j"], ["behind", "ahead_of", "i", "seen"], fd_try_place, none⟩
abbrev e_matched : FE := ⟨i_matched, "matched", top 5, ["behind", "ahead_of", "i"], ["behind"], fd_matched, none⟩
abbrev e_list_of : FE := ⟨i_list_of, "list_of", top 6, ["chain", "found", "equals", "reach", "letter"], ["chain"], fd_list_of, none⟩
abbrev e_chains : FE := ⟨i_chains, "chains", top 7, ["needs", "ahead_of", "onward", "found", "i", "chain", "here", "j"], ["needs", "ahead_of"], fd_chains, none⟩
abbrev e_come_to : FE := ⟨i_come_to, "come_to", top 8, ["behind", "ahead_of", "placed", "waiting", "lefts", "rights", "i", "j"], ["behind", "ahead_of"], fd_come_to, none⟩
abbrev e_fewest : FE := ⟨i_fewest, "fewest", top 9, ["columns", "needs", "behind", "ahead_of", "lists", "lefts", "rights", "chain", "i"], ["columns", "needs"], fd_fewest, none⟩
abbrev e_l_bag : FE := ⟨i_l_bag, "_law_bag", top 11, ["script"], ["script"], fd_l_bag, none⟩
abbrev e_l_lot : FE := ⟨i_l_lot, "_law_lot", top 12, ["bag", "many", "found", "at", "cell", "one", "two", "three"], ["bag", "many"], fd_l_lot, none⟩
abbrev e_l_columns_2 : FE := ⟨i_l_columns_2, "_law_columns", top 13, ["bag", "most", "left", "found", "k"], ["bag", "most"], fd_l_columns_2, none⟩
abbrev e_l_need : FE := ⟨i_l_need, "_law_need", top 14, ["bag", "columns", "some", "others", "reach", "letter"], ["bag", "columns"], fd_l_need, none⟩
abbrev e_l_needs : FE := ⟨i_l_needs, "_law_needs", top 15, ["bag", "columns", "most", "found", "k", "way", "last", "others", "letter"], ["bag", "columns", "most"], fd_l_needs, none⟩
abbrev e_l_renamed : FE := ⟨i_l_renamed, "_law_renamed", top 16, ["columns", "needs", "named", "found", "equals", "reach", "others", "letter"], ["columns", "needs"], fd_l_renamed, none⟩
abbrev e_l_many : FE := ⟨i_l_many, "_law_many", top 17, ["columns", "needs"], ["columns", "needs"], fd_l_many, none⟩
abbrev e_k36 : FE := ⟨i_k36, "law", top 18, ["script", "bag", "turn", "columns", "needs", "many", "at", "some", "one", "need"], ["script"], fd_k36, none⟩
def tab : List FE := [e_serves_need, e_is_ahead, e_followers, e_try_place, e_matched, e_list_of, e_chains, e_come_to, e_fewest, e_l_bag, e_l_lot, e_l_columns_2, e_l_need, e_l_needs, e_l_renamed, e_l_many, e_k36]
def kn : Kn := ⟨["len", "list", "tuple", "sorted", "all", "dict", "range", "enumerate", "zip"], [], [], [], []⟩
theorem tb : tbOk tab kn = true := by decide +kernel
theorem ok_serves_need : feB tab kn e_serves_need = true := by decide +kernel
theorem ok_is_ahead : feB tab kn e_is_ahead = true := by decide +kernel
theorem ok_followers : feB tab kn e_followers = true := by decide +kernel
theorem ok_try_place : feB tab kn e_try_place = true := by decide +kernel
theorem ok_matched : feB tab kn e_matched = true := by decide +kernel
theorem ok_list_of : feB tab kn e_list_of = true := by decide +kernel
theorem ok_chains : feB tab kn e_chains = true := by decide +kernel
theorem ok_come_to : feB tab kn e_come_to = true := by decide +kernel
theorem ok_fewest : feB tab kn e_fewest = true := by decide +kernel
theorem ok_l_bag : feB tab kn e_l_bag = true := by decide +kernel
theorem ok_l_lot : feB tab kn e_l_lot = true := by decide +kernel
theorem ok_l_columns_2 : feB tab kn e_l_columns_2 = true := by decide +kernel
theorem ok_l_need : feB tab kn e_l_need = true := by decide +kernel
theorem ok_l_needs : feB tab kn e_l_needs = true := by decide +kernel
theorem ok_l_renamed : feB tab kn e_l_renamed = true := by decide +kernel
theorem ok_l_many : feB tab kn e_l_many = true := by decide +kernel
theorem ok_k36 : feB tab kn e_k36 = true := by decide +kernel
theorem bi_serves_need : ∀ (kV doc pm : Value) (an : Option Addr) (cdv ct : Value) (us : List Value), us.length = e_serves_need.ps.length → bindArgs (PySem.W.fnOf e_serves_need.x e_serves_need.qual (defArgs e_serves_need.st) (defBody e_serves_need.st) (defScope e_serves_need.st) .none kV doc pm an cdv ct) ⟨us, []⟩ = pure (e_serves_need.ps.zip us) := fun _ _ _ _ _ _ us hl => match us, hl with | [_, _], _ => rfl
theorem bi_is_ahead : ∀ (kV doc pm : Value) (an : Option Addr) (cdv ct : Value) (us : List Value), us.length = e_is_ahead.ps.length → bindArgs (PySem.W.fnOf e_is_ahead.x e_is_ahead.qual (defArgs e_is_ahead.st) (defBody e_is_ahead.st) (defScope e_is_ahead.st) .none kV doc pm an cdv ct) ⟨us, []⟩ = pure (e_is_ahead.ps.zip us) := fun _ _ _ _ _ _ us hl => match us, hl with | [_, _], _ => rfl
theorem bi_followers : ∀ (kV doc pm : Value) (an : Option Addr) (cdv ct : Value) (us : List Value), us.length = e_followers.ps.length → bindArgs (PySem.W.fnOf e_followers.x e_followers.qual (defArgs e_followers.st) (defBody e_followers.st) (defScope e_followers.st) .none kV doc pm an cdv ct) ⟨us, []⟩ = pure (e_followers.ps.zip us) := fun _ _ _ _ _ _ us hl => match us, hl with | [_], _ => rfl
theorem bi_try_place : ∀ (kV doc pm : Value) (an : Option Addr) (cdv ct : Value) (us : List Value), us.length = e_try_place.ps.length → bindArgs (PySem.W.fnOf e_try_place.x e_try_place.qual (defArgs e_try_place.st) (defBody e_try_place.st) (defScope e_try_place.st) .none kV doc pm an cdv ct) ⟨us, []⟩ = pure (e_try_place.ps.zip us) := fun _ _ _ _ _ _ us hl => match us, hl with | [_, _, _, _], _ => rfl
theorem bi_matched : ∀ (kV doc pm : Value) (an : Option Addr) (cdv ct : Value) (us : List Value), us.length = e_matched.ps.length → bindArgs (PySem.W.fnOf e_matched.x e_matched.qual (defArgs e_matched.st) (defBody e_matched.st) (defScope e_matched.st) .none kV doc pm an cdv ct) ⟨us, []⟩ = pure (e_matched.ps.zip us) := fun _ _ _ _ _ _ us hl => match us, hl with | [_], _ => rfl
theorem bi_list_of : ∀ (kV doc pm : Value) (an : Option Addr) (cdv ct : Value) (us : List Value), us.length = e_list_of.ps.length → bindArgs (PySem.W.fnOf e_list_of.x e_list_of.qual (defArgs e_list_of.st) (defBody e_list_of.st) (defScope e_list_of.st) .none kV doc pm an cdv ct) ⟨us, []⟩ = pure (e_list_of.ps.zip us) := fun _ _ _ _ _ _ us hl => match us, hl with | [_], _ => rfl
theorem bi_chains : ∀ (kV doc pm : Value) (an : Option Addr) (cdv ct : Value) (us : List Value), us.length = e_chains.ps.length → bindArgs (PySem.W.fnOf e_chains.x e_chains.qual (defArgs e_chains.st) (defBody e_chains.st) (defScope e_chains.st) .none kV doc pm an cdv ct) ⟨us, []⟩ = pure (e_chains.ps.zip us) := fun _ _ _ _ _ _ us hl => match us, hl with | [_, _], _ => rfl
theorem bi_come_to : ∀ (kV doc pm : Value) (an : Option Addr) (cdv ct : Value) (us : List Value), us.length = e_come_to.ps.length → bindArgs (PySem.W.fnOf e_come_to.x e_come_to.qual (defArgs e_come_to.st) (defBody e_come_to.st) (defScope e_come_to.st) .none kV doc pm an cdv ct) ⟨us, []⟩ = pure (e_come_to.ps.zip us) := fun _ _ _ _ _ _ us hl => match us, hl with | [_, _], _ => rfl
theorem bi_fewest : ∀ (kV doc pm : Value) (an : Option Addr) (cdv ct : Value) (us : List Value), us.length = e_fewest.ps.length → bindArgs (PySem.W.fnOf e_fewest.x e_fewest.qual (defArgs e_fewest.st) (defBody e_fewest.st) (defScope e_fewest.st) .none kV doc pm an cdv ct) ⟨us, []⟩ = pure (e_fewest.ps.zip us) := fun _ _ _ _ _ _ us hl => match us, hl with | [_, _], _ => rfl
theorem bi_l_bag : ∀ (kV doc pm : Value) (an : Option Addr) (cdv ct : Value) (us : List Value), us.length = e_l_bag.ps.length → bindArgs (PySem.W.fnOf e_l_bag.x e_l_bag.qual (defArgs e_l_bag.st) (defBody e_l_bag.st) (defScope e_l_bag.st) .none kV doc pm an cdv ct) ⟨us, []⟩ = pure (e_l_bag.ps.zip us) := fun _ _ _ _ _ _ us hl => match us, hl with | [_], _ => rfl
theorem bi_l_lot : ∀ (kV doc pm : Value) (an : Option Addr) (cdv ct : Value) (us : List Value), us.length = e_l_lot.ps.length → bindArgs (PySem.W.fnOf e_l_lot.x e_l_lot.qual (defArgs e_l_lot.st) (defBody e_l_lot.st) (defScope e_l_lot.st) .none kV doc pm an cdv ct) ⟨us, []⟩ = pure (e_l_lot.ps.zip us) := fun _ _ _ _ _ _ us hl => match us, hl with | [_, _], _ => rfl
theorem bi_l_columns_2 : ∀ (kV doc pm : Value) (an : Option Addr) (cdv ct : Value) (us : List Value), us.length = e_l_columns_2.ps.length → bindArgs (PySem.W.fnOf e_l_columns_2.x e_l_columns_2.qual (defArgs e_l_columns_2.st) (defBody e_l_columns_2.st) (defScope e_l_columns_2.st) .none kV doc pm an cdv ct) ⟨us, []⟩ = pure (e_l_columns_2.ps.zip us) := fun _ _ _ _ _ _ us hl => match us, hl with | [_, _], _ => rfl
theorem bi_l_need : ∀ (kV doc pm : Value) (an : Option Addr) (cdv ct : Value) (us : List Value), us.length = e_l_need.ps.length → bindArgs (PySem.W.fnOf e_l_need.x e_l_need.qual (defArgs e_l_need.st) (defBody e_l_need.st) (defScope e_l_need.st) .none kV doc pm an cdv ct) ⟨us, []⟩ = pure (e_l_need.ps.zip us) := fun _ _ _ _ _ _ us hl => match us, hl with | [_, _], _ => rfl
theorem bi_l_needs : ∀ (kV doc pm : Value) (an : Option Addr) (cdv ct : Value) (us : List Value), us.length = e_l_needs.ps.length → bindArgs (PySem.W.fnOf e_l_needs.x e_l_needs.qual (defArgs e_l_needs.st) (defBody e_l_needs.st) (defScope e_l_needs.st) .none kV doc pm an cdv ct) ⟨us, []⟩ = pure (e_l_needs.ps.zip us) := fun _ _ _ _ _ _ us hl => match us, hl with | [_, _, _], _ => rfl
theorem bi_l_renamed : ∀ (kV doc pm : Value) (an : Option Addr) (cdv ct : Value) (us : List Value), us.length = e_l_renamed.ps.length → bindArgs (PySem.W.fnOf e_l_renamed.x e_l_renamed.qual (defArgs e_l_renamed.st) (defBody e_l_renamed.st) (defScope e_l_renamed.st) .none kV doc pm an cdv ct) ⟨us, []⟩ = pure (e_l_renamed.ps.zip us) := fun _ _ _ _ _ _ us hl => match us, hl with | [_, _], _ => rfl
theorem bi_l_many : ∀ (kV doc pm : Value) (an : Option Addr) (cdv ct : Value) (us : List Value), us.length = e_l_many.ps.length → bindArgs (PySem.W.fnOf e_l_many.x e_l_many.qual (defArgs e_l_many.st) (defBody e_l_many.st) (defScope e_l_many.st) .none kV doc pm an cdv ct) ⟨us, []⟩ = pure (e_l_many.ps.zip us) := fun _ _ _ _ _ _ us hl => match us, hl with | [_, _], _ => rfl
theorem bi_k36 : ∀ (kV doc pm : Value) (an : Option Addr) (cdv ct : Value) (us : List Value), us.length = e_k36.ps.length → bindArgs (PySem.W.fnOf e_k36.x e_k36.qual (defArgs e_k36.st) (defBody e_k36.st) (defScope e_k36.st) .none kV doc pm an cdv ct) ⟨us, []⟩ = pure (e_k36.ps.zip us) := fun _ _ _ _ _ _ us hl => match us, hl with | [_], _ => rfl
theorem tab_all {P : FE → Prop} (h : P e_serves_need ∧ P e_is_ahead ∧ P e_followers ∧ P e_try_place ∧ P e_matched ∧ P e_list_of ∧ P e_chains ∧ P e_come_to ∧ P e_fewest ∧ P e_l_bag ∧ P e_l_lot ∧ P e_l_columns_2 ∧ P e_l_need ∧ P e_l_needs ∧ P e_l_renamed ∧ P e_l_many ∧ P e_k36) : ∀ (f : Nat) e, atF tab f = some e → P e := fun f e he => by
  have hm : e ∈ tab := List.mem_of_find?_eq_some he
  simp only [tab, List.mem_cons, List.not_mem_nil, or_false] at hm
  obtain ⟨h0, h1, h2, h3, h4, h5, h6, h7, h8, h9, h10, h11, h12, h13, h14, h15, h16⟩ := h
  rcases hm with rfl | rfl | rfl | rfl | rfl | rfl | rfl | rfl | rfl | rfl | rfl | rfl | rfl | rfl | rfl | rfl | rfl
  · exact h0
  · exact h1
  · exact h2
  · exact h3
  · exact h4
  · exact h5
  · exact h6
  · exact h7
  · exact h8
  · exact h9
  · exact h10
  · exact h11
  · exact h12
  · exact h13
  · exact h14
  · exact h15
  · exact h16
theorem plain (ns : List Int) (hl : ns.length ≤ 63) (hb : ∀ z ∈ ns, Builtin.Int.intBits z ≤ 1048576) : ∃ st S', callN (tabF tab) 17 i_k36 [.scr ns] [] = some (.bl true, st, S') := by
  obtain ⟨d, s, S', e, rfl⟩ := k36_ok (tab := tabF tab) (n := 0) (S := []) (Q := fun d _ _ => d = .bl true) rfl rfl rfl rfl rfl rfl rfl rfl rfl rfl rfl rfl rfl rfl rfl rfl rfl hl (fun _ => rfl)
  exact ⟨s, S', e⟩
abbrev R : PySem.W.OpenRow := PySem.W.OpenLaw.row PySem.Challenge.rw_stretchkeep_k36_whole_fewest_of_other_ne
abbrev fas : List He.Fa := facts tab kn
abbrev fns : List He.DefD := tab.map FE.d
abbrev hk : PySem.W.Hook := He.hookD 4 fas fns
def ob (s : PySem.W.SharedT) : He.AlD := He.obsDG 4 fas fns (HandSHeadRun.getT s)
theorem ob_eq (s : PySem.W.SharedT) : ob s = hk.obs s.abs := He.obsDG_eq (HandSHeadRun.getT_eq s)
def loose : List Str := ["serves_need", "is_ahead", "followers", "try_place", "matched", "list_of", "chains", "come_to", "fewest", "_law_bag", "_law_lot", "_law_columns", "_law_need", "_law_needs", "_law_renamed", "_law_many"]
theorem run (w : World) : HandSHeadRun.RunEq R (PySem.W.view R.prog [18]) hk ob 2000 loose w := by
  intro os
  kernel_rfl
end K36
open PySem PySem.W PySem.Calls PyProof.Rows
theorem PySem.Challenge.cw_stretchkeep_k36_whole_fewest_of_other_ne_holds : PySem.Challenge.rw_stretchkeep_k36_whole_fewest_of_other_ne.Holds := by
  w_on; o_law
  refine HandSHeadRun.head_any (r := OpenLaw.row PySem.Challenge.rw_stretchkeep_k36_whole_fewest_of_other_ne) (q := view (OpenLaw.row PySem.Challenge.rw_stretchkeep_k36_whole_fewest_of_other_ne).prog [18]) (H := K36.hk) (ob := K36.ob) (M := 2000) (loose := K36.loose) (d := HandSHeadRun.topDef (OpenLaw.row PySem.Challenge.rw_stretchkeep_k36_whole_fewest_of_other_ne).prog 18) (kwd := []) K36.ob_eq
    (by kernel_rfl) (fun s => by kernel_rfl) K36.run (by kernel_rfl) (by kernel_rfl) (by kernel_rfl) (by rfl) (by first | assumption | decide +kernel) (by decide +kernel) ⟨rfl, rfl, rfl, rfl, rfl, by decide +kernel⟩ ?hw ?hc
  case hw => w_witness2
  case hc =>
    refine PyI.walk_ofEB (l := PySem.Challenge.rw_stretchkeep_k36_whole_fewest_of_other_ne) (n := 63) (k := 2 * 17) (x := "script") (C0 := L2.CX0) rfl (by decide) (by kernel_rfl) ⟨rfl, by decide, by decide⟩ ?F (fun _ _ _ _ z => z)
    intro w mg fa h Y G hmg0
    obtain ⟨K, KX, c⟩ := Y
    have hmg : mg ("law" : PySem.Str) = some (.ref fa) := by
      have e : (HandSHeadRun.topDef (OpenLaw.row PySem.Challenge.rw_stretchkeep_k36_whole_fewest_of_other_ne).prog 18).name = ("law" : PySem.Str) := by kernel_rfl
      rw [← e]
      exact hmg0
    exact PyI.law_at (e := K36.e_k36) (f := PyI.i_k36) (n := 17) KX G c hmg (K36.tab_all ⟨K36.bi_serves_need, K36.bi_is_ahead, K36.bi_followers, K36.bi_try_place, K36.bi_matched, K36.bi_list_of, K36.bi_chains, K36.bi_come_to, K36.bi_fewest, K36.bi_l_bag, K36.bi_l_lot, K36.bi_l_columns_2, K36.bi_l_need, K36.bi_l_needs, K36.bi_l_renamed, K36.bi_l_many, K36.bi_k36⟩) (K36.tab_all ⟨K36.ok_serves_need, K36.ok_is_ahead, K36.ok_followers, K36.ok_try_place, K36.ok_matched, K36.ok_list_of, K36.ok_chains, K36.ok_come_to, K36.ok_fewest, K36.ok_l_bag, K36.ok_l_lot, K36.ok_l_columns_2, K36.ok_l_need, K36.ok_l_needs, K36.ok_l_renamed, K36.ok_l_many, K36.ok_k36⟩) K36.tb rfl rfl rfl rfl fun ns hl hb => K36.plain ns hl hb
